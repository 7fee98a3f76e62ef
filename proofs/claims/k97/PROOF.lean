import PyProof.Rows.All
import Wide.All
import OpenK.AllK
import Wide.FinOn
import HandS.ForMost
import HandS.ForExc
import HandS.ExcInit
import HandS.ExcField
import HandS.Small
import HandS.TryMany
import HandS.Defaults
import HandS.Star
import KE.KExcInit
import HandS.Property
import HandS.Deep
import HandS.Style
import HandS.TupAny
import HandS.Wide
import HandS.More
import HandS.IsInst
import HandS.DictComp
import HandS.ListItems
import HandS.Conv
import HandS.SortInts
import HandS.HeadHook1
import HandS.HeadHook2
import PySem.Challenge.RW_shelfwithin_k97_whole_sessions_of_stores
import KE.KStateDown
import HandS.Head0
import HandS.Head1
import HandS.Head2
import HandS.HeadHook4
import PyProof.EnumMake
import PyProof.Draws
import KE.GoesMore
import PyProof.TupleIter
import HandS.Walk
import HandS.Evl
import PyProof.InstNe
import PyProof.ReprRoads
import OpenK.KOps
import KE.KOpsOwn
import KE.KWithOwn
import HandS.Steps
import KE.KDictPairs
import HandS.Lambda
import KE.SortKeyHeap
import HandS.SortKw
import HandS.EndTab
import HandS.EndBits
set_option Elab.async false
set_option linter.all false
set_option maxRecDepth 100000
set_option maxHeartbeats 4000000
/-! Own exceptions that store one field, over any built-in base; an own exception made without arguments. -/
namespace SW
open PySem PySem.Spec PyProof.Rows L2
/-- what is written of such a class -/
structure XCls (K : PySem.W.Frag) (C : Addr) (newId : String) (tl : List Value) : Prop where
  ini : PySem.W.excInitIn K C tl newId = true
  ovr : PySem.W.excOver K C tl = true
  dic : PySem.W.hasDictIn K C = true
  sat : PySem.W.findIn K (.ref C) "__setattr__" = some (some (.builtin "object.__setattr__"))
  bas : PySem.W.subIn K (.ref C) (.type "BaseException") = some true
  typ : PySem.W.typeIn K (.ref C) = some (.type "type")
  kep : PySem.W.keepIn K (.ref C) = true
section
open PySem.W
variable {prog : Program} {w : World} {A : Around} {R : Result → Shared → Prop} {hp : Heap} {g : Array GenState} {dr : Drawn} {tt : Nat} {os : OsState} {B : String} {tl : List Value}
open Builtin Builtin.ObjectAttr in
theorem xosa {K : Frag} {C x : Addr} {nm : Str} {tk : Tok} {v : Value} {fv : Array Value} (SF : StoreFacts B tl "object.__setattr__" "object") (KI : K.In hp) (hx : hp.get? x = some { cls := .ref C, data := .fields fv })
    (ov : excOver K C tl = true) (hd : hasDictIn K C = true) (no : findIn K (.ref C) nm = some none)
    (fin : ∀ h' k' dx, (∀ b o, b ≠ x → hp.get? b = some o → h'.get? b = some o) → hp.objs.size ≤ dx → dx ≠ x → h'.get? x = some { cls := .ref C, dict := some dx, data := .fields fv } →
      h'.Ns1 dx (fun y => if y = nm then some v else none) → R (.ok (.ret .none)) ⟨h', g, dr, k', os⟩) :
    codeAny (model prog w) A (.call (.builtin "object.__setattr__") ⟨[.ref x, .str nm tk, v], []⟩) R ⟨hp, g, dr, tt, os⟩ := by
  have IA : InstAt hp x { cls := .ref C, data := .fields fv } C none := ⟨hx, rfl, rfl, trivial⟩
  have hsz : x ≠ hp.objs.size := Nat.ne_of_lt (Heap.lt_size hx)
  have tk0 : takerIn K C nm = some none := by
    unfold takerIn
    rw [no]
    rfl
  refine osa_openX SF KI IA ov tk0 fun b => ?_
  obtain ⟨cd, hc, hdc⟩ := any_some hd
  have Lc : Looks (model prog w) hp (classData C) cd := looks_clsIn KI hc
  show wpAny _ _ (storeInOwnDict (.ref x) (.ref C) (.str nm tk) nm v b) _ _ _
  obtain ⟨nm', bs, mro, ns, qn, hd', sn, sb, ab, col, dl⟩ := cd
  dsimp only at hdc
  subst hdc
  unfold storeInOwnDict ownDictForStores
  repeat (first | with_reducible refine HandSPX.store_in_new ?_ ?_ | with_reducible refine wpAny_loadPart_at hx ?_ | with_reducible refine Lc.at ?_ | wp_step)
  · exact ⟨_, #[], _, (Heap.get?_update_ne _ _ _ _ hsz.symm).trans (Heap.get?_push_at rfl rfl), rfl, (fun _ z => absurd z (by simp)), fun _ => rfl⟩
  · intro h' k' nn sb'
    have hx2 : (hp.push { cls := .type "dict", data := .dict #[] }).get? x = some { cls := .ref C, data := .fields fv } := Heap.get?_push_of_some _ hx
    refine fin h' k' hp.objs.size (fun b o hb ho => ?_) (Nat.le_refl _) hsz.symm ?_ nn
    · have e1 := sb'.2 b (Nat.ne_of_lt (Heap.lt_size ho))
      exact e1.trans ((Heap.get?_update_ne _ _ _ _ hb).trans (Heap.get?_push_of_some _ ho))
    · exact (sb'.2 x hsz).trans (Heap.get?_update_self _ hx2 rfl)
end
section
variable {X : Cx} {C fI : Addr} {newId : String} {tl : List Value} {B : String}
/-- the first store into a fresh exception -/
theorem xstore {pins : List (Addr × Obj)} {σ : L2.St} {H : Hp} {s : Shared} {a : Addr} {f : Str} {y : V} {u : Value} {A : Around} {Q : Unit → Shared → Prop} {E : Value → Shared → Prop} (SF : StoreFacts B tl "object.__setattr__" "object")
    (T : XCls X.K C newId tl) (I : Inv X pins σ H s) (e : H a = some (exo a C none)) (no : PySem.W.findIn X.K (.ref C) f = some none) (ry : RelV y u)
    (k : ∀ dx s', H dx = none → dx ≠ a → Inv X pins σ (upd (upd H dx (exd dx [(f, y)])) a (exo a C (some dx))) s' → Q () s') : wpAny (model X.prog X.w) A (setAttr (.ref a) f u) Q E s := by
  obtain ⟨t1, ho⟩ := exo_at I.hok e
  obtain ⟨hp, gg, dr, tt, oo⟩ := s
  refine PySem.W.set_plain I.kIn (ox := { cls := .ref C, dict := none, data := .fields #[.ref t1, .none, .none, .none, .bool false, .none] }) (od := none) ⟨ho, rfl, rfl, trivial⟩ T.sat ?_
  refine xosa SF I.kIn ho T.ovr T.dic no fun h' k' dx kp big dne hx hn => ?_
  have fr : H dx = none := I.hok.fresh big
  have nd : ∀ {b : Addr} {o : Obj}, hp.get? b = some o → b ≠ dx := fun q => Nat.ne_of_lt (Nat.lt_of_lt_of_le (Heap.lt_size q) big)
  have na : ∀ {b : Addr}, H b = none → b ≠ a := fun n z => by
    rw [z, e] at n
    cases n
  have two : ∀ {b : Addr} {o : HO}, H b = some o → b ≠ a → (upd (upd H dx (exd dx [(f, y)])) a (exo a C (some dx))) b = some o := fun q nb => by
    rw [upd_ne nb, upd_ne (ne_of_none q fr), q]
  have U : Un X.fs [] H (upd (upd H dx (exd dx [(f, y)])) a (exo a C (some dx))) hp h' := {
    keep := fun b o q n _ _ => kp b o (na n) q
    slot := fun b o q n _ _ => ⟨o.slots, kp b o (na n) q⟩
    free := fun b o q n _ => by rw [upd_ne (na n), upd_ne (nd q), n]
    there := fun b o q _ => by
      by_cases hb : b = a
      · exact ⟨_, hb ▸ hx⟩
      · exact ⟨o, kp b o hb q⟩
    tups := fun b xs q => two q (at_ne e q exo_tup)
    frzs := fun b o v q => two q (at_ne e q exo_frz)
    tbls := fun b ps q => ⟨#[], by rw [two q (at_ne e q exo_tbl)]; simp⟩ }
  refine k dx _ fr dne (I.un (t' := k') U fun b o q => ?_)
  by_cases hb : b = a
  · subst hb
    rw [upd_same] at q
    cases q
    exact exo_ok hx
  · rw [upd_ne hb] at q
    by_cases hd : b = dx
    · subst hd
      rw [upd_same] at q
      cases q
      exact exd_ok hn (relO_put (fs := []) ry fun _ => True.intro)
    · rw [upd_ne hd] at q
      refine (I.hok b o q).stay (fun c v hc z => kp c v ?_ z) (fun c hc => two hc (at_ne e hc exo_own)) fun c xs hc => two hc (at_ne e hc exo_tup)
      rcases hc with hc | hc
      · exact fun z => hb (hc ▸ z)
      · exact at_ne e hc exo_own
/-- self.f = e on it -/
def tXst (C : Addr) (f : Str) (ao ae : TE) : TS := fun D σ H => ae σ H fun y H1 => ao σ H1 fun x H2 => ∃ a : Addr, x = .ref a ∧ H2 a = some (exo a C none) ∧ ∀ dx, H2 dx = none → dx ≠ a → D.nx σ (upd (upd H2 dx (exd dx [(f, y)])) a (exo a C (some dx)))
theorem ps_xst {o e : Expr} {ao ae : TE} {f : Str} {p1 p2 : Pos} (SF : StoreFacts B tl "object.__setattr__" "object") (T : XCls X.K C newId tl) (no : PySem.W.findIn X.K (.ref C) f = some none) (h1 : PE X o ao) (h2 : PE X e ae)
    (hs : swapsWith e (some (.Attribute o f p1)) p2.line X.env = pure false := by rfl) : PS X (.Assign [.Attribute o f p1] e p2) (tXst C f ao ae) := by
  constructor
  intro pins s σ H D I h
  refine plainObj_wpAny_Assign_Attribute (thn (h2.run pins s σ H _ I h) fun v s1 r1 => ?_) hs
  obtain ⟨y, H1, I1, ry, q1⟩ := r1
  refine thn (h1.run pins s1 σ H1 _ I1 q1) fun u s2 r2 => ?_
  obtain ⟨x, H2, I2, rx, a, ex, ea, q⟩ := r2
  subst ex
  cases (show u = Value.ref a from rx)
  exact xstore SF T I2 ea no ry fun dx s' n ne J => ⟨σ, _, J, q dx n ne⟩
/-- what its __init__ promises: the field stored -/
def spXI (C : Addr) (f : Str) : Sp := fun vs H Q _ => ∃ (a : Addr) (v : V), vs = [.ref a, v] ∧ H a = some (exo a C none) ∧ ∀ dx, H dx = none → dx ≠ a → Q .non (upd (upd H dx (exd dx [(f, v)])) a (exo a C (some dx)))
theorem ok_xinit {P : Program} {w : World} {K : PySem.W.Frag} {mg : Str → Option Value} {base : Heap} {f g qual : Str} {params : Arguments} {body : List Stmt} {scope : Scope} {fd : FuncData} {p1 p2 p3 p4 : Pos} (SF : StoreFacts B tl "object.__setattr__" "object")
    (T : XCls K C newId tl) (no : PySem.W.findIn K (.ref C) f = some none) (F : FunD K "__init__" qual params body scope [] [] fI fd) (S : FnScope ["self", g] ["self", g] scope) (l0 : scope.names.lookup ("self" : Str) = some .local) (l1 : scope.names.lookup g = some .local)
    (dg : (g == ("__debug__" : Str)) = false) (dc : (g == ("__classdict__" : Str)) = false) (hb : body = [.Assign [.Attribute (.Name "self" p1) f p2] (.Name g p3) p4]) : FnOk P w K mg base CX0 1 fI fd ["self", g] (spXI C f) := by
  refine F.ok S (fun vs H Q E h => ?_) (fun cdv A outer s H vs Q E hr h => ?_)
  · obtain ⟨a, v, rfl, _⟩ := h
    rfl
  · obtain ⟨a, v, rfl, ha, k⟩ := h
    subst hb
    refine ⟨_, pss_one (ps_xst SF T no (pe_var (i := 0) rfl (.inl l0)) (pe_var (i := 1) rfl (.inl l1) dg dc)), ?_⟩
    exact ⟨v, rfl, .ref a, rfl, a, rfl, ha, k⟩
/-- X(e), X such a class: its own dict is new and holds the field -/
def tMkX (C : Addr) (f : Str) (ae : TE) : L2.St → Hp → XK → Prop := fun σ H Q => ae σ H fun v H1 => ∀ d H2, H1 d = none → Same H1 H2 → H2 d = some (.xd [(f, v)]) → Q (.ref C) (some d) H2
theorem pmk_x {x g f : Str} {iid : String} {k : Nat} {fd : FuncData} {e : Expr} {ae : TE} {p pos : Pos} (FB : ExcBaseFacts B newId iid tl) (T : XCls X.K C newId tl) (iC : PySem.W.findIn X.K (.ref C) "__init__" = some (some (.ref fI)))
    (tI : PySem.W.typeIn X.K (.ref fI) = some (.type "function")) (F1 : FnOk X.prog X.w X.K X.mg X.base CX0 k fI fd ["self", g] (spXI C f)) (hb : Binds X.K fd ["self", g] []) (hr : Room (k + 1) X.A) (hg : Gl X x) (hm : X.mg x = some (.ref C)) (ha : PE X e ae)
    (hdb : (x == ("__debug__" : Str)) = false := by decide) (hs : starEach [e] X.env = (false, eval e X.env) :: starEach [] X.env := by rfl) (hpl : (backTo pos (starEach [] X.env)).any (·.1) = false := by rfl) :
    PMk X (.Call (.Name x p) [e] [] pos) (tMkX C f ae) := by
  intro pins s σ H Q I h
  refine wpAny_Call_Name_kw (ld_glob I hg hm ?_ hdb)
  have pa : PA X [e] (tCons ae tNil) := pa_cons ha pa_nil hs
  refine PySem.W.callWith_K (h₀ := X.base) I.ok.mod.kin T.kep (thn (pa.run pos pins s σ H (fun vs H1 => match vs with
    | [v] => ∀ d H2, H1 d = none → Same H1 H2 → H2 d = some (.xd [(f, v)]) → Q (.ref C) (some d) H2
    | _ => False) I h) fun us s1 r1 => ?_) hs hpl
  obtain ⟨vs, H1, I1, rv, q1⟩ := r1
  refine ⟨I1.kIn, ?_⟩
  match vs, rv, q1 with
  | [v], rv, q1 =>
    have q1 : ∀ d H2, H1 d = none → Same H1 H2 → H2 d = some (.xd [(f, v)]) → Q (.ref C) (some d) H2 := q1
    show wpAny _ _ (call (.ref C) us) _ _ _
    obtain ⟨nm, N, qn, bs, bm, hdct, sn, sub, ab, col, dd, k0, k1, k2, k3, k5, hC, hT⟩ := PySem.W.excInit_of I1.kIn T.ini
    obtain ⟨hp, gg, dr, tk, oo⟩ := s1
    have big : hp.objs.size ≤ hp.objs.size + 1 := Nat.le_succ _
    have fr : H1 (hp.objs.size + 1) = none := I1.hok.fresh big
    have kk : ∀ b o, hp.get? b = some o → ((hp.push (PySem.W.kdv_tup us)).push (PySem.HandSPX.excO C hp.objs.size)).get? b = some o := fun b o z => Heap.get?_push_of_some _ (Heap.get?_push_of_some _ z)
    have at_ : ((hp.push (PySem.W.kdv_tup us)).push (PySem.HandSPX.excO C hp.objs.size)).get? (hp.objs.size + 1) = some (PySem.HandSPX.excO C hp.objs.size) := by heap_get
    have I2 : Inv X pins σ (upd H1 (hp.objs.size + 1) (exo (hp.objs.size + 1) C none)) ⟨(hp.push (PySem.W.kdv_tup us)).push (PySem.HandSPX.excO C hp.objs.size), gg, dr, tk, oo⟩ :=
      I1.laid (t' := tk) kk big (exo_ok at_)
    have r2 : Vals [V.ref (hp.objs.size + 1), v] (Value.ref (hp.objs.size + 1) :: us) := .cons rfl rv
    have hl : (Value.ref (hp.objs.size + 1) :: us ++ []).length = (["self", g] : List Str).length := by
      rw [List.append_nil, ← r2.length]
      rfl
    have hz : us.length ≤ sizeLine := by
      rw [← rv.length, sizeLine_eq]
      show 1 ≤ 16777216
      decide
    have sp0 : spXI C f ([V.ref (hp.objs.size + 1), v] ++ []) (upd H1 (hp.objs.size + 1) (exo (hp.objs.size + 1) C none)) (fun u H2 => u = .non ∧ ∃ d, H1 d = none ∧ d ≠ hp.objs.size + 1 ∧
        H2 = upd (upd (upd H1 (hp.objs.size + 1) (exo (hp.objs.size + 1) C none)) d (exd d [(f, v)])) (hp.objs.size + 1) (exo (hp.objs.size + 1) C (some d))) E0 :=
      ⟨_, v, rfl, upd_same, fun d hd ne => ⟨rfl, d, by rw [upd_ne ne] at hd; exact hd, ne, rfl⟩⟩
    have bb := hb _ (Value.ref (hp.objs.size + 1) :: us) I2.kIn hl
    rw [List.append_nil] at bb
    refine wpAny_call (PySem.HandSPX.call_own FB hT hC (PySem.W.looks_findIn I1.kIn iC) (fun self => PySem.W.bind_fn I1.kIn self tI) hz
      (codeAny_mono (F1.run _ X.stack _ _ ⟨Value.ref (hp.objs.size + 1) :: us, []⟩ _ _ _ _ (hr.make C us []) (I2.env0.make C us []) bb r2 sp0) fun r s' hq' => ?_))
    cases r with
    | error er => exact False.elim hq'
    | ok fl =>
      cases fl with
      | ret u =>
        obtain ⟨v', H2, os2, ba2, un2, hok2, rv', ev, d, hd, ne, eH⟩ := hq'
        subst ev
        subst eH
        obtain ⟨h2, g2, d2, t2, oo'⟩ := s'
        have ea : (upd (upd (upd H1 (hp.objs.size + 1) (exo (hp.objs.size + 1) C none)) d (exd d [(f, v)])) (hp.objs.size + 1) (exo (hp.objs.size + 1) C (some d))) (hp.objs.size + 1) = some (exo (hp.objs.size + 1) C (some d)) := upd_same
        have ed : (upd (upd (upd H1 (hp.objs.size + 1) (exo (hp.objs.size + 1) C none)) d (exd d [(f, v)])) (hp.objs.size + 1) (exo (hp.objs.size + 1) C (some d))) d = some (exd d [(f, v)]) := by rw [upd_ne ne, upd_same]
        refine ⟨rv', mk_end (raises_own T.bas T.typ) I1 big kk un2 hok2 os2 ba2 ea ed hd (q1 d _ hd (fun b o z => ?_) upd_same)⟩
        have n1 : b ≠ d := ne_of_none z hd
        have n2 : b ≠ hp.objs.size + 1 := ne_of_none z fr
        rw [upd_ne n1, del_ne n2, upd_ne n2, upd_ne n1, upd_ne n2, z]
      | next => exact False.elim hq'
      | brk => exact False.elim hq'
      | cont => exact False.elim hq'
/-- X(), X an own exception class without own __init__ -/
theorem pmk_x0 {x : Str} {iid : String} {bmB : List Value} {p pos : Pos} (FB : ExcBaseFacts B newId iid bmB) (q : PySem.W.excIn X.K C bmB newId = true) (gC : X.mg x = some (.ref C)) (kC : PySem.W.keepIn X.K (.ref C) = true) (r : Raises X (.ref C)) (hg : Gl X x)
    (hdb : (x == ("__debug__" : Str)) = false := by decide) : PMk X (.Call (.Name x p) [] [] pos) (fun _ H Q => Q (.ref C) none H) := by
  intro pins s σ H Q I h
  refine wpAny_Call_Name_kw (ld_glob I hg gC ?_ hdb)
  refine PySem.W.callWith_K0 I.kIn kC ?_
  show wpAny _ _ (call (.ref C) []) _ _ _
  obtain ⟨bm, N, nm, qn, bs, hdct, sn, sub, ab, col, dd, k0, k1, k2, k3, k5, mN, hC, hN, hni, T⟩ := exc_obj I.kIn q
  exact wpAny_call_exc_subT FB T hC hN hni (fun h' e hm => mk_of I hm r h (I.hok.gone hm.new)) (Nat.zero_le _)
end
end SW
/-! A try with several except clauses, some of them naming the exception. -/
namespace SW
open PySem PySem.Spec PyProof.Rows L2
/-- one clause: its class, the slot of its name (if any), its suite's reading -/
abbrev ClT : Type := Value × Option Nat × (Addr → Value → Option Addr → TS)
/-- what stands behind a suite that named the exception: the slot is empty -/
def endsAs (D : Ends) (i : Nat) : Ends := ⟨fun σ H => D.nx (σ.set i none) H, D.rt, fun σ H => D.bk (σ.set i none) H, fun σ H => D.ct (σ.set i none) H⟩
def wMix (K : PySem.W.Frag) (W0 : WX) (D : Ends) : List ClT → WX
  | [] => W0
  | (c, o, ts) :: r => fun cls d σ H => ∃ y, PySem.W.exmOne K cls c = some y ∧ (y = true → ∀ a, H a = none → match o with
      | none => ts a cls d D σ H
      | some i => ts a cls d (endsAs D i) (σ.set i (some (.ref a))) H) ∧ (y = false → wMix K W0 D r cls d σ H)
inductive MixOk (X : Cx) : List ExceptHandler → List ClT → Prop
  | nil : MixOk X [] []
  | plain {x : Str} {c : Value} {ts : Addr → Value → Option Addr → TS} {q : Stmt} {qs : List Stmt} {p1 p2 : Pos} {hs : List ExceptHandler} {l : List ClT} (hc : Names X x c)
      (su : ∀ (a : Addr) (oe : Obj) (cls : Value) (d : Option Addr) (pn : List (Addr × Obj)), Zc cls d oe → (∃ vs, oe.data = .fields vs) → PSs (X.suite a ((a, oe) :: pn)) (q :: qs) (ts a cls d)) (r : MixOk X hs l) :
      MixOk X (.ExceptHandler (some (.Name x p1)) none (q :: qs) p2 :: hs) ((c, none, ts) :: l)
  | named {x n : Str} {i : Nat} {c : Value} {ts : Addr → Value → Option Addr → TS} {q : Stmt} {qs : List Stmt} {p1 p2 : Pos} {hs : List ExceptHandler} {l : List ClT} (hc : Names X x c) (hi : X.N[i]? = some n) (hl : X.env.kindOf n = some .local)
      (su : ∀ (a : Addr) (oe : Obj) (cls : Value) (d : Option Addr) (pn : List (Addr × Obj)), Zc cls d oe → (∃ vs, oe.data = .fields vs) → PSs (X.suite a ((a, oe) :: pn)) (q :: qs) (ts a cls d)) (r : MixOk X hs l) :
      MixOk X (.ExceptHandler (some (.Name x p1)) (some n) (q :: qs) p2 :: hs) ((c, some i, ts) :: l)
section
variable {X : Cx} {body : List Stmt} {h0 : ExceptHandler} {hs : List ExceptHandler} {l : List ClT} {pos : Pos} {tb : WX → TS} {W0 : WX}
theorem ps_try_mix (hstk : X.stack = X.env :: X.outer) (hf : X.env.frame = some X.env.locals) (hN : X.N.Nodup) (tk : Takes X W0)
    (hb : ∀ (W : WX) (pn : List (Addr × Obj)) (xe : Value → Shared → Prop), Takes (X.tr pn xe) W → PassesOwn (model X.prog X.w) X.A X.env xe → PSs (X.tr pn xe) body (tb W))
    (hh : MixOk X (h0 :: hs) l) : PS X (.Try body (h0 :: hs) [] [] pos) (fun D σ H => tb (wMix X.K W0 D l) D σ H) := by
  constructor
  intro pins s σ H D I h
  have ok := I.ok
  have frames : X.A.frames = some (X.env :: X.outer) := ok.frames.trans (by rw [hstk])
  refine wpAny_Try_except ?_
  refine wpAny_mono ((hb (wMix X.K W0 D l) (X.pn ++ pins) (fun e s1 => wpAny (model X.prog X.w) X.A (noteFrame e X.env) (fun _ s2 => wpAny (model X.prog X.w) X.A (setFlight e none) (fun _ s3 =>
    wpAny (model X.prog X.w) X.A (handleBy e X.env (h0 :: hs)) (SP X pins D) X.xe s3) X.xe s2) X.xe s1) (fun u s' xx => ?_) PassesOwn.looking).run [] s σ H D (I.toTry _) h) (fun fl s1 sp => ?_) (fun _ _ z => z)
  · obtain ⟨a, B, sI, pins', σ', H', cls, d, rfl, J', nb, up, sky, na, os, ag, w⟩ := xx
    have J : Inv X pins σ' H' sI := J'.ofTry ok
    have sky2 : Sky B (X.env :: X.outer) a (Zc cls d) X.env.locals s'.heap := hstk ▸ sky
    show wpAny (model X.prog X.w) X.A (noteFrame (.ref a) X.env) _ _ _
    refine Sky.land Zc.steady frames hf sky2 fun h3 fl3 up3 => ?_
    have J3 : Inv X pins σ' H' { s' with heap := h3 } := J.landed nb fl3.1 (up.trans up3) os ag
    obtain ⟨oe3, vs3, at3, zc3, dd3⟩ := fl3.there
    have nfr : a ∉ frs (X.env :: X.outer) := fun hm => by
      obtain ⟨_, o', e', hnf⟩ := fl3.2.2.1.mem hm
      rw [at3] at e'
      cases e'
      exact hnf _ dd3
    have nL : a ≠ X.env.locals := fun z => nfr (List.mem_filterMap.mpr ⟨X.env, List.mem_cons_self, by rw [hf, z]⟩)
    have nF : a ∉ X.fs := fun hm => by
      obtain ⟨e, he, q⟩ := List.mem_filterMap.mp hm
      exact nfr (List.mem_filterMap.mpr ⟨e, List.mem_cons_of_mem _ he, q⟩)
    have S3 := J3.suite at3 dd3 na nL nF
    have LT : PySem.W.Looks (model X.prog X.w) h3 (typeOf (.ref a)) cls := fun A Q E s k q => wpAny_typeOf_ref (k _ _ at3) (by rw [zc3.1]; exact q)
    have asked : ∀ {x : Str} {c : Value} {np : Pos} {Q : Value → Shared → Prop} {E : Value → Shared → Prop}, Names X x c → Q c { s' with heap := h3 } → wpAny (model X.prog X.w) (X.A.mark (some (.ref a))) (eval (.Name x np) X.env) Q E { s' with heap := h3 } := fun hc q => by
      obtain ⟨hg, hdbg, hm | ⟨hm, hv, hnn⟩⟩ := hc
      · exact ld_glob (X := X.suite a ((a, oe3) :: (X.pn ++ pins))) S3 hg hm q hdbg
      · exact ld_blt (X := X.suite a ((a, oe3) :: (X.pn ++ pins))) S3 hg hm hv q hnn hdbg
    have go : ∀ {hs' : List ExceptHandler} {l' : List ClT}, MixOk X hs' l' → wMix X.K W0 D l' cls d σ' H' → wpAny (model X.prog X.w) X.A (handleBy (.ref a) X.env hs') (SP X pins D) X.xe { s' with heap := h3 } := by
      intro hs' l' hk
      induction hk with
      | nil =>
        intro w
        refine wpAny_handleBy_nil ?_
        obtain ⟨k1, k2, k3, oe, vs, T, oT, ts', he, hz, hd, h1, hr⟩ := id fl3
        unfold PySem.passOn
        refine wpAny_bind (wpAny_field he hd h1 ?_)
        rw [if_neg (show ¬ ((Value.ref T == Value.none) = true) from by simp)]
        have fin : wpAny (model X.prog X.w) X.A (setFlight (.ref a) X.env.frame) (fun _ s4 => wpAny (model X.prog X.w) X.A (throw (.ref a) : Sem Flow) (SP X pins D) X.xe s4) X.xe { s' with heap := h3 } := by
          rw [hf]
          refine HandSPX.setFlight_upZ fl3 fun h4 hh4 up4 => wpAny_throw (tk _ _ ?_)
          exact ⟨a, B, sI, pins, σ', H', cls, d, rfl, J, nb, (up.trans up3).trans up4, .inr (.inr (by rw [hstk]; exact hh4)), na, os, ag, w⟩
        first
          | exact wpAny_bind (wpAny_pure (wpAny_bind fin))
          | exact wpAny_bind fin
      | @plain x c ts q qs p1 p2 hs2 l2 hc su r ih =>
        intro w
        obtain ⟨b, hb1, yes, no⟩ := w
        refine wpAny_handleBy_cons (codeAny_handlers_test ?_) (by intro z; cases z)
        have LM := PySem.W.exm_one (M := model X.prog X.w) J3.kIn LT hb1
        refine asked hc (LM.here ?_)
        cases b with
        | false => exact ih (no rfl)
        | true =>
          refine codeAny_handlers_suite (HandSPX.lands_againZ fl3 fun h4 fl4 up4 => ?_)
          have J4 : Inv X pins σ' H' { s' with heap := h4 } := J.landed nb fl4.1 ((up.trans up3).trans up4) os ag
          obtain ⟨oe4, vs4, he4, hz4, hd4⟩ := fl4.there
          refine wpAny_mono ((su a oe4 cls d (X.pn ++ pins) hz4 ⟨_, hd4⟩).run [] _ _ H' D (J4.suite he4 hd4 na nL nF) (yes rfl a na)) (fun f s6 sp => ?_) (fun _ _ z => z.elim)
          cases f with
          | next => exact sp.elim fun σ6 z => z.elim fun H6 z => ⟨σ6, H6, z.1.unsuite ok, z.2⟩
          | brk => exact sp.elim fun σ6 z => z.elim fun H6 z => ⟨σ6, H6, z.1.unsuite ok, z.2⟩
          | cont => exact sp.elim fun σ6 z => z.elim fun H6 z => ⟨σ6, H6, z.1.unsuite ok, z.2⟩
          | ret u =>
            obtain ⟨v6, σ6, H6, S6, r6, q6⟩ := sp
            exact ⟨v6, σ6, H6, S6.unsuite ok, r6, q6⟩
      | @named x n i c ts q qs p1 p2 hs2 l2 hc hi hl su r ih =>
        intro w
        obtain ⟨b, hb1, yes, no⟩ := w
        refine wpAny_handleBy_cons (codeAny_handlers_test ?_) (by intro z; cases z)
        have LM := PySem.W.exm_one (M := model X.prog X.w) J3.kIn LT hb1
        refine asked hc (LM.here ?_)
        cases b with
        | false => exact ih (no rfl)
        | true =>
          refine codeAny_handlers_suite_as (HandSPX.lands_againZ fl3 fun h4 fl4 up4 => ?_)
          have J4 : Inv X pins σ' H' { s' with heap := h4 } := J.landed nb fl4.1 ((up.trans up3).trans up4) os ag
          obtain ⟨oe4, vs4, he4, hz4, hd4⟩ := fl4.there
          refine store_ok (X := X.suite a ((a, oe4) :: (X.pn ++ pins))) (v := .ref a) (J4.suite he4 hd4 na nL nF) hN hi (.inl hl) rfl (fun s5 S5 => ?_) (.inr hl)
          refine wpAny_mono ((su a oe4 cls d (X.pn ++ pins) hz4 ⟨_, hd4⟩).run [] s5 _ H' _ S5 (yes rfl a na)) (fun f s6 sp => ?_) (fun _ _ z => z.elim)
          have gone : ∀ {σ6 : L2.St} {H6 : Hp} {Q : Shared → Prop}, Inv (X.suite a ((a, oe4) :: (X.pn ++ pins))) [] σ6 H6 s6 → (∀ s7, Inv X pins (σ6.set i none) H6 s7 → Q s7) →
              wpAny (model X.prog X.w) X.A (do bindName X.env n .none; unbindBehindTheSuite X.env n p2) (fun _ s7 => Q s7) X.xe s6 := fun S6 hq => gone_ok (S6.unsuite ok) hN hi hl hq
          cases f with
          | next =>
            obtain ⟨σ6, H6, S6, q6⟩ := sp
            exact gone S6 fun s7 J7 => ⟨_, _, J7, q6⟩
          | brk =>
            obtain ⟨σ6, H6, S6, q6⟩ := sp
            exact gone S6 fun s7 J7 => ⟨_, _, J7, q6⟩
          | cont =>
            obtain ⟨σ6, H6, S6, q6⟩ := sp
            exact gone S6 fun s7 J7 => ⟨_, _, J7, q6⟩
          | ret u =>
            obtain ⟨v6, σ6, H6, S6, r6, q6⟩ := sp
            exact gone S6 fun s7 J7 => ⟨_, _, _, J7, r6, q6⟩
    exact go hh w
  · cases fl with
    | next => exact sp.elim fun σ6 z => z.elim fun H6 z => wpAny_execs_nil ⟨σ6, H6, z.1.ofTry ok, z.2⟩
    | brk => exact sp.elim fun σ6 z => z.elim fun H6 z => ⟨σ6, H6, z.1.ofTry ok, z.2⟩
    | cont => exact sp.elim fun σ6 z => z.elim fun H6 z => ⟨σ6, H6, z.1.ofTry ok, z.2⟩
    | ret u =>
      obtain ⟨v, σ', H', J', r, q⟩ := sp
      exact ⟨v, σ', H', J'.ofTry ok, r, q⟩
end
end SW
/-! Calls by promises of positional values; further rules. -/
namespace SW
open PySem PySem.Spec PyProof.Rows L2
/-! ### calls -/
/-- f(..) -/
def tFn (sp : Sp) (E : XK) (t : TA) : TE := fun σ H Q => t σ H fun vs H1 => sp vs H1 Q E
/-- o.m(..) -/
def tMt (C : Addr) (m : Str) (sp : Sp) (E : XK) (to : TE) (t : TA) : TE := fun σ H Q => to σ H fun x H1 => ∃ a dx fs, x = .ref a ∧ H1 a = some (.ins C dx fs) ∧ fs.lookup m = none ∧ t σ H1 fun vs H2 => sp (x :: vs) H2 Q E
/-- o.p, a property -/
def tPr (C : Addr) (sp : Sp) (to : TE) : TE := fun σ H Q => to σ H fun x H1 => ∃ a dx fs, x = .ref a ∧ H1 a = some (.ins C dx fs) ∧ sp [.ref a] H1 Q E0
/-- C(..) -/
def tMk (C : Addr) (sp : Sp) (t : TA) : TE := fun σ H Q => t σ H fun vs H1 => ∀ x dx, H1 x = none → H1 dx = none → dx ≠ x → sp (.ref x :: vs) (upd (upd H1 dx (.own x)) x (.ins C dx [])) (fun v H2 => v = .non ∧ Q (.ref x) H2) E0
theorem passN {X : Cx} : Passes (L2.CX X.prog X.w) X E0 := fun _ _ _ _ _ _ _ h => by
  obtain ⟨_, _, _, _, _, _, _, _, _, _, _, _, z⟩ := h
  exact z.elim
section
variable {X : Cx} {CX : CXT} {k : Nat} {f C : Addr} {sp : Sp} {E : XK} {x m : Str} {p pos apos : Pos} {e o : Expr} {es : List Expr} {to : TE} {t : TA}
theorem pe_fn (F : FnR X.prog X.w X.K X.mg X.base CX k f sp) (hr : Room k X.A) (hg : Gl X x) (hm : X.mg x = some (.ref f)) (hk : PySem.W.keepIn X.K (.ref f) = true) (hx : Passes CX X E)
    (ha : PA X (e :: es) t) (hdb : (x == ("__debug__" : Str)) = false := by decide) (he : starEach (e :: es) X.env = (false, eval e X.env) :: starEach es X.env := by rfl) (hpl : (backTo pos (starEach es X.env)).any (·.1) = false := by rfl) :
    PE X (.Call (.Name x p) (e :: es) [] pos) (tFn sp E t) := by
  constructor
  intro pins s σ H Q I h
  refine wpAny_Call_Name_kw (ld_glob I hg hm ?_ hdb)
  refine PySem.W.callWith_K (h₀ := X.base) I.ok.mod.kin hk (thn (ha.run pos pins s σ H _ I h) fun us s1 r => ?_) he hpl
  obtain ⟨vs, H1, I1, rv, q⟩ := r
  exact ⟨I1.kIn, wpAny_call (run_fnR F hr hx I1 rv q)⟩
theorem pe_mt {pl : Sem Bool} (ho : PE X o to) (c : Cls X.K C) (hm : Meth X.K C m f) (F : FnR X.prog X.w X.K X.mg X.base CX k f sp) (hr : Room k X.A) (hx : Passes CX X E) (ha : PA X (e :: es) t)
    (hst : starEach (e :: es) X.env = (false, eval e X.env) :: starEach es X.env := by rfl) (hpl : (backTo pos (starEach es X.env)).any (·.1) = false := by rfl)
    (ht : eval (.Call (.Attribute o m apos) (e :: es) [] pos) X.env = (do
      let ov ← eval o X.env
      standAt apos.atName
      let (g, first) ← holding [ov] (getMethod ov m pl)
      callWith pos g first (backTo pos (starEach (e :: es) X.env)) (backToKw pos (keywordEach [] X.env))) := by rfl) :
    PE X (.Call (.Attribute o m apos) (e :: es) [] pos) (tMt C m sp E to t) := by
  constructor
  intro pins s σ H Q I h
  refine PySem.W.methodCall_KW (pl := pl) (thn (ho.run pins s σ H _ I h) fun u s1 r => ?_) ht
  obtain ⟨y, H1, I1, rx, a, dx, fs, ex, ea, l, q⟩ := r
  subst ex
  cases (show u = Value.ref a from rx)
  refine getmeth_ok I1 ea c hm l ?_
  refine PySem.W.callWith_K (first := [.ref a]) (h₀ := X.base) I.ok.mod.kin hm.kp (thn (ha.run pos pins s1 σ H1 _ I1 q) fun us s2 r2 => ?_) hst hpl
  obtain ⟨vs, H2, I2, rv, q2⟩ := r2
  exact ⟨I2.kIn, wpAny_call (run_fnR (us := .ref a :: us) (vs := .ref a :: vs) F hr hx I2 (.cons rfl rv) q2)⟩
theorem pe_mt0 {pl : Sem Bool} (ho : PE X o to) (c : Cls X.K C) (hm : Meth X.K C m f) (F : FnR X.prog X.w X.K X.mg X.base CX k f sp) (hr : Room k X.A) (hx : Passes CX X E)
    (ht : eval (.Call (.Attribute o m apos) [] [] pos) X.env = (do
      let ov ← eval o X.env
      standAt apos.atName
      let (g, first) ← holding [ov] (getMethod ov m pl)
      callWith pos g first (backTo pos (starEach [] X.env)) (backToKw pos (keywordEach [] X.env))) := by rfl) :
    PE X (.Call (.Attribute o m apos) [] [] pos) (tMt C m sp E to tNil) := by
  constructor
  intro pins s σ H Q I h
  refine PySem.W.methodCall_KW (pl := pl) (thn (ho.run pins s σ H _ I h) fun u s1 r => ?_) ht
  obtain ⟨y, H1, I1, rx, a, dx, fs, ex, ea, l, q⟩ := r
  subst ex
  cases (show u = Value.ref a from rx)
  refine getmeth_ok I1 ea c hm l ?_
  exact PySem.W.callWith_K0 (first := [.ref a]) I1.kIn hm.kp (wpAny_call (run_fnR (us := [.ref a]) (vs := [.ref a]) F hr hx I1 (.cons rfl .nil) q))
theorem pe_pr {g pa : Addr} (ho : PE X o to) (c : Cls X.K C) (hp : PropOf X.K C m pa g) (F : FnR X.prog X.w X.K X.mg X.base CX0 k g sp) (hr : Room (k + 1) X.A) (hb : attributeBase o m X.env (eval o X.env) = eval o X.env := by rfl) :
    PE X (.Attribute o m pos) (tPr C sp to) := by
  constructor
  intro pins s σ H Q I h
  refine attr_of hb (thn (ho.run pins s σ H _ I h) fun u s1 r => ?_)
  obtain ⟨y, H1, I1, rx, a, dx, fs, ex, ea, q⟩ := r
  subst ex
  cases (show u = Value.ref a from rx)
  obtain ⟨mA, O, _, _, _, _⟩ := ins_get I1.hok ea
  obtain ⟨od, J, _⟩ := O.look
  obtain ⟨rest, hrec⟩ := hp.rec_
  have I2 := I1.tok (s1.toks + 1)
  have hc : (PySem.W.clsIn X.K C).isSome = true := by
    obtain ⟨cd, hc, _⟩ := PySem.W.any_some c.hd
    rw [hc]
    rfl
  refine PySem.W.get_bind I1.kIn J (PySem.W.plainGet_of (c.get m)).1 (PySem.W.findObj_data hc hp.at_ hp.get hp.tak) (PySem.W.plainGet_of (c.get m)).2 (wpAny_call (PySem.W.prop_get (s := { s1 with toks := s1.toks + 1 }) I1.kIn hrec ?_))
  refine codeAny_mono (F X.A.in1 X.stack { s1 with toks := s1.toks + 1 } H1 [.ref a] [.ref a] Q E0 hr.in1 I2.env0.in1 (.cons rfl .nil) q) fun r s' hq => ?_
  cases r with
  | error er => exact False.elim hq
  | ok fl =>
    cases fl with
    | ret u =>
      obtain ⟨v, H', I3, rv, q3⟩ := I2.after hq
      show wpAny _ _ (handedOut u) _ _ _
      rw [PySem.W.handedOut_of (handed_of rv)]
      exact wpAny_pure ⟨v, H', I3, rv, q3⟩
    | next => exact False.elim hq
    | brk => exact False.elim hq
    | cont => exact False.elim hq
theorem pe_mk (M : Mk X.K C f) (F : FnR X.prog X.w X.K X.mg X.base CX0 k f sp) (hr : Room (k + 1) X.A) (hg : Gl X x) (hm : X.mg x = some (.ref C)) (ha : PA X (e :: es) t) (hdb : (x == ("__debug__" : Str)) = false := by decide)
    (he : starEach (e :: es) X.env = (false, eval e X.env) :: starEach es X.env := by rfl) (hpl : (backTo pos (starEach es X.env)).any (·.1) = false := by rfl) : PE X (.Call (.Name x p) (e :: es) [] pos) (tMk C sp t) :=
  StX.pe_makeR M F hr hg hm pass0 ha hdb he hpl
theorem pe_mk0 (M : Mk X.K C f) (F : FnR X.prog X.w X.K X.mg X.base CX0 k f sp) (hr : Room (k + 1) X.A) (hg : Gl X x) (hm : X.mg x = some (.ref C)) (hdb : (x == ("__debug__" : Str)) = false := by decide) : PE X (.Call (.Name x p) [] [] pos) (tMk C sp tNil) := by
  constructor
  intro pins s σ H Q I h
  refine wpAny_Call_Name_kw (ld_glob I hg hm ?_ hdb)
  exact PySem.W.callWith_K0 I.kIn M.kp (StX.run_makeR (us := []) (vs := []) M F hr pass0 I .nil h)
end
/-! ### in a tuple of data -/
section
variable {X : Cx}
def rInTD (K : PySem.W.Frag) : R2 := fun x y H Q => ∃ d ds, Dp K H x d ∧ Dp K H y (.tuple ds) ∧ SeqAt.shaped d = true ∧ SeqAt.shaped (.tuple ds) = true ∧ Q (.bl (ds.any fun z => PyData.eqv z d)) H
theorem op_inTD (hu : X.A.units + 65 < cLine) : OpR X (compareOp .In) (rInTD X.K) := by
  intro pins s σ H x y v u Q I rx ry h
  obtain ⟨d, ds, hd, he, sd, se, q⟩ := h
  obtain ⟨as, r1⟩ := Dp.reads I d x v hd rx
  obtain ⟨bs, r2⟩ := Dp.reads I (.tuple ds) y u he ry
  exact SeqAt.in_tuple_reads r2 r1 (SeqAt.canLay_of_shaped se) (SeqAt.canLay_of_shaped sd) (room_in_shaped sd hu) ⟨.bl _, H, I, rfl, q⟩
end
end SW
/-! The text by places and what is known of it behind the top: facts of names, classes, defs. -/
namespace SW
open PySem PySem.Spec PyProof.Rows L2
abbrev PG : Program := PySem.Challenge.pw_shelfwithin_k97_whole_sessions_of_stores
def top (i : Nat) : Stmt := PG.main.body.getD i (.Pass ⟨0, 0, 0, 0⟩)

abbrev s_InvalidNumber_init : Stmt := inClass (top 3) 0
abbrev s_InvalidIndex_init : Stmt := inClass (top 7) 0
abbrev s_UnknownName_init : Stmt := inClass (top 12) 0
abbrev s_Broken_init : Stmt := inClass (top 15) 0
abbrev s_is_integer : Stmt := top 22
abbrev s_is_within : Stmt := top 23
abbrev s_is_name : Stmt := top 24
abbrev s_check_name : Stmt := top 25
abbrev s_wrong_number : Stmt := top 31
abbrev s_is_hears : Stmt := top 32
abbrev s_Pair_init : Stmt := inClass (top 36) 0
abbrev s_Pair_top : Stmt := inClass (top 36) 2
abbrev s_Pair_bottom : Stmt := inClass (top 36) 3
abbrev s_Pair_hears : Stmt := inClass (top 36) 4
abbrev s_Pair_eq : Stmt := inClass (top 36) 6
abbrev s_check_pair : Stmt := top 37
abbrev s_wrong_ask : Stmt := top 40
abbrev s_check_place : Stmt := top 41
abbrev s_Run_init : Stmt := inClass (top 42) 0
abbrev s_Run_copied : Stmt := inClass (top 42) 1
abbrev s_Run_below : Stmt := inClass (top 42) 2
abbrev s_Run_take_back : Stmt := inClass (top 42) 3
abbrev s_Run_hear : Stmt := inClass (top 42) 4
abbrev s_Run_tells : Stmt := inClass (top 42) 5
abbrev s_Run_ask : Stmt := inClass (top 42) 6
abbrev s_Run_keeps : Stmt := inClass (top 42) 7
abbrev s_Run_lonely : Stmt := inClass (top 42) 8
abbrev s_run_of : Stmt := top 43
abbrev s_Mark_init : Stmt := inClass (top 45) 0
abbrev s_Trial_init : Stmt := inClass (top 46) 0
abbrev s_Trial_enter : Stmt := inClass (top 46) 1
abbrev s_Trial_exit : Stmt := inClass (top 46) 2
abbrev s_Store_init : Stmt := inClass (top 49) 0
abbrev s_Store_asked : Stmt := inClass (top 49) 2
abbrev s_Store_notices : Stmt := inClass (top 49) 3
abbrev s_Store_taken : Stmt := inClass (top 49) 4
abbrev s_Store_alone : Stmt := inClass (top 49) 5
abbrev s_Store_holds : Stmt := inClass (top 49) 6
abbrev s_Store_ask : Stmt := inClass (top 49) 7
abbrev s_Store_undo : Stmt := inClass (top 49) 8
abbrev s_Store_trial : Stmt := inClass (top 49) 9
abbrev s_Store_tried : Stmt := inClass (top 49) 10
abbrev s_is_linked : Stmt := top 51
abbrev s_ways_for : Stmt := top 52
abbrev s_is_enough : Stmt := top 53
abbrev s_is_wish : Stmt := top 55
abbrev s_holds : Stmt := top 56
abbrev s_check_wishes : Stmt := top 57
abbrev s_Book_init : Stmt := inClass (top 58) 0
abbrev s_Book_entries : Stmt := inClass (top 58) 1
abbrev s_Book_names : Stmt := inClass (top 58) 2
abbrev s_Book_wishes : Stmt := inClass (top 58) 3
abbrev s_Book_changes : Stmt := inClass (top 58) 4
abbrev s_Book_setitem : Stmt := inClass (top 58) 5
abbrev s_Book_getitem : Stmt := inClass (top 58) 6
abbrev s_Book_wish : Stmt := inClass (top 58) 8
abbrev s_Book_lift : Stmt := inClass (top 58) 9
abbrev s_Book_undo : Stmt := inClass (top 58) 10
abbrev s_Book_len : Stmt := inClass (top 58) 14
abbrev s_q_flask : Stmt := top 60
abbrev s_q_pour : Stmt := top 61
abbrev s_q_pick : Stmt := top 62
abbrev s_q_hears : Stmt := top 63
abbrev s_q_duo : Stmt := top 64
abbrev s_q_pair : Stmt := top 65
abbrev s_q_place : Stmt := top 66
abbrev s_q_lot : Stmt := top 67
abbrev s_q_tells : Stmt := top 68
abbrev s_q_run : Stmt := top 69
abbrev s_q_lonely : Stmt := top 70
abbrev s_q_least : Stmt := top 71
abbrev s_q_came : Stmt := top 72
abbrev s_q_holds : Stmt := top 73
abbrev s_q_first_bad : Stmt := top 74
abbrev s_q_shows : Stmt := top 75
abbrev s_q_tried : Stmt := top 76
abbrev s_q_store_step : Stmt := top 77
abbrev s_q_near : Stmt := top 78
abbrev s_q_wish : Stmt := top 79
abbrev s_q_put : Stmt := top 80
abbrev s_q_book_step : Stmt := top 81
abbrev s_q_right : Stmt := top 82
abbrev s_law : Stmt := top 83
/-! ### addresses -/
abbrev Fr : Type := PySem.W.Frag
abbrev ad (K : Fr) (x : Str) : Addr := He.ga K x
abbrev am (K : Fr) (C m : Str) : Addr := He.ma K (He.ga K C) m
/-- the getter of the property m of the class C -/
def ag (K : Fr) (C m : Str) : Addr := match PySem.W.recIn K (am K C m) "property" with
  | some (.ref g :: _) => g
  | _ => 0
/-! ### facts that are computed -/
def clsB (K : Fr) (x : Str) : Bool := (He.Fa.cls x).ok K
def proB (K : Fr) (C m : Str) : Bool := decide (PySem.W.findIn K (.ref (ad K C)) m = some (some (.ref (am K C m)))) && (decide (PySem.W.specialIn K (.ref (am K C m)) "__get__" = some (some (.builtin "property.__get__"))) &&
  (decide (PySem.W.takesIn K (.ref (am K C m)) = some true) && (match PySem.W.recIn K (am K C m) "property" with
    | some (.ref _ :: _) => true
    | _ => false)))
def excB (K : Fr) (x newId : String) (tl : List Value) : Bool := PySem.W.excInitIn K (ad K x) tl newId && (PySem.W.excOver K (ad K x) tl && (PySem.W.hasDictIn K (ad K x) && (decide (PySem.W.findIn K (.ref (ad K x)) "__setattr__" = some (some (.builtin "object.__setattr__"))) &&
  (decide (PySem.W.subIn K (.ref (ad K x)) (.type "BaseException") = some true) && (decide (PySem.W.typeIn K (.ref (ad K x)) = some (.type "type")) && PySem.W.keepIn K (.ref (ad K x)))))))
def tlVE : List Value := [.type "ValueError", .type "Exception", .type "BaseException", .type "object"]
def tlLE : List Value := [.type "LookupError", .type "Exception", .type "BaseException", .type "object"]
def tlAE : List Value := [.type "ArithmeticError", .type "Exception", .type "BaseException", .type "object"]
theorem and2 {a b : Bool} (h : (a && b) = true) : a = true ∧ b = true := Bool.and_eq_true_iff.mp h
theorem proB_ok {K : Fr} {C m : Str} (h : proB K C m = true) : PropOf K (ad K C) m (am K C m) (ag K C m) := by
  obtain ⟨h1, h⟩ := and2 h
  obtain ⟨h2, h⟩ := and2 h
  obtain ⟨h3, h4⟩ := and2 h
  refine ⟨of_decide_eq_true h1, of_decide_eq_true h2, of_decide_eq_true h3, ?_⟩
  unfold ag
  split at h4
  · rename_i g r e
    rw [e]
    exact ⟨r, rfl⟩
  · cases h4
theorem excB_ok {K : Fr} {x newId : String} {tl : List Value} (h : excB K x newId tl = true) : XCls K (ad K x) newId tl := by
  obtain ⟨h1, h⟩ := and2 h
  obtain ⟨h2, h⟩ := and2 h
  obtain ⟨h3, h⟩ := and2 h
  obtain ⟨h4, h⟩ := and2 h
  obtain ⟨h5, h⟩ := and2 h
  obtain ⟨h6, h7⟩ := and2 h
  exact ⟨h1, h2, h3, of_decide_eq_true h4, of_decide_eq_true h5, of_decide_eq_true h6, h7⟩
/-! ### the facts -/
/-- one def: its address, its name, qualified name, statement, defaults -/
structure Dfn where
  at_ : Fr → Addr
  name : Str
  qual : Str
  st : Stmt
  dfl : List V := []
abbrev DfnOb : Type := Option (Str × Str × Arguments × FuncBody × Scope × Addr × List (Str × Addr) × Addr)
def Dfn.ob (K : Fr) (d : Dfn) : DfnOb := match K.lookup (d.at_ K) with
  | some ⟨_, _, .func fd, _⟩ => some (fd.name, fd.qualname, fd.params, fd.body, fd.scope, fd.globals, fd.closure, fd.builtins)
  | _ => none
def Dfn.val (d : Dfn) : DfnOb := some (d.name, d.qual, defArgs d.st, .stmts (defBody d.st), defScope d.st, mainGlobals, [], builtinsNs)
def Dfn.ok (K : Fr) (d : Dfn) : Bool := PySem.W.keepIn K (.ref (d.at_ K)) && (PySem.W.isFn K (.ref (d.at_ K)) && (match K.lookup (d.at_ K) with
  | some ⟨_, _, .func fd, _⟩ => PySem.W.codeIn K fd.code d.qual && He.dflB K fd.defaults d.dfl
  | _ => false))
theorem Dfn.funD {K : Fr} {d : Dfn} (e : d.ob K = d.val) (c : d.ok K = true) : ∃ fd, FunD K d.name d.qual (defArgs d.st) (defBody d.st) (defScope d.st) d.dfl [] (d.at_ K) fd := by
  obtain ⟨kp, c⟩ := and2 c
  obtain ⟨_, c⟩ := and2 c
  unfold Dfn.ob Dfn.val at e
  split at e
  · rename_i oc od fd sl q
    rw [q] at c
    obtain ⟨n1, n2, n3, n4, n5, n6, n7, n8, n9, n10, n11, n12, n13, n14, n15⟩ := fd
    simp only [Option.some.injEq, Prod.mk.injEq] at e
    obtain ⟨h1, h2, h3, h4, h5, h6, h7, h8⟩ := e
    subst h1 h2 h3 h4 h5 h6 h7 h8
    obtain ⟨k1, k2⟩ := and2 c
    exact ⟨_, ⟨oc, od, n8, n9, n10, n11, n12, n13, n14, sl, rfl, q, k1, He.dflB_ok k2, .inl rfl⟩, kp⟩
  · cases e

def fl0 : List (Fr → Bool) := [
  fun K => (He.Fa.free "len").ok K,
  fun K => (He.Fa.free "isinstance").ok K,
  fun K => (He.Fa.free "int").ok K,
  fun K => (He.Fa.free "bool").ok K,
  fun K => (He.Fa.free "str").ok K,
  fun K => (He.Fa.free "tuple").ok K,
  fun K => (He.Fa.free "enumerate").ok K,
  fun K => (He.Fa.free "all").ok K,
  fun K => (He.Fa.free "dict").ok K,
  fun K => (He.Fa.free "list").ok K,
  fun K => (He.Fa.free "sorted").ok K,
  fun K => (He.Fa.free "range").ok K,
  fun K => (He.Fa.free "abs").ok K,
  fun K => (He.Fa.free "divmod").ok K,
  fun K => (He.Fa.free "max").ok K,
  fun K => (He.Fa.free "min").ok K,
  fun K => (He.Fa.free "repr").ok K,
  fun K => (He.Fa.int "MOST_SIZE" 1000000000000000000000000000000).ok K,
  fun K => (He.Fa.int "MOST_PLACES" 2000).ok K,
  fun K => (He.Fa.int "LONGEST_NAME" 8).ok K,
  fun K => (He.Fa.int "MOST_PLACE" 9999999999999999999999999999999999999999999999999999999999999999999999).ok K,
  fun K => (He.Fa.str "LETTERS" "abcdefghijklmnopqrstuvwxyz").ok K,
  fun K => (He.Fa.str "DIGITS" "0123456789").ok K,
  fun K => (He.Fa.str "MISSES" "misses").ok K,
  fun K => (He.Fa.str "MOVED" "moved").ok K,
  fun K => (He.Fa.str "EACH" "each").ok K,
  fun K => (He.Fa.glo "is_integer").ok K,
  fun K => (He.Fa.glo "is_within").ok K,
  fun K => (He.Fa.glo "is_name").ok K,
  fun K => (He.Fa.glo "check_name").ok K]
def fl1 : List (Fr → Bool) := [
  fun K => (He.Fa.glo "wrong_number").ok K,
  fun K => (He.Fa.glo "is_hears").ok K,
  fun K => (He.Fa.glo "check_pair").ok K,
  fun K => (He.Fa.glo "wrong_ask").ok K,
  fun K => (He.Fa.glo "check_place").ok K,
  fun K => (He.Fa.glo "run_of").ok K,
  fun K => (He.Fa.glo "is_linked").ok K,
  fun K => (He.Fa.glo "ways_for").ok K,
  fun K => (He.Fa.glo "is_enough").ok K,
  fun K => (He.Fa.glo "is_wish").ok K,
  fun K => (He.Fa.glo "holds").ok K,
  fun K => (He.Fa.glo "check_wishes").ok K,
  fun K => (He.Fa.glo "_law_flask").ok K,
  fun K => (He.Fa.glo "_law_pour").ok K,
  fun K => (He.Fa.glo "_law_pick").ok K,
  fun K => (He.Fa.glo "_law_hears").ok K,
  fun K => (He.Fa.glo "_law_duo").ok K,
  fun K => (He.Fa.glo "_law_pair").ok K,
  fun K => (He.Fa.glo "_law_place").ok K,
  fun K => (He.Fa.glo "_law_lot").ok K,
  fun K => (He.Fa.glo "_law_tells").ok K,
  fun K => (He.Fa.glo "_law_run").ok K,
  fun K => (He.Fa.glo "_law_lonely").ok K,
  fun K => (He.Fa.glo "_law_least").ok K,
  fun K => (He.Fa.glo "_law_came").ok K,
  fun K => (He.Fa.glo "_law_holds").ok K,
  fun K => (He.Fa.glo "_law_first_bad").ok K,
  fun K => (He.Fa.glo "_law_shows").ok K,
  fun K => (He.Fa.glo "_law_tried").ok K,
  fun K => (He.Fa.glo "_law_store_step").ok K]
def fl2 : List (Fr → Bool) := [
  fun K => (He.Fa.glo "_law_near").ok K,
  fun K => (He.Fa.glo "_law_wish").ok K,
  fun K => (He.Fa.glo "_law_put").ok K,
  fun K => (He.Fa.glo "_law_book_step").ok K,
  fun K => (He.Fa.glo "_law_right").ok K,
  fun K => (He.Fa.glo "law").ok K,
  fun K => (He.Fa.glo "Pair").ok K,
  fun K => (He.Fa.glo "Run").ok K,
  fun K => (He.Fa.glo "Mark").ok K,
  fun K => (He.Fa.glo "Trial").ok K,
  fun K => (He.Fa.glo "Store").ok K,
  fun K => (He.Fa.glo "Book").ok K,
  fun K => (He.Fa.glo "Broken").ok K,
  fun K => (He.Fa.glo "InvalidNumber").ok K,
  fun K => (He.Fa.glo "InvalidIndex").ok K,
  fun K => (He.Fa.glo "UnknownName").ok K,
  fun K => (He.Fa.glo "NothingToUndo").ok K,
  fun K => clsB K "Pair",
  fun K => (He.Fa.noat "Pair" "front").ok K,
  fun K => (He.Fa.noat "Pair" "back").ok K,
  fun K => (He.Fa.noat "Pair" "notes").ok K,
  fun K => (He.Fa.meth "Pair" "__init__").ok K,
  fun K => (He.Fa.meth "Pair" "__eq__").ok K,
  fun K => proB K "Pair" "top",
  fun K => proB K "Pair" "bottom",
  fun K => proB K "Pair" "hears",
  fun K => (He.Fa.mkr "Pair").ok K,
  fun K => clsB K "Run",
  fun K => (He.Fa.noat "Run" "duo").ok K,
  fun K => (He.Fa.noat "Run" "takes_back").ok K]
def fl3 : List (Fr → Bool) := [
  fun K => (He.Fa.noat "Run" "tops").ok K,
  fun K => (He.Fa.noat "Run" "lows").ok K,
  fun K => (He.Fa.noat "Run" "heard").ok K,
  fun K => (He.Fa.noat "Run" "missed").ok K,
  fun K => (He.Fa.noat "Run" "newest").ok K,
  fun K => (He.Fa.noat "Run" "noted").ok K,
  fun K => (He.Fa.noat "Run" "gone").ok K,
  fun K => (He.Fa.meth "Run" "__init__").ok K,
  fun K => (He.Fa.meth "Run" "copied").ok K,
  fun K => (He.Fa.meth "Run" "below").ok K,
  fun K => (He.Fa.meth "Run" "take_back").ok K,
  fun K => (He.Fa.meth "Run" "hear").ok K,
  fun K => (He.Fa.meth "Run" "tells").ok K,
  fun K => (He.Fa.meth "Run" "ask").ok K,
  fun K => (He.Fa.meth "Run" "keeps").ok K,
  fun K => (He.Fa.meth "Run" "lonely").ok K,
  fun K => (He.Fa.mkr "Run").ok K,
  fun K => clsB K "Mark",
  fun K => (He.Fa.noat "Mark" "states").ok K,
  fun K => (He.Fa.noat "Mark" "before").ok K,
  fun K => (He.Fa.meth "Mark" "__init__").ok K,
  fun K => (He.Fa.mkr "Mark").ok K,
  fun K => clsB K "Trial",
  fun K => (He.Fa.noat "Trial" "holder").ok K,
  fun K => (He.Fa.noat "Trial" "mark").ok K,
  fun K => (He.Fa.meth "Trial" "__init__").ok K,
  fun K => (He.Fa.meth "Trial" "__enter__").ok K,
  fun K => (He.Fa.meth "Trial" "__exit__").ok K,
  fun K => (He.Fa.mkr "Trial").ok K,
  fun K => clsB K "Store"]
def fl4 : List (Fr → Bool) := [
  fun K => (He.Fa.noat "Store" "both").ok K,
  fun K => (He.Fa.noat "Store" "states").ok K,
  fun K => (He.Fa.meth "Store" "__init__").ok K,
  fun K => (He.Fa.meth "Store" "holds").ok K,
  fun K => (He.Fa.meth "Store" "ask").ok K,
  fun K => (He.Fa.meth "Store" "undo").ok K,
  fun K => (He.Fa.meth "Store" "trial").ok K,
  fun K => (He.Fa.meth "Store" "tried").ok K,
  fun K => proB K "Store" "asked",
  fun K => proB K "Store" "notices",
  fun K => proB K "Store" "taken",
  fun K => proB K "Store" "alone",
  fun K => (He.Fa.mkr "Store").ok K,
  fun K => clsB K "Book",
  fun K => (He.Fa.noat "Book" "states").ok K,
  fun K => (He.Fa.meth "Book" "__init__").ok K,
  fun K => (He.Fa.meth "Book" "__setitem__").ok K,
  fun K => (He.Fa.meth "Book" "__getitem__").ok K,
  fun K => (He.Fa.meth "Book" "wish").ok K,
  fun K => (He.Fa.meth "Book" "lift").ok K,
  fun K => (He.Fa.meth "Book" "undo").ok K,
  fun K => (He.Fa.meth "Book" "__len__").ok K,
  fun K => proB K "Book" "entries",
  fun K => proB K "Book" "names",
  fun K => proB K "Book" "wishes",
  fun K => proB K "Book" "changes",
  fun K => (He.Fa.mkr "Book").ok K,
  fun K => excB K "InvalidNumber" "ValueError.__new__" tlVE,
  fun K => (He.Fa.noat "InvalidNumber" "given").ok K,
  fun K => decide (PySem.W.findIn K (.ref (ad K "InvalidNumber")) "__init__" = some (some (.ref (am K "InvalidNumber" "__init__")))) && decide (PySem.W.typeIn K (.ref (am K "InvalidNumber" "__init__")) = some (.type "function"))]
def fl5 : List (Fr → Bool) := [
  fun K => xfB K (ad K "InvalidNumber"),
  fun K => excB K "InvalidIndex" "ValueError.__new__" tlVE,
  fun K => (He.Fa.noat "InvalidIndex" "given").ok K,
  fun K => decide (PySem.W.findIn K (.ref (ad K "InvalidIndex")) "__init__" = some (some (.ref (am K "InvalidIndex" "__init__")))) && decide (PySem.W.typeIn K (.ref (am K "InvalidIndex" "__init__")) = some (.type "function")),
  fun K => xfB K (ad K "InvalidIndex"),
  fun K => excB K "UnknownName" "LookupError.__new__" tlLE,
  fun K => (He.Fa.noat "UnknownName" "given").ok K,
  fun K => decide (PySem.W.findIn K (.ref (ad K "UnknownName")) "__init__" = some (some (.ref (am K "UnknownName" "__init__")))) && decide (PySem.W.typeIn K (.ref (am K "UnknownName" "__init__")) = some (.type "function")),
  fun K => xfB K (ad K "UnknownName"),
  fun K => excB K "Broken" "ArithmeticError.__new__" tlAE,
  fun K => (He.Fa.noat "Broken" "index").ok K,
  fun K => decide (PySem.W.findIn K (.ref (ad K "Broken")) "__init__" = some (some (.ref (am K "Broken" "__init__")))) && decide (PySem.W.typeIn K (.ref (am K "Broken" "__init__")) = some (.type "function")),
  fun K => xfB K (ad K "Broken"),
  fun K => PySem.W.excIn K (ad K "NothingToUndo") tlAE "ArithmeticError.__new__" && (PySem.W.keepIn K (.ref (ad K "NothingToUndo")) && (decide (PySem.W.subIn K (.ref (ad K "NothingToUndo")) (.type "BaseException") = some true) && decide (PySem.W.typeIn K (.ref (ad K "NothingToUndo")) = some (.type "type")))),
  fun K => (He.Fa.exm "Broken" "Broken" true).ok K,
  fun K => (He.Fa.exm "Broken" "InvalidNumber" false).ok K,
  fun K => (He.Fa.exm "Broken" "InvalidIndex" false).ok K,
  fun K => (He.Fa.exm "Broken" "UnknownName" false).ok K,
  fun K => (He.Fa.exm "Broken" "NothingToUndo" false).ok K,
  fun K => (He.Fa.exm "InvalidNumber" "Broken" false).ok K,
  fun K => (He.Fa.exm "InvalidNumber" "InvalidNumber" true).ok K,
  fun K => (He.Fa.exm "InvalidNumber" "InvalidIndex" false).ok K,
  fun K => (He.Fa.exm "InvalidNumber" "UnknownName" false).ok K,
  fun K => (He.Fa.exm "InvalidNumber" "NothingToUndo" false).ok K,
  fun K => (He.Fa.exm "InvalidIndex" "Broken" false).ok K,
  fun K => (He.Fa.exm "InvalidIndex" "InvalidNumber" false).ok K,
  fun K => (He.Fa.exm "InvalidIndex" "InvalidIndex" true).ok K,
  fun K => (He.Fa.exm "InvalidIndex" "UnknownName" false).ok K,
  fun K => (He.Fa.exm "InvalidIndex" "NothingToUndo" false).ok K,
  fun K => (He.Fa.exm "UnknownName" "Broken" false).ok K]
def fl6 : List (Fr → Bool) := [
  fun K => (He.Fa.exm "UnknownName" "InvalidNumber" false).ok K,
  fun K => (He.Fa.exm "UnknownName" "InvalidIndex" false).ok K,
  fun K => (He.Fa.exm "UnknownName" "UnknownName" true).ok K,
  fun K => (He.Fa.exm "UnknownName" "NothingToUndo" false).ok K,
  fun K => (He.Fa.exm "NothingToUndo" "Broken" false).ok K,
  fun K => (He.Fa.exm "NothingToUndo" "InvalidNumber" false).ok K,
  fun K => (He.Fa.exm "NothingToUndo" "InvalidIndex" false).ok K,
  fun K => (He.Fa.exm "NothingToUndo" "UnknownName" false).ok K,
  fun K => (He.Fa.exm "NothingToUndo" "NothingToUndo" true).ok K,
  fun K => decide (PySem.W.kitOne K (.ref (ad K "Pair")) (.ref (ad K "Pair")) = some true),
  fun K => decide (PySem.W.findIn K (.ref (ad K "Pair")) "__class__" = some (some (.builtin "object.__class__"))),
  fun K => decide (PySem.W.specialIn K (.builtin "object.__class__") "__get__" = some (some (.builtin "getset_descriptor.__get__"))),
  fun K => decide (PySem.W.takesIn K (.builtin "object.__class__") = some true),
  fun K => decide (PySem.W.mroIn K (ad K "Pair") (.type "object") = some true),
  fun K => decide (PySem.W.findIn K (.ref (ad K "Pair")) "__ne__" = some (some (.builtin "object.__ne__"))),
  fun K => decide (PySem.W.subIn K (.ref (ad K "Pair")) (.type "object") = some true),
  fun K => PySem.W.noSeq K (ad K "Book"),
  fun K => PySem.W.fnIn K (am K "Book" "__getitem__")]
def dfns : List Dfn := [
  ⟨fun K => am K "InvalidNumber" "__init__", "__init__", "InvalidNumber.__init__", s_InvalidNumber_init, []⟩,
  ⟨fun K => am K "InvalidIndex" "__init__", "__init__", "InvalidIndex.__init__", s_InvalidIndex_init, []⟩,
  ⟨fun K => am K "UnknownName" "__init__", "__init__", "UnknownName.__init__", s_UnknownName_init, []⟩,
  ⟨fun K => am K "Broken" "__init__", "__init__", "Broken.__init__", s_Broken_init, []⟩,
  ⟨fun K => ad K "is_integer", "is_integer", "is_integer", s_is_integer, []⟩,
  ⟨fun K => ad K "is_within", "is_within", "is_within", s_is_within, []⟩,
  ⟨fun K => ad K "is_name", "is_name", "is_name", s_is_name, []⟩,
  ⟨fun K => ad K "check_name", "check_name", "check_name", s_check_name, []⟩,
  ⟨fun K => ad K "wrong_number", "wrong_number", "wrong_number", s_wrong_number, []⟩,
  ⟨fun K => ad K "is_hears", "is_hears", "is_hears", s_is_hears, []⟩,
  ⟨fun K => am K "Pair" "__init__", "__init__", "Pair.__init__", s_Pair_init, [.str "misses"]⟩,
  ⟨fun K => ag K "Pair" "top", "top", "Pair.top", s_Pair_top, []⟩,
  ⟨fun K => ag K "Pair" "bottom", "bottom", "Pair.bottom", s_Pair_bottom, []⟩,
  ⟨fun K => ag K "Pair" "hears", "hears", "Pair.hears", s_Pair_hears, []⟩,
  ⟨fun K => am K "Pair" "__eq__", "__eq__", "Pair.__eq__", s_Pair_eq, []⟩,
  ⟨fun K => ad K "check_pair", "check_pair", "check_pair", s_check_pair, []⟩,
  ⟨fun K => ad K "wrong_ask", "wrong_ask", "wrong_ask", s_wrong_ask, []⟩,
  ⟨fun K => ad K "check_place", "check_place", "check_place", s_check_place, []⟩,
  ⟨fun K => am K "Run" "__init__", "__init__", "Run.__init__", s_Run_init, [.bl false]⟩,
  ⟨fun K => am K "Run" "copied", "copied", "Run.copied", s_Run_copied, []⟩,
  ⟨fun K => am K "Run" "below", "below", "Run.below", s_Run_below, []⟩,
  ⟨fun K => am K "Run" "take_back", "take_back", "Run.take_back", s_Run_take_back, []⟩,
  ⟨fun K => am K "Run" "hear", "hear", "Run.hear", s_Run_hear, []⟩,
  ⟨fun K => am K "Run" "tells", "tells", "Run.tells", s_Run_tells, []⟩,
  ⟨fun K => am K "Run" "ask", "ask", "Run.ask", s_Run_ask, []⟩,
  ⟨fun K => am K "Run" "keeps", "keeps", "Run.keeps", s_Run_keeps, []⟩,
  ⟨fun K => am K "Run" "lonely", "lonely", "Run.lonely", s_Run_lonely, []⟩,
  ⟨fun K => ad K "run_of", "run_of", "run_of", s_run_of, []⟩,
  ⟨fun K => am K "Mark" "__init__", "__init__", "Mark.__init__", s_Mark_init, []⟩,
  ⟨fun K => am K "Trial" "__init__", "__init__", "Trial.__init__", s_Trial_init, []⟩,
  ⟨fun K => am K "Trial" "__enter__", "__enter__", "Trial.__enter__", s_Trial_enter, []⟩,
  ⟨fun K => am K "Trial" "__exit__", "__exit__", "Trial.__exit__", s_Trial_exit, []⟩,
  ⟨fun K => am K "Store" "__init__", "__init__", "Store.__init__", s_Store_init, [.bl false]⟩,
  ⟨fun K => ag K "Store" "asked", "asked", "Store.asked", s_Store_asked, []⟩,
  ⟨fun K => ag K "Store" "notices", "notices", "Store.notices", s_Store_notices, []⟩,
  ⟨fun K => ag K "Store" "taken", "taken", "Store.taken", s_Store_taken, []⟩,
  ⟨fun K => ag K "Store" "alone", "alone", "Store.alone", s_Store_alone, []⟩,
  ⟨fun K => am K "Store" "holds", "holds", "Store.holds", s_Store_holds, []⟩,
  ⟨fun K => am K "Store" "ask", "ask", "Store.ask", s_Store_ask, []⟩,
  ⟨fun K => am K "Store" "undo", "undo", "Store.undo", s_Store_undo, []⟩,
  ⟨fun K => am K "Store" "trial", "trial", "Store.trial", s_Store_trial, []⟩,
  ⟨fun K => am K "Store" "tried", "tried", "Store.tried", s_Store_tried, []⟩,
  ⟨fun K => ad K "is_linked", "is_linked", "is_linked", s_is_linked, []⟩,
  ⟨fun K => ad K "ways_for", "ways_for", "ways_for", s_ways_for, []⟩,
  ⟨fun K => ad K "is_enough", "is_enough", "is_enough", s_is_enough, []⟩,
  ⟨fun K => ad K "is_wish", "is_wish", "is_wish", s_is_wish, []⟩,
  ⟨fun K => ad K "holds", "holds", "holds", s_holds, []⟩,
  ⟨fun K => ad K "check_wishes", "check_wishes", "check_wishes", s_check_wishes, []⟩,
  ⟨fun K => am K "Book" "__init__", "__init__", "Book.__init__", s_Book_init, []⟩,
  ⟨fun K => ag K "Book" "entries", "entries", "Book.entries", s_Book_entries, []⟩,
  ⟨fun K => ag K "Book" "names", "names", "Book.names", s_Book_names, []⟩,
  ⟨fun K => ag K "Book" "wishes", "wishes", "Book.wishes", s_Book_wishes, []⟩,
  ⟨fun K => ag K "Book" "changes", "changes", "Book.changes", s_Book_changes, []⟩,
  ⟨fun K => am K "Book" "__setitem__", "__setitem__", "Book.__setitem__", s_Book_setitem, []⟩,
  ⟨fun K => am K "Book" "__getitem__", "__getitem__", "Book.__getitem__", s_Book_getitem, []⟩,
  ⟨fun K => am K "Book" "wish", "wish", "Book.wish", s_Book_wish, []⟩,
  ⟨fun K => am K "Book" "lift", "lift", "Book.lift", s_Book_lift, []⟩,
  ⟨fun K => am K "Book" "undo", "undo", "Book.undo", s_Book_undo, []⟩,
  ⟨fun K => am K "Book" "__len__", "__len__", "Book.__len__", s_Book_len, []⟩,
  ⟨fun K => ad K "_law_flask", "_law_flask", "_law_flask", s_q_flask, []⟩,
  ⟨fun K => ad K "_law_pour", "_law_pour", "_law_pour", s_q_pour, []⟩,
  ⟨fun K => ad K "_law_pick", "_law_pick", "_law_pick", s_q_pick, []⟩,
  ⟨fun K => ad K "_law_hears", "_law_hears", "_law_hears", s_q_hears, []⟩,
  ⟨fun K => ad K "_law_duo", "_law_duo", "_law_duo", s_q_duo, []⟩,
  ⟨fun K => ad K "_law_pair", "_law_pair", "_law_pair", s_q_pair, []⟩,
  ⟨fun K => ad K "_law_place", "_law_place", "_law_place", s_q_place, []⟩,
  ⟨fun K => ad K "_law_lot", "_law_lot", "_law_lot", s_q_lot, []⟩,
  ⟨fun K => ad K "_law_tells", "_law_tells", "_law_tells", s_q_tells, []⟩,
  ⟨fun K => ad K "_law_run", "_law_run", "_law_run", s_q_run, []⟩,
  ⟨fun K => ad K "_law_lonely", "_law_lonely", "_law_lonely", s_q_lonely, []⟩,
  ⟨fun K => ad K "_law_least", "_law_least", "_law_least", s_q_least, []⟩,
  ⟨fun K => ad K "_law_came", "_law_came", "_law_came", s_q_came, []⟩,
  ⟨fun K => ad K "_law_holds", "_law_holds", "_law_holds", s_q_holds, []⟩,
  ⟨fun K => ad K "_law_first_bad", "_law_first_bad", "_law_first_bad", s_q_first_bad, []⟩,
  ⟨fun K => ad K "_law_shows", "_law_shows", "_law_shows", s_q_shows, []⟩,
  ⟨fun K => ad K "_law_tried", "_law_tried", "_law_tried", s_q_tried, []⟩,
  ⟨fun K => ad K "_law_store_step", "_law_store_step", "_law_store_step", s_q_store_step, []⟩,
  ⟨fun K => ad K "_law_near", "_law_near", "_law_near", s_q_near, []⟩,
  ⟨fun K => ad K "_law_wish", "_law_wish", "_law_wish", s_q_wish, []⟩,
  ⟨fun K => ad K "_law_put", "_law_put", "_law_put", s_q_put, []⟩,
  ⟨fun K => ad K "_law_book_step", "_law_book_step", "_law_book_step", s_q_book_step, []⟩,
  ⟨fun K => ad K "_law_right", "_law_right", "_law_right", s_q_right, []⟩,
  ⟨fun K => ad K "law", "law", "law", s_law, []⟩]
/-- what the walk leans on -/
structure Tx (K : Fr) (mg : Str → Option Value) : Prop where
  ns : ∃ h : Heap, K.In h ∧ h.Ns mainGlobals mg
  a0 : (fl0.all fun f => f K) = true
  a1 : (fl1.all fun f => f K) = true
  a2 : (fl2.all fun f => f K) = true
  a3 : (fl3.all fun f => f K) = true
  a4 : (fl4.all fun f => f K) = true
  a5 : (fl5.all fun f => f K) = true
  a6 : (fl6.all fun f => f K) = true
  dk : (dfns.all fun d => d.ok K) = true
  dv : (dfns.map fun d => d.ob K) = dfns.map Dfn.val
namespace Tx
variable {K : Fr} {mg : Str → Option Value}
theorem at_ {l : List (Fr → Bool)} (h : (l.all fun f => f K) = true) (i : Nat) {f : Fr → Bool} (e : l[i]? = some f := by rfl) : f K = true := List.all_eq_true.mp h f (List.mem_of_getElem? e)
theorem free (T : Tx K mg) {x : Str} (c : (He.Fa.free x).ok K = true) : mg x = none := by
  obtain ⟨h, a, b⟩ := T.ns
  exact He.free_ok a b c
theorem glo (T : Tx K mg) {x : Str} (c : (He.Fa.glo x).ok K = true) : mg x = some (.ref (ad K x)) := by
  obtain ⟨h, a, b⟩ := T.ns
  exact He.glo_ok a b c
theorem int (T : Tx K mg) {x : Str} {i : Int} (c : (He.Fa.int x i).ok K = true) : ∃ t, mg x = some (.int i t) := by
  obtain ⟨h, a, b⟩ := T.ns
  exact He.int_ok a b c
theorem str (T : Tx K mg) {x z : Str} (c : (He.Fa.str x z).ok K = true) : ∃ t, mg x = some (.str z t) := by
  obtain ⟨h, a, b⟩ := T.ns
  exact He.str_ok a b c
theorem fd (T : Tx K mg) (i : Nat) {d : Dfn} (h : dfns[i]? = some d) : ∃ fd, FunD K d.name d.qual (defArgs d.st) (defBody d.st) (defScope d.st) d.dfl [] (d.at_ K) fd := by
  have e2 : (dfns.map fun d => d.ob K)[i]? = (dfns.map Dfn.val)[i]? := by rw [T.dv]
  rw [List.getElem?_map, List.getElem?_map, h] at e2
  exact Dfn.funD (Option.some.inj e2) (List.all_eq_true.mp T.dk d (List.mem_of_getElem? h))
theorem kp (T : Tx K mg) (i : Nat) {d : Dfn} (h : dfns[i]? = some d) : PySem.W.keepIn K (.ref (d.at_ K)) = true := (and2 (List.all_eq_true.mp T.dk d (List.mem_of_getElem? h))).1
theorem f_len (T : Tx K mg) : mg "len" = none := T.free (at_ T.a0 0)
theorem f_isinstance (T : Tx K mg) : mg "isinstance" = none := T.free (at_ T.a0 1)
theorem f_int (T : Tx K mg) : mg "int" = none := T.free (at_ T.a0 2)
theorem f_bool (T : Tx K mg) : mg "bool" = none := T.free (at_ T.a0 3)
theorem f_str (T : Tx K mg) : mg "str" = none := T.free (at_ T.a0 4)
theorem f_tuple (T : Tx K mg) : mg "tuple" = none := T.free (at_ T.a0 5)
theorem f_enumerate (T : Tx K mg) : mg "enumerate" = none := T.free (at_ T.a0 6)
theorem f_all (T : Tx K mg) : mg "all" = none := T.free (at_ T.a0 7)
theorem f_dict (T : Tx K mg) : mg "dict" = none := T.free (at_ T.a0 8)
theorem f_list (T : Tx K mg) : mg "list" = none := T.free (at_ T.a0 9)
theorem f_sorted (T : Tx K mg) : mg "sorted" = none := T.free (at_ T.a0 10)
theorem f_range (T : Tx K mg) : mg "range" = none := T.free (at_ T.a0 11)
theorem f_abs (T : Tx K mg) : mg "abs" = none := T.free (at_ T.a0 12)
theorem f_divmod (T : Tx K mg) : mg "divmod" = none := T.free (at_ T.a0 13)
theorem f_max (T : Tx K mg) : mg "max" = none := T.free (at_ T.a0 14)
theorem f_min (T : Tx K mg) : mg "min" = none := T.free (at_ T.a0 15)
theorem f_repr (T : Tx K mg) : mg "repr" = none := T.free (at_ T.a0 16)
theorem c_MOST_SIZE (T : Tx K mg) : ∃ t, mg "MOST_SIZE" = some (.int 1000000000000000000000000000000 t) := T.int (at_ T.a0 17)
theorem c_MOST_PLACES (T : Tx K mg) : ∃ t, mg "MOST_PLACES" = some (.int 2000 t) := T.int (at_ T.a0 18)
theorem c_LONGEST_NAME (T : Tx K mg) : ∃ t, mg "LONGEST_NAME" = some (.int 8 t) := T.int (at_ T.a0 19)
theorem c_MOST_PLACE (T : Tx K mg) : ∃ t, mg "MOST_PLACE" = some (.int 9999999999999999999999999999999999999999999999999999999999999999999999 t) := T.int (at_ T.a0 20)
theorem c_LETTERS (T : Tx K mg) : ∃ t, mg "LETTERS" = some (.str "abcdefghijklmnopqrstuvwxyz" t) := T.str (at_ T.a0 21)
theorem c_DIGITS (T : Tx K mg) : ∃ t, mg "DIGITS" = some (.str "0123456789" t) := T.str (at_ T.a0 22)
theorem c_MISSES (T : Tx K mg) : ∃ t, mg "MISSES" = some (.str "misses" t) := T.str (at_ T.a0 23)
theorem c_MOVED (T : Tx K mg) : ∃ t, mg "MOVED" = some (.str "moved" t) := T.str (at_ T.a0 24)
theorem c_EACH (T : Tx K mg) : ∃ t, mg "EACH" = some (.str "each" t) := T.str (at_ T.a0 25)
theorem g_is_integer (T : Tx K mg) : mg "is_integer" = some (.ref (ad K "is_integer")) := T.glo (at_ T.a0 26)
theorem g_is_within (T : Tx K mg) : mg "is_within" = some (.ref (ad K "is_within")) := T.glo (at_ T.a0 27)
theorem g_is_name (T : Tx K mg) : mg "is_name" = some (.ref (ad K "is_name")) := T.glo (at_ T.a0 28)
theorem g_check_name (T : Tx K mg) : mg "check_name" = some (.ref (ad K "check_name")) := T.glo (at_ T.a0 29)
theorem g_wrong_number (T : Tx K mg) : mg "wrong_number" = some (.ref (ad K "wrong_number")) := T.glo (at_ T.a1 0)
theorem g_is_hears (T : Tx K mg) : mg "is_hears" = some (.ref (ad K "is_hears")) := T.glo (at_ T.a1 1)
theorem g_check_pair (T : Tx K mg) : mg "check_pair" = some (.ref (ad K "check_pair")) := T.glo (at_ T.a1 2)
theorem g_wrong_ask (T : Tx K mg) : mg "wrong_ask" = some (.ref (ad K "wrong_ask")) := T.glo (at_ T.a1 3)
theorem g_check_place (T : Tx K mg) : mg "check_place" = some (.ref (ad K "check_place")) := T.glo (at_ T.a1 4)
theorem g_run_of (T : Tx K mg) : mg "run_of" = some (.ref (ad K "run_of")) := T.glo (at_ T.a1 5)
theorem g_is_linked (T : Tx K mg) : mg "is_linked" = some (.ref (ad K "is_linked")) := T.glo (at_ T.a1 6)
theorem g_ways_for (T : Tx K mg) : mg "ways_for" = some (.ref (ad K "ways_for")) := T.glo (at_ T.a1 7)
theorem g_is_enough (T : Tx K mg) : mg "is_enough" = some (.ref (ad K "is_enough")) := T.glo (at_ T.a1 8)
theorem g_is_wish (T : Tx K mg) : mg "is_wish" = some (.ref (ad K "is_wish")) := T.glo (at_ T.a1 9)
theorem g_holds (T : Tx K mg) : mg "holds" = some (.ref (ad K "holds")) := T.glo (at_ T.a1 10)
theorem g_check_wishes (T : Tx K mg) : mg "check_wishes" = some (.ref (ad K "check_wishes")) := T.glo (at_ T.a1 11)
theorem g_q_flask (T : Tx K mg) : mg "_law_flask" = some (.ref (ad K "_law_flask")) := T.glo (at_ T.a1 12)
theorem g_q_pour (T : Tx K mg) : mg "_law_pour" = some (.ref (ad K "_law_pour")) := T.glo (at_ T.a1 13)
theorem g_q_pick (T : Tx K mg) : mg "_law_pick" = some (.ref (ad K "_law_pick")) := T.glo (at_ T.a1 14)
theorem g_q_hears (T : Tx K mg) : mg "_law_hears" = some (.ref (ad K "_law_hears")) := T.glo (at_ T.a1 15)
theorem g_q_duo (T : Tx K mg) : mg "_law_duo" = some (.ref (ad K "_law_duo")) := T.glo (at_ T.a1 16)
theorem g_q_pair (T : Tx K mg) : mg "_law_pair" = some (.ref (ad K "_law_pair")) := T.glo (at_ T.a1 17)
theorem g_q_place (T : Tx K mg) : mg "_law_place" = some (.ref (ad K "_law_place")) := T.glo (at_ T.a1 18)
theorem g_q_lot (T : Tx K mg) : mg "_law_lot" = some (.ref (ad K "_law_lot")) := T.glo (at_ T.a1 19)
theorem g_q_tells (T : Tx K mg) : mg "_law_tells" = some (.ref (ad K "_law_tells")) := T.glo (at_ T.a1 20)
theorem g_q_run (T : Tx K mg) : mg "_law_run" = some (.ref (ad K "_law_run")) := T.glo (at_ T.a1 21)
theorem g_q_lonely (T : Tx K mg) : mg "_law_lonely" = some (.ref (ad K "_law_lonely")) := T.glo (at_ T.a1 22)
theorem g_q_least (T : Tx K mg) : mg "_law_least" = some (.ref (ad K "_law_least")) := T.glo (at_ T.a1 23)
theorem g_q_came (T : Tx K mg) : mg "_law_came" = some (.ref (ad K "_law_came")) := T.glo (at_ T.a1 24)
theorem g_q_holds (T : Tx K mg) : mg "_law_holds" = some (.ref (ad K "_law_holds")) := T.glo (at_ T.a1 25)
theorem g_q_first_bad (T : Tx K mg) : mg "_law_first_bad" = some (.ref (ad K "_law_first_bad")) := T.glo (at_ T.a1 26)
theorem g_q_shows (T : Tx K mg) : mg "_law_shows" = some (.ref (ad K "_law_shows")) := T.glo (at_ T.a1 27)
theorem g_q_tried (T : Tx K mg) : mg "_law_tried" = some (.ref (ad K "_law_tried")) := T.glo (at_ T.a1 28)
theorem g_q_store_step (T : Tx K mg) : mg "_law_store_step" = some (.ref (ad K "_law_store_step")) := T.glo (at_ T.a1 29)
theorem g_q_near (T : Tx K mg) : mg "_law_near" = some (.ref (ad K "_law_near")) := T.glo (at_ T.a2 0)
theorem g_q_wish (T : Tx K mg) : mg "_law_wish" = some (.ref (ad K "_law_wish")) := T.glo (at_ T.a2 1)
theorem g_q_put (T : Tx K mg) : mg "_law_put" = some (.ref (ad K "_law_put")) := T.glo (at_ T.a2 2)
theorem g_q_book_step (T : Tx K mg) : mg "_law_book_step" = some (.ref (ad K "_law_book_step")) := T.glo (at_ T.a2 3)
theorem g_q_right (T : Tx K mg) : mg "_law_right" = some (.ref (ad K "_law_right")) := T.glo (at_ T.a2 4)
theorem g_law (T : Tx K mg) : mg "law" = some (.ref (ad K "law")) := T.glo (at_ T.a2 5)
theorem g_Pair (T : Tx K mg) : mg "Pair" = some (.ref (ad K "Pair")) := T.glo (at_ T.a2 6)
theorem g_Run (T : Tx K mg) : mg "Run" = some (.ref (ad K "Run")) := T.glo (at_ T.a2 7)
theorem g_Mark (T : Tx K mg) : mg "Mark" = some (.ref (ad K "Mark")) := T.glo (at_ T.a2 8)
theorem g_Trial (T : Tx K mg) : mg "Trial" = some (.ref (ad K "Trial")) := T.glo (at_ T.a2 9)
theorem g_Store (T : Tx K mg) : mg "Store" = some (.ref (ad K "Store")) := T.glo (at_ T.a2 10)
theorem g_Book (T : Tx K mg) : mg "Book" = some (.ref (ad K "Book")) := T.glo (at_ T.a2 11)
theorem g_Broken (T : Tx K mg) : mg "Broken" = some (.ref (ad K "Broken")) := T.glo (at_ T.a2 12)
theorem g_InvalidNumber (T : Tx K mg) : mg "InvalidNumber" = some (.ref (ad K "InvalidNumber")) := T.glo (at_ T.a2 13)
theorem g_InvalidIndex (T : Tx K mg) : mg "InvalidIndex" = some (.ref (ad K "InvalidIndex")) := T.glo (at_ T.a2 14)
theorem g_UnknownName (T : Tx K mg) : mg "UnknownName" = some (.ref (ad K "UnknownName")) := T.glo (at_ T.a2 15)
theorem g_NothingToUndo (T : Tx K mg) : mg "NothingToUndo" = some (.ref (ad K "NothingToUndo")) := T.glo (at_ T.a2 16)
theorem cl_Pair (T : Tx K mg) : Cls K (ad K "Pair") := He.cls_ok (at_ T.a2 17)
theorem na_Pair_front (T : Tx K mg) : NoAttr K (ad K "Pair") "front" := He.noat_ok (at_ T.a2 18)
theorem na_Pair_back (T : Tx K mg) : NoAttr K (ad K "Pair") "back" := He.noat_ok (at_ T.a2 19)
theorem na_Pair_notes (T : Tx K mg) : NoAttr K (ad K "Pair") "notes" := He.noat_ok (at_ T.a2 20)
theorem me_Pair_init (T : Tx K mg) : Meth K (ad K "Pair") "__init__" (am K "Pair" "__init__") := He.meth_ok (at_ T.a2 21)
theorem me_Pair_eq (T : Tx K mg) : Meth K (ad K "Pair") "__eq__" (am K "Pair" "__eq__") := He.meth_ok (at_ T.a2 22)
theorem pr_Pair_top (T : Tx K mg) : PropOf K (ad K "Pair") "top" (am K "Pair" "top") (ag K "Pair" "top") := proB_ok (at_ T.a2 23)
theorem pr_Pair_bottom (T : Tx K mg) : PropOf K (ad K "Pair") "bottom" (am K "Pair" "bottom") (ag K "Pair" "bottom") := proB_ok (at_ T.a2 24)
theorem pr_Pair_hears (T : Tx K mg) : PropOf K (ad K "Pair") "hears" (am K "Pair" "hears") (ag K "Pair" "hears") := proB_ok (at_ T.a2 25)
theorem mk_Pair (T : Tx K mg) : Mk K (ad K "Pair") (am K "Pair" "__init__") := He.mkr_ok (at_ T.a2 26)
theorem cl_Run (T : Tx K mg) : Cls K (ad K "Run") := He.cls_ok (at_ T.a2 27)
theorem na_Run_duo (T : Tx K mg) : NoAttr K (ad K "Run") "duo" := He.noat_ok (at_ T.a2 28)
theorem na_Run_takes_back (T : Tx K mg) : NoAttr K (ad K "Run") "takes_back" := He.noat_ok (at_ T.a2 29)
theorem na_Run_tops (T : Tx K mg) : NoAttr K (ad K "Run") "tops" := He.noat_ok (at_ T.a3 0)
theorem na_Run_lows (T : Tx K mg) : NoAttr K (ad K "Run") "lows" := He.noat_ok (at_ T.a3 1)
theorem na_Run_heard (T : Tx K mg) : NoAttr K (ad K "Run") "heard" := He.noat_ok (at_ T.a3 2)
theorem na_Run_missed (T : Tx K mg) : NoAttr K (ad K "Run") "missed" := He.noat_ok (at_ T.a3 3)
theorem na_Run_newest (T : Tx K mg) : NoAttr K (ad K "Run") "newest" := He.noat_ok (at_ T.a3 4)
theorem na_Run_noted (T : Tx K mg) : NoAttr K (ad K "Run") "noted" := He.noat_ok (at_ T.a3 5)
theorem na_Run_gone (T : Tx K mg) : NoAttr K (ad K "Run") "gone" := He.noat_ok (at_ T.a3 6)
theorem me_Run_init (T : Tx K mg) : Meth K (ad K "Run") "__init__" (am K "Run" "__init__") := He.meth_ok (at_ T.a3 7)
theorem me_Run_copied (T : Tx K mg) : Meth K (ad K "Run") "copied" (am K "Run" "copied") := He.meth_ok (at_ T.a3 8)
theorem me_Run_below (T : Tx K mg) : Meth K (ad K "Run") "below" (am K "Run" "below") := He.meth_ok (at_ T.a3 9)
theorem me_Run_take_back (T : Tx K mg) : Meth K (ad K "Run") "take_back" (am K "Run" "take_back") := He.meth_ok (at_ T.a3 10)
theorem me_Run_hear (T : Tx K mg) : Meth K (ad K "Run") "hear" (am K "Run" "hear") := He.meth_ok (at_ T.a3 11)
theorem me_Run_tells (T : Tx K mg) : Meth K (ad K "Run") "tells" (am K "Run" "tells") := He.meth_ok (at_ T.a3 12)
theorem me_Run_ask (T : Tx K mg) : Meth K (ad K "Run") "ask" (am K "Run" "ask") := He.meth_ok (at_ T.a3 13)
theorem me_Run_keeps (T : Tx K mg) : Meth K (ad K "Run") "keeps" (am K "Run" "keeps") := He.meth_ok (at_ T.a3 14)
theorem me_Run_lonely (T : Tx K mg) : Meth K (ad K "Run") "lonely" (am K "Run" "lonely") := He.meth_ok (at_ T.a3 15)
theorem mk_Run (T : Tx K mg) : Mk K (ad K "Run") (am K "Run" "__init__") := He.mkr_ok (at_ T.a3 16)
theorem cl_Mark (T : Tx K mg) : Cls K (ad K "Mark") := He.cls_ok (at_ T.a3 17)
theorem na_Mark_states (T : Tx K mg) : NoAttr K (ad K "Mark") "states" := He.noat_ok (at_ T.a3 18)
theorem na_Mark_before (T : Tx K mg) : NoAttr K (ad K "Mark") "before" := He.noat_ok (at_ T.a3 19)
theorem me_Mark_init (T : Tx K mg) : Meth K (ad K "Mark") "__init__" (am K "Mark" "__init__") := He.meth_ok (at_ T.a3 20)
theorem mk_Mark (T : Tx K mg) : Mk K (ad K "Mark") (am K "Mark" "__init__") := He.mkr_ok (at_ T.a3 21)
theorem cl_Trial (T : Tx K mg) : Cls K (ad K "Trial") := He.cls_ok (at_ T.a3 22)
theorem na_Trial_holder (T : Tx K mg) : NoAttr K (ad K "Trial") "holder" := He.noat_ok (at_ T.a3 23)
theorem na_Trial_mark (T : Tx K mg) : NoAttr K (ad K "Trial") "mark" := He.noat_ok (at_ T.a3 24)
theorem me_Trial_init (T : Tx K mg) : Meth K (ad K "Trial") "__init__" (am K "Trial" "__init__") := He.meth_ok (at_ T.a3 25)
theorem me_Trial_enter (T : Tx K mg) : Meth K (ad K "Trial") "__enter__" (am K "Trial" "__enter__") := He.meth_ok (at_ T.a3 26)
theorem me_Trial_exit (T : Tx K mg) : Meth K (ad K "Trial") "__exit__" (am K "Trial" "__exit__") := He.meth_ok (at_ T.a3 27)
theorem mk_Trial (T : Tx K mg) : Mk K (ad K "Trial") (am K "Trial" "__init__") := He.mkr_ok (at_ T.a3 28)
theorem cl_Store (T : Tx K mg) : Cls K (ad K "Store") := He.cls_ok (at_ T.a3 29)
theorem na_Store_both (T : Tx K mg) : NoAttr K (ad K "Store") "both" := He.noat_ok (at_ T.a4 0)
theorem na_Store_states (T : Tx K mg) : NoAttr K (ad K "Store") "states" := He.noat_ok (at_ T.a4 1)
theorem me_Store_init (T : Tx K mg) : Meth K (ad K "Store") "__init__" (am K "Store" "__init__") := He.meth_ok (at_ T.a4 2)
theorem me_Store_holds (T : Tx K mg) : Meth K (ad K "Store") "holds" (am K "Store" "holds") := He.meth_ok (at_ T.a4 3)
theorem me_Store_ask (T : Tx K mg) : Meth K (ad K "Store") "ask" (am K "Store" "ask") := He.meth_ok (at_ T.a4 4)
theorem me_Store_undo (T : Tx K mg) : Meth K (ad K "Store") "undo" (am K "Store" "undo") := He.meth_ok (at_ T.a4 5)
theorem me_Store_trial (T : Tx K mg) : Meth K (ad K "Store") "trial" (am K "Store" "trial") := He.meth_ok (at_ T.a4 6)
theorem me_Store_tried (T : Tx K mg) : Meth K (ad K "Store") "tried" (am K "Store" "tried") := He.meth_ok (at_ T.a4 7)
theorem pr_Store_asked (T : Tx K mg) : PropOf K (ad K "Store") "asked" (am K "Store" "asked") (ag K "Store" "asked") := proB_ok (at_ T.a4 8)
theorem pr_Store_notices (T : Tx K mg) : PropOf K (ad K "Store") "notices" (am K "Store" "notices") (ag K "Store" "notices") := proB_ok (at_ T.a4 9)
theorem pr_Store_taken (T : Tx K mg) : PropOf K (ad K "Store") "taken" (am K "Store" "taken") (ag K "Store" "taken") := proB_ok (at_ T.a4 10)
theorem pr_Store_alone (T : Tx K mg) : PropOf K (ad K "Store") "alone" (am K "Store" "alone") (ag K "Store" "alone") := proB_ok (at_ T.a4 11)
theorem mk_Store (T : Tx K mg) : Mk K (ad K "Store") (am K "Store" "__init__") := He.mkr_ok (at_ T.a4 12)
theorem cl_Book (T : Tx K mg) : Cls K (ad K "Book") := He.cls_ok (at_ T.a4 13)
theorem na_Book_states (T : Tx K mg) : NoAttr K (ad K "Book") "states" := He.noat_ok (at_ T.a4 14)
theorem me_Book_init (T : Tx K mg) : Meth K (ad K "Book") "__init__" (am K "Book" "__init__") := He.meth_ok (at_ T.a4 15)
theorem me_Book_setitem (T : Tx K mg) : Meth K (ad K "Book") "__setitem__" (am K "Book" "__setitem__") := He.meth_ok (at_ T.a4 16)
theorem me_Book_getitem (T : Tx K mg) : Meth K (ad K "Book") "__getitem__" (am K "Book" "__getitem__") := He.meth_ok (at_ T.a4 17)
theorem me_Book_wish (T : Tx K mg) : Meth K (ad K "Book") "wish" (am K "Book" "wish") := He.meth_ok (at_ T.a4 18)
theorem me_Book_lift (T : Tx K mg) : Meth K (ad K "Book") "lift" (am K "Book" "lift") := He.meth_ok (at_ T.a4 19)
theorem me_Book_undo (T : Tx K mg) : Meth K (ad K "Book") "undo" (am K "Book" "undo") := He.meth_ok (at_ T.a4 20)
theorem me_Book_len (T : Tx K mg) : Meth K (ad K "Book") "__len__" (am K "Book" "__len__") := He.meth_ok (at_ T.a4 21)
theorem pr_Book_entries (T : Tx K mg) : PropOf K (ad K "Book") "entries" (am K "Book" "entries") (ag K "Book" "entries") := proB_ok (at_ T.a4 22)
theorem pr_Book_names (T : Tx K mg) : PropOf K (ad K "Book") "names" (am K "Book" "names") (ag K "Book" "names") := proB_ok (at_ T.a4 23)
theorem pr_Book_wishes (T : Tx K mg) : PropOf K (ad K "Book") "wishes" (am K "Book" "wishes") (ag K "Book" "wishes") := proB_ok (at_ T.a4 24)
theorem pr_Book_changes (T : Tx K mg) : PropOf K (ad K "Book") "changes" (am K "Book" "changes") (ag K "Book" "changes") := proB_ok (at_ T.a4 25)
theorem mk_Book (T : Tx K mg) : Mk K (ad K "Book") (am K "Book" "__init__") := He.mkr_ok (at_ T.a4 26)
theorem xc_InvalidNumber (T : Tx K mg) : XCls K (ad K "InvalidNumber") "ValueError.__new__" tlVE := excB_ok (at_ T.a4 27)
theorem xn_InvalidNumber (T : Tx K mg) : PySem.W.findIn K (.ref (ad K "InvalidNumber")) "given" = some none := He.noat_ok (at_ T.a4 28)
theorem xi_InvalidNumber (T : Tx K mg) : PySem.W.findIn K (.ref (ad K "InvalidNumber")) "__init__" = some (some (.ref (am K "InvalidNumber" "__init__"))) ∧ PySem.W.typeIn K (.ref (am K "InvalidNumber" "__init__")) = some (.type "function") := ⟨of_decide_eq_true (and2 (at_ T.a4 29)).1, of_decide_eq_true (and2 (at_ T.a4 29)).2⟩
theorem xf_InvalidNumber (T : Tx K mg) : XfC K (ad K "InvalidNumber") := xfB_ok (at_ T.a5 0)
theorem xc_InvalidIndex (T : Tx K mg) : XCls K (ad K "InvalidIndex") "ValueError.__new__" tlVE := excB_ok (at_ T.a5 1)
theorem xn_InvalidIndex (T : Tx K mg) : PySem.W.findIn K (.ref (ad K "InvalidIndex")) "given" = some none := He.noat_ok (at_ T.a5 2)
theorem xi_InvalidIndex (T : Tx K mg) : PySem.W.findIn K (.ref (ad K "InvalidIndex")) "__init__" = some (some (.ref (am K "InvalidIndex" "__init__"))) ∧ PySem.W.typeIn K (.ref (am K "InvalidIndex" "__init__")) = some (.type "function") := ⟨of_decide_eq_true (and2 (at_ T.a5 3)).1, of_decide_eq_true (and2 (at_ T.a5 3)).2⟩
theorem xf_InvalidIndex (T : Tx K mg) : XfC K (ad K "InvalidIndex") := xfB_ok (at_ T.a5 4)
theorem xc_UnknownName (T : Tx K mg) : XCls K (ad K "UnknownName") "LookupError.__new__" tlLE := excB_ok (at_ T.a5 5)
theorem xn_UnknownName (T : Tx K mg) : PySem.W.findIn K (.ref (ad K "UnknownName")) "given" = some none := He.noat_ok (at_ T.a5 6)
theorem xi_UnknownName (T : Tx K mg) : PySem.W.findIn K (.ref (ad K "UnknownName")) "__init__" = some (some (.ref (am K "UnknownName" "__init__"))) ∧ PySem.W.typeIn K (.ref (am K "UnknownName" "__init__")) = some (.type "function") := ⟨of_decide_eq_true (and2 (at_ T.a5 7)).1, of_decide_eq_true (and2 (at_ T.a5 7)).2⟩
theorem xf_UnknownName (T : Tx K mg) : XfC K (ad K "UnknownName") := xfB_ok (at_ T.a5 8)
theorem xc_Broken (T : Tx K mg) : XCls K (ad K "Broken") "ArithmeticError.__new__" tlAE := excB_ok (at_ T.a5 9)
theorem xn_Broken (T : Tx K mg) : PySem.W.findIn K (.ref (ad K "Broken")) "index" = some none := He.noat_ok (at_ T.a5 10)
theorem xi_Broken (T : Tx K mg) : PySem.W.findIn K (.ref (ad K "Broken")) "__init__" = some (some (.ref (am K "Broken" "__init__"))) ∧ PySem.W.typeIn K (.ref (am K "Broken" "__init__")) = some (.type "function") := ⟨of_decide_eq_true (and2 (at_ T.a5 11)).1, of_decide_eq_true (and2 (at_ T.a5 11)).2⟩
theorem xf_Broken (T : Tx K mg) : XfC K (ad K "Broken") := xfB_ok (at_ T.a5 12)
theorem x0_NothingToUndo (T : Tx K mg) : PySem.W.excIn K (ad K "NothingToUndo") tlAE "ArithmeticError.__new__" = true ∧ PySem.W.keepIn K (.ref (ad K "NothingToUndo")) = true ∧ PySem.W.subIn K (.ref (ad K "NothingToUndo")) (.type "BaseException") = some true ∧ PySem.W.typeIn K (.ref (ad K "NothingToUndo")) = some (.type "type") := ⟨(and2 (at_ T.a5 13)).1, (and2 (and2 (at_ T.a5 13)).2).1, of_decide_eq_true (and2 (and2 (and2 (at_ T.a5 13)).2).2).1, of_decide_eq_true (and2 (and2 (and2 (at_ T.a5 13)).2).2).2⟩
theorem ex_Broken_Broken (T : Tx K mg) : PySem.W.exmOne K (.ref (ad K "Broken")) (.ref (ad K "Broken")) = some true := He.exm_ok (at_ T.a5 14)
theorem ex_Broken_InvalidNumber (T : Tx K mg) : PySem.W.exmOne K (.ref (ad K "Broken")) (.ref (ad K "InvalidNumber")) = some false := He.exm_ok (at_ T.a5 15)
theorem ex_Broken_InvalidIndex (T : Tx K mg) : PySem.W.exmOne K (.ref (ad K "Broken")) (.ref (ad K "InvalidIndex")) = some false := He.exm_ok (at_ T.a5 16)
theorem ex_Broken_UnknownName (T : Tx K mg) : PySem.W.exmOne K (.ref (ad K "Broken")) (.ref (ad K "UnknownName")) = some false := He.exm_ok (at_ T.a5 17)
theorem ex_Broken_NothingToUndo (T : Tx K mg) : PySem.W.exmOne K (.ref (ad K "Broken")) (.ref (ad K "NothingToUndo")) = some false := He.exm_ok (at_ T.a5 18)
theorem ex_InvalidNumber_Broken (T : Tx K mg) : PySem.W.exmOne K (.ref (ad K "InvalidNumber")) (.ref (ad K "Broken")) = some false := He.exm_ok (at_ T.a5 19)
theorem ex_InvalidNumber_InvalidNumber (T : Tx K mg) : PySem.W.exmOne K (.ref (ad K "InvalidNumber")) (.ref (ad K "InvalidNumber")) = some true := He.exm_ok (at_ T.a5 20)
theorem ex_InvalidNumber_InvalidIndex (T : Tx K mg) : PySem.W.exmOne K (.ref (ad K "InvalidNumber")) (.ref (ad K "InvalidIndex")) = some false := He.exm_ok (at_ T.a5 21)
theorem ex_InvalidNumber_UnknownName (T : Tx K mg) : PySem.W.exmOne K (.ref (ad K "InvalidNumber")) (.ref (ad K "UnknownName")) = some false := He.exm_ok (at_ T.a5 22)
theorem ex_InvalidNumber_NothingToUndo (T : Tx K mg) : PySem.W.exmOne K (.ref (ad K "InvalidNumber")) (.ref (ad K "NothingToUndo")) = some false := He.exm_ok (at_ T.a5 23)
theorem ex_InvalidIndex_Broken (T : Tx K mg) : PySem.W.exmOne K (.ref (ad K "InvalidIndex")) (.ref (ad K "Broken")) = some false := He.exm_ok (at_ T.a5 24)
theorem ex_InvalidIndex_InvalidNumber (T : Tx K mg) : PySem.W.exmOne K (.ref (ad K "InvalidIndex")) (.ref (ad K "InvalidNumber")) = some false := He.exm_ok (at_ T.a5 25)
theorem ex_InvalidIndex_InvalidIndex (T : Tx K mg) : PySem.W.exmOne K (.ref (ad K "InvalidIndex")) (.ref (ad K "InvalidIndex")) = some true := He.exm_ok (at_ T.a5 26)
theorem ex_InvalidIndex_UnknownName (T : Tx K mg) : PySem.W.exmOne K (.ref (ad K "InvalidIndex")) (.ref (ad K "UnknownName")) = some false := He.exm_ok (at_ T.a5 27)
theorem ex_InvalidIndex_NothingToUndo (T : Tx K mg) : PySem.W.exmOne K (.ref (ad K "InvalidIndex")) (.ref (ad K "NothingToUndo")) = some false := He.exm_ok (at_ T.a5 28)
theorem ex_UnknownName_Broken (T : Tx K mg) : PySem.W.exmOne K (.ref (ad K "UnknownName")) (.ref (ad K "Broken")) = some false := He.exm_ok (at_ T.a5 29)
theorem ex_UnknownName_InvalidNumber (T : Tx K mg) : PySem.W.exmOne K (.ref (ad K "UnknownName")) (.ref (ad K "InvalidNumber")) = some false := He.exm_ok (at_ T.a6 0)
theorem ex_UnknownName_InvalidIndex (T : Tx K mg) : PySem.W.exmOne K (.ref (ad K "UnknownName")) (.ref (ad K "InvalidIndex")) = some false := He.exm_ok (at_ T.a6 1)
theorem ex_UnknownName_UnknownName (T : Tx K mg) : PySem.W.exmOne K (.ref (ad K "UnknownName")) (.ref (ad K "UnknownName")) = some true := He.exm_ok (at_ T.a6 2)
theorem ex_UnknownName_NothingToUndo (T : Tx K mg) : PySem.W.exmOne K (.ref (ad K "UnknownName")) (.ref (ad K "NothingToUndo")) = some false := He.exm_ok (at_ T.a6 3)
theorem ex_NothingToUndo_Broken (T : Tx K mg) : PySem.W.exmOne K (.ref (ad K "NothingToUndo")) (.ref (ad K "Broken")) = some false := He.exm_ok (at_ T.a6 4)
theorem ex_NothingToUndo_InvalidNumber (T : Tx K mg) : PySem.W.exmOne K (.ref (ad K "NothingToUndo")) (.ref (ad K "InvalidNumber")) = some false := He.exm_ok (at_ T.a6 5)
theorem ex_NothingToUndo_InvalidIndex (T : Tx K mg) : PySem.W.exmOne K (.ref (ad K "NothingToUndo")) (.ref (ad K "InvalidIndex")) = some false := He.exm_ok (at_ T.a6 6)
theorem ex_NothingToUndo_UnknownName (T : Tx K mg) : PySem.W.exmOne K (.ref (ad K "NothingToUndo")) (.ref (ad K "UnknownName")) = some false := He.exm_ok (at_ T.a6 7)
theorem ex_NothingToUndo_NothingToUndo (T : Tx K mg) : PySem.W.exmOne K (.ref (ad K "NothingToUndo")) (.ref (ad K "NothingToUndo")) = some true := He.exm_ok (at_ T.a6 8)
theorem is_Pair (T : Tx K mg) : PySem.W.kitOne K (.ref (ad K "Pair")) (.ref (ad K "Pair")) = some true := of_decide_eq_true (at_ T.a6 9)
theorem py_cls (T : Tx K mg) : PySem.W.findIn K (.ref (ad K "Pair")) "__class__" = some (some (.builtin "object.__class__")) := of_decide_eq_true (at_ T.a6 10)
theorem py_spec (T : Tx K mg) : PySem.W.specialIn K (.builtin "object.__class__") "__get__" = some (some (.builtin "getset_descriptor.__get__")) := of_decide_eq_true (at_ T.a6 11)
theorem py_tak (T : Tx K mg) : PySem.W.takesIn K (.builtin "object.__class__") = some true := of_decide_eq_true (at_ T.a6 12)
theorem py_mro (T : Tx K mg) : PySem.W.mroIn K (ad K "Pair") (.type "object") = some true := of_decide_eq_true (at_ T.a6 13)
theorem ne_Pair (T : Tx K mg) : PySem.W.findIn K (.ref (ad K "Pair")) "__ne__" = some (some (.builtin "object.__ne__")) := of_decide_eq_true (at_ T.a6 14)
theorem so_Pair (T : Tx K mg) : PySem.W.subIn K (.ref (ad K "Pair")) (.type "object") = some true := of_decide_eq_true (at_ T.a6 15)
theorem ns_Book (T : Tx K mg) : PySem.W.noSeq K (ad K "Book") = true := (at_ T.a6 16)
theorem fn_Book_get (T : Tx K mg) : PySem.W.fnIn K (am K "Book" "__getitem__") = true := (at_ T.a6 17)
theorem fd_InvalidNumber_init (T : Tx K mg) : ∃ fd, FunD K "__init__" "InvalidNumber.__init__" (defArgs s_InvalidNumber_init) (defBody s_InvalidNumber_init) (defScope s_InvalidNumber_init) [] [] (am K "InvalidNumber" "__init__") fd := T.fd 0 rfl
theorem fd_InvalidIndex_init (T : Tx K mg) : ∃ fd, FunD K "__init__" "InvalidIndex.__init__" (defArgs s_InvalidIndex_init) (defBody s_InvalidIndex_init) (defScope s_InvalidIndex_init) [] [] (am K "InvalidIndex" "__init__") fd := T.fd 1 rfl
theorem fd_UnknownName_init (T : Tx K mg) : ∃ fd, FunD K "__init__" "UnknownName.__init__" (defArgs s_UnknownName_init) (defBody s_UnknownName_init) (defScope s_UnknownName_init) [] [] (am K "UnknownName" "__init__") fd := T.fd 2 rfl
theorem fd_Broken_init (T : Tx K mg) : ∃ fd, FunD K "__init__" "Broken.__init__" (defArgs s_Broken_init) (defBody s_Broken_init) (defScope s_Broken_init) [] [] (am K "Broken" "__init__") fd := T.fd 3 rfl
theorem fd_is_integer (T : Tx K mg) : ∃ fd, FunD K "is_integer" "is_integer" (defArgs s_is_integer) (defBody s_is_integer) (defScope s_is_integer) [] [] (ad K "is_integer") fd := T.fd 4 rfl
theorem k_is_integer (T : Tx K mg) : PySem.W.keepIn K (.ref (ad K "is_integer")) = true := T.kp 4 rfl
theorem fd_is_within (T : Tx K mg) : ∃ fd, FunD K "is_within" "is_within" (defArgs s_is_within) (defBody s_is_within) (defScope s_is_within) [] [] (ad K "is_within") fd := T.fd 5 rfl
theorem k_is_within (T : Tx K mg) : PySem.W.keepIn K (.ref (ad K "is_within")) = true := T.kp 5 rfl
theorem fd_is_name (T : Tx K mg) : ∃ fd, FunD K "is_name" "is_name" (defArgs s_is_name) (defBody s_is_name) (defScope s_is_name) [] [] (ad K "is_name") fd := T.fd 6 rfl
theorem k_is_name (T : Tx K mg) : PySem.W.keepIn K (.ref (ad K "is_name")) = true := T.kp 6 rfl
theorem fd_check_name (T : Tx K mg) : ∃ fd, FunD K "check_name" "check_name" (defArgs s_check_name) (defBody s_check_name) (defScope s_check_name) [] [] (ad K "check_name") fd := T.fd 7 rfl
theorem k_check_name (T : Tx K mg) : PySem.W.keepIn K (.ref (ad K "check_name")) = true := T.kp 7 rfl
theorem fd_wrong_number (T : Tx K mg) : ∃ fd, FunD K "wrong_number" "wrong_number" (defArgs s_wrong_number) (defBody s_wrong_number) (defScope s_wrong_number) [] [] (ad K "wrong_number") fd := T.fd 8 rfl
theorem k_wrong_number (T : Tx K mg) : PySem.W.keepIn K (.ref (ad K "wrong_number")) = true := T.kp 8 rfl
theorem fd_is_hears (T : Tx K mg) : ∃ fd, FunD K "is_hears" "is_hears" (defArgs s_is_hears) (defBody s_is_hears) (defScope s_is_hears) [] [] (ad K "is_hears") fd := T.fd 9 rfl
theorem k_is_hears (T : Tx K mg) : PySem.W.keepIn K (.ref (ad K "is_hears")) = true := T.kp 9 rfl
theorem fd_Pair_init (T : Tx K mg) : ∃ fd, FunD K "__init__" "Pair.__init__" (defArgs s_Pair_init) (defBody s_Pair_init) (defScope s_Pair_init) [.str "misses"] [] (am K "Pair" "__init__") fd := T.fd 10 rfl
theorem fd_Pair_top (T : Tx K mg) : ∃ fd, FunD K "top" "Pair.top" (defArgs s_Pair_top) (defBody s_Pair_top) (defScope s_Pair_top) [] [] (ag K "Pair" "top") fd := T.fd 11 rfl
theorem fd_Pair_bottom (T : Tx K mg) : ∃ fd, FunD K "bottom" "Pair.bottom" (defArgs s_Pair_bottom) (defBody s_Pair_bottom) (defScope s_Pair_bottom) [] [] (ag K "Pair" "bottom") fd := T.fd 12 rfl
theorem fd_Pair_hears (T : Tx K mg) : ∃ fd, FunD K "hears" "Pair.hears" (defArgs s_Pair_hears) (defBody s_Pair_hears) (defScope s_Pair_hears) [] [] (ag K "Pair" "hears") fd := T.fd 13 rfl
theorem fd_Pair_eq (T : Tx K mg) : ∃ fd, FunD K "__eq__" "Pair.__eq__" (defArgs s_Pair_eq) (defBody s_Pair_eq) (defScope s_Pair_eq) [] [] (am K "Pair" "__eq__") fd := T.fd 14 rfl
theorem fd_check_pair (T : Tx K mg) : ∃ fd, FunD K "check_pair" "check_pair" (defArgs s_check_pair) (defBody s_check_pair) (defScope s_check_pair) [] [] (ad K "check_pair") fd := T.fd 15 rfl
theorem k_check_pair (T : Tx K mg) : PySem.W.keepIn K (.ref (ad K "check_pair")) = true := T.kp 15 rfl
theorem fd_wrong_ask (T : Tx K mg) : ∃ fd, FunD K "wrong_ask" "wrong_ask" (defArgs s_wrong_ask) (defBody s_wrong_ask) (defScope s_wrong_ask) [] [] (ad K "wrong_ask") fd := T.fd 16 rfl
theorem k_wrong_ask (T : Tx K mg) : PySem.W.keepIn K (.ref (ad K "wrong_ask")) = true := T.kp 16 rfl
theorem fd_check_place (T : Tx K mg) : ∃ fd, FunD K "check_place" "check_place" (defArgs s_check_place) (defBody s_check_place) (defScope s_check_place) [] [] (ad K "check_place") fd := T.fd 17 rfl
theorem k_check_place (T : Tx K mg) : PySem.W.keepIn K (.ref (ad K "check_place")) = true := T.kp 17 rfl
theorem fd_Run_init (T : Tx K mg) : ∃ fd, FunD K "__init__" "Run.__init__" (defArgs s_Run_init) (defBody s_Run_init) (defScope s_Run_init) [.bl false] [] (am K "Run" "__init__") fd := T.fd 18 rfl
theorem fd_Run_copied (T : Tx K mg) : ∃ fd, FunD K "copied" "Run.copied" (defArgs s_Run_copied) (defBody s_Run_copied) (defScope s_Run_copied) [] [] (am K "Run" "copied") fd := T.fd 19 rfl
theorem fd_Run_below (T : Tx K mg) : ∃ fd, FunD K "below" "Run.below" (defArgs s_Run_below) (defBody s_Run_below) (defScope s_Run_below) [] [] (am K "Run" "below") fd := T.fd 20 rfl
theorem fd_Run_take_back (T : Tx K mg) : ∃ fd, FunD K "take_back" "Run.take_back" (defArgs s_Run_take_back) (defBody s_Run_take_back) (defScope s_Run_take_back) [] [] (am K "Run" "take_back") fd := T.fd 21 rfl
theorem fd_Run_hear (T : Tx K mg) : ∃ fd, FunD K "hear" "Run.hear" (defArgs s_Run_hear) (defBody s_Run_hear) (defScope s_Run_hear) [] [] (am K "Run" "hear") fd := T.fd 22 rfl
theorem fd_Run_tells (T : Tx K mg) : ∃ fd, FunD K "tells" "Run.tells" (defArgs s_Run_tells) (defBody s_Run_tells) (defScope s_Run_tells) [] [] (am K "Run" "tells") fd := T.fd 23 rfl
theorem fd_Run_ask (T : Tx K mg) : ∃ fd, FunD K "ask" "Run.ask" (defArgs s_Run_ask) (defBody s_Run_ask) (defScope s_Run_ask) [] [] (am K "Run" "ask") fd := T.fd 24 rfl
theorem fd_Run_keeps (T : Tx K mg) : ∃ fd, FunD K "keeps" "Run.keeps" (defArgs s_Run_keeps) (defBody s_Run_keeps) (defScope s_Run_keeps) [] [] (am K "Run" "keeps") fd := T.fd 25 rfl
theorem fd_Run_lonely (T : Tx K mg) : ∃ fd, FunD K "lonely" "Run.lonely" (defArgs s_Run_lonely) (defBody s_Run_lonely) (defScope s_Run_lonely) [] [] (am K "Run" "lonely") fd := T.fd 26 rfl
theorem fd_run_of (T : Tx K mg) : ∃ fd, FunD K "run_of" "run_of" (defArgs s_run_of) (defBody s_run_of) (defScope s_run_of) [] [] (ad K "run_of") fd := T.fd 27 rfl
theorem k_run_of (T : Tx K mg) : PySem.W.keepIn K (.ref (ad K "run_of")) = true := T.kp 27 rfl
theorem fd_Mark_init (T : Tx K mg) : ∃ fd, FunD K "__init__" "Mark.__init__" (defArgs s_Mark_init) (defBody s_Mark_init) (defScope s_Mark_init) [] [] (am K "Mark" "__init__") fd := T.fd 28 rfl
theorem fd_Trial_init (T : Tx K mg) : ∃ fd, FunD K "__init__" "Trial.__init__" (defArgs s_Trial_init) (defBody s_Trial_init) (defScope s_Trial_init) [] [] (am K "Trial" "__init__") fd := T.fd 29 rfl
theorem fd_Trial_enter (T : Tx K mg) : ∃ fd, FunD K "__enter__" "Trial.__enter__" (defArgs s_Trial_enter) (defBody s_Trial_enter) (defScope s_Trial_enter) [] [] (am K "Trial" "__enter__") fd := T.fd 30 rfl
theorem fd_Trial_exit (T : Tx K mg) : ∃ fd, FunD K "__exit__" "Trial.__exit__" (defArgs s_Trial_exit) (defBody s_Trial_exit) (defScope s_Trial_exit) [] [] (am K "Trial" "__exit__") fd := T.fd 31 rfl
theorem fd_Store_init (T : Tx K mg) : ∃ fd, FunD K "__init__" "Store.__init__" (defArgs s_Store_init) (defBody s_Store_init) (defScope s_Store_init) [.bl false] [] (am K "Store" "__init__") fd := T.fd 32 rfl
theorem fd_Store_asked (T : Tx K mg) : ∃ fd, FunD K "asked" "Store.asked" (defArgs s_Store_asked) (defBody s_Store_asked) (defScope s_Store_asked) [] [] (ag K "Store" "asked") fd := T.fd 33 rfl
theorem fd_Store_notices (T : Tx K mg) : ∃ fd, FunD K "notices" "Store.notices" (defArgs s_Store_notices) (defBody s_Store_notices) (defScope s_Store_notices) [] [] (ag K "Store" "notices") fd := T.fd 34 rfl
theorem fd_Store_taken (T : Tx K mg) : ∃ fd, FunD K "taken" "Store.taken" (defArgs s_Store_taken) (defBody s_Store_taken) (defScope s_Store_taken) [] [] (ag K "Store" "taken") fd := T.fd 35 rfl
theorem fd_Store_alone (T : Tx K mg) : ∃ fd, FunD K "alone" "Store.alone" (defArgs s_Store_alone) (defBody s_Store_alone) (defScope s_Store_alone) [] [] (ag K "Store" "alone") fd := T.fd 36 rfl
theorem fd_Store_holds (T : Tx K mg) : ∃ fd, FunD K "holds" "Store.holds" (defArgs s_Store_holds) (defBody s_Store_holds) (defScope s_Store_holds) [] [] (am K "Store" "holds") fd := T.fd 37 rfl
theorem fd_Store_ask (T : Tx K mg) : ∃ fd, FunD K "ask" "Store.ask" (defArgs s_Store_ask) (defBody s_Store_ask) (defScope s_Store_ask) [] [] (am K "Store" "ask") fd := T.fd 38 rfl
theorem fd_Store_undo (T : Tx K mg) : ∃ fd, FunD K "undo" "Store.undo" (defArgs s_Store_undo) (defBody s_Store_undo) (defScope s_Store_undo) [] [] (am K "Store" "undo") fd := T.fd 39 rfl
theorem fd_Store_trial (T : Tx K mg) : ∃ fd, FunD K "trial" "Store.trial" (defArgs s_Store_trial) (defBody s_Store_trial) (defScope s_Store_trial) [] [] (am K "Store" "trial") fd := T.fd 40 rfl
theorem fd_Store_tried (T : Tx K mg) : ∃ fd, FunD K "tried" "Store.tried" (defArgs s_Store_tried) (defBody s_Store_tried) (defScope s_Store_tried) [] [] (am K "Store" "tried") fd := T.fd 41 rfl
theorem fd_is_linked (T : Tx K mg) : ∃ fd, FunD K "is_linked" "is_linked" (defArgs s_is_linked) (defBody s_is_linked) (defScope s_is_linked) [] [] (ad K "is_linked") fd := T.fd 42 rfl
theorem k_is_linked (T : Tx K mg) : PySem.W.keepIn K (.ref (ad K "is_linked")) = true := T.kp 42 rfl
theorem fd_ways_for (T : Tx K mg) : ∃ fd, FunD K "ways_for" "ways_for" (defArgs s_ways_for) (defBody s_ways_for) (defScope s_ways_for) [] [] (ad K "ways_for") fd := T.fd 43 rfl
theorem k_ways_for (T : Tx K mg) : PySem.W.keepIn K (.ref (ad K "ways_for")) = true := T.kp 43 rfl
theorem fd_is_enough (T : Tx K mg) : ∃ fd, FunD K "is_enough" "is_enough" (defArgs s_is_enough) (defBody s_is_enough) (defScope s_is_enough) [] [] (ad K "is_enough") fd := T.fd 44 rfl
theorem k_is_enough (T : Tx K mg) : PySem.W.keepIn K (.ref (ad K "is_enough")) = true := T.kp 44 rfl
theorem fd_is_wish (T : Tx K mg) : ∃ fd, FunD K "is_wish" "is_wish" (defArgs s_is_wish) (defBody s_is_wish) (defScope s_is_wish) [] [] (ad K "is_wish") fd := T.fd 45 rfl
theorem k_is_wish (T : Tx K mg) : PySem.W.keepIn K (.ref (ad K "is_wish")) = true := T.kp 45 rfl
theorem fd_holds (T : Tx K mg) : ∃ fd, FunD K "holds" "holds" (defArgs s_holds) (defBody s_holds) (defScope s_holds) [] [] (ad K "holds") fd := T.fd 46 rfl
theorem k_holds (T : Tx K mg) : PySem.W.keepIn K (.ref (ad K "holds")) = true := T.kp 46 rfl
theorem fd_check_wishes (T : Tx K mg) : ∃ fd, FunD K "check_wishes" "check_wishes" (defArgs s_check_wishes) (defBody s_check_wishes) (defScope s_check_wishes) [] [] (ad K "check_wishes") fd := T.fd 47 rfl
theorem k_check_wishes (T : Tx K mg) : PySem.W.keepIn K (.ref (ad K "check_wishes")) = true := T.kp 47 rfl
theorem fd_Book_init (T : Tx K mg) : ∃ fd, FunD K "__init__" "Book.__init__" (defArgs s_Book_init) (defBody s_Book_init) (defScope s_Book_init) [] [] (am K "Book" "__init__") fd := T.fd 48 rfl
theorem fd_Book_entries (T : Tx K mg) : ∃ fd, FunD K "entries" "Book.entries" (defArgs s_Book_entries) (defBody s_Book_entries) (defScope s_Book_entries) [] [] (ag K "Book" "entries") fd := T.fd 49 rfl
theorem fd_Book_names (T : Tx K mg) : ∃ fd, FunD K "names" "Book.names" (defArgs s_Book_names) (defBody s_Book_names) (defScope s_Book_names) [] [] (ag K "Book" "names") fd := T.fd 50 rfl
theorem fd_Book_wishes (T : Tx K mg) : ∃ fd, FunD K "wishes" "Book.wishes" (defArgs s_Book_wishes) (defBody s_Book_wishes) (defScope s_Book_wishes) [] [] (ag K "Book" "wishes") fd := T.fd 51 rfl
theorem fd_Book_changes (T : Tx K mg) : ∃ fd, FunD K "changes" "Book.changes" (defArgs s_Book_changes) (defBody s_Book_changes) (defScope s_Book_changes) [] [] (ag K "Book" "changes") fd := T.fd 52 rfl
theorem fd_Book_setitem (T : Tx K mg) : ∃ fd, FunD K "__setitem__" "Book.__setitem__" (defArgs s_Book_setitem) (defBody s_Book_setitem) (defScope s_Book_setitem) [] [] (am K "Book" "__setitem__") fd := T.fd 53 rfl
theorem fd_Book_getitem (T : Tx K mg) : ∃ fd, FunD K "__getitem__" "Book.__getitem__" (defArgs s_Book_getitem) (defBody s_Book_getitem) (defScope s_Book_getitem) [] [] (am K "Book" "__getitem__") fd := T.fd 54 rfl
theorem fd_Book_wish (T : Tx K mg) : ∃ fd, FunD K "wish" "Book.wish" (defArgs s_Book_wish) (defBody s_Book_wish) (defScope s_Book_wish) [] [] (am K "Book" "wish") fd := T.fd 55 rfl
theorem fd_Book_lift (T : Tx K mg) : ∃ fd, FunD K "lift" "Book.lift" (defArgs s_Book_lift) (defBody s_Book_lift) (defScope s_Book_lift) [] [] (am K "Book" "lift") fd := T.fd 56 rfl
theorem fd_Book_undo (T : Tx K mg) : ∃ fd, FunD K "undo" "Book.undo" (defArgs s_Book_undo) (defBody s_Book_undo) (defScope s_Book_undo) [] [] (am K "Book" "undo") fd := T.fd 57 rfl
theorem fd_Book_len (T : Tx K mg) : ∃ fd, FunD K "__len__" "Book.__len__" (defArgs s_Book_len) (defBody s_Book_len) (defScope s_Book_len) [] [] (am K "Book" "__len__") fd := T.fd 58 rfl
theorem fd_q_flask (T : Tx K mg) : ∃ fd, FunD K "_law_flask" "_law_flask" (defArgs s_q_flask) (defBody s_q_flask) (defScope s_q_flask) [] [] (ad K "_law_flask") fd := T.fd 59 rfl
theorem k_q_flask (T : Tx K mg) : PySem.W.keepIn K (.ref (ad K "_law_flask")) = true := T.kp 59 rfl
theorem fd_q_pour (T : Tx K mg) : ∃ fd, FunD K "_law_pour" "_law_pour" (defArgs s_q_pour) (defBody s_q_pour) (defScope s_q_pour) [] [] (ad K "_law_pour") fd := T.fd 60 rfl
theorem k_q_pour (T : Tx K mg) : PySem.W.keepIn K (.ref (ad K "_law_pour")) = true := T.kp 60 rfl
theorem fd_q_pick (T : Tx K mg) : ∃ fd, FunD K "_law_pick" "_law_pick" (defArgs s_q_pick) (defBody s_q_pick) (defScope s_q_pick) [] [] (ad K "_law_pick") fd := T.fd 61 rfl
theorem k_q_pick (T : Tx K mg) : PySem.W.keepIn K (.ref (ad K "_law_pick")) = true := T.kp 61 rfl
theorem fd_q_hears (T : Tx K mg) : ∃ fd, FunD K "_law_hears" "_law_hears" (defArgs s_q_hears) (defBody s_q_hears) (defScope s_q_hears) [] [] (ad K "_law_hears") fd := T.fd 62 rfl
theorem k_q_hears (T : Tx K mg) : PySem.W.keepIn K (.ref (ad K "_law_hears")) = true := T.kp 62 rfl
theorem fd_q_duo (T : Tx K mg) : ∃ fd, FunD K "_law_duo" "_law_duo" (defArgs s_q_duo) (defBody s_q_duo) (defScope s_q_duo) [] [] (ad K "_law_duo") fd := T.fd 63 rfl
theorem k_q_duo (T : Tx K mg) : PySem.W.keepIn K (.ref (ad K "_law_duo")) = true := T.kp 63 rfl
theorem fd_q_pair (T : Tx K mg) : ∃ fd, FunD K "_law_pair" "_law_pair" (defArgs s_q_pair) (defBody s_q_pair) (defScope s_q_pair) [] [] (ad K "_law_pair") fd := T.fd 64 rfl
theorem k_q_pair (T : Tx K mg) : PySem.W.keepIn K (.ref (ad K "_law_pair")) = true := T.kp 64 rfl
theorem fd_q_place (T : Tx K mg) : ∃ fd, FunD K "_law_place" "_law_place" (defArgs s_q_place) (defBody s_q_place) (defScope s_q_place) [] [] (ad K "_law_place") fd := T.fd 65 rfl
theorem k_q_place (T : Tx K mg) : PySem.W.keepIn K (.ref (ad K "_law_place")) = true := T.kp 65 rfl
theorem fd_q_lot (T : Tx K mg) : ∃ fd, FunD K "_law_lot" "_law_lot" (defArgs s_q_lot) (defBody s_q_lot) (defScope s_q_lot) [] [] (ad K "_law_lot") fd := T.fd 66 rfl
theorem k_q_lot (T : Tx K mg) : PySem.W.keepIn K (.ref (ad K "_law_lot")) = true := T.kp 66 rfl
theorem fd_q_tells (T : Tx K mg) : ∃ fd, FunD K "_law_tells" "_law_tells" (defArgs s_q_tells) (defBody s_q_tells) (defScope s_q_tells) [] [] (ad K "_law_tells") fd := T.fd 67 rfl
theorem k_q_tells (T : Tx K mg) : PySem.W.keepIn K (.ref (ad K "_law_tells")) = true := T.kp 67 rfl
theorem fd_q_run (T : Tx K mg) : ∃ fd, FunD K "_law_run" "_law_run" (defArgs s_q_run) (defBody s_q_run) (defScope s_q_run) [] [] (ad K "_law_run") fd := T.fd 68 rfl
theorem k_q_run (T : Tx K mg) : PySem.W.keepIn K (.ref (ad K "_law_run")) = true := T.kp 68 rfl
theorem fd_q_lonely (T : Tx K mg) : ∃ fd, FunD K "_law_lonely" "_law_lonely" (defArgs s_q_lonely) (defBody s_q_lonely) (defScope s_q_lonely) [] [] (ad K "_law_lonely") fd := T.fd 69 rfl
theorem k_q_lonely (T : Tx K mg) : PySem.W.keepIn K (.ref (ad K "_law_lonely")) = true := T.kp 69 rfl
theorem fd_q_least (T : Tx K mg) : ∃ fd, FunD K "_law_least" "_law_least" (defArgs s_q_least) (defBody s_q_least) (defScope s_q_least) [] [] (ad K "_law_least") fd := T.fd 70 rfl
theorem k_q_least (T : Tx K mg) : PySem.W.keepIn K (.ref (ad K "_law_least")) = true := T.kp 70 rfl
theorem fd_q_came (T : Tx K mg) : ∃ fd, FunD K "_law_came" "_law_came" (defArgs s_q_came) (defBody s_q_came) (defScope s_q_came) [] [] (ad K "_law_came") fd := T.fd 71 rfl
theorem k_q_came (T : Tx K mg) : PySem.W.keepIn K (.ref (ad K "_law_came")) = true := T.kp 71 rfl
theorem fd_q_holds (T : Tx K mg) : ∃ fd, FunD K "_law_holds" "_law_holds" (defArgs s_q_holds) (defBody s_q_holds) (defScope s_q_holds) [] [] (ad K "_law_holds") fd := T.fd 72 rfl
theorem k_q_holds (T : Tx K mg) : PySem.W.keepIn K (.ref (ad K "_law_holds")) = true := T.kp 72 rfl
theorem fd_q_first_bad (T : Tx K mg) : ∃ fd, FunD K "_law_first_bad" "_law_first_bad" (defArgs s_q_first_bad) (defBody s_q_first_bad) (defScope s_q_first_bad) [] [] (ad K "_law_first_bad") fd := T.fd 73 rfl
theorem k_q_first_bad (T : Tx K mg) : PySem.W.keepIn K (.ref (ad K "_law_first_bad")) = true := T.kp 73 rfl
theorem fd_q_shows (T : Tx K mg) : ∃ fd, FunD K "_law_shows" "_law_shows" (defArgs s_q_shows) (defBody s_q_shows) (defScope s_q_shows) [] [] (ad K "_law_shows") fd := T.fd 74 rfl
theorem k_q_shows (T : Tx K mg) : PySem.W.keepIn K (.ref (ad K "_law_shows")) = true := T.kp 74 rfl
theorem fd_q_tried (T : Tx K mg) : ∃ fd, FunD K "_law_tried" "_law_tried" (defArgs s_q_tried) (defBody s_q_tried) (defScope s_q_tried) [] [] (ad K "_law_tried") fd := T.fd 75 rfl
theorem k_q_tried (T : Tx K mg) : PySem.W.keepIn K (.ref (ad K "_law_tried")) = true := T.kp 75 rfl
theorem fd_q_store_step (T : Tx K mg) : ∃ fd, FunD K "_law_store_step" "_law_store_step" (defArgs s_q_store_step) (defBody s_q_store_step) (defScope s_q_store_step) [] [] (ad K "_law_store_step") fd := T.fd 76 rfl
theorem k_q_store_step (T : Tx K mg) : PySem.W.keepIn K (.ref (ad K "_law_store_step")) = true := T.kp 76 rfl
theorem fd_q_near (T : Tx K mg) : ∃ fd, FunD K "_law_near" "_law_near" (defArgs s_q_near) (defBody s_q_near) (defScope s_q_near) [] [] (ad K "_law_near") fd := T.fd 77 rfl
theorem k_q_near (T : Tx K mg) : PySem.W.keepIn K (.ref (ad K "_law_near")) = true := T.kp 77 rfl
theorem fd_q_wish (T : Tx K mg) : ∃ fd, FunD K "_law_wish" "_law_wish" (defArgs s_q_wish) (defBody s_q_wish) (defScope s_q_wish) [] [] (ad K "_law_wish") fd := T.fd 78 rfl
theorem k_q_wish (T : Tx K mg) : PySem.W.keepIn K (.ref (ad K "_law_wish")) = true := T.kp 78 rfl
theorem fd_q_put (T : Tx K mg) : ∃ fd, FunD K "_law_put" "_law_put" (defArgs s_q_put) (defBody s_q_put) (defScope s_q_put) [] [] (ad K "_law_put") fd := T.fd 79 rfl
theorem k_q_put (T : Tx K mg) : PySem.W.keepIn K (.ref (ad K "_law_put")) = true := T.kp 79 rfl
theorem fd_q_book_step (T : Tx K mg) : ∃ fd, FunD K "_law_book_step" "_law_book_step" (defArgs s_q_book_step) (defBody s_q_book_step) (defScope s_q_book_step) [] [] (ad K "_law_book_step") fd := T.fd 80 rfl
theorem k_q_book_step (T : Tx K mg) : PySem.W.keepIn K (.ref (ad K "_law_book_step")) = true := T.kp 80 rfl
theorem fd_q_right (T : Tx K mg) : ∃ fd, FunD K "_law_right" "_law_right" (defArgs s_q_right) (defBody s_q_right) (defScope s_q_right) [] [] (ad K "_law_right") fd := T.fd 81 rfl
theorem k_q_right (T : Tx K mg) : PySem.W.keepIn K (.ref (ad K "_law_right")) = true := T.kp 81 rfl
theorem fd_law (T : Tx K mg) : ∃ fd, FunD K "law" "law" (defArgs s_law) (defBody s_law) (defScope s_law) [] [] (ad K "law") fd := T.fd 82 rfl
theorem k_law (T : Tx K mg) : PySem.W.keepIn K (.ref (ad K "law")) = true := T.kp 82 rfl
end Tx
end SW
section
set_option maxHeartbeats 0
/-! The head: the top is run once in the kernel, and the facts of K0 are looked at behind it. -/
namespace SW
open PySem PySem.W PySem.Calls PyProof.Rows
abbrev RR : OpenRow := OpenLaw.row PySem.Challenge.rw_shelfwithin_k97_whole_sessions_of_stores
abbrev qv : Program := view RR.prog [83]
def names0 : List PySem.Str := ["__name__", "WrongValue", "InvalidText", "InvalidNumber", "InvalidHears", "InvalidName", "InvalidWish", "InvalidIndex", "NotAPair", "InvalidUpper", "InvalidLower", "WrongName", "UnknownName", "NoAnswer", "NothingToUndo", "Broken", "MOST_SIZE", "MOST_PLACES", "LETTERS", "DIGITS", "LONGEST_NAME", "is_integer", "is_within", "is_name", "check_name", "read_number", "MISSES", "MOVED", "EACH", "wrong_number"]
def names1 : List PySem.Str := ["is_hears", "text_of", "read_hears", "read_pair", "Pair", "check_pair", "MOST_PLACE", "wrong_ask", "check_place", "Run", "run_of", "Mark", "Trial", "Attempt", "Store", "is_linked", "ways_for", "is_enough", "is_wish", "holds", "check_wishes", "Book", "_law_flask", "_law_pour", "_law_pick", "_law_hears", "_law_duo", "_law_pair", "_law_place", "_law_lot"]
def names2 : List PySem.Str := ["_law_tells", "_law_run", "_law_lonely", "_law_least", "_law_came", "_law_holds", "_law_first_bad", "_law_shows", "_law_tried", "_law_store_step", "_law_near", "_law_wish", "_law_put", "_law_book_step", "_law_right"]
def names : List PySem.Str := names0 ++ names1 ++ names2
/-- the defs that make lambdas -/
def lamD : List (PySem.Str × Option PySem.Str) := [("_law_store_step", none), ("_law_book_step", none), ("Book", some "__setitem__")]
/-- their tables differ -/
def tabNe (K : Frag) : Bool := decide ((He.cT K ("_law_store_step", none)).2 ≠ (He.cT K ("_law_book_step", none)).2) && (decide ((He.cT K ("_law_store_step", none)).2 ≠ (He.cT K ("Book", some "__setitem__")).2) && decide ((He.cT K ("_law_book_step", none)).2 ≠ (He.cT K ("Book", some "__setitem__")).2))
abbrev AlB : Type := Bool × List DfnOb
abbrev AlW : Type := AlB × AlB
def dfA : List Dfn := dfns.take 42
def dfB : List Dfn := dfns.drop 42
def obA (K : Frag) : AlB := ((fl0.all fun f => f K) && (fl1.all fun f => f K) && (fl2.all fun f => f K) && (fl3.all fun f => f K) && (dfA.all fun d => d.ok K), dfA.map fun d => d.ob K)
def obB (g : Addr → Option Obj) (K : Frag) : AlB := ((fl4.all fun f => f K) && (fl5.all fun f => f K) && (fl6.all fun f => f K) && ((dfB.all fun d => d.ok K) && He.tabsB g lamD K && tabNe K), dfB.map fun d => d.ob K)
def refW : Value → List Addr
  | .ref a => [a]
  | _ => []
/-- what an object of the top leads to: a dict to its values, a class to its dict and its mro, a def to its code and its defaults, a property to its getter -/
def stepW : Option Obj → List Addr
  | some ⟨_, _, .dict es _, _⟩ => es.toList.flatMap fun e => refW e.val
  | some ⟨_, _, .cls cd, _⟩ => cd.ns :: cd.mro.flatMap refW
  | some ⟨_, _, .func fd, _⟩ => refW fd.code ++ refW fd.defaults
  | some ⟨.type "property", _, .fields vs, _⟩ => (vs.toList.take 1).flatMap refW
  | _ => []
def reachW (g : Addr → Option Obj) : Nat → List Addr → List Addr
  | 0, l => l
  | n + 1, l => l ++ reachW g n (l.flatMap fun a => stepW (g a))
def partW (g : Addr → Option Obj) : Frag := He.frT g (reachW g 5 [mainGlobals])
def obW (g : Addr → Option Obj) : AlW := (obA (partW g), obB g (partW g))
def valA : AlB := (true, dfA.map Dfn.val)
def valB : AlB := (true, dfB.map Dfn.val)
def valW : AlW := (valA, valB)
/-- two looks at one run -/
theorem two_looks {σ α β γ δ : Type} {x : Option σ} {f : σ → α} {g : σ → β} {h1 : σ → γ} {h2 : σ → δ} {a : α} {b : β} {u : γ} {v : δ} (e1 : x.map (fun s => (f s, g s, h1 s)) = some (a, b, u)) (e2 : x.map (fun s => (f s, g s, h2 s)) = some (a, b, v)) : x.map (fun s => (f s, g s, (h1 s, h2 s))) = some (a, b, (u, v)) := by
  cases x with
  | none => cases e1
  | some s =>
    injection e1 with e1
    injection e2 with e2
    injection e1 with e3 e4
    injection e4 with e5 e6
    injection e2 with e7 e8
    injection e8 with e9 e10
    show some (f s, g s, (h1 s, h2 s)) = _
    rw [e3, e5, e6, e10]
theorem runA (w : World) : HandSHeadRun.RunEq RR qv ⟨AlB, fun s => obA (partW s.heap.get?), fun _ => valA, fun _ _ => True, fun _ _ _ => trivial, fun _ _ _ _ _ => trivial⟩ (fun s => obA (partW (HandSHeadRun.getT s))) 12000 names w := by
  intro os
  kernel_rfl
theorem runB (w : World) : HandSHeadRun.RunEq RR qv ⟨AlB, fun s => obB s.heap.get? (partW s.heap.get?), fun _ => valB, fun _ _ => True, fun _ _ _ => trivial, fun _ _ _ _ _ => trivial⟩ (fun s => obB (HandSHeadRun.getT s) (partW (HandSHeadRun.getT s))) 12000 names w := by
  intro os
  kernel_rfl
theorem run0 (w : World) : HandSHeadRun.RunEq RR qv ⟨AlW, fun s => obW s.heap.get?, fun _ => valW, fun _ _ => True, fun _ _ _ => trivial, fun _ _ _ _ _ => trivial⟩ (fun s => obW (HandSHeadRun.getT s)) 12000 names w := fun os => two_looks (runA w os) (runB w os)
end SW
end
/-! Ground: from a def's text to its promise; readings whose heaps are names; the steps. -/
namespace SW
open PySem PySem.Spec PyProof.Rows L2
abbrev Fr0 := PySem.W.Frag
/-! ### promises by number of values -/
abbrev s0 (p : Hp → VK → XK → Prop) : Sp := fun vs H Q E => vs = [] ∧ p H Q E
abbrev s1 (p : V → Hp → VK → XK → Prop) : Sp := fun vs H Q E => ∃ a, vs = [a] ∧ p a H Q E
abbrev s2 (p : V → V → Hp → VK → XK → Prop) : Sp := fun vs H Q E => ∃ a b, vs = [a, b] ∧ p a b H Q E
abbrev s3 (p : V → V → V → Hp → VK → XK → Prop) : Sp := fun vs H Q E => ∃ a b c, vs = [a, b, c] ∧ p a b c H Q E
abbrev s4 (p : V → V → V → V → Hp → VK → XK → Prop) : Sp := fun vs H Q E => ∃ a b c d, vs = [a, b, c, d] ∧ p a b c d H Q E
abbrev s5 (p : V → V → V → V → V → Hp → VK → XK → Prop) : Sp := fun vs H Q E => ∃ a b c d e, vs = [a, b, c, d, e] ∧ p a b c d e H Q E
abbrev s6 (p : V → V → V → V → V → V → Hp → VK → XK → Prop) : Sp := fun vs H Q E => ∃ a b c d e f, vs = [a, b, c, d, e, f] ∧ p a b c d e f H Q E
theorem fnr {P : Program} {w : World} {K : Fr0} {mg : Str → Option Value} {base : Heap} {x qual : Str} {params : Arguments} {body : List Stmt} {scope : Scope} {f : Addr} {fd : FuncData} {CX : CXT} {N ps : List Str} {k : Nat} {sp : Sp}
    (F : FunD K x qual params body scope [] [] f fd)
    (hb : ∀ (kV doc pm : Value) (an : Option Addr) (cdv ct : Value) (us : List Value), us.length = ps.length → bindArgs (PySem.W.fnOf x qual params body scope .none kV doc pm an cdv ct) ⟨us, []⟩ = pure (ps.zip us))
    (S : FnScope N ps scope) (len : ∀ vs H Q E, sp vs H Q E → vs.length = ps.length)
    (hbody : ∀ (cdv : Value) (A : Around) (outer : List Env) (s : Shared) (H : Hp) (vs : List V) (Q : VK) (E : XK), Room k (A.deeper (envOfC qual scope s.heap.objs.size f cdv)) → sp vs H Q E →
      ∃ t, PSs (cxOf CX P w K mg base N qual scope f cdv A outer s H E) body t ∧ t { nx := fun _ H' => Q .non H', rt := Q } (start N vs) H) : FnR P w K mg base CX (k + 1) f sp :=
  (FnOk.raw (F.ok S len hbody) (F.bindsN hb) .nil).imp fun vs H Q E h => by
    rw [List.append_nil]
    exact h
/-- a def with a default: the first j defaults are written, the others fill up -/
theorem fnrD {P : Program} {w : World} {K : Fr0} {mg : Str → Option Value} {base : Heap} {x qual : Str} {params : Arguments} {body : List Stmt} {scope : Scope} {dvs : List V} {f : Addr} {fd : FuncData} {CX : CXT} {N ps : List Str} {k : Nat} {sp : Sp}
    (F : FunD K x qual params body scope dvs [] f fd) (n j : Nat) (hd : dvs ≠ []) (hn : n + (dvs.length - j) = ps.length)
    (hb : ∀ (T : Addr) (kV doc pm : Value) (an : Option Addr) (cdv ct : Value) (us its : List Value), us.length = n → its.length = dvs.length →
      ∃ k, bindArgs (PySem.W.fnOf x qual params body scope (.ref T) kV doc pm an cdv ct) ⟨us, []⟩ = seqItems? (.ref T) >>= k ∧ k (some its.toArray) = pure (ps.zip (us ++ its.drop j)))
    (S : FnScope N ps scope) (len : ∀ vs H Q E, sp vs H Q E → vs.length = ps.length)
    (hbody : ∀ (cdv : Value) (A : Around) (outer : List Env) (s : Shared) (H : Hp) (vs : List V) (Q : VK) (E : XK), Room k (A.deeper (envOfC qual scope s.heap.objs.size f cdv)) → sp vs H Q E →
      ∃ t, PSs (cxOf CX P w K mg base N qual scope f cdv A outer s H E) body t ∧ t { nx := fun _ H' => Q .non H', rt := Q } (start N vs) H) : FnR P w K mg base CX (k + 1) f (fun vs H Q E => sp (vs ++ dvs.drop j) H Q E) := by
  obtain ⟨ds, hv, hB⟩ := F.binds1 n j hd hn hb
  exact FnOk.raw (F.ok S len hbody) hB hv
theorem hu65 {A : Around} {k : Nat} (hr : Room k A) : A.units + 65 < cLine := by
  have := hr.un
  omega
theorem boot_isinst : bootBuiltins "isinstance" = some (.builtin "isinstance") := by decide +kernel
theorem boot_intT : bootBuiltins "int" = some (.type "int") := by decide +kernel
theorem boot_boolT : bootBuiltins "bool" = some (.type "bool") := by decide +kernel
theorem boot_strT : bootBuiltins "str" = some (.type "str") := by decide +kernel
theorem boot_tupleT : bootBuiltins "tuple" = some (.type "tuple") := by decide +kernel
theorem boot_listT : bootBuiltins "list" = some (.type "list") := by decide +kernel
theorem boot_dictT : bootBuiltins "dict" = some (.type "dict") := by decide +kernel
theorem boot_enumT : bootBuiltins "enumerate" = some (.type "enumerate") := by decide +kernel
theorem boot_allB : bootBuiltins "all" = some (.builtin "all") := by decide +kernel
theorem boot_absB : bootBuiltins "abs" = some (.builtin "abs") := by decide +kernel
theorem boot_divmodB : bootBuiltins "divmod" = some (.builtin "divmod") := by decide +kernel
theorem boot_maxB : bootBuiltins "max" = some (.builtin "max") := by decide +kernel
theorem boot_minB : bootBuiltins "min" = some (.builtin "min") := by decide +kernel
theorem boot_reprB : bootBuiltins "repr" = some (.builtin "repr") := by decide +kernel
theorem boot_sortedB : bootBuiltins "sorted" = some (.builtin "sorted") := by decide +kernel
theorem boot_lenB : bootBuiltins "len" = some (.builtin "len") := by decide +kernel
/-! ### heaps that grow, heaps that change at one place -/
/-- everything but what stands at a is as it was -/
def Chg (a : Addr) (H H' : Hp) : Prop := ∀ b o, b ≠ a → H b = some o → H' b = some o
theorem sm_hp {H H' : Hp} {a : Addr} {o : HO} (S : Same H H') (h : H a = some o) : H' a = some o := S a o h
theorem sm_rd {H H' : Hp} {a : Addr} {o : HO} (S : Same H H') (h : Rd H a o) : Rd H' a o := by
  rcases h with h | ⟨u, h⟩
  · exact .inl (S _ _ h)
  · exact .inr ⟨u, S _ _ h⟩
theorem sm_T {K : Fr0} {H H' : Hp} {a : Addr} {xs : List V} (S : Same H H') (h : SqT K H a xs) : SqT K H' a xs := by
  rcases h with h | h
  · exact .inl (sm_rd S h)
  · exact .inr h
theorem sm_L {K : Fr0} {H H' : Hp} {a : Addr} {xs : List V} (S : Same H H') (h : SqL K H a xs) : SqL K H' a xs := by
  rcases h with h | h
  · exact .inl (sm_rd S h)
  · exact .inr h
theorem ch_hp {H H' : Hp} {a b : Addr} {o : HO} (C : Chg a H H') (n : b ≠ a) (h : H b = some o) : H' b = some o := C b o n h
theorem Chg.of {H : Hp} {a : Addr} {o : HO} : Chg a H (upd H a o) := fun b u n h => by
  rw [upd_ne n]
  exact h
theorem Same.of_new {H : Hp} {p : Addr} {o : HO} (h : H p = none) : Same H (upd H p o) := fun a u e => by
  rw [upd_ne (ne_of_none e h)]
  exact e
mutual
theorem Dp.same {K : Fr0} {H H' : Hp} (S : Same H H') : ∀ (d : PyData) (v : V), Dp K H v d → Dp K H' v d
  | .none, _, h => by cases h; exact .non
  | .bool b, _, h => by cases h; exact .bl b
  | .int i, _, h => by cases h; exact .int i
  | .str x, _, h => by cases h; exact .str x
  | .list ds, _, h => by cases h with | lst a b => exact .lst (sm_L S a) (DpAll.same S _ _ b)
  | .tuple ds, _, h => by cases h with | tup a b => exact .tup (sm_T S a) (DpAll.same S _ _ b)
  | .dict _, _, h => by cases h
theorem DpAll.same {K : Fr0} {H H' : Hp} (S : Same H H') : ∀ (ds : List PyData) (vs : List V), DpAll K H vs ds → DpAll K H' vs ds
  | [], _, h => by cases h; exact .nil
  | d :: ds, _, h => by cases h with | cons a b => exact .cons (Dp.same S _ _ a) (DpAll.same S _ _ b)
end
theorem sm_Dp {K : Fr0} {H H' : Hp} {v : V} {d : PyData} (S : Same H H') (h : Dp K H v d) : Dp K H' v d := Dp.same S d v h
theorem sm_DpA {K : Fr0} {H H' : Hp} {v : List V} {d : List PyData} (S : Same H H') (h : DpAll K H v d) : DpAll K H' v d := DpAll.same S d v h
theorem sq_T {K : Fr0} {H : Hp} {a : Addr} {xs : List V} (h : H a = some (.tup xs)) : SqT K H a xs := .inl (.inl h)
theorem sq_L {K : Fr0} {H : Hp} {a : Addr} {xs : List V} (h : H a = some (.lst xs)) : SqL K H a xs := .inl (.inl h)
/-! ### rules whose reading names the new heap -/
section
variable {X : Cx}
theorem peImp {e : Expr} {t t' : TE} (h : PE X e t) (k : ∀ σ H Q, t' σ H Q → t σ H Q) : PE X e t' := ⟨fun pins s σ H Q I q => h.run pins s σ H Q I (k σ H Q q)⟩
theorem psImp {e : Stmt} {t t' : TS} (h : PS X e t) (k : ∀ D σ H, t' D σ H → t D σ H) : PS X e t' := ⟨fun pins s σ H D I q => h.run pins s σ H D I (k D σ H q)⟩
theorem opImp {f : Value → Value → Sem Value} {r r' : R2} (h : OpR X f r) (k : ∀ x y H Q, r' x y H Q → r x y H Q) : OpR X f r' := fun pins s σ H x y v u Q I rx ry q => h pins s σ H x y v u Q I rx ry (k _ _ _ _ q)
theorem callImp {f : Value} {r r' : List V → Hp → VK → Prop} (h : CallR X f r) (k : ∀ x H Q, r' x H Q → r x H Q) : CallR X f r' := fun pins s σ H vs us Q I r q => h pins s σ H vs us Q I r (k _ _ _ q)
theorem slImp {r r' : V → Option Int → Option Int → Hp → VK → Prop} (h : SlR X r) (k : ∀ x a b H Q, r' x a b H Q → r x a b H Q) : SlR X r' := fun pins s σ H x v vl vu lo hi sl Q I rx hs pl pu q => h pins s σ H x v vl vu lo hi sl Q I rx hs pl pu (k _ _ _ _ _ q)
end
/-- the new object at p: o; Q of it, whatever the heap is called -/
def New (H : Hp) (o : HO) (Q : VK) : Prop := ∀ p H', H p = none → Same H H' → H' p = some o → Q (.ref p) H'
theorem New.go {H : Hp} {o : HO} {Q : VK} (h : New H o Q) : ∀ p, H p = none → Q (.ref p) (upd H p o) := fun p np => h p _ np (Same.of_new np) upd_same
/-- what stands at a becomes o -/
def Put (H : Hp) (a : Addr) (o : HO) (Q : Hp → Prop) : Prop := ∀ H', Chg a H H' → H' a = some o → Q H'
theorem Put.go {H : Hp} {a : Addr} {o : HO} {Q : Hp → Prop} (h : Put H a o Q) : Q (upd H a o) := h _ Chg.of upd_same
/-- a tuple of xs, new or not -/
def NewT (K : Fr0) (H : Hp) (xs : List V) (Q : VK) : Prop := ∀ p H', Same H H' → SqT K H' p xs → Q (.ref p) H'
theorem NewT.go {K : Fr0} {H : Hp} {xs : List V} {Q : VK} (h : NewT K H xs Q) : ∀ p, H p = none → Q (.ref p) (upd H p (.tup xs)) := fun p np => h p _ (Same.of_new np) (sq_T upd_same)
/-! ### a reading with room for what follows -/
def cE (t : TE) : TE := fun σ H Q => ∃ R : VK, t σ H R ∧ ∀ v H', R v H' → Q v H'
def cA (t : TA) : TA := fun σ H Q => ∃ R : List V → Hp → Prop, t σ H R ∧ ∀ v H', R v H' → Q v H'
section
variable {X : Cx}
theorem peC {e : Expr} {t : TE} (h : PE X e t) : PE X e (cE t) := ⟨fun pins s σ H Q I q => by
  obtain ⟨R, q1, q2⟩ := q
  refine wpAny_mono (h.run pins s σ H R I q1) (fun u s' z => ?_) fun _ _ z => z
  obtain ⟨v, H', I', r, z⟩ := z
  exact ⟨v, H', I', r, q2 v H' z⟩⟩
theorem paC {es : List Expr} {t : TA} (h : PA X es t) : PA X es (cA t) := ⟨fun pos pins s σ H Q I q => by
  obtain ⟨R, q1, q2⟩ := q
  refine wpAny_mono (h.run pos pins s σ H R I q1) (fun u s' z => ?_) fun _ _ z => z
  obtain ⟨v, H', I', r, z⟩ := z
  exact ⟨v, H', I', r, q2 v H' z⟩⟩
/-! ### displays -/
def tTupS (K : Fr0) (t : TA) : TE := fun σ H Q => t σ H fun xs H1 => xs.length ≤ sizeLine ∧ NewT K H1 xs Q
def tLstS (t : TA) : TE := fun σ H Q => t σ H fun xs H1 => xs.length ≤ sizeLine ∧ New H1 (.lst xs) Q
def tDicS : TE := fun _ H Q => New H (.dK []) Q
theorem pe_tupS {es : List Expr} {c : Nat} {pos : Pos} {t : TA} (h : PA X es t) : PE X (.Tuple es c pos) (tTupS X.K t) :=
  peImp (pe_tup (paC h)) fun _ _ _ q => ⟨_, q, fun _ _ k => ⟨k.1, NewT.go k.2⟩⟩
theorem pe_lstS {es : List Expr} {pos : Pos} {t : TA} (h : PA X es t) : PE X (.List es pos) (tLstS t) :=
  peImp (pe_lst (paC h)) fun _ _ _ q => ⟨_, q, fun _ _ k => ⟨k.1, New.go k.2⟩⟩
theorem pe_dicS {pos : Pos} : PE X (.Dict [] [] pos) tDicS := peImp pe_dnewK fun _ _ _ q => New.go q
/-! ### sequences -/
def rSlLs (K : Fr0) : V → Option Int → Option Int → Hp → VK → Prop := fun x lo hi H Q => ∃ a xs, x = .ref a ∧ SqL K H a xs ∧ New H (.lst (cutV xs lo hi)) Q
def rSlTs (K : Fr0) : V → Option Int → Option Int → Hp → VK → Prop := fun x lo hi H Q => ∃ a xs, x = .ref a ∧ SqT K H a xs ∧ NewT K H (cutV xs lo hi) Q
theorem sl_Ls : SlR X (rSlLs X.K) := slImp sl_list fun _ _ _ _ _ ⟨a, xs, e, h, q⟩ => ⟨a, xs, e, h, New.go q⟩
theorem sl_Ts : SlR X (rSlTs X.K) := slImp sl_tupA fun _ lo hi H _ ⟨a, xs, e, h, q⟩ => ⟨a, xs, e, h, fun z => q a H (Same.refl H) (by
  have e2 : cutV xs lo hi = xs := by
    unfold cutV
    rw [z.1, z.2]
    simp
  rw [e2]
  exact h), fun _ => NewT.go q⟩
def rCats : R2 := fun x y H Q => ∃ l b xs zs, x = .ref l ∧ y = .ref b ∧ H l = some (.lst xs) ∧ H b = some (.lst zs) ∧ xs.length + zs.length ≤ sizeLine ∧ New H (.lst (xs ++ zs)) Q
theorem op_Cats : OpR X (binaryOp .Add) rCats := opImp op_cat fun _ _ _ _ ⟨l, b, xs, zs, e1, e2, h1, h2, n, q⟩ => ⟨l, b, xs, zs, e1, e2, h1, h2, n, New.go q⟩
def rCatTs (K : Fr0) : R2 := fun x y H Q => ∃ a b xs ys, x = .ref a ∧ y = .ref b ∧ SqT K H a xs ∧ SqT K H b ys ∧ xs.length + ys.length ≤ sizeLine ∧ NewT K H (xs ++ ys) Q
theorem op_CatTs : OpR X (binaryOp .Add) (rCatTs X.K) := opImp op_catA fun _ _ H _ ⟨a, b, xs, ys, e1, e2, h1, h2, n, q⟩ =>
  ⟨a, b, xs, ys, e1, e2, h1, h2, n, fun z => q b H (Same.refl H) (by rw [z]; exact h2), fun _ z => q a H (Same.refl H) (by rw [z, List.append_nil]; exact h1), fun _ _ => NewT.go q⟩
/-! ### calls -/
def rInt1 : List V → Hp → VK → Prop := fun xs H Q => ∃ i, xs = [.int i] ∧ Q (.int i) H
theorem call_Int1 : CallR X (.type "int") rInt1 := callImp call_int1 fun _ _ _ q => .inl q
def rDivM : List V → Hp → VK → Prop := fun xs H Q => ∃ i j, xs = [.int i, .int j] ∧ CDiv i j ∧ ∀ p H', Same H H' → H' p = some (.tup [.int (i / j), .int (i % j)]) → Q (.ref p) H'
theorem call_DivM : CallR X (.builtin "divmod") rDivM := callImp call_divmod fun _ _ _ ⟨i, j, e, c, q⟩ => ⟨i, j, e, c, fun p np => q p _ (Same.of_new np) upd_same⟩
def rLenL (K : Fr0) : List V → Hp → VK → Prop := fun xs H Q => ∃ p ys, xs = [.ref p] ∧ SqL K H p ys ∧ Q (.int ys.length) H
def rLenT (K : Fr0) : List V → Hp → VK → Prop := fun xs H Q => ∃ p ys, xs = [.ref p] ∧ SqT K H p ys ∧ Q (.int ys.length) H
theorem call_LenL : CallR X (.builtin "len") (rLenL X.K) := callImp call_len_seq fun _ _ _ ⟨p, ys, e, h, q⟩ => ⟨p, ys, e, .inl h, q⟩
theorem call_LenT : CallR X (.builtin "len") (rLenT X.K) := callImp call_len_seq fun _ _ _ ⟨p, ys, e, h, q⟩ => ⟨p, ys, e, .inr h, q⟩
def rListL (K : Fr0) : List V → Hp → VK → Prop := fun xs H Q => ∃ p ys, xs = [.ref p] ∧ SqL K H p ys ∧ New H (.lst ys) Q
theorem call_ListL : CallR X (.type "list") (rListL X.K) := callImp call_list_of fun _ _ _ ⟨p, ys, e, h, q⟩ => ⟨p, ys, e, .inl h, New.go q⟩
def rTupL (K : Fr0) : List V → Hp → VK → Prop := fun xs H Q => ∃ p ys, xs = [.ref p] ∧ SqL K H p ys ∧ NewT K H ys Q
theorem call_TupL : CallR X (.type "tuple") (rTupL X.K) := callImp call_tuple_of fun _ _ _ ⟨p, ys, e, h, q⟩ => ⟨p, ys, e, .inl ⟨h, NewT.go q⟩⟩
def rDictD : List V → Hp → VK → Prop := fun xs H Q => ∃ a kvs, xs = [.ref a] ∧ Rd H a (.dK kvs) ∧ New H (.dK kvs) Q
theorem call_DictD : CallR X (.type "dict") rDictD := callImp call_dictD fun _ _ _ ⟨a, kvs, e, h, q⟩ => ⟨a, kvs, e, h, New.go q⟩
def rListDs : List V → Hp → VK → Prop := fun xs H Q => ∃ a kvs, xs = [.ref a] ∧ H a = some (.dK kvs) ∧ New H (.lst (kvs.map fun kv => kV kv.1)) Q
theorem call_ListDs (hc : X.calm = true) : CallR X (.type "list") rListDs := callImp (call_list_dK hc) fun _ _ _ ⟨a, kvs, e, h, q⟩ => ⟨a, kvs, e, h, New.go q⟩
def rSrtI (K : Fr0) : List V → Hp → VK → Prop := fun xs H Q => ∃ (a : Addr) (ns : List Int), xs = [.ref a] ∧ SqL K H a (ns.map V.int) ∧ ∀ ns' : List Int, ns'.Perm ns → ns'.Pairwise (· ≤ ·) → New H (.lst (ns'.map V.int)) Q
theorem call_SrtI : CallR X (.builtin "sorted") (rSrtI X.K) := callImp cr_sortedI fun _ _ _ ⟨a, ns, e, h, q⟩ => ⟨a, ns, e, h, fun ns' p h1 h2 np => (q ns' h1 h2).go p np⟩
def rSrtD : List V → Hp → VK → Prop := fun xs H Q => ∃ (a : Addr) (kvs : List (Key × V)) (ks : List Str), xs = [.ref a] ∧ Rd H a (.dK kvs) ∧ kvs.map (·.1) = ks.map Sum.inr ∧ ks.length < 64 ∧ ∀ ys : List Str, ys.Perm ks → sortedS ys = true → New H (.lst (ys.map V.str)) Q
theorem call_SrtD (hc : X.calm = true) : CallR X (.builtin "sorted") rSrtD := callImp (call_sortedD hc) fun _ _ _ ⟨a, kvs, ks, e, h, e2, n, q⟩ => ⟨a, kvs, ks, e, h, e2, n, fun ys p h1 h2 np => (q ys h1 h2).go p np⟩
/-! ### what is written -/
def rSetLs : V → V → V → Hp → (Hp → Prop) → Prop := fun o i v H Q => ∃ p xs k j, o = .ref p ∧ i = .int k ∧ H p = some (.lst xs) ∧ ixN xs.length k = some j ∧ Put H p (.lst (xs.set j v)) Q
theorem set_Ls : PSet X rSetLs := fun pins s σ H o i v ov iv u Q I ro ri rv ⟨p, xs, k, j, e1, e2, h, n, q⟩ => set_list pins s σ H o i v ov iv u Q I ro ri rv ⟨p, xs, k, j, e1, e2, h, n, q.go⟩
def rSetDs : V → V → V → Hp → (Hp → Prop) → Prop := fun o i v H Q => ∃ a kvs k, o = .ref a ∧ H a = some (.dK kvs) ∧ i = kV k ∧ kvs.length < sizeLine ∧ Put H a (.dK (putK kvs k v)) Q
theorem set_Ds (hu : X.A.units + 1 < cLine) : PSet X rSetDs := fun pins s σ H o i v ov iv u Q I ro ri rv ⟨a, kvs, k, e, h, ek, n, q⟩ => set_dict hu pins s σ H o i v ov iv u Q I ro ri rv ⟨a, _, e, .inl ⟨kvs, k, h, ek, n, rfl⟩, q.go⟩
def rApps : V → List V → Hp → VK → Prop := fun x vs H Q => ∃ l xs y, x = .ref l ∧ vs = [y] ∧ H l = some (.lst xs) ∧ xs.length < sizeLine ∧ Put H l (.lst (xs ++ [y])) fun H' => Q .non H'
theorem mt_apps : MtM X "list.append" rApps := fun pins s σ H x xs v us Q I rx rs ⟨l, ys, y, e1, e2, h, n, q⟩ => mt_append pins s σ H x xs v us Q I rx rs ⟨l, ys, y, e1, e2, h, n, q.go⟩
/-- d[k] = e -/
def sDPutS (td ty tv : TE) : TS := fun D σ H => tv σ H fun v H1 => td σ H1 fun x H2 => ty σ H2 fun y H3 => ∃ a kvs k, x = .ref a ∧ H3 a = some (.dK kvs) ∧ y = kV k ∧ kvs.length < sizeLine ∧ Put H3 a (.dK (putK kvs k v)) (D.nx σ)
theorem ps_dputS {td ty tv : TE} {o i value : Expr} {pos pos' : Pos} (hu : X.A.units + 1 < cLine) (ho : PE X o td) (hi : PE X i ty) (hv : PE X value tv) (hs : swapsWith value (some (.Subscript o i pos')) pos.line X.env = pure false) :
    PS X (.Assign [.Subscript o i pos'] value pos) (sDPutS td ty tv) :=
  psImp (ps_dput hu (peC ho) (peC hi) (peC hv) hs) fun _ _ _ q => ⟨_, q, fun _ _ k1 => ⟨_, k1, fun _ _ k2 => ⟨_, k2, fun _ _ ⟨a, kvs, k, e, h, ek, n, z⟩ => ⟨a, _, e, .inl ⟨kvs, k, h, ek, n, rfl⟩, z.go⟩⟩⟩⟩
/-- o.f = e -/
def sFldS (K : Fr0) (ta tv : TE) (f : Str) : TS := fun D σ H => tv σ H fun y H1 => ta σ H1 fun x H2 => ∃ a C dx fs, x = .ref a ∧ H2 a = some (.ins C dx fs) ∧ Cls K C ∧ NoAttr K C f ∧ fs.length < 1000 ∧ Put H2 a (.ins C dx (putF f y fs)) (D.nx σ)
theorem ps_fldS {ta tv : TE} {o value : Expr} {f : Str} {pos pos' : Pos} (ha : PE X o ta) (hv : PE X value tv) (hs : swapsWith value (some (.Attribute o f pos')) pos.line X.env = pure false) : PS X (.Assign [.Attribute o f pos'] value pos) (sFldS X.K ta tv f) :=
  psImp (ps_fld (peC ha) (peC hv) hs) fun _ _ _ q => ⟨_, q, fun _ _ k1 => ⟨_, k1, fun _ _ ⟨a, C, dx, fs, e, h, c, n, l, z⟩ => ⟨a, C, dx, fs, e, h, c, n, l, z.go⟩⟩⟩
/-- an object made: x, its dict d -/
def NewI (C : Addr) (sp : Sp) (vs : List V) (H : Hp) (Q : VK) : Prop := ∀ x d H', H x = none → H d = none → d ≠ x → Same H H' → H' x = some (.ins C d []) → sp (.ref x :: vs) H' (fun v H2 => v = .non ∧ Q (.ref x) H2) E0
theorem NewI.go {C : Addr} {sp : Sp} {vs : List V} {H : Hp} {Q : VK} (h : NewI C sp vs H Q) : ∀ x dx, H x = none → H dx = none → dx ≠ x → sp (.ref x :: vs) (upd (upd H dx (.own x)) x (.ins C dx [])) (fun v H2 => v = .non ∧ Q (.ref x) H2) E0 := fun x dx nx nd ne =>
  h x dx _ nx nd ne (fun a u e => by rw [upd_ne (ne_of_none e nx), upd_ne (ne_of_none e nd)]; exact e) upd_same
def tMkS (C : Addr) (sp : Sp) (t : TA) : TE := fun σ H Q => t σ H fun vs H1 => NewI C sp vs H1 Q
theorem pe_mkS {k : Nat} {f C : Addr} {sp : Sp} {x : Str} {p pos : Pos} {e : Expr} {es : List Expr} {t : TA} (M : Mk X.K C f) (F : FnR X.prog X.w X.K X.mg X.base CX0 k f sp) (hr : Room (k + 1) X.A) (hg : Gl X x) (hm : X.mg x = some (.ref C)) (ha : PA X (e :: es) t) (hdb : (x == ("__debug__" : Str)) = false := by decide)
    (he : starEach (e :: es) X.env = (false, eval e X.env) :: starEach es X.env := by rfl) (hpl : (backTo pos (starEach es X.env)).any (·.1) = false := by rfl) : PE X (.Call (.Name x p) (e :: es) [] pos) (tMkS C sp t) :=
  peImp (pe_mk M F hr hg hm (paC ha) hdb he hpl) fun _ _ _ q => ⟨_, q, fun _ _ k => k.go⟩
theorem pe_mkS0 {k : Nat} {f C : Addr} {sp : Sp} {x : Str} {p pos : Pos} (M : Mk X.K C f) (F : FnR X.prog X.w X.K X.mg X.base CX0 k f sp) (hr : Room (k + 1) X.A) (hg : Gl X x) (hm : X.mg x = some (.ref C)) (hdb : (x == ("__debug__" : Str)) = false := by decide) :
    PE X (.Call (.Name x p) [] [] pos) (tMkS C sp tNil) := peImp (pe_mk0 M F hr hg hm hdb) fun _ _ _ q => NewI.go q
end
end SW
/-! enumerate over a tuple. -/
namespace SW
open PySem PySem.Spec PyProof.Rows L2
open Sem (wp)
open PySem.AutoSeq1 (wpAny_loadPart')
theorem meets_enumT (l : Addr) (items : Array Value) (n : Nat) (dct : Option Addr) (sl : Array (Option Value)) :
    Meets (Builtin.«enumerate.__new__» ⟨[.type "enumerate", .ref l], []⟩) (fun _ R s => s.heap.get? l = some { cls := .type "tuple", dict := dct, data := .seq items n, slots := sl } ∧
      R (.ok (.ret (.ref (s.heap.push { cls := .type "tuple_iterator", data := .fields #[.ref l, .int 0 0] }).objs.size)))
        { s with heap := (s.heap.push { cls := .type "tuple_iterator", data := .fields #[.ref l, .int 0 0] }).push { cls := .type "enumerate", data := .fields #[.none, .bool false, .ref s.heap.objs.size, rawInt 0, .none, .none] } }) :=
  .of_wp fun prog w A R s h => by
    obtain ⟨hp, g, d, tk, os⟩ := s
    obtain ⟨hl, h⟩ := h
    have hsub := sub_enumerate
    have hT : Heap.IsTuple (Shared.heap ⟨hp, g, d, tk, os⟩) l items := ⟨_, hl, rfl, n, rfl⟩
    wp_walk using wpAny_loadPart' hl
    refine wpAny_stack_any fun st => wpAny_pure ?_
    split
    · rename_i c _ _ _ _ _
      cases (c == Value.type "enumerate")
      · wp_walk using wpAny_loadPart' hl, wpAny_pyIter_tuple hT
        exact ⟨_, rfl, h⟩
      · wp_walk using wpAny_loadPart' hl, wpAny_pyIter_tuple hT
        exact ⟨_, rfl, h⟩
    · wp_walk using wpAny_loadPart' hl, wpAny_pyIter_tuple hT
      exact ⟨_, rfl, h⟩
section
variable {prog : Program} {w : World} {A : Around} {E : Value → Shared → Prop} {s : Shared}
theorem call_enumT {l : Addr} {items : Array Value} {Q : Value → Shared → Prop} (hL : s.heap.IsTuple l items)
    (h : ∀ h', IsEnum h' (s.heap.objs.size + 1) s.heap.objs.size 0 .none → h'.IsTupleIter s.heap.objs.size l 0 → h'.objs.size = s.heap.objs.size + 2 →
      (∀ b o, s.heap.get? b = some o → h'.get? b = some o) → Q (.ref (s.heap.objs.size + 1)) { s with heap := h' }) :
    wpAny (model prog w) A (call (.type "enumerate") [.ref l]) Q E s := by
  obtain ⟨⟨c, dct, dt, sl⟩, hl, hc, n, hd⟩ := hL
  cases (show c = .type "tuple" from hc)
  cases (show dt = .seq items n from hd)
  refine callType_new F.called_enumerate (by decide) (F.typeCall_enumerate_1 _) (F.newCall_enumerate_1 _) (fun obj => F.args_object_init_2 obj _) F.entry_enumerate_new
    (meets_enumT l items n dct sl) ⟨hl, ?_⟩
  have hz : (s.heap.push { cls := .type "tuple_iterator", data := .fields #[.ref l, .int 0 0] }).objs.size = s.heap.objs.size + 1 := Heap.size_push ..
  show _ ∧ _
  rw [hz]
  have he : IsEnum ((s.heap.push { cls := .type "tuple_iterator", data := .fields #[.ref l, .int 0 0] }).push
      { cls := .type "enumerate", data := .fields #[.none, .bool false, .ref s.heap.objs.size, rawInt 0, .none, .none] }) (s.heap.objs.size + 1) s.heap.objs.size 0 .none := by
    have e0 := Heap.get?_push_size (s.heap.push { cls := .type "tuple_iterator", data := .fields #[.ref l, .int 0 0] })
      (o := { cls := .type "enumerate", data := .fields #[.none, .bool false, .ref s.heap.objs.size, rawInt 0, .none, .none] }) rfl
    rw [hz] at e0
    exact e0
  refine ⟨⟨_, he, rfl⟩, h _ he ⟨_, Heap.get?_push_of_some _ (Heap.get?_push_size _ rfl), rfl, rfl⟩ (by rw [Heap.size_push, hz]) fun b o x => Heap.get?_push_of_some _ (Heap.get?_push_of_some _ x)⟩
end
/-- the tuple xs, each item in a new pair -/
def IteT (K : Fr0) (a : Addr) : It :=
  ⟨fun i H => ∃ (xs : List V) (x : V), SqT K H a xs ∧ xs[i]? = some x, fun i H v H' => ∃ T x, v = .ref T ∧ H T = none ∧ H' = upd H T (.tup [.int (i : Nat), x]) ∧ ∀ xs, SqT K H a xs → xs[i]? = some x, fun i H => ∃ xs : List V, SqT K H a xs ∧ xs.length = i⟩
theorem turn_enT {P : Program} {w : World} {K : Fr0} {elts : List Expr} {kk : Nat} {tpos : Pos} (a e it : Addr) (hai : a ≠ it) (hae : a ≠ e) :
    Turn P w K (.Tuple elts kk tpos) (IteT K a) [e, it] e (fun i h => (∃ old, IsEnum h e it ((i : Nat) : Int) old) ∧ h.IsTupleIter it a i ∧ e ≠ it) where
  mem := by simp
  obj := fun i h st b hb => by
    obtain ⟨⟨old, he⟩, ⟨o, ho, hc, hd⟩, _⟩ := st
    have e2 : b = e ∨ b = it := by simpa using hb
    rcases e2 with z | z
    · rw [z]
      exact ⟨_, he, fun v q => nomatch q⟩
    · rw [z]
      exact ⟨o, ho, fun v q => by rw [hd] at q; cases q⟩
  keep := fun i h h' st k => let ⟨⟨old, he⟩, hi, hne⟩ := st; ⟨⟨old, k e (by simp) _ he⟩, hi.at fun o q => k it (by simp) o q, hne⟩
  item := by
    intro X hP hw hK hc i pins s σ H E I hf st hg
    subst hP hw hK
    obtain ⟨⟨old, he⟩, hit, hne⟩ := st
    obtain ⟨xs, x, hq, hx⟩ := hg
    obtain ⟨its, rv, p, hz⟩ := I.tuple hq
    obtain ⟨u, hu, ru⟩ := rv.get hx
    have hel : e < s.heap.objs.size := Heap.lt_size he
    have hil : it < s.heap.objs.size := by
      obtain ⟨_, q, _⟩ := hit
      exact Heap.lt_size q
    have hlt : i < its.toArray.size := by
      have := (List.getElem?_eq_some_iff.mp hu).1
      simpa using this
    refine wpAny_pyNext_enum_itemD (Draws.tuple (prog := X.prog) (w := X.w) (A := X.A.in1) (I.ok.hd hc) it a hai its.toArray) he ⟨hit, p⟩ hlt hne (by simp [hne, hae.symm]) fun x2 h' tk hP ho hst hT hsz hk => ?_
    have ex : x2 = u := by
      have h1 : its.toArray[i]? = some x2 := hP
      have h2 : its.toArray[i]? = some u := by simpa using hu
      rw [h1] at h2
      exact Option.some.inj h2
    subst ex
    refine ⟨_, rfl, wpAny_letOwnedTupleGo_enum (s := { s with heap := h', toks := tk + 1 }) ho fun h'' he' sb => ?_⟩
    have hT2 : h''.get? s.heap.objs.size = some { cls := .type "tuple", data := .seq #[.int i tk, x2] } := (sb.2 _ (Nat.ne_of_gt hel)).trans hT
    have new : ObjOk X.prog X.w (upd H s.heap.objs.size (.tup [.int (i : Nat), x])) h'' s.heap.objs.size (.tup [.int (i : Nat), x]) :=
      ⟨by show 2 ≤ sizeLine; decide, [.int i tk, x2], .cons ⟨_, rfl⟩ (.cons ru .nil), ⟨_, hT2, rfl, _, rfl⟩⟩
    have I1 : Inv X pins σ (upd H s.heap.objs.size (.tup [.int (i : Nat), x])) { s with heap := h'', toks := tk + 1 } :=
      I.turnedNew (ch := [e, it]) (fun b ob hb q => (sb.2 b (fun z => hb (by simp [z]))).trans (hk b ob (fun z => hb (by simp [z])) (fun z => hb (by simp [z])) q)) hf (Nat.le_refl _) new
    refine ⟨.ref s.heap.objs.size, _, I1, rfl, ⟨_, x, rfl, I.hok.fresh (Nat.le_refl _), rfl, fun ys hy => by rw [I.tuple_inj hy hq]; exact hx⟩, ⟨⟨x2, ?_⟩, hst.1.at fun o q => (sb.2 it (Ne.symm hne)).trans q, hne⟩, fun b hb => ?_⟩
    · have e1 : ((i + 1 : Nat) : Int) = (i : Int) + 1 := by omega
      rw [e1]
      exact he'
    · have hb' : b < s.heap.objs.size := by
        have e' : b = e ∨ b = it := by simpa using hb
        rcases e' with z | z
        · rw [z]
          exact hel
        · rw [z]
          exact hil
      rw [upd_ne (Nat.ne_of_lt hb')]
      exact (hf b hb).1
  done := by
    intro X hP hw hK hc i pins s σ H E I hf st hg
    subst hP hw hK
    obtain ⟨⟨old, he⟩, hit, hne⟩ := st
    obtain ⟨xs, hq, hx⟩ := hg
    obtain ⟨its, rv, p, hz⟩ := I.tuple hq
    obtain ⟨f0, f1, f2, f3, f4, f5⟩ := hf it (by simp)
    have hl := rv.length
    have ei : i = its.toArray.size := by
      rw [List.size_toArray]
      omega
    subst ei
    exact wpAny_pyNext_enum_endD (Draws.tuple (prog := X.prog) (w := X.w) (A := X.A.in1) (I.ok.hd hc) it a hai its.toArray) he ⟨hit, p⟩ fun h' eb => ⟨rfl, I.turned (t' := s.toks) (fun b o hb q => eb b o hb q) f0 f1 f3 f4 f5⟩
  self := fun A i s Q E st h => let ⟨⟨_, he⟩, _⟩ := st; wpAny_pyIter_enum he h

def iEnT (K : Fr0) (ta : TA) : TI := fun σ H R => ta σ H fun vs H1 => ∃ a xs, vs = [.ref a] ∧ SqT K H1 a xs ∧ R (IteT K a) H1
theorem pi_enumT {X : Cx} {e : Expr} {ta : TA} {p pos tpos : Pos} {elts : List Expr} {kk : Nat} (hg : Gl X "enumerate") (hm : X.mg "enumerate" = none) (ha : PA X [e] ta) (hs : starEach [e] X.env = [(false, eval e X.env)] := by rfl) :
    PI X (.Tuple elts kk tpos) (.Call (.Name "enumerate" p) [e] [] pos) (iEnT X.K ta) := by
  refine ⟨fun pins s σ H R I h => ?_⟩
  refine Call_ (ld_blt I hg hm boot_enumT (PyProof.Rows.callWith_type1 (thn (ha.run pos pins s σ H _ I h) fun us s1 ⟨vs, H1, I1, r1, q1⟩ => ?_) hs rfl))
  obtain ⟨a, xs, ex, hq, q⟩ := q1
  subst ex
  cases r1 with
  | cons r rr =>
    cases rr
    cases r
    obtain ⟨its, rv, p', hz⟩ := I1.tuple hq
    have hla : a < s1.heap.objs.size := by
      obtain ⟨o, ho, _⟩ := id p'
      exact Heap.lt_size ho
    refine call_enumT p' fun h' he hit hsz hk => wpAny_pyIter_enum he ?_
    have I2 : Inv X pins σ H1 { s1 with heap := h' } := I1.kept (t' := s1.toks) hk
    refine ⟨s1.heap.objs.size + 1, [s1.heap.objs.size + 1, s1.heap.objs.size], _, _, H1, rfl, I2, turn_enT a (s1.heap.objs.size + 1) s1.heap.objs.size (Nat.ne_of_lt hla) (Nat.ne_of_lt (Nat.lt_succ_of_lt hla)), ⟨⟨.none, he⟩, hit, Nat.succ_ne_self _⟩, fun b hb => ?_, q⟩
    have e' : b = s1.heap.objs.size + 1 ∨ b = s1.heap.objs.size := by simpa using hb
    have hle : s1.heap.objs.size ≤ b := by
      rcases e' with z | z
      · rw [z]
        exact Nat.le_add_right _ _
      · rw [z]
        exact Nat.le_refl _
    exact I1.fpOk hle (I1.hok.fresh hle)
end SW
/-! Loops, comprehensions, locked walks: what is to be shown, as one word each; the ways to show it. -/
namespace SW
open PySem PySem.Spec PyProof.Rows L2
/-! ### words for what a loop asks -/
def ForG (J : It) (g : TG) (tb : TS) (D : Ends) (σ : L2.St) (H1 : Hp) : Prop := ∃ W : Nat → Nat → L2.St → Hp → Prop, (∃ m, W 0 m σ H1) ∧ ∀ i m σ H, W i m σ H →
  (J.stop i H ∧ D.nx σ H) ∨ (J.go i H ∧ ∃ N : L2.St → Hp → Prop, (∀ σ' H', N σ' H' → ∃ m', m' < m ∧ W (i + 1) m' σ' H') ∧ ∀ x H', J.yld i H x H' → g x σ H' fun σ2 H2 => tb { D with nx := N, ct := N, bk := D.nx } σ2 H2)
theorem w_for {wi : TI} {g : TG} {tb : TS} {D : Ends} {σ : L2.St} {H : Hp} (h : wi σ H fun J H1 => ForG J g tb D σ H1) : tFor wi g tb D σ H := h
def LcG (J : It) (g : TG) (tt : TT) (te : TE) (vs : List Nat) (σ : L2.St) (H1 : Hp) (Q : VK) : Prop := ∀ D, H1 D = none → ∃ W : Nat → Nat → Hp → Prop, (∃ m, W 0 m (upd H1 D (.lst []))) ∧ ∀ i m H, W i m H →
  (J.stop i H ∧ Q (.ref D) H) ∨ (J.go i H ∧ ∃ Nx : Hp → Prop, (∀ H', Nx H' → ∃ m', m' < m ∧ W (i + 1) m' H') ∧ ∀ x H', J.yld i H x H' → g x (wipe σ vs) H' fun σ2 H2 => wipe σ2 vs = wipe σ vs ∧ tt σ2 H2 fun b H3 =>
    if b = true then te σ2 H3 fun y H4 => ∃ acc, H4 D = some (.lst acc) ∧ acc.length < sizeLine ∧ Nx (upd H4 D (.lst (acc ++ [y]))) else Nx H3)
theorem w_lc {wi : TI} {g : TG} {tt : TT} {te : TE} {vs : List Nat} {σ : L2.St} {H : Hp} {Q : VK} (h : wi σ H fun J H1 => LcG J g tt te vs σ H1 Q) : tLc wi g tt te vs σ H Q := h
def DcG (J : It) (g : TG) (tt : TT) (tk tv : TE) (vs : List Nat) (σ : L2.St) (H1 : Hp) (Q : VK) : Prop := ∀ D, H1 D = none → ∃ W : Nat → Nat → Hp → Prop, (∃ m, W 0 m (upd H1 D (.dK []))) ∧ ∀ i m H, W i m H →
  (J.stop i H ∧ Q (.ref D) H) ∨ (J.go i H ∧ ∃ Nx : Hp → Prop, (∀ H', Nx H' → ∃ m', m' < m ∧ W (i + 1) m' H') ∧ ∀ x H', J.yld i H x H' → g x (wipe σ vs) H' fun σ2 H2 => wipe σ2 vs = wipe σ vs ∧ tt σ2 H2 fun b H3 =>
    if b = true then tk σ2 H3 fun y H4 => tv σ2 H4 fun z H5 => ∃ kvs k, y = kV k ∧ H5 D = some (.dK kvs) ∧ kvs.length < sizeLine ∧ Nx (upd H5 D (.dK (putK kvs k z))) else Nx H3)
theorem w_dc {wi : TI} {g : TG} {tt : TT} {tk tv : TE} {vs : List Nat} {σ : L2.St} {H : Hp} {Q : VK} (h : wi σ H fun J H1 => DcG J g tt tk tv vs σ H1 Q) : tDc wi g tt tk tv vs σ H Q := h
section
variable {K : Fr0} {σ : L2.St} {H : Hp} {R : It → Hp → Prop}
theorem w_iTup {tl : TE} (h : tl σ H fun x H1 => ∃ a, x = .ref a ∧ (∃ xs, SqT K H1 a xs) ∧ R (Itt K a) H1) : iTup K tl σ H R := h
theorem w_iList {tl : TE} (h : tl σ H fun x H1 => ∃ a, x = .ref a ∧ (∃ xs, SqL K H1 a xs) ∧ R (Itl K a) H1) : iList K tl σ H R := h
theorem w_iRng1 {ta : TA} (h : ta σ H fun vs H1 => ∃ j : Int, vs = [.int j] ∧ -(2 ^ 62) ≤ j ∧ j < 2 ^ 62 ∧ R (Itr 0 j.toNat) H1) : iRng1 ta σ H R := h
theorem w_iEnT {ta : TA} (h : ta σ H fun vs H1 => ∃ a xs, vs = [.ref a] ∧ SqT K H1 a xs ∧ R (IteT K a) H1) : iEnT K ta σ H R := h
theorem w_iItems {td : TE} (h : td σ H fun x H1 => ∃ d o kvs, x = .ref d ∧ H1 d = some (.frz o (.dK kvs)) ∧ R (Iti d o kvs) H1) : iItems td σ H R := h
theorem w_iVals {td : TE} (h : td σ H fun x H1 => ∃ d o kvs, x = .ref d ∧ H1 d = some (.frz o (.dK kvs)) ∧ R (Itd d o kvs) H1) : iVals td σ H R := h
theorem w_iKeys {td : TE} (h : td σ H fun x H1 => ∃ d o, x = .ref d ∧ ((∃ kvs, H1 d = some (.frz o (.dK kvs)) ∧ R (Itk d o kvs) H1) ∨ ∃ kvs, H1 d = some (.frz o (.dT kvs)) ∧ R (Itkt d o kvs) H1)) : iKeys td σ H R := h
end
/-! ### for -/
section
variable {K : Fr0} {J : It} {n : Nat} {G : Hp → Prop} {Y : Nat → Hp → V → Hp → Prop} {g : TG} {tb : TS} {D : Ends} {σ : L2.St} {H : Hp}
theorem ForG.it (w : Walk J n G Y) (Pv : Nat → L2.St → Hp → Prop) (h0 : Pv 0 σ H) (hG : ∀ i σ H, i ≤ n → Pv i σ H → G H)
    (hs : ∀ i x σ H H', i < n → Pv i σ H → Y i H x H' → g x σ H' fun σ2 H2 => tb { D with nx := Pv (i + 1), ct := Pv (i + 1), bk := D.nx } σ2 H2) (hd : ∀ σ H, Pv n σ H → D.nx σ H) : ForG J g tb D σ H := for_it w Pv h0 hG hs hd
theorem walk_enT {K : Fr0} {a : Addr} {xs : List V} : Walk (IteT K a) xs.length (fun H => SqT K H a xs) (YPair (fun i => some (.int (i : Nat))) (fun i => xs[i]?)) := by
  refine ⟨fun i _ hi q => ⟨xs, xs[i], q, by simp [hi]⟩, fun _ q => ⟨xs, q, rfl⟩, fun i H v H' _ q y => ?_⟩
  obtain ⟨T, x, h1, h2, h3, h4⟩ := y
  exact ⟨T, .int (i : Nat), x, h1, h2, h3, rfl, h4 xs q⟩
theorem ForG.tup {a : Addr} {xs : List V} (Pv : Nat → L2.St → Hp → Prop) (h0 : Pv 0 σ H) (hG : ∀ i σ H, Pv i σ H → SqT K H a xs)
    (hs : ∀ i x σ H, xs[i]? = some x → Pv i σ H → g x σ H fun σ2 H2 => tb { D with nx := Pv (i + 1), ct := Pv (i + 1), bk := D.nx } σ2 H2) (hd : ∀ σ H, Pv xs.length σ H → D.nx σ H) : ForG (Itt K a) g tb D σ H :=
  ForG.it walk_tup Pv h0 (fun i σ H _ p => hG i σ H p) (fun i x σ H H' _ p y => by
    obtain ⟨e, hx⟩ := y
    subst e
    exact hs i x σ _ hx p) hd
theorem ForG.list {a : Addr} {xs : List V} (Pv : Nat → L2.St → Hp → Prop) (h0 : Pv 0 σ H) (hG : ∀ i σ H, Pv i σ H → SqL K H a xs)
    (hs : ∀ i x σ H, xs[i]? = some x → Pv i σ H → g x σ H fun σ2 H2 => tb { D with nx := Pv (i + 1), ct := Pv (i + 1), bk := D.nx } σ2 H2) (hd : ∀ σ H, Pv xs.length σ H → D.nx σ H) : ForG (Itl K a) g tb D σ H :=
  ForG.it walk_list Pv h0 (fun i σ H _ p => hG i σ H p) (fun i x σ H H' _ p y => by
    obtain ⟨e, hx⟩ := y
    subst e
    exact hs i x σ _ hx p) hd
theorem ForG.rng {m : Nat} (Pv : Nat → L2.St → Hp → Prop) (h0 : Pv 0 σ H)
    (hs : ∀ i σ H, i < m → Pv i σ H → g (.int (i : Int)) σ H fun σ2 H2 => tb { D with nx := Pv (i + 1), ct := Pv (i + 1), bk := D.nx } σ2 H2) (hd : ∀ σ H, Pv m σ H → D.nx σ H) : ForG (Itr 0 m) g tb D σ H :=
  ForG.it walk_range Pv h0 (fun _ _ _ _ _ => True.intro) (fun i x σ H H' hi p y => by
    obtain ⟨e, hx⟩ := y
    subst e hx
    show g (.int (0 + (i : Int))) σ _ _
    rw [Int.zero_add]
    exact hs i σ _ hi p) hd
/-- enumerate(tuple): a pair at each turn -/
theorem ForG.enT {a : Addr} {xs : List V} (Pv : Nat → L2.St → Hp → Prop) (h0 : Pv 0 σ H) (hG : ∀ i σ H, Pv i σ H → SqT K H a xs)
    (hs : ∀ i x σ H p H', xs[i]? = some x → Pv i σ H → Same H H' → SqT K H' p [.int (i : Nat), x] → g (.ref p) σ H' fun σ2 H2 => tb { D with nx := Pv (i + 1), ct := Pv (i + 1), bk := D.nx } σ2 H2) (hd : ∀ σ H, Pv xs.length σ H → D.nx σ H) : ForG (IteT K a) g tb D σ H :=
  ForG.it walk_enT Pv h0 (fun i σ H _ p => hG i σ H p) (fun i x σ H H' _ p y => by
    obtain ⟨T, z, z2, h1, h2, h3, h4, h5⟩ := y
    cases h4
    subst h1 h3
    exact hs i z2 σ _ T _ h5 p (Same.of_new h2) (sq_T upd_same)) hd
/-- d.items(), locked -/
theorem ForG.items {d : Addr} {o : Obj} {kvs : List (Key × V)} (Pv : Nat → L2.St → Hp → Prop) (h0 : Pv 0 σ H) (hG : ∀ i σ H, Pv i σ H → H d = some (.frz o (.dK kvs)))
    (hs : ∀ i k v σ H p H', kvs[i]? = some (k, v) → Pv i σ H → Same H H' → SqT K H' p [kV k, v] → g (.ref p) σ H' fun σ2 H2 => tb { D with nx := Pv (i + 1), ct := Pv (i + 1), bk := D.nx } σ2 H2) (hd : ∀ σ H, Pv kvs.length σ H → D.nx σ H) : ForG (Iti d o kvs) g tb D σ H :=
  ForG.it walk_items Pv h0 (fun i σ H _ p => hG i σ H p) (fun i x σ H H' hi p y => by
    obtain ⟨T, z, z2, h1, h2, h3, h4, h5⟩ := y
    subst h1 h3
    have e := List.getElem?_eq_getElem hi
    replace h4 : Option.map (fun kv => kV kv.1) kvs[i]? = some z := h4
    replace h5 : Option.map Prod.snd kvs[i]? = some z2 := h5
    rw [e] at h4 h5
    cases h4
    cases h5
    exact hs i _ _ σ _ T _ e p (Same.of_new h2) (sq_T upd_same)) hd
theorem ForG.vals {d : Addr} {o : Obj} {kvs : List (Key × V)} (Pv : Nat → L2.St → Hp → Prop) (h0 : Pv 0 σ H) (hG : ∀ i σ H, Pv i σ H → H d = some (.frz o (.dK kvs)))
    (hs : ∀ i k v σ H, kvs[i]? = some (k, v) → Pv i σ H → g v σ H fun σ2 H2 => tb { D with nx := Pv (i + 1), ct := Pv (i + 1), bk := D.nx } σ2 H2) (hd : ∀ σ H, Pv kvs.length σ H → D.nx σ H) : ForG (Itd d o kvs) g tb D σ H :=
  ForG.it walk_values Pv h0 (fun i σ H _ p => hG i σ H p) (fun i x σ H H' hi p y => by
    obtain ⟨e, k, hk⟩ := y
    subst e
    exact hs i k x σ _ hk p) hd
theorem ForG.keys {d : Addr} {o : Obj} {kvs : List (Key × V)} (Pv : Nat → L2.St → Hp → Prop) (h0 : Pv 0 σ H) (hG : ∀ i σ H, Pv i σ H → H d = some (.frz o (.dK kvs)))
    (hs : ∀ i k v σ H, kvs[i]? = some (k, v) → Pv i σ H → g (kV k) σ H fun σ2 H2 => tb { D with nx := Pv (i + 1), ct := Pv (i + 1), bk := D.nx } σ2 H2) (hd : ∀ σ H, Pv kvs.length σ H → D.nx σ H) : ForG (Itk d o kvs) g tb D σ H :=
  ForG.it walk_keys Pv h0 (fun i σ H _ p => hG i σ H p) (fun i x σ H H' hi p y => by
    obtain ⟨e, k, v, hk, e2⟩ := y
    subst e e2
    exact hs i k v σ _ hk p) hd
end
/-! ### comprehensions whose parts change nothing -/
theorem fm_take {α β : Type} (h : α → Option β) {xs : List α} {i : Nat} {x : α} (e : xs[i]? = some x) : (xs.take (i + 1)).filterMap h = (xs.take i).filterMap h ++ (h x).toList := by
  rw [List.take_add_one, e, List.filterMap_append]
  show _ ++ List.filterMap h [x] = _
  cases hx : h x with
  | none => rw [List.filterMap_cons_none hx]; rfl
  | some y => rw [List.filterMap_cons_some hx]; rfl
/-- h x says whether x gives, and what -/
theorem LcG.pure {J : It} {G : Hp → Prop} {Y : Nat → Hp → V → Hp → Prop} {g : TG} {tt : TT} {te : TE} {vs : List Nat} {σ : L2.St} {H1 : Hp} {Q : VK} (xs : List V) (w : Walk J xs.length G Y) (hz : xs.length < 100000)
    (hG : ∀ H', Same H1 H' → G H') (hY : ∀ i H x H', i < xs.length → Y i H x H' → H' = H ∧ xs[i]? = some x) (h : V → Option V)
    (hs : ∀ (i : Nat) (x : V) (H : Hp) (Y : VK) (N : Hp → Prop), xs[i]? = some x → Same H1 H → (∀ y H4, h x = some y → Same H H4 → Y y H4) → (∀ H3, h x = none → Same H H3 → N H3) →
      g x (wipe σ vs) H fun σ2 H2 => wipe σ2 vs = wipe σ vs ∧ tt σ2 H2 fun b H3 => if b = true then te σ2 H3 Y else N H3)
    (hq : ∀ D H', H1 D = none → Same H1 H' → H' D = some (.lst (xs.filterMap h)) → Q (.ref D) H') : LcG J g tt te vs σ H1 Q := by
  intro D hD
  refine lc_it w (fun i H => Same H1 H ∧ H D = some (.lst ((xs.take i).filterMap h))) ⟨Same.of_new hD, by rw [upd_same]; rfl⟩ (fun i H _ p => hG H p.1) (fun i x H H' hi p y => ?_) fun H p => hq D H hD p.1 (by rw [p.2, List.take_length])
  obtain ⟨e, hx⟩ := hY i H x H' hi y
  subst e
  obtain ⟨p1, p2⟩ := p
  refine hs i x _ _ _ hx p1 (fun y H4 e4 s4 => ⟨_, s4 _ _ p2, ?_, ?_, ?_⟩) (fun H3 e3 s3 => ⟨fun b o hb => s3 b o (p1 b o hb), ?_⟩)
  · have l1 := List.length_filterMap_le h (xs.take i)
    have l2 : (xs.take i).length ≤ xs.length := by rw [List.length_take]; omega
    exact Nat.lt_of_lt_of_le (show _ < 100000 by omega) (by decide)
  · intro b o hb
    rw [upd_ne (ne_of_none hb hD)]
    exact s4 b o (p1 b o hb)
  · rw [upd_same, fm_take h hx, e4]
    rfl
  · rw [s3 _ _ p2, fm_take h hx, e3]
    simp
theorem LcG.list {K : Fr0} {a : Addr} {g : TG} {tt : TT} {te : TE} {vs : List Nat} {σ : L2.St} {H1 : Hp} {Q : VK} {xs : List V} (hx : SqL K H1 a xs) (hz : xs.length < 100000) (h : V → Option V)
    (hs : ∀ (i : Nat) (x : V) (H : Hp) (Y : VK) (N : Hp → Prop), xs[i]? = some x → Same H1 H → (∀ y H4, h x = some y → Same H H4 → Y y H4) → (∀ H3, h x = none → Same H H3 → N H3) →
      g x (wipe σ vs) H fun σ2 H2 => wipe σ2 vs = wipe σ vs ∧ tt σ2 H2 fun b H3 => if b = true then te σ2 H3 Y else N H3)
    (hq : ∀ D H', H1 D = none → Same H1 H' → H' D = some (.lst (xs.filterMap h)) → Q (.ref D) H') : LcG (Itl K a) g tt te vs σ H1 Q :=
  LcG.pure xs walk_list hz (fun H' s => sm_L s hx) (fun i H x H' _ y => y) h hs hq
theorem LcG.tup {K : Fr0} {a : Addr} {g : TG} {tt : TT} {te : TE} {vs : List Nat} {σ : L2.St} {H1 : Hp} {Q : VK} {xs : List V} (hx : SqT K H1 a xs) (hz : xs.length < 100000) (h : V → Option V)
    (hs : ∀ (i : Nat) (x : V) (H : Hp) (Y : VK) (N : Hp → Prop), xs[i]? = some x → Same H1 H → (∀ y H4, h x = some y → Same H H4 → Y y H4) → (∀ H3, h x = none → Same H H3 → N H3) →
      g x (wipe σ vs) H fun σ2 H2 => wipe σ2 vs = wipe σ vs ∧ tt σ2 H2 fun b H3 => if b = true then te σ2 H3 Y else N H3)
    (hq : ∀ D H', H1 D = none → Same H1 H' → H' D = some (.lst (xs.filterMap h)) → Q (.ref D) H') : LcG (Itt K a) g tt te vs σ H1 Q :=
  LcG.pure xs walk_tup hz (fun H' s => sm_T s hx) (fun i H x H' _ y => y) h hs hq
theorem LcG.rng {g : TG} {tt : TT} {te : TE} {vs : List Nat} {σ : L2.St} {H1 : Hp} {Q : VK} {m : Nat} (hz : m < 100000) (h : V → Option V)
    (hs : ∀ (i : Nat) H (Y : VK) (N : Hp → Prop), i < m → Same H1 H → (∀ y H4, h (.int i) = some y → Same H H4 → Y y H4) → (∀ H3, h (.int i) = none → Same H H3 → N H3) →
      g (.int i) (wipe σ vs) H fun σ2 H2 => wipe σ2 vs = wipe σ vs ∧ tt σ2 H2 fun b H3 => if b = true then te σ2 H3 Y else N H3)
    (hq : ∀ D H', H1 D = none → Same H1 H' → H' D = some (.lst (((List.range m).map fun i => V.int (i : Nat)).filterMap h)) → Q (.ref D) H') : LcG (Itr 0 m) g tt te vs σ H1 Q := by
  have hl : ((List.range m).map fun i => V.int (i : Nat)).length = m := by simp
  refine LcG.pure ((List.range m).map fun i => V.int (i : Nat)) (G := fun _ => True) (Y := YFn fun i => .int (0 + i)) (by rw [hl]; exact walk_range) (by rw [hl]; exact hz) (fun _ _ => True.intro) (fun i H x H' hi y => ⟨y.1, ?_⟩) h (fun i x H Y N hx s y n => ?_) hq
  · rw [hl] at hi
    have e : x = .int (0 + (i : Int)) := y.2
    rw [e, Int.zero_add]
    simp [hi]
  · have hi : i < m := by
      have := (List.getElem?_eq_some_iff.mp hx).1
      rw [hl] at this
      exact this
    have e : x = .int (i : Nat) := by
      simp [hi] at hx
      exact hx.symm
    subst e
    exact hs i H Y N hi s y n
theorem LcG.keys {d : Addr} {o : Obj} {kvs : List (Key × V)} {g : TG} {tt : TT} {te : TE} {vs : List Nat} {σ : L2.St} {H1 : Hp} {Q : VK} (hx : H1 d = some (.frz o (.dK kvs))) (hz : kvs.length < 100000) (h : V → Option V)
    (hs : ∀ (i : Nat) (x : V) (H : Hp) (Y : VK) (N : Hp → Prop), (kvs.map fun kv => kV kv.1)[i]? = some x → Same H1 H → (∀ y H4, h x = some y → Same H H4 → Y y H4) → (∀ H3, h x = none → Same H H3 → N H3) →
      g x (wipe σ vs) H fun σ2 H2 => wipe σ2 vs = wipe σ vs ∧ tt σ2 H2 fun b H3 => if b = true then te σ2 H3 Y else N H3)
    (hq : ∀ D H', H1 D = none → Same H1 H' → H' D = some (.lst ((kvs.map fun kv => kV kv.1).filterMap h)) → Q (.ref D) H') : LcG (Itk d o kvs) g tt te vs σ H1 Q := by
  have hl : (kvs.map fun kv => kV kv.1).length = kvs.length := by simp
  refine LcG.pure (kvs.map fun kv => kV kv.1) (G := fun H => H d = some (.frz o (.dK kvs))) (Y := fun i H x H' => H' = H ∧ ∃ k v, kvs[i]? = some (k, v) ∧ x = kV k) (by rw [hl]; exact walk_keys) (by rw [hl]; exact hz) (fun H' s => s _ _ hx) (fun i H x H' hi y => ?_) h hs hq
  obtain ⟨e, k, v, h1, h2⟩ := y
  exact ⟨e, by simp [h1, h2]⟩
/-- parts that change: I says how things stand; D, the list that is made, is told to it -/
theorem LcG.gen {J : It} {n : Nat} {G : Hp → Prop} {Y : Nat → Hp → V → Hp → Prop} {g : TG} {tt : TT} {te : TE} {vs : List Nat} {σ : L2.St} {H1 : Hp} {Q : VK} (w : Walk J n G Y) (hz : n < 100000) (I : Addr → Nat → List V → Hp → Prop)
    (h0 : ∀ D H', H1 D = none → Same H1 H' → H' D = some (.lst []) → I D 0 [] H') (hG : ∀ D i ys H', I D i ys H' → G H') (hst : ∀ D i ys H H', H1 D = none → I D i ys H → Chg D H H' → I D i ys H')
    (hs : ∀ D i x ys H H' (Y2 : VK) (N : Hp → Prop), H1 D = none → i < n → ys.length = i → H D = some (.lst ys) → I D i ys H → Y i H x H' → (∀ y H4, I D (i + 1) (ys ++ [y]) H4 → H4 D = some (.lst ys) → Y2 y H4) →
      g x (wipe σ vs) H' fun σ2 H2 => wipe σ2 vs = wipe σ vs ∧ tt σ2 H2 fun b H3 => if b = true then te σ2 H3 Y2 else N H3)
    (hq : ∀ D ys H', H1 D = none → ys.length = n → I D n ys H' → H' D = some (.lst ys) → Q (.ref D) H') : LcG J g tt te vs σ H1 Q := by
  intro D hD
  refine lc_it w (fun i H => ∃ ys, ys.length = i ∧ I D i ys H ∧ H D = some (.lst ys)) ⟨[], rfl, h0 D _ hD (Same.of_new hD) upd_same, upd_same⟩ (fun i H _ p => ?_) (fun i x H H' hi p y => ?_) fun H p => ?_
  · obtain ⟨ys, _, p1, _⟩ := p
    exact hG D i ys H p1
  · obtain ⟨ys, l1, p1, p2⟩ := p
    refine hs D i x ys H H' _ _ hD hi l1 p2 p1 y fun y H4 i4 d4 => ⟨ys, d4, Nat.lt_of_lt_of_le (show ys.length < 100000 by omega) (by decide), ys ++ [y], by simp [l1], hst D _ _ _ _ hD i4 Chg.of, upd_same⟩
  · obtain ⟨ys, l1, p1, p2⟩ := p
    exact hq D ys H hD l1 p1 p2
/-! ### locked walks -/
def cS (t : TS) : TS := fun D σ H => ∃ D0 : Ends, t D0 σ H ∧ (∀ σ' H', D0.nx σ' H' → D.nx σ' H') ∧ (∀ v H', D0.rt v H' → D.rt v H') ∧ (∀ σ' H', D0.bk σ' H' → D.bk σ' H') ∧ ∀ σ' H', D0.ct σ' H' → D.ct σ' H'
section
variable {X : Cx}
theorem psC {st : Stmt} {t : TS} (h : PS X st t) : PS X st (cS t) := ⟨fun pins s σ H D I q => by
  obtain ⟨D0, q1, k1, k2, k3, k4⟩ := q
  refine wpAny_mono (h.run pins s σ H D0 I q1) (fun f s' z => ?_) fun _ _ z => z
  cases f with
  | next =>
    obtain ⟨σ', H', I', z⟩ := z
    exact ⟨σ', H', I', k1 _ _ z⟩
  | brk =>
    obtain ⟨σ', H', I', z⟩ := z
    exact ⟨σ', H', I', k3 _ _ z⟩
  | cont =>
    obtain ⟨σ', H', I', z⟩ := z
    exact ⟨σ', H', I', k4 _ _ z⟩
  | ret v =>
    obtain ⟨x, σ', H', I', r, z⟩ := z
    exact ⟨x, σ', H', I', r, k2 _ _ z⟩⟩
/-- while d is locked -/
def LockG (t : TS) (D : Ends) (σ : L2.St) (H : Hp) : Prop := ∃ d u, H d = some u ∧ Mut (some u) ∧ ∀ od Hl, Chg d H Hl → Hl d = some (.frz od u) →
  t ⟨fun σ' H' => H' d = some (.frz od u) ∧ ∀ H2, Chg d H' H2 → H2 d = some u → D.nx σ' H2, fun v H' => H' d = some (.frz od u) ∧ ∀ H2, Chg d H' H2 → H2 d = some u → D.rt v H2,
    fun σ' H' => H' d = some (.frz od u) ∧ ∀ H2, Chg d H' H2 → H2 d = some u → D.bk σ' H2, fun σ' H' => H' d = some (.frz od u) ∧ ∀ H2, Chg d H' H2 → H2 d = some u → D.ct σ' H2⟩ σ Hl
def tLockS (t : TS) : TS := fun D σ H => LockG t D σ H
theorem ps_lockS {st : Stmt} {t : TS} (h : PS X st t) : PS X st (tLockS t) := psImp (ps_lock (psC h)) fun D σ H q => by
  obtain ⟨d, u, h1, h2, q⟩ := q
  exact ⟨d, u, h1, h2, fun od => ⟨_, q od _ Chg.of upd_same, fun _ _ z => ⟨z.1, z.2 _ Chg.of upd_same⟩, fun _ _ z => ⟨z.1, z.2 _ Chg.of upd_same⟩, fun _ _ z => ⟨z.1, z.2 _ Chg.of upd_same⟩, fun _ _ z => ⟨z.1, z.2 _ Chg.of upd_same⟩⟩⟩
def LockE (t : TE) (σ : L2.St) (H : Hp) (Q : VK) : Prop := ∃ d u, H d = some u ∧ Mut (some u) ∧ ∀ od Hl, Chg d H Hl → Hl d = some (.frz od u) → t σ Hl fun v H' => H' d = some (.frz od u) ∧ ∀ H2, Chg d H' H2 → H2 d = some u → Q v H2
def tLockES (t : TE) : TE := fun σ H Q => LockE t σ H Q
theorem pe_lockS {e : Expr} {t : TE} (h : PE X e t) : PE X e (tLockES t) := peImp (pe_lock (peC h)) fun σ H Q q => by
  obtain ⟨d, u, h1, h2, q⟩ := q
  exact ⟨d, u, h1, h2, fun od => ⟨_, q od _ Chg.of upd_same, fun _ _ z => ⟨z.1, z.2 _ Chg.of upd_same⟩⟩⟩
end
theorem w_lockS {t : TS} {D : Ends} {σ : L2.St} {H : Hp} (h : LockG t D σ H) : tLockS t D σ H := h
theorem w_lockE {t : TE} {σ : L2.St} {H : Hp} {Q : VK} (h : LockE t σ H Q) : tLockES t σ H Q := h
/-- behind a lock that changed nothing else -/
theorem Same.unlock {d : Addr} {H Hl H' H2 : Hp} {u : HO} (hd : H d = some u) (C : Chg d H Hl) (S : Same Hl H') (C2 : Chg d H' H2) (e : H2 d = some u) : Same H H2 := fun b o hb => by
  by_cases h : b = d
  · subst h
    rw [hd] at hb
    rw [← hb]
    exact e
  · exact C2 b o h (S b o (C b o h hb))
end SW
/-! What stands where; the first defs. -/
namespace SW
open PySem PySem.Spec PyProof.Rows L2
/-! ### facts behind a change at one place -/
def tag : HO → Nat
  | .lst _ => 0 | .tup _ => 1 | .dK _ => 2 | .dT _ => 3 | .set _ _ => 4 | .ins _ _ fs => 100 + fs.length | .own _ => 5 | .xd _ => 6 | .met _ _ => 7 | .rng _ _ => 8 | .frz _ _ => 9 | .tbl _ => 10 | .ext _ => 11
theorem ne_tag {H : Hp} {a b : Addr} {o u : HO} (h : H a = some o) (h' : H b = some u) (d : (tag o == tag u) = false) : a ≠ b := ne_of h h' fun e => by
  subst e
  simp at d
theorem cg_hp {H H' : Hp} {a b : Addr} {o u : HO} (C : Chg a H H') (h : H b = some o) (ha : H a = some u) (d : (tag o == tag u) = false) : H' b = some o := C b o (ne_tag h ha d) h
theorem cg_hn {H H' : Hp} {a b : Addr} {o : HO} (C : Chg a H H') (h : H b = some o) (n : b ≠ a) : H' b = some o := C b o n h
theorem cg_T {K : Fr0} {H H' : Hp} {a b : Addr} {xs : List V} {u : HO} (C : Chg a H H') (h : SqT K H b xs) (ha : H a = some u) (d : ((tag u == 1) || (tag u == 9)) = false) : SqT K H' b xs := by
  have d1 : (tag u == 1) = false := by cases e : (tag u == 1) <;> rw [e] at d <;> simp_all
  have d9 : (tag u == 9) = false := by cases e : (tag u == 9) <;> rw [e] at d <;> simp_all
  rcases h with (h | ⟨o, h⟩) | h
  · exact .inl (.inl (C _ _ (ne_tag h ha (by rw [Bool.eq_false_iff] at *; intro z; exact d1 (by rw [beq_iff_eq] at *; exact z.symm))) h))
  · exact .inl (.inr ⟨o, C _ _ (ne_tag h ha (by rw [Bool.eq_false_iff] at *; intro z; exact d9 (by rw [beq_iff_eq] at *; exact z.symm))) h⟩)
  · exact .inr h
theorem cg_L {K : Fr0} {H H' : Hp} {a b : Addr} {xs : List V} (C : Chg a H H') (h : SqL K H b xs) (n : b ≠ a) : SqL K H' b xs := by
  rcases h with (h | ⟨o, h⟩) | h
  · exact .inl (.inl (C _ _ n h))
  · exact .inl (.inr ⟨o, C _ _ n h⟩)
  · exact .inr h
mutual
/-- data without lists -/
def tupO : PyData → Bool
  | .list _ => false
  | .tuple ds => tupOs ds
  | .dict _ => false
  | _ => true
def tupOs : List PyData → Bool
  | [] => true
  | d :: ds => tupO d && tupOs ds
end
mutual
theorem Dp.chg {K : Fr0} {H H' : Hp} {a : Addr} {u : HO} (C : Chg a H H') (ha : H a = some u) (d1 : ((tag u == 1) || (tag u == 9)) = false) : ∀ (d : PyData) (v : V), tupO d = true → Dp K H v d → Dp K H' v d
  | .none, _, _, h => by cases h; exact .non
  | .bool b, _, _, h => by cases h; exact .bl b
  | .int i, _, _, h => by cases h; exact .int i
  | .str x, _, _, h => by cases h; exact .str x
  | .list ds, _, t, h => by cases t
  | .tuple ds, _, t, h => by cases h with | tup x y => exact .tup (cg_T C x ha d1) (DpAll.chg C ha d1 _ _ t y)
  | .dict _, _, t, h => by cases t
theorem DpAll.chg {K : Fr0} {H H' : Hp} {a : Addr} {u : HO} (C : Chg a H H') (ha : H a = some u) (d1 : ((tag u == 1) || (tag u == 9)) = false) : ∀ (ds : List PyData) (vs : List V), tupOs ds = true → DpAll K H vs ds → DpAll K H' vs ds
  | [], _, _, h => by cases h; exact .nil
  | d :: ds, _, t, h => by
    have t2 : (tupO d && tupOs ds) = true := t
    rw [Bool.and_eq_true] at t2
    cases h with | cons x y => exact .cons (Dp.chg C ha d1 _ _ t2.1 x) (DpAll.chg C ha d1 _ _ t2.2 y)
end
theorem cg_D {K : Fr0} {H H' : Hp} {a : Addr} {u : HO} {d : PyData} {v : V} (C : Chg a H H') (h : Dp K H v d) (t : tupO d = true) (ha : H a = some u) (d1 : ((tag u == 1) || (tag u == 9)) = false) : Dp K H' v d := Dp.chg C ha d1 d v t h
theorem Chg.refl (a : Addr) (H : Hp) : Chg a H H := fun _ _ _ h => h
theorem Chg.trans {a : Addr} {H H1 H2 : Hp} (x : Chg a H H1) (y : Chg a H1 H2) : Chg a H H2 := fun b o n h => y b o n (x b o n h)
theorem Same.chg {a : Addr} {H H1 : Hp} (x : Same H H1) : Chg a H H1 := fun b o _ h => x b o h
theorem Chg.trans2 {a : Addr} {H H1 H2 : Hp} (y : Chg a H1 H2) (x : Chg a H H1) : Chg a H H2 := x.trans y
theorem Chg.trans3 {a : Addr} {H H1 H2 : Hp} (y : Same H1 H2) (x : Chg a H H1) : Chg a H H2 := x.trans (SW.Same.chg y)
theorem Same.trans2 {H H1 H2 : Hp} (y : Same H1 H2) (x : Same H H1) : Same H H2 := x.trans y
theorem kb_tt : kitB "tuple" "tuple" = some true := by decide +kernel
theorem kb_ti : kitB "tuple" "int" = some false := by decide +kernel
theorem kb_tb : kitB "tuple" "bool" = some false := by decide +kernel
theorem kb_ts : kitB "tuple" "str" = some false := by decide +kernel
theorem kb_it : kitB "int" "tuple" = some false := by decide +kernel
theorem kb_ii : kitB "int" "int" = some true := by decide +kernel
theorem kb_ib : kitB "int" "bool" = some false := by decide +kernel
theorem kb_is : kitB "int" "str" = some false := by decide +kernel
theorem kb_bt : kitB "bool" "tuple" = some false := by decide +kernel
theorem kb_bi : kitB "bool" "int" = some true := by decide +kernel
theorem kb_bb : kitB "bool" "bool" = some true := by decide +kernel
theorem kb_bs : kitB "bool" "str" = some false := by decide +kernel
theorem kb_st : kitB "str" "tuple" = some false := by decide +kernel
theorem kb_si : kitB "str" "int" = some false := by decide +kernel
theorem kb_sb : kitB "str" "bool" = some false := by decide +kernel
theorem kb_ss : kitB "str" "str" = some true := by decide +kernel
theorem kb_ni : kitB "NoneType" "int" = some false := by decide +kernel
theorem TyX_T {K : Fr0} {H : Hp} {a : Addr} {xs : List V} (h : SqT K H a xs) : TyX K H (.ref a) (.type "tuple") := by
  rcases h with (h | ⟨o, h⟩) | h
  · exact .base (.tup h)
  · exact .fTuple h
  · obtain ⟨o, its, n, e, c, _⟩ := h
    exact .kTuple e c
theorem isi_ty {K : Fr0} {H : Hp} {Q : VK} {x : V} {a b : String} {r : Bool} (ty : TyX K H x (.type a)) (h : kitB a b = some r) (q : Q (.bl r) H) : rIsi K [x, .ty b] H Q := ⟨x, .ty b, .type a, .type b, r, rfl, .ty b, ty, kit_ty h, q⟩
theorem flat_ints (ns : List Int) : (ns.map V.int).all flatV = true := by
  rw [List.all_map]
  exact List.all_eq_true.mpr fun x _ => rfl
theorem inV_ints (n : Int) (ns : List Int) : inV (.int n) (ns.map V.int) = ns.contains n := by
  unfold inV
  rw [List.any_map, List.contains_eq_any_beq]
  congr 1
  funext x
  show (x == n) = (n == x)
  exact Bool.beq_comm
theorem Same.newc {H H1 H2 : Hp} {x : Addr} (C : Chg x H1 H2) (S : Same H H1) (n : H x = none) : Same H H2 := fun b o h => C b o (ne_of_none h n) (S b o h)
theorem free_of {H0 H : Hp} {x : Addr} (n : H x = none) (S : Same H0 H) : H0 x = none := by
  cases e : H0 x with
  | none => rfl
  | some o =>
    rw [S x o e] at n
    cases n
/-! ### what a dict's step asks -/
def GetK (x y : V) (H : Hp) (Q : VK) : Prop := ∃ a v, x = .ref a ∧ DGet H a y (some v) ∧ Q v H
def GetD (a : Addr) (y z : V) (H : Hp) (Q : VK) : Prop := ∃ o, DGet H a y o ∧ Q (o.getD z) H
def HasK (x y : V) (H : Hp) (Q : VK) : Prop := ∃ a o, x = .ref a ∧ DGet H a y o ∧ Q (.bl o.isSome) H
def HasN (x y : V) (H : Hp) (Q : VK) : Prop := ∃ a o, x = .ref a ∧ DGet H a y o ∧ Q (.bl (!o.isSome)) H
def PutK (x y v : V) (H : Hp) (Q : Hp → Prop) : Prop := ∃ a kvs k, x = .ref a ∧ H a = some (.dK kvs) ∧ y = kV k ∧ kvs.length < sizeLine ∧ Put H a (.dK (putK kvs k v)) Q
theorem isD_of {H : Hp} {a : Addr} {kvs : List (Key × V)} (h : H a = some (.dK kvs)) : IsD H a := .inl ⟨kvs, .inl h⟩
theorem sm_isD {H H' : Hp} {a : Addr} (S : Same H H') (h : IsD H a) : IsD H' a := by
  rcases h with ⟨kvs, h⟩ | ⟨kvs, h⟩
  · exact .inl ⟨kvs, sm_rd S h⟩
  · exact .inr ⟨kvs, sm_rd S h⟩
/-! ### the steps -/
section
variable {K : Fr0} {σ : L2.St} {H : Hp} {Q : VK}
theorem w_ifT {c : Bool} {A B : Prop} (h : c = true) (a : A) : if c = true then A else B := by
  rw [if_pos h]
  exact a
theorem w_ifF {c : Bool} {A B : Prop} (h : c = false) (b : B) : if c = true then A else B := by
  rw [h, if_neg Bool.false_ne_true]
  exact b
theorem w_ite {c : Bool} {A B : Prop} (h1 : c = true → A) (h2 : c = false → B) : if c = true then A else B := by
  cases c with
  | true => exact h1 rfl
  | false => exact h2 rfl
theorem w_var {i : Nat} {v : V} (h0 : σ[i]? = some (some v)) (h1 : Q v H) : tVar i σ H Q := ⟨_, h0, h1⟩
theorem w_c {v : V} (h0 : Q v H) : tC v σ H Q := h0
theorem w_op {r : R2} {ta tb : TE} (h0 : (ta σ H fun x H1 => tb σ H1 fun y H2 => r x y H2 Q)) : tOp r ta tb σ H Q := h0
theorem w_un {r : V → Hp → VK → Prop} {ta : TE} (h0 : (ta σ H fun x H1 => r x H1 Q)) : tUn r ta σ H Q := h0
theorem w_nil {QA : List V → Hp → Prop} (h0 : QA [] H) : tNil σ H QA := h0
theorem w_cons {QA : List V → Hp → Prop} {ta : TE} {tr : TA} (h0 : (ta σ H fun x H1 => tr σ H1 fun xs H2 => QA (x :: xs) H2)) : tCons ta tr σ H QA := h0
theorem w_tup {t : TA} (h0 : (t σ H fun xs H1 => xs.length ≤ sizeLine ∧ NewT K H1 xs Q)) : tTupS K t σ H Q := h0
theorem w_lst {t : TA} (h0 : (t σ H fun xs H1 => xs.length ≤ sizeLine ∧ New H1 (.lst xs) Q)) : tLstS t σ H Q := h0
theorem w_dic  (h0 : New H (.dK []) Q) : tDicS σ H Q := h0
theorem w_newT {xs : List V} (h0 : (∀ p H', Same H H' → SqT K H' p xs → Q (.ref p) H')) : NewT K H xs Q := h0
theorem w_new {o : HO} (h0 : (∀ p H', H p = none → Same H H' → H' p = some o → Q (.ref p) H')) : New H o Q := h0
theorem w_put {a : Addr} {o : HO} {QH : Hp → Prop} (h0 : (∀ H', Chg a H H' → H' a = some o → QH H')) : Put H a o QH := h0
theorem w_CB {r : List V → Hp → VK → Prop} {t : TA} (h0 : (t σ H fun vs H1 => r vs H1 Q)) : tCB r t σ H Q := h0
theorem w_fn {sp : Sp} {E : XK} {t : TA} (h0 : (t σ H fun vs H1 => sp vs H1 Q E)) : tFn sp E t σ H Q := h0
theorem w_mt {C : Addr} {m : Str} {sp : Sp} {E : XK} {to : TE} {t : TA} (h0 : (to σ H fun x H1 => ∃ a dx fs, x = .ref a ∧ H1 a = some (.ins C dx fs) ∧ fs.lookup m = none ∧ t σ H1 fun vs H2 => sp (x :: vs) H2 Q E)) : tMt C m sp E to t σ H Q := h0
theorem w_pr {C : Addr} {sp : Sp} {to : TE} (h0 : (to σ H fun x H1 => ∃ a dx fs, x = .ref a ∧ H1 a = some (.ins C dx fs) ∧ sp [.ref a] H1 Q E0)) : tPr C sp to σ H Q := h0
theorem w_mk {C : Addr} {sp : Sp} {t : TA} (h0 : (t σ H fun vs H1 => NewI C sp vs H1 Q)) : tMkS C sp t σ H Q := h0
theorem w_fld {ta : TE} {f : Str} (h0 : (ta σ H fun x H1 => ∃ a C dx fs v, x = .ref a ∧ H1 a = some (.ins C dx fs) ∧ Cls K C ∧ NoAttr K C f ∧ fs.lookup f = some v ∧ Q v H1)) : tFld K ta f σ H Q := h0
theorem w_sl {r : V → Option Int → Option Int → Hp → VK → Prop} {te : TE} {tl th : TO} (h0 : (te σ H fun x H1 => tl σ H1 fun l H2 => th σ H2 fun u H3 => r x l u H3 Q)) : tSl r te tl th σ H Q := h0
theorem w_nop {QO : Option Int → Hp → Prop} (h0 : QO none H) : tNoPart σ H QO := h0
theorem w_part {QO : Option Int → Hp → Prop} {t : TE} (h0 : (t σ H fun x H1 => ∃ i, x = .int i ∧ QO (some i) H1)) : tPart t σ H QO := h0
theorem w_if {t : TT} {ta tb : TE} (h0 : (t σ H fun c H1 => if c = true then ta σ H1 Q else tb σ H1 Q)) : tIf t ta tb σ H Q := h0
theorem w_andV {ta tb : TE} (h0 : (ta σ H fun x H1 => ∃ c, x = .bl c ∧ if c = true then tb σ H1 Q else Q (.bl false) H1)) : tAndV ta tb σ H Q := h0
theorem w_orV {ta tb : TE} (h0 : (ta σ H fun x H1 => ∃ c, x = .bl c ∧ if c = true then Q (.bl true) H1 else tb σ H1 Q)) : tOrV ta tb σ H Q := h0
theorem w_notV {ta : TE} (h0 : (ta σ H fun x H1 => ∃ c, x = .bl c ∧ Q (.bl (!c)) H1)) : tNotV ta σ H Q := h0
theorem w_test {QB : Bool → Hp → Prop} {t : TE} (h0 : (t σ H fun x H' => ∃ k, x = .bl k ∧ QB k H')) : tTest t σ H QB := h0
theorem w_tB {QB : Bool → Hp → Prop} {t : TE} (h0 : (t σ H fun x H' => ∃ k, x = .bl k ∧ QB k H')) : tB t σ H QB := h0
theorem w_and {QB : Bool → Hp → Prop} {t u : TT} (h0 : (t σ H fun c H1 => if c = true then u σ H1 QB else QB false H1)) : tAnd t u σ H QB := h0
theorem w_or {QB : Bool → Hp → Prop} {t u : TT} (h0 : (t σ H fun c H1 => if c = true then QB true H1 else u σ H1 QB)) : tOr t u σ H QB := h0
theorem w_not {QB : Bool → Hp → Prop} {t : TT} (h0 : (t σ H fun c H1 => QB (!c) H1)) : tNot t σ H QB := h0
theorem w_chain {r r' : R2} {ta tb tc : TE} (h0 : (ta σ H fun x H1 => tb σ H1 fun y H2 => r x y H2 fun z H3 => ∃ k, z = .bl k ∧ (if k = true then tc σ H3 fun w' H4 => r' y w' H4 Q else Q (.bl false) H3))) : tChain r r' ta tb tc σ H Q := h0
theorem w_rI0 {g : Int → Int → V} {i j : Int} (h0 : Q (g i j) H) : rI0 g (.int i) (.int j) H Q := ⟨_, _, rfl, rfl, h0⟩
theorem w_rI {g : Int → Int → V} {C : Int → Int → Prop} {i j : Int} (h0 : C i j) (h1 : Q (g i j) H) : rI C g (.int i) (.int j) H Q := ⟨_, _, rfl, rfl, h0, h1⟩
theorem w_rU {g : Int → V} {i : Int} (h0 : Q (g i) H) : rU g (.int i) H Q := ⟨_, rfl, h0⟩
theorem w_rEq {x y : V} (h0 : scal x y = true) (h1 : Q (.bl (decide (x = y))) H) : rEq x y H Q := ⟨h0, h1⟩
theorem w_rNe {x y : V} (h0 : scal x y = true) (h1 : Q (.bl (!decide (x = y))) H) : rNe x y H Q := ⟨h0, h1⟩
theorem w_ixT {p : Addr} {i : Int} {xs : List V} {v : V} (h0 : SqT K H p xs) (h1 : atI xs i = some v) (h2 : Q v H) : rIxT K (.ref p) (.int i) H Q := ⟨_, _, _, _, rfl, rfl, h0, h1, h2⟩
theorem w_ixL {p : Addr} {i : Int} {xs : List V} {v : V} (h0 : SqL K H p xs) (h1 : atI xs i = some v) (h2 : Q v H) : rIxL K (.ref p) (.int i) H Q := ⟨_, _, _, _, rfl, rfl, h0, h1, h2⟩
theorem w_slT {p : Addr} {l u : Option Int} {xs : List V} (h0 : SqT K H p xs) (h1 : NewT K H (cutV xs l u) Q) : rSlTs K (.ref p) l u H Q := ⟨_, _, rfl, h0, h1⟩
theorem w_slL {p : Addr} {l u : Option Int} {xs : List V} (h0 : SqL K H p xs) (h1 : New H (.lst (cutV xs l u)) Q) : rSlLs K (.ref p) l u H Q := ⟨_, _, rfl, h0, h1⟩
theorem w_catL {l b : Addr} {xs zs : List V} (h0 : H l = some (.lst xs)) (h1 : H b = some (.lst zs)) (h2 : (xs.length + zs.length ≤ sizeLine ∧ New H (.lst (xs ++ zs)) Q)) : rCats (.ref l) (.ref b) H Q := ⟨_, _, _, _, rfl, rfl, h0, h1, h2.1, h2.2⟩
theorem w_catT {l b : Addr} {xs zs : List V} (h0 : SqT K H l xs) (h1 : SqT K H b zs) (h2 : (xs.length + zs.length ≤ sizeLine ∧ NewT K H (xs ++ zs) Q)) : rCatTs K (.ref l) (.ref b) H Q := ⟨_, _, _, _, rfl, rfl, h0, h1, h2.1, h2.2⟩
theorem w_int1 {i : Int} (h0 : Q (.int i) H) : rInt1 [.int i] H Q := ⟨_, rfl, h0⟩
theorem w_divm {i j : Int} (h0 : CDiv i j) (h1 : (∀ p H', Same H H' → H' p = some (.tup [.int (i / j), .int (i % j)]) → Q (.ref p) H')) : rDivM [.int i, .int j] H Q := ⟨_, _, rfl, h0, h1⟩
theorem w_lenL {p : Addr} {xs : List V} (h0 : SqL K H p xs) (h1 : Q (.int xs.length) H) : rLenL K [.ref p] H Q := ⟨_, _, rfl, h0, h1⟩
theorem w_lenT {p : Addr} {xs : List V} (h0 : SqT K H p xs) (h1 : Q (.int xs.length) H) : rLenT K [.ref p] H Q := ⟨_, _, rfl, h0, h1⟩
theorem w_tupL {p : Addr} {xs : List V} (h0 : SqL K H p xs) (h1 : NewT K H xs Q) : rTupL K [.ref p] H Q := ⟨_, _, rfl, h0, h1⟩
theorem w_listL {p : Addr} {xs : List V} (h0 : SqL K H p xs) (h1 : New H (.lst xs) Q) : rListL K [.ref p] H Q := ⟨_, _, rfl, h0, h1⟩
theorem w_listD {p : Addr} {kvs : List (Key × V)} (h0 : H p = some (.dK kvs)) (h1 : New H (.lst (kvs.map fun kv => kV kv.1)) Q) : rListDs [.ref p] H Q := ⟨_, _, rfl, h0, h1⟩
theorem w_dictD {p : Addr} {kvs : List (Key × V)} (h0 : H p = some (.dK kvs)) (h1 : New H (.dK kvs) Q) : rDictD [.ref p] H Q := ⟨_, _, rfl, .inl h0, h1⟩
theorem w_seq {D : Ends} {t u : TS} (h0 : t { D with nx := u D } σ H) : tSeq t u D σ H := h0
theorem w_next {D : Ends} (h0 : D.nx σ H) : tNext D σ H := h0
theorem w_asg {D : Ends} {te : TE} {i : Nat} (h0 : (te σ H fun x H1 => D.nx (σ.set i (some x)) H1)) : tAsg te (gName i) D σ H := h0
theorem w_asgT {D : Ends} {te : TE} {n : Nat} {t : TGs} (h0 : (te σ H fun x H1 => gTup K n t x σ H1 D.nx)) : tAsg te (gTup K n t) D σ H := h0
theorem w_asgS {D : Ends} {te to ti : TE} {r : TSet} (h0 : (te σ H fun x H1 => to σ H1 fun o H2 => ti σ H2 fun i H3 => r o i x H3 fun H4 => D.nx σ H4)) : tAsg te (gSub to ti r) D σ H := h0
theorem w_gname {QS : L2.St → Hp → Prop} {i : Nat} {x : V} (h0 : QS (σ.set i (some x)) H) : gName i x σ H QS := h0
theorem w_gtup {QS : L2.St → Hp → Prop} {n : Nat} {t : TGs} {p : Addr} {xs : List V} (h0 : SqT K H p xs) (h1 : xs.length = n) (h2 : t xs σ H QS) : gTup K n t (.ref p) σ H QS := ⟨_, _, rfl, h0, h1, h2⟩
theorem w_gcons {QS : L2.St → Hp → Prop} {t : TG} {u : TGs} {x : V} {xs : List V} (h0 : (t x σ H fun σ' H' => u xs σ' H' QS)) : gCons t u (x :: xs) σ H QS := ⟨_, _, rfl, h0⟩
theorem w_gnil {QS : L2.St → Hp → Prop} (h0 : QS σ H) : gNil [] σ H QS := ⟨rfl, h0⟩
theorem w_gsub {QS : L2.St → Hp → Prop} {to ti : TE} {r : TSet} {x : V} (h0 : (to σ H fun o H1 => ti σ H1 fun i H2 => r o i x H2 fun H3 => QS σ H3)) : gSub to ti r x σ H QS := h0
theorem w_setL {QH : Hp → Prop} {p : Addr} {k : Int} {x : V} {xs : List V} {j : Nat} (h0 : H p = some (.lst xs)) (h1 : ixN xs.length k = some j) (h2 : (Put H p (.lst (xs.set j x)) QH)) : rSetLs (.ref p) (.int k) x H QH := ⟨_, _, _, _, rfl, rfl, h0, h1, h2⟩
theorem w_par {D : Ends} {i j : Nat} {ta : TA} (h0 : (ta σ H fun vs H1 => ∃ v w, vs = [v, w] ∧ D.nx ((σ.set i (some v)).set j (some w)) H1)) : tPar i j ta D σ H := h0
theorem w_par3 {D : Ends} {i j l : Nat} {ta : TA} (h0 : (ta σ H fun vs H1 => ∃ v w x, vs = [v, w, x] ∧ D.nx (((σ.set i (some v)).set j (some w)).set l (some x)) H1)) : tPar3 i j l ta D σ H := h0
theorem w_drop {D : Ends} {te : TE} (h0 : (te σ H fun _ H1 => D.nx σ H1)) : tDrop te D σ H := h0
theorem w_ret {D : Ends} {te : TE} (h0 : te σ H D.rt) : tRet te D σ H := h0
theorem w_retN {D : Ends} (h0 : D.rt .non H) : tRetN D σ H := h0
theorem w_ifS {D : Ends} {c : TT} {t u : TS} (h0 : (c σ H fun b H1 => if b = true then t D σ H1 else u D σ H1)) : tIfS c t u D σ H := h0
theorem w_fldS {D : Ends} {ta tv : TE} {f : Str} (h0 : (tv σ H fun y H1 => ta σ H1 fun x H2 => ∃ a C dx fs, x = .ref a ∧ H2 a = some (.ins C dx fs) ∧ Cls K C ∧ NoAttr K C f ∧ fs.length < 1000 ∧ Put H2 a (.ins C dx (putF f y fs)) (D.nx σ))) : sFldS K ta tv f D σ H := h0
theorem w_app {l : Addr} {xs : List V} {y : V} (h0 : H l = some (.lst xs)) (h1 : xs.length < sizeLine ∧ (Put H l (.lst (xs ++ [y])) fun H' => Q .non H')) : rApps (.ref l) [y] H Q := ⟨_, _, _, rfl, rfl, h0, h1.1, h1.2⟩
theorem w_bm {T : String} {r : V → List V → Hp → VK → Prop} {to : TE} {t : TA} (h0 : (to σ H fun x H1 => tyV K T x H1 ∧ t σ H1 fun xs H2 => r x xs H2 Q)) : tBM K T r to t σ H Q := h0
theorem w_isiT {a : Addr} {b : String} {xs : List V} {r : Bool} (h0 : SqT K H a xs) (h1 : kitB "tuple" b = some r) (h2 : Q (.bl r) H) : rIsi K [.ref a, .ty b] H Q := isi_ty (TyX_T h0) h1 h2
theorem w_isiI {i : Int} {b : String} {r : Bool} (h0 : kitB "int" b = some r) (h1 : Q (.bl r) H) : rIsi K [.int i, .ty b] H Q := isi_ty (.base (.int _)) h0 h1
theorem w_isiS {i : Str} {b : String} {r : Bool} (h0 : kitB "str" b = some r) (h1 : Q (.bl r) H) : rIsi K [.str i, .ty b] H Q := isi_ty (.base (.str _)) h0 h1
theorem w_isiB {i : Bool} {b : String} {r : Bool} (h0 : kitB "bool" b = some r) (h1 : Q (.bl r) H) : rIsi K [.bl i, .ty b] H Q := isi_ty (.base (.bl _)) h0 h1
theorem w_inT {x : V} {p : Addr} {xs : List V} (h0 : SqT K H p xs) (h1 : flatV x = true) (h2 : xs.all flatV = true) (h3 : Q (.bl (inV x xs)) H) : rIn K false x (.ref p) H Q := ⟨_, _, rfl, .inr h0, h1, h2, h3⟩
theorem w_niT {x : V} {p : Addr} {xs : List V} (h0 : SqT K H p xs) (h1 : flatV x = true) (h2 : xs.all flatV = true) (h3 : Q (.bl (!inV x xs)) H) : rIn K true x (.ref p) H Q := ⟨_, _, rfl, .inr h0, h1, h2, h3⟩
theorem w_inL {x : V} {p : Addr} {xs : List V} (h0 : SqL K H p xs) (h1 : flatV x = true) (h2 : xs.all flatV = true) (h3 : Q (.bl (inV x xs)) H) : rIn K false x (.ref p) H Q := ⟨_, _, rfl, .inl h0, h1, h2, h3⟩
theorem w_niL {x : V} {p : Addr} {xs : List V} (h0 : SqL K H p xs) (h1 : flatV x = true) (h2 : xs.all flatV = true) (h3 : Q (.bl (!inV x xs)) H) : rIn K true x (.ref p) H Q := ⟨_, _, rfl, .inl h0, h1, h2, h3⟩
theorem w_neD {x y : V} {d e : PyData} (h0 : Dp K H x d) (h1 : Dp K H y e) (h2 : SeqAt.shaped d = true) (h3 : SeqAt.shaped e = true) (h4 : Q (.bl (!PyData.eqv d e)) H) : rNeD K x y H Q := ⟨_, _, h0, h1, h2, h3, h4⟩
theorem w_eqD {x y : V} {d e : PyData} (h0 : Dp K H x d) (h1 : Dp K H y e) (h2 : SeqAt.shaped d = true) (h3 : SeqAt.shaped e = true) (h4 : Q (.bl (PyData.eqv d e)) H) : rEqD K x y H Q := ⟨_, _, h0, h1, h2, h3, h4⟩
theorem w_newI {C : Addr} {sp : Sp} {vs : List V} (h0 : (∀ x d H', H x = none → H d = none → d ≠ x → Same H H' → H' x = some (.ins C d []) → sp (.ref x :: vs) H' (fun v H2 => v = .non ∧ Q (.ref x) H2) E0)) : NewI C sp vs H Q := h0
theorem w_dputS {D : Ends} {td ty tv : TE} (h0 : (tv σ H fun v H1 => td σ H1 fun x H2 => ty σ H2 fun y H3 => PutK x y v H3 (D.nx σ))) : sDPutS td ty tv D σ H := h0
theorem w_srtI {p : Addr} {ns : List Int} (h0 : SqL K H p (ns.map V.int)) (h1 : (∀ ns' : List Int, ns'.Perm ns → ns'.Pairwise (· ≤ ·) → New H (.lst (ns'.map V.int)) Q)) : rSrtI K [.ref p] H Q := ⟨_, _, rfl, h0, h1⟩
theorem w_inTD {x y : V} {d : PyData} {ds : List PyData} (h0 : Dp K H x d) (h1 : Dp K H y (.tuple ds)) (h2 : SeqAt.shaped d = true) (h3 : SeqAt.shaped (.tuple ds) = true) (h4 : Q (.bl (ds.any fun z => PyData.eqv z d)) H) : rInTD K x y H Q := ⟨_, _, h0, h1, h2, h3, h4⟩
theorem w_inD {x y : V} {d : PyData} {ds : List PyData} (h0 : Dp K H x d) (h1 : Dp K H y (.list ds)) (h2 : SeqAt.shaped d = true) (h3 : SeqAt.shaped (.list ds) = true) (h4 : Q (.bl (ds.any fun z => PyData.eqv z d)) H) : rInD K x y H Q := ⟨_, _, h0, h1, h2, h3, h4⟩
theorem w_yes {QB : Bool → Hp → Prop} (h0 : QB true H) : tYes σ H QB := h0
theorem w_dget {td ty : TE} (h0 : (td σ H fun x H1 => ty σ H1 fun y H2 => GetK x y H2 Q)) : tDGet td ty σ H Q := h0
theorem w_dget2 {td ty tx : TE} (h0 : (td σ H fun x H1 => ∃ a, x = .ref a ∧ IsD H1 a ∧ ty σ H1 fun y H2 => tx σ H2 fun z H3 => GetD a y z H3 Q)) : tDGet2 td ty tx σ H Q := h0
theorem w_din {ty td : TE} (h0 : (ty σ H fun y H1 => td σ H1 fun x H2 => HasK x y H2 Q)) : tDIn ty td σ H Q := h0
theorem w_dni {ty td : TE} (h0 : (ty σ H fun y H1 => td σ H1 fun x H2 => HasN x y H2 Q)) : tDNotIn ty td σ H Q := h0
end
/-- how many values -/
theorem l0 {p : Hp → VK → XK → Prop} {vs : List V} {H : Hp} {Q : VK} {E : XK} (h : s0 p vs H Q E) : vs.length = 0 := by
  obtain ⟨rfl, _⟩ := h
  rfl
theorem l1 {p : V → Hp → VK → XK → Prop} {vs : List V} {H : Hp} {Q : VK} {E : XK} (h : s1 p vs H Q E) : vs.length = 1 := by
  obtain ⟨a, rfl, _⟩ := h
  rfl
theorem l2 {p : V → V → Hp → VK → XK → Prop} {vs : List V} {H : Hp} {Q : VK} {E : XK} (h : s2 p vs H Q E) : vs.length = 2 := by
  obtain ⟨a, b, rfl, _⟩ := h
  rfl
theorem l3 {p : V → V → V → Hp → VK → XK → Prop} {vs : List V} {H : Hp} {Q : VK} {E : XK} (h : s3 p vs H Q E) : vs.length = 3 := by
  obtain ⟨a, b, c, rfl, _⟩ := h
  rfl
theorem l4 {p : V → V → V → V → Hp → VK → XK → Prop} {vs : List V} {H : Hp} {Q : VK} {E : XK} (h : s4 p vs H Q E) : vs.length = 4 := by
  obtain ⟨a, b, c, d, rfl, _⟩ := h
  rfl
theorem l5 {p : V → V → V → V → V → Hp → VK → XK → Prop} {vs : List V} {H : Hp} {Q : VK} {E : XK} (h : s5 p vs H Q E) : vs.length = 5 := by
  obtain ⟨a, b, c, d, e, rfl, _⟩ := h
  rfl
theorem l6 {p : V → V → V → V → V → V → Hp → VK → XK → Prop} {vs : List V} {H : Hp} {Q : VK} {E : XK} (h : s6 p vs H Q E) : vs.length = 6 := by
  obtain ⟨a, b, c, d, e, f, rfl, _⟩ := h
  rfl
/-! ### the flask: three ints -/
def Fl (H : Hp) (a : Addr) : Prop := ∃ x y z : Int, H a = some (.lst [.int x, .int y, .int z])
theorem cF_hp {H H' : Hp} {a b : Addr} {o : HO} (C : Chg a H H') (F : Fl H a) (h : H b = some o) (d : (tag o == 0) = false) : H' b = some o := by
  obtain ⟨x, y, z, e⟩ := F
  exact cg_hp C h e d
theorem cF_T {K : Fr0} {H H' : Hp} {a b : Addr} {xs : List V} (C : Chg a H H') (F : Fl H a) (h : SqT K H b xs) : SqT K H' b xs := by
  obtain ⟨x, y, z, e⟩ := F
  exact cg_T C h e rfl
theorem cF_D {K : Fr0} {H H' : Hp} {a : Addr} {d : PyData} {v : V} (C : Chg a H H') (F : Fl H a) (h : Dp K H v d) (t : tupO d = true) : Dp K H' v d := by
  obtain ⟨x, y, z, e⟩ := F
  exact cg_D C h t e rfl
theorem sm_Fl {H H' : Hp} {a : Addr} (S : Same H H') (F : Fl H a) : Fl H' a := by
  obtain ⟨x, y, z, e⟩ := F
  exact ⟨x, y, z, S _ _ e⟩
/-- a new object is not what was there -/
theorem nw_ne {H : Hp} {a p : Addr} (h : ∃ o, H a = some o) (n : H p = none) : p ≠ a := by
  obtain ⟨o, h⟩ := h
  exact (ne_of_none h n).symm
theorem nw_neF {H : Hp} {a p : Addr} (n : H p = none) (F : Fl H a) : p ≠ a := by
  obtain ⟨x, y, z, e⟩ := F
  exact (ne_of_none e n).symm
theorem Fl.has {H : Hp} {a : Addr} (F : Fl H a) : ∃ o, H a = some o := by
  obtain ⟨x, y, z, e⟩ := F
  exact ⟨_, e⟩
/-! ### great numbers -/
theorem cmw {i j : Int} (h1 : -1000000000000000000000000000000000000000000000000000000000000000000000000000000000 ≤ i) (h2 : i ≤ 1000000000000000000000000000000000000000000000000000000000000000000000000000000000)
    (h3 : -1000000000000000000000000000000000000000000000000000000000000000000000000000000000 ≤ j) (h4 : j ≤ 1000000000000000000000000000000000000000000000000000000000000000000000000000000000) : CMulW i j :=
  wide_mul (a := 300) (b := 300) (by omega) (by omega) (by decide) (by decide) (by decide)
theorem cdw {i j : Int} (h1 : 0 < j) (h2 : j ≤ 1000000000000000000000000000000000000000000000000000000000000000000000000000000000) : CDivW i j := wide_div (b := 300) h1 (by omega) (by decide) (by decide)
theorem mul_bd {r b R B : Int} (h1 : 0 ≤ r) (h2 : r ≤ R) (h3 : 0 ≤ b) (h4 : b ≤ B) : 0 ≤ r * b ∧ r * b ≤ R * B := ⟨Int.mul_nonneg h1 h3, Int.mul_le_mul h2 h4 h3 (by omega)⟩
/-! ### data -/
inductive Hears where
  | misses | moved | each (n : Int)
  deriving DecidableEq
def Hears.d : Hears → PyData
  | .misses => .str "misses"
  | .moved => .str "moved"
  | .each n => .tuple [.str "each", .int n]
structure Duo where
  us : Int
  uw : Int
  ub : Int
  ls : Int
  lw : Int
  lb : Int
  he : Hears
def Duo.d (u : Duo) : PyData := .tuple [.tuple [.int u.us, .int u.uw, .int u.ub], .tuple [.int u.ls, .int u.lw, .int u.lb], u.he.d]
theorem he_tupO (h : Hears) : tupO h.d = true := by cases h <;> rfl
theorem duo_tupO (u : Duo) : tupO u.d = true := by
  obtain ⟨_, _, _, _, _, _, h⟩ := u
  cases h <;> rfl
abbrev HeV (K : Fr0) (H : Hp) (v : V) (h : Hears) : Prop := Dp K H v h.d
abbrev DuoV (K : Fr0) (H : Hp) (v : V) (u : Duo) : Prop := Dp K H v u.d
def Hears.ok : Hears → Prop
  | .each n => 0 ≤ n ∧ n ≤ 1000
  | _ => True
structure Duo.ok (u : Duo) : Prop where
  us : 0 < u.us ∧ u.us ≤ 1000
  uw : 0 < u.uw ∧ u.uw ≤ 1000
  ub : 0 < u.ub ∧ u.ub ≤ 10 ^ 21
  ls : 0 < u.ls ∧ u.ls ≤ 1000
  lw : 0 < u.lw ∧ u.lw ≤ 1000
  lb : 0 < u.lb ∧ u.lb ≤ 10 ^ 21
  dv : u.lb % u.ub = 0
  he : u.he.ok
theorem DuoV.open {K : Fr0} {H : Hp} {v : V} {u : Duo} (h : DuoV K H v u) : ∃ a b c x, v = .ref a ∧ SqT K H a [.ref b, .ref c, x] ∧ SqT K H b [.int u.us, .int u.uw, .int u.ub] ∧ SqT K H c [.int u.ls, .int u.lw, .int u.lb] ∧ HeV K H x u.he := by
  cases h with
  | tup ha hx =>
    cases hx with
    | cons h1 hx =>
      cases hx with
      | cons h2 hx =>
        cases hx with
        | cons h3 hx =>
          cases hx
          cases h1 with
          | tup hb hy =>
            cases h2 with
            | tup hc hz =>
              cases hy with
              | cons y1 hy =>
                cases y1
                cases hy with
                | cons y2 hy =>
                  cases y2
                  cases hy with
                  | cons y3 hy =>
                    cases y3
                    cases hy
                    cases hz with
                    | cons z1 hz =>
                      cases z1
                      cases hz with
                      | cons z2 hz =>
                        cases z2
                        cases hz with
                        | cons z3 hz =>
                          cases z3
                          cases hz
                          exact ⟨_, _, _, _, rfl, ha, hb, hc, h3⟩
theorem DuoV.of {K : Fr0} {H : Hp} {a b c : Addr} {x : V} {u : Duo} (h : SqT K H a [.ref b, .ref c, x]) (hb : SqT K H b [.int u.us, .int u.uw, .int u.ub]) (hc : SqT K H c [.int u.ls, .int u.lw, .int u.lb]) (hx : HeV K H x u.he) : DuoV K H (.ref a) u :=
  .tup h (.cons (.tup hb (.cons (.int _) (.cons (.int _) (.cons (.int _) .nil)))) (.cons (.tup hc (.cons (.int _) (.cons (.int _) (.cons (.int _) .nil)))) (.cons hx .nil)))
/-- a Pair -/
abbrev pairF (u l h : V) : List (Str × V) := [("front", u), ("back", l), ("notes", h)]
def PairV (K : Fr0) (H : Hp) (v : V) (du : Duo) : Prop := ∃ a dx b c x, v = .ref a ∧ H a = some (.ins (ad K "Pair") dx (pairF (.ref b) (.ref c) x)) ∧ SqT K H b [.int du.us, .int du.uw, .int du.ub] ∧ SqT K H c [.int du.ls, .int du.lw, .int du.lb] ∧ HeV K H x du.he
theorem sm_P {K : Fr0} {H H' : Hp} {v : V} {du : Duo} (S : Same H H') (h : PairV K H v du) : PairV K H' v du := by
  obtain ⟨a, dx, b, c, x, e, h1, h2, h3, h4⟩ := h
  exact ⟨a, dx, b, c, x, e, S _ _ h1, sm_T S h2, sm_T S h3, sm_Dp S h4⟩
theorem cF_P {K : Fr0} {H H' : Hp} {f : Addr} {v : V} {du : Duo} (C : Chg f H H') (F : Fl H f) (h : PairV K H v du) : PairV K H' v du := by
  obtain ⟨a, dx, b, c, x, e, h1, h2, h3, h4⟩ := h
  exact ⟨a, dx, b, c, x, e, cF_hp C F h1 rfl, cF_T C F h2, cF_T C F h3, cF_D C F h4 (he_tupO _)⟩
/-- something that is no Pair changes -/
theorem cg_P {K : Fr0} {H H' : Hp} {f : Addr} {v : V} {du : Duo} {u : HO} (C : Chg f H H') (h : PairV K H v du) (ha : H f = some u) (d : ((tag u == 1) || (tag u == 9) || (tag u == 103)) = false) : PairV K H' v du := by
  obtain ⟨a, dx, b, c, x, e, h1, h2, h3, h4⟩ := h
  have d1 : ((tag u == 1) || (tag u == 9)) = false := (Bool.or_eq_false_iff.mp d).1
  have d2 : (tag u == 103) = false := (Bool.or_eq_false_iff.mp d).2
  exact ⟨a, dx, b, c, x, e, cg_hp C h1 ha (by
    show ((103 : Nat) == tag u) = false
    rw [Bool.eq_false_iff] at d2 ⊢
    intro z
    exact d2 (by rw [beq_iff_eq] at z ⊢; exact z.symm)), cg_T C h2 ha d1, cg_T C h3 ha d1, cg_D C h4 (he_tupO _) ha d1⟩
end SW
/-! The mirror of a run; where a run stands. -/
namespace SW
open PySem PySem.Spec PyProof.Rows L2
/-! ### tables -/
section
variable {β : Type}
def getA (m : List (Int × β)) (k : Int) : Option β := (m.find? fun kv => decide (kv.1 = k)).map (·.2)
def putA (m : List (Int × β)) (k : Int) (v : β) : List (Int × β) :=
  if (m.any fun kv => decide (kv.1 = k)) = true then m.map (fun kv => if kv.1 = k then (kv.1, v) else kv) else m ++ [(k, v)]
theorem getA_nil {k : Int} : getA ([] : List (Int × β)) k = none := rfl
theorem getA_pos {p : Int × β} {r : List (Int × β)} {k : Int} (e : p.1 = k) : getA (p :: r) k = some p.2 := by simp [getA, List.find?_cons, e]
theorem getA_neg {p : Int × β} {r : List (Int × β)} {k : Int} (e : ¬ p.1 = k) : getA (p :: r) k = getA r k := by simp [getA, List.find?_cons, e]
theorem getA_mem {m : List (Int × β)} {k : Int} {v : β} (h : getA m k = some v) : (k, v) ∈ m := by
  induction m with
  | nil => cases h
  | cons p r ih =>
    by_cases e : p.1 = k
    · rw [getA_pos e] at h
      cases h
      rw [← e]
      exact List.mem_cons_self ..
    · rw [getA_neg e] at h
      exact List.mem_cons_of_mem _ (ih h)
theorem any_getA (m : List (Int × β)) (k : Int) : (m.any fun kv => decide (kv.1 = k)) = (getA m k).isSome := by
  induction m with
  | nil => rfl
  | cons p r ih =>
    by_cases e : p.1 = k
    · rw [getA_pos e, List.any_cons, decide_eq_true e]
      rfl
    · rw [getA_neg e, List.any_cons, decide_eq_false e, Bool.false_or, ih]
theorem get_map (m : List (Int × β)) (k j : Int) (v : β) : getA (m.map fun kv => if kv.1 = k then (kv.1, v) else kv) j = (getA m j).map fun x => if j = k then v else x := by
  induction m with
  | nil => rfl
  | cons p r ih =>
    rw [List.map_cons]
    by_cases h : p.1 = k
    · rw [if_pos h]
      by_cases e : p.1 = j
      · rw [getA_pos (p := (p.1, v)) e, getA_pos e, Option.map_some, if_pos (e.symm.trans h)]
      · rw [getA_neg (p := (p.1, v)) e, getA_neg e, ih]
    · rw [if_neg h]
      by_cases e : p.1 = j
      · rw [getA_pos (p := p) e, getA_pos e, Option.map_some, if_neg (fun z => h (e.trans z))]
      · rw [getA_neg (p := p) e, getA_neg e, ih]
theorem get_snoc (m : List (Int × β)) (k j : Int) (v : β) (h : getA m k = none) : getA (m ++ [(k, v)]) j = if j = k then some v else getA m j := by
  induction m with
  | nil =>
    by_cases e : k = j
    · rw [if_pos e.symm]
      exact getA_pos (p := (k, v)) e
    · rw [if_neg (fun z => e z.symm)]
      exact getA_neg (p := (k, v)) e
  | cons p r ih =>
    have hk : ¬ p.1 = k := fun z => by rw [getA_pos z] at h; cases h
    rw [getA_neg hk] at h
    rw [List.cons_append]
    by_cases e : p.1 = j
    · rw [getA_pos e, getA_pos e, if_neg (fun z => hk (e.trans z))]
    · rw [getA_neg e, getA_neg e, ih h]
theorem getA_put (m : List (Int × β)) (k j : Int) (v : β) : getA (putA m k v) j = if j = k then some v else getA m j := by
  unfold putA
  by_cases h : (m.any fun kv => decide (kv.1 = k)) = true
  · rw [if_pos h, get_map]
    rw [any_getA] at h
    by_cases e : j = k
    · subst e
      rw [if_pos rfl]
      cases hg : getA m j with
      | none => rw [hg] at h; cases h
      | some x =>
        show some (if j = j then v else x) = some v
        rw [if_pos rfl]
    · rw [if_neg e]
      cases getA m j with
      | none => rfl
      | some x =>
        show some (if j = k then v else x) = some x
        rw [if_neg e]
  · rw [if_neg h]
    rw [any_getA] at h
    refine get_snoc m k j v ?_
    cases hg : getA m k with
    | none => rfl
    | some x => rw [hg] at h; exact absurd rfl h
theorem len_put (m : List (Int × β)) (k : Int) (v : β) : (putA m k v).length ≤ m.length + 1 := by
  unfold putA
  by_cases h : (m.any fun kv => decide (kv.1 = k)) = true
  · rw [if_pos h, List.length_map]
    omega
  · rw [if_neg h, List.length_append]
    exact Nat.le_refl _
theorem mem_put {m : List (Int × β)} {k : Int} {v : β} {p : Int × β} (h : p ∈ putA m k v) : p ∈ m ∨ p = (k, v) := by
  unfold putA at h
  by_cases e : (m.any fun kv => decide (kv.1 = k)) = true
  · rw [if_pos e] at h
    obtain ⟨q, hq, h⟩ := List.mem_map.mp h
    by_cases e2 : q.1 = k
    · rw [if_pos e2] at h
      rw [← h, e2]
      exact .inr rfl
    · rw [if_neg e2] at h
      rw [← h]
      exact .inl hq
  · rw [if_neg e] at h
    rcases List.mem_append.mp h with h | h
    · exact .inl h
    · exact .inr (List.mem_singleton.mp h)
end
/-- the same tables as a dict's pairs -/
def toK {β : Type} (f : β → V) (m : List (Int × β)) : List (Key × V) := m.map fun p => (Sum.inl p.1, f p.2)
theorem val_toK {β : Type} (f : β → V) (m : List (Int × β)) (k : Int) : valV (toK f m) (Sum.inl k) = (getA m k).map f := by
  induction m with
  | nil => rfl
  | cons p r ih =>
    show valV ((Sum.inl p.1, f p.2) :: toK f r) (Sum.inl k) = _
    by_cases e : p.1 = k
    · rw [getA_pos e, valV_pos (p := ((Sum.inl p.1 : Key), f p.2)) (by rw [e])]
      rfl
    · rw [getA_neg e, valV_neg (p := ((Sum.inl p.1 : Key), f p.2)) (fun z => e (Sum.inl.inj z)), ih]
theorem put_toK {β : Type} (f : β → V) (m : List (Int × β)) (k : Int) (v : β) : putK (toK f m) (Sum.inl k) (f v) = toK f (putA m k v) := by
  have ha : ((toK f m).any fun kv => decide (kv.1 = (Sum.inl k : Key))) = m.any fun kv => decide (kv.1 = k) := by
    rw [valV_any, any_getA, val_toK]
    cases getA m k <;> rfl
  unfold putK putA
  rw [ha]
  by_cases h : (m.any fun kv => decide (kv.1 = k)) = true
  · rw [if_pos h, if_pos h]
    unfold toK
    rw [List.map_map, List.map_map]
    refine List.map_congr_left fun p _ => ?_
    show (if (Sum.inl p.1 : Key) = Sum.inl k then ((Sum.inl p.1 : Key), f v) else (Sum.inl p.1, f p.2)) = (Sum.inl (if p.1 = k then (p.1, v) else p).1, f (if p.1 = k then (p.1, v) else p).2)
    by_cases e : p.1 = k
    · rw [if_pos e, if_pos (by rw [e])]
    · rw [if_neg e, if_neg (fun z => e (Sum.inl.inj z))]
  · rw [if_neg h, if_neg h]
    unfold toK
    rw [List.map_append]
    rfl
theorem len_toK {β : Type} (f : β → V) (m : List (Int × β)) : (toK f m).length = m.length := List.length_map ..
theorem toK_at {β : Type} {f : β → V} {m : List (Int × β)} {i : Nat} {k : Key} {v : V} (h : (toK f m)[i]? = some (k, v)) : ∃ j x, m[i]? = some (j, x) ∧ k = Sum.inl j ∧ v = f x := by
  unfold toK at h
  rw [List.getElem?_map] at h
  cases e : m[i]? with
  | none => rw [e] at h; cases h
  | some p =>
    rw [e] at h
    have h2 := Option.some.inj h
    exact ⟨p.1, p.2, rfl, (congrArg Prod.fst h2).symm, (congrArg Prod.snd h2).symm⟩
theorem decV {i j : Int} : decide (V.int i = V.int j) = decide (i = j) := decide_eq_decide.mpr ⟨fun z => V.int.inj z, fun z => congrArg V.int z⟩
/-! ### the mirror of a run -/
abbrev Rows := List (Int × List Int)
abbrev Nums := List (Int × Int)
def getR (m : Rows) (k : Int) : List Int := (getA m k).getD []
structure Sh where
  tops : Rows
  lows : Rows
  heard : Nums
  missed : Nums
  newest : Nums
  noted : Nat
  gone : Nat
def sh0 : Sh := ⟨[], [], [], [], [], 0, 0⟩
def lowOf (du : Duo) (x : Int) : Int := x * du.ub / du.lb
def keepRow (du : Duo) (lost : Int) (row : List Int) : List Int := row.filter fun x => !decide (lowOf du x = lost)
def takeTops (du : Duo) (lost : Int) (m : Rows) : Rows := m.map fun p => (p.1, keepRow du lost p.2)
def lostN (du : Duo) (lost : Int) (m : Rows) : Nat := (m.map fun p => p.2.length - (keepRow du lost p.2).length).sum
def takeBack (du : Duo) (lost : Int) (s : Sh) : Sh := { s with tops := takeTops du lost s.tops, gone := s.gone + lostN du lost s.tops }
def dropE (x : Int) (row : List Int) : List Int := row.filter fun y => !decide (y = x)
def hear (du : Duo) (tk : Bool) (low : Int) (s : Sh) : Sh :=
  let cell := low % du.ls
  let row := getR s.lows cell
  if row.contains low = true then { s with lows := putA s.lows cell (dropE low row ++ [low]) }
  else if (row.length : Int) = du.lw then
    let s1 := if tk = true then takeBack du (row.headD 0) s else s
    { s1 with lows := putA s1.lows cell (row.tail ++ [low]) }
  else { s with lows := putA s.lows cell (row ++ [low]) }
def hits (du : Duo) (low : Int) (s : Sh) : Bool := (getR s.lows (low % du.ls)).contains low
def tellsM (du : Duo) (s : Sh) (piece at_ : Int) : Bool := match du.he with
  | .misses => false
  | .moved => !decide (getA s.newest at_ = some piece)
  | .each m => decide (m ≤ (getA s.missed at_).getD 0 - (getA s.heard piece).getD 0)
def pieceOf (du : Duo) (place : Int) : Int := place / du.ub
def lowP (du : Duo) (place : Int) : Int := place / du.lb
def isHit (du : Duo) (s : Sh) (place : Int) : Bool := (getR s.tops (pieceOf du place % du.us)).contains (pieceOf du place)
/-- one ask -/
def ask (du : Duo) (tk : Bool) (s : Sh) (place : Int) : Sh :=
  let piece := pieceOf du place
  let low := lowP du place
  let at_ := piece % du.us
  if isHit du s place = true then
    let s1 := { s with tops := putA s.tops at_ (dropE piece (getR s.tops at_) ++ [piece]), newest := putA s.newest at_ piece }
    if tellsM du s piece at_ = true then
      let s2 := hear du tk low s1
      { s2 with heard := putA s2.heard piece ((getA s2.missed at_).getD 0), noted := s2.noted + 1 }
    else s1
  else
    let s1 := { s with missed := putA s.missed at_ ((getA s.missed at_).getD 0 + 1), newest := putA s.newest at_ piece }
    let s2 := hear du tk low s1
    let s3 := { s2 with heard := putA s2.heard piece ((getA s2.missed at_).getD 0) }
    let row := getR s3.tops at_
    { s3 with tops := putA s3.tops at_ ((if (row.length : Int) = du.uw then row.tail else row) ++ [piece]) }
def word (du : Duo) (s : Sh) (place : Int) : Str := if isHit du s place = true then "upper" else if hits du (lowP du place) s = true then "lower" else "none"
def told (du : Duo) (s : Sh) (place : Int) : Bool := isHit du s place && tellsM du s (pieceOf du place) (pieceOf du place % du.us)
def runS (du : Duo) (tk : Bool) (row : List Int) : Sh := row.foldl (ask du tk) sh0
def lonelyM (du : Duo) (s : Sh) : List Int := (s.tops.flatMap fun p => p.2.filter fun x => !(getR s.lows ((x * du.ub / du.lb) % du.ls)).contains (x * du.ub / du.lb))
/-! ### what is always so -/
abbrev Big (x : Int) : Prop := 0 ≤ x ∧ x ≤ 10 ^ 25
structure Good (du : Duo) (n : Nat) (s : Sh) : Prop where
  l1 : s.tops.length ≤ n
  l2 : s.lows.length ≤ n
  l3 : s.heard.length ≤ n
  l4 : s.missed.length ≤ n
  l5 : s.newest.length ≤ n
  nt : (s.tops.map (·.1)).Nodup
  nl : (s.lows.map (·.1)).Nodup
  rt : ∀ p ∈ s.tops, (p.2.length : Int) ≤ du.uw
  rl : ∀ p ∈ s.lows, (p.2.length : Int) ≤ du.lw
  bt : ∀ p ∈ s.tops, ∀ x ∈ p.2, Big x
  hs : ∀ p ∈ s.tops, ∀ x ∈ p.2, (getA s.heard x).isSome = true ∧ (getA s.missed p.1).isSome = true ∧ (getA s.newest p.1).isSome = true
theorem lost_take {du : Duo} {low : Int} {m : Rows} {i : Nat} {p : Int × List Int} (h : m[i]? = some p) : lostN du low (m.take (i + 1)) = lostN du low (m.take i) + (p.2.length - (keepRow du low p.2).length) := by
  unfold lostN
  rw [List.take_add_one, h, List.map_append, List.sum_append]
  simp
theorem tops_take {du : Duo} {low : Int} {m : Rows} {i : Nat} {p : Int × List Int} (h : m[i]? = some p) : takeTops du low (m.take (i + 1)) = takeTops du low (m.take i) ++ [(p.1, keepRow du low p.2)] := by
  unfold takeTops
  rw [List.take_add_one, h, List.map_append]
  rfl
theorem tops_keys (du : Duo) (low : Int) (m : Rows) : (takeTops du low m).map (·.1) = m.map (·.1) := by
  unfold takeTops
  rw [List.map_map]
  rfl
theorem nd_take {m : Rows} {i : Nat} {p : Int × List Int} (nd : (m.map (·.1)).Nodup) (h : m[i]? = some p) : p.1 ∉ (m.take i).map (·.1) := by
  have hi := (List.getElem?_eq_some_iff.mp h).1
  have e : m.take i ++ p :: m.drop (i + 1) = m := by
    rw [← (List.getElem?_eq_some_iff.mp h).2, ← List.drop_eq_getElem_cons hi, List.take_append_drop]
  rw [← e, List.map_append, List.map_cons] at nd
  intro z
  exact (List.nodup_append.mp nd).2.2 _ z _ (List.mem_cons_self ..) rfl
theorem good0 (du : Duo) : Good du 0 sh0 := ⟨Nat.le_refl _, Nat.le_refl _, Nat.le_refl _, Nat.le_refl _, Nat.le_refl _, List.nodup_nil, List.nodup_nil, fun p h => absurd h (List.not_mem_nil), fun p h => absurd h (List.not_mem_nil), fun p h => absurd h (List.not_mem_nil), fun p h => absurd h (List.not_mem_nil)⟩
/-! ### where rows stand; av: where lists may stand -/
abbrev Ad := List (Int × Addr)
def RowsAt (av : Addr → Prop) (H : Hp) (ad : Ad) (m : Rows) : Prop := Paired (fun (p : Int × Addr) (q : Int × List Int) => p.1 = q.1 ∧ av p.2 ∧ H p.2 = some (.lst (q.2.map V.int))) ad m
def TopsAt (av : Addr → Prop) (H : Hp) (d : Addr) (m : Rows) : Prop := ∃ ad : Ad, H d = some (.dK (toK V.ref ad)) ∧ RowsAt av H ad m
def NumsAt (H : Hp) (d : Addr) (m : Nums) : Prop := H d = some (.dK (toK V.int m))
theorem RowsAt.imp {av : Addr → Prop} {H H' : Hp} (h : ∀ a xs, av a → H a = some (.lst xs) → H' a = some (.lst xs)) : ∀ {ad : Ad} {m : Rows}, RowsAt av H ad m → RowsAt av H' ad m
  | _, _, .nil => .nil
  | _, _, .cons ⟨e, a, l⟩ t => .cons ⟨e, a, h _ _ a l⟩ (RowsAt.imp h t)
theorem RowsAt.len {av : Addr → Prop} {H : Hp} {ad : Ad} {m : Rows} (h : RowsAt av H ad m) : ad.length = m.length := Paired.length h
theorem RowsAt.get {av : Addr → Prop} {H : Hp} : ∀ {ad : Ad} {m : Rows} (k : Int), RowsAt av H ad m → (getA ad k = none ∧ getA m k = none) ∨ ∃ l row, getA ad k = some l ∧ getA m k = some row ∧ av l ∧ H l = some (.lst (row.map V.int))
  | _, _, k, .nil => .inl ⟨rfl, rfl⟩
  | _, _, k, .cons (a := p) (b := q) ⟨e, a, l⟩ t => by
    by_cases h : p.1 = k
    · exact .inr ⟨p.2, q.2, getA_pos h, getA_pos (e ▸ h), a, l⟩
    · have h2 : ¬ q.1 = k := fun z => h (e.trans z)
      rw [getA_neg h, getA_neg h2]
      exact RowsAt.get k t
theorem RowsAt.put {av : Addr → Prop} {H : Hp} {ad : Ad} {m : Rows} {k : Int} {l : Addr} {row : List Int} (h : RowsAt av H ad m) (a : av l) (hl : H l = some (.lst (row.map V.int))) : RowsAt av H (putA ad k l) (putA m k row) := by
  have e : (ad.any fun kv => decide (kv.1 = k)) = m.any fun kv => decide (kv.1 = k) := by
    rw [any_getA, any_getA]
    rcases h.get k with ⟨e1, e2⟩ | ⟨l, row, e1, e2, _⟩ <;> rw [e1, e2] <;> rfl
  unfold putA
  rw [e]
  by_cases c : (m.any fun kv => decide (kv.1 = k)) = true
  · rw [if_pos c, if_pos c]
    clear e c
    induction h with
    | nil => exact .nil
    | @cons p q r t x y ih =>
      refine .cons ?_ ih
      obtain ⟨e, b, z⟩ := x
      show (if p.1 = k then (p.1, l) else p).1 = (if q.1 = k then (q.1, row) else q).1 ∧ av (if p.1 = k then (p.1, l) else p).2 ∧ H (if p.1 = k then (p.1, l) else p).2 = some (.lst ((if q.1 = k then (q.1, row) else q).2.map V.int))
      by_cases d : p.1 = k
      · rw [if_pos d, if_pos (e ▸ d)]
        exact ⟨e, a, hl⟩
      · rw [if_neg d, if_neg (fun w => d (e.trans w))]
        exact ⟨e, b, z⟩
  · rw [if_neg c, if_neg c]
    clear e c
    induction h with
    | nil => exact .cons ⟨rfl, a, hl⟩ .nil
    | cons x y ih => exact .cons x ih
/-- what is free may be taken for a list -/
def FA (av : Addr → Prop) (H : Hp) : Prop := ∀ p, H p = none → av p
theorem FA.same {av : Addr → Prop} {H H' : Hp} (f : FA av H) (S : Same H H') : FA av H' := fun p n => f p (by
  cases e : H p with
  | none => rfl
  | some o =>
    rw [S p o e] at n
    cases n)
theorem FA.chg {av : Addr → Prop} {H H' : Hp} {a : Addr} (f : FA av H) (C : Chg a H H') (h : ∃ o, H' a = some o) : FA av H' := fun p n => f p (by
  cases e : H p with
  | none => rfl
  | some o =>
    by_cases q : p = a
    · subst q
      obtain ⟨u, h⟩ := h
      rw [h] at n
      cases n
    · rw [C p o q e] at n
      cases n)
theorem RowsAt.at_ {av : Addr → Prop} {H : Hp} : ∀ {ad : Ad} {m : Rows} {i : Nat} {k : Int} {l : Addr}, RowsAt av H ad m → ad[i]? = some (k, l) → ∃ row, m[i]? = some (k, row) ∧ av l ∧ H l = some (.lst (row.map V.int))
  | _, _, _, _, _, .nil, e => by simp at e
  | _, _, 0, k, l, .cons (a := p) (b := q) ⟨e, a, z⟩ t, h => by
    have h2 : p = (k, l) := by simpa using h
    subst h2
    exact ⟨q.2, by simp only [List.getElem?_cons_zero]; rw [show k = q.1 from e], a, z⟩
  | _, _, i + 1, k, l, .cons (l₁ := r) _ t, h => by
    have h2 : r[i]? = some (k, l) := by simpa using h
    obtain ⟨row, e1, e2, e3⟩ := RowsAt.at_ t h2
    exact ⟨row, by simpa using e1, e2, e3⟩
theorem put_new {β : Type} {m : List (Int × β)} {k : Int} {v : β} (h : k ∉ m.map (·.1)) : putA m k v = m ++ [(k, v)] := by
  unfold putA
  rw [if_neg]
  intro z
  obtain ⟨p, hp, e⟩ := List.any_eq_true.mp z
  exact h (List.mem_map.mpr ⟨p, hp, of_decide_eq_true e⟩)
theorem keys_put {β : Type} (m : List (Int × β)) (k : Int) (v : β) : (putA m k v).map (·.1) = if k ∈ m.map (·.1) then m.map (·.1) else m.map (·.1) ++ [k] := by
  by_cases h : k ∈ m.map (·.1)
  · rw [if_pos h]
    unfold putA
    have e : (m.any fun kv => decide (kv.1 = k)) = true := by
      obtain ⟨p, hp, e⟩ := List.mem_map.mp h
      exact List.any_eq_true.mpr ⟨p, hp, decide_eq_true e⟩
    rw [if_pos e, List.map_map]
    refine List.map_congr_left fun p _ => ?_
    show (if p.1 = k then (p.1, v) else p).1 = p.1
    by_cases c : p.1 = k
    · rw [if_pos c]
    · rw [if_neg c]
  · rw [if_neg h, put_new h, List.map_append]
    rfl
theorem nodup_put {β : Type} {m : List (Int × β)} {k : Int} {v : β} (h : (m.map (·.1)).Nodup) : ((putA m k v).map (·.1)).Nodup := by
  rw [keys_put]
  by_cases c : k ∈ m.map (·.1)
  · rw [if_pos c]
    exact h
  · rw [if_neg c]
    exact List.nodup_append.mpr ⟨h, by simp, by
      intro a ha b hb
      rw [List.mem_singleton.mp hb]
      intro e
      exact c (e ▸ ha)⟩
/-- what a comprehension with a test keeps of a row -/
theorem fm_row {f : Int → Bool} {h : V → Option V} (hf : ∀ n : Int, h (.int n) = if f n = true then some (.int n) else none) (row : List Int) : (row.map V.int).filterMap h = (row.filter f).map V.int := by
  induction row with
  | nil => rfl
  | cons x r ih =>
    rw [List.map_cons]
    by_cases c : f x = true
    · rw [List.filterMap_cons_some (by rw [hf, if_pos c]), List.filter_cons_of_pos c, List.map_cons, ih]
    · rw [List.filterMap_cons_none (by rw [hf, if_neg c]), List.filter_cons_of_neg c, ih]
theorem mem_row {row : List Int} {i : Nat} {x : V} (h : (row.map V.int)[i]? = some x) : ∃ n, x = .int n ∧ n ∈ row := by
  rw [List.getElem?_map] at h
  cases e : row[i]? with
  | none => rw [e] at h; cases h
  | some n =>
    rw [e] at h
    exact ⟨n, (Option.some.inj h).symm, List.mem_of_getElem? e⟩
/-- a comprehension that keeps some ints of a row -/
theorem LcG.rowF {K : Fr0} {a : Addr} {g : TG} {tt : TT} {te : TE} {vs : List Nat} {σ : L2.St} {H1 : Hp} {Q : VK} {row : List Int} (hx : SqL K H1 a (row.map V.int)) (hz : row.length ≤ 5000) (f : Int → Bool)
    (hs : ∀ (n : Int) (H : Hp) (Y : VK) (N : Hp → Prop), n ∈ row → Same H1 H → (f n = true → ∀ H4, Same H H4 → Y (.int n) H4) → (f n = false → ∀ H3, Same H H3 → N H3) →
      g (.int n) (wipe σ vs) H fun σ2 H2 => wipe σ2 vs = wipe σ vs ∧ tt σ2 H2 fun b H3 => if b = true then te σ2 H3 Y else N H3)
    (hq : ∀ D H', H1 D = none → Same H1 H' → H' D = some (.lst ((row.filter f).map V.int)) → Q (.ref D) H') : LcG (Itl K a) g tt te vs σ H1 Q := by
  refine LcG.list hx (by rw [List.length_map]; omega) (fun x => match x with | .int n => if f n = true then some (.int n) else none | _ => none) (fun i x H Y N hi S hy hn => ?_) (fun D H' n S e => hq D H' n S ?_)
  · obtain ⟨n, rfl, hm⟩ := mem_row hi
    refine hs n H Y N hm S (fun e H4 S4 => hy _ _ ?_ S4) (fun e H3 S3 => hn _ ?_ S3)
    · show (if f n = true then some (V.int n) else none) = some (V.int n)
      rw [if_pos e]
    · show (if f n = true then some (V.int n) else none) = none
      rw [if_neg (by rw [e]; exact Bool.false_ne_true)]
  · rw [e, fm_row (fun n => rfl)]
/-! ### steps at such dicts -/
theorem big_len {n : Nat} (h : n ≤ 5000) : n < sizeLine := Nat.lt_of_le_of_lt h (by decide)
section
variable {av : Addr → Prop} {H H' : Hp} {d a l p : Addr} {m : Rows} {k v z : Int} {row : List Int} {nm : Nums} {Q : VK} {u : HO}
theorem TopsAt.same (S : Same H H') (h : TopsAt av H d m) : TopsAt av H' d m := by
  obtain ⟨ad, h1, h2⟩ := h
  exact ⟨ad, S _ _ h1, h2.imp fun b xs _ e => S _ _ e⟩
theorem TopsAt.av_of {av' : Addr → Prop} (hv : ∀ b, av b → av' b) (h : TopsAt av H d m) : TopsAt av' H d m := by
  obtain ⟨ad, h1, h2⟩ := h
  refine ⟨ad, h1, ?_⟩
  clear h1
  induction h2 with
  | nil => exact .nil
  | cons x y ih => exact .cons ⟨x.1, hv _ x.2.1, x.2.2⟩ ih
/-- what changes is no list, and not this dict -/
theorem TopsAt.chg (C : Chg a H H') (ha : H a = some u) (ht : (tag u == 0) = false) (n : d ≠ a) (h : TopsAt av H d m) : TopsAt av H' d m := by
  obtain ⟨ad, h1, h2⟩ := h
  refine ⟨ad, C _ _ n h1, h2.imp fun b xs _ e => C _ _ ?_ e⟩
  refine ne_tag e ha ?_
  show ((0 : Nat) == tag u) = false
  rw [Bool.eq_false_iff] at ht ⊢
  intro z
  exact ht (by rw [beq_iff_eq] at z ⊢; exact z.symm)
/-- a list that is none of these changes -/
theorem TopsAt.chl (C : Chg a H H') (hl : ∃ xs, H a = some (.lst xs)) (n : ∀ b, av b → b ≠ a) (h : TopsAt av H d m) : TopsAt av H' d m := by
  obtain ⟨ad, h1, h2⟩ := h
  obtain ⟨xs, hl⟩ := hl
  exact ⟨ad, C _ _ (ne_tag h1 hl rfl) h1, h2.imp fun b ys hb e => C _ _ (n b hb) e⟩
theorem TopsAt.has (h : TopsAt av H d m) : ∃ kvs, H d = some (.dK kvs) := by
  obtain ⟨ad, h1, _⟩ := h
  exact ⟨_, h1⟩
theorem TopsAt.isD (h : TopsAt av H d m) : IsD H d := by
  obtain ⟨ad, h1, _⟩ := h
  exact isD_of h1
theorem NumsAt.isD (h : NumsAt H d nm) : IsD H d := isD_of h
theorem tops_put (h : TopsAt av H d m) (hl : H l = some (.lst (row.map V.int))) (ha : av l) (hz : m.length ≤ 5000) {QH : Hp → Prop} (q : ∀ H', Chg d H H' → TopsAt av H' d (putA m k row) → QH H') : PutK (.ref d) (.int k) (.ref l) H QH := by
  obtain ⟨ad, h1, h2⟩ := h
  refine ⟨d, _, Sum.inl k, rfl, h1, rfl, by rw [len_toK, h2.len]; exact big_len hz, fun H' C e => q H' C ⟨putA ad k l, ?_, ?_⟩⟩
  · rw [← put_toK]
    exact e
  · exact (h2.put ha hl).imp fun b xs _ z => C b _ (ne_tag z h1 rfl) z
theorem nums_put (h : NumsAt H d nm) (hz : nm.length ≤ 5000) {QH : Hp → Prop} (q : ∀ H', Chg d H H' → NumsAt H' d (putA nm k v) → QH H') : PutK (.ref d) (.int k) (.int v) H QH :=
  ⟨d, _, Sum.inl k, rfl, h, rfl, by rw [len_toK]; exact big_len hz, fun H' C e => q H' C (by
    show H' d = some (.dK (toK V.int (putA nm k v)))
    rw [← put_toK]
    exact e)⟩
theorem tops_getD (h : TopsAt av H d m) (hp : H p = some (.lst [])) (q : ∀ l, H l = some (.lst ((getR m k).map V.int)) → Q (.ref l) H) : GetD d (.int k) (.ref p) H Q := by
  obtain ⟨ad, h1, h2⟩ := h
  refine ⟨_, DGet.k (k := Sum.inl k) h1, ?_⟩
  rw [val_toK]
  unfold getR at q
  rcases h2.get k with ⟨e1, e2⟩ | ⟨l, row, e1, e2, _, e3⟩
  · rw [e2] at q
    rw [e1]
    exact q p hp
  · rw [e2] at q
    rw [e1]
    exact q l e3
theorem tops_get (h : TopsAt av H d m) (e : (getA m k).isSome = true) (q : ∀ l, av l → H l = some (.lst ((getR m k).map V.int)) → Q (.ref l) H) : GetK (.ref d) (.int k) H Q := by
  obtain ⟨ad, h1, h2⟩ := h
  unfold getR at q
  rcases h2.get k with ⟨e1, e2⟩ | ⟨l, row, e1, e2, e3, e4⟩
  · rw [e2] at e
    cases e
  · rw [e2] at q
    refine ⟨d, .ref l, rfl, ?_, q l e3 e4⟩
    have e5 : some (V.ref l) = valV (toK V.ref ad) (Sum.inl k) := by
      rw [val_toK, e1]
      rfl
    rw [e5]
    exact DGet.k (k := Sum.inl k) h1
theorem nums_getD (h : NumsAt H d nm) (q : Q (.int ((getA nm k).getD z)) H) : GetD d (.int k) (.int z) H Q := by
  refine ⟨_, DGet.k (k := Sum.inl k) h, ?_⟩
  rw [val_toK]
  cases e : getA nm k with
  | none =>
    rw [e] at q
    exact q
  | some x =>
    rw [e] at q
    exact q
theorem nums_get (h : NumsAt H d nm) (e : getA nm k = some v) (q : Q (.int v) H) : GetK (.ref d) (.int k) H Q := by
  refine ⟨d, .int v, rfl, ?_, q⟩
  have e5 : some (V.int v) = valV (toK V.int nm) (Sum.inl k) := by
    rw [val_toK, e]
    rfl
  rw [e5]
  exact DGet.k (k := Sum.inl k) h
theorem tops_new (h : H d = some (.dK [])) : TopsAt av H d [] := ⟨[], h, .nil⟩
theorem nums_new (h : H d = some (.dK [])) : NumsAt H d [] := h
end
/-! ### a run -/
structure RA where
  dx : Addr
  t : Addr
  l : Addr
  h : Addr
  m : Addr
  n : Addr
def runF (pv : V) (tk : Bool) (r : RA) (noted gone : Nat) : List (Str × V) := [("duo", pv), ("takes_back", .bl tk), ("tops", .ref r.t), ("lows", .ref r.l), ("heard", .ref r.h), ("missed", .ref r.m), ("newest", .ref r.n), ("noted", .int noted), ("gone", .int gone)]
structure RunAt (K : Fr0) (av : Addr → Prop) (H : Hp) (a : Addr) (r : RA) (pv : V) (tk : Bool) (s : Sh) : Prop where
  ob : H a = some (.ins (ad K "Run") r.dx (runF pv tk r s.noted s.gone))
  tops : TopsAt av H r.t s.tops
  lows : TopsAt av H r.l s.lows
  heard : NumsAt H r.h s.heard
  missed : NumsAt H r.m s.missed
  newest : NumsAt H r.n s.newest
  nd : [r.t, r.l, r.h, r.m, r.n].Nodup
/-- nothing but what S names is changed -/
def Only (S : List Addr) (H H' : Hp) : Prop := ∀ b o, b ∉ S → H b = some o → H' b = some o
section
variable {K : Fr0} {av : Addr → Prop} {H H' : Hp} {a x : Addr} {r : RA} {pv : V} {tk : Bool} {s : Sh} {u : HO}
theorem RunAt.same (S : Same H H') (h : RunAt K av H a r pv tk s) : RunAt K av H' a r pv tk s :=
  ⟨S _ _ h.ob, h.tops.same S, h.lows.same S, S _ _ h.heard, S _ _ h.missed, S _ _ h.newest, h.nd⟩
theorem RunAt.chl (C : Chg x H H') (hl : ∃ xs, H x = some (.lst xs)) (n : ∀ b, av b → b ≠ x) (h : RunAt K av H a r pv tk s) : RunAt K av H' a r pv tk s := by
  have hl2 := hl
  obtain ⟨xs, hl2⟩ := hl2
  exact ⟨C _ _ (ne_tag h.ob hl2 rfl) h.ob, h.tops.chl C hl n, h.lows.chl C hl n, C _ _ (ne_tag h.heard hl2 rfl) h.heard, C _ _ (ne_tag h.missed hl2 rfl) h.missed, C _ _ (ne_tag h.newest hl2 rfl) h.newest, h.nd⟩
end
theorem nd5 {t l h m n : Addr} (x : [t, l, h, m, n].Nodup) : l ≠ t ∧ h ≠ t ∧ m ≠ t ∧ n ≠ t ∧ h ≠ l ∧ m ≠ l ∧ n ≠ l ∧ m ≠ h ∧ n ≠ h ∧ n ≠ m := by
  simp only [List.nodup_cons, List.mem_cons, List.not_mem_nil, or_false, not_or, not_false_eq_true, List.nodup_nil, and_true] at x
  obtain ⟨⟨a1, a2, a3, a4⟩, ⟨b1, b2, b3⟩, ⟨c1, c2⟩, d1⟩ := x
  exact ⟨Ne.symm a1, Ne.symm a2, Ne.symm a3, Ne.symm a4, Ne.symm b1, Ne.symm b2, Ne.symm b3, Ne.symm c1, Ne.symm c2, Ne.symm d1⟩
theorem mk5 {t l h m n : Addr} (x : l ≠ t ∧ h ≠ t ∧ m ≠ t ∧ n ≠ t ∧ h ≠ l ∧ m ≠ l ∧ n ≠ l ∧ m ≠ h ∧ n ≠ h ∧ n ≠ m) : [t, l, h, m, n].Nodup := by
  simp only [List.nodup_cons, List.mem_cons, List.not_mem_nil, or_false, not_or, not_false_eq_true, List.nodup_nil, and_true]
  obtain ⟨a1, a2, a3, a4, b1, b2, b3, c1, c2, d1⟩ := x
  exact ⟨⟨Ne.symm a1, Ne.symm a2, Ne.symm a3, Ne.symm a4⟩, ⟨Ne.symm b1, Ne.symm b2, Ne.symm b3⟩, ⟨Ne.symm c1, Ne.symm c2⟩, Ne.symm d1⟩
theorem Only.refl (S : List Addr) (H : Hp) : Only S H H := fun _ _ _ h => h
theorem Only.trans {S : List Addr} {H H1 H2 : Hp} (a : Only S H H1) (b : Only S H1 H2) : Only S H H2 := fun p o n h => b p o n (a p o n h)
theorem Only.mono {S T : List Addr} {H H1 : Hp} (a : Only S H H1) (h : ∀ x ∈ S, x ∈ T) : Only T H H1 := fun p o n q => a p o (fun z => n (h p z)) q
theorem Only.same {S : List Addr} {H H1 : Hp} (a : Same H H1) : Only S H H1 := fun p o _ q => a p o q
theorem Only.chg {S : List Addr} {H H1 : Hp} {x : Addr} (a : Chg x H H1) (h : x ∈ S) : Only S H H1 := fun p o n q => a p o (fun z => n (z ▸ h)) q
theorem Only.one {H H1 : Hp} {x : Addr} (a : Only [x] H H1) : Chg x H H1 := fun p o n q => a p o (fun z => n (List.mem_singleton.mp z)) q
section
variable {K : Fr0} {av : Addr → Prop} {H H' : Hp} {a x : Addr} {r : RA} {pv : V} {tk : Bool} {s : Sh} {u : HO} {m : Rows} {nm : Nums}
theorem RunAt.putL (h : RunAt K av H a r pv tk s) (C : Chg r.l H H') (T : TopsAt av H' r.l m) : RunAt K av H' a r pv tk { s with lows := m } := by
  obtain ⟨n1, n2, n3, n4, n5, n6, n7, n8, n9, n10⟩ := nd5 h.nd
  obtain ⟨kvs, hk⟩ := h.lows.has
  exact ⟨C _ _ (ne_tag h.ob hk rfl) h.ob, h.tops.chg C hk rfl n1.symm, T, C _ _ n5 h.heard, C _ _ n6 h.missed, C _ _ n7 h.newest, h.nd⟩
theorem RunAt.putT (h : RunAt K av H a r pv tk s) (C : Chg r.t H H') (T : TopsAt av H' r.t m) : RunAt K av H' a r pv tk { s with tops := m } := by
  obtain ⟨n1, n2, n3, n4, n5, n6, n7, n8, n9, n10⟩ := nd5 h.nd
  obtain ⟨kvs, hk⟩ := h.tops.has
  exact ⟨C _ _ (ne_tag h.ob hk rfl) h.ob, T, h.lows.chg C hk rfl n1, C _ _ n2 h.heard, C _ _ n3 h.missed, C _ _ n4 h.newest, h.nd⟩
theorem RunAt.putH (h : RunAt K av H a r pv tk s) (C : Chg r.h H H') (T : NumsAt H' r.h nm) : RunAt K av H' a r pv tk { s with heard := nm } := by
  obtain ⟨n1, n2, n3, n4, n5, n6, n7, n8, n9, n10⟩ := nd5 h.nd
  have hk := h.heard
  exact ⟨C _ _ (ne_tag h.ob hk rfl) h.ob, h.tops.chg C hk rfl n2.symm, h.lows.chg C hk rfl n5.symm, T, C _ _ n8 h.missed, C _ _ n9 h.newest, h.nd⟩
theorem RunAt.putM (h : RunAt K av H a r pv tk s) (C : Chg r.m H H') (T : NumsAt H' r.m nm) : RunAt K av H' a r pv tk { s with missed := nm } := by
  obtain ⟨n1, n2, n3, n4, n5, n6, n7, n8, n9, n10⟩ := nd5 h.nd
  have hk := h.missed
  exact ⟨C _ _ (ne_tag h.ob hk rfl) h.ob, h.tops.chg C hk rfl n3.symm, h.lows.chg C hk rfl n6.symm, C _ _ n8.symm h.heard, T, C _ _ n10 h.newest, h.nd⟩
theorem RunAt.putN (h : RunAt K av H a r pv tk s) (C : Chg r.n H H') (T : NumsAt H' r.n nm) : RunAt K av H' a r pv tk { s with newest := nm } := by
  obtain ⟨n1, n2, n3, n4, n5, n6, n7, n8, n9, n10⟩ := nd5 h.nd
  have hk := h.newest
  exact ⟨C _ _ (ne_tag h.ob hk rfl) h.ob, h.tops.chg C hk rfl n4.symm, h.lows.chg C hk rfl n7.symm, C _ _ n9.symm h.heard, C _ _ n10.symm h.missed, T, h.nd⟩
theorem RunAt.noted (h : RunAt K av H a r pv tk s) (C : Chg a H H') {n : Nat} (e : H' a = some (.ins (ad K "Run") r.dx (runF pv tk r n s.gone))) : RunAt K av H' a r pv tk { s with noted := n } := by
  have ho := h.ob
  have dk : ∀ {d kvs}, H d = some (.dK kvs) → d ≠ a := fun z => ne_tag z ho rfl
  obtain ⟨k1, hk1⟩ := h.tops.has
  obtain ⟨k2, hk2⟩ := h.lows.has
  exact ⟨e, h.tops.chg C ho rfl (dk hk1), h.lows.chg C ho rfl (dk hk2), C _ _ (dk h.heard) h.heard, C _ _ (dk h.missed) h.missed, C _ _ (dk h.newest) h.newest, h.nd⟩
end
theorem cut_tail (x : V) (xs : List V) : cutV (x :: xs) (some 1) none = xs := by
  unfold cutV
  have e1 : HT.sIx (x :: xs).length 0 (some 1) = 1 := by
    unfold HT.sIx
    simp
  have e2 : HT.sIx (x :: xs).length (x :: xs).length none = xs.length + 1 := by
    unfold HT.sIx
    simp
  rw [e1, e2]
  simp
theorem len_getR {m : Rows} {k : Int} {w : Int} (h : ∀ p ∈ m, (p.2.length : Int) ≤ w) (w0 : 0 ≤ w) : ((getR m k).length : Int) ≤ w := by
  unfold getR
  cases e : getA m k with
  | none => exact w0
  | some row => exact h _ (getA_mem e)
/-! ### the mirror keeps its measure -/
theorem hit_mem {du : Duo} {s : Sh} {x : Int} (h : isHit du s x = true) : ∃ row, getA s.tops (pieceOf du x % du.us) = some row ∧ getR s.tops (pieceOf du x % du.us) = row ∧ pieceOf du x ∈ row := by
  unfold isHit getR at h
  cases e : getA s.tops (pieceOf du x % du.us) with
  | none =>
    rw [e] at h
    cases h
  | some row =>
    rw [e] at h
    refine ⟨row, rfl, ?_, ?_⟩
    · unfold getR
      rw [e]
      rfl
    · exact List.contains_iff_mem.mp h
/-- hear leaves all but rows -/
theorem hear_heard (du : Duo) (tk : Bool) (low : Int) (s : Sh) : (hear du tk low s).heard = s.heard ∧ (hear du tk low s).missed = s.missed ∧ (hear du tk low s).newest = s.newest := by
  unfold hear
  dsimp only
  split
  · exact ⟨rfl, rfl, rfl⟩
  · split
    · cases tk <;> exact ⟨rfl, rfl, rfl⟩
    · exact ⟨rfl, rfl, rfl⟩
theorem hear_tops (du : Duo) (tk : Bool) (low : Int) (s : Sh) : (hear du tk low s).tops = s.tops ∨ ∃ y, (hear du tk low s).tops = takeTops du y s.tops := by
  unfold hear
  dsimp only
  split
  · exact .inl rfl
  · split
    · cases tk
      · exact .inl rfl
      · exact .inr ⟨_, rfl⟩
    · exact .inl rfl
theorem hear_rt {du : Duo} {tk : Bool} {low : Int} {s : Sh} {w : Int} (h : ∀ p ∈ s.tops, (p.2.length : Int) ≤ w) : ∀ p ∈ (hear du tk low s).tops, (p.2.length : Int) ≤ w := by
  rcases hear_tops du tk low s with e | ⟨y, e⟩
  · rw [e]
    exact h
  · rw [e]
    intro p hp
    obtain ⟨q, hq, e2⟩ := List.mem_map.mp hp
    have h1 := h q hq
    have h2 := List.length_filter_le (fun x => !decide (lowOf du x = y)) q.2
    subst e2
    show ((keepRow du y q.2).length : Int) ≤ w
    unfold keepRow
    omega
theorem hear_lt (du : Duo) (tk : Bool) (low : Int) (s : Sh) : (hear du tk low s).tops.length = s.tops.length := by
  rcases hear_tops du tk low s with e | ⟨y, e⟩
  · rw [e]
  · rw [e]
    unfold takeTops
    rw [List.length_map]
theorem RunAt.own {K : Fr0} {av : Addr → Prop} {H : Hp} {a b : Addr} {r : RA} {pv : V} {tk : Bool} {s : Sh} (h : RunAt K av H a r pv tk s) (m : b ∈ [a, r.t, r.l, r.h, r.m, r.n]) : ∃ o, H b = some o := by
  simp only [List.mem_cons, List.not_mem_nil, or_false] at m
  obtain ⟨k1, h1⟩ := h.tops.has
  obtain ⟨k2, h2⟩ := h.lows.has
  rcases m with e | e | e | e | e | e <;> subst e
  · exact ⟨_, h.ob⟩
  · exact ⟨_, h1⟩
  · exact ⟨_, h2⟩
  · exact ⟨_, h.heard⟩
  · exact ⟨_, h.missed⟩
  · exact ⟨_, h.newest⟩
/-- what is free behind steps that keep all but S was free ahead, if S is there -/
theorem Only.free {S : List Addr} {H H' : Hp} {p : Addr} (O : Only S H H') (hS : ∀ b ∈ S, ∃ o, H' b = some o) (n : H' p = none) : H p = none := by
  cases e : H p with
  | none => rfl
  | some o =>
    by_cases m : p ∈ S
    · obtain ⟨u, hu⟩ := hS p m
      rw [hu] at n
      cases n
    · rw [O p o m e] at n
      cases n
theorem Chg.free {a p : Addr} {H H' : Hp} {u : HO} (C : Chg a H H') (e : H' a = some u) (n : H' p = none) : H p = none := by
  cases h : H p with
  | none => rfl
  | some o =>
    by_cases q : p = a
    · rw [q, e] at n
      cases n
    · rw [C p o q h] at n
      cases n
theorem dropE_len {x : Int} {row : List Int} (h : x ∈ row) : (dropE x row).length + 1 ≤ row.length := by
  induction row with
  | nil => cases h
  | cons y r ih =>
    unfold dropE at ih ⊢
    by_cases e : y = x
    · rw [List.filter_cons_of_neg (by rw [decide_eq_true e]; decide)]
      have := List.length_filter_le (fun y => !decide (y = x)) r
      rw [List.length_cons]
      omega
    · rw [List.filter_cons_of_pos (by rw [decide_eq_false e]; rfl), List.length_cons, List.length_cons]
      have hm : x ∈ r := by
        rcases List.mem_cons.mp h with z | z
        · exact absurd z.symm e
        · exact z
      have := ih hm
      omega
theorem some_put {β : Type} {m : List (Int × β)} {k j : Int} {v : β} (h : (getA m j).isSome = true) : (getA (putA m k v) j).isSome = true := by
  rw [getA_put]
  by_cases e : j = k
  · rw [if_pos e]
    rfl
  · rw [if_neg e]
    exact h
/-- what is always so, but for the sizes -/
structure Core (du : Duo) (s : Sh) : Prop where
  nt : (s.tops.map (·.1)).Nodup
  nl : (s.lows.map (·.1)).Nodup
  rt : ∀ p ∈ s.tops, (p.2.length : Int) ≤ du.uw
  rl : ∀ p ∈ s.lows, (p.2.length : Int) ≤ du.lw
  bt : ∀ p ∈ s.tops, ∀ x ∈ p.2, Big x
  hs : ∀ p ∈ s.tops, ∀ x ∈ p.2, (getA s.heard x).isSome = true ∧ (getA s.missed p.1).isSome = true ∧ (getA s.newest p.1).isSome = true
theorem Good.core {du : Duo} {n : Nat} {s : Sh} (g : Good du n s) : Core du s := ⟨g.nt, g.nl, g.rt, g.rl, g.bt, g.hs⟩
theorem Core.good {du : Duo} {n : Nat} {s : Sh} (c : Core du s) (a : s.tops.length ≤ n) (b : s.lows.length ≤ n) (d : s.heard.length ≤ n) (e : s.missed.length ≤ n) (f : s.newest.length ≤ n) : Good du n s := ⟨a, b, d, e, f, c.nt, c.nl, c.rt, c.rl, c.bt, c.hs⟩
theorem core_s1h {du : Duo} {s : Sh} {x : Int} (g : Core du s) (h : isHit du s x = true) :
    Core du { s with tops := putA s.tops (pieceOf du x % du.us) (dropE (pieceOf du x) (getR s.tops (pieceOf du x % du.us)) ++ [pieceOf du x]), newest := putA s.newest (pieceOf du x % du.us) (pieceOf du x) } := by
  obtain ⟨row, e1, e2, hm⟩ := hit_mem h
  have hrow := getA_mem e1
  rw [e2]
  have sub : ∀ y ∈ dropE (pieceOf du x) row ++ [pieceOf du x], y ∈ row := by
    intro y hy
    rcases List.mem_append.mp hy with z | z
    · exact (List.mem_filter.mp z).1
    · rw [List.mem_singleton.mp z]
      exact hm
  refine ⟨nodup_put g.nt, g.nl, fun p hp => ?_, g.rl, fun p hp y hy => ?_, fun p hp y hy => ?_⟩
  · rcases mem_put hp with z | z
    · exact g.rt p z
    · rw [z]
      have h1 := g.rt _ hrow
      have h2 := dropE_len hm
      simp only [List.length_append, List.length_cons, List.length_nil] at *
      omega
  · rcases mem_put hp with z | z
    · exact g.bt p z y hy
    · rw [z] at hy
      exact g.bt _ hrow y (sub y hy)
  · rcases mem_put hp with z | z
    · obtain ⟨k1, k2, k3⟩ := g.hs p z y hy
      exact ⟨k1, k2, some_put k3⟩
    · rw [z] at hy ⊢
      obtain ⟨k1, k2, k3⟩ := g.hs _ hrow y (sub y hy)
      exact ⟨k1, k2, some_put k3⟩
theorem good_s1h {du : Duo} {n : Nat} {s : Sh} {x : Int} (g : Good du n s) (h : isHit du s x = true) :
    Good du (n + 1) { s with tops := putA s.tops (pieceOf du x % du.us) (dropE (pieceOf du x) (getR s.tops (pieceOf du x % du.us)) ++ [pieceOf du x]), newest := putA s.newest (pieceOf du x % du.us) (pieceOf du x) } :=
  (core_s1h g.core h).good (Nat.le_trans (len_put ..) (Nat.succ_le_succ g.l1)) (Nat.le_succ_of_le g.l2) (Nat.le_succ_of_le g.l3) (Nat.le_succ_of_le g.l4) (Nat.le_trans (len_put ..) (Nat.succ_le_succ g.l5))
theorem core_s1m {du : Duo} {s : Sh} {k v y : Int} (g : Core du s) : Core du { s with missed := putA s.missed k v, newest := putA s.newest k y } :=
  ⟨g.nt, g.nl, g.rt, g.rl, g.bt, fun p hp x hx => let ⟨k1, k2, k3⟩ := g.hs p hp x hx; ⟨k1, some_put k2, some_put k3⟩⟩
theorem good_s1m {du : Duo} {n : Nat} {s : Sh} {k v y : Int} (g : Good du n s) : Good du (n + 1) { s with missed := putA s.missed k v, newest := putA s.newest k y } :=
  (core_s1m g.core).good (Nat.le_succ_of_le g.l1) (Nat.le_succ_of_le g.l2) (Nat.le_succ_of_le g.l3) (Nat.le_trans (len_put ..) (Nat.succ_le_succ g.l4)) (Nat.le_trans (len_put ..) (Nat.succ_le_succ g.l5))
theorem core_back {du : Duo} {s : Sh} {low : Int} (g : Core du s) : Core du (takeBack du low s) := by
  have sub : ∀ q : Int × List Int, ∀ x ∈ keepRow du low q.2, x ∈ q.2 := fun q x hx => (List.mem_filter.mp hx).1
  refine ⟨?_, g.nl, fun p hp => ?_, g.rl, fun p hp x hx => ?_, fun p hp x hx => ?_⟩
  · show ((takeTops du low s.tops).map (·.1)).Nodup
    rw [tops_keys]
    exact g.nt
  · obtain ⟨q, hq, e⟩ := List.mem_map.mp hp
    have h1 := g.rt q hq
    have h2 := List.length_filter_le (fun x => !decide (lowOf du x = low)) q.2
    subst e
    show ((keepRow du low q.2).length : Int) ≤ du.uw
    unfold keepRow
    omega
  · obtain ⟨q, hq, e⟩ := List.mem_map.mp hp
    subst e
    exact g.bt q hq x (sub q x hx)
  · obtain ⟨q, hq, e⟩ := List.mem_map.mp hp
    subst e
    exact g.hs q hq x (sub q x hx)
theorem core_lows {du : Duo} {s : Sh} {k : Int} {row : List Int} (g : Core du s) (h : (row.length : Int) ≤ du.lw) : Core du { s with lows := putA s.lows k row } :=
  ⟨g.nt, nodup_put g.nl, g.rt, fun p hp => by
    rcases mem_put hp with z | z
    · exact g.rl p z
    · rw [z]
      exact h, g.bt, g.hs⟩
theorem core_hear {du : Duo} {tk : Bool} {low : Int} {s : Sh} (g : Core du s) (h0 : 0 < du.lw) : Core du (hear du tk low s) := by
  have hl := len_getR (k := low % du.ls) g.rl (by omega)
  unfold hear
  dsimp only
  split
  · rename_i hc
    refine core_lows g ?_
    have h2 := dropE_len (List.contains_iff_mem.mp hc)
    rw [List.length_append]
    simp only [List.length_cons, List.length_nil]
    omega
  · split
    · rename_i hf
      have h3 : (((getR s.lows (low % du.ls)).tail ++ [low]).length : Int) ≤ du.lw := by
        rw [List.length_append, List.length_tail]
        simp only [List.length_cons, List.length_nil]
        omega
      cases tk
      · exact core_lows g h3
      · exact core_lows (core_back g) h3
    · rename_i hf
      refine core_lows g ?_
      rw [List.length_append]
      simp only [List.length_cons, List.length_nil]
      omega
theorem lows_len {du : Duo} {tk : Bool} {low : Int} {s : Sh} : (hear du tk low s).lows.length ≤ s.lows.length + 1 := by
  unfold hear
  dsimp only
  split
  · exact len_put ..
  · split
    · cases tk
      · exact len_put ..
      · exact len_put ..
    · exact len_put ..
theorem core_heard {du : Duo} {s : Sh} {k v : Int} {n : Nat} (g : Core du s) : Core du { s with heard := putA s.heard k v, noted := n } :=
  ⟨g.nt, g.nl, g.rt, g.rl, g.bt, fun p hp x hx => let ⟨k1, k2, k3⟩ := g.hs p hp x hx; ⟨some_put k1, k2, k3⟩⟩
theorem big_piece {du : Duo} {x : Int} (b : Big x) (ok : du.ok) : Big (pieceOf du x) := by
  have o := ok.ub
  obtain ⟨b0, b1⟩ := b
  refine ⟨Int.ediv_nonneg b0 (by omega), Int.le_trans (Int.ediv_le_self _ b0) b1⟩
theorem good_ask {du : Duo} {tk : Bool} {n : Nat} {s : Sh} {x : Int} (g : Good du n s) (b : Big x) (ok : du.ok) : Good du (n + 1) (ask du tk s x) := by
  have hlw := ok.lw.1
  have huw := ok.uw.1
  unfold ask
  dsimp only
  split
  · rename_i hh
    have c1 := core_s1h g.core hh
    split
    · have c2 := core_hear (tk := tk) (low := lowP du x) c1 hlw
      obtain ⟨q1, q2, q3⟩ := hear_heard du tk (lowP du x) { s with tops := putA s.tops (pieceOf du x % du.us) (dropE (pieceOf du x) (getR s.tops (pieceOf du x % du.us)) ++ [pieceOf du x]), newest := putA s.newest (pieceOf du x % du.us) (pieceOf du x) }
      refine (core_heard c2).good ?_ ?_ ?_ ?_ ?_
      · show (hear _ _ _ _).tops.length ≤ _
        rw [hear_lt]
        exact Nat.le_trans (len_put ..) (Nat.succ_le_succ g.l1)
      · exact Nat.le_trans lows_len (Nat.succ_le_succ g.l2)
      · refine Nat.le_trans (len_put ..) (Nat.succ_le_succ ?_)
        rw [q1]
        exact g.l3
      · show (hear _ _ _ _).missed.length ≤ _
        rw [q2]
        exact Nat.le_succ_of_le g.l4
      · show (hear _ _ _ _).newest.length ≤ _
        rw [q3]
        exact Nat.le_trans (len_put ..) (Nat.succ_le_succ g.l5)
    · exact good_s1h g hh
  · have c1 := core_s1m (k := pieceOf du x % du.us) (v := (getA s.missed (pieceOf du x % du.us)).getD 0 + 1) (y := pieceOf du x) g.core
    have c2 := core_hear (tk := tk) (low := lowP du x) c1 hlw
    obtain ⟨q1, q2, q3⟩ := hear_heard du tk (lowP du x) { s with missed := putA s.missed (pieceOf du x % du.us) ((getA s.missed (pieceOf du x % du.us)).getD 0 + 1), newest := putA s.newest (pieceOf du x % du.us) (pieceOf du x) }
    have tl : (hear du tk (lowP du x) { s with missed := putA s.missed (pieceOf du x % du.us) ((getA s.missed (pieceOf du x % du.us)).getD 0 + 1), newest := putA s.newest (pieceOf du x % du.us) (pieceOf du x) }).tops.length = s.tops.length := hear_lt ..
    have ll := lows_len (du := du) (tk := tk) (low := lowP du x) (s := { s with missed := putA s.missed (pieceOf du x % du.us) ((getA s.missed (pieceOf du x % du.us)).getD 0 + 1), newest := putA s.newest (pieceOf du x % du.us) (pieceOf du x) })
    generalize hear du tk (lowP du x) { s with missed := putA s.missed (pieceOf du x % du.us) ((getA s.missed (pieceOf du x % du.us)).getD 0 + 1), newest := putA s.newest (pieceOf du x % du.us) (pieceOf du x) } = s2 at *
    have hl := len_getR (k := pieceOf du x % du.us) c2.rt (by omega)
    have hm : (getA s2.missed (pieceOf du x % du.us)).isSome = true := by
      rw [q2, getA_put, if_pos rfl]
      rfl
    have hn : (getA s2.newest (pieceOf du x % du.us)).isSome = true := by
      rw [q3, getA_put, if_pos rfl]
      rfl
    have c3 : Core du { s2 with heard := putA s2.heard (pieceOf du x) ((getA s2.missed (pieceOf du x % du.us)).getD 0) } := core_heard (n := s2.noted) c2
    have hp : (getA (putA s2.heard (pieceOf du x) ((getA s2.missed (pieceOf du x % du.us)).getD 0)) (pieceOf du x)).isSome = true := by
      rw [getA_put, if_pos rfl]
      rfl
    have sub : ∀ y ∈ (if ((getR s2.tops (pieceOf du x % du.us)).length : Int) = du.uw then (getR s2.tops (pieceOf du x % du.us)).tail else getR s2.tops (pieceOf du x % du.us)) ++ [pieceOf du x], y ∈ getR s2.tops (pieceOf du x % du.us) ∨ y = pieceOf du x := by
      intro y hy
      rcases List.mem_append.mp hy with z | z
      · left
        split at z
        · exact List.mem_of_mem_tail z
        · exact z
      · exact .inr (List.mem_singleton.mp z)
    have inrow : ∀ y ∈ getR s2.tops (pieceOf du x % du.us), ∃ row, (pieceOf du x % du.us, row) ∈ s2.tops ∧ y ∈ row := by
      intro y hy
      unfold getR at hy
      cases e : getA s2.tops (pieceOf du x % du.us) with
      | none =>
        rw [e] at hy
        cases hy
      | some row =>
        rw [e] at hy
        exact ⟨row, getA_mem e, hy⟩
    refine Core.good ⟨nodup_put c3.nt, c3.nl, fun p hp2 => ?_, c3.rl, fun p hp2 y hy => ?_, fun p hp2 y hy => ?_⟩ ?_ ?_ ?_ ?_ ?_
    · rcases mem_put hp2 with z | z
      · exact c3.rt p z
      · rw [z]
        show ((((if ((getR s2.tops (pieceOf du x % du.us)).length : Int) = du.uw then (getR s2.tops (pieceOf du x % du.us)).tail else getR s2.tops (pieceOf du x % du.us)) ++ [pieceOf du x]).length : Nat) : Int) ≤ du.uw
        rw [List.length_append]
        simp only [List.length_cons, List.length_nil]
        split
        · rw [List.length_tail]
          omega
        · omega
    · rcases mem_put hp2 with z | z
      · exact c3.bt p z y hy
      · rw [z] at hy
        rcases sub y hy with h | h
        · obtain ⟨row, h1, h2⟩ := inrow y h
          exact c3.bt _ h1 y h2
        · rw [h]
          exact big_piece b ok
    · rcases mem_put hp2 with z | z
      · exact c3.hs p z y hy
      · rw [z] at hy ⊢
        rcases sub y hy with h | h
        · obtain ⟨row, h1, h2⟩ := inrow y h
          exact c3.hs _ h1 y h2
        · rw [h]
          exact ⟨hp, hm, hn⟩
    · refine Nat.le_trans (len_put ..) (Nat.succ_le_succ ?_)
      rw [tl]
      exact g.l1
    · exact Nat.le_trans ll (Nat.succ_le_succ g.l2)
    · refine Nat.le_trans (len_put ..) (Nat.succ_le_succ ?_)
      rw [q1]
      exact g.l3
    · show s2.missed.length ≤ _
      rw [q2]
      exact Nat.le_trans (len_put ..) (Nat.succ_le_succ g.l4)
    · show s2.newest.length ≤ _
      rw [q3]
      exact Nat.le_trans (len_put ..) (Nat.succ_le_succ g.l5)
/-- such a dict that is read only -/
def TopsR (av : Addr → Prop) (H : Hp) (d : Addr) (m : Rows) : Prop := ∃ as1 : Ad, Rd H d (.dK (toK V.ref as1)) ∧ RowsAt av H as1 m
theorem TopsAt.rd {av : Addr → Prop} {H : Hp} {d : Addr} {m : Rows} (h : TopsAt av H d m) : TopsR av H d m := by
  obtain ⟨as1, h1, h2⟩ := h
  exact ⟨as1, .inl h1, h2⟩
theorem TopsR.same {av : Addr → Prop} {H H' : Hp} {d : Addr} {m : Rows} (S : Same H H') (h : TopsR av H d m) : TopsR av H' d m := by
  obtain ⟨as1, h1, h2⟩ := h
  exact ⟨as1, sm_rd S h1, h2.imp fun b xs _ z => S _ _ z⟩
theorem TopsR.isD {av : Addr → Prop} {H : Hp} {d : Addr} {m : Rows} (h : TopsR av H d m) : IsD H d := by
  obtain ⟨as1, h1, h2⟩ := h
  exact .inl ⟨_, h1⟩
theorem topsR_getD {av : Addr → Prop} {H : Hp} {d p : Addr} {m : Rows} {k : Int} {Q : VK} (h : TopsR av H d m) (hp : H p = some (.lst [])) (q : ∀ l, H l = some (.lst ((getR m k).map V.int)) → Q (.ref l) H) : GetD d (.int k) (.ref p) H Q := by
  obtain ⟨as1, h1, h2⟩ := h
  refine ⟨_, .inl ⟨_, Sum.inl k, h1, rfl, rfl⟩, ?_⟩
  rw [val_toK]
  unfold getR at q
  rcases h2.get k with ⟨e1, e2⟩ | ⟨l, row, e1, e2, _, e3⟩
  · rw [e2] at q
    rw [e1]
    exact q p hp
  · rw [e2] at q
    rw [e1]
    exact q l e3
theorem RunAt.notlst {K : Fr0} {av : Addr → Prop} {H : Hp} {a b : Addr} {r : RA} {pv : V} {tk : Bool} {s : Sh} {xs : List V} (h : RunAt K av H a r pv tk s) (e : H b = some (.lst xs)) : b ∉ [a, r.t, r.l, r.h, r.m, r.n] := by
  obtain ⟨k1, h1⟩ := h.tops.has
  obtain ⟨k2, h2⟩ := h.lows.has
  have h3 := h.heard
  have h4 := h.missed
  have h5 := h.newest
  have h6 := h.ob
  intro m
  simp only [List.mem_cons, List.not_mem_nil, or_false] at m
  rcases m with z | z | z | z | z | z <;> subst z
  · exact ne_tag h6 e rfl rfl
  · exact ne_tag h1 e rfl rfl
  · exact ne_tag h2 e rfl rfl
  · exact ne_tag h3 e rfl rfl
  · exact ne_tag h4 e rfl rfl
  · exact ne_tag h5 e rfl rfl
end SW
/-! The law's step is the program's. -/
namespace SW
open PySem PySem.Spec PyProof.Rows L2
def lawBack (du : Duo) (tk : Bool) (deep : List Int) (low : Int) (s : Sh) : Sh := if (!deep.contains low && decide ((deep.length : Int) = du.lw)) = true then (if tk = true then takeBack du (deep.headD 0) s else s) else s
def lawDeep (du : Duo) (deep : List Int) (low : Int) : List Int := if (!deep.contains low && decide ((deep.length : Int) = du.lw)) = true then deep.tail else deep
def lawTell (du : Duo) (tk : Bool) (s s1 : Sh) (x : Int) : Sh :=
  let deep := getR s.lows (lowP du x % du.ls)
  let s2 := lawBack du tk deep (lowP du x) s1
  { s2 with lows := putA s2.lows (lowP du x % du.ls) (dropE (lowP du x) (lawDeep du deep (lowP du x)) ++ [lowP du x]), heard := putA s2.heard (pieceOf du x) ((getA s2.missed (pieceOf du x % du.us)).getD 0), noted := if isHit du s x = true then s2.noted + 1 else s2.noted }
def lawEnd (du : Duo) (s : Sh) (x : Int) : Sh :=
  let own := dropE (pieceOf du x) (getR s.tops (pieceOf du x % du.us))
  { s with newest := putA s.newest (pieceOf du x % du.us) (pieceOf du x), tops := putA s.tops (pieceOf du x % du.us) ((if (own.length : Int) = du.uw then own.tail else own) ++ [pieceOf du x]) }
def lawStep (du : Duo) (tk : Bool) (s : Sh) (x : Int) : Sh :=
  let s1 := if isHit du s x = true then s else { s with missed := putA s.missed (pieceOf du x % du.us) ((getA s.missed (pieceOf du x % du.us)).getD 0 + 1) }
  lawEnd du (if (!isHit du s x || tellsM du s (pieceOf du x) (pieceOf du x % du.us)) = true then lawTell du tk s s1 x else s1) x
theorem lowOf_piece {du : Duo} (ok : du.ok) (x : Int) : lowOf du (pieceOf du x) = lowP du x := by
  have o1 := ok.ub
  have o2 := ok.lb
  have e : du.lb = du.ub * (du.lb / du.ub) := by
    have h := Int.mul_ediv_add_emod du.lb du.ub
    rw [ok.dv] at h
    omega
  have c0 : 0 < du.lb / du.ub := by
    rcases Int.lt_trichotomy 0 (du.lb / du.ub) with h | h | h
    · exact h
    · rw [← h] at e
      omega
    · have := Int.mul_neg_of_pos_of_neg o1.1 h
      omega
  unfold lowOf pieceOf lowP
  rw [e, Int.mul_comm (x / du.ub) du.ub, Int.mul_ediv_mul_of_pos _ _ o1.1, Int.ediv_ediv_of_nonneg (by omega)]
theorem dropE_not {x : Int} {row : List Int} (h : x ∉ row) : dropE x row = row := by
  unfold dropE
  rw [List.filter_eq_self]
  intro y hy
  rw [decide_eq_false (show ¬ y = x from fun z => h (z ▸ hy))]
  rfl
theorem getR_take (du : Duo) (lost : Int) (m : Rows) (k : Int) : getR (takeTops du lost m) k = keepRow du lost (getR m k) := by
  induction m with
  | nil => rfl
  | cons p r ih =>
    unfold getR takeTops at *
    rw [List.map_cons]
    by_cases e : p.1 = k
    · rw [getA_pos (p := (p.1, keepRow du lost p.2)) e, getA_pos e]
      rfl
    · rw [getA_neg (p := (p.1, keepRow du lost p.2)) e, getA_neg e]
      exact ih
theorem take_put (du : Duo) (lost : Int) (m : Rows) (k : Int) (row : List Int) : takeTops du lost (putA m k row) = putA (takeTops du lost m) k (keepRow du lost row) := by
  have ha : ((takeTops du lost m).any fun kv => decide (kv.1 = k)) = m.any fun kv => decide (kv.1 = k) := by
    unfold takeTops
    rw [List.any_map]
    rfl
  unfold putA
  rw [ha]
  by_cases h : (m.any fun kv => decide (kv.1 = k)) = true
  · rw [if_pos h, if_pos h]
    unfold takeTops
    rw [List.map_map, List.map_map]
    refine List.map_congr_left fun p _ => ?_
    show ((if p.1 = k then (p.1, row) else p).1, keepRow du lost (if p.1 = k then (p.1, row) else p).2) = (if p.1 = k then (p.1, keepRow du lost row) else (p.1, keepRow du lost p.2))
    by_cases e : p.1 = k
    · rw [if_pos e, if_pos e]
    · rw [if_neg e, if_neg e]
  · rw [if_neg h, if_neg h]
    unfold takeTops
    rw [List.map_append]
    rfl
theorem keep_drop {du : Duo} {lost piece : Int} {row : List Int} (h : ¬ lowOf du piece = lost) : keepRow du lost (dropE piece row ++ [piece]) = dropE piece (keepRow du lost row) ++ [piece] := by
  unfold keepRow dropE
  rw [List.filter_append, List.filter_cons, if_pos (by rw [decide_eq_false h]; rfl), List.filter_nil, List.filter_filter, List.filter_filter]
  congr 1
  refine List.filter_congr fun y _ => ?_
  exact Bool.and_comm ..
theorem getA_at2 {β : Type} {m : List (Int × β)} {p : Int × β} (nd : (m.map (·.1)).Nodup) (h : p ∈ m) : getA m p.1 = some p.2 := by
  induction m with
  | nil => cases h
  | cons q r ih =>
    rw [List.map_cons, List.nodup_cons] at nd
    rcases List.mem_cons.mp h with z | z
    · rw [z]
      exact getA_pos rfl
    · have hne : ¬ q.1 = p.1 := by
        intro e
        exact nd.1 (List.mem_map.mpr ⟨p, z, e.symm⟩)
      rw [getA_neg hne]
      exact ih nd.2 z
theorem lost_put {du : Duo} {lost : Int} {m : Rows} {k : Int} {row row2 : List Int} (nd : (m.map (·.1)).Nodup) (e : getA m k = some row) (hc : row2.length - (keepRow du lost row2).length = row.length - (keepRow du lost row).length) : lostN du lost (putA m k row2) = lostN du lost m := by
  unfold lostN putA
  rw [if_pos (by rw [any_getA, e]; rfl), List.map_map]
  congr 1
  refine List.map_congr_left fun p hp => ?_
  show (if p.1 = k then (p.1, row2) else p).2.length - (keepRow du lost (if p.1 = k then (p.1, row2) else p).2).length = _
  by_cases h : p.1 = k
  · rw [if_pos h]
    have h2 := getA_at2 nd hp
    rw [h, e] at h2
    rw [← Option.some.inj h2]
    exact hc
  · rw [if_neg h]
theorem cnt_drop {du : Duo} {lost piece : Int} {row : List Int} (h : ¬ lowOf du piece = lost) : (dropE piece row ++ [piece]).length - (keepRow du lost (dropE piece row ++ [piece])).length = row.length - (keepRow du lost row).length := by
  rw [keep_drop h]
  simp only [List.length_append, List.length_cons, List.length_nil]
  have e : ∀ l : List Int, (dropE piece l).length + (l.filter fun y => decide (y = piece)).length = l.length := by
    intro l
    unfold dropE
    induction l with
    | nil => rfl
    | cons y r ih =>
      rw [List.filter_cons, List.filter_cons]
      by_cases hy : y = piece
      · rw [decide_eq_true hy]
        simp only [Bool.not_true, Bool.false_eq_true, if_false, if_true, List.length_cons]
        omega
      · rw [decide_eq_false hy]
        simp only [Bool.not_false, Bool.false_eq_true, if_false, if_true, List.length_cons]
        omega
  have e1 := e row
  have e2 := e (keepRow du lost row)
  have e3 : ((keepRow du lost row).filter fun y => decide (y = piece)) = row.filter fun y => decide (y = piece) := by
    unfold keepRow
    rw [List.filter_filter]
    refine List.filter_congr fun y _ => ?_
    by_cases hy : y = piece
    · rw [hy, decide_eq_true rfl, decide_eq_false h]
      rfl
    · rw [decide_eq_false hy]
      rfl
  rw [e3] at e2
  have l1 := List.length_filter_le (fun x => !decide (lowOf du x = lost)) row
  unfold keepRow at *
  omega
theorem back_or (du : Duo) (tk : Bool) (deep : List Int) (low : Int) : (∀ s, lawBack du tk deep low s = s) ∨ (deep.contains low = false ∧ (deep.length : Int) = du.lw ∧ ∀ s, lawBack du tk deep low s = takeBack du (deep.headD 0) s) := by
  unfold lawBack
  by_cases c : (!deep.contains low && decide ((deep.length : Int) = du.lw)) = true
  · cases tk with
    | false =>
      left
      intro s
      rw [if_pos c, if_neg Bool.false_ne_true]
    | true =>
      right
      rw [Bool.and_eq_true] at c
      refine ⟨by cases e : deep.contains low with
        | false => rfl
        | true => rw [e] at c; exact absurd c.1 (by decide), of_decide_eq_true c.2, fun s => ?_⟩
      rw [if_pos (by rw [Bool.and_eq_true]; exact c), if_pos rfl]
  · left
    intro s
    rw [if_neg c]
theorem not_mem_of {x : Int} {l : List Int} (h : l.contains x = false) : x ∉ l := fun z => by
  rw [List.contains_iff_mem.mpr z] at h
  cases h
theorem hear_form (du : Duo) (tk : Bool) (low : Int) (s : Sh) : hear du tk low s = { lawBack du tk (getR s.lows (low % du.ls)) low s with lows := putA s.lows (low % du.ls) (dropE low (lawDeep du (getR s.lows (low % du.ls)) low) ++ [low]) } := by
  unfold hear lawBack lawDeep
  dsimp only
  by_cases c : (getR s.lows (low % du.ls)).contains low = true
  · rw [if_pos c, c]
    rfl
  · have c2 : (getR s.lows (low % du.ls)).contains low = false := by
      cases e : (getR s.lows (low % du.ls)).contains low with
      | false => rfl
      | true => exact absurd e c
    have nm := not_mem_of c2
    rw [if_neg c, c2]
    by_cases f : ((getR s.lows (low % du.ls)).length : Int) = du.lw
    · rw [if_pos f, decide_eq_true f]
      have nt : low ∉ (getR s.lows (low % du.ls)).tail := fun z => nm (List.mem_of_mem_tail z)
      show _ = _
      simp only [Bool.not_false, Bool.true_and, if_true]
      rw [dropE_not nt]
      cases tk <;> rfl
    · rw [if_neg f, decide_eq_false f]
      simp only [Bool.not_false, Bool.true_and, Bool.false_eq_true, if_false]
      rw [dropE_not nm]
theorem law_eq {du : Duo} {tk : Bool} {n : Nat} {s : Sh} {x : Int} (g : Good du n s) (ok : du.ok) : lawStep du tk s x = ask du tk s x := by
  have hlp := lowOf_piece ok x
  unfold lawStep ask
  dsimp only
  by_cases hh : isHit du s x = true
  · obtain ⟨row, er, er2, hm⟩ := hit_mem hh
    have hlen := g.rt _ (getA_mem er)
    simp only at hlen
    have hd := dropE_len hm
    rw [if_pos hh, if_pos hh, hh, Bool.not_true, Bool.false_or]
    by_cases ht : tellsM du s (pieceOf du x) (pieceOf du x % du.us) = true
    · rw [if_pos ht, if_pos ht, hear_form]
      unfold lawEnd lawTell
      dsimp only
      rw [if_pos hh]
      rcases back_or du tk (getR s.lows (lowP du x % du.ls)) (lowP du x) with hb | ⟨c1, c2, hb⟩
      · rw [hb, hb]
        dsimp only
        rw [er2, if_neg (by omega)]
      · have hne : ¬ lowOf du (pieceOf du x) = (getR s.lows (lowP du x % du.ls)).headD 0 := by
          rw [hlp]
          intro z
          have nm := not_mem_of c1
          have hw := ok.lw
          cases e : getR s.lows (lowP du x % du.ls) with
          | nil =>
            rw [e] at c2
            simp at c2
            omega
          | cons y r =>
            rw [e] at z nm
            exact nm (by rw [z]; exact List.mem_cons_self ..)
        rw [hb, hb]
        unfold takeBack
        dsimp only
        have hk : pieceOf du x ∈ keepRow du ((getR s.lows (lowP du x % du.ls)).headD 0) row := List.mem_filter.mpr ⟨hm, by rw [decide_eq_false hne]; rfl⟩
        have hk2 := dropE_len hk
        have hk3 := List.length_filter_le (fun x2 => !decide (lowOf du x2 = (getR s.lows (lowP du x % du.ls)).headD 0)) row
        rw [getR_take, er2, if_neg (by unfold keepRow at *; omega), take_put, keep_drop hne, lost_put g.nt er (cnt_drop hne)]
    · rw [if_neg ht, if_neg ht]
      unfold lawEnd
      dsimp only
      rw [er2, if_neg (by omega)]
  · have hh2 : isHit du s x = false := by
      cases e : isHit du s x with
      | false => rfl
      | true => exact absurd e hh
    have nm : pieceOf du x ∉ getR s.tops (pieceOf du x % du.us) := not_mem_of hh2
    rw [if_neg hh, if_neg hh, hh2, Bool.not_false, Bool.true_or, if_pos rfl, hear_form]
    unfold lawEnd lawTell
    dsimp only
    rw [if_neg hh]
    rcases back_or du tk (getR s.lows (lowP du x % du.ls)) (lowP du x) with hb | ⟨c1, c2, hb⟩
    · rw [hb, hb]
      dsimp only
      rw [dropE_not nm]
    · rw [hb, hb]
      unfold takeBack
      dsimp only
      have nk : pieceOf du x ∉ keepRow du ((getR s.lows (lowP du x % du.ls)).headD 0) (getR s.tops (pieceOf du x % du.us)) := fun z => nm (List.mem_filter.mp z).1
      rw [getR_take, dropE_not nk]
end SW
/-! Operations that an own class defines: [] []= len !=; the with statement; repr of a list. -/
namespace SW
open PySem PySem.Spec PyProof.Rows L2
section
variable {X : Cx} {CX : CXT} {E : XK} {k : Nat} {f C : Addr} {sp : Sp} {a b : Expr} {ta tb : TE} {pos : Pos}
/-- x[i] -/
def rOwn2 (C : Addr) (sp : Sp) : R2 := fun x y H Q => ∃ a dx fs, x = .ref a ∧ H a = some (.ins C dx fs) ∧ sp [x, y] H Q E0
theorem pe_ownIx (ha : PE X a ta) (hb : PE X b tb) (hm : Meth X.K C "__getitem__" f) (hfn : PySem.W.fnIn X.K f = true) (F : FnR X.prog X.w X.K X.mg X.base CX0 k f sp) (hr : Room (k + 1) X.A)
    (hsl : ∀ v u, subscripted b true v u = runValue (.builtin "lifetime.subscript" ⟨[v, u], []⟩) := by intro _ _; with_unfolding_all rfl) : PE X (.Subscript a b pos) (tOp (rOwn2 C sp) ta tb) := by
  constructor
  intro pins s σ H Q I h
  refine Subscript_ (binT ha hb I h fun v u s2 x y H2 I2 rx ry q => ?_)
  obtain ⟨p, dx, fs, ex, ea, q⟩ := q
  subst ex
  cases (show v = Value.ref p from rx)
  obtain ⟨mA, O, _⟩ := ins_get I2.hok ea
  obtain ⟨od, J, _⟩ := O.look
  obtain ⟨m, hF⟩ := I2.fr
  refine PySem.W.sub_K hF I2.ok.mod.kin J hm.at_ hfn hm.fn ?_ (hsl _ _)
  refine wpAny_call (codeAny_mono (F X.A.in1 X.stack s2 H2 [.ref p, u] [.ref p, y] Q E0 hr.in1 I2.env0.in1 (.cons rfl (.cons ry .nil)) q) fun r s' hq => ?_)
  cases r with
  | error er => exact False.elim hq
  | ok fl =>
    cases fl with
    | ret u => exact I2.after hq
    | next => exact False.elim hq
    | brk => exact False.elim hq
    | cont => exact False.elim hq
/-- x[i] = v -/
def rOwnSet (C : Addr) (sp : Sp) (E : XK) : TSet := fun o i v H Q => ∃ a dx fs, o = .ref a ∧ H a = some (.ins C dx fs) ∧ sp [o, i, v] H (fun _ H' => Q H') E
theorem set_own (hns : PySem.W.noSeq X.K C = true) (hm : Meth X.K C "__setitem__" f) (F : FnR X.prog X.w X.K X.mg X.base CX k f sp) (hr : Room k X.A) (hx : Passes CX X E) : PSet X (rOwnSet C sp E) := by
  intro pins s σ H o i v ov iv u Q I ro ri rv h
  obtain ⟨p, dx, fs, ex, ea, q⟩ := h
  subst ex
  cases (show ov = Value.ref p from ro)
  obtain ⟨mA, O, _⟩ := ins_get I.hok ea
  obtain ⟨od, J, _⟩ := O.look
  obtain ⟨m, hF⟩ := I.fr
  refine PySem.W.ksp_setItem hF I.ok.mod.kin J hns hm.at_ hm.fn ?_
  refine wpAny_mono (wpAny_call (run_fnR (us := [.ref p, iv, u]) (vs := [.ref p, i, v]) F hr hx I (.cons rfl (.cons ri (.cons rv .nil))) q)) (fun w s' z => ?_) fun _ _ z => z
  obtain ⟨v', H', I', _, q'⟩ := z
  exact ⟨H', I', q'⟩
/-- len(x) -/
def rLenOwn (C : Addr) (sp : Sp) : List V → Hp → VK → Prop := fun xs H Q => ∃ a dx fs, xs = [.ref a] ∧ H a = some (.ins C dx fs) ∧ sp [.ref a] H (fun v H' => ∃ n : Nat, v = .int n ∧ n < 100000 ∧ Q (.int n) H') E0
theorem call_LenOwn (hm : Meth X.K C "__len__" f) (F : FnR X.prog X.w X.K X.mg X.base CX0 k f sp) (hr : Room (k + 1) X.A) : CallR X (.builtin "len") (rLenOwn C sp) := by
  intro pins s σ H vs us Q I rv h
  obtain ⟨p, dx, fs, ex, ea, q⟩ := h
  subst ex
  cases rv with
  | cons r1 r2 =>
    cases r2
    cases r1
    obtain ⟨mA, O, _⟩ := ins_get I.hok ea
    obtain ⟨od, J, _⟩ := O.look
    obtain ⟨m, hF⟩ := I.fr
    refine PySem.W.len_K hF I.ok.mod.kin J hm.at_ hm.fn ?_
    refine wpAny_call (codeAny_mono (F X.A.in1 X.stack s H [.ref p] [.ref p] _ E0 hr.in1 I.env0.in1 (.cons rfl .nil) q) fun r s' hq => ?_)
    cases r with
    | error er => exact False.elim hq
    | ok fl =>
      cases fl with
      | ret u =>
        obtain ⟨v, H', I', r', n, e, hn, q'⟩ := I.after hq
        subst e
        obtain ⟨t, e⟩ := (show ∃ t, u = Value.int n t from r')
        subst e
        exact ⟨⟨by omega, by omega⟩, .int n, H', I'.tok _, ⟨_, rfl⟩, q'⟩
      | next => exact False.elim hq
      | brk => exact False.elim hq
      | cont => exact False.elim hq
end
/-! ### x != y, the class defines == alone -/
section
open PySem.W Builtin
variable {prog : Program} {w : World} {A : Around} {EE : Value → Shared → Prop} {s : Shared} {K : Frag} {x y C f : Addr} {ox : Obj} {od : Option Obj}
theorem ne_entry (X : K.In s.heap) (I : InstAt s.heap x ox C od) (hs : findIn K (.ref C) "__eq__" = some (some (.ref f))) (hf : isFn K (.ref f) = true) (hu : A.units < cLine) {Q : Fin → Shared → Prop}
    (hcall : wpAny (model prog w) A (call (.ref f) [.ref x, .ref y]) (fun v s' => ∃ b, v = .bool b ∧ Q (.done (.ret (.bool (!b)))) s') EE s) :
    wpAny (model prog w) A (Builtin.«object.__ne__» ⟨[.ref x, .ref y], []⟩) Q EE s := by
  obtain ⟨h, g, d, t, os⟩ := s
  unfold Builtin.«object.__ne__»
  repeat (first
    | with_reducible refine wpAny_cRoomFor hu ?_
    | (refine wpAny_bind (m := callSpecialIfBound? (.ref x) (Str.ofString "__eq__") [.ref y])
        (ifBound_K X I hs hf (wpAny_mono hcall (fun r s' hr => by
          obtain ⟨b, rfl, hq⟩ := hr
          repeat (first | exact hq | exact wpAny_pure hq | exact wpAny_truthy_bool hq | (refine wpAny_bind (m := truthy (.bool _)) (wpAny_truthy_bool ?_)) | wp_step)) fun _ _ e => e)))
    | wp_step)
theorem ne_bound (X : K.In s.heap) (I : InstAt s.heap x ox C od) (hn : findIn K (.ref C) "__ne__" = some (some (.builtin "object.__ne__"))) (ho : subIn K (.ref C) (.type "object") = some true) {Q : Option Value → Shared → Prop}
    (hcall : wpAny (model prog w) A.in1 (Builtin.«object.__ne__» ⟨[.ref x, .ref y], []⟩) (fun fin s' => ∃ v, fin = .done (.ret v) ∧ Q (some v) s') EE s) :
    wpAny (model prog w) A (callSpecialIfBound? (.ref x) "__ne__" [.ref y]) Q EE s := by
  simp only [callSpecialIfBound?, bindSpecialIfBound?]
  refine wpAny_holding (wpAny_bind (wpAny_bind (wpAny_bind (I.type.here ((looks_findIn X hn).here ?_)))))
  simp only [F.cmp_object.ne.bind]
  refine wpAny_bind (wpAny_askSetting (wpAny_ite ?_))
  have fin : wpAny (model prog w) A (call (.builtin "object.__ne__") ([.ref x] ++ [.ref y]) >>= fun v => pure (some v)) Q EE s := by
    refine wpAny_bind (wpAny_call (codeAny_call_builtin F.cmp_object.ne.plain F.cmpEntry_ne ?_))
    refine check_slot F.cmpKind_ne F.cmpSplit_ne (I.type.andThen (looks_subIn X ho)) (F.cmpArgs_ne _ _) (wpAny_mono hcall (fun fin s' h => ?_) fun _ _ z => z)
    obtain ⟨v, rfl, hv⟩ := h
    exact wpAny_pure hv
  split
  · exact wpAny_bind (wpAny_pure (wpAny_pure fin))
  · exact wpAny_tryCatch (wpAny_bind (wpAny_pure (wpAny_pure fin)))
theorem ne_rich {oy : Obj} {od' : Option Obj} (X : K.In s.heap) (I : InstAt s.heap x ox C od) (J : InstAt s.heap y oy C od') (hn : findIn K (.ref C) "__ne__" = some (some (.builtin "object.__ne__"))) (ho : subIn K (.ref C) (.type "object") = some true)
    (hs : findIn K (.ref C) "__eq__" = some (some (.ref f))) (hf : isFn K (.ref f) = true) (hu : A.units + 1 < cLine) {Q : Value → Shared → Prop}
    (hcall : wpAny (model prog w) A.in1 (call (.ref f) [.ref x, .ref y]) (fun v s' => ∃ b, v = .bool b ∧ Q (.bool (!b)) s') EE s) : wpAny (model prog w) A (richCompare .NotEq (.ref x) (.ref y)) Q EE s := by
  unfold richCompare
  simp only [oneThing_ref]
  refine wpAny_holding ?_
  refine wpAny_bind (wpAny_cRoomFor (Nat.lt_of_succ_lt hu) ?_)
  rw [cmpInfo_NotEq]
  dsimp only
  refine wpAny_bind (I.type.here (wpAny_bind (J.type.here ?_)))
  rw [show (Value.ref C != Value.ref C) = false from by simp]
  simp only [Bool.false_eq_true, if_false]
  refine wpAny_bind (wpAny_pure ?_)
  simp only [Bool.false_eq_true, if_false]
  simp only [tryCompare]
  refine wpAny_bind (wpAny_bind (ne_bound X I hn ho (ne_entry (A := A.in1) X I hs hf hu (wpAny_mono hcall (fun v s' hv => ?_) fun _ _ e => e))))
  obtain ⟨b, rfl, hq⟩ := hv
  first | exact ⟨b, rfl, _, rfl, wpAny_pure (wpAny_pure hq)⟩ | exact ⟨b, rfl, _, rfl, wpAny_pure hq⟩
end
section
variable {X : Cx} {k : Nat} {f C : Addr} {sp : Sp}
/-- x != y by the class's == -/
def rNeOwn (C : Addr) (sp : Sp) : R2 := fun x y H Q => ∃ a dx fs b dy gs, x = .ref a ∧ y = .ref b ∧ H a = some (.ins C dx fs) ∧ H b = some (.ins C dy gs) ∧ sp [x, y] H (fun v H' => ∃ r, v = .bl r ∧ Q (.bl (!r)) H') E0
theorem op_neOwn (hn : PySem.W.findIn X.K (.ref C) "__ne__" = some (some (.builtin "object.__ne__"))) (ho : PySem.W.subIn X.K (.ref C) (.type "object") = some true) (hm : Meth X.K C "__eq__" f) (F : FnR X.prog X.w X.K X.mg X.base CX0 k f sp) (hr : Room (k + 1) X.A) :
    OpR X (compareOp .NotEq) (rNeOwn C sp) := by
  intro pins s σ H x y v u Q I rx ry h
  obtain ⟨a, dx, fs, b, dy, gs, e1, e2, ha, hb, q⟩ := h
  subst e1 e2
  cases (show v = Value.ref a from rx)
  cases (show u = Value.ref b from ry)
  obtain ⟨mA, O, _⟩ := ins_get I.hok ha
  obtain ⟨od, J, _⟩ := O.look
  obtain ⟨mB, O2, _⟩ := ins_get I.hok hb
  obtain ⟨od2, J2, _⟩ := O2.look
  have hu := hr.un
  show wpAny (model X.prog X.w) X.A (richCompare .NotEq (.ref a) (.ref b)) (EP X pins σ Q) X.xe s
  refine ne_rich I.kIn J J2 hn ho hm.at_ hm.fn (by omega) ?_
  refine wpAny_call (codeAny_mono (F X.A.in1 X.stack s H [.ref a, .ref b] [.ref a, .ref b] _ E0 hr.in1 I.env0.in1 (.cons rfl (.cons rfl .nil)) q) fun r s' hq => ?_)
  cases r with
  | error er => exact False.elim hq
  | ok fl =>
    cases fl with
    | ret u =>
      obtain ⟨v, H', I', rv, r, e, q'⟩ := I.after hq
      subst e
      cases (show u = Value.bool r from rv)
      exact ⟨r, rfl, .bl (!r), H', I', rfl, q'⟩
    | next => exact False.elim hq
    | brk => exact False.elim hq
    | cont => exact False.elim hq
end
/-! ### repr of a list of data -/
section
variable {X : Cx}
def rReprD (K : Fr0) : List V → Hp → VK → Prop := fun xs H Q => ∃ a d, xs = [.ref a] ∧ Dp K H (.ref a) d ∧ d.showable = true ∧ d.hasDict = false ∧ d.depth ≤ 8 ∧ d.shown.length ≤ sizeLine ∧ Q (.str d.shown) H
theorem call_ReprD (hu : X.A.units + 65 < cLine) (hg : X.A.guards = some []) : CallR X (.builtin "repr") (rReprD X.K) := by
  intro pins s σ H vs us Q I rv h
  obtain ⟨a, d, e, hd, h1, h2, h3, h4, q⟩ := h
  subst e
  cases rv with
  | cons r1 r2 =>
    cases r2
    cases r1
    obtain ⟨as, rd⟩ := Dp.reads I d (.ref a) (.ref a) hd rfl
    refine repr_of_reads' rd h1 (fun z => by rw [h2] at z; cases z) hg (by omega) (fun b o e => e) (fun h' u tk k => ?_) h4
    exact ⟨.str d.shown, H, I.kept k, ⟨u, rfl⟩, q⟩
end
/-! ### with -/
section
variable {X : Cx} {kE kX : Nat} {fe fx C : Addr} {spE spX : Sp} {ctx : Expr} {tc : TE} {y : Str} {py pos : Pos} {body : List Stmt} {tb : TS} {i : Nat}
/-- with ctx as y: body, the body raises nothing -/
def tWith (C : Addr) (spE spX : Sp) (i : Nat) (tc : TE) (tb : TS) : TS := fun D σ H => tc σ H fun x H1 => ∃ a dx fs, x = .ref a ∧ H1 a = some (.ins C dx fs) ∧ spE [x] H1 (fun v H2 =>
  tb ⟨fun σ' H3 => spX [x, .non, .non, .non] H3 (fun _ H4 => D.nx σ' H4) E0, fun r H3 => spX [x, .non, .non, .non] H3 (fun _ H4 => D.rt r H4) E0, fun σ' H3 => spX [x, .non, .non, .non] H3 (fun _ H4 => D.bk σ' H4) E0, fun σ' H3 => spX [x, .non, .non, .non] H3 (fun _ H4 => D.ct σ' H4) E0⟩ (σ.set i (some v)) H2) E0
theorem passes0 {X : Cx} : Passes CX0 X E0 := fun _ _ _ _ _ _ _ h => False.elim h
theorem ps_with (hc : PE X ctx tc) (he : Meth X.K C "__enter__" fe) (hx : Meth X.K C "__exit__" fx) (FE : FnR X.prog X.w X.K X.mg X.base CX0 kE fe spE) (FX : FnR X.prog X.w X.K X.mg X.base CX0 kX fx spX) (hrE : Room kE X.A) (hrX : Room kX X.A)
    (hN : X.N.Nodup) (hi : X.N[i]? = some y) (hl : Loc X.env.scope y) (hb : PSs X.nox body tb) (hf : X.fn y = true ∨ X.env.scope.names.lookup y = some .local := by first | exact .inl rfl | exact .inr rfl) :
    PS X (.With [⟨ctx, some (.Name y py)⟩] body pos) (tWith C spE spX i tc tb) := by
  constructor
  intro pins s σ H D I h
  refine PySem.W.kw_execN (thn (hc.run pins s σ H _ I h) fun u s1 ⟨x, H1, I1, rx, q1⟩ => ?_)
  obtain ⟨a, dx, fs, ex, ea, q1⟩ := q1
  subst ex
  cases (show u = Value.ref a from rx)
  obtain ⟨mA, O, _⟩ := ins_get I1.hok ea
  obtain ⟨od, J, _⟩ := O.look
  obtain ⟨m, hF⟩ := I1.fr
  refine PySem.W.kw_inN hF I1.ok.mod.kin J he.at_ he.fn hx.at_ hx.fn ?_
  refine wpAny_mono (wpAny_call (run_fnR (us := [.ref a]) (vs := [.ref a]) FE hrE passes0 I1 (.cons rfl .nil) q1)) (fun v s2 z => ?_) fun _ _ z => z
  obtain ⟨v2, H2, I2, rv2, q2⟩ := z
  refine store_ok I2 hN hi hl rv2 (fun s3 I3 => ?_) hf
  have ex : ∀ {σ' : L2.St} {H3 : Hp} {s4 : Shared} {G : Hp → Prop} {QQ : Value → Shared → Prop}, Inv X pins σ' H3 s4 → spX [.ref a, .non, .non, .non] H3 (fun _ H4 => G H4) E0 → (∀ v H4 s5, Inv X pins σ' H4 s5 → G H4 → QQ v s5) →
      wpAny (model X.prog X.w) X.A (call (.ref fx) [.ref a, .none, .none, .none]) QQ X.xe s4 := fun {σ' H3 s4 G QQ} I4 q4 hq =>
    wpAny_mono (wpAny_call (run_fnR (us := [.ref a, .none, .none, .none]) (vs := [.ref a, .non, .non, .non]) FX hrX passes0 I4 (.cons rfl (.cons rfl (.cons rfl (.cons rfl .nil)))) q4)) (fun v s5 z => by
      obtain ⟨_, H4, I5, _, g⟩ := z
      exact hq _ _ _ I5 g) fun _ _ z => z
  refine wpAny_mono (hb.run pins s3 _ H2 _ (I3.wish _) q2) (fun fl s4 sp => ?_) fun _ _ z => z
  show wpAny (model X.prog X.w) X.A (call (.ref fx) [.ref a, .none, .none, .none]) _ X.xe s4
  cases fl with
  | next =>
    obtain ⟨σ', H3, I4, q4⟩ := sp
    exact ex I4.unwish q4 fun v H4 s5 I5 g => ⟨σ', H4, I5, g⟩
  | brk =>
    obtain ⟨σ', H3, I4, q4⟩ := sp
    exact ex I4.unwish q4 fun v H4 s5 I5 g => ⟨σ', H4, I5, g⟩
  | cont =>
    obtain ⟨σ', H3, I4, q4⟩ := sp
    exact ex I4.unwish q4 fun v H4 s5 I5 g => ⟨σ', H4, I5, g⟩
  | ret u =>
    obtain ⟨rv, σ', H3, I4, rr, q4⟩ := sp
    exact ex I4.unwish q4 fun v H4 s5 I5 g => ⟨rv, σ', H4, I5, rr, g⟩
end
end SW
/-! Tuples that bear no dict of their own; dict(tuple of pairs). -/
namespace SW
open PySem PySem.Spec PyProof.Rows L2
/-- the tuple at a, no dict of its own -/
def TupD (H : Hp) (a : Addr) (xs : List V) : Prop := ∃ o : Obj, H a = some (.frz o (.tup xs)) ∧ o.dict = none
theorem TupD.sq {K : Fr0} {H : Hp} {a : Addr} {xs : List V} (h : TupD H a xs) : SqT K H a xs := .inl (.inr ⟨_, h.choose_spec.1⟩)
theorem TupD.same {H H' : Hp} {a : Addr} {xs : List V} (S : Same H H') (h : TupD H a xs) : TupD H' a xs := by
  obtain ⟨o, h1, h2⟩ := h
  exact ⟨o, S _ _ h1, h2⟩
def NewD (H : Hp) (xs : List V) (Q : VK) : Prop := ∀ p H', H p = none → Same H H' → TupD H' p xs → Q (.ref p) H'
section
variable {X : Cx} {es : List Expr} {t : TA} {pos : Pos}
def tTupD (t : TA) : TE := fun σ H Q => t σ H fun xs H1 => xs.length ≤ sizeLine ∧ NewD H1 xs Q
theorem pe_tupD {x1} (h : PA X es t) : PE X (.Tuple es x1 pos) (tTupD t) := by
  refine ⟨fun pins s σ H Q I hq => ?_⟩
  refine wpAny_Tuple_spliced (thn (h.run pos pins s σ H _ I hq) fun us s1 ⟨xs, H1, I1, r, z, q⟩ => ⟨by rw [← r.length]; exact z, ?_⟩)
  have hf : H1 s1.heap.objs.size = none := I1.hok.fresh (Nat.le_refl _)
  refine ⟨.ref s1.heap.objs.size, upd H1 s1.heap.objs.size (.frz { cls := .type "tuple", data := .seq us.toArray } (.tup xs)), I1.laid (t' := s1.toks) (fun b u e => Heap.get?_push_of_some _ e) (Nat.le_refl _) ?_, rfl, q _ _ hf (Same.of_new hf) ⟨_, upd_same, rfl⟩⟩
  exact ⟨Heap.get?_push_size _ rfl, z, us, r, ⟨_, Heap.get?_push_size _ rfl, rfl, _, rfl⟩⟩
def rTupD (K : Fr0) : List V → Hp → VK → Prop := fun xs H Q => ∃ p ys, xs = [.ref p] ∧ SqL K H p ys ∧ NewD H ys Q
theorem call_TupD : CallR X (.type "tuple") (rTupD X.K) := by
  intro pins s σ H xs us Q I r h
  obtain ⟨p, ys, rfl, hq, q⟩ := h
  obtain ⟨u, rfl, rx⟩ := vals1 r
  cases rx
  obtain ⟨its, r', pl, hz⟩ := I.list hq
  have hlen := r'.length
  refine call_tuple_list pl.isList (fun h' kp => ?_) (by simp only [List.size_toArray] <;> omega)
  have I1 : Inv X pins σ H { s with heap := h' } := I.kept (t' := s.toks) kp
  have I2 : Inv X pins σ (upd H h'.objs.size (.frz { cls := .type "tuple", data := .seq its.toArray } (.tup ys))) { s with heap := h'.push { cls := .type "tuple", data := .seq its.toArray } } :=
    I1.laid (t' := s.toks) (fun b o e => Heap.get?_push_of_some _ e) (Nat.le_refl _) (show ObjOk X.prog X.w _ _ _ (.frz _ (.tup ys)) from ⟨Heap.get?_push_size _ rfl, hz, its, r', IsTup.new _ _⟩)
  have hf := I1.hok.fresh (Nat.le_refl h'.objs.size)
  exact ⟨.ref h'.objs.size, _, I2, rfl, q _ _ hf (Same.of_new hf) ⟨_, upd_same, rfl⟩⟩
theorem pairs_of2 {pins : List (Addr × Obj)} {σ : L2.St} {H : Hp} {s : Shared} (I : Inv X pins σ H s) : ∀ {ps : List Addr} {kvs : List (Key × V)}, Paired (fun p kv => SqT X.K H p [kV kv.1, kv.2]) ps kvs →
    ∃ (prs : List (Key × Value)) (vps : List (Value × Value)), KV kvs prs ∧ prs.length = ps.length ∧ vps.length = ps.length ∧ ∀ (j : Nat) (k v : Value), vps[j]? = some (k, v) → ∃ (b : Addr) (y : Key), ps[j]? = some b ∧ IsTup s.heap b #[k, v] ∧ prs[j]? = some (y, v) ∧ keyIs y k = true
  | _, _, .nil => ⟨[], [], .nil, rfl, rfl, fun j k v e => by simp at e⟩
  | _, _, .cons (a := p) (b := kv) h t => by
    obtain ⟨prs, vps, r, hl, hl2, hp⟩ := pairs_of2 I t
    obtain ⟨its, rv, ht, _⟩ := I.tuple h
    obtain ⟨u, y, ei, ru, ry⟩ := vals2 rv
    subst ei
    refine ⟨(kv.1, y) :: prs, (u, y) :: vps, .cons ⟨rfl, ry⟩ r, by rw [List.length_cons, List.length_cons, hl], by rw [List.length_cons, List.length_cons, hl2], fun j k v e => ?_⟩
    cases j with
    | zero =>
      have e' : (u, y) = (k, v) := Option.some.inj e
      cases e'
      exact ⟨p, kv.1, rfl, ht, rfl, kV_is (P := X.prog) (w := X.w) ru⟩
    | succ j =>
      obtain ⟨b, z, e1, e2, e3, e4⟩ := hp j k v (by simpa using e)
      exact ⟨b, z, by simpa using e1, e2, by simpa using e3, e4⟩
/-- dict(xs) of a tuple of pairs -/
def rDictT (K : Fr0) : List V → Hp → VK → Prop := fun xs H Q => ∃ (a : Addr) (ps : List Addr) (kvs : List (Key × V)), xs = [.ref a] ∧ TupD H a (ps.map V.ref) ∧ Paired (fun p kv => SqT K H p [kV kv.1, kv.2]) ps kvs ∧ New H (.dK (mergeK [] kvs)) Q
theorem call_DictT (hcalm : X.calm = true) : CallR X (.type "dict") (rDictT X.K) := by
  intro pins s σ H xs us Q I r q
  obtain ⟨a, ps, kvs, ex, hq, hp, q⟩ := q
  subst ex
  obtain ⟨u, eu, rx⟩ := vals1 r
  subst eu
  cases rx
  obtain ⟨o, ho, hdn⟩ := hq
  obtain ⟨hget, hz, its, rv, o', ho', hc, n, hdat⟩ := (show ObjOk X.prog X.w H s.heap a (.frz o (.tup (ps.map V.ref))) from I.hok a _ ho)
  rw [hget] at ho'
  cases ho'
  have ei := refs_at rv
  subst ei
  rw [List.length_map] at hz
  obtain ⟨prs, vps, rel, hl, hl2, hpr⟩ := pairs_of2 I hp
  have ok : PlainSeq "tuple" s.heap a (ps.map Value.ref).toArray ∧ PairItems s.heap (ps.map Value.ref).toArray (fun j => (ps[j]?).getD 0) vps := by
    refine ⟨⟨o, n, hget, hc, hdn, hdat⟩, by simp [hl2], fun j k v e => ?_⟩
    obtain ⟨b, y, e1, e2, e3, e4⟩ := hpr j k v e
    exact ⟨by simp [e1], .inl (by
      show s.heap.IsTuple (ps[j]?.getD 0) _
      rw [e1]
      exact e2)⟩
  refine PySem.call_dict_pairs (knd := mixKind X.prog X.w) (kvs := prs) (PairArg.tuple a _ _ vps) (I.ok.hd hcalm) ok ⟨by rw [hl, hl2], fun i k v e => ?_⟩ (by rw [hl2]; exact hz) fun h' tk hd' k => ?_
  · obtain ⟨b, y, e1, e2, e3, e4⟩ := hpr i k v e
    exact ⟨y, e3, e4⟩
  · have hm : (s.heap.objs.size == sysModules) = false := beq_eq_false_iff_ne.mpr (Nat.ne_of_gt I.big)
    have hlen : (mergeK [] kvs).length ≤ sizeLine := by
      refine Nat.le_trans (length_mergeK kvs []) ?_
      rw [List.length_nil, Nat.zero_add, rel.length, hl]
      exact hz
    have hf := I.hok.fresh (Nat.le_refl s.heap.objs.size)
    exact ⟨.ref s.heap.objs.size, upd H s.heap.objs.size (.dK (mergeK [] kvs)), I.laid (t' := tk) (fun b o e => k b o (List.not_mem_nil) e) (Nat.le_refl _) (show ObjOk X.prog X.w _ _ _ (.dK (mergeK [] kvs)) from ⟨hlen, hm, merged [] prs, KV.merge rel .nil, hd'⟩), rfl, q _ _ hf (Same.of_new hf) upd_same⟩
end
end SW
/-! Lambdas with parameters, lambdas within lambdas; the tables of their code objects. -/
namespace SW
open PySem PySem.Spec PyProof.Rows L2 LamX
/-! ### the making, with the new code object's own table told -/
section
open PySem.W
variable {M : Model} {A : Around} {EE : Value → Shared → Prop} {s : Shared} {name qual : Str} {params : Arguments} {body : Expr} {scope : Scope} {env : Env} {c P : Addr} {ps : Array Value} {pos : Pos} {firstLine : Nat} {mg : Str → Option Value}
  {clos : List (Str × Addr)} {Q : Value → Shared → Prop}
theorem codeHd_keepBut {h h' : Heap} {c P a : Addr} (x : CodeHd h c P) (k : Heap.ExtBut a h h') (n : c ≠ a) : CodeHd h' c P :=
  let ⟨o, vs, file, tf, flags, tg, inF, text, tt, e, r⟩ := x
  ⟨o, vs, file, tf, flags, tg, inF, text, tt, k _ _ n e, r⟩
theorem klb_makeTail (hcl : closureFor scope env = pure clos) (hge0 : env.globals = mainGlobals) (hg : s.heap.Ns mainGlobals mg) (hcode : env.code = .ref c) (C : CodeHd s.heap c P) (hP : s.heap.get? P = some (tabObj ps)) (ht : TriplesOk ps.toList)
    (hnf : codeAmong pos ps.toList = none) (hgP : mainGlobals ≠ P) (hb : s.heap.BuiltinsAt mg P)
    (h : ∀ c' ctv h' tk P', Heap.ExtBut P s.heap h' → s.heap.objs.size ≤ c' → c' < h'.objs.size → h'.CodeRec (.ref c') qual → h'.get? P = some (tabObj (ps ++ #[rawInt pos.line, rawInt pos.col, .ref c'])) →
      s.heap.objs.size ≤ P' → P' < h'.objs.size → CodeHd h' c' P' → h'.get? P' = some (tabObj #[]) →
      Q (.ref h'.objs.size) { s with heap := h'.push (kla_obj name qual params body scope clos ((mg "__name__").getD .none) c' ctv), toks := tk }) :
    wpAny M A (makeTail name qual params (.expr body) scope env .none .none none pos firstLine) Q EE s := by
  obtain ⟨bm, ob, hbm, hne0, _, hneP, hbo, hcls, hdict, hdata⟩ := hb
  unfold makeTail
  rw [hcl, hge0]
  refine wpAny_bind (wpAny_pure ?_)
  cases clos with
  | nil =>
    simp only [List.isEmpty_nil, if_true]
    refine wpAny_bind (wpAny_pure ?_)
    refine wpAny_bind (wpAny_functionCodeX hcode (C.code hP ht) (C.tab hP) hnf fun c' h' tk hx hge hlt _ hrec htb hin => ?_)
    obtain ⟨P', p1, p2, p3⟩ := hin
    have hg' := hg.extBut hx hgP
    refine wpAny_bind (wpAny_builtinsFor hg' hbm hne0 (hx _ _ hneP hbo) hcls hdict hdata ?_)
    refine wpAny_bind (wpAny_nsGet hg' ?_)
    exact wpAny_bind (wpAny_pure (wpAny_newObj_type (h c' .none h' tk P' hx hge hlt hrec htb.2 p1 (Heap.lt_size p3.2) (CodeHd.of p2 p3) p3.2) (by size_fits)))
  | cons q r =>
    simp only [List.isEmpty_cons, Bool.false_eq_true, if_false]
    refine wpAny_bind (wpAny_newTextTuple ?_)
    refine wpAny_bind (wpAny_functionCodeX hcode ((C.keeps fun b o e => Heap.get?_push_of_some _ e).code (Heap.get?_push_of_some _ hP) ht) ((C.keeps fun b o e => Heap.get?_push_of_some _ e).tab (Heap.get?_push_of_some _ hP)) hnf fun c' h' tk hx hge hlt _ hrec htb hin => ?_)
    obtain ⟨P', p1, p2, p3⟩ := hin
    have hg' := (hg.push _).extBut hx hgP
    have hx' : Heap.ExtBut P s.heap h' := fun b o hb' e => hx b o hb' (Heap.get?_push_of_some _ e)
    have hge' : s.heap.objs.size ≤ c' := Nat.le_trans (by rw [Heap.size_push]; omega) hge
    have hge2 : s.heap.objs.size ≤ P' := Nat.le_trans (by rw [Heap.size_push]; omega) p1
    refine wpAny_bind (wpAny_builtinsFor hg' hbm hne0 (hx' _ _ hneP hbo) hcls hdict hdata ?_)
    refine wpAny_bind (wpAny_nsGet hg' ?_)
    exact wpAny_bind (wpAny_pure (wpAny_newObj_type (h c' _ h' tk P' hx' hge' hlt hrec htb.2 hge2 (Heap.lt_size p3.2) (CodeHd.of p2 p3) p3.2) (by size_fits)))
theorem klb_makeFunction (hcl : closureFor scope env = pure clos) (hge0 : env.globals = mainGlobals) (hg : s.heap.Ns mainGlobals mg) (hcode : env.code = .ref c) (C : CodeHd s.heap c P) (hP : s.heap.get? P = some (tabObj ps)) (ht : TriplesOk ps.toList)
    (hnf : codeAmong pos ps.toList = none) (hgP : mainGlobals ≠ P) (hb : s.heap.BuiltinsAt mg P)
    (h : ∀ c' ctv h' tk P', Heap.ExtBut P s.heap h' → s.heap.objs.size ≤ c' → c' < h'.objs.size → h'.CodeRec (.ref c') qual → h'.get? P = some (tabObj (ps ++ #[rawInt pos.line, rawInt pos.col, .ref c'])) →
      s.heap.objs.size ≤ P' → P' < h'.objs.size → CodeHd h' c' P' → h'.get? P' = some (tabObj #[]) →
      Q (.ref h'.objs.size) { s with heap := h'.push (kla_obj name qual params body scope clos ((mg "__name__").getD .none) c' ctv), toks := tk }) :
    wpAny M A (makeFunction name qual params (.expr body) scope env [] [] [] pos firstLine) Q EE s := by
  rw [makeFunction_eq]
  simp only [List.zip_nil_right, List.filterMap_nil, List.isEmpty_nil, if_true, pure_bind]
  exact klb_makeTail hcl hge0 hg hcode C hP ht hnf hgP hb h
end
/-! ### tables of two levels -/
abbrev subQ (q : Str) : Str := q ++ ".<locals>." ++ "<lambda>"
/-- the code object at c is named q and has its table at P -/
def CodeO2 (c : Addr) (q : Str) (P : Addr) : HO := .ext fun h => PySem.W.CodeHd h c P ∧ ∃ (oc : Obj) (vs : Array Value) (t : Tok), h.get? c = some oc ∧ oc.data = .fields vs ∧ vs[1]? = some (.str q t)
theorem codeO2_ne {c P : Addr} {q : Str} (ps : Array Value) : CodeO2 c q P ≠ .tbl ps := fun z => by
  unfold CodeO2 at z
  cases z
/-- nested: the lambdas of this table make lambdas themselves -/
def TabS2 (N : List Addr) (H : Hp) (P : Addr) (q : Str) (nest : Bool) : Prop := ∃ ps : Array Value, H P = some (.tbl ps) ∧ TriplesOk ps.toList ∧ ∀ (pos : Pos) (cv : Value), codeAmong pos ps.toList = some cv → ∃ c P', cv = .ref c ∧ H c = some (CodeO2 c q P') ∧ (nest = true → P' ∉ N ∧ TabS H P' (subQ q))
abbrev LTabs : Type := List (Addr × Str × Bool)
def Tabs2 (T : LTabs) (H : Hp) : Prop := ∀ p ∈ T, TabS2 (T.map (·.1)) H p.1 p.2.1 p.2.2
theorem TabS2.ext {N : List Addr} {H H' : Hp} {P : Addr} {q : Str} {nest : Bool} (t : TabS2 N H P q nest) (e : ∀ b o, (tag o == 10 || tag o == 11) = true → H b = some o → H' b = some o) : TabS2 N H' P q nest := by
  obtain ⟨ps, h1, h2, h3⟩ := t
  refine ⟨ps, e _ _ rfl h1, h2, fun pos cv hc => ?_⟩
  obtain ⟨c, P', e1, e3, en⟩ := h3 pos cv hc
  refine ⟨c, P', e1, e _ _ rfl e3, fun hn => ?_⟩
  obtain ⟨e2, ps', e4, e5, e6⟩ := en hn
  refine ⟨e2, ps', e _ _ rfl e4, e5, fun p2 cv2 hc2 => ?_⟩
  obtain ⟨c2, k1, k2⟩ := e6 p2 cv2 hc2
  exact ⟨c2, k1, e _ _ rfl k2⟩
theorem Tabs2.ext {T : LTabs} {H H' : Hp} (t : Tabs2 T H) (e : ∀ b o, (tag o == 10 || tag o == 11) = true → H b = some o → H' b = some o) : Tabs2 T H' := fun p hp => (t p hp).ext e
theorem Tabs2.same {T : LTabs} {H H' : Hp} (t : Tabs2 T H) (S : Same H H') : Tabs2 T H' := t.ext fun b o _ h => S b o h
theorem Tabs2.chg {T : LTabs} {H H' : Hp} {a : Addr} {u : HO} (t : Tabs2 T H) (C : Chg a H H') (ha : H a = some u) (d : (tag u == 10 || tag u == 11) = false) : Tabs2 T H' := t.ext fun b o ht h => C b o (ne_of h ha fun z => by
  subst z
  rw [d] at ht
  cases ht) h
section
variable {X : Cx} {pins : List (Addr × Obj)} {σ : L2.St} {H : Hp} {s : Shared}
theorem inv_table2 {P c P' : Addr} {q : Str} {ps more : Array Value} {h' : Heap} {t' : Nat} (I : Inv X pins σ H s) (hP : H P = some (.tbl ps)) (k : ∀ b o, b ≠ P → s.heap.get? b = some o → h'.get? b = some o)
    (hm : h'.get? P = some { cls := .none, data := .fields (ps ++ more) }) (hc : s.heap.objs.size ≤ c) (hp : s.heap.objs.size ≤ P') (ne : P' ≠ c) (hC : PySem.W.CodeHd h' c P') (ho : ∃ (oc : Obj) (vs : Array Value) (t : Tok), h'.get? c = some oc ∧ oc.data = .fields vs ∧ vs[1]? = some (.str q t))
    (hT : h'.get? P' = some { cls := .none, data := .fields #[] }) :
    Inv X pins σ (upd (upd (upd H P (.tbl (ps ++ more))) P' (.tbl #[])) c (CodeO2 c q P')) { s with heap := h', toks := t' } := by
  have nC : H c = none := I.hok.fresh hc
  have nP' : H P' = none := I.hok.fresh hp
  have nPc : P ≠ c := ne_of_none hP nC
  have nPP : P ≠ P' := ne_of_none hP nP'
  have at_ : ∀ b, b ≠ P → b ≠ P' → b ≠ c → upd (upd (upd H P (.tbl (ps ++ more))) P' (.tbl #[])) c (CodeO2 c q P') b = H b := fun b h1 h2 h3 => by rw [upd_ne h3, upd_ne h2, upd_ne h1]
  have atP : upd (upd (upd H P (.tbl (ps ++ more))) P' (.tbl #[])) c (CodeO2 c q P') P = some (.tbl (ps ++ more)) := by rw [upd_ne nPc, upd_ne nPP, upd_same]
  have atP' : upd (upd (upd H P (.tbl (ps ++ more))) P' (.tbl #[])) c (CodeO2 c q P') P' = some (.tbl #[]) := by rw [upd_ne ne, upd_same]
  have nP : ∀ b u, H b = some u → (∀ q, u ≠ .tbl q) → b ≠ P := fun b u e q z => by
    rw [z, hP] at e
    exact q ps (Option.some.inj e).symm
  have nN : ∀ b, H b = none → b ≠ P := fun b e z => by
    rw [z, hP] at e
    cases e
  have lt' : ∀ {a : Addr}, s.heap.objs.size ≤ a → ∀ b o, s.heap.get? b = some o → b ≠ a := fun {a} ha b o e z => by
    rw [z] at e
    exact Nat.lt_irrefl _ (Nat.lt_of_lt_of_le (Heap.lt_size e) ha)
  have sm : ∀ b u, H b = some u → b ≠ c := fun b u e => ne_of_none e nC
  have sm' : ∀ b u, H b = some u → b ≠ P' := fun b u e => ne_of_none e nP'
  refine I.step (g' := s.gens) (d' := s.drawn) (ch := []) (fun b hb => absurd hb (by simp)) (fun b o _ _ _ e n => k b o (nN b n) e) (fun b o _ _ _ e n => ⟨o.slots, k b o (nN b n) e⟩)
    (fun b o _ e n => by rw [at_ b (nN b n) (lt' hp b o e) (lt' hc b o e)]; exact n) (fun b o _ e => ?_) (fun b xs e => by rw [at_ b (nP b _ e (fun q z => by cases z)) (sm' b _ e) (sm b _ e)]; exact e)
    (fun b o u e => by rw [at_ b (nP b _ e (fun q z => by cases z)) (sm' b _ e) (sm b _ e)]; exact e) (fun b qs e => ?_) (fun m hn => ?_) (fun b u e => ?_) I.bare
  · by_cases hb : b = P
    · rw [hb]
      exact ⟨_, hm⟩
    · exact ⟨o, k b o hb e⟩
  · by_cases hb : b = P
    · rw [hb, hP] at e
      cases e
      rw [hb, atP]
      exact ⟨more, rfl⟩
    · rw [at_ b hb (sm' b _ e) (sm b _ e), e]
      exact ⟨#[], by simp⟩
  · obtain ⟨ob, es, ep, ho, r⟩ := hn
    exact ⟨ob, es, ep, k _ ob (nN _ I.free) ho, r⟩
  · by_cases hb : b = c
    · rw [hb, upd_same] at e
      cases e
      rw [hb]
      obtain ⟨oc, vs, t, e1, e2, e3⟩ := ho
      refine ⟨⟨hC, oc, vs, t, e1, e2, e3⟩, ⟨oc, e1⟩, fun h1 h2 hh st => ?_⟩
      obtain ⟨⟨o2, vs2, file, tf, flags, tg, inF, text, tt, w1, w2⟩, oc, vs, t, a, b, c⟩ := hh
      exact ⟨⟨o2, vs2, file, tf, flags, tg, inF, text, tt, st _ w1, w2⟩, oc, vs, t, st _ a, b, c⟩
    · by_cases hb3 : b = P'
      · rw [hb3, atP'] at e
        cases e
        rw [hb3]
        exact hT
      · by_cases hb2 : b = P
        · rw [hb2, atP] at e
          cases e
          rw [hb2]
          exact hm
        · rw [at_ b hb2 hb3 hb] at e
          refine (I.hok b u e).stay (fun d v hd q => k d v ?_ q) (fun d q => by rw [at_ d (nP d _ q (fun q z => by cases z)) (sm' d _ q) (sm d _ q)]; exact q) fun d xs q => by rw [at_ d (nP d _ q (fun q z => by cases z)) (sm' d _ q) (sm d _ q)]; exact q
          rcases hd with z | z
          · rw [z]
            exact hb2
          · exact nP d _ z (fun q z => by cases z)
/-- what the making asks of the present heap -/
structure TabN (s : Shared) (mg : Str → Option Value) (c P : Addr) : Prop where
  code : PySem.W.CodeHd s.heap c P
  bm : s.heap.BuiltinsAt mg P
  gP : mainGlobals ≠ P
theorem TabN.of {c P : Addr} (I : Inv X pins σ H s) (T : TabB X.base X.mg c P) : TabN s X.mg c P := ⟨T.code.keeps I.bk, T.bm.keeps I.bk, T.gP⟩
/-- a lambda is made by a frame whose code object's table has two levels -/
theorem lam_mk2 {T : LTabs} {c P : Addr} {nest : Bool} {params : Arguments} {body : Expr} {scope : Scope} {pos : Pos} {EE : Value → Shared → Prop} {Q : Value → Shared → Prop} (I : Inv X pins σ H s) (TB : TabN s X.mg c P) (hcode : X.env.code = .ref c)
    (hm : (P, X.env.qual ++ "<lambda>", nest) ∈ T) (hu : ∀ p ∈ T, p.1 = P → p.2 = (X.env.qual ++ "<lambda>", nest)) (hT : Tabs2 T H) (hdef : defaultsOf params X.env = ([], [])) (hfree : ∀ y ∈ scope.names, y.2 = .free → ∃ c, X.env.cells.lookup y.1 = some c)
    (h : ∀ (f c' P' : Addr) (pm ctv : Value) (H1 : Hp) (s' : Shared), Inv X pins σ H1 s' → ExtN H H1 → Tabs2 T H1 →
      s'.heap.get? f = some (PySem.W.kla_obj "<lambda>" (X.env.qual ++ "<lambda>") params body scope (cloFrom X.env.cells scope.names []) pm c' ctv) → H1 f = none → f ∉ frs X.stack → H1 c' = some (CodeO2 c' (X.env.qual ++ "<lambda>") P') → (nest = true → P' ∉ T.map (·.1) ∧ TabS H1 P' (subQ (X.env.qual ++ "<lambda>"))) → Q (.ref f) s') :
    wpAny (model X.prog X.w) X.A (eval (.Lambda params body scope pos) X.env) Q EE s := by
  obtain ⟨ps, hP, ht, ha⟩ := hT _ hm
  refine PySem.W.kla_eval hdef ?_
  have hP' : s.heap.get? P = some { cls := .none, data := .fields ps } := I.hok P _ hP
  have nofr : ∀ f, s.heap.objs.size ≤ f → f ∉ frs X.stack := fun f hf z => by
    rcases List.mem_cons.mp (I.stkSub _ z) with e | e
    · have h1 := I.lt
      rw [← e] at h1
      exact Nat.lt_irrefl _ (Nat.lt_of_lt_of_le h1 hf)
    · exact I.nofs hf e
  cases hc : codeAmong pos ps.toList with
  | none =>
    refine klb_makeFunction (mg := X.mg) (c := c) (P := P) (ps := ps) (closure_ok hfree) I.ok.glob (I.mod.glob.keeps I.bk) hcode TB.code hP' ht hc TB.gP TB.bm fun c' ctv h' tk P' hx hge hlt hrec htb hgP hlP hCH hTP => ?_
    obtain ⟨c2, oc, vs, t, e2, hoc, hd, hv⟩ := hrec
    cases e2
    have hsz : s.heap.objs.size ≤ h'.objs.size := Nat.le_trans hge (Nat.le_of_lt hlt)
    have nC : H c' = none := I.hok.fresh hge
    have nP' : H P' = none := I.hok.fresh hgP
    have nCP : P' ≠ c' := by
      obtain ⟨_, _, _, _, _, _, _, _, _, _, _, _, _, _, _, _, _, _, z⟩ := hCH
      exact z.symm
    have I1 := inv_table2 (q := X.env.qual ++ "<lambda>") (t' := tk) (more := #[rawInt pos.line, rawInt pos.col, .ref c']) (h' := h'.push (PySem.W.kla_obj "<lambda>" (X.env.qual ++ "<lambda>") params body scope (cloFrom X.env.cells scope.names []) ((X.mg "__name__").getD .none) c' ctv)) I hP
      (fun b o hb e => Heap.get?_push_of_some _ (hx b o hb e)) (Heap.get?_push_of_some _ htb) hge hgP nCP (hCH.keeps fun b o e => Heap.get?_push_of_some _ e) ⟨oc, vs, t, Heap.get?_push_of_some _ hoc, hd, hv⟩ (Heap.get?_push_of_some _ hTP)
    have hE : ExtN H (upd (upd (upd H P (.tbl (ps ++ #[rawInt pos.line, rawInt pos.col, .ref c']))) P' (.tbl #[])) c' (CodeO2 c' (X.env.qual ++ "<lambda>") P')) := fun b o e n => by
      rw [upd_ne (ne_of_none e nC), upd_ne (ne_of_none e nP'), upd_ne (fun z => n ps (Option.some.inj (e.symm.trans (by rw [z]; exact hP))))]
      exact e
    have eL : (ps ++ #[rawInt pos.line, rawInt pos.col, .ref c']).toList = ps.toList ++ [rawInt pos.line, rawInt pos.col, .ref c'] := by simp
    have inT : ∀ p ∈ T, H p.1 ≠ none := fun p hp z => by
      obtain ⟨ps', a1, _⟩ := hT p hp
      rw [z] at a1
      cases a1
    have nN : P' ∉ T.map (·.1) := fun z => by
      obtain ⟨p, hp, e⟩ := List.mem_map.mp z
      exact inT p hp (e ▸ nP')
    have new1 : upd (upd (upd H P (.tbl (ps ++ #[rawInt pos.line, rawInt pos.col, .ref c']))) P' (.tbl #[])) c' (CodeO2 c' (X.env.qual ++ "<lambda>") P') c' = some (CodeO2 c' (X.env.qual ++ "<lambda>") P') := upd_same
    have new2 : upd (upd (upd H P (.tbl (ps ++ #[rawInt pos.line, rawInt pos.col, .ref c']))) P' (.tbl #[])) c' (CodeO2 c' (X.env.qual ++ "<lambda>") P') P' = some (.tbl #[]) := by rw [upd_ne nCP, upd_same]
    -- a table that is none of the top ones stays
    have old : ∀ {D : Addr} {qd : Str}, D ∉ T.map (·.1) → TabS H D qd → TabS (upd (upd (upd H P (.tbl (ps ++ #[rawInt pos.line, rawInt pos.col, .ref c']))) P' (.tbl #[])) c' (CodeO2 c' (X.env.qual ++ "<lambda>") P')) D qd := fun {D qd} hD hS => by
      obtain ⟨p2, a1, a2, a3⟩ := hS
      refine ⟨p2, ?_, a2, fun p3 cv hcv => ?_⟩
      · rw [upd_ne (ne_of_none a1 nC), upd_ne (ne_of_none a1 nP'), upd_ne (fun z => hD (by rw [z]; exact List.mem_map.mpr ⟨_, hm, rfl⟩))]
        exact a1
      · obtain ⟨c0, e1, e2⟩ := a3 p3 cv hcv
        exact ⟨c0, e1, hE _ _ e2 codeO_ne⟩
    refine h h'.objs.size c' P' ((X.mg "__name__").getD .none) ctv _ _ I1 hE (fun p hp => ?_) (Heap.get?_push_size _ rfl) ?_ (nofr _ hsz) new1 (fun _ => ⟨nN, TabS.nil new2⟩)
    · by_cases hb : p.1 = P
      · rw [hu p hp hb, hb]
        refine ⟨_, by rw [upd_ne (ne_of_none hP nC), upd_ne (ne_of_none hP nP'), upd_same], by rw [eL]; exact PySem.TriplesOk_snoc _ _ _ _ ht, fun p' cv hcv => ?_⟩
        rw [eL] at hcv
        rcases among_app _ ht hcv with z | z
        · obtain ⟨c0, P0, e1, e3, e4⟩ := ha p' cv z
          exact ⟨c0, P0, e1, hE _ _ e3 codeO2_ne, fun hn => ⟨(e4 hn).1, old (e4 hn).1 (e4 hn).2⟩⟩
        · exact ⟨c', P', z, new1, fun _ => ⟨nN, TabS.nil new2⟩⟩
      · obtain ⟨ps', a1, a2, a3⟩ := hT p hp
        refine ⟨ps', by rw [upd_ne (ne_of_none a1 nC), upd_ne (ne_of_none a1 nP'), upd_ne hb]; exact a1, a2, fun p' cv hcv => ?_⟩
        obtain ⟨c0, P0, e1, e3, e4⟩ := a3 p' cv hcv
        exact ⟨c0, P0, e1, hE _ _ e3 codeO2_ne, fun hn => ⟨(e4 hn).1, old (e4 hn).1 (e4 hn).2⟩⟩
    · have n1 : h'.objs.size ≠ c' := Nat.ne_of_gt hlt
      have n3 : h'.objs.size ≠ P' := Nat.ne_of_gt hlP
      have n2 : h'.objs.size ≠ P := Nat.ne_of_gt (Nat.lt_of_lt_of_le (Heap.lt_size hP') hsz)
      rw [upd_ne n1, upd_ne n3, upd_ne n2]
      exact I.hok.fresh hsz
  | some cv =>
    obtain ⟨c', P', e, hco, hts⟩ := ha pos cv hc
    subst e
    refine PySem.W.kla_makeFunctionHit (mg := X.mg) (c := c) (P := P) (ps := ps) (closure_ok hfree) I.ok.glob (I.mod.glob.keeps I.bk) hcode TB.code hP' ht hc TB.bm fun ctv h' tk hx hsz => ?_
    have I1 : Inv X pins σ H { s with heap := h'.push (PySem.W.kla_obj "<lambda>" (X.env.qual ++ "<lambda>") params body scope (cloFrom X.env.cells scope.names []) ((X.mg "__name__").getD .none) c' ctv), toks := tk } := I.kept fun b o e => Heap.get?_push_of_some _ (hx b o e)
    exact h h'.objs.size c' P' ((X.mg "__name__").getD .none) ctv H _ I1 (ExtN.refl H) hT (Heap.get?_push_size _ rfl) (I.hok.fresh hsz) (nofr _ hsz) hco hts
/-- a lambda is made within a lambda's frame -/
theorem lam_mk1 {T : LTabs} {c P : Addr} {params : Arguments} {body : Expr} {scope : Scope} {pos : Pos} {EE : Value → Shared → Prop} {Q : Value → Shared → Prop} (I : Inv X pins σ H s) (TB : TabN s X.mg c P) (hcode : X.env.code = .ref c)
    (hP0 : TabS H P (X.env.qual ++ "<lambda>")) (nT : P ∉ T.map (·.1)) (hone : ∀ p ∈ T, p.2.2 = true → subQ p.2.1 = X.env.qual ++ "<lambda>") (hT : Tabs2 T H) (hdef : defaultsOf params X.env = ([], [])) (hfree : ∀ y ∈ scope.names, y.2 = .free → ∃ c, X.env.cells.lookup y.1 = some c)
    (h : ∀ (f c' : Addr) (pm ctv : Value) (H1 : Hp) (s' : Shared), Inv X pins σ H1 s' → ExtN H H1 → Tabs2 T H1 →
      s'.heap.get? f = some (PySem.W.kla_obj "<lambda>" (X.env.qual ++ "<lambda>") params body scope (cloFrom X.env.cells scope.names []) pm c' ctv) → H1 f = none → f ∉ frs X.stack → H1 c' = some (CodeO c' (X.env.qual ++ "<lambda>")) → Q (.ref f) s') :
    wpAny (model X.prog X.w) X.A (eval (.Lambda params body scope pos) X.env) Q EE s := by
  obtain ⟨ps, hP, ht, ha⟩ := hP0
  refine PySem.W.kla_eval hdef ?_
  have hP' : s.heap.get? P = some { cls := .none, data := .fields ps } := I.hok P _ hP
  have nofr : ∀ f, s.heap.objs.size ≤ f → f ∉ frs X.stack := fun f hf z => by
    rcases List.mem_cons.mp (I.stkSub _ z) with e | e
    · have h1 := I.lt
      rw [← e] at h1
      exact Nat.lt_irrefl _ (Nat.lt_of_lt_of_le h1 hf)
    · exact I.nofs hf e
  cases hc : codeAmong pos ps.toList with
  | none =>
    refine PySem.W.kla_makeFunction (mg := X.mg) (c := c) (P := P) (ps := ps) (closure_ok hfree) I.ok.glob (I.mod.glob.keeps I.bk) hcode TB.code hP' ht hc TB.gP TB.bm fun c' ctv h' tk hx hge hlt hrec htb => ?_
    obtain ⟨c2, oc, vs, t, e2, hoc, hd, hv⟩ := hrec
    cases e2
    have hsz : s.heap.objs.size ≤ h'.objs.size := Nat.le_trans hge (Nat.le_of_lt hlt)
    have nC : H c' = none := I.hok.fresh hge
    have I1 := inv_table (q := X.env.qual ++ "<lambda>") (t' := tk) (more := #[rawInt pos.line, rawInt pos.col, .ref c']) (h' := h'.push (PySem.W.kla_obj "<lambda>" (X.env.qual ++ "<lambda>") params body scope (cloFrom X.env.cells scope.names []) ((X.mg "__name__").getD .none) c' ctv)) I hP
      (fun b o hb e => Heap.get?_push_of_some _ (hx b o hb e)) (Heap.get?_push_of_some _ htb) hge ⟨oc, vs, t, Heap.get?_push_of_some _ hoc, hd, hv⟩
    have hE : ExtN H (upd (upd H P (.tbl (ps ++ #[rawInt pos.line, rawInt pos.col, .ref c']))) c' (CodeO c' (X.env.qual ++ "<lambda>"))) := fun b o e n => by
      rw [upd_ne (ne_of_none e nC), upd_ne (fun z => n ps (Option.some.inj (e.symm.trans (by rw [z]; exact hP))))]
      exact e
    have eL : (ps ++ #[rawInt pos.line, rawInt pos.col, .ref c']).toList = ps.toList ++ [rawInt pos.line, rawInt pos.col, .ref c'] := by simp
    refine h h'.objs.size c' ((X.mg "__name__").getD .none) ctv _ _ I1 hE (fun p hp => ?_) (Heap.get?_push_size _ rfl) ?_ (nofr _ hsz) upd_same
    · obtain ⟨ps', a1, a2, a3⟩ := hT p hp
      have nb : p.1 ≠ P := fun z => nT (by rw [← z]; exact List.mem_map.mpr ⟨p, hp, rfl⟩)
      refine ⟨ps', by rw [upd_ne (ne_of_none a1 nC), upd_ne nb]; exact a1, a2, fun p' cv hcv => ?_⟩
      obtain ⟨c0, P0, e1, e3, e4⟩ := a3 p' cv hcv
      refine ⟨c0, P0, e1, hE _ _ e3 codeO2_ne, fun hn => ⟨(e4 hn).1, ?_⟩⟩
      obtain ⟨p2, b1, b2, b3⟩ := (e4 hn).2
      by_cases hb : P0 = P
      · subst hb
        rw [hP] at b1
        cases b1
        rw [hone p hp hn] at b3 ⊢
        refine ⟨_, by rw [upd_ne (ne_of_none hP nC), upd_same], by rw [eL]; exact PySem.TriplesOk_snoc _ _ _ _ ht, fun p' cv hcv => ?_⟩
        rw [eL] at hcv
        rcases among_app _ ht hcv with z | z
        · obtain ⟨c0, e1, e2⟩ := b3 p' cv z
          exact ⟨c0, e1, hE _ _ e2 codeO_ne⟩
        · exact ⟨c', z, upd_same⟩
      · refine ⟨p2, by rw [upd_ne (ne_of_none b1 nC), upd_ne hb]; exact b1, b2, fun p3 cv hcv => ?_⟩
        obtain ⟨c0, e1, e2⟩ := b3 p3 cv hcv
        exact ⟨c0, e1, hE _ _ e2 codeO_ne⟩
    · have n1 : h'.objs.size ≠ c' := Nat.ne_of_gt hlt
      have n2 : h'.objs.size ≠ P := Nat.ne_of_gt (Nat.lt_of_lt_of_le (Heap.lt_size hP') hsz)
      rw [upd_ne n1, upd_ne n2]
      exact I.hok.fresh hsz
  | some cv =>
    obtain ⟨c', e, hco⟩ := ha pos cv hc
    subst e
    refine PySem.W.kla_makeFunctionHit (mg := X.mg) (c := c) (P := P) (ps := ps) (closure_ok hfree) I.ok.glob (I.mod.glob.keeps I.bk) hcode TB.code hP' ht hc TB.bm fun ctv h' tk hx hsz => ?_
    have I1 : Inv X pins σ H { s with heap := h'.push (PySem.W.kla_obj "<lambda>" (X.env.qual ++ "<lambda>") params body scope (cloFrom X.env.cells scope.names []) ((X.mg "__name__").getD .none) c' ctv), toks := tk } := I.kept fun b o e => Heap.get?_push_of_some _ (hx b o e)
    exact h h'.objs.size c' ((X.mg "__name__").getD .none) ctv H _ I1 (ExtN.refl H) hT (Heap.get?_push_size _ rfl) (I.hok.fresh hsz) (nofr _ hsz) hco
end
end SW
/-! A lambda's body in a context of its own; its call; what is handed on. -/
namespace SW
open PySem PySem.Spec PyProof.Rows L2 LamX
/-- parameters ps, all of them plain names; captured names and globals besides -/
structure LamP (sc scope : Scope) (ps : List Str) : Prop where
  kind : scope.kind = .function
  co : scope.isCoroutine = false
  gen : scope.isGenerator = false
  cell : ∀ y ∈ scope.names, y.2 ≠ .cell
  own : ∀ y ∈ scope.names, y.2 = .local → y.1 ∈ ps
  par : ∀ x ∈ ps, scope.names.lookup x = some .local
  nd : ps.Nodup
  free : ∀ y ∈ scope.names, y.2 = .free → sc.names.lookup y.1 = some .cell ∨ sc.names.lookup y.1 = some .free
def lamPB (sc scope : Scope) (ps : List Str) : Bool :=
  decide (scope.kind = .function) && (!scope.isCoroutine && (!scope.isGenerator && (decide ps.Nodup && ((ps.all fun x => decide (scope.names.lookup x = some .local)) &&
    scope.names.all fun y => !decide (y.2 = .cell) && ((!decide (y.2 = .local) || decide (y.1 ∈ ps)) && (!decide (y.2 = .free) || (decide (sc.names.lookup y.1 = some .cell) || decide (sc.names.lookup y.1 = some .free))))))))
theorem lamP_by {sc scope : Scope} {ps : List Str} (h : lamPB sc scope ps = true) : LamP sc scope ps := by
  unfold lamPB at h
  simp only [Bool.and_eq_true, Bool.or_eq_true, Bool.not_eq_true', decide_eq_true_eq, decide_eq_false_iff_not, List.all_eq_true] at h
  obtain ⟨h1, h2, h3, h4, h5, h6⟩ := h
  refine ⟨h1, h2, h3, fun y hy => (h6 y hy).1, fun y hy e => ?_, h5, h4, fun y hy e => ?_⟩
  · rcases (h6 y hy).2.1 with z | z
    · exact absurd e z
    · exact z
  · rcases (h6 y hy).2.2 with z | z
    · exact absurd e z
    · exact z
theorem LamP.has {X : Cx} {scope : Scope} {ps : List Str} (L : LamP X.env.scope scope ps) (ok : X.Ok) : ∀ y ∈ scope.names, y.2 = .free → ∃ c, X.env.cells.lookup y.1 = some c := fun y hy e =>
  ok.has _ (L.free y hy e)
/-- the body's context: the maker's slots, then the parameters -/
def lamCxP (X : Cx) (A : Around) (outer : List Env) (s : Shared) (H : Hp) (E : XK) (scope : Scope) (f c' : Addr) (ps : List Str) : Cx where
  prog := X.prog
  w := X.w
  K := X.K
  mg := X.mg
  base := X.base
  A := A.deeper (lamEnv X scope s.heap.objs.size f c')
  N := X.N ++ ps
  s_0 := s
  H_0 := H
  env := lamEnv X scope s.heap.objs.size f c'
  outer := outer
  stack := lamEnv X scope s.heap.objs.size f c' :: outer
  ex := []
  fn := fun _ => false
  calm := true
  pn := []
  xe := fun e s' => wpAny (model X.prog X.w) (A.deeper (lamEnv X scope s.heap.objs.size f c')) (leaving (lamEnv X scope s.heap.objs.size f c') e) (fun _ s'' => L2.CX X.prog X.w outer H s E e s'') (fun e' s'' => L2.CX X.prog X.w outer H s E e' s'') s'
theorem rev_lookup {ps : List Str} {us : List Value} {i : Nat} {x : Str} {u : Value} (nd : ps.Nodup) (h1 : ps[i]? = some x) (h2 : us[i]? = some u) : (ps.zip us).reverse.lookup x = some u := by
  have hm : (x, u) ∈ (ps.zip us).reverse := List.mem_reverse.mpr (List.mem_of_getElem? (i := i) (by rw [List.getElem?_zip_eq_some]; exact ⟨h1, h2⟩))
  have uniq : ∀ v, (x, v) ∈ (ps.zip us).reverse → v = u := fun v hv => by
    obtain ⟨j, hj⟩ := List.mem_iff_getElem?.mp (List.mem_reverse.mp hv)
    rw [List.getElem?_zip_eq_some] at hj
    obtain ⟨j1, e1⟩ := List.getElem?_eq_some_iff.mp hj.1
    obtain ⟨i1, e2⟩ := List.getElem?_eq_some_iff.mp h1
    have e3 : j = i := (List.getElem_inj nd).mp (e1.trans e2.symm)
    rw [e3, h2] at hj
    exact (Option.some.inj hj.2).symm
  revert hm uniq
  generalize (ps.zip us).reverse = l
  intro hm uniq
  induction l with
  | nil => cases hm
  | cons p r ih =>
    obtain ⟨y, v⟩ := p
    show (match x == y with | true => some v | false => r.lookup x) = some u
    by_cases e : x = y
    · subst e
      rw [beq_self_eq_true]
      show some v = some u
      rw [uniq v (List.mem_cons_self ..)]
    · rw [beq_eq_false_iff_ne.mpr e]
      refine ih ?_ fun v hv => uniq v (List.mem_cons_of_mem _ hv)
      rcases List.mem_cons.mp hm with z | z
      · exact absurd (congrArg Prod.fst z) e
      · exact z
theorem call_one {M : Model} {A : Around} {Q : Value → Shared → Prop} {EE : Value → Shared → Prop} {s' : Shared} {env : Env} {f : Addr} {e : Expr} {pos : Pos} (he : ∀ env : Env, starEach [e] env = (false, eval e env) :: starEach [] env) (X : PySem.W.FnAt f s'.heap)
    (h : wpAny M A (spliced (backTo pos (starEach [e] env))) (fun us s₁ => PySem.W.FnAt f s₁.heap ∧ wpAny M A (call (.ref f) us) Q EE s₁) EE s') : wpAny M A (callWith pos (.ref f) [] (backTo pos (starEach [e] env)) (backToKw pos (keywordEach [] env))) Q EE s' :=
  PySem.W.callWith_F X h (he env) rfl
section
variable {X : Cx} {pins : List (Addr × Obj)} {σ : L2.St} {H HZ : Hp} {s s1 : Shared}
theorem lam_startP {A : Around} {outer : List Env} {E : XK} {scope : Scope} {f c' : Addr} {h₁ : Heap} {tk : Nat} {ps : List Str} {us : List Value} {vs : List V} (I : Inv X pins σ H s) (L : LamP X.env.scope scope ps) (dj : ∀ x ∈ ps, x ∉ X.N) (hl : us.length = ps.length) (rv : Vals vs us)
    (e0 : Env0 X.prog X.w X.K X.mg X.base A outer s1 HZ) (hd : A.handled = none) (un : Un (frs X.stack) [] H HZ s.heap s1.heap) (hns : h₁.Ns s1.heap.objs.size fun y => (ps.zip us).reverse.lookup y) (kp : ∀ b o, s1.heap.get? b = some o → h₁.get? b = some o) :
    Inv (lamCxP X A outer s1 HZ E scope f c' ps) [] (σ ++ vs.map some) HZ { s1 with heap := h₁, toks := tk } := by
  have hfree := L.has I.ok
  have cm : ∀ {y c}, (cloFrom X.env.cells scope.names []).lookup y = some c → X.env.cells.lookup y = some c := fun {y c} e => by
    rcases cloFrom_mem (PySem.mem_of_lookup e) with hm | ⟨h1, h2⟩
    · cases hm
    · obtain ⟨c1, hc⟩ := hfree _ h1 rfl
      have hc : X.env.cells.lookup y = some c1 := hc
      have e2 : c = c1 := by
        rw [h2, hc] <;> rfl
      rw [e2]
      exact hc
  have look : ∀ {y}, scope.names.lookup y = some .free → ∃ c, (cloFrom X.env.cells scope.names []).lookup y = some c := fun {y} hl => by
    have hy : (y, NameKind.free) ∈ scope.names := PySem.mem_of_lookup hl
    exact mem_lookup (cloFrom_has (cells := X.env.cells) (acc := []) hy)
  have cellK : ∀ {c : Addr} {v : Option Value}, H c = none → s.heap.IsCell c v → h₁.IsCell c v := fun {c v} n ⟨o, ho, hd⟩ => by
    obtain ⟨sl, q⟩ := un.any ho n (by simp)
    exact ⟨_, kp _ _ q, hd⟩
  have noA : ∀ b : Addr, b ∉ (lamCxP X A outer s1 HZ E scope f c' ps).ex := fun b z => absurd (show b ∈ ([] : List Addr) from z) (by simp)
  refine ⟨⟨e0.mod, L.kind, rfl, rfl, Nat.le_refl _, fun y z c e1 e2 => I.ok.inj y z c (cm e1) (cm e2), fun y hy => ?_, fun y c z _ => ?_, fun _ => hd, Around.frames_deeper e0.frames, .inr ⟨rfl, rfl⟩, fun b z => absurd z (noA b), e0.bs, e0.bsz, fun b _ _ => noA b,
      fun b z => absurd z (noA b), e0.funs, e0.frf⟩,
    rfl, e0.bare, Un.kept kp, ⟨_, hns, fun i y v e1 e2 e3 => ?_⟩, fun y c e => ?_, e0.hok.fresh (Nat.le_refl _), fun y c e => ?_, fun q hq => absurd (show q ∈ ([] : List (Addr × Obj)) ++ [] from hq) (by simp), e0.hok.kept kp, ?_⟩
  · have hy : scope.names.lookup y = some .cell ∨ scope.names.lookup y = some .free := hy
    rcases hy with hy | hy
    · exact absurd rfl (L.cell _ (PySem.mem_of_lookup hy))
    · exact look hy
  · have z : false = true := z
    cases z
  · have e3 : Vis scope y := e3
    have e1 : (X.N ++ ps)[i]? = some y := e1
    by_cases hi : i < X.N.length
    · rw [List.getElem?_append_left hi] at e1
      rw [List.getElem?_append_left (by rw [I.len]; exact hi)] at e2
      rcases e3 with k | k | k
      · exact absurd (List.mem_of_getElem? e1) (dj _ (L.own _ (PySem.mem_of_lookup k) rfl))
      · exact absurd rfl (L.cell _ (PySem.mem_of_lookup k))
      · obtain ⟨m, hn, hl⟩ := I.loc
        have hvis : Vis X.env.scope y := (L.free _ (PySem.mem_of_lookup k) rfl).elim (fun k => .inr (.inl k)) (fun k => .inr (.inr k))
        obtain ⟨w', r, q⟩ := hl i y v e1 e2 hvis
        obtain ⟨c2, h2⟩ := look k
        refine ⟨w', r, .inr ⟨.inr k, c2, h2, ?_⟩⟩
        have c1 := cm h2
        rcases q with ⟨k', _⟩ | ⟨_, c3, e', z⟩
        · have k' : X.env.scope.names.lookup y = some .local := k'
          rcases L.free _ (PySem.mem_of_lookup k) rfl with k2 | k2 <;> rw [show X.env.scope.names.lookup y = _ from k2] at k' <;> cases k'
        · rw [c1] at e'
          cases e'
          exact cellK (I.freeC y _ c1) z
    · have hi2 : X.N.length ≤ i := Nat.le_of_not_lt hi
      rw [List.getElem?_append_right hi2] at e1
      rw [List.getElem?_append_right (by rw [I.len]; exact hi2), I.len, List.getElem?_map] at e2
      cases e : vs[i - X.N.length]? with
      | none => rw [e] at e2; cases e2
      | some a =>
        rw [e] at e2
        cases e2
        obtain ⟨u, hu, ru⟩ := rv.get e
        exact ⟨u, ru, .inl ⟨L.par _ (List.mem_of_getElem? e1), rev_lookup L.nd e1 hu⟩⟩
  · obtain ⟨w', z⟩ := I.cell y c (cm e)
    exact ⟨w', cellK (I.freeC y c (cm e)) z⟩
  · obtain ⟨v, o, ho, hd⟩ := I.cell y c (cm e)
    exact un.free c o ho (I.freeC y c (cm e)) (by simp)
  · show (σ ++ vs.map some).length = (X.N ++ ps).length
    rw [List.length_append, List.length_append, List.length_map, I.len, rv.length, hl]
/-- what tells of a code object's name -/
def CodK (c : Addr) (q : Str) (co : HO) : Prop := ∀ (P : Program) (w : World) (H : Hp) (h : Heap), ObjOk P w H h c co → h.CodeRec (.ref c) q
theorem codK1 (c : Addr) (q : Str) : CodK c q (CodeO c q) := fun P w H h z => by
  obtain ⟨⟨oc, vs, t, a, b, d⟩, _, _⟩ := z
  exact ⟨c, oc, vs, t, rfl, a, b, d⟩
theorem codK2 (c : Addr) (q : Str) (P' : Addr) : CodK c q (CodeO2 c q P') := fun P w H h z => by
  obtain ⟨⟨_, oc, vs, t, a, b, d⟩, _, _⟩ := z
  exact ⟨c, oc, vs, t, rfl, a, b, d⟩
section
variable {CXg : CXT} {Eg : XK} {Ng : List Str} {qg : Str} {sg : Scope} {g f c' : Addr} {cdg pm ctv : Value} {params : Arguments} {body : Expr} {scope : Scope} {ps : List Str} {k i : Nat} {a : Str} {co : HO} {pn : List (Addr × Obj)} {xe : Value → Shared → Prop} {W : WX} {E : XK} {tb : TE}
/-- the lambda at f is called in the def that got it: that def's context is entered from X -/
theorem act_run {pinsZ : List (Addr × Obj)} {σZ : L2.St} {H2 : Hp} {s2 : Shared} {us : List Value} {vs : List V} {Q : VK}
    (I : Inv X pins σ H s) (L : LamP X.env.scope scope ps) (dj : ∀ x ∈ ps, x ∉ X.N) (hf : s.heap.get? f = some (PySem.W.kla_obj "<lambda>" (X.env.qual ++ "<lambda>") params body scope (cloFrom X.env.cells scope.names []) pm c' ctv)) (hfn : H f = none) (hfr : f ∉ frs X.stack)
    (hbind : ∀ us : List Value, us.length = ps.length → bindArgs (PySem.W.kla_fn "<lambda>" (X.env.qual ++ "<lambda>") params body scope (cloFrom X.env.cells scope.names []) pm (.ref c') ctv) ⟨us, []⟩ = pure (ps.zip us))
    (hco : CodK c' (X.env.qual ++ "<lambda>") co)
    (tk : Takes ((cxOf CXg X.prog X.w X.K X.mg X.base Ng qg sg g cdg X.A X.stack s H Eg).tr pn xe) W) (hW : ∀ cls d (σ' : L2.St) H', σ'.length = Ng.length → E cls d H' → W cls d σ' H') (hr : Room (k + 1) (X.A.deeper (envOfC qg sg s.heap.objs.size g cdg)))
    (hbody : ∀ (A : Around) (outer : List Env) (s : Shared) (H : Hp), Room k (A.deeper (lamEnv X scope s.heap.objs.size f c')) → PE (lamCxP X A outer s H E scope f c' ps) body tb)
    (I2 : Inv ((cxOf CXg X.prog X.w X.K X.mg X.base Ng qg sg g cdg X.A X.stack s H Eg).tr pn xe) pinsZ σZ H2 s2) (rv : Vals vs us) (hl : vs.length = ps.length) (hc : H2 c' = some co) (htb : tb (σ ++ vs.map some) H2 Q) :
    PySem.W.FnAt f s2.heap ∧ wpAny (model X.prog X.w) (X.A.deeper (envOfC qg sg s.heap.objs.size g cdg)) (call (.ref f) us) (EP ((cxOf CXg X.prog X.w X.K X.mg X.base Ng qg sg g cdg X.A X.stack s H Eg).tr pn xe) pinsZ σZ Q) xe s2 := by
  have of2 : s2.heap.get? f = some (PySem.W.kla_obj "<lambda>" (X.env.qual ++ "<lambda>") params body scope (cloFrom X.env.cells scope.names []) pm c' ctv) := I2.base.keep f _ hf hfn hfr (fun z => nomatch (show f ∈ ([] : List Addr) from z))
  have un : Un (frs X.stack) [] H H2 s.heap s2.heap := I2.base
  have hul : us.length = ps.length := by rw [← rv.length]; exact hl
  have rc : codeAny (model X.prog X.w) (X.A.deeper (envOfC qg sg s.heap.objs.size g cdg)) (.call (.ref f) ⟨us, []⟩) (CR (L2.CX X.prog X.w) (envOfC qg sg s.heap.objs.size g cdg :: X.stack) X.prog X.w H2 s2 Q E) s2 := by
    refine PySem.W.kla_callFunE hr.depth of2 rfl L.co L.gen rfl (hco _ _ _ _ (I2.hok c' _ hc)) ?_
    rw [hbind us hul]
    refine wpAny_pure (wpAny_newFunctionEnv L.cell (fun y hy => L.par _ (List.of_mem_zip (a := y.1) (b := y.2) hy).1) (fun h₁ hns hsb => ⟨I2.nolimit.fresh _ hsb, ?_⟩) L.kind)
    show codeAny _ _ (.expr body (lamEnv X scope s2.heap.objs.size f c')) _ _
    have kp : ∀ b o, s2.heap.get? b = some o → h₁.get? b = some o := fun b o e => hsb.extBut b o (Nat.ne_of_lt (Heap.lt_size e)) (Heap.get?_push_of_some _ e)
    have J : Inv (lamCxP X (X.A.deeper (envOfC qg sg s.heap.objs.size g cdg)) (envOfC qg sg s.heap.objs.size g cdg :: X.stack) s2 H2 E scope f c' ps) [] (σ ++ vs.map some) H2 { s2 with heap := h₁, toks := s2.toks + (ps.zip us).length } :=
      lam_startP I L dj hul rv I2.env0 hr.hd un hns kp
    refine PySem.W.kla_codeExpr (wpAny_mono ((hbody _ _ s2 H2 (hr.deeper _)).run [] _ _ H2 Q J htb) (fun v s' hq => ?_) fun e s' hq => hq)
    obtain ⟨w', H', J', rv', q⟩ := hq
    exact ⟨w', H', J'.os, J'.bare, J'.base, J'.hok, rv', q⟩
  have hx : Passes (L2.CX X.prog X.w) ((cxOf CXg X.prog X.w X.K X.mg X.base Ng qg sg g cdg X.A X.stack s H Eg).tr pn xe) E := fun _ σ0 _ _ e s' I0 c => tk e s' (XE.of_call I0 (fun cls d H' h => hW cls d σ0 H' I0.len h) c)
  refine ⟨⟨_, _, _, _, of2⟩, wpAny_call (codeAny_mono rc fun r s' hq => ?_)⟩
  cases r with
  | error e => exact hx pinsZ σZ H2 s2 e s' I2 hq
  | ok fl =>
    cases fl with
    | ret u => exact I2.after hq
    | next => exact False.elim hq
    | brk => exact False.elim hq
    | cont => exact False.elim hq
/-- x() -/
theorem pe_act0 {p1 p2 : Pos} (I : Inv X pins σ H s) (L : LamP X.env.scope scope []) (hf : s.heap.get? f = some (PySem.W.kla_obj "<lambda>" (X.env.qual ++ "<lambda>") params body scope (cloFrom X.env.cells scope.names []) pm c' ctv)) (hfn : H f = none) (hfr : f ∉ frs X.stack)
    (hbind : bindArgs (PySem.W.kla_fn "<lambda>" (X.env.qual ++ "<lambda>") params body scope (cloFrom X.env.cells scope.names []) pm (.ref c') ctv) ⟨[], []⟩ = pure []) (hco : CodK c' (X.env.qual ++ "<lambda>") co)
    (tk : Takes ((cxOf CXg X.prog X.w X.K X.mg X.base Ng qg sg g cdg X.A X.stack s H Eg).tr pn xe) W) (hW : ∀ cls d (σ' : L2.St) H', σ'.length = Ng.length → E cls d H' → W cls d σ' H') (hr : Room (k + 1) (X.A.deeper (envOfC qg sg s.heap.objs.size g cdg)))
    (hbody : ∀ (A : Around) (outer : List Env) (s : Shared) (H : Hp), Room k (A.deeper (lamEnv X scope s.heap.objs.size f c')) → PE (lamCxP X A outer s H E scope f c' []) body tb)
    (hN : Ng[i]? = some a) (hv : Vis sg a) (hd : (a == ("__debug__" : Str)) = false := by decide) (hcd : (a == ("__classdict__" : Str)) = false := by decide) :
    PE ((cxOf CXg X.prog X.w X.K X.mg X.base Ng qg sg g cdg X.A X.stack s H Eg).tr pn xe) (.Call (.Name a p1) [] [] p2) (fun σZ HZ Q => σZ[i]? = some (some (.ref f)) ∧ HZ c' = some co ∧ tb σ HZ Q) := by
  refine ⟨fun pinsZ sZ σZ HZ Q IZ h => ?_⟩
  obtain ⟨hs, hc, ht⟩ := h
  refine wpAny_Call_Name_kw (thn ((pe_var (pos := p1) (i := i) hN hv hd hcd).run pinsZ sZ σZ HZ (fun v H1 => v = .ref f ∧ H1 = HZ) IZ ⟨.ref f, hs, rfl, rfl⟩) fun u s1 ⟨v, H1, I1, r1, q1⟩ => ?_)
  obtain ⟨ev, eH⟩ := q1
  subst ev
  rw [eH] at I1
  obtain rfl : u = Value.ref f := r1
  obtain ⟨z1, z2⟩ := act_run (us := []) (vs := []) I L (fun x hx => absurd hx List.not_mem_nil) hf hfn hfr (fun us hl => by
    cases us with
    | nil => exact hbind
    | cons => cases hl) hco tk hW hr hbody I1 .nil rfl hc (by rw [List.map_nil, List.append_nil]; exact ht)
  exact PySem.W.callWith_F0 z1 z2
/-- x(e) -/
theorem pe_act1 {p1 p2 : Pos} {x : Str} {e : Expr} {te : TE} (I : Inv X pins σ H s) (L : LamP X.env.scope scope [x]) (dj : x ∉ X.N) (hf : s.heap.get? f = some (PySem.W.kla_obj "<lambda>" (X.env.qual ++ "<lambda>") params body scope (cloFrom X.env.cells scope.names []) pm c' ctv)) (hfn : H f = none) (hfr : f ∉ frs X.stack)
    (hbind : ∀ u : Value, bindArgs (PySem.W.kla_fn "<lambda>" (X.env.qual ++ "<lambda>") params body scope (cloFrom X.env.cells scope.names []) pm (.ref c') ctv) ⟨[u], []⟩ = pure [(x, u)]) (hco : CodK c' (X.env.qual ++ "<lambda>") co)
    (tk : Takes ((cxOf CXg X.prog X.w X.K X.mg X.base Ng qg sg g cdg X.A X.stack s H Eg).tr pn xe) W) (hW : ∀ cls d (σ' : L2.St) H', σ'.length = Ng.length → E cls d H' → W cls d σ' H') (hr : Room (k + 1) (X.A.deeper (envOfC qg sg s.heap.objs.size g cdg)))
    (hbody : ∀ (A : Around) (outer : List Env) (s : Shared) (H : Hp), Room k (A.deeper (lamEnv X scope s.heap.objs.size f c')) → PE (lamCxP X A outer s H E scope f c' [x]) body tb)
    (hN : Ng[i]? = some a) (hv : Vis sg a) (ha : PE ((cxOf CXg X.prog X.w X.K X.mg X.base Ng qg sg g cdg X.A X.stack s H Eg).tr pn xe) e te) (he : ∀ env : Env, starEach [e] env = (false, eval e env) :: starEach [] env := by intro _; rfl)
    (hd : (a == ("__debug__" : Str)) = false := by decide) (hcd : (a == ("__classdict__" : Str)) = false := by decide) :
    PE ((cxOf CXg X.prog X.w X.K X.mg X.base Ng qg sg g cdg X.A X.stack s H Eg).tr pn xe) (.Call (.Name a p1) [e] [] p2) (fun σZ HZ Q => σZ[i]? = some (some (.ref f)) ∧ te σZ HZ fun v H1 => H1 c' = some co ∧ tb (σ ++ [some v]) H1 Q) := by
  refine ⟨fun pinsZ sZ σZ HZ Q IZ h => ?_⟩
  obtain ⟨hs, ht⟩ := h
  refine wpAny_Call_Name_kw (thn ((pe_var (pos := p1) (i := i) hN hv hd hcd).run pinsZ sZ σZ HZ (fun v H1 => v = .ref f ∧ H1 = HZ) IZ ⟨.ref f, hs, rfl, rfl⟩) fun u s1 ⟨v, H1, I1, r1, q1⟩ => ?_)
  obtain ⟨ev, eH⟩ := q1
  subst ev
  rw [eH] at I1
  obtain rfl : u = Value.ref f := r1
  have of1 : s1.heap.get? f = some (PySem.W.kla_obj "<lambda>" (X.env.qual ++ "<lambda>") params body scope (cloFrom X.env.cells scope.names []) pm c' ctv) := I1.base.keep f _ hf hfn hfr (fun z => nomatch (show f ∈ ([] : List Addr) from z))
  refine PySem.W.callWith_F ⟨_, _, _, _, of1⟩ ?_ (he _) rfl
  rw [he]
  refine Calls.spliced_cons (thn (ha.run pinsZ s1 σZ HZ _ I1 ht) fun u2 s2 r2 => Calls.spliced_nil ?_)
  obtain ⟨v2, H2, I2, rv2, hc, htb⟩ := r2
  exact act_run (us := [u2]) (vs := [v2]) I L (fun y hy => by rw [List.mem_singleton.mp hy]; exact dj) hf hfn hfr (fun us hl => match us, hl with
    | [u], _ => hbind u) hco tk hW hr hbody I2 (.cons rv2 .nil) rfl hc htb
end
end
end SW
/-! sorted(xs, key=lambda x: x[0]): the items are tuples whose first part is a text. -/
namespace SW
open PySem PySem.Spec PyProof.Rows L2 LamX
section
variable {X : Cx} {pins : List (Addr × Obj)} {σ : L2.St} {H : Hp} {s : Shared}
/-- a call of the lambda by the built-in, at a heap that holds all that was there -/
theorem key_turn {f c' P' b : Addr} {x : Str} {q : Str} {pm ctv : Value} {params : Arguments} {scope : Scope} {p1 p2 p3 : Pos} {j0 : Nat} {g : Str} {t : Tok} {u : Value} {A : Around} (I : Inv X pins σ H s) (hr : Room 1 A) (L : LamP X.env.scope scope [x]) (hx : (x == ("__debug__" : Str)) = false)
    (hf : s.heap.get? f = some (PySem.W.kla_obj "<lambda>" q params (.Subscript (.Name x p1) (.Constant (.int 0) j0 p2) p3) scope (cloFrom X.env.cells scope.names []) pm c' ctv)) (hco : H c' = some (CodeO2 c' q P'))
    (hbind : ∀ v : Value, bindArgs (PySem.W.kla_fn "<lambda>" q params (.Subscript (.Name x p1) (.Constant (.int 0) j0 p2) p3) scope (cloFrom X.env.cells scope.names []) pm (.ref c') ctv) ⟨[v], []⟩ = pure [(x, v)])
    (ht : IsTup s.heap b #[.str g t, u]) : wpAny (model X.prog X.w) A (call (.ref f) [.ref b]) (PySem.W.KeyPure (.str g) s) (fun _ _ => False) s := by
  refine wpAny_call (PySem.W.kla_callFunE hr.depth hf rfl L.co L.gen rfl (codK2 c' q P' _ _ _ _ (I.hok c' _ hco)) ?_)
  rw [hbind]
  refine wpAny_pure (wpAny_newFunctionEnv L.cell (fun y hy => ?_) (fun h₁ hns hsb => ⟨I.nolimit.fresh _ hsb, ?_⟩) L.kind)
  · rw [List.mem_singleton.mp hy]
    exact L.par _ (List.mem_singleton.mpr rfl)
  · have kp : ∀ b o, s.heap.get? b = some o → h₁.get? b = some o := fun b o e => hsb.extBut b o (Nat.ne_of_lt (Heap.lt_size e)) (Heap.get?_push_of_some _ e)
    have ht1 : IsTup h₁ b #[.str g t, u] := ht.keeps kp
    have hlk : ([(x, Value.ref b)] : List (Str × Value)).reverse.lookup x = some (.ref b) := by simp
    refine PySem.W.kla_codeExpr (Subscript_ (wpAny_Name (wpAny_loadName_local L.kind (L.par _ (List.mem_singleton.mpr rfl)) hns hlk ?_) hx))
    refine wpAny_Constant_int ?_
    refine subscriptTail_builtinR (x := .str g t) ht1.typeIs slot_tuple_getitem.lookup (PyProof.Rows.getItem_tuple (j := 0) (Q := fun r s' => r = .str g t ∧ _) ht1 (by decide) (by decide) rfl rfl ⟨rfl, ?_⟩) (by with_unfolding_all rfl)
    exact ⟨_, _, rfl, kp, by constructor⟩
/-- the entries in the order of their texts -/
def byKey (zs : List (Addr × Str)) : List (Addr × Str) := zs.mergeSort (PySem.W.dataLe false fun z : Addr × Str => PyData.str z.2)
theorem each_zip {R : Value → Addr × Str → Prop} {Y : Addr → Str → Prop} (hR : ∀ b k, Y b k → R (.ref b) (b, k)) : ∀ {bs : List Addr} {ks : List Str}, Paired Y bs ks → PySem.W.EachIs R (bs.map Value.ref) (bs.zip ks)
  | _, _, .nil => .nil
  | _, _, .cons a r => .cons (hR _ _ a) (each_zip hR r)
theorem each_refs {R : Value → Addr × Str → Prop} (hR : ∀ v z, R v z → v = .ref z.1) : ∀ {out : List Value} {zs : List (Addr × Str)}, PySem.W.EachIs R out zs → out = zs.map fun z => Value.ref z.1
  | _, _, .nil => rfl
  | _, _, .cons a r => by rw [List.map_cons, hR _ _ a, each_refs hR r]
theorem vals_refs : ∀ zs : List (Addr × Str), Vals (zs.map fun z => V.ref z.1) (zs.map fun z => Value.ref z.1)
  | [] => .nil
  | _ :: r => .cons rfl (vals_refs r)
def tSortKey (K : Fr0) (TT : LTabs) (te : TA) : TE := fun σ H Q => te σ H fun v H0 => ∃ (a : Addr) (bs : List Addr) (ks : List Str), v = [.ref a] ∧ SqL K H0 a (bs.map V.ref) ∧ Paired (fun b k => ∃ pv, SqT K H0 b [.str k, pv]) bs ks ∧ bs.length < 1000 ∧ Tabs2 TT H0 ∧
  ∀ p H1 H2, ExtN H0 H1 → Tabs2 TT H1 → H1 p = none → Same H1 H2 → H2 p = some (.lst ((byKey (bs.zip ks)).map fun z => V.ref z.1)) → Q (.ref p) H2
theorem pe_sortKey {TT : LTabs} {c PT : Addr} {e : Expr} {te : TA} {x : Str} {params : Arguments} {scope : Scope} {p1 p2 p3 p4 pn pos kpos : Pos} {j0 : Nat} (TB : TabB X.base X.mg c PT) (hcode : X.env.code = .ref c) (hm : (PT, X.env.qual ++ "<lambda>", false) ∈ TT) (hu : ∀ p ∈ TT, p.1 = PT → p.2 = (X.env.qual ++ "<lambda>", false))
    (hg : Gl X "sorted") (hmg : X.mg "sorted" = none) (hr : Room 3 X.A) (he : PA X [e] te) (L : LamP X.env.scope scope [x]) (hx : (x == ("__debug__" : Str)) = false) (hdef : defaultsOf params X.env = ([], []))
    (hbind : ∀ (q : Str) (cl : List (Str × Addr)) (pm cv ctv u : Value), bindArgs (PySem.W.kla_fn "<lambda>" q params (.Subscript (.Name x p1) (.Constant (.int 0) j0 p2) p3) scope cl pm cv ctv) ⟨[u], []⟩ = pure [(x, u)])
    (hst : backTo pos (starEach [e] X.env) = (false, eval e X.env) :: backTo pos (starEach [] X.env) := by rfl) (hpl : (backTo pos (starEach [e] X.env)).any (·.1) = false := by rfl) :
    PE X (.Call (.Name "sorted" pn) [e] [⟨some "key", .Lambda params (.Subscript (.Name x p1) (.Constant (.int 0) j0 p2) p3) scope p4, kpos⟩] pos) (tSortKey X.K TT te) := by
  refine ⟨fun pins s σ H Q I h => ?_⟩
  refine wpAny_Call_Name_kw (ld_blt I hg hmg boot_sortedB ?_ (by decide) (by decide))
  refine PyProof.Rows.callWith_kw (thn (he.run pos pins s σ H _ I h) fun u s1 r => ?_) hst hpl rfl rfl
  obtain ⟨v, H0, I0, rx, a, bs, ks, ez, hs, hp, hl, hT, q⟩ := r
  subst ez
  obtain ⟨u1, eu, rx1⟩ := vals1 rx
  subst eu
  obtain rfl : u1 = Value.ref a := rx1
  show wpAny _ _ (evalAll [do let v ← eval (.Lambda params (.Subscript (.Name x p1) (.Constant (.int 0) j0 p2) p3) scope p4) X.env; standAt pos; pure v]) _ _ s1
  refine wpAny_evalAll_cons (wpAny_bind (lam_mk2 I0 (TabN.of I0 TB) hcode hm hu hT hdef (L.has I0.ok) fun f c' P' pm ctv H1 s' I1 eN T1 hf hfn hfr hco _ => wpAny_bind (wpAny_standAt (wpAny_pure (wpAny_evalAll_nil ?_)))))
  show wpAny _ _ (call (.builtin "sorted") [.ref a] [(Str.ofString "key", .ref f)]) _ _ s'
  have hs1 : SqL X.K H1 a (bs.map V.ref) := by
    rcases hs with z | z
    · rcases z with z | ⟨o, z⟩
      · exact .inl (.inl (eN _ _ z fun ps e => by cases e))
      · exact .inl (.inr ⟨o, eN _ _ z fun ps e => by cases e⟩)
    · exact .inr z
  have hp1 : Paired (fun b k => ∃ t u, IsTup s'.heap b #[Value.str k t, u]) bs ks := by
    refine Paired.mapP hp fun b k ⟨pv, z⟩ => ?_
    have z1 : SqT X.K H1 b [.str k, pv] := by
      rcases z with z | z
      · rcases z with z | ⟨o, z⟩
        · exact .inl (.inl (eN _ _ z fun ps e => by cases e))
        · exact .inl (.inr ⟨o, eN _ _ z fun ps e => by cases e⟩)
      · exact .inr z
    obtain ⟨its, rv, ht, _⟩ := I1.tuple z1
    obtain ⟨w1, w2, ei, r1, r2⟩ := vals2 rv
    subst ei
    obtain ⟨t, rfl⟩ := (show ∃ t, w1 = Value.str k t from r1)
    exact ⟨t, w2, ht⟩
  obtain ⟨its, rv, pl, hz⟩ := I1.list hs1
  have ei := refs_at rv
  subst ei
  have hlen : (bs.zip ks).length = bs.length := by rw [List.length_zip, hp.length, Nat.min_self]
  have un := hr.un
  refine PySem.W.sorted_key_data (β := Addr × Str) (b := false) (R := fun v z => v = .ref z.1 ∧ ∃ t u, IsTup s'.heap z.1 #[Value.str z.2 t, u]) (bs := bs.zip ks) (fun z => PyData.str z.2) pl.isList
    (each_zip (fun b k h => ⟨rfl, h⟩) hp1) (fun d hd d' hd' => ?_) (.inr fun d hd => ?_) (by rw [hlen]; exact Nat.le_of_lt (Nat.lt_of_lt_of_le hl (by decide))) (fun z _ => ?_) (ksk_s1 _ _) (fun _ => ksk_l1 _ _) (fun _ => ksk_t1 _ _)
    (fun v z hv _ g tk kp => ?_) fun out cc g tk kp hfr hD ho eo => ?_
  · obtain ⟨z, _, rfl⟩ := List.mem_map.mp hd
    obtain ⟨z', _, rfl⟩ := List.mem_map.mp hd'
    rfl
  · obtain ⟨z, _, rfl⟩ := List.mem_map.mp hd
    exact ⟨(by intro w; cases w), (by intro xs w; cases w)⟩
  · show X.A.units + 2 + 0 < cLine
    omega
  · obtain ⟨rfl, t, u, ht⟩ := hv
    exact key_turn (s := { s' with heap := g, toks := tk }) (I1.kept kp) hr.in1.in1 L hx (kp _ _ hf) hco (fun v => hbind _ _ _ _ _ v) (ht.keeps kp)
  · have eo2 := each_refs (fun v z h => h.1) eo
    subst eo2
    have hlt : (byKey (bs.zip ks)).length ≤ sizeLine := by
      unfold byKey
      rw [List.length_mergeSort, hlen]
      exact Nat.le_of_lt (Nat.lt_of_lt_of_le hl (by decide))
    have nf := I1.hok.fresh (Nat.le_succ s'.heap.objs.size)
    refine ⟨.ref (s'.heap.objs.size + 1), upd H1 (s'.heap.objs.size + 1) (.lst ((byKey (bs.zip ks)).map fun z => V.ref z.1)), I1.laid (t' := tk) kp (Nat.le_succ _) ⟨by rw [List.length_map]; exact hlt, _, cc, vals_refs _, hD⟩, rfl, ?_⟩
    exact q _ H1 _ eN T1 nf (Same.of_new nf) upd_same
end
end SW
namespace SW
open PySem PySem.Spec PyProof.Rows L2
local macro_rules | `(tactic| lcg_sub) => `(tactic| ((with_reducible apply cg_D); assumption; lcg_sub; (first | rfl | exact he_tupO _ | exact duo_tupO _ | assumption); lcg_sub; rfl))
local macro_rules | `(tactic| lcg_sub) => `(tactic| ((with_reducible apply cg_L); assumption; lcg_sub; assumption))
local macro_rules | `(tactic| lcg_sub) => `(tactic| ((with_reducible apply cg_T); assumption; lcg_sub; lcg_sub; rfl))
local macro_rules | `(tactic| lcg_sub) => `(tactic| ((with_reducible apply cg_hp); assumption; lcg_sub; lcg_sub; rfl))
local macro_rules | `(tactic| lcg_sub) => `(tactic| ((with_reducible apply cg_hn); assumption; lcg_sub; assumption))
local macro_rules | `(tactic| lcg_sub) => `(tactic| ((with_reducible apply sm_Fl); assumption; lcg_sub))
local macro_rules | `(tactic| lcg_sub) => `(tactic| ((with_reducible apply cF_D); assumption; lcg_sub; lcg_sub; (first | rfl | exact he_tupO _ | exact duo_tupO _ | assumption)))
local macro_rules | `(tactic| lcg_sub) => `(tactic| ((with_reducible apply cF_T); assumption; lcg_sub; lcg_sub))
local macro_rules | `(tactic| lcg_sub) => `(tactic| ((with_reducible apply cF_hp); assumption; lcg_sub; lcg_sub; rfl))
local macro_rules | `(tactic| lcg_sub) => `(tactic| ((with_reducible apply cg_P); assumption; lcg_sub; lcg_sub; rfl))
local macro_rules | `(tactic| lcg_sub) => `(tactic| ((with_reducible apply cF_P); assumption; lcg_sub; lcg_sub))
local macro_rules | `(tactic| lcg_sub) => `(tactic| ((with_reducible apply sm_P); assumption; lcg_sub))
local macro_rules | `(tactic| lcg_sub) => `(tactic| ((with_reducible apply sm_isD); assumption; lcg_sub))
local macro_rules | `(tactic| lcg_sub) => `(tactic| ((with_reducible apply sm_Dp); assumption; lcg_sub))
local macro_rules | `(tactic| lcg_sub) => `(tactic| ((with_reducible apply sm_L); assumption; lcg_sub))
local macro_rules | `(tactic| lcg_sub) => `(tactic| ((with_reducible apply sm_T); assumption; lcg_sub))
local macro_rules | `(tactic| lcg_sub) => `(tactic| ((with_reducible apply sm_hp); assumption; lcg_sub))
local macro_rules | `(tactic| lcg_sub) => `(tactic| ((with_reducible apply sq_L); assumption))
local macro_rules | `(tactic| lcg_sub) => `(tactic| ((with_reducible apply sq_T); assumption))
local macro_rules | `(tactic| lcg_sub) => `(tactic| assumption)
local macro_rules | `(tactic| keq_hits) => `(tactic| (apply DpAll.cons; keq_rows; keq_hits))
local macro_rules | `(tactic| keq_hits) => `(tactic| exact DpAll.nil)
local macro_rules | `(tactic| keq_hits) => `(tactic| assumption)
local macro_rules | `(tactic| keq_rows) => `(tactic| (apply Dp.lst; lcg_sub; keq_hits))
local macro_rules | `(tactic| keq_rows) => `(tactic| (apply Dp.tup; lcg_sub; keq_hits))
local macro_rules | `(tactic| keq_rows) => `(tactic| lcg_sub)
local macro_rules | `(tactic| keq_rows) => `(tactic| exact Dp.non)
local macro_rules | `(tactic| keq_rows) => `(tactic| exact Dp.bl _)
local macro_rules | `(tactic| keq_rows) => `(tactic| exact Dp.str _)
local macro_rules | `(tactic| keq_rows) => `(tactic| exact Dp.int _)
local macro_rules | `(tactic| kpt_turns) => `(tactic| apply_assumption)
local macro_rules | `(tactic| kpt_turns) => `(tactic| (apply cdw <;> omega))
local macro_rules | `(tactic| kpt_turns) => `(tactic| (apply cmw <;> omega))
local macro_rules | `(tactic| kpt_turns) => `(tactic| exact ⟨by decide, by decide, by decide⟩)
local macro_rules | `(tactic| kpt_turns) => `(tactic| (refine Or.inr ?_; constructor <;> omega))
local macro_rules | `(tactic| kpt_turns) => `(tactic| (refine Or.inl ?_; constructor <;> omega))
local macro_rules | `(tactic| kpt_turns) => `(tactic| omega)
local macro_rules | `(tactic| kpt_turns) => `(tactic| exact ⟨by first | assumption | omega, by first | assumption | omega⟩)
local macro_rules | `(tactic| kpt_turns) => `(tactic| assumption)
local macro_rules | `(tactic| kpf_close) => `(tactic| (apply Chg.trans3; assumption; kpf_close))
local macro_rules | `(tactic| kpf_close) => `(tactic| (apply Chg.trans2; assumption; kpf_close))
local macro_rules | `(tactic| kpf_close) => `(tactic| (apply Same.chg; assumption))
local macro_rules | `(tactic| kpf_close) => `(tactic| exact Chg.refl _ _)
local macro_rules | `(tactic| kpf_close) => `(tactic| assumption)
local macro_rules | `(tactic| kas_types) => `(tactic| (apply Same.newc; assumption; kas_types; o_readsAll))
local macro_rules | `(tactic| kas_types) => `(tactic| (apply Same.trans2; assumption; kas_types))
local macro_rules | `(tactic| kas_types) => `(tactic| exact Same.refl _)
local macro_rules | `(tactic| kas_types) => `(tactic| assumption)
local macro_rules | `(tactic| o_readsAll) => `(tactic| (apply free_of; assumption; kas_types))
local macro_rules | `(tactic| o_readsAll) => `(tactic| assumption)
local macro_rules | `(tactic| lcg_off) => `(tactic| with_reducible intro _)
local macro_rules | `(tactic| lcg_off) => `(tactic| ((with_reducible refine And.intro ?_ ?_); (first | (show _ ≤ sizeLine; decide) | (show _ < sizeLine; decide) | (show _ < 1000; decide) | omega | (apply nw_neF; assumption; lcg_sub) | exact of_decide_eq_true rfl | (apply isD_of; lcg_sub) | exact Exists.intro _ (by lcg_sub))))
local macro_rules | `(tactic| lcg_off) => `(tactic| ((with_reducible refine And.intro ?_ ?_); (first | rfl | lcg_sub | exact And.intro rfl rfl)))
local macro_rules | `(tactic| lcg_off) => `(tactic| with_reducible apply Exists.intro)
local macro_rules | `(tactic| lcg_off) => `(tactic| with_reducible apply w_iKeys)
local macro_rules | `(tactic| lcg_off) => `(tactic| with_reducible apply w_iVals)
local macro_rules | `(tactic| lcg_off) => `(tactic| with_reducible apply w_iItems)
local macro_rules | `(tactic| lcg_off) => `(tactic| with_reducible apply w_iEnT)
local macro_rules | `(tactic| lcg_off) => `(tactic| with_reducible apply w_iRng1)
local macro_rules | `(tactic| lcg_off) => `(tactic| with_reducible apply w_iList)
local macro_rules | `(tactic| lcg_off) => `(tactic| with_reducible apply w_iTup)
local macro_rules | `(tactic| lcg_off) => `(tactic| with_reducible apply w_dc)
local macro_rules | `(tactic| lcg_off) => `(tactic| with_reducible apply w_lc)
local macro_rules | `(tactic| lcg_off) => `(tactic| with_reducible apply w_for)
local macro_rules | `(tactic| lcg_off) => `(tactic| with_reducible apply w_lockE)
local macro_rules | `(tactic| lcg_off) => `(tactic| with_reducible apply w_lockS)
local macro_rules | `(tactic| lcg_off) => `(tactic| ((with_reducible apply w_ifF); rfl))
local macro_rules | `(tactic| lcg_off) => `(tactic| ((with_reducible apply w_ifT); rfl))
local macro_rules | `(tactic| lcg_off) => `(tactic| ((with_reducible apply w_dni)))
local macro_rules | `(tactic| lcg_off) => `(tactic| ((with_reducible apply w_din)))
local macro_rules | `(tactic| lcg_off) => `(tactic| ((with_reducible apply w_dget2)))
local macro_rules | `(tactic| lcg_off) => `(tactic| ((with_reducible apply w_dget)))
local macro_rules | `(tactic| lcg_off) => `(tactic| ((with_reducible apply w_yes)))
local macro_rules | `(tactic| lcg_off) => `(tactic| ((with_reducible apply w_inD); keq_rows; keq_rows; (first | rfl | with_unfolding_all rfl | assumption); (first | rfl | with_unfolding_all rfl | assumption)))
local macro_rules | `(tactic| lcg_off) => `(tactic| ((with_reducible apply w_inTD); keq_rows; keq_rows; (first | rfl | with_unfolding_all rfl | assumption); (first | rfl | with_unfolding_all rfl | assumption)))
local macro_rules | `(tactic| lcg_off) => `(tactic| ((with_reducible apply w_srtI); lcg_sub))
local macro_rules | `(tactic| lcg_off) => `(tactic| ((with_reducible apply w_dputS)))
local macro_rules | `(tactic| lcg_off) => `(tactic| ((with_reducible apply w_newI)))
local macro_rules | `(tactic| lcg_off) => `(tactic| ((with_reducible apply w_eqD); keq_rows; keq_rows; (first | rfl | with_unfolding_all rfl | assumption); (first | rfl | with_unfolding_all rfl | assumption)))
local macro_rules | `(tactic| lcg_off) => `(tactic| ((with_reducible apply w_neD); keq_rows; keq_rows; (first | rfl | with_unfolding_all rfl | assumption); (first | rfl | with_unfolding_all rfl | assumption)))
local macro_rules | `(tactic| lcg_off) => `(tactic| ((with_reducible apply w_niL); lcg_sub; rfl; (first | rfl | exact flat_ints _)))
local macro_rules | `(tactic| lcg_off) => `(tactic| ((with_reducible apply w_inL); lcg_sub; rfl; (first | rfl | exact flat_ints _)))
local macro_rules | `(tactic| lcg_off) => `(tactic| ((with_reducible apply w_niT); lcg_sub; rfl; rfl))
local macro_rules | `(tactic| lcg_off) => `(tactic| ((with_reducible apply w_inT); lcg_sub; rfl; rfl))
local macro_rules | `(tactic| lcg_off) => `(tactic| ((with_reducible apply w_isiB); (first | exact kb_bb | exact kb_bi | exact kb_bt | exact kb_bs)))
local macro_rules | `(tactic| lcg_off) => `(tactic| ((with_reducible apply w_isiS); (first | exact kb_ss | exact kb_st | exact kb_sb | exact kb_si)))
local macro_rules | `(tactic| lcg_off) => `(tactic| ((with_reducible apply w_isiI); (first | exact kb_ii | exact kb_it | exact kb_ib | exact kb_is)))
local macro_rules | `(tactic| lcg_off) => `(tactic| ((with_reducible apply w_isiT); lcg_sub; (first | exact kb_tt | exact kb_ti | exact kb_tb | exact kb_ts)))
local macro_rules | `(tactic| lcg_off) => `(tactic| ((with_reducible apply w_bm)))
local macro_rules | `(tactic| lcg_off) => `(tactic| ((with_reducible apply w_app); lcg_sub))
local macro_rules | `(tactic| lcg_off) => `(tactic| ((with_reducible apply w_fldS)))
local macro_rules | `(tactic| lcg_off) => `(tactic| ((with_reducible apply w_ifS)))
local macro_rules | `(tactic| lcg_off) => `(tactic| ((with_reducible apply w_retN)))
local macro_rules | `(tactic| lcg_off) => `(tactic| ((with_reducible apply w_ret)))
local macro_rules | `(tactic| lcg_off) => `(tactic| ((with_reducible apply w_drop)))
local macro_rules | `(tactic| lcg_off) => `(tactic| ((with_reducible apply w_par3)))
local macro_rules | `(tactic| lcg_off) => `(tactic| ((with_reducible apply w_par)))
local macro_rules | `(tactic| lcg_off) => `(tactic| ((with_reducible apply w_setL); lcg_sub; rfl))
local macro_rules | `(tactic| lcg_off) => `(tactic| ((with_reducible apply w_gsub)))
local macro_rules | `(tactic| lcg_off) => `(tactic| ((with_reducible apply w_gnil)))
local macro_rules | `(tactic| lcg_off) => `(tactic| ((with_reducible apply w_gcons)))
local macro_rules | `(tactic| lcg_off) => `(tactic| ((with_reducible apply w_gtup); lcg_sub; rfl))
local macro_rules | `(tactic| lcg_off) => `(tactic| ((with_reducible apply w_gname)))
local macro_rules | `(tactic| lcg_off) => `(tactic| ((with_reducible apply w_asgS)))
local macro_rules | `(tactic| lcg_off) => `(tactic| ((with_reducible apply w_asgT)))
local macro_rules | `(tactic| lcg_off) => `(tactic| ((with_reducible apply w_asg)))
local macro_rules | `(tactic| lcg_off) => `(tactic| ((with_reducible apply w_next)))
local macro_rules | `(tactic| lcg_off) => `(tactic| ((with_reducible apply w_seq)))
local macro_rules | `(tactic| lcg_off) => `(tactic| ((with_reducible apply w_dictD); lcg_sub))
local macro_rules | `(tactic| lcg_off) => `(tactic| ((with_reducible apply w_listD); lcg_sub))
local macro_rules | `(tactic| lcg_off) => `(tactic| ((with_reducible apply w_listL); lcg_sub))
local macro_rules | `(tactic| lcg_off) => `(tactic| ((with_reducible apply w_tupL); lcg_sub))
local macro_rules | `(tactic| lcg_off) => `(tactic| ((with_reducible apply w_lenT); lcg_sub))
local macro_rules | `(tactic| lcg_off) => `(tactic| ((with_reducible apply w_lenL); lcg_sub))
local macro_rules | `(tactic| lcg_off) => `(tactic| ((with_reducible apply w_divm); kpt_turns))
local macro_rules | `(tactic| lcg_off) => `(tactic| ((with_reducible apply w_int1)))
local macro_rules | `(tactic| lcg_off) => `(tactic| ((with_reducible apply w_catT); lcg_sub; lcg_sub))
local macro_rules | `(tactic| lcg_off) => `(tactic| ((with_reducible apply w_catL); lcg_sub; lcg_sub))
local macro_rules | `(tactic| lcg_off) => `(tactic| ((with_reducible apply w_slL); lcg_sub))
local macro_rules | `(tactic| lcg_off) => `(tactic| ((with_reducible apply w_slT); lcg_sub))
local macro_rules | `(tactic| lcg_off) => `(tactic| ((with_reducible apply w_ixL); lcg_sub; rfl))
local macro_rules | `(tactic| lcg_off) => `(tactic| ((with_reducible apply w_ixT); lcg_sub; rfl))
local macro_rules | `(tactic| lcg_off) => `(tactic| ((with_reducible apply w_rNe); rfl))
local macro_rules | `(tactic| lcg_off) => `(tactic| ((with_reducible apply w_rEq); rfl))
local macro_rules | `(tactic| lcg_off) => `(tactic| ((with_reducible apply w_rU)))
local macro_rules | `(tactic| lcg_off) => `(tactic| ((with_reducible apply w_rI); kpt_turns))
local macro_rules | `(tactic| lcg_off) => `(tactic| ((with_reducible apply w_rI0)))
local macro_rules | `(tactic| lcg_off) => `(tactic| ((with_reducible apply w_chain)))
local macro_rules | `(tactic| lcg_off) => `(tactic| ((with_reducible apply w_not)))
local macro_rules | `(tactic| lcg_off) => `(tactic| ((with_reducible apply w_or)))
local macro_rules | `(tactic| lcg_off) => `(tactic| ((with_reducible apply w_and)))
local macro_rules | `(tactic| lcg_off) => `(tactic| ((with_reducible apply w_tB)))
local macro_rules | `(tactic| lcg_off) => `(tactic| ((with_reducible apply w_test)))
local macro_rules | `(tactic| lcg_off) => `(tactic| ((with_reducible apply w_notV)))
local macro_rules | `(tactic| lcg_off) => `(tactic| ((with_reducible apply w_orV)))
local macro_rules | `(tactic| lcg_off) => `(tactic| ((with_reducible apply w_andV)))
local macro_rules | `(tactic| lcg_off) => `(tactic| ((with_reducible apply w_if)))
local macro_rules | `(tactic| lcg_off) => `(tactic| ((with_reducible apply w_part)))
local macro_rules | `(tactic| lcg_off) => `(tactic| ((with_reducible apply w_nop)))
local macro_rules | `(tactic| lcg_off) => `(tactic| ((with_reducible apply w_sl)))
local macro_rules | `(tactic| lcg_off) => `(tactic| ((with_reducible apply w_fld)))
local macro_rules | `(tactic| lcg_off) => `(tactic| ((with_reducible apply w_mk)))
local macro_rules | `(tactic| lcg_off) => `(tactic| ((with_reducible apply w_pr)))
local macro_rules | `(tactic| lcg_off) => `(tactic| ((with_reducible apply w_mt)))
local macro_rules | `(tactic| lcg_off) => `(tactic| ((with_reducible apply w_fn)))
local macro_rules | `(tactic| lcg_off) => `(tactic| ((with_reducible apply w_CB)))
local macro_rules | `(tactic| lcg_off) => `(tactic| ((with_reducible apply w_put)))
local macro_rules | `(tactic| lcg_off) => `(tactic| ((with_reducible apply w_new)))
local macro_rules | `(tactic| lcg_off) => `(tactic| ((with_reducible apply w_newT)))
local macro_rules | `(tactic| lcg_off) => `(tactic| ((with_reducible apply w_dic)))
local macro_rules | `(tactic| lcg_off) => `(tactic| ((with_reducible apply w_lst)))
local macro_rules | `(tactic| lcg_off) => `(tactic| ((with_reducible apply w_tup)))
local macro_rules | `(tactic| lcg_off) => `(tactic| ((with_reducible apply w_cons)))
local macro_rules | `(tactic| lcg_off) => `(tactic| ((with_reducible apply w_nil)))
local macro_rules | `(tactic| lcg_off) => `(tactic| ((with_reducible apply w_un)))
local macro_rules | `(tactic| lcg_off) => `(tactic| ((with_reducible apply w_op)))
local macro_rules | `(tactic| lcg_off) => `(tactic| ((with_reducible apply w_c)))
local macro_rules | `(tactic| lcg_off) => `(tactic| ((with_reducible apply w_var); rfl))
local macro_rules | `(tactic| lcg_src) => `(tactic| repeat lcg_off)
section
/-! The defs, part A: draws, checks, pairs. -/
open PySem PySem.Spec PyProof.Rows L2
section
variable {P : Program} {w : World} {K : Fr0} {mg : Str → Option Value} {base : Heap}
abbrev spLot : Sp := s2 fun a b H Q _ => ∃ i j, a = .int i ∧ b = .int j ∧ 0 < j ∧ Q (.int (i % j)) H
abbrev spPour : Sp := s2 fun f t H Q _ => ∃ a n, f = .ref a ∧ t = .int n ∧ 0 < n ∧ n < 1000 ∧ Fl H a ∧ ∀ r H', 0 ≤ r → r < n → Chg a H H' → Fl H' a → Q (.int r) H'
abbrev spPick (K : Fr0) : Sp := s2 fun f t H Q _ => ∃ a l xs, f = .ref a ∧ t = .ref l ∧ SqL K H l xs ∧ l ≠ a ∧ 0 < xs.length ∧ xs.length < 1000 ∧ Fl H a ∧ ∀ v H', v ∈ xs → Chg a H H' → Fl H' a → Q v H'
abbrev N_q_lot : List Str := ["_law_number", "_law_many"]
abbrev P_q_lot : List Str := ["_law_number", "_law_many"]
theorem sc_q_lot : FnScope N_q_lot P_q_lot (defScope s_q_lot) := ⟨rfl, rfl, rfl, by decide +kernel, rfl, by decide +kernel, by decide +kernel⟩
theorem ok_q_lot (T : Tx K mg) : FnR P w K mg base CX0 1 (ad K "_law_lot") spLot := by
  obtain ⟨fd, F⟩ := T.fd_q_lot
  refine fnr F (fun _ _ _ _ _ _ us hl => match us, hl with | [_, _], _ => rfl) sc_q_lot (fun vs H Q E h => ?_) (fun cdv A outer s H vs Q E hr h => ?_)
  · first | exact l1 h | exact l0 h | exact l2 h | exact l3 h | exact l4 h | exact l5 h | exact l6 h
  · have hu := hu_of hr
    refine ⟨_, PSs.nox (pss_one (ps_ret (pe_op op_mod (pe_callTy call_Int1 (by rfl) T.f_int boot_intT (pa_cons (pv 0) pa_nil)) (pv 1)))), ?_⟩
    try dsimp only [cxOf, Cx.nox, Cx.wish]
    obtain ⟨a, b, rfl, i, j, rfl, rfl, hj, q⟩ := h
    lcg_src
    exact q
abbrev N_q_pour : List Str := ["_law_flask_here", "_law_top", "_law_digit", "_law_level_here", "_law_factor"]
abbrev P_q_pour : List Str := ["_law_flask_here", "_law_top"]
theorem sc_q_pour : FnScope N_q_pour P_q_pour (defScope s_q_pour) := ⟨rfl, rfl, rfl, by decide +kernel, rfl, by decide +kernel, by decide +kernel⟩
theorem ok_q_pour (T : Tx K mg) : FnR P w K mg base CX0 1 (ad K "_law_pour") spPour := by
  obtain ⟨fd, F⟩ := T.fd_q_pour
  refine fnr F (fun _ _ _ _ _ _ us hl => match us, hl with | [_, _], _ => rfl) sc_q_pour (fun vs H Q E h => ?_) (fun cdv A outer s H vs Q E hr h => ?_)
  · first | exact l1 h | exact l0 h | exact l2 h | exact l3 h | exact l4 h | exact l5 h | exact l6 h
  · have hu := hu_of hr
    refine ⟨_, PSs.nox (pss_cons (ps_asg (pe_op op_add (pe_ix ix_list (pv 0) pe_int (fun _ _ => rfl)) pe_int) (pg_sub (pv 0) pe_int set_Ls))
      (pss_cons (ps_if (pt_cmpR op_gt (pe_ix ix_list (pv 0) pe_int (fun _ _ => rfl)) pe_int (nomark _)) (pss_cons (ps_asg (pe_callB call_DivM (by rfl) T.f_divmod boot_divmodB (pa_cons (pe_callTy call_Int1 (by rfl) T.f_int boot_intT (pa_cons (pe_ix ix_list (pv 0) pe_int (fun _ _ => rfl)) pa_nil)) (pa_cons (pv 1) pa_nil))) (pg_tup (n := 2) rfl (pgs_cons (pg_sub (pv 0) pe_int set_Ls) (pgs_cons (pg_name (i := 2) sc_q_pour.nd rfl (Or.inl rfl)) pgs_nil))))
      (pss_one (ps_ret (pv 2)))) pss_nil)
      (pss_cons (ps_set (i := 3) sc_q_pour.nd rfl (Or.inl rfl) (pe_callTy call_Int1 (by rfl) T.f_int boot_intT (pa_cons (pe_ix ix_list (pv 0) pe_int (fun _ _ => rfl)) pa_nil)))
      (pss_cons (ps_set (i := 4) sc_q_pour.nd rfl (Or.inl rfl) (pe_op op_add (pe_op op_mod (pe_callTy call_Int1 (by rfl) T.f_int boot_intT (pa_cons (pv 3) pa_nil)) pe_int) pe_int))
      (pss_cons (ps_asg (pe_op op_mod (pe_callTy call_Int1 (by rfl) T.f_int boot_intT (pa_cons (pe_op op_add (pe_op op_add (pe_op op_mul (pv 3) (pv 4)) (pe_op op_mul pe_int (pe_ix ix_list (pv 0) pe_int (fun _ _ => rfl)))) pe_int) pa_nil)) pe_int) (pg_sub (pv 0) pe_int set_Ls))
      (pss_one (ps_ret (pe_op op_mod (pe_callTy call_Int1 (by rfl) T.f_int boot_intT (pa_cons (pe_op op_fdivW (pe_ix ix_list (pv 0) pe_int (fun _ _ => rfl)) pe_int) pa_nil)) (pv 1))))))))), ?_⟩
    try dsimp only [cxOf, Cx.nox, Cx.wish]
    obtain ⟨f, t, rfl, a, n, rfl, rfl, h0, h9, ⟨x, y, z, hF⟩, q⟩ := h
    lcg_src
    rename_i H1 C1 e1
    have e1' : H1 a = some (.lst [.int x, .int (y + 1), .int z]) := e1
    clear e1
    have hd : CDiv z n := ⟨h0, by omega⟩
    have hm : CMul x (x % 17011 + 61001) := .inr ⟨by omega, by omega⟩
    have hm2 : CMul 70001 (y + 1) := .inl ⟨by decide, by decide⟩
    have hv : ∀ u : Int, CDivW u 4099 := fun u => wide_div (b := 13) (by decide) (by decide) (by decide) (by decide)
    refine w_ite (fun hz => ?_) (fun hz => ?_)
    · lcg_src
      exact q _ _ (Int.emod_nonneg _ (by omega)) (Int.emod_lt_of_pos _ h0) (by kpf_close) ⟨_, _, _, by assumption⟩
    · lcg_src
      exact q _ _ (Int.emod_nonneg _ (by omega)) (Int.emod_lt_of_pos _ h0) (by kpf_close) ⟨_, _, _, by assumption⟩
abbrev N_q_pick : List Str := ["_law_flask_here", "_law_some"]
abbrev P_q_pick : List Str := ["_law_flask_here", "_law_some"]
theorem sc_q_pick : FnScope N_q_pick P_q_pick (defScope s_q_pick) := ⟨rfl, rfl, rfl, by decide +kernel, rfl, by decide +kernel, by decide +kernel⟩
theorem ok_q_pick (T : Tx K mg) : FnR P w K mg base CX0 2 (ad K "_law_pick") (spPick K) := by
  obtain ⟨fd, F⟩ := T.fd_q_pick
  refine fnr F (fun _ _ _ _ _ _ us hl => match us, hl with | [_, _], _ => rfl) sc_q_pick (fun vs H Q E h => ?_) (fun cdv A outer s H vs Q E hr h => ?_)
  · first | exact l1 h | exact l0 h | exact l2 h | exact l3 h | exact l4 h | exact l5 h | exact l6 h
  · have hu := hu_of hr
    refine ⟨_, PSs.nox (pss_one (ps_ret (pe_ix ix_list (pv 1) (pe_fn (ok_q_pour T) (hr.mono (by decide)) (by rfl) T.g_q_pour T.k_q_pour pass0 (pa_cons (pv 0) (pa_cons (pe_callB call_LenL (by rfl) T.f_len boot_lenB (pa_cons (pv 1) pa_nil)) pa_nil))) (fun _ _ => rfl)))), ?_⟩
    try dsimp only [cxOf, Cx.nox, Cx.wish]
    obtain ⟨f, t, rfl, a, l, xs, rfl, rfl, hl, ne, h0, h9, hF, q⟩ := h
    lcg_src
    rename_i r H1 r0 r1 C1 F1
    obtain ⟨n, rfl⟩ := Int.eq_ofNat_of_zero_le r0
    have hn : n < xs.length := by omega
    exact w_ixL (cg_L C1 hl ne) (atI_nat (List.getElem?_eq_getElem hn)) (q _ _ (List.getElem_mem hn) C1 F1)
abbrev spHears (K : Fr0) : Sp := s1 fun f H Q _ => ∃ a, f = .ref a ∧ Fl H a ∧ ∀ v he H', Hears.ok he → Chg a H H' → Fl H' a → HeV K H' v he → Q v H'
abbrev N_q_hears : List Str := ["_law_flask_here"]
abbrev P_q_hears : List Str := ["_law_flask_here"]
theorem sc_q_hears : FnScope N_q_hears P_q_hears (defScope s_q_hears) := ⟨rfl, rfl, rfl, by decide +kernel, rfl, by decide +kernel, by decide +kernel⟩
theorem ok_q_hears (T : Tx K mg) : FnR P w K mg base CX0 3 (ad K "_law_hears") (spHears K) := by
  obtain ⟨fd, F⟩ := T.fd_q_hears
  refine fnr F (fun _ _ _ _ _ _ us hl => match us, hl with | [_], _ => rfl) sc_q_hears (fun vs H Q E h => ?_) (fun cdv A outer s H vs Q E hr h => ?_)
  · first | exact l1 h | exact l0 h | exact l2 h | exact l3 h | exact l4 h | exact l5 h | exact l6 h
  · have hu := hu_of hr
    refine ⟨_, PSs.nox (pss_one (ps_ret (pe_fn (ok_q_pick T) (hr.mono (by decide)) (by rfl) T.g_q_pick T.k_q_pick pass0 (pa_cons (pv 0) (pa_cons (pe_lstS (pa_cons pe_str (pa_cons pe_str (pa_cons pe_str (pa_cons pe_str (pa_cons (pe_tupS (pa_cons pe_str (pa_cons pe_int pa_nil))) (pa_cons (pe_tupS (pa_cons pe_str (pa_cons pe_int pa_nil))) (pa_cons (pe_tupS (pa_cons pe_str (pa_cons pe_int pa_nil))) (pa_cons (pe_tupS (pa_cons pe_str (pa_cons pe_int pa_nil))) pa_nil))))))))) pa_nil))))), ?_⟩
    try dsimp only [cxOf, Cx.nox, Cx.wish]
    obtain ⟨f, rfl, a, rfl, hF, q⟩ := h
    lcg_src
    rename_i p0 G0 S0 e0 p1 G1 S1 e1 p2 G2 S2 e2 p3 G3 S3 e3 p4 G4 n4 S4 e4 v G5 hv C5 F5
    simp only [List.mem_cons, List.not_mem_nil, or_false] at hv
    rcases hv with rfl | rfl | rfl | rfl | rfl | rfl | rfl | rfl
    · exact q _ .misses _ trivial (by kpf_close) F5 (.str _)
    · exact q _ .misses _ trivial (by kpf_close) F5 (.str _)
    · exact q _ .moved _ trivial (by kpf_close) F5 (.str _)
    · exact q _ .moved _ trivial (by kpf_close) F5 (.str _)
    · exact q _ (.each 0) _ ⟨by decide, by decide⟩ (by kpf_close) F5 (by keq_rows)
    · exact q _ (.each 1) _ ⟨by decide, by decide⟩ (by kpf_close) F5 (by keq_rows)
    · exact q _ (.each 2) _ ⟨by decide, by decide⟩ (by kpf_close) F5 (by keq_rows)
    · exact q _ (.each 3) _ ⟨by decide, by decide⟩ (by kpf_close) F5 (by keq_rows)
/-- a choice among ints -/
def isI : V → Bool
  | .int _ => true
  | _ => false
abbrev spPickI (K : Fr0) : Sp := s2 fun f t H Q _ => ∃ a l xs, f = .ref a ∧ t = .ref l ∧ SqL K H l xs ∧ l ≠ a ∧ 0 < xs.length ∧ xs.length < 1000 ∧ xs.all isI = true ∧ Fl H a ∧ ∀ n H', V.int n ∈ xs → Chg a H H' → Fl H' a → Q (.int n) H'
theorem ok_q_pickI (T : Tx K mg) : FnR P w K mg base CX0 2 (ad K "_law_pick") (spPickI K) := (ok_q_pick T).imp fun vs H Q E h => by
  obtain ⟨f, t, rfl, a, l, xs, rfl, rfl, h1, h2, h3, h4, h5, h6, q⟩ := h
  refine ⟨_, _, rfl, a, l, xs, rfl, rfl, h1, h2, h3, h4, h6, fun v H' hv C F => ?_⟩
  have hi := List.all_eq_true.mp h5 v hv
  cases v <;> first | (exact q _ _ hv C F) | (exact absurd hi (by decide)) | (exact absurd hi Bool.false_ne_true)
theorem pow20 : (10 : Int) ^ (20 : Int).toNat = 100000000000000000000 := by decide
abbrev spDuo (K : Fr0) : Sp := s1 fun f H Q _ => ∃ a, f = .ref a ∧ Fl H a ∧ ∀ v du H', Duo.ok du → du.lw ≤ 5 → Chg a H H' → Fl H' a → DuoV K H' v du → Q v H'
abbrev N_q_duo : List Str := ["_law_flask_here", "_law_span", "_law_upper", "_law_lower"]
abbrev P_q_duo : List Str := ["_law_flask_here"]
theorem sc_q_duo : FnScope N_q_duo P_q_duo (defScope s_q_duo) := ⟨rfl, rfl, rfl, by decide +kernel, rfl, by decide +kernel, by decide +kernel⟩
theorem ok_q_duo (T : Tx K mg) : FnR P w K mg base CX0 4 (ad K "_law_duo") (spDuo K) := by
  obtain ⟨fd, F⟩ := T.fd_q_duo
  refine fnr F (fun _ _ _ _ _ _ us hl => match us, hl with | [_], _ => rfl) sc_q_duo (fun vs H Q E h => ?_) (fun cdv A outer s H vs Q E hr h => ?_)
  · first | exact l1 h | exact l0 h | exact l2 h | exact l3 h | exact l4 h | exact l5 h | exact l6 h
  · have hu := hu_of hr
    refine ⟨_, PSs.nox (pss_cons (ps_set (i := 1) sc_q_duo.nd rfl (Or.inl rfl) (pe_fn (ok_q_pickI T) (hr.mono (by decide)) (by rfl) T.g_q_pick T.k_q_pick pass0 (pa_cons (pv 0) (pa_cons (pe_lstS (pa_cons pe_int (pa_cons pe_int (pa_cons pe_int (pa_cons pe_int (pa_cons (pe_op op_pow pe_int pe_int) pa_nil)))))) pa_nil))))
      (pss_cons (ps_set (i := 2) sc_q_duo.nd rfl (Or.inl rfl) (pe_tupS (pa_cons (pe_fn (ok_q_pickI T) (hr.mono (by decide)) (by rfl) T.g_q_pick T.k_q_pick pass0 (pa_cons (pv 0) (pa_cons (pe_lstS (pa_cons pe_int (pa_cons pe_int (pa_cons pe_int (pa_cons pe_int pa_nil))))) pa_nil))) (pa_cons (pe_op op_add pe_int (pe_fn (ok_q_pour T) (hr.mono (by decide)) (by rfl) T.g_q_pour T.k_q_pour pass0 (pa_cons (pv 0) (pa_cons pe_int pa_nil)))) (pa_cons (pv 1) pa_nil)))))
      (pss_cons (ps_set (i := 3) sc_q_duo.nd rfl (Or.inl rfl) (pe_tupS (pa_cons (pe_fn (ok_q_pickI T) (hr.mono (by decide)) (by rfl) T.g_q_pick T.k_q_pick pass0 (pa_cons (pv 0) (pa_cons (pe_lstS (pa_cons pe_int (pa_cons pe_int (pa_cons pe_int (pa_cons pe_int (pa_cons pe_int pa_nil)))))) pa_nil))) (pa_cons (pe_op op_add pe_int (pe_fn (ok_q_pour T) (hr.mono (by decide)) (by rfl) T.g_q_pour T.k_q_pour pass0 (pa_cons (pv 0) (pa_cons pe_int pa_nil)))) (pa_cons (pe_op op_mulW (pv 1) (pe_fn (ok_q_pickI T) (hr.mono (by decide)) (by rfl) T.g_q_pick T.k_q_pick pass0 (pa_cons (pv 0) (pa_cons (pe_lstS (pa_cons pe_int (pa_cons pe_int (pa_cons pe_int pa_nil)))) pa_nil)))) pa_nil)))))
      (pss_one (ps_ret (pe_tupS (pa_cons (pv 2) (pa_cons (pv 3) (pa_cons (pe_fn (ok_q_hears T) (hr.mono (by decide)) (by rfl) T.g_q_hears T.k_q_hears pass0 (pa_cons (pv 0) pa_nil)) pa_nil))))))))), ?_⟩
    try dsimp only [cxOf, Cx.nox, Cx.wish]
    obtain ⟨f, rfl, a, rfl, hF, q⟩ := h
    lcg_src
    rename_i l0 G0 n0 S0 e0 sp G1 m1 C1 F1 l2 G2 n2 S2 e2 us G3 m3 C3 F3 r1 G4 r10 r11 C4 F4 t5 G5 S5 e5 l6 G6 n6 S6 e6 ls G7 m7 C7 F7 r2 G8 r20 r21 C8 F8 l9 G9 n9 S9 e9 k G10 m10 C10 F10
    simp only [List.mem_cons, List.not_mem_nil, or_false, V.int.injEq, pow20] at m1 m3 m7 m10
    have hs : 0 < sp ∧ sp ≤ 100000000000000000000 := by omega
    have hk : 0 < k ∧ k ≤ 2 := by omega
    have hm : CMulW sp k := wide_mul (a := 70) (b := 3) (by omega) (by omega) (by decide) (by decide) (by decide)
    lcg_src
    rename_i t11 G11 S11 e11 hv he G12 ho C12 F12 hd t13 G13 S13 e13
    refine q _ ⟨us, 1 + r1, sp, ls, 1 + r2, sp * k, he⟩ _ ⟨⟨?_, ?_⟩, ⟨?_, ?_⟩, ⟨?_, ?_⟩, ⟨?_, ?_⟩, ⟨?_, ?_⟩, ⟨?_, ?_⟩, ?_, ho⟩ (show (1 : Int) + r2 ≤ 5 by omega) (by kpf_close) (by lcg_sub) (DuoV.of (by lcg_sub) (by lcg_sub) (by lcg_sub) (by lcg_sub))
    all_goals dsimp only
    all_goals have hk2 : k = 1 ∨ k = 2 := by omega
    any_goals (exact Int.mul_emod_right sp k)
    all_goals rcases hk2 with rfl | rfl
    all_goals omega
abbrev spPlace (K : Fr0) : Sp := s2 fun f d H Q _ => ∃ a du, f = .ref a ∧ Fl H a ∧ DuoV K H d du ∧ du.ok ∧ ∀ n H', 0 ≤ n → n ≤ 10 ^ 23 → Chg a H H' → Fl H' a → Q (.int n) H'
abbrev N_q_place : List Str := ["_law_flask_here", "_law_duo_here"]
abbrev P_q_place : List Str := ["_law_flask_here", "_law_duo_here"]
theorem sc_q_place : FnScope N_q_place P_q_place (defScope s_q_place) := ⟨rfl, rfl, rfl, by decide +kernel, rfl, by decide +kernel, by decide +kernel⟩
theorem ok_q_place (T : Tx K mg) : FnR P w K mg base CX0 3 (ad K "_law_place") (spPlace K) := by
  obtain ⟨fd, F⟩ := T.fd_q_place
  refine fnr F (fun _ _ _ _ _ _ us hl => match us, hl with | [_, _], _ => rfl) sc_q_place (fun vs H Q E h => ?_) (fun cdv A outer s H vs Q E hr h => ?_)
  · first | exact l1 h | exact l0 h | exact l2 h | exact l3 h | exact l4 h | exact l5 h | exact l6 h
  · have hu := hu_of hr
    refine ⟨_, PSs.nox (pss_one (ps_ret (pe_op op_add (pe_op op_mulW (pe_fn (ok_q_pour T) (hr.mono (by decide)) (by rfl) T.g_q_pour T.k_q_pour pass0 (pa_cons (pv 0) (pa_cons pe_int pa_nil))) (pe_ix ix_tup (pe_ix ix_tup (pv 1) pe_int (fun _ _ => rfl)) pe_int (fun _ _ => rfl))) (pe_op op_mulW (pe_fn (ok_q_pour T) (hr.mono (by decide)) (by rfl) T.g_q_pour T.k_q_pour pass0 (pa_cons (pv 0) (pa_cons pe_int pa_nil))) (pe_op op_fdivW (pe_ix ix_tup (pe_ix ix_tup (pv 1) pe_int (fun _ _ => rfl)) pe_int (fun _ _ => rfl)) pe_int))))), ?_⟩
    try dsimp only [cxOf, Cx.nox, Cx.wish]
    obtain ⟨f, d, rfl, a, du, rfl, hF, hd, ok, q⟩ := h
    obtain ⟨b, u, l, hv, rfl, hb, hu1, hl, hh⟩ := hd.open
    have ok1 := ok.ub
    lcg_src
    rename_i r1 G1 r10 r11 C1 F1 r2 G2 r20 r21 C2 F2
    have m1 := mul_bd r10 (show r1 ≤ 6 by omega) (by omega) ok1.2
    have m2 := mul_bd r20 (show r2 ≤ 1 by omega) (show 0 ≤ du.ub / 2 by omega) (show du.ub / 2 ≤ 10 ^ 21 by omega)
    lcg_src
    exact q _ _ (by omega) (by omega) (by kpf_close) (by lcg_sub)
/-- neither an int nor seen as one -/
def NotI (K : Fr0) (H : Hp) (v : V) : Prop := ∃ t b1 b2, TyX K H v (.type t) ∧ kitB t "int" = some b1 ∧ (b1 = true → kitB t "bool" = some b2) ∧ (b1 && !b2) = false
abbrev spIsInt (K : Fr0) : Sp := s1 fun v H Q _ => (∃ i, v = .int i ∧ Q (.bl true) H) ∨ (NotI K H v ∧ Q (.bl false) H)
abbrev N_is_integer : List Str := ["value"]
abbrev P_is_integer : List Str := ["value"]
theorem sc_is_integer : FnScope N_is_integer P_is_integer (defScope s_is_integer) := ⟨rfl, rfl, rfl, by decide +kernel, rfl, by decide +kernel, by decide +kernel⟩
theorem ok_is_integer (T : Tx K mg) : FnR P w K mg base CX0 1 (ad K "is_integer") (spIsInt K) := by
  obtain ⟨fd, F⟩ := T.fd_is_integer
  refine fnr F (fun _ _ _ _ _ _ us hl => match us, hl with | [_], _ => rfl) sc_is_integer (fun vs H Q E h => ?_) (fun cdv A outer s H vs Q E hr h => ?_)
  · first | exact l1 h | exact l0 h | exact l2 h | exact l3 h | exact l4 h | exact l5 h | exact l6 h
  · have hu := hu_of hr
    refine ⟨_, PSs.nox (pss_one (ps_ret (pe_and (pe_callB call_isi (by rfl) T.f_isinstance boot_isinst (pa_cons (pv 0) (pa_cons (pe_bltn (v := .ty "int") (by rfl) T.f_int boot_intT rfl) pa_nil))) (pe_one (pe_not (pe_callB call_isi (by rfl) T.f_isinstance boot_isinst (pa_cons (pv 0) (pa_cons (pe_bltn (v := .ty "bool") (by rfl) T.f_bool boot_boolT rfl) pa_nil)))))))), ?_⟩
    try dsimp only [cxOf, Cx.nox, Cx.wish]
    obtain ⟨v, rfl, h⟩ := h
    rcases h with ⟨i, rfl, q⟩ | ⟨⟨t, b1, b2, ty, k1, k2, e⟩, q⟩
    · lcg_src
      exact q
    · lcg_src
      refine isi_ty ty k1 ?_
      lcg_src
      refine w_ite (fun h1 => ?_) (fun h1 => ?_)
      · lcg_src
        refine isi_ty ty (k2 h1) ?_
        lcg_src
        subst h1
        have e2 : (!b2) = false := e
        rw [e2]
        exact q
      · exact q
abbrev spIsWithin (K : Fr0) : Sp := s3 fun v a b H Q _ => ∃ lo hi, a = .int lo ∧ b = .int hi ∧ ((∃ i, v = .int i ∧ Q (.bl (decide (lo ≤ i) && decide (i ≤ hi))) H) ∨ (NotI K H v ∧ Q (.bl false) H))
abbrev N_is_within : List Str := ["value", "least", "most"]
abbrev P_is_within : List Str := ["value", "least", "most"]
theorem sc_is_within : FnScope N_is_within P_is_within (defScope s_is_within) := ⟨rfl, rfl, rfl, by decide +kernel, rfl, by decide +kernel, by decide +kernel⟩
theorem ok_is_within (T : Tx K mg) : FnR P w K mg base CX0 2 (ad K "is_within") (spIsWithin K) := by
  obtain ⟨fd, F⟩ := T.fd_is_within
  refine fnr F (fun _ _ _ _ _ _ us hl => match us, hl with | [_, _, _], _ => rfl) sc_is_within (fun vs H Q E h => ?_) (fun cdv A outer s H vs Q E hr h => ?_)
  · first | exact l1 h | exact l0 h | exact l2 h | exact l3 h | exact l4 h | exact l5 h | exact l6 h
  · have hu := hu_of hr
    refine ⟨_, PSs.nox (pss_one (ps_ret (pe_and (pe_fn (ok_is_integer T) (hr.mono (by decide)) (by rfl) T.g_is_integer T.k_is_integer pass0 (pa_cons (pv 0) pa_nil)) (pe_one (pe_chain op_le op_le (pv 1) (pv 0) (pv 2)))))), ?_⟩
    try dsimp only [cxOf, Cx.nox, Cx.wish]
    obtain ⟨v, a, b, rfl, lo, hi, rfl, rfl, h⟩ := h
    rcases h with ⟨i, rfl, q⟩ | ⟨hn, q⟩
    · lcg_src
      refine .inl ⟨i, rfl, ?_⟩
      lcg_src
      refine w_ite (fun h1 => ?_) (fun h1 => ?_)
      · lcg_src
        rw [h1] at q
        exact q
      · rw [h1] at q
        exact q
    · lcg_src
      refine .inr ⟨hn, ?_⟩
      lcg_src
      exact q
abbrev spIsWithinI : Sp := s3 fun v a b H Q _ => ∃ i lo hi, v = .int i ∧ a = .int lo ∧ b = .int hi ∧ Q (.bl (decide (lo ≤ i) && decide (i ≤ hi))) H
theorem ok_is_withinI (T : Tx K mg) : FnR P w K mg base CX0 2 (ad K "is_within") spIsWithinI := (ok_is_within T).imp fun vs H Q E h => by
  obtain ⟨v, a, b, rfl, i, lo, hi, rfl, rfl, rfl, q⟩ := h
  exact ⟨_, _, _, rfl, lo, hi, rfl, rfl, .inl ⟨i, rfl, q⟩⟩
abbrev Num (i : Int) : Prop := 1 ≤ i ∧ i ≤ 10 ^ 30
abbrev spWrongNo (K : Fr0) : Sp := s1 fun v H Q _ => ∃ a i j k, v = .ref a ∧ SqT K H a [.int i, .int j, .int k] ∧ Num i ∧ Num j ∧ Num k ∧ NewT K H [] Q
abbrev N_wrong_number : List Str := ["value", "at", "number"]
abbrev P_wrong_number : List Str := ["value"]
theorem sc_wrong_number : FnScope N_wrong_number P_wrong_number (defScope s_wrong_number) := ⟨rfl, rfl, rfl, by decide +kernel, rfl, by decide +kernel, by decide +kernel⟩
theorem ok_wrong_number (T : Tx K mg) : FnR P w K mg base CX0 3 (ad K "wrong_number") (spWrongNo K) := by
  obtain ⟨fd, F⟩ := T.fd_wrong_number
  refine fnr F (fun _ _ _ _ _ _ us hl => match us, hl with | [_], _ => rfl) sc_wrong_number (fun vs H Q E h => ?_) (fun cdv A outer s H vs Q E hr h => ?_)
  · first | exact l1 h | exact l0 h | exact l2 h | exact l3 h | exact l4 h | exact l5 h | exact l6 h
  · have hu := hu_of hr
    obtain ⟨tk_MOST_SIZE, mc_MOST_SIZE⟩ := T.c_MOST_SIZE
    refine ⟨_, PSs.nox (pss_cons (ps_if (PW.pt (pw_or (pt_not (pt_val (pe_callB call_isi (by rfl) T.f_isinstance boot_isinst (pa_cons (pv 0) (pa_cons (pe_bltn (v := .ty "tuple") (by rfl) T.f_tuple boot_tupleT rfl) pa_nil))))) (pw_or1 (pt_cmpR op_ne (pe_callB call_LenT (by rfl) T.f_len boot_lenB (pa_cons (pv 0) pa_nil)) pe_int (nomark _))))) (pss_one (ps_ret (pe_tupS (pa_cons pe_non pa_nil)))) pss_nil)
      (pss_cons (ps_for PassesOwn.never rfl (pi_enumT (by rfl) T.f_enumerate (pa_cons (pv 0) pa_nil)) (pg_tup (n := 2) rfl (pgs_cons (pg_name (i := 1) sc_wrong_number.nd rfl (Or.inl rfl)) (pgs_cons (pg_name (i := 2) sc_wrong_number.nd rfl (Or.inl rfl)) pgs_nil))) (pss_one (ps_if (pt_not (pt_val (pe_fn (ok_is_withinI T) (hr.mono (by decide)) (by rfl) T.g_is_within T.k_is_within pass0 (pa_cons (pv 2) (pa_cons pe_int (pa_cons (pe_glob (v := .int 1000000000000000000000000000000) rfl mc_MOST_SIZE ⟨_, rfl⟩) pa_nil)))))) (pss_one (ps_ret (pe_tupS (pa_cons (pv 1) pa_nil)))) pss_nil)))
      (pss_one (ps_ret (pe_tupS pa_nil))))), ?_⟩
    try dsimp only [cxOf, Cx.nox, Cx.wish]
    obtain ⟨v, rfl, a, i, j, k, rfl, ha, hi, hj, hk, q⟩ := h
    lcg_src
    refine ForG.enT (K := K) (fun _ σ' H' => Same H H' ∧ ∃ o1 o2, σ' = [some (.ref a), o1, o2]) ⟨Same.refl H, _, _, rfl⟩ (fun _ _ H' p => sm_T p.1 ha) (fun m x σ' H1 p H2 hx hp S2 hp2 => ?_) (fun σ' H1 hp => ?_)
    · obtain ⟨S1, o1, o2, rfl⟩ := hp
      have hn : ∃ n, x = .int n ∧ Num n := by
        match m, hx with
        | 0, hx => exact ⟨i, (Option.some.inj hx).symm, hi⟩
        | 1, hx => exact ⟨j, (Option.some.inj hx).symm, hj⟩
        | 2, hx => exact ⟨k, (Option.some.inj hx).symm, hk⟩
      obtain ⟨n, rfl, hn1, hn2⟩ := hn
      lcg_src
      have e1 : decide (1 ≤ n) = true := decide_eq_true hn1
      have e2 : decide (n ≤ 1000000000000000000000000000000) = true := decide_eq_true (by omega)
      rw [e1, e2]
      lcg_src
      exact ⟨S1.trans S2, _, _, rfl⟩
    · obtain ⟨S1, o1, o2, rfl⟩ := hp
      lcg_src
      exact q _ _ (by kas_types) (by assumption)
abbrev spIsHears (K : Fr0) : Sp := s1 fun v H Q _ => ∃ he, HeV K H v he ∧ he.ok ∧ ∀ H', Same H H' → Q (.bl true) H'
abbrev N_is_hears : List Str := ["value"]
abbrev P_is_hears : List Str := ["value"]
theorem sc_is_hears : FnScope N_is_hears P_is_hears (defScope s_is_hears) := ⟨rfl, rfl, rfl, by decide +kernel, rfl, by decide +kernel, by decide +kernel⟩
theorem ok_is_hears (T : Tx K mg) : FnR P w K mg base CX0 3 (ad K "is_hears") (spIsHears K) := by
  obtain ⟨fd, F⟩ := T.fd_is_hears
  refine fnr F (fun _ _ _ _ _ _ us hl => match us, hl with | [_], _ => rfl) sc_is_hears (fun vs H Q E h => ?_) (fun cdv A outer s H vs Q E hr h => ?_)
  · first | exact l1 h | exact l0 h | exact l2 h | exact l3 h | exact l4 h | exact l5 h | exact l6 h
  · have hu := hu_of hr
    obtain ⟨tk_EACH, mc_EACH⟩ := T.c_EACH
    obtain ⟨tk_MISSES, mc_MISSES⟩ := T.c_MISSES
    obtain ⟨tk_MOST_SIZE, mc_MOST_SIZE⟩ := T.c_MOST_SIZE
    obtain ⟨tk_MOVED, mc_MOVED⟩ := T.c_MOVED
    refine ⟨_, PSs.nox (pss_cons (ps_if (pt_val (pe_callB call_isi (by rfl) T.f_isinstance boot_isinst (pa_cons (pv 0) (pa_cons (pe_bltn (v := .ty "tuple") (by rfl) T.f_tuple boot_tupleT rfl) pa_nil)))) (pss_one (ps_ret (pe_and (pe_cmpR op_eq (pe_callB call_LenT (by rfl) T.f_len boot_lenB (pa_cons (pv 0) pa_nil)) pe_int (nomark _)) (pe_and (pe_cmpR op_eq (pe_ix ix_tup (pv 0) pe_int (fun _ _ => rfl)) (pe_glob (v := .str "each") rfl mc_EACH ⟨_, rfl⟩) (nomark _)) (pe_one (pe_fn (ok_is_withinI T) (hr.mono (by decide)) (by rfl) T.g_is_within T.k_is_within pass0 (pa_cons (pe_ix ix_tup (pv 0) pe_int (fun _ _ => rfl)) (pa_cons pe_int (pa_cons (pe_glob (v := .int 1000000000000000000000000000000) rfl mc_MOST_SIZE ⟨_, rfl⟩) pa_nil))))))))) pss_nil)
      (pss_one (ps_ret (pe_cmpR op_in_seq (pv 0) (pe_tupS (pa_cons (pe_glob (v := .str "misses") rfl mc_MISSES ⟨_, rfl⟩) (pa_cons (pe_glob (v := .str "moved") rfl mc_MOVED ⟨_, rfl⟩) pa_nil))) (by rfl))))), ?_⟩
    try dsimp only [cxOf, Cx.nox, Cx.wish]
    obtain ⟨v, rfl, he, hv, ok, q⟩ := h
    cases he with
    | misses =>
      cases hv
      lcg_src
      exact q _ (by kas_types)
    | moved =>
      cases hv
      lcg_src
      exact q _ (by kas_types)
    | each n =>
      cases hv with
      | tup ha hx =>
        cases hx with
        | cons h1 hx =>
          cases h1
          cases hx with
          | cons h2 hx =>
            cases h2
            cases hx
            lcg_src
            obtain ⟨n0, n1⟩ := ok
            have e1 : decide (0 ≤ n) = true := decide_eq_true n0
            have e2 : decide (n ≤ 1000000000000000000000000000000) = true := decide_eq_true (by omega)
            rw [e1, e2]
            exact q _ (by kas_types)
abbrev spGet (f : Str) : Sp := s1 fun v H Q _ => ∃ a C dx fs x, v = .ref a ∧ H a = some (.ins C dx fs) ∧ fs.lookup f = some x ∧ Q x H
abbrev spTop (K : Fr0) : Sp := s1 fun v H Q _ => ∃ a dx u l h, v = .ref a ∧ H a = some (.ins (ad K "Pair") dx (pairF u l h)) ∧ Q u H
abbrev spBottom (K : Fr0) : Sp := s1 fun v H Q _ => ∃ a dx u l h, v = .ref a ∧ H a = some (.ins (ad K "Pair") dx (pairF u l h)) ∧ Q l H
abbrev spHearsP (K : Fr0) : Sp := s1 fun v H Q _ => ∃ a dx u l h, v = .ref a ∧ H a = some (.ins (ad K "Pair") dx (pairF u l h)) ∧ Q h H
abbrev N_Pair_top : List Str := ["self"]
abbrev P_Pair_top : List Str := ["self"]
theorem sc_Pair_top : FnScope N_Pair_top P_Pair_top (defScope s_Pair_top) := ⟨rfl, rfl, rfl, by decide +kernel, rfl, by decide +kernel, by decide +kernel⟩
theorem ok_Pair_top (T : Tx K mg) : FnR P w K mg base CX0 1 (ag K "Pair" "top") (spTop K) := by
  obtain ⟨fd, F⟩ := T.fd_Pair_top
  refine fnr F (fun _ _ _ _ _ _ us hl => match us, hl with | [_], _ => rfl) sc_Pair_top (fun vs H Q E h => ?_) (fun cdv A outer s H vs Q E hr h => ?_)
  · first | exact l1 h | exact l0 h | exact l2 h | exact l3 h | exact l4 h | exact l5 h | exact l6 h
  · have hu := hu_of hr
    refine ⟨_, PSs.nox (pss_one (ps_ret (pe_fld (pv 0) rfl))), ?_⟩
    try dsimp only [cxOf, Cx.nox, Cx.wish]
    obtain ⟨v, rfl, a, dx, u, l, h, rfl, ha, q⟩ := h
    have c := T.cl_Pair
    have c2 := T.na_Pair_front
    lcg_src
    exact q
abbrev N_Pair_bottom : List Str := ["self"]
abbrev P_Pair_bottom : List Str := ["self"]
theorem sc_Pair_bottom : FnScope N_Pair_bottom P_Pair_bottom (defScope s_Pair_bottom) := ⟨rfl, rfl, rfl, by decide +kernel, rfl, by decide +kernel, by decide +kernel⟩
theorem ok_Pair_bottom (T : Tx K mg) : FnR P w K mg base CX0 1 (ag K "Pair" "bottom") (spBottom K) := by
  obtain ⟨fd, F⟩ := T.fd_Pair_bottom
  refine fnr F (fun _ _ _ _ _ _ us hl => match us, hl with | [_], _ => rfl) sc_Pair_bottom (fun vs H Q E h => ?_) (fun cdv A outer s H vs Q E hr h => ?_)
  · first | exact l1 h | exact l0 h | exact l2 h | exact l3 h | exact l4 h | exact l5 h | exact l6 h
  · have hu := hu_of hr
    refine ⟨_, PSs.nox (pss_one (ps_ret (pe_fld (pv 0) rfl))), ?_⟩
    try dsimp only [cxOf, Cx.nox, Cx.wish]
    obtain ⟨v, rfl, a, dx, u, l, h, rfl, ha, q⟩ := h
    have c := T.cl_Pair
    have c2 := T.na_Pair_back
    lcg_src
    exact q
abbrev N_Pair_hears : List Str := ["self"]
abbrev P_Pair_hears : List Str := ["self"]
theorem sc_Pair_hears : FnScope N_Pair_hears P_Pair_hears (defScope s_Pair_hears) := ⟨rfl, rfl, rfl, by decide +kernel, rfl, by decide +kernel, by decide +kernel⟩
theorem ok_Pair_hears (T : Tx K mg) : FnR P w K mg base CX0 1 (ag K "Pair" "hears") (spHearsP K) := by
  obtain ⟨fd, F⟩ := T.fd_Pair_hears
  refine fnr F (fun _ _ _ _ _ _ us hl => match us, hl with | [_], _ => rfl) sc_Pair_hears (fun vs H Q E h => ?_) (fun cdv A outer s H vs Q E hr h => ?_)
  · first | exact l1 h | exact l0 h | exact l2 h | exact l3 h | exact l4 h | exact l5 h | exact l6 h
  · have hu := hu_of hr
    refine ⟨_, PSs.nox (pss_one (ps_ret (pe_fld (pv 0) rfl))), ?_⟩
    try dsimp only [cxOf, Cx.nox, Cx.wish]
    obtain ⟨v, rfl, a, dx, u, l, h, rfl, ha, q⟩ := h
    have c := T.cl_Pair
    have c2 := T.na_Pair_notes
    lcg_src
    exact q
abbrev spPairInit (K : Fr0) : Sp := s4 fun p u l hv H Q _ => ∃ x d b c du, p = .ref x ∧ u = .ref b ∧ l = .ref c ∧ H x = some (.ins (ad K "Pair") d []) ∧ SqT K H b [.int du.us, .int du.uw, .int du.ub] ∧ SqT K H c [.int du.ls, .int du.lw, .int du.lb] ∧ HeV K H hv du.he ∧ Duo.ok du ∧
  ∀ H', Chg x H H' → H' x = some (.ins (ad K "Pair") d (pairF (.ref b) (.ref c) hv)) → Q .non H'
abbrev N_Pair_init : List Str := ["self", "upper", "lower", "hears", "wrong"]
abbrev P_Pair_init : List Str := ["self", "upper", "lower", "hears"]
theorem sc_Pair_init : FnScope N_Pair_init P_Pair_init (defScope s_Pair_init) := ⟨rfl, rfl, rfl, by decide +kernel, rfl, by decide +kernel, by decide +kernel⟩
theorem okk_Pair_init (T : Tx K mg) : ∃ fd, FunD K "__init__" "Pair.__init__" (defArgs s_Pair_init) (defBody s_Pair_init) (defScope s_Pair_init) [.str "misses"] [] (am K "Pair" "__init__") fd ∧ FnOk P w K mg base CX0 4 (am K "Pair" "__init__") fd P_Pair_init (spPairInit K) := by
  obtain ⟨fd, F⟩ := T.fd_Pair_init
  refine ⟨fd, F, F.ok sc_Pair_init (fun vs H Q E h => ?_) (fun cdv A outer s H vs Q E hr h => ?_)⟩
  · first | exact l1 h | exact l0 h | exact l2 h | exact l3 h | exact l4 h | exact l5 h | exact l6 h
  · have hu := hu_of hr
    refine ⟨_, PSs.nox (pss_cons (ps_set (i := 4) sc_Pair_init.nd rfl (Or.inl rfl) (pe_fn (ok_wrong_number T) (hr.mono (by decide)) (by rfl) T.g_wrong_number T.k_wrong_number pass0 (pa_cons (pv 1) pa_nil)))
      (pss_cons (ps_if (pt_cmpR (op_neD hr.units) (pv 4) (pe_tupS pa_nil) (nomark _)) (pss_one ps_never) pss_nil)
      (pss_cons (ps_set (i := 4) sc_Pair_init.nd rfl (Or.inl rfl) (pe_fn (ok_wrong_number T) (hr.mono (by decide)) (by rfl) T.g_wrong_number T.k_wrong_number pass0 (pa_cons (pv 2) pa_nil)))
      (pss_cons (ps_if (pt_cmpR (op_neD hr.units) (pv 4) (pe_tupS pa_nil) (nomark _)) (pss_one ps_never) pss_nil)
      (pss_cons (ps_if (pt_cmpR op_ne (pe_op op_mod (pe_ix ix_tup (pv 2) pe_int (fun _ _ => rfl)) (pe_ix ix_tup (pv 1) pe_int (fun _ _ => rfl))) pe_int (nomark _)) (pss_one ps_never) pss_nil)
      (pss_cons (ps_if (pt_not (pt_val (pe_fn (ok_is_hears T) (hr.mono (by decide)) (by rfl) T.g_is_hears T.k_is_hears pass0 (pa_cons (pv 3) pa_nil)))) (pss_one ps_never) pss_nil)
      (pss_cons (ps_fldS (pv 0) (pv 1) rfl)
      (pss_cons (ps_fldS (pv 0) (pv 2) rfl)
      (pss_one (ps_fldS (pv 0) (pv 3) rfl)))))))))), ?_⟩
    try dsimp only [cxOf, Cx.nox, Cx.wish]
    obtain ⟨p, u, l, hv, rfl, x, d, b, c, du, rfl, rfl, rfl, hx, hb, hc, hh, ok, q⟩ := h
    have c0 := T.cl_Pair
    have c1 := T.na_Pair_front
    have c2 := T.na_Pair_back
    have c3 := T.na_Pair_notes
    have n1 : Num du.us := ⟨ok.us.1, by have := ok.us.2; omega⟩
    have n2 : Num du.uw := ⟨ok.uw.1, by have := ok.uw.2; omega⟩
    have n3 : Num du.ub := ⟨ok.ub.1, by have := ok.ub.2; omega⟩
    have n4 : Num du.ls := ⟨ok.ls.1, by have := ok.ls.2; omega⟩
    have n5 : Num du.lw := ⟨ok.lw.1, by have := ok.lw.2; omega⟩
    have n6 : Num du.lb := ⟨ok.lb.1, by have := ok.lb.2; omega⟩
    have oh := ok.he
    lcg_src
    rw [ok.dv]
    lcg_src
    exact q _ (by kpf_close) (by assumption)
theorem ok_Pair_init (T : Tx K mg) : FnR P w K mg base CX0 4 (am K "Pair" "__init__") (spPairInit K) := by
  obtain ⟨fd, F, G⟩ := okk_Pair_init T
  obtain ⟨ds, hv, hB⟩ := (F.binds1 (ps := P_Pair_init) 4 1 (by decide) rfl fun _ _ _ _ _ _ _ us its hl hi => match us, its, hl, hi with | [_, _, _, _], [_], _, _ => ⟨_, rfl, by with_unfolding_all rfl⟩)
  exact (FnOk.raw G hB hv).imp fun vs H Q E h => by
    show ((spPairInit K)) (vs ++ []) H Q E
    rw [List.append_nil]
    exact h
theorem ok_Pair_init1 (T : Tx K mg) : FnR P w K mg base CX0 4 (am K "Pair" "__init__") (fun vs H Q E => ((spPairInit K)) (vs ++ [.str "misses"]) H Q E) := by
  obtain ⟨fd, F, G⟩ := okk_Pair_init T
  obtain ⟨ds, hv, hB⟩ := (F.binds1 (ps := P_Pair_init) 3 0 (by decide) rfl fun _ _ _ _ _ _ _ us its hl hi => match us, its, hl, hi with | [_, _, _], [_], _, _ => ⟨_, rfl, by with_unfolding_all rfl⟩)
  exact FnOk.raw G hB hv
abbrev spPairOf (K : Fr0) : Sp := s1 fun d H Q _ => ∃ du, DuoV K H d du ∧ Duo.ok du ∧ ∀ v H', Same H H' → PairV K H' v du → Q v H'
abbrev N_q_pair : List Str := ["_law_duo_here"]
abbrev P_q_pair : List Str := ["_law_duo_here"]
theorem sc_q_pair : FnScope N_q_pair P_q_pair (defScope s_q_pair) := ⟨rfl, rfl, rfl, by decide +kernel, rfl, by decide +kernel, by decide +kernel⟩
theorem ok_q_pair (T : Tx K mg) : FnR P w K mg base CX0 6 (ad K "_law_pair") (spPairOf K) := by
  obtain ⟨fd, F⟩ := T.fd_q_pair
  refine fnr F (fun _ _ _ _ _ _ us hl => match us, hl with | [_], _ => rfl) sc_q_pair (fun vs H Q E h => ?_) (fun cdv A outer s H vs Q E hr h => ?_)
  · first | exact l1 h | exact l0 h | exact l2 h | exact l3 h | exact l4 h | exact l5 h | exact l6 h
  · have hu := hu_of hr
    refine ⟨_, PSs.nox (pss_one (ps_ret (pe_mkS T.mk_Pair (ok_Pair_init T) (hr.mono (by decide)) (by rfl) T.g_Pair (pa_cons (pe_ix ix_tup (pv 0) pe_int (fun _ _ => rfl)) (pa_cons (pe_ix ix_tup (pv 0) pe_int (fun _ _ => rfl)) (pa_cons (pe_ix ix_tup (pv 0) pe_int (fun _ _ => rfl)) pa_nil)))))), ?_⟩
    try dsimp only [cxOf, Cx.nox, Cx.wish]
    obtain ⟨d, rfl, du, hd, ok, q⟩ := h
    obtain ⟨b, u, l, hv, rfl, hb, hu1, hl, hh⟩ := hd.open
    lcg_src
    exact q _ _ (by kas_types) ⟨_, _, _, _, _, rfl, by lcg_sub, by lcg_sub, by lcg_sub, by lcg_sub⟩
abbrev spTells (K : Fr0) : Sp := s3 fun h n s H Q _ => ∃ he b i, HeV K H h he ∧ n = .bl b ∧ s = .int i ∧ ∀ H', Same H H' → Q (.bl (match he with | .misses => false | .moved => !b | .each m => decide (m ≤ i))) H'
abbrev N_q_tells : List Str := ["_law_hears_here", "_law_is_newest", "_law_since"]
abbrev P_q_tells : List Str := ["_law_hears_here", "_law_is_newest", "_law_since"]
theorem sc_q_tells : FnScope N_q_tells P_q_tells (defScope s_q_tells) := ⟨rfl, rfl, rfl, by decide +kernel, rfl, by decide +kernel, by decide +kernel⟩
theorem ok_q_tells (T : Tx K mg) : FnR P w K mg base CX0 1 (ad K "_law_tells") (spTells K) := by
  obtain ⟨fd, F⟩ := T.fd_q_tells
  refine fnr F (fun _ _ _ _ _ _ us hl => match us, hl with | [_, _, _], _ => rfl) sc_q_tells (fun vs H Q E h => ?_) (fun cdv A outer s H vs Q E hr h => ?_)
  · first | exact l1 h | exact l0 h | exact l2 h | exact l3 h | exact l4 h | exact l5 h | exact l6 h
  · have hu := hu_of hr
    refine ⟨_, PSs.nox (pss_cons (ps_if (pt_cmpR (op_eqD hr.units) (pv 0) pe_str (nomark _)) (pss_one (ps_ret pe_bl)) pss_nil)
      (pss_one (ps_ret (pe_ifExp (pt_cmpR (op_eqD hr.units) (pv 0) pe_str (nomark _)) (pe_not (pv 1)) (pe_cmpR op_ge (pv 2) (pe_ix ix_tup (pv 0) pe_int (fun _ _ => rfl)) (nomark _)))))), ?_⟩
    try dsimp only [cxOf, Cx.nox, Cx.wish]
    obtain ⟨h, n, s, rfl, he, b, i, hh, rfl, rfl, q⟩ := h
    cases he with
    | misses =>
      cases hh
      lcg_src
      exact q _ (by kas_types)
    | moved =>
      cases hh
      lcg_src
      exact q _ (by kas_types)
    | each n =>
      cases hh with
      | tup ha hx =>
        cases hx with
        | cons h1 hx =>
          cases h1
          cases hx with
          | cons h2 hx =>
            cases h2
            cases hx
            lcg_src
            exact q _ (by kas_types)
end
end
section
/-! The defs, part B: a run. -/
open PySem PySem.Spec PyProof.Rows L2
section
variable {P : Program} {w : World} {K : Fr0} {mg : Str → Option Value} {base : Heap}
/-- the fields of a run's object that its questions read -/
abbrev RunOb (K : Fr0) (H : Hp) (a : Addr) (r : RA) (pv : V) (tk : Bool) (nt gn : Nat) : Prop := H a = some (.ins (ad K "Run") r.dx (runF pv tk r nt gn))
abbrev spBelow (K : Fr0) : Sp := s2 fun s p H Q _ => ∃ a r pv tk nt gn du x, s = .ref a ∧ p = .int x ∧ RunOb K H a r pv tk nt gn ∧ PairV K H pv du ∧ Duo.ok du ∧ Big x ∧ ∀ H', Same H H' → Q (.int (lowOf du x)) H'
abbrev N_Run_below : List Str := ["self", "piece"]
abbrev P_Run_below : List Str := ["self", "piece"]
theorem sc_Run_below : FnScope N_Run_below P_Run_below (defScope s_Run_below) := ⟨rfl, rfl, rfl, by decide +kernel, rfl, by decide +kernel, by decide +kernel⟩
theorem ok_Run_below (T : Tx K mg) : FnR P w K mg base CX0 3 (am K "Run" "below") (spBelow K) := by
  obtain ⟨fd, F⟩ := T.fd_Run_below
  refine fnr F (fun _ _ _ _ _ _ us hl => match us, hl with | [_, _], _ => rfl) sc_Run_below (fun vs H Q E h => ?_) (fun cdv A outer s H vs Q E hr h => ?_)
  · first | exact l1 h | exact l0 h | exact l2 h | exact l3 h | exact l4 h | exact l5 h | exact l6 h
  · have hu := hu_of hr
    refine ⟨_, PSs.nox (pss_one (ps_ret (pe_op op_fdivW (pe_op op_mulW (pv 1) (pe_ix ix_tup (pe_pr (pe_fld (pv 0) rfl) T.cl_Pair T.pr_Pair_top (ok_Pair_top T) (hr.mono (by decide))) pe_int (fun _ _ => rfl))) (pe_ix ix_tup (pe_pr (pe_fld (pv 0) rfl) T.cl_Pair T.pr_Pair_bottom (ok_Pair_bottom T) (hr.mono (by decide))) pe_int (fun _ _ => rfl))))), ?_⟩
    try dsimp only [cxOf, Cx.nox, Cx.wish]
    obtain ⟨s, p, rfl, a, r, pv, tk, nt, gn, du, x, rfl, rfl, ho, ⟨pa, pdx, b, c, hv, rfl, h1, h2, h3, h4⟩, ok, ⟨hx0, hx1⟩, q⟩ := h
    have c0 := T.cl_Run
    have c1 := T.na_Run_duo
    have o1 := ok.ub
    have o2 := ok.lb
    lcg_src
    exact q _ (by kas_types)
abbrev spKeeps (K : Fr0) : Sp := s2 fun s p H Q _ => ∃ av a r pv tk nt gn st du x, s = .ref a ∧ p = .int x ∧ RunOb K H a r pv tk nt gn ∧ TopsR av H r.t st.tops ∧ TopsR av H r.l st.lows ∧ PairV K H pv du ∧ Duo.ok du ∧ ∀ z H', Same H H' → SqT K H' z [.bl (isHit du st x), .bl (hits du (lowP du x) st)] → Q (.ref z) H'
abbrev N_Run_keeps : List Str := ["self", "place", "piece", "low", "above"]
abbrev P_Run_keeps : List Str := ["self", "place"]
theorem sc_Run_keeps : FnScope N_Run_keeps P_Run_keeps (defScope s_Run_keeps) := ⟨rfl, rfl, rfl, by decide +kernel, rfl, by decide +kernel, by decide +kernel⟩
theorem ok_Run_keeps (T : Tx K mg) : FnR P w K mg base CX0 3 (am K "Run" "keeps") (spKeeps K) := by
  obtain ⟨fd, F⟩ := T.fd_Run_keeps
  refine fnr F (fun _ _ _ _ _ _ us hl => match us, hl with | [_, _], _ => rfl) sc_Run_keeps (fun vs H Q E h => ?_) (fun cdv A outer s H vs Q E hr h => ?_)
  · first | exact l1 h | exact l0 h | exact l2 h | exact l3 h | exact l4 h | exact l5 h | exact l6 h
  · have hu := hu_of hr
    refine ⟨_, PSs.nox (pss_cons (ps_par (by rfl) sc_Run_keeps.nd (i := 2) (j := 3) rfl rfl (by decide) rfl rfl (pa_cons (pe_op op_fdivW (pv 1) (pe_ix ix_tup (pe_pr (pe_fld (pv 0) rfl) T.cl_Pair T.pr_Pair_top (ok_Pair_top T) (hr.mono (by decide))) pe_int (fun _ _ => rfl))) (pa_cons (pe_op op_fdivW (pv 1) (pe_ix ix_tup (pe_pr (pe_fld (pv 0) rfl) T.cl_Pair T.pr_Pair_bottom (ok_Pair_bottom T) (hr.mono (by decide))) pe_int (fun _ _ => rfl))) pa_nil)) (by rfl))
      (pss_cons (ps_set (i := 4) sc_Run_keeps.nd rfl (Or.inl rfl) (pe_cmpR op_in_seq (pv 2) (pe_dget2 hu (pe_fld (pv 0) rfl) (pe_op op_mod (pv 2) (pe_ix ix_tup (pe_pr (pe_fld (pv 0) rfl) T.cl_Pair T.pr_Pair_top (ok_Pair_top T) (hr.mono (by decide))) pe_int (fun _ _ => rfl))) (pe_lstS pa_nil) ⟨by rfl, by rfl, by rfl, by rfl⟩) (by rfl)))
      (pss_one (ps_ret (pe_tupS (pa_cons (pv 4) (pa_cons (pe_cmpR op_in_seq (pv 3) (pe_dget2 hu (pe_fld (pv 0) rfl) (pe_op op_mod (pv 3) (pe_ix ix_tup (pe_pr (pe_fld (pv 0) rfl) T.cl_Pair T.pr_Pair_bottom (ok_Pair_bottom T) (hr.mono (by decide))) pe_int (fun _ _ => rfl))) (pe_lstS pa_nil) ⟨by rfl, by rfl, by rfl, by rfl⟩) (by rfl)) pa_nil))))))), ?_⟩
    try dsimp only [cxOf, Cx.nox, Cx.wish]
    obtain ⟨s, p, rfl, av, a, r, pv, tk, nt, gn, st, du, x, rfl, rfl, ho, ht1, ht2, ⟨pa, pdx, b, c, hv, rfl, h1, h2, h3, h4⟩, ok, q⟩ := h
    have c0 := T.cl_Run
    have c1 := T.na_Run_duo
    have c2 := T.na_Run_tops
    have c3 := T.na_Run_lows
    have o1 := ok.ub
    have o2 := ok.lb
    have o3 := ok.us
    have o4 := ok.ls
    have i1 := ht1.isD
    have i2 := ht2.isD
    lcg_src
    refine topsR_getD (ht1.same (by kas_types)) (by assumption) fun l hl => ?_
    lcg_src
    refine topsR_getD (ht2.same (by kas_types)) (by assumption) fun l hl => ?_
    lcg_src
    rename_i z H5 S5 hz
    rw [inV_ints, inV_ints] at hz
    exact q _ _ (by kas_types) hz
abbrev spTellsP (K : Fr0) : Sp := s3 fun s p t H Q _ => ∃ av a r pv tk st du x k, s = .ref a ∧ p = .int x ∧ t = .int k ∧ RunAt K av H a r pv tk st ∧ PairV K H pv du ∧ Duo.ok du ∧ (getA st.heard x).isSome = true ∧ (getA st.newest k).isSome = true ∧ ∀ H', Same H H' → Q (.bl (tellsM du st x k)) H'
abbrev N_Run_tells : List Str := ["self", "piece", "at", "hears"]
abbrev P_Run_tells : List Str := ["self", "piece", "at"]
theorem sc_Run_tells : FnScope N_Run_tells P_Run_tells (defScope s_Run_tells) := ⟨rfl, rfl, rfl, by decide +kernel, rfl, by decide +kernel, by decide +kernel⟩
theorem ok_Run_tells (T : Tx K mg) : FnR P w K mg base CX0 3 (am K "Run" "tells") (spTellsP K) := by
  obtain ⟨fd, F⟩ := T.fd_Run_tells
  refine fnr F (fun _ _ _ _ _ _ us hl => match us, hl with | [_, _, _], _ => rfl) sc_Run_tells (fun vs H Q E h => ?_) (fun cdv A outer s H vs Q E hr h => ?_)
  · first | exact l1 h | exact l0 h | exact l2 h | exact l3 h | exact l4 h | exact l5 h | exact l6 h
  · have hu := hu_of hr
    obtain ⟨tk_MISSES, mc_MISSES⟩ := T.c_MISSES
    obtain ⟨tk_MOVED, mc_MOVED⟩ := T.c_MOVED
    refine ⟨_, PSs.nox (pss_cons (ps_set (i := 3) sc_Run_tells.nd rfl (Or.inl rfl) (pe_pr (pe_fld (pv 0) rfl) T.cl_Pair T.pr_Pair_hears (ok_Pair_hears T) (hr.mono (by decide))))
      (pss_cons (ps_if (pt_cmpR (op_eqD hr.units) (pv 3) (pe_glob (v := .str "misses") rfl mc_MISSES ⟨_, rfl⟩) (nomark _)) (pss_one (ps_ret pe_bl)) pss_nil)
      (pss_cons (ps_if (pt_cmpR (op_eqD hr.units) (pv 3) (pe_glob (v := .str "moved") rfl mc_MOVED ⟨_, rfl⟩) (nomark _)) (pss_one (ps_ret (pe_cmpR op_ne (pe_dget hu (pe_fld (pv 0) rfl) (pv 2) (fun _ _ => rfl)) (pv 1) (nomark _)))) pss_nil)
      (pss_one (ps_ret (pe_cmpR op_ge (pe_op op_sub (pe_dget2 hu (pe_fld (pv 0) rfl) (pv 2) pe_int ⟨by rfl, by rfl, by rfl, by rfl⟩) (pe_dget hu (pe_fld (pv 0) rfl) (pv 1) (fun _ _ => rfl))) (pe_ix ix_tup (pv 3) pe_int (fun _ _ => rfl)) (nomark _))))))), ?_⟩
    try dsimp only [cxOf, Cx.nox, Cx.wish]
    obtain ⟨s, p, t, rfl, av, a, r, pv, tk, st, du, x, k, rfl, rfl, rfl, hr1, ⟨pa, pdx, b, c, hv, rfl, h1, h2, h3, h4⟩, ok, e1, e2, q⟩ := h
    have c0 := T.cl_Run
    have c1 := T.na_Run_duo
    have c2 := T.na_Run_newest
    have c3 := T.na_Run_missed
    have c4 := T.na_Run_heard
    have ho := hr1.ob
    have i1 := hr1.missed.isD
    cases e : du.he with
    | misses =>
      rw [e] at h4
      cases h4
      lcg_src
      have e3 : tellsM du st x k = false := by
        unfold tellsM
        rw [e]
      rw [e3] at q
      exact q _ (by kas_types)
    | moved =>
      rw [e] at h4
      cases h4
      obtain ⟨nv, en⟩ := Option.isSome_iff_exists.mp e2
      lcg_src
      refine nums_get hr1.newest en ?_
      lcg_src
      have e3 : tellsM du st x k = !decide (nv = x) := by
        unfold tellsM
        rw [e, en]
        show (!decide (some nv = some x)) = _
        congr 1
        exact decide_eq_decide.mpr ⟨fun z => Option.some.inj z, fun z => congrArg some z⟩
      rw [e3] at q
      have e4 : decide (V.int nv = V.int x) = decide (nv = x) := decide_eq_decide.mpr ⟨fun z => V.int.inj z, fun z => congrArg V.int z⟩
      rw [e4]
      exact q _ (by kas_types)
    | each n =>
      rw [e] at h4
      cases h4 with
      | tup ha hx =>
        cases hx with
        | cons z1 hx =>
          cases z1
          cases hx with
          | cons z2 hx =>
            cases z2
            cases hx
            obtain ⟨hv2, eh⟩ := Option.isSome_iff_exists.mp e1
            lcg_src
            refine nums_getD hr1.missed ?_
            lcg_src
            refine nums_get hr1.heard eh ?_
            lcg_src
            have e3 : tellsM du st x k = decide (n ≤ (getA st.missed k).getD 0 - hv2) := by
              unfold tellsM
              rw [e, eh]
              rfl
            rw [e3] at q
            exact q _ (by kas_types)
abbrev RunPre (K : Fr0) (av : Addr → Prop) (H : Hp) (a : Addr) (r : RA) (pv : V) (tk : Bool) (st : Sh) (du : Duo) (n : Nat) : Prop := RunAt K av H a r pv tk st ∧ PairV K H pv du ∧ Duo.ok du ∧ Good du n st ∧ n ≤ 2000 ∧ FA av H
abbrev spTake (K : Fr0) : Sp := s2 fun s p H Q _ => ∃ av a r pv tk st du n low, s = .ref a ∧ p = .int low ∧ RunPre K av H a r pv tk st du n ∧
  ∀ t' H', (t' = r.t ∨ H t' = none) → Only [a] H H' → RunAt K av H' a { r with t := t' } pv tk (takeBack du low st) → Q .non H'
abbrev N_Run_take_back : List Str := ["self", "low", "found", "many", "at", "row", "piece"]
abbrev P_Run_take_back : List Str := ["self", "low"]
theorem sc_Run_take_back : FnScope N_Run_take_back P_Run_take_back (defScope s_Run_take_back) := ⟨rfl, rfl, rfl, by decide +kernel, rfl, by decide +kernel, by decide +kernel⟩
theorem ok_Run_take_back (T : Tx K mg) : FnR P w K mg base CX0 4 (am K "Run" "take_back") (spTake K) := by
  obtain ⟨fd, F⟩ := T.fd_Run_take_back
  refine fnr F (fun _ _ _ _ _ _ us hl => match us, hl with | [_, _], _ => rfl) sc_Run_take_back (fun vs H Q E h => ?_) (fun cdv A outer s H vs Q E hr h => ?_)
  · first | exact l1 h | exact l0 h | exact l2 h | exact l3 h | exact l4 h | exact l5 h | exact l6 h
  · have hu := hu_of hr
    refine ⟨_, PSs.nox (pss_cons (ps_par (by rfl) sc_Run_take_back.nd (i := 2) (j := 3) rfl rfl (by decide) rfl rfl (pa_cons pe_dicS (pa_cons pe_int pa_nil)) (by rfl))
      (pss_cons (ps_lockS (ps_for PassesOwn.never rfl (pi_items (pe_fld (pv 0) rfl)) (pg_tup (n := 2) rfl (pgs_cons (pg_name (i := 4) sc_Run_take_back.nd rfl (Or.inl rfl)) (pgs_cons (pg_name (i := 5) sc_Run_take_back.nd rfl (Or.inl rfl)) pgs_nil))) (pss_cons (ps_dputS hu (pv 2) (pv 4) (pe_lc (own := [("piece", 6)]) (g := gName 6)  rfl sc_Run_take_back.nd (pi_list (pv 5)) (blkOk_by (N := N_Run_take_back) (sc := defScope s_Run_take_back) (by decide +kernel)) (fun _ _ _ _ _ => (pg_name (i := 6) sc_Run_take_back.nd rfl (Or.inl rfl))) (fun _ _ _ _ _ => (pts_one (pt_cmpR op_ne (pe_mt (pv 0) T.cl_Run T.me_Run_below (ok_Run_below T) (hr.mono (by decide)) pass0 (pa_cons (pv 6) pa_nil)) (pv 1) (nomark _)))) (fun _ _ _ _ _ => (pv 6))) rfl)
      (pss_one (ps_set (i := 3) sc_Run_take_back.nd rfl (Or.inl rfl) (pe_op op_sub (pe_op op_add (pv 3) (pe_callB call_LenL (by rfl) T.f_len boot_lenB (pa_cons (pv 5) pa_nil))) (pe_callB call_LenL (by rfl) T.f_len boot_lenB (pa_cons (pe_dget hu (pv 2) (pv 4) (fun _ _ => rfl)) pa_nil))))))))
      (pss_cons (ps_fldS (pv 0) (pv 2) rfl)
      (pss_one (ps_fldS (pv 0) (pe_op op_add (pe_fld (pv 0) rfl) (pv 3)) rfl))))), ?_⟩
    try dsimp only [cxOf, Cx.nox, Cx.wish]
    obtain ⟨s, p, rfl, av, a, r, pv, tk, st, du, n, low, rfl, rfl, ⟨hr1, ⟨pa, pdx, b, c, hv, rfl, h1, h2, h3, h4⟩, ok, gd, hn, hav⟩, q⟩ := h
    have c0 := T.cl_Run
    have c1 := T.na_Run_tops
    have c2 := T.na_Run_gone
    have ho := hr1.ob
    obtain ⟨as1, hd, hrows⟩ := hr1.tops
    lcg_src
    rename_i p H1 np S1 e1
    have npt : p ≠ r.t := (ne_of_none hd np).symm
    refine ⟨r.t, _, S1 _ _ hd, trivial, fun od Hl Cl el => ?_⟩
    have hol : Hl a = some (.ins (ad K "Run") r.dx (runF (V.ref pa) tk r st.noted st.gone)) := Cl _ _ (ne_tag ho hd rfl) (S1 _ _ ho)
    have hpl : PairV K Hl (.ref pa) du := cg_P Cl (sm_P S1 ⟨pa, pdx, b, c, hv, rfl, h1, h2, h3, h4⟩) (S1 _ _ hd) rfl
    have hrl : RowsAt av Hl as1 st.tops := hrows.imp fun b xs _ z => Cl _ _ (ne_tag z hd rfl) (S1 _ _ z)
    have hfl : FA av Hl := ((hav.same S1).chg Cl ⟨_, el⟩)
    have epl : Hl p = some (.dK []) := Cl _ _ npt e1
    lcg_src
    refine ForG.items (K := K) (fun i σ' H' => (∃ o4 o5 o6, σ' = [some (.ref a), some (.int low), some (.ref p), some (.int (lostN du low (st.tops.take i) : Nat)), o4, o5, o6]) ∧ Chg p Hl H' ∧ TopsAt av H' p (takeTops du low (st.tops.take i)) ∧ FA av H') ⟨⟨_, _, _, rfl⟩, Chg.refl _ _, tops_new epl, hfl⟩ (fun i σ' H' z => z.2.1 _ _ npt.symm el) (fun i k v σ' H2 tp H3 hk hp S3 htp => ?_) (fun σ' H2 hp => ?_)
    · obtain ⟨⟨o4, o5, o6, rfl⟩, C2, T2, F2⟩ := hp
      obtain ⟨key, l, ha1, rfl, rfl⟩ := toK_at hk
      obtain ⟨row, hm, hal, hl⟩ := hrl.at_ ha1
      have hl3 : H3 l = some (.lst (row.map V.int)) := S3 _ _ (C2 _ _ (ne_tag hl epl rfl) hl)
      have ob3 : H3 a = some (.ins (ad K "Run") r.dx (runF (V.ref pa) tk r st.noted st.gone)) := S3 _ _ (C2 _ _ (ne_tag hol epl rfl) hol)
      have pl3 : PairV K H3 (.ref pa) du := sm_P S3 (cg_P C2 hpl epl rfl)
      have T3 := T2.same S3
      have F3 := F2.same S3
      have hrow : ∀ x ∈ row, Big x := gd.bt _ (List.mem_of_getElem? hm)
      have c3 := T.me_Run_below
      lcg_src
      have hw := ok.uw
      have hlen := gd.rt _ (List.mem_of_getElem? hm)
      refine LcG.rowF (row := row) (sq_L hl3) (by simp only at hlen; omega) (fun n => !decide (lowOf du n = low)) (fun n2 H4 Y N hn3 S4 hy hn2 => ?_) (fun D H4 nD S4 hD => ?_)
      · have ob4 := S4 _ _ ob3
        have pl4 := sm_P S4 pl3
        have bg := hrow _ hn3
        lcg_src
        rw [decV]
        refine w_ite (fun e => ?_) (fun e => ?_)
        · lcg_src
          exact hy e _ (by kas_types)
        · exact hn2 e _ (by kas_types)
      · lcg_src
        have T4 := T3.same S4
        have lt : (takeTops du low (st.tops.take i)).length ≤ 5000 := by
          unfold takeTops
          rw [List.length_map, List.length_take]
          have := gd.l1
          omega
        refine tops_put (row := keepRow du low row) T4 hD (F3 _ nD) lt (fun H5 C5 T5 => ?_)
        rw [put_new (by rw [tops_keys]; exact nd_take gd.nt hm), ← tops_take hm] at T5
        have hl5 : H5 l = some (.lst (row.map V.int)) := by
          obtain ⟨kvs, hk4⟩ := T4.has
          exact C5 _ _ (ne_tag (S4 _ _ hl3) hk4 rfl) (S4 _ _ hl3)
        have eg : getA (takeTops du low (st.tops.take (i + 1))) key = some (keepRow du low row) := by
          rw [tops_take hm]
          have e0 : getA (takeTops du low (st.tops.take i)) key = none := by
            cases e : getA (takeTops du low (st.tops.take i)) key with
            | none => rfl
            | some x =>
              have hm2 := List.mem_map_of_mem (f := (·.1)) (getA_mem e)
              rw [tops_keys] at hm2
              exact absurd hm2 (nd_take (p := (key, row)) gd.nt hm)
          rw [get_snoc _ _ _ _ e0, if_pos rfl]
        lcg_src
        refine tops_get (k := key) T5 (by rw [eg]; rfl) (fun l2 _ hl2 => ?_)
        have er : getR (takeTops du low (st.tops.take (i + 1))) key = keepRow du low row := by
          unfold getR
          rw [eg]
          rfl
        rw [er] at hl2
        lcg_src
        have e2 : ((lostN du low (st.tops.take i) : Nat) : Int) + ((row.map V.int).length : Nat) - (((keepRow du low row).map V.int).length : Nat) = (lostN du low (st.tops.take (i + 1)) : Nat) := by
          rw [lost_take hm, List.length_map, List.length_map]
          have := List.length_filter_le (fun x => !decide (lowOf du x = low)) row
          unfold keepRow
          simp only
          omega
        rw [e2]
        exact ⟨⟨_, _, _, rfl⟩, by kpf_close, T5, ((F3.same S4).chg C5 (by obtain ⟨kvs, hk5⟩ := T5.has; exact ⟨_, hk5⟩))⟩
    · obtain ⟨⟨o4, o5, o6, rfl⟩, C2, T2, F2⟩ := hp
      have tk1 : st.tops.take (toK V.ref as1).length = st.tops := by rw [len_toK, hrows.len, List.take_length]
      rw [tk1] at T2 ⊢
      refine ⟨C2 _ _ npt.symm el, fun H3 C3 e3 => ?_⟩
      have ob3 : H3 a = some (.ins (ad K "Run") r.dx (runF (V.ref pa) tk r st.noted st.gone)) := by
        have h2 := C2 _ _ (ne_tag hol epl rfl) hol
        exact C3 _ _ (ne_tag h2 (C2 _ _ npt.symm el) rfl) h2
      lcg_src
      rename_i H4 C4 e4 H5 C5 e5
      obtain ⟨n1, n2, n3, n4, n5, n6, n7, n8, n9, n10⟩ := nd5 hr1.nd
      have hrt2 := C2 _ _ npt.symm el
      have nap : a ≠ p := ne_of_none ho np
      have nta : r.t ≠ a := ne_tag hd ho rfl
      have keep : ∀ b o, b ≠ r.t → b ≠ a → H b = some o → H5 b = some o := fun b o x y z => C5 _ _ y (C4 _ _ y (C3 _ _ x (C2 _ _ (ne_of_none z np) (Cl _ _ x (S1 _ _ z)))))
      have h1t := S1 _ _ hd
      have nm : ∀ {d nm}, NumsAt H d nm → d ≠ r.t → NumsAt H5 d nm := fun z y => keep _ _ y (ne_tag z ho rfl) z
      refine q p H5 (.inr np) (fun b o hb hbo => ?_) ⟨?_, ?_, ?_, nm hr1.heard n2, nm hr1.missed n3, nm hr1.newest n4, mk5 ⟨?_, ?_, ?_, ?_, n5, n6, n7, n8, n9, n10⟩⟩
      · have hba : b ≠ a := fun z => hb (List.mem_singleton.mpr z)
        by_cases hbt : b = r.t
        · subst hbt
          rw [hd] at hbo
          rw [← hbo]
          exact C5 _ _ hba (C4 _ _ hba e3)
        · exact keep b o hbt hba hbo
      · rw [e5]
        rfl
      · have t3 := T2.chg C3 hrt2 rfl npt
        exact (t3.chg C4 ob3 rfl nap.symm).chg C5 e4 rfl nap.symm
      · have t1 := (hr1.lows.same S1).chg Cl h1t rfl n1
        have nlp : r.l ≠ p := by
          obtain ⟨kvs, hk2⟩ := hr1.lows.has
          exact ne_of_none hk2 np
        have nla : r.l ≠ a := by
          obtain ⟨kvs, hk2⟩ := hr1.lows.has
          exact ne_tag hk2 ho rfl
        exact (((t1.chg C2 epl rfl nlp).chg C3 hrt2 rfl n1).chg C4 ob3 rfl nla).chg C5 e4 rfl nla
      · obtain ⟨kvs, hk2⟩ := hr1.lows.has
        exact ne_of_none hk2 np
      · exact ne_of_none hr1.heard np
      · exact ne_of_none hr1.missed np
      · exact ne_of_none hr1.newest np
abbrev spHearM (K : Fr0) : Sp := s2 fun s p H Q _ => ∃ av a r pv tk st du n low, s = .ref a ∧ p = .int low ∧ RunPre K av H a r pv tk st du n ∧
  ∀ t' H', (t' = r.t ∨ H t' = none) → Only [a, r.l] H H' → RunAt K av H' a { r with t := t' } pv tk (hear du tk low st) → FA av H' → Q (.bl (hits du low st)) H'
abbrev N_Run_hear : List Str := ["self", "low", "sets", "ways", "span", "row", "hit", "first", "piece"]
abbrev P_Run_hear : List Str := ["self", "low"]
theorem sc_Run_hear : FnScope N_Run_hear P_Run_hear (defScope s_Run_hear) := ⟨rfl, rfl, rfl, by decide +kernel, rfl, by decide +kernel, by decide +kernel⟩
theorem ok_Run_hear (T : Tx K mg) : FnR P w K mg base CX0 5 (am K "Run" "hear") (spHearM K) := by
  obtain ⟨fd, F⟩ := T.fd_Run_hear
  refine fnr F (fun _ _ _ _ _ _ us hl => match us, hl with | [_, _], _ => rfl) sc_Run_hear (fun vs H Q E h => ?_) (fun cdv A outer s H vs Q E hr h => ?_)
  · first | exact l1 h | exact l0 h | exact l2 h | exact l3 h | exact l4 h | exact l5 h | exact l6 h
  · have hu := hu_of hr
    refine ⟨_, PSs.nox (pss_cons (ps_asg (pe_pr (pe_fld (pv 0) rfl) T.cl_Pair T.pr_Pair_bottom (ok_Pair_bottom T) (hr.mono (by decide))) (pg_tup (n := 3) rfl (pgs_cons (pg_name (i := 2) sc_Run_hear.nd rfl (Or.inl rfl)) (pgs_cons (pg_name (i := 3) sc_Run_hear.nd rfl (Or.inl rfl)) (pgs_cons (pg_name (i := 4) sc_Run_hear.nd rfl (Or.inl rfl)) pgs_nil)))))
      (pss_cons (ps_set (i := 5) sc_Run_hear.nd rfl (Or.inl rfl) (pe_dget2 hu (pe_fld (pv 0) rfl) (pe_op op_mod (pv 1) (pv 2)) (pe_lstS pa_nil) ⟨by rfl, by rfl, by rfl, by rfl⟩))
      (pss_cons (ps_set (i := 6) sc_Run_hear.nd rfl (Or.inl rfl) (pe_cmpR op_in_seq (pv 1) (pv 5) (by rfl)))
      (pss_cons (ps_if (pt_val (pv 6)) (pss_one (ps_setLc (i := 5) (own := [("piece", 8)]) (g := gName 8)  rfl sc_Run_hear.nd rfl rfl (sw_true rfl rfl rfl (by decide +kernel)) (pi_list (pv 5)) (blkOk_by (N := N_Run_hear) (sc := defScope s_Run_hear) (by decide +kernel)) (fun _ _ _ _ _ => (pg_name (i := 8) sc_Run_hear.nd rfl (Or.inl rfl))) (fun _ _ _ _ _ => (pts_one (pt_cmpR op_ne (pv 8) (pv 1) (nomark _)))) (fun _ _ _ _ _ => (pv 8)))) (pss_one (ps_if (pt_cmpR op_eq (pe_callB call_LenL (by rfl) T.f_len boot_lenB (pa_cons (pv 5) pa_nil)) (pv 3) (nomark _)) (pss_cons (ps_par (by rfl) sc_Run_hear.nd (i := 7) (j := 5) rfl rfl (by decide) rfl rfl (pa_cons (pe_ix ix_list (pv 5) pe_int (fun _ _ => rfl)) (pa_cons (pe_slice sl_Ls (pv 5) (po_some pe_int) po_none) pa_nil)) (by rfl))
      (pss_one (ps_if (pt_val (pe_fld (pv 0) rfl)) (pss_one (ps_expr (pe_mt (pv 0) T.cl_Run T.me_Run_take_back (ok_Run_take_back T) (hr.mono (by decide)) pass0 (pa_cons (pv 7) pa_nil)))) pss_nil))) pss_nil)))
      (pss_cons (ps_dputS hu (pe_fld (pv 0) rfl) (pe_op op_mod (pv 1) (pv 2)) (pe_op op_Cats (pv 5) (pe_lstS (pa_cons (pv 1) pa_nil))) rfl)
      (pss_one (ps_ret (pv 6)))))))), ?_⟩
    try dsimp only [cxOf, Cx.nox, Cx.wish]
    obtain ⟨s, p, rfl, av, a, r, pv, tk, st, du, n, low, rfl, rfl, ⟨hr1, hp0, ok, gd, hn, hav⟩, q⟩ := h
    obtain ⟨pa, pdx, b, c, hv, rfl, h1, h2, h3, h4⟩ := id hp0
    have c0 := T.cl_Run
    have c1 := T.na_Run_duo
    have c2 := T.na_Run_lows
    have c3 := T.na_Run_takes_back
    have o4 := ok.ls
    have ho := hr1.ob
    have i2 := hr1.lows.isD
    lcg_src
    refine tops_getD (hr1.lows.same (by kas_types)) (by assumption) fun l hl => ?_
    rename_i p0 G0 n0 S0 e0
    have hl1 := len_getR (k := low % du.ls) gd.rl (by have := ok.lw; omega)
    have hlw := ok.lw
    have fin : ∀ (r' : RA) (st' : Sh) (lr : Addr) (row : List Int) (o7 o8 : Option V) (bb : Bool) (H7 : Hp), RunAt K av H7 a r' (.ref pa) tk st' → FA av H7 → H7 lr = some (.lst (row.map V.int)) → r'.l = r.l → st'.lows.length ≤ 5000 → row.length ≤ 5000 →
        (∀ H', Only [a, r.l] H7 H' → RunAt K av H' a r' (.ref pa) tk { st' with lows := putA st'.lows (low % du.ls) (row ++ [low]) } → FA av H' → Q (.bl bb) H') →
        tSeq (sDPutS (tFld K (tVar 0) "lows") (tOp (rI (fun x j => 0 < j) fun i j => V.int (i % j)) (tVar 1) (tVar 2)) (tOp rCats (tVar 5) (tLstS (tCons (tVar 1) tNil)))) (tRet (tVar 6)) { nx := fun x H' => Q V.non H', rt := Q }
          [some (.ref a), some (.int low), some (.int du.ls), some (.int du.lw), some (.int du.lb), some (.ref lr), some (.bl bb), o7, o8] H7 := by
      intro r' st' lr row o7 o8 bb H7 R7 F7 hr7 el hz hz2 k
      have ob7 := R7.ob
      lcg_src
      refine ⟨by rw [List.length_map]; exact big_len hz2, fun p9 H9 n9 S9 e9 => ?_⟩
      rename_i p8 H8 n8 S8 e8
      lcg_src
      have e10 : H9 p9 = some (.lst ((row ++ [low]).map V.int)) := by rw [e9, List.map_append]; rfl
      have S79 : Same H7 H9 := S8.trans S9
      have F9 := F7.same S79
      refine tops_put (R7.lows.same S79) e10 ((F7.same S8) _ n9) hz (fun H10 C10 T10 => ?_)
      lcg_src
      refine k H10 ((Only.same S79).trans (Only.chg C10 (by rw [el]; simp))) ((R7.same S79).putL C10 T10) (F9.chg C10 ?_)
      obtain ⟨kvs, hk⟩ := T10.has
      exact ⟨_, hk⟩
    have R0 := hr1.same S0
    have F0 := hav.same S0
    have hc : hits du low st = (getR st.lows (low % du.ls)).contains low := rfl
    have l2' := gd.l2
    lcg_src
    rw [inV_ints]
    refine w_ite (fun hh => ?_) (fun hh => ?_)
    · lcg_src
      refine LcG.rowF (row := getR st.lows (low % du.ls)) (sq_L hl) (by omega) (fun n => !decide (n = low)) (fun n2 H4 Y N hn3 S4 hy hn2 => ?_) (fun D H4 nD S4 hD => ?_)
      · lcg_src
        rw [decV]
        refine w_ite (fun e => ?_) (fun e => ?_)
        · lcg_src
          exact hy e _ (by kas_types)
        · exact hn2 e _ (by kas_types)
      · rw [hh]
        have h5 := fin r st D (dropE low (getR st.lows (low % du.ls))) none none true H4 (R0.same S4) (F0.same S4) hD rfl (by omega)
          (by unfold dropE; have := List.length_filter_le (fun y => !decide (y = low)) (getR st.lows (low % du.ls)); omega) (fun H' o1 R1 F1 => ?_)
        · exact h5
        · have e := q r.t H' (.inl rfl) ((Only.same (S0.trans S4)).trans o1)
          unfold hear at e
          rw [if_pos hh, hc, hh] at e
          exact e R1 F1
    · have hTL : ∃ TL : L2.St → Hp → Prop, TL = tSeq (sDPutS (tFld K (tVar 0) "lows") (tOp (rI (fun x j => 0 < j) fun i j => V.int (i % j)) (tVar 1) (tVar 2)) (tOp rCats (tVar 5) (tLstS (tCons (tVar 1) tNil)))) (tRet (tVar 6)) { nx := fun x H' => Q V.non H', rt := Q } := ⟨_, rfl⟩
      obtain ⟨TL, hTL⟩ := hTL
      rw [← hTL] at fin ⊢
      rw [hh]
      have hq2 : hits du low st = false := hh
      rw [hq2] at q
      lcg_src
      rw [decV, List.length_map]
      refine w_ite (fun hf => ?_) (fun hf => ?_)
      · have hf2 : ((getR st.lows (low % du.ls)).length : Int) = du.lw := of_decide_eq_true hf
        obtain ⟨x, rest, er⟩ : ∃ x rest, getR st.lows (low % du.ls) = x :: rest := by
          cases e : getR st.lows (low % du.ls) with
          | nil =>
            rw [e] at hf2
            simp at hf2
            omega
          | cons x rest => exact ⟨x, rest, rfl⟩
        have hle : rest.length ≤ 5000 := by
          rw [er] at hl1
          simp at hl1
          omega
        rw [er] at hl
        lcg_src
        refine w_ixL (sq_L hl) (atI_nat (j := 0) rfl) ?_
        lcg_src
        rename_i p3 H3 n3 S3 e3
        rw [List.map_cons, cut_tail] at e3
        have R3 := R0.same S3
        have F3 := F0.same S3
        have P3 := sm_P (S0.trans S3) hp0
        have hh2 : ¬ ((getR st.lows (low % du.ls)).contains low = true) := by
          rw [hh]
          exact Bool.false_ne_true
        cases tk with
        | true =>
          have pre : RunPre K av H3 a r (.ref pa) true st du n := ⟨R3, P3, ok, gd, hn, F3⟩
          have c5 := T.me_Run_take_back
          lcg_src
          rename_i t4 H4 ht4 o4 R4
          have ht5 : t4 = r.t ∨ H t4 = none := by
            rcases ht4 with z | z
            · exact .inl z
            · exact .inr (free_of z (S0.trans S3))
          have C4 := Only.one o4
          have hp4 := C4 _ _ (ne_tag e3 R3.ob rfl) e3
          refine fin { r with t := t4 } (takeBack du x st) p3 rest (some (.int x)) none false H4 R4 (F3.chg C4 ⟨_, R4.ob⟩) hp4 rfl (by show st.lows.length ≤ 5000; omega) hle (fun H' o1 R1 F1 => ?_)
          have e := q t4 H' ht5 ((Only.same (S0.trans S3)).trans ((Only.chg C4 (by simp)).trans o1))
          unfold hear at e
          rw [if_neg hh2, if_pos hf2, if_pos rfl, er] at e
          exact e R1 F1
        | false =>
          lcg_src
          refine fin r st p3 rest (some (.int x)) none false H3 R3 F3 e3 rfl (by omega) hle (fun H' o1 R1 F1 => ?_)
          have e := q r.t H' (.inl rfl) ((Only.same (S0.trans S3)).trans o1)
          unfold hear at e
          rw [if_neg hh2, if_pos hf2, if_neg Bool.false_ne_true, er] at e
          exact e R1 F1
      · lcg_src
        have hh2 : ¬ ((getR st.lows (low % du.ls)).contains low = true) := by
          rw [hh]
          exact Bool.false_ne_true
        refine fin r st l _ none none false G0 R0 F0 hl rfl (by omega) (by omega) (fun H' o1 R1 F1 => ?_)
        have e := q r.t H' (.inl rfl) ((Only.same S0).trans o1)
        unfold hear at e
        rw [if_neg hh2, if_neg (of_decide_eq_false hf)] at e
        exact e R1 F1
end
end
section
/-! The defs, part C: a run's ask, copies, whole runs. -/
open PySem PySem.Spec PyProof.Rows L2
section
variable {P : Program} {w : World} {K : Fr0} {mg : Str → Option Value} {base : Heap}
abbrev spAsk (K : Fr0) : Sp := s2 fun s p H Q _ => ∃ av a r pv tk st du n x, s = .ref a ∧ p = .int x ∧ RunPre K av H a r pv tk st du n ∧ n ≤ 1000 ∧ Big x ∧
  ∀ t' z H', (t' = r.t ∨ H t' = none) → Only [a, r.t, r.l, r.h, r.m, r.n] H H' → RunAt K av H' a { r with t := t' } pv tk (ask du tk st x) → FA av H' → SqT K H' z [.str (word du st x), .bl (told du st x)] → Q (.ref z) H'
abbrev N_Run_ask : List Str := ["self", "place", "sets", "ways", "span", "piece", "low", "at", "told", "hit", "row", "each"]
abbrev P_Run_ask : List Str := ["self", "place"]
theorem sc_Run_ask : FnScope N_Run_ask P_Run_ask (defScope s_Run_ask) := ⟨rfl, rfl, rfl, by decide +kernel, rfl, by decide +kernel, by decide +kernel⟩
theorem ok_Run_ask (T : Tx K mg) : FnR P w K mg base CX0 6 (am K "Run" "ask") (spAsk K) := by
  obtain ⟨fd, F⟩ := T.fd_Run_ask
  refine fnr F (fun _ _ _ _ _ _ us hl => match us, hl with | [_, _], _ => rfl) sc_Run_ask (fun vs H Q E h => ?_) (fun cdv A outer s H vs Q E hr h => ?_)
  · first | exact l1 h | exact l0 h | exact l2 h | exact l3 h | exact l4 h | exact l5 h | exact l6 h
  · have hu := hu_of hr
    refine ⟨_, PSs.nox (pss_cons (ps_asg (pe_pr (pe_fld (pv 0) rfl) T.cl_Pair T.pr_Pair_top (ok_Pair_top T) (hr.mono (by decide))) (pg_tup (n := 3) rfl (pgs_cons (pg_name (i := 2) sc_Run_ask.nd rfl (Or.inl rfl)) (pgs_cons (pg_name (i := 3) sc_Run_ask.nd rfl (Or.inl rfl)) (pgs_cons (pg_name (i := 4) sc_Run_ask.nd rfl (Or.inl rfl)) pgs_nil)))))
      (pss_cons (ps_asg (pe_tupS (pa_cons (pe_op op_fdivW (pv 1) (pv 4)) (pa_cons (pe_op op_fdivW (pv 1) (pe_ix ix_tup (pe_pr (pe_fld (pv 0) rfl) T.cl_Pair T.pr_Pair_bottom (ok_Pair_bottom T) (hr.mono (by decide))) pe_int (fun _ _ => rfl))) pa_nil))) (pg_tup (n := 2) rfl (pgs_cons (pg_name (i := 5) sc_Run_ask.nd rfl (Or.inr rfl)) (pgs_cons (pg_name (i := 6) sc_Run_ask.nd rfl (Or.inl rfl)) pgs_nil))))
      (pss_cons (ps_set (i := 7) sc_Run_ask.nd rfl (Or.inl rfl) (pe_op op_mod (pv 5) (pv 2)))
      (pss_cons (ps_if (pt_cmpR op_in_seq (pv 5) (pe_dget2 hu (pe_fld (pv 0) rfl) (pv 7) (pe_lstS pa_nil) ⟨by rfl, by rfl, by rfl, by rfl⟩) (by rfl)) (pss_cons (ps_set (i := 8) sc_Run_ask.nd rfl (Or.inl rfl) (pe_mt (pv 0) T.cl_Run T.me_Run_tells (ok_Run_tells T) (hr.mono (by decide)) pass0 (pa_cons (pv 5) (pa_cons (pv 7) pa_nil))))
      (pss_cons (ps_dputS hu (pe_fld (pv 0) rfl) (pv 7) (pe_op op_Cats (pe_lc (own := [("each", 11)]) (g := gName 11)  rfl sc_Run_ask.nd (pi_list (pe_dget hu (pe_fld (pv 0) rfl) (pv 7) (fun _ _ => rfl))) (blkOk_by (N := N_Run_ask) (sc := defScope s_Run_ask) (by decide +kernel)) (fun _ _ _ _ _ => (pg_name (i := 11) sc_Run_ask.nd rfl (Or.inl rfl))) (fun _ _ _ _ _ => (pts_one (pt_cmpR op_ne (pv 11) (pv 5) (nomark _)))) (fun _ _ _ _ _ => (pv 11))) (pe_lstS (pa_cons (pv 5) pa_nil))) rfl)
      (pss_cons (ps_dputS hu (pe_fld (pv 0) rfl) (pv 7) (pv 5) rfl)
      (pss_cons (ps_if (pt_val (pv 8)) (pss_cons (ps_expr (pe_mt (pv 0) T.cl_Run T.me_Run_hear (ok_Run_hear T) (hr.mono (by decide)) pass0 (pa_cons (pv 6) pa_nil)))
      (pss_cons (ps_dputS hu (pe_fld (pv 0) rfl) (pv 5) (pe_dget2 hu (pe_fld (pv 0) rfl) (pv 7) pe_int ⟨by rfl, by rfl, by rfl, by rfl⟩) rfl)
      (pss_one (ps_fldS (pv 0) (pe_op op_add (pe_fld (pv 0) rfl) pe_int) rfl)))) pss_nil)
      (pss_one (ps_ret (pe_tupS (pa_cons pe_str (pa_cons (pv 8) pa_nil))))))))) pss_nil)
      (pss_cons (ps_dputS hu (pe_fld (pv 0) rfl) (pv 7) (pe_op op_add (pe_dget2 hu (pe_fld (pv 0) rfl) (pv 7) pe_int ⟨by rfl, by rfl, by rfl, by rfl⟩) pe_int) rfl)
      (pss_cons (ps_dputS hu (pe_fld (pv 0) rfl) (pv 7) (pv 5) rfl)
      (pss_cons (ps_set (i := 9) sc_Run_ask.nd rfl (Or.inl rfl) (pe_mt (pv 0) T.cl_Run T.me_Run_hear (ok_Run_hear T) (hr.mono (by decide)) pass0 (pa_cons (pv 6) pa_nil)))
      (pss_cons (ps_dputS hu (pe_fld (pv 0) rfl) (pv 5) (pe_dget hu (pe_fld (pv 0) rfl) (pv 7) (fun _ _ => rfl)) rfl)
      (pss_cons (ps_set (i := 10) sc_Run_ask.nd rfl (Or.inl rfl) (pe_dget2 hu (pe_fld (pv 0) rfl) (pv 7) (pe_lstS pa_nil) ⟨by rfl, by rfl, by rfl, by rfl⟩))
      (pss_cons (ps_dputS hu (pe_fld (pv 0) rfl) (pv 7) (pe_op op_Cats (pe_ifExp (pt_cmpR op_eq (pe_callB call_LenL (by rfl) T.f_len boot_lenB (pa_cons (pv 10) pa_nil)) (pv 3) (nomark _)) (pe_slice sl_Ls (pv 10) (po_some pe_int) po_none) (pv 10)) (pe_lstS (pa_cons (pv 5) pa_nil))) rfl)
      (pss_one (ps_ret (pe_tupS (pa_cons (pe_ifExp (pt_val (pv 9)) pe_str pe_str) (pa_cons pe_bl pa_nil))))))))))))))), ?_⟩
    try dsimp only [cxOf, Cx.nox, Cx.wish]
    obtain ⟨s, p, rfl, av, a, r, pv, tk, st, du, n, x, rfl, rfl, ⟨hr1, hp0, ok, gd, hn, hav⟩, hn1, ⟨x0, x1⟩, q⟩ := h
    obtain ⟨pa, pdx, b, c, hv, rfl, h1, h2, h3, h4⟩ := id hp0
    have c0 := T.cl_Run
    have c1 := T.na_Run_duo
    have c2 := T.na_Run_tops
    have c3 := T.na_Run_missed
    have c4 := T.na_Run_newest
    have c5 := T.na_Run_heard
    have c6 := T.na_Run_noted
    have c7 := T.me_Run_tells
    have c8 := T.me_Run_hear
    have o1 := ok.ub
    have o2 := ok.lb
    have o3 := ok.us
    have o4 := ok.ls
    have ho := hr1.ob
    have i1 := hr1.tops.isD
    lcg_src
    refine tops_getD (hr1.tops.same (by kas_types)) (by assumption) fun l hl => ?_
    rename_i p0 G0 S0 e0 p1 G1 n1 S1 e1
    have S01 := S0.trans S1
    have R1 := hr1.same S01
    have P1 := sm_P S01 hp0
    have F1 := hav.same S01
    have ob1 := R1.ob
    have hwd : told du st x = (isHit du st x && tellsM du st (x / du.ub) (x / du.ub % du.us)) := rfl
    have hww : word du st x = if isHit du st x = true then ("upper" : Str) else if hits du (x / du.lb) st = true then ("lower" : Str) else ("none" : Str) := rfl
    have huw := ok.uw
    lcg_src
    rw [inV_ints]
    refine w_ite (fun hh => ?_) (fun hh => ?_)
    · have hit : isHit du st x = true := hh
      obtain ⟨row, er, er2, hm⟩ := hit_mem hit
      obtain ⟨k1, k2, k3⟩ := gd.hs _ (getA_mem er) _ hm
      have hlen := gd.rt _ (getA_mem er)
      have hwr : word du st x = "upper" := by rw [hww, if_pos hit]
      rw [hit, Bool.true_and] at hwd
      lcg_src
      rename_i G2 S2
      have R2 := R1.same S2
      have F2 := F1.same S2
      have ob2 := R2.ob
      refine tops_get R2.tops (by show (getA st.tops (pieceOf du x % du.us)).isSome = true; rw [er]; rfl) (fun l2 _ hl2 => ?_)
      lcg_src
      refine LcG.rowF (row := getR st.tops (x / du.ub % du.us)) (sq_L hl2) (by rw [show getR st.tops (x / du.ub % du.us) = row from er2]; simp only at hlen; omega) (fun n => !decide (n = x / du.ub)) (fun n2 H4 Y N hn3 S4 hy hn2 => ?_) (fun D G3 nD S3 hD => ?_)
      · lcg_src
        rw [decV]
        refine w_ite (fun e => ?_) (fun e => ?_)
        · lcg_src
          exact hy e _ (by kas_types)
        · exact hn2 e _ (by kas_types)
      · have R3 := R2.same S3
        have F3 := F2.same S3
        have ob3 := R3.ob
        lcg_src
        rename_i p4 G4 n4 S4 e4
        have lr : (dropE (x / du.ub) (getR st.tops (x / du.ub % du.us))).length ≤ 5000 := by
          have l1 := List.length_filter_le (fun y => !decide (y = x / du.ub)) (getR st.tops (x / du.ub % du.us))
          have l2 : (getR st.tops (x / du.ub % du.us)).length ≤ 1000 := by
            rw [show getR st.tops (x / du.ub % du.us) = row from er2]
            simp only at hlen
            omega
          unfold dropE
          omega
        refine ⟨by rw [List.length_map]; exact big_len lr, fun p5 G5 n5 S5 e5 => ?_⟩
        have e5' : G5 p5 = some (.lst ((dropE (x / du.ub) (getR st.tops (x / du.ub % du.us)) ++ [x / du.ub]).map V.int)) := by rw [e5, List.map_append]; rfl
        have R5 := (R3.same S4).same S5
        have F4 := F3.same S4
        have F5 := F4.same S5
        have ob5 := R5.ob
        have l1' := gd.l1
        have l3' := gd.l3
        have l4' := gd.l4
        have l5' := gd.l5
        lcg_src
        refine tops_put R5.tops e5' (F4 _ n5) (by omega) (fun G6 C6 T6 => ?_)
        have R6 := R5.putT C6 T6
        have F6 : FA av G6 := F5.chg C6 (by obtain ⟨kvs, hk⟩ := T6.has; exact ⟨_, hk⟩)
        have ob6 := R6.ob
        lcg_src
        refine nums_put R6.newest (by show st.newest.length ≤ 5000; omega) (fun G7 C7 T7 => ?_)
        have R7 := R6.putN C7 T7
        have F7 : FA av G7 := F6.chg C7 ⟨_, T7⟩
        have ob7 := R7.ob
        have P7 : PairV K G7 (.ref pa) du := by
          have p5' := sm_P ((S2.trans S3).trans (S4.trans S5)) P1
          obtain ⟨kvs, hk⟩ := R5.tops.has
          exact cg_P C7 (cg_P C6 p5' hk rfl) R6.newest rfl
        have O7 : Only [a, r.t, r.l, r.h, r.m, r.n] H G7 := (Only.same (S01.trans ((S2.trans S3).trans (S4.trans S5)))).trans ((Only.chg C6 (by simp)).trans (Only.chg C7 (by simp)))
        obtain ⟨s1, hs1⟩ : ∃ s1 : Sh, s1 = { st with tops := putA st.tops (x / du.ub % du.us) (dropE (x / du.ub) (getR st.tops (x / du.ub % du.us)) ++ [x / du.ub]), newest := putA st.newest (x / du.ub % du.us) (x / du.ub) } := ⟨_, rfl⟩
        have gd7 : Good du (n + 1) s1 := hs1 ▸ good_s1h gd hit
        have R7s : RunAt K av G7 a r (.ref pa) tk s1 := hs1 ▸ R7
        have hh1 : s1.heard = st.heard := by rw [hs1]
        have ea : ask du tk st x = if tellsM du st (x / du.ub) (x / du.ub % du.us) = true then { hear du tk (x / du.lb) s1 with heard := putA (hear du tk (x / du.lb) s1).heard (x / du.ub) ((getA (hear du tk (x / du.lb) s1).missed (x / du.ub % du.us)).getD 0), noted := (hear du tk (x / du.lb) s1).noted + 1 } else s1 := by
          rw [hs1]
          unfold ask
          rw [if_pos hit]
          rfl
        lcg_src
        refine w_ite (fun ht => ?_) (fun ht => ?_)
        · have pre : RunPre K av G7 a r (.ref pa) tk s1 du (n + 1) := ⟨R7s, P7, ok, gd7, by omega, F7⟩
          lcg_src
          rename_i t8 G8 ht8 O8 R8 F8
          have ob8 := R8.ob
          have i8 := R8.missed.isD
          obtain ⟨q1, q2, q3⟩ := hear_heard du tk (x / du.lb) s1
          lcg_src
          refine nums_getD R8.missed ?_
          lcg_src
          refine nums_put R8.heard (by rw [q1, hh1]; omega) (fun G9 C9 T9 => ?_)
          have R9 := R8.putH C9 T9
          have F9 : FA av G9 := F8.chg C9 ⟨_, T9⟩
          have ob9 := R9.ob
          lcg_src
          rename_i G10 C10 e10 z G11 S11 hz
          have R10 := R9.noted (n := (hear du tk (x / du.lb) s1).noted + 1) C10 (by rw [e10]; rfl)
          have R11 := R10.same S11
          have ht9 : t8 = r.t ∨ H t8 = none := by
            rcases ht8 with h | h
            · exact .inl h
            · exact .inr (O7.free (fun b hb => R7.own hb) h)
          refine q t8 z G11 ht9 ?_ ?_ (((F9.chg C10 ⟨_, e10⟩)).same S11) ?_
          · refine O7.trans ((O8.mono ?_).trans ((Only.chg C9 (by simp)).trans ((Only.chg C10 (by simp)).trans (Only.same S11))))
            intro y hy
            simp only [List.mem_cons, List.not_mem_nil, or_false] at hy ⊢
            rcases hy with h | h
            · exact .inl h
            · exact .inr (.inr (.inl h))
          · rw [ea, if_pos ht]
            exact R11
          · rw [hwr, hwd]
            exact hz
        · lcg_src
          rename_i z G11 S11 hz
          refine q r.t z G11 (.inl rfl) (O7.trans (Only.same S11)) ?_ (F7.same S11) ?_
          · rw [ea, if_neg (by rw [ht]; exact Bool.false_ne_true)]
            exact R7s.same S11
          · rw [hwr, hwd]
            exact hz
    · have him := R1.missed.isD
      have nhit : isHit du st x = false := hh
      have nhit2 : ¬ isHit du st x = true := by
        rw [nhit]
        exact Bool.false_ne_true
      have l1' := gd.l1
      have l3' := gd.l3
      have l4' := gd.l4
      have l5' := gd.l5
      lcg_src
      refine nums_getD R1.missed ?_
      lcg_src
      refine nums_put R1.missed (by omega) (fun G2 C2 T2 => ?_)
      have R2 := R1.putM C2 T2
      have F2 : FA av G2 := F1.chg C2 ⟨_, T2⟩
      have ob2 := R2.ob
      lcg_src
      refine nums_put R2.newest (by show st.newest.length ≤ 5000; omega) (fun G3 C3 T3 => ?_)
      have R3 := R2.putN C3 T3
      have F3 : FA av G3 := F2.chg C3 ⟨_, T3⟩
      have ob3 := R3.ob
      have P3 : PairV K G3 (.ref pa) du := cg_P C3 (cg_P C2 P1 R1.missed rfl) R2.newest rfl
      have O3 : Only [a, r.t, r.l, r.h, r.m, r.n] H G3 := (Only.same S01).trans ((Only.chg C2 (by simp)).trans (Only.chg C3 (by simp)))
      obtain ⟨s1, hs1⟩ : ∃ s1 : Sh, s1 = { st with missed := putA st.missed (x / du.ub % du.us) ((getA st.missed (x / du.ub % du.us)).getD 0 + 1), newest := putA st.newest (x / du.ub % du.us) (x / du.ub) } := ⟨_, rfl⟩
      have gd3 : Good du (n + 1) s1 := hs1 ▸ good_s1m gd
      have R3s : RunAt K av G3 a r (.ref pa) tk s1 := hs1 ▸ R3
      have hh1 : s1.heard = st.heard := by rw [hs1]
      have hm1 : getA s1.missed (x / du.ub % du.us) = some ((getA st.missed (x / du.ub % du.us)).getD 0 + 1) := by
        rw [hs1]
        show getA (putA st.missed _ _) _ = _
        rw [getA_put, if_pos rfl]
      have ht1 : s1.tops = st.tops := by rw [hs1]
      have hl1 : s1.lows = st.lows := by rw [hs1]
      have hit1 : hits du (x / du.lb) s1 = hits du (x / du.lb) st := by
        unfold hits
        rw [hl1]
      have ea : ask du tk st x = { hear du tk (x / du.lb) s1 with heard := putA (hear du tk (x / du.lb) s1).heard (x / du.ub) ((getA (hear du tk (x / du.lb) s1).missed (x / du.ub % du.us)).getD 0), tops := putA (hear du tk (x / du.lb) s1).tops (x / du.ub % du.us) ((if ((getR (hear du tk (x / du.lb) s1).tops (x / du.ub % du.us)).length : Int) = du.uw then (getR (hear du tk (x / du.lb) s1).tops (x / du.ub % du.us)).tail else getR (hear du tk (x / du.lb) s1).tops (x / du.ub % du.us)) ++ [x / du.ub]) } := by
        rw [hs1]
        unfold ask
        rw [if_neg nhit2]
        rfl
      have pre : RunPre K av G3 a r (.ref pa) tk s1 du (n + 1) := ⟨R3s, P3, ok, gd3, by omega, F3⟩
      lcg_src
      rename_i t4 G4 ht4 O4 R4 F4
      have ob4 := R4.ob
      obtain ⟨q1, q2, q3⟩ := hear_heard du tk (x / du.lb) s1
      lcg_src
      refine nums_get R4.missed (by rw [q2]; exact hm1) ?_
      lcg_src
      refine nums_put R4.heard (by rw [q1, hh1]; omega) (fun G5 C5 T5 => ?_)
      have R5 := R4.putH C5 T5
      have F5 : FA av G5 := F4.chg C5 ⟨_, T5⟩
      have ob5 := R5.ob
      have it5 := R5.tops.isD
      lcg_src
      refine tops_getD (R5.tops.same (by kas_types)) (by assumption) fun l6 hl6 => ?_
      rename_i p7 G7 n7 S7 e7
      have R7 := R5.same S7
      have F7 := F5.same S7
      have hrow := len_getR (k := x / du.ub % du.us) (hear_rt (du := du) (tk := tk) (low := x / du.lb) (s := s1) (w := du.uw) (by rw [ht1]; exact gd.rt)) (by omega)
      obtain ⟨rw6, hrw6⟩ : ∃ y, y = getR (hear du tk (x / du.lb) s1).tops (x / du.ub % du.us) := ⟨_, rfl⟩
      replace hl6 : G7 l6 = some (.lst (rw6.map V.int)) := by
        rw [hrw6]
        exact hl6
      rw [← hrw6] at hrow
      lcg_src
      rw [decV]
      refine w_ite (fun hf => ?_) (fun hf => ?_)
      · have hf3 : ((getR (hear du tk (x / du.lb) s1).tops (x / du.ub % du.us)).length : Int) = du.uw := by
          have h := of_decide_eq_true hf
          rw [List.length_map, hrw6] at h
          exact h
        have hf2 : (rw6.length : Int) = du.uw := by
          rw [hrw6]
          exact hf3
        obtain ⟨y6, rest, er6⟩ : ∃ y rest, rw6 = y :: rest := by
          cases e : rw6 with
          | nil =>
            rw [e] at hf2
            simp at hf2
            omega
          | cons y rest => exact ⟨y, rest, rfl⟩
        rw [er6, List.map_cons] at hl6
        lcg_src
        rename_i p9 G9 n9 S9 e9 pz Gz nz Sz ez
        rw [cut_tail]
        have lr : rest.length ≤ 5000 := by
          rw [er6] at hf2
          simp at hf2
          omega
        refine ⟨by rw [List.length_map]; exact big_len lr, fun p10 G10 n10 S10 e10 => ?_⟩
        have e10' : G10 p10 = some (.lst ((rest ++ [x / du.ub]).map V.int)) := by rw [e10, List.map_append]; rfl
        have Sall5 : Same G5 G10 := S7.trans (S9.trans (Sz.trans S10))
        have Sall : Same G7 G10 := S9.trans (Sz.trans S10)
        have R10 := R7.same Sall
        have F10 := F7.same Sall
        have ob10 := R10.ob
        have lt10 : (hear du tk (x / du.lb) s1).tops.length ≤ 5000 := by
          rw [hear_lt, ht1]
          omega
        lcg_src
        refine tops_put R10.tops e10' (((F7.same S9).same Sz) _ n10) lt10 (fun G11 C11 T11 => ?_)
        have R11 := R10.putT C11 T11
        have F11 : FA av G11 := F10.chg C11 (by obtain ⟨kvs, hk⟩ := T11.has; exact ⟨_, hk⟩)
        have ht9 : t4 = r.t ∨ H t4 = none := by
          rcases ht4 with h | h
          · exact .inl h
          · exact .inr (O3.free (fun b hb => R3.own hb) h)
        have O11 : ∀ G12, Same G11 G12 → Only [a, r.t, r.l, r.h, r.m, r.n, t4] H G12 := fun G12 S12 => by
          refine (O3.mono (fun y hy => List.mem_append_left [t4] hy)).trans ((O4.mono (fun y hy => (List.mem_cons.mp hy).elim (fun e => by simp [e]) (fun e => by simp [List.mem_singleton.mp e]))).trans ((Only.chg C5 (by simp)).trans ((Only.same Sall5).trans ((Only.chg C11 (by simp)).trans (Only.same S12)))))
        have O12 : ∀ G12, Same G11 G12 → Only [a, r.t, r.l, r.h, r.m, r.n] H G12 := fun G12 S12 b o hb hbo => by
          refine O11 G12 S12 b o ?_ hbo
          intro hb2
          rcases List.mem_append.mp (show b ∈ [a, r.t, r.l, r.h, r.m, r.n] ++ [t4] from hb2) with h | h
          · exact hb h
          · have e4 := List.mem_singleton.mp h
            rcases ht9 with z | z
            · exact hb (by rw [e4, z]; simp)
            · rw [e4, z] at hbo
              cases hbo
        have hq5 : ∀ z G12, Same G11 G12 → SqT K G12 z [.str (word du st x), .bl (told du st x)] → Q (.ref z) G12 := fun z G12 S12 hz => by
          refine q t4 z G12 ht9 (O12 G12 S12) ?_ (F11.same S12) hz
          rw [ea, if_pos hf3, ← hrw6, q2, hm1]
          rw [er6]
          exact R11.same S12
        have hto : told du st x = false := by
          rw [hwd, nhit]
          rfl
        lcg_src
        refine w_ite (fun hb => ?_) (fun hb => ?_)
        · lcg_src
          refine hq5 _ _ (by kas_types) ?_
          rw [hww, if_neg nhit2, if_pos (hit1 ▸ hb), hto]
          lcg_sub
        · lcg_src
          refine hq5 _ _ (by kas_types) ?_
          rw [hww, if_neg nhit2, if_neg (by rw [← hit1, hb]; exact Bool.false_ne_true), hto]
          lcg_sub
      · have hf3 : ¬ ((getR (hear du tk (x / du.lb) s1).tops (x / du.ub % du.us)).length : Int) = du.uw := by
          have h := of_decide_eq_false hf
          rw [List.length_map, hrw6] at h
          exact h
        lcg_src
        rename_i pz Gz nz Sz ez
        refine ⟨by rw [List.length_map]; exact big_len (by omega), fun p10 G10 n10 S10 e10 => ?_⟩
        have e10' : G10 p10 = some (.lst ((rw6 ++ [x / du.ub]).map V.int)) := by rw [e10, List.map_append]; rfl
        have Sall5 : Same G5 G10 := S7.trans (Sz.trans S10)
        have Sall : Same G7 G10 := Sz.trans S10
        have R10 := R7.same Sall
        have F10 := F7.same Sall
        have ob10 := R10.ob
        have lt10 : (hear du tk (x / du.lb) s1).tops.length ≤ 5000 := by
          rw [hear_lt, ht1]
          omega
        lcg_src
        refine tops_put R10.tops e10' ((F7.same Sz) _ n10) lt10 (fun G11 C11 T11 => ?_)
        have R11 := R10.putT C11 T11
        have F11 : FA av G11 := F10.chg C11 (by obtain ⟨kvs, hk⟩ := T11.has; exact ⟨_, hk⟩)
        have ht9 : t4 = r.t ∨ H t4 = none := by
          rcases ht4 with h | h
          · exact .inl h
          · exact .inr (O3.free (fun b hb => R3.own hb) h)
        have O11 : ∀ G12, Same G11 G12 → Only [a, r.t, r.l, r.h, r.m, r.n, t4] H G12 := fun G12 S12 => by
          refine (O3.mono (fun y hy => List.mem_append_left [t4] hy)).trans ((O4.mono (fun y hy => (List.mem_cons.mp hy).elim (fun e => by simp [e]) (fun e => by simp [List.mem_singleton.mp e]))).trans ((Only.chg C5 (by simp)).trans ((Only.same Sall5).trans ((Only.chg C11 (by simp)).trans (Only.same S12)))))
        have O12 : ∀ G12, Same G11 G12 → Only [a, r.t, r.l, r.h, r.m, r.n] H G12 := fun G12 S12 b o hb hbo => by
          refine O11 G12 S12 b o ?_ hbo
          intro hb2
          rcases List.mem_append.mp (show b ∈ [a, r.t, r.l, r.h, r.m, r.n] ++ [t4] from hb2) with h | h
          · exact hb h
          · have e4 := List.mem_singleton.mp h
            rcases ht9 with z | z
            · exact hb (by rw [e4, z]; simp)
            · rw [e4, z] at hbo
              cases hbo
        have hq5 : ∀ z G12, Same G11 G12 → SqT K G12 z [.str (word du st x), .bl (told du st x)] → Q (.ref z) G12 := fun z G12 S12 hz => by
          refine q t4 z G12 ht9 (O12 G12 S12) ?_ (F11.same S12) hz
          rw [ea, if_neg hf3, ← hrw6, q2, hm1]
          
          exact R11.same S12
        have hto : told du st x = false := by
          rw [hwd, nhit]
          rfl
        lcg_src
        refine w_ite (fun hb => ?_) (fun hb => ?_)
        · lcg_src
          refine hq5 _ _ (by kas_types) ?_
          rw [hww, if_neg nhit2, if_pos (hit1 ▸ hb), hto]
          lcg_sub
        · lcg_src
          refine hq5 _ _ (by kas_types) ?_
          rw [hww, if_neg nhit2, if_neg (by rw [← hit1, hb]; exact Bool.false_ne_true), hto]
          lcg_sub
end
end
section
/-! The defs, part D: runs made, copied, asked in a row; what is alone. -/
open PySem PySem.Spec PyProof.Rows L2
/-- {k: .. for k, row in d.items()}: new rows of the same ints -/
theorem DcG.rows {K : Fr0} {av : Addr → Prop} {d : Addr} {o : Obj} {as1 : Ad} {m : Rows} {g : TG} {tt : TT} {tk tv : TE} {vs : List Nat} {σ : L2.St} {H1 : Hp} {Q : VK} (hd : H1 d = some (.frz o (.dK (toK V.ref as1)))) (hr : RowsAt av H1 as1 m) (fa : FA av H1) (nd : (m.map (·.1)).Nodup) (hz : m.length ≤ 5000)
    (hs : ∀ (key : Int) (l : Addr) (row : List Int) (p : Addr) (H : Hp) (Y : V → V → Hp → Prop) (N : Hp → Prop), SqT K H p [.int key, .ref l] → H l = some (.lst (row.map V.int)) →
      (∀ l2 H5, (∃ H4, Same H H4 ∧ H4 l2 = none) → Same H H5 → H5 l2 = some (.lst (row.map V.int)) → Y (.int key) (.ref l2) H5) →
      g (.ref p) (wipe σ vs) H fun σ2 H2 => wipe σ2 vs = wipe σ vs ∧ tt σ2 H2 fun b H3 => if b = true then tk σ2 H3 fun y H4 => tv σ2 H4 fun z H5 => Y y z H5 else N H3)
    (hq : ∀ D H', H1 D = none → Same H1 H' → TopsAt av H' D m → FA av H' → Q (.ref D) H') : DcG (Iti d o (toK V.ref as1)) g tt tk tv vs σ H1 Q := by
  intro D hD
  have hl : (toK V.ref as1).length = m.length := by rw [len_toK, hr.len]
  refine ⟨fun i k H => k = m.length - i ∧ i ≤ m.length ∧ Same H1 H ∧ TopsAt av H D (m.take i) ∧ FA av H, ⟨m.length, rfl, Nat.zero_le _, Same.of_new hD, tops_new upd_same, fa.same (Same.of_new hD)⟩, ?_⟩
  rintro i k H ⟨rfl, hi, S, T, F⟩
  by_cases hlt : i < m.length
  · refine .inr ⟨⟨S _ _ hd, by rw [hl]; exact hlt⟩, fun H' => i + 1 ≤ m.length ∧ Same H1 H' ∧ TopsAt av H' D (m.take (i + 1)) ∧ FA av H', fun H' h => ⟨m.length - (i + 1), by omega, rfl, h.1, h.2⟩, fun x H' y => ?_⟩
    obtain ⟨p, k, v, hk, rfl, np, rfl⟩ := y
    obtain ⟨key, l, ha, rfl, rfl⟩ := toK_at hk
    obtain ⟨row, hm, hal, hrow⟩ := hr.at_ ha
    have Sp := Same.of_new (o := .tup [kV (Sum.inl key), V.ref l]) np
    refine hs key l row p _ _ _ (sq_T upd_same) (Sp _ _ (S _ _ hrow)) (fun l2 H5 n2 S5 e5 => ?_)
    have T5 := (T.same Sp).same S5
    have F5 := (F.same Sp).same S5
    obtain ⟨ad5, h5, r5⟩ := T5
    have hk5 : key ∉ (m.take i).map (·.1) := nd_take (p := (key, row)) nd hm
    have e6 : m.take (i + 1) = putA (m.take i) key row := by
      rw [put_new hk5, List.take_add_one, hm]
      rfl
    have hal2 : av l2 := by
      obtain ⟨H4, s4, n4⟩ := n2
      exact ((F.same Sp).same s4) _ n4
    refine ⟨_, Sum.inl key, rfl, h5, by rw [len_toK, r5.len]; exact big_len (by rw [List.length_take]; omega), by omega, ?_, ⟨putA ad5 key l2, by rw [upd_same, ← put_toK], ?_⟩, ?_⟩
    · intro b u hb
      rw [upd_ne (ne_of_none hb hD)]
      exact S5 _ _ (Sp _ _ (S b u hb))
    · rw [e6]
      exact (r5.put hal2 e5).imp fun b xs _ z => by
        rw [upd_ne (ne_tag z h5 rfl)]
        exact z
    · exact F5.chg (Chg.of) ⟨_, upd_same⟩
  · have e : i = m.length := by omega
    subst e
    rw [List.take_length] at T
    exact .inl ⟨⟨S _ _ hd, by rw [hl]; exact Nat.le_refl _⟩, hq D H hD S T F⟩
section
variable {P : Program} {w : World} {K : Fr0} {mg : Str → Option Value} {base : Heap}
abbrev spRunInit (K : Fr0) : Sp := s3 fun s p t H Q _ => ∃ a d tk, s = .ref a ∧ t = .bl tk ∧ H a = some (.ins (ad K "Run") d []) ∧
  ∀ r H', (∀ b ∈ [r.t, r.l, r.h, r.m, r.n], H b = none) → Chg a H H' → (∀ av, RunAt K av H' a r p tk sh0) → Q .non H'
abbrev N_Run_init : List Str := ["self", "pair", "takes_back"]
abbrev P_Run_init : List Str := ["self", "pair", "takes_back"]
theorem sc_Run_init : FnScope N_Run_init P_Run_init (defScope s_Run_init) := ⟨rfl, rfl, rfl, by decide +kernel, rfl, by decide +kernel, by decide +kernel⟩
theorem okk_Run_init (T : Tx K mg) : ∃ fd, FunD K "__init__" "Run.__init__" (defArgs s_Run_init) (defBody s_Run_init) (defScope s_Run_init) [.bl false] [] (am K "Run" "__init__") fd ∧ FnOk P w K mg base CX0 1 (am K "Run" "__init__") fd P_Run_init (spRunInit K) := by
  obtain ⟨fd, F⟩ := T.fd_Run_init
  refine ⟨fd, F, F.ok sc_Run_init (fun vs H Q E h => ?_) (fun cdv A outer s H vs Q E hr h => ?_)⟩
  · first | exact l1 h | exact l0 h | exact l2 h | exact l3 h | exact l4 h | exact l5 h | exact l6 h
  · have hu := hu_of hr
    refine ⟨_, PSs.nox (pss_cons (ps_fldS (pv 0) (pv 1) rfl)
      (pss_cons (ps_fldS (pv 0) (pv 2) rfl)
      (pss_cons (ps_fldS (pv 0) pe_dicS rfl)
      (pss_cons (ps_fldS (pv 0) pe_dicS rfl)
      (pss_cons (ps_fldS (pv 0) pe_dicS rfl)
      (pss_cons (ps_fldS (pv 0) pe_dicS rfl)
      (pss_cons (ps_fldS (pv 0) pe_dicS rfl)
      (pss_cons (ps_fldS (pv 0) pe_int rfl)
      (pss_one (ps_fldS (pv 0) pe_int rfl)))))))))), ?_⟩
    try dsimp only [cxOf, Cx.nox, Cx.wish]
    obtain ⟨s, p, t, rfl, a, d, tk, rfl, rfl, ha, q⟩ := h
    have c0 := T.cl_Run
    have c1 := T.na_Run_duo
    have c2 := T.na_Run_takes_back
    have c3 := T.na_Run_tops
    have c4 := T.na_Run_lows
    have c5 := T.na_Run_heard
    have c6 := T.na_Run_missed
    have c7 := T.na_Run_newest
    have c8 := T.na_Run_noted
    have c9 := T.na_Run_gone
    lcg_src
    rename_i H1 C1 e1 H2 C2 e2 p3 G3 n3 S3 d3 H3 C3 e3 p4 G4 n4 S4 d4 H4 C4 e4 p5 G5 n5 S5 d5 H5 C5 e5 p6 G6 n6 S6 d6 H6 C6 e6 p7 G7 n7 S7 d7 H7 C7 e7 H8 C8 e8 H9 C9 e9
    have fr : ∀ {G p u}, Chg a H G → G a = some u → G p = none → H p = none := fun C e n => SW.Chg.free C e n
    have k2 : Chg a H H2 := C1.trans C2
    have k3 : Chg a H H3 := (k2.trans (SW.Same.chg S3)).trans C3
    have k4 : Chg a H H4 := (k3.trans (SW.Same.chg S4)).trans C4
    have k5 : Chg a H H5 := (k4.trans (SW.Same.chg S5)).trans C5
    have k6 : Chg a H H6 := (k5.trans (SW.Same.chg S6)).trans C6
    have k7 : Chg a H H7 := (k6.trans (SW.Same.chg S7)).trans C7
    have z34 : Chg a H3 H4 := (SW.Same.chg S4).trans C4
    have z45 : Chg a H4 H5 := (SW.Same.chg S5).trans C5
    have z56 : Chg a H5 H6 := (SW.Same.chg S6).trans C6
    have z67 : Chg a H6 H7 := (SW.Same.chg S7).trans C7
    have z79 : Chg a H7 H9 := C8.trans C9
    have f3 : H p3 = none := fr k2 e2 n3
    have f4 : H p4 = none := fr k3 e3 n4
    have f5 : H p5 = none := fr k4 e4 n5
    have f6 : H p6 = none := fr k5 e5 n6
    have f7 : H p7 = none := fr k6 e6 n7
    have g3 : p3 ≠ a := (ne_of_none ha f3).symm
    have g4 : p4 ≠ a := (ne_of_none ha f4).symm
    have g5 : p5 ≠ a := (ne_of_none ha f5).symm
    have g6 : p6 ≠ a := (ne_of_none ha f6).symm
    have g7 : p7 ≠ a := (ne_of_none ha f7).symm
    have a33 := C3 _ _ g3 d3
    have a34 := z34 _ _ g3 a33
    have a35 := z45 _ _ g3 a34
    have a36 := z56 _ _ g3 a35
    have a37 := z67 _ _ g3 a36
    have a44 := C4 _ _ g4 d4
    have a45 := z45 _ _ g4 a44
    have a46 := z56 _ _ g4 a45
    have a47 := z67 _ _ g4 a46
    have a55 := C5 _ _ g5 d5
    have a56 := z56 _ _ g5 a55
    have a57 := z67 _ _ g5 a56
    have a66 := C6 _ _ g6 d6
    have a67 := z67 _ _ g6 a66
    have a77 := C7 _ _ g7 d7
    refine q ⟨d, p3, p4, p5, p6, p7⟩ H9 (fun b hb => ?_) (k7.trans z79) (fun av => ⟨e9, tops_new (z79 _ _ g3 a37), tops_new (z79 _ _ g4 a47), nums_new (z79 _ _ g5 a57), nums_new (z79 _ _ g6 a67), nums_new (z79 _ _ g7 a77), mk5 ⟨?_, ?_, ?_, ?_, ?_, ?_, ?_, ?_, ?_, ?_⟩⟩)
    · simp only [List.mem_cons, List.not_mem_nil, or_false] at hb
      rcases hb with z | z | z | z | z <;> rw [z] <;> assumption
    · exact (ne_of_none a33 n4).symm
    · exact (ne_of_none a34 n5).symm
    · exact (ne_of_none a35 n6).symm
    · exact (ne_of_none a36 n7).symm
    · exact (ne_of_none a44 n5).symm
    · exact (ne_of_none a45 n6).symm
    · exact (ne_of_none a46 n7).symm
    · exact (ne_of_none a55 n6).symm
    · exact (ne_of_none a56 n7).symm
    · exact (ne_of_none a66 n7).symm
theorem ok_Run_init (T : Tx K mg) : FnR P w K mg base CX0 1 (am K "Run" "__init__") (spRunInit K) := by
  obtain ⟨fd, F, G⟩ := okk_Run_init T
  obtain ⟨ds, hv, hB⟩ := (F.binds1 (ps := P_Run_init) 3 1 (by decide) rfl fun _ _ _ _ _ _ _ us its hl hi => match us, its, hl, hi with | [_, _, _], [_], _, _ => ⟨_, rfl, by with_unfolding_all rfl⟩)
  exact (FnOk.raw G hB hv).imp fun vs H Q E h => by
    show ((spRunInit K)) (vs ++ []) H Q E
    rw [List.append_nil]
    exact h
theorem ok_Run_init1 (T : Tx K mg) : FnR P w K mg base CX0 1 (am K "Run" "__init__") (fun vs H Q E => ((spRunInit K)) (vs ++ [.bl false]) H Q E) := by
  obtain ⟨fd, F, G⟩ := okk_Run_init T
  obtain ⟨ds, hv, hB⟩ := (F.binds1 (ps := P_Run_init) 2 0 (by decide) rfl fun _ _ _ _ _ _ _ us its hl hi => match us, its, hl, hi with | [_, _], [_], _, _ => ⟨_, rfl, by with_unfolding_all rfl⟩)
  exact FnOk.raw G hB hv
abbrev spCopied (K : Fr0) : Sp := s1 fun s H Q _ => ∃ av a r pv tk st du n, s = .ref a ∧ RunPre K av H a r pv tk st du n ∧
  ∀ a2 r2 H', Same H H' → (∀ b ∈ [a2, r2.t, r2.l, r2.h, r2.m, r2.n], H b = none) → RunAt K av H' a2 r2 pv tk st → FA av H' → Q (.ref a2) H'
abbrev N_Run_copied : List Str := ["self", "found", "at", "row"]
abbrev P_Run_copied : List Str := ["self"]
theorem sc_Run_copied : FnScope N_Run_copied P_Run_copied (defScope s_Run_copied) := ⟨rfl, rfl, rfl, by decide +kernel, rfl, by decide +kernel, by decide +kernel⟩
theorem ok_Run_copied (T : Tx K mg) : FnR P w K mg base CX0 3 (am K "Run" "copied") (spCopied K) := by
  obtain ⟨fd, F⟩ := T.fd_Run_copied
  refine fnr F (fun _ _ _ _ _ _ us hl => match us, hl with | [_], _ => rfl) sc_Run_copied (fun vs H Q E h => ?_) (fun cdv A outer s H vs Q E hr h => ?_)
  · first | exact l1 h | exact l0 h | exact l2 h | exact l3 h | exact l4 h | exact l5 h | exact l6 h
  · have hu := hu_of hr
    refine ⟨_, PSs.nox (pss_cons (ps_set (i := 1) sc_Run_copied.nd rfl (Or.inl rfl) (pe_mkS T.mk_Run (ok_Run_init T) (hr.mono (by decide)) (by rfl) T.g_Run (pa_cons (pe_fld (pv 0) rfl) (pa_cons (pe_fld (pv 0) rfl) pa_nil))))
      (pss_cons (ps_fldS (pv 1) (pe_lockS (pe_dc (own := [("at", 2), ("row", 3)]) (g := gTup K 2 (gCons (gName 2) (gCons (gName 3) gNil))) (tk := tVar 2) (tv := tCB (rListL K) (tCons (tVar 3) tNil)) (tt := tYes) rfl sc_Run_copied.nd (pi_items (pe_fld (pv 0) rfl)) (blkOk_by (N := N_Run_copied) (sc := defScope s_Run_copied) (by decide +kernel)) (fun _ _ _ _ _ => (pg_tup (n := 2) rfl (pgs_cons (pg_name (i := 2) sc_Run_copied.nd rfl (Or.inl rfl)) (pgs_cons (pg_name (i := 3) sc_Run_copied.nd rfl (Or.inl rfl)) pgs_nil)))) (fun _ _ _ _ _ => pts_nil) (fun _ _ _ _ _ => (pv 2)) (fun _ _ _ _ _ => (pe_callTy call_ListL (by rfl) T.f_list boot_listT (pa_cons (pv 3) pa_nil))))) rfl)
      (pss_cons (ps_fldS (pv 1) (pe_lockS (pe_dc (own := [("at", 2), ("row", 3)]) (g := gTup K 2 (gCons (gName 2) (gCons (gName 3) gNil))) (tk := tVar 2) (tv := tCB (rListL K) (tCons (tVar 3) tNil)) (tt := tYes) rfl sc_Run_copied.nd (pi_items (pe_fld (pv 0) rfl)) (blkOk_by (N := N_Run_copied) (sc := defScope s_Run_copied) (by decide +kernel)) (fun _ _ _ _ _ => (pg_tup (n := 2) rfl (pgs_cons (pg_name (i := 2) sc_Run_copied.nd rfl (Or.inl rfl)) (pgs_cons (pg_name (i := 3) sc_Run_copied.nd rfl (Or.inl rfl)) pgs_nil)))) (fun _ _ _ _ _ => pts_nil) (fun _ _ _ _ _ => (pv 2)) (fun _ _ _ _ _ => (pe_callTy call_ListL (by rfl) T.f_list boot_listT (pa_cons (pv 3) pa_nil))))) rfl)
      (pss_cons (ps_fldS (pv 1) (pe_callTy call_DictD (by rfl) T.f_dict boot_dictT (pa_cons (pe_fld (pv 0) rfl) pa_nil)) rfl)
      (pss_cons (ps_fldS (pv 1) (pe_callTy call_DictD (by rfl) T.f_dict boot_dictT (pa_cons (pe_fld (pv 0) rfl) pa_nil)) rfl)
      (pss_cons (ps_fldS (pv 1) (pe_callTy call_DictD (by rfl) T.f_dict boot_dictT (pa_cons (pe_fld (pv 0) rfl) pa_nil)) rfl)
      (pss_cons (ps_fldS (pv 1) (pe_fld (pv 0) rfl) rfl)
      (pss_cons (ps_fldS (pv 1) (pe_fld (pv 0) rfl) rfl)
      (pss_one (ps_ret (pv 1))))))))))), ?_⟩
    try dsimp only [cxOf, Cx.nox, Cx.wish]
    obtain ⟨s, rfl, av, a, r, pv, tk, st, du, n, rfl, ⟨hr1, hp0, ok, gd, hn, hav⟩, q⟩ := h
    have c0 := T.cl_Run
    have c1 := T.na_Run_duo
    have c2 := T.na_Run_takes_back
    have c3 := T.na_Run_tops
    have c4 := T.na_Run_lows
    have c5 := T.na_Run_heard
    have c6 := T.na_Run_missed
    have c7 := T.na_Run_newest
    have c8 := T.na_Run_noted
    have c9 := T.na_Run_gone
    have ho := hr1.ob
    lcg_src
    rename_i x dx G0 nx ndx nex S0 ex rx G1 nrx C1 RX
    have S1 : Same H G1 := Same.newc C1 S0 nx
    have hax : a ≠ x := ne_of_none ho nx
    have R1 := hr1.same S1
    have F1 := hav.same S1
    have x1 := (RX av).ob
    obtain ⟨as1, hd, hrows⟩ := R1.tops
    refine ⟨r.t, _, hd, trivial, fun od Hl Cl el => ?_⟩
    have oba : Hl a = some (.ins (ad K "Run") r.dx (runF pv tk r st.noted st.gone)) := Cl _ _ (ne_tag R1.ob hd rfl) R1.ob
    have hrl : RowsAt av Hl as1 st.tops := hrows.imp fun b xs _ z => Cl _ _ (ne_tag z hd rfl) z
    have l1' := gd.l1
    have l2' := gd.l2
    lcg_src
    refine DcG.rows (K := K) el hrl (F1.chg Cl ⟨_, el⟩) gd.nt (by omega) (fun key l row p Hh Y N hp hl hy => ?_) (fun D1 G2 nD1 S2 T2 F2 => ?_)
    · lcg_src
      rename_i l2 H5 n2 S5 e5
      exact hy _ _ ⟨_, Same.refl _, n2⟩ S5 e5
    refine ⟨S2 _ _ el, fun G3 C3 e3 => ?_⟩
    have S13 := Same.unlock hd Cl S2 C3 e3
    have x3 := S13 _ _ x1
    obtain ⟨kvs1, hD1⟩ := T2.has
    have nD1' : G1 D1 = none := SW.Chg.free Cl el nD1
    have hD1t : D1 ≠ r.t := (ne_of_none el nD1).symm
    have T3 := T2.chg C3 (S2 _ _ el) rfl hD1t
    have R3 := R1.same S13
    have F3 := F2.chg C3 ⟨_, e3⟩
    lcg_src
    rename_i G4 C4 e4
    have x4 : G4 x = some (.ins (ad K "Run") rx.dx (runF pv tk { rx with t := D1 } 0 0)) := e4
    clear e4
    have S04 : Chg x G0 G4 := (C1.trans (SW.Same.chg S13)).trans C4
    have S14 : Same H G4 := Same.newc S04 S0 nx
    have R4 := hr1.same S14
    have F4 : FA av G4 := F3.chg C4 ⟨_, x4⟩
    have nxd : ∀ {b kvs}, H b = some (.dK kvs) → b ≠ x := fun z => ne_of_none z nx
    have D1x : D1 ≠ x := by
      intro z
      rw [z] at nD1'
      rw [x1] at nD1'
      cases nD1'
    have T4 := T3.chg C4 x3 rfl D1x
    obtain ⟨as2, hd2, hrows2⟩ := R4.lows
    refine ⟨r.l, _, hd2, trivial, fun od2 Hl2 Cl2 el2 => ?_⟩
    have oba2 : Hl2 a = some (.ins (ad K "Run") r.dx (runF pv tk r st.noted st.gone)) := Cl2 _ _ (ne_tag R4.ob hd2 rfl) R4.ob
    have hrl2 : RowsAt av Hl2 as2 st.lows := hrows2.imp fun b xs _ z => Cl2 _ _ (ne_tag z hd2 rfl) z
    lcg_src
    refine DcG.rows (K := K) el2 hrl2 (F4.chg Cl2 ⟨_, el2⟩) gd.nl (by omega) (fun key l row p Hh Y N hp hl hy => ?_) (fun D2 G5 nD2 S5 T5 F5 => ?_)
    · lcg_src
      rename_i l2 H5 n2 S5 e5
      exact hy _ _ ⟨_, Same.refl _, n2⟩ S5 e5
    refine ⟨S5 _ _ el2, fun G6 C6 e6 => ?_⟩
    have S46 := Same.unlock hd2 Cl2 S5 C6 e6
    have x6 := S46 _ _ x4
    obtain ⟨kvs2, hD2⟩ := T5.has
    have nD2' : G4 D2 = none := SW.Chg.free Cl2 el2 nD2
    have hD2t : D2 ≠ r.l := (ne_of_none el2 nD2).symm
    have T6 := T5.chg C6 (S5 _ _ el2) rfl hD2t
    have U6 := T4.same S46
    have R6 := R4.same S46
    have F6 := F5.chg C6 ⟨_, e6⟩
    have D2x : D2 ≠ x := by
      intro z
      rw [z, x4] at nD2'
      cases nD2'
    have D21 : D2 ≠ D1 := by
      obtain ⟨kv4, h4⟩ := T4.has
      exact (ne_of_none h4 nD2').symm
    have o6 := R6.ob
    have h6 := R6.heard
    have m6 := R6.missed
    have n6 := R6.newest
    lcg_src
    rename_i G7 C7 e7 p8 G8 n8 S8 d8 H8 C8 e8 p9 G9 n9 S9 d9 H9 C9 e9 p10 G10 n10 S10 d10 H10 C10 e10 H11 C11 e11 H12 C12 e12
    have k7 : Chg x G6 G7 := C7
    have k8 : Chg x G6 H8 := (k7.trans (SW.Same.chg S8)).trans C8
    have k9 : Chg x G6 H9 := (k8.trans (SW.Same.chg S9)).trans C9
    have k10 : Chg x G6 H10 := (k9.trans (SW.Same.chg S10)).trans C10
    have z89 : Chg x H8 H9 := (SW.Same.chg S9).trans C9
    have z910 : Chg x H9 H10 := (SW.Same.chg S10).trans C10
    have z12 : Chg x H10 H12 := C11.trans C12
    have k12 : Chg x G6 H12 := k10.trans z12
    have S06 : Same H G6 := S14.trans S46
    have f8 : G6 p8 = none := SW.Chg.free k7 e7 n8
    have f9 : G6 p9 = none := SW.Chg.free k8 e8 n9
    have f10 : G6 p10 = none := SW.Chg.free k9 e9 n10
    have y8 : p8 ≠ x := (ne_of_none x6 f8).symm
    have y9 : p9 ≠ x := (ne_of_none x6 f9).symm
    have y10 : p10 ≠ x := (ne_of_none x6 f10).symm
    have a88 := C8 _ _ y8 d8
    have a89 := z89 _ _ y8 a88
    have a810 := z910 _ _ y8 a89
    have a99 := C9 _ _ y9 d9
    have a910 := z910 _ _ y9 a99
    have a1010 := C10 _ _ y10 d10
    have kD1 : ∀ {G}, Chg x G6 G → ∃ kvs, G D1 = some (.dK kvs) := fun C => (U6.chg C x6 rfl D1x).has
    have kD2 : ∀ {G}, Chg x G6 G → ∃ kvs, G D2 = some (.dK kvs) := fun C => (T6.chg C x6 rfl D2x).has
    have FF : FA av H12 := ((((((((F6.chg C7 ⟨_, e7⟩).same S8).chg C8 ⟨_, e8⟩).same S9).chg C9 ⟨_, e9⟩).same S10).chg C10 ⟨_, e10⟩).chg C11 ⟨_, e11⟩).chg C12 ⟨_, e12⟩
    refine q x { rx with t := D1, l := D2, h := p8, m := p9, n := p10 } H12 (Same.newc k12 S06 nx) (fun b hb => ?_) ⟨e12, U6.chg k12 x6 rfl D1x, T6.chg k12 x6 rfl D2x, z12 _ _ y8 a810, z12 _ _ y9 a910, z12 _ _ y10 a1010, mk5 ⟨D21, ?_, ?_, ?_, ?_, ?_, ?_, ?_, ?_, ?_⟩⟩ FF
    · simp only [List.mem_cons, List.not_mem_nil, or_false] at hb
      rcases hb with z | z | z | z | z | z <;> rw [z]
      · exact nx
      · exact free_of nD1' S1
      · exact free_of nD2' S14
      · exact free_of f8 S06
      · exact free_of f9 S06
      · exact free_of f10 S06
    · obtain ⟨kv, hk⟩ := kD1 k7
      exact (ne_of_none hk n8).symm
    · obtain ⟨kv, hk⟩ := kD1 k8
      exact (ne_of_none hk n9).symm
    · obtain ⟨kv, hk⟩ := kD1 k9
      exact (ne_of_none hk n10).symm
    · obtain ⟨kv, hk⟩ := kD2 k7
      exact (ne_of_none hk n8).symm
    · obtain ⟨kv, hk⟩ := kD2 k8
      exact (ne_of_none hk n9).symm
    · obtain ⟨kv, hk⟩ := kD2 k9
      exact (ne_of_none hk n10).symm
    · exact (ne_of_none a88 n9).symm
    · exact (ne_of_none a89 n10).symm
    · exact (ne_of_none a99 n10).symm
end
end
section
/-! The defs, part E: what is alone; whole runs. -/
open PySem PySem.Spec PyProof.Rows L2
theorem Good.mono {du : Duo} {n m : Nat} {s : Sh} (g : Good du n s) (h : n ≤ m) : Good du m s := ⟨Nat.le_trans g.l1 h, Nat.le_trans g.l2 h, Nat.le_trans g.l3 h, Nat.le_trans g.l4 h, Nat.le_trans g.l5 h, g.nt, g.nl, g.rt, g.rl, g.bt, g.hs⟩
theorem good_run {du : Duo} {tk : Bool} (ok : du.ok) : ∀ (row : List Int) (n : Nat) (s : Sh), Good du n s → (∀ x ∈ row, Big x) → Good du (n + row.length) (row.foldl (ask du tk) s)
  | [], n, s, g, _ => g
  | x :: r, n, s, g, b => by
    have g1 := good_ask (tk := tk) g (b x (List.mem_cons_self ..)) ok
    have g2 := good_run (tk := tk) ok r (n + 1) _ g1 fun y hy => b y (List.mem_cons_of_mem _ hy)
    have e : n + 1 + r.length = n + (x :: r).length := by
      rw [List.length_cons]
      omega
    rw [e] at g2
    exact g2
theorem run_snoc (du : Duo) (tk : Bool) (row : List Int) (x : Int) : runS du tk (row ++ [x]) = ask du tk (runS du tk row) x := by
  unfold runS
  rw [List.foldl_append]
  rfl
theorem run_take {du : Duo} {tk : Bool} {row : List Int} {i : Nat} {x : Int} (h : row[i]? = some x) : runS du tk (row.take (i + 1)) = ask du tk (runS du tk (row.take i)) x := by
  rw [List.take_add_one, h]
  exact run_snoc ..
def aloneRow (du : Duo) (s : Sh) (row : List Int) : List Int := row.filter fun x => !(hits du (lowP du (x * du.ub)) s)
theorem lonely_eq (du : Duo) (s : Sh) : lonelyM du s = s.tops.flatMap fun p => aloneRow du s p.2 := rfl
theorem flat_take {du : Duo} {s : Sh} {m : Rows} {i : Nat} {p : Int × List Int} (h : m[i]? = some p) : (m.take (i + 1)).flatMap (fun p => aloneRow du s p.2) = (m.take i).flatMap (fun p => aloneRow du s p.2) ++ aloneRow du s p.2 := by
  rw [List.take_add_one, h, List.flatMap_append]
  simp
theorem flat_len {du : Duo} {s : Sh} : ∀ {m : Rows}, (∀ p ∈ m, p.2.length ≤ 1000) → (m.flatMap fun p => aloneRow du s p.2).length ≤ 1000 * m.length
  | [], _ => Nat.le_refl _
  | p :: r, h => by
    have h1 := h p (List.mem_cons_self ..)
    have h2 := flat_len (du := du) (s := s) (m := r) fun q hq => h q (List.mem_cons_of_mem _ hq)
    have h3 := List.length_filter_le (fun x => !(hits du (lowP du (x * du.ub)) s)) p.2
    rw [List.flatMap_cons, List.length_append, List.length_cons]
    unfold aloneRow at *
    omega
section
variable {P : Program} {w : World} {K : Fr0} {mg : Str → Option Value} {base : Heap}
abbrev spLonely (K : Fr0) : Sp := s1 fun s H Q _ => ∃ av a r pv tk st du n, s = .ref a ∧ RunPre K av H a r pv tk st du n ∧ n ≤ 100 ∧
  ∀ z H' (ns : List Int), Same H H' → ns.Perm (lonelyM du st) → ns.Pairwise (· ≤ ·) → SqT K H' z (ns.map V.int) → Q (.ref z) H'
abbrev N_Run_lonely : List Str := ["self", "found", "span", "row", "piece"]
abbrev P_Run_lonely : List Str := ["self"]
theorem sc_Run_lonely : FnScope N_Run_lonely P_Run_lonely (defScope s_Run_lonely) := ⟨rfl, rfl, rfl, by decide +kernel, rfl, by decide +kernel, by decide +kernel⟩
theorem ok_Run_lonely (T : Tx K mg) : FnR P w K mg base CX0 5 (am K "Run" "lonely") (spLonely K) := by
  obtain ⟨fd, F⟩ := T.fd_Run_lonely
  refine fnr F (fun _ _ _ _ _ _ us hl => match us, hl with | [_], _ => rfl) sc_Run_lonely (fun vs H Q E h => ?_) (fun cdv A outer s H vs Q E hr h => ?_)
  · first | exact l1 h | exact l0 h | exact l2 h | exact l3 h | exact l4 h | exact l5 h | exact l6 h
  · have hu := hu_of hr
    refine ⟨_, PSs.nox (pss_cons (ps_asg (pe_tupS (pa_cons (pe_lstS pa_nil) (pa_cons (pe_ix ix_tup (pe_pr (pe_fld (pv 0) rfl) T.cl_Pair T.pr_Pair_top (ok_Pair_top T) (hr.mono (by decide))) pe_int (fun _ _ => rfl)) pa_nil))) (pg_tup (n := 2) rfl (pgs_cons (pg_name (i := 1) sc_Run_lonely.nd rfl (Or.inl rfl)) (pgs_cons (pg_name (i := 2) sc_Run_lonely.nd rfl (Or.inr rfl)) pgs_nil))))
      (pss_cons (ps_lockS (ps_for PassesOwn.never rfl (pi_values (pe_fld (pv 0) rfl)) (pg_name (i := 3) sc_Run_lonely.nd rfl (Or.inl rfl)) (pss_one (ps_set (i := 1) sc_Run_lonely.nd rfl (Or.inl rfl) (pe_op op_Cats (pv 1) (pe_lc (own := [("piece", 4)]) (g := gName 4)  rfl sc_Run_lonely.nd (pi_list (pv 3)) (blkOk_by (N := N_Run_lonely) (sc := defScope s_Run_lonely) (by decide +kernel)) (fun _ _ _ _ _ => (pg_name (i := 4) sc_Run_lonely.nd rfl (Or.inl rfl))) (fun _ _ _ _ _ => (pts_one (pt_not (pt_val (pe_ix (r := rIxT K) ix_tup (pe_mt (pv 0) T.cl_Run T.me_Run_keeps (ok_Run_keeps T) (hr.mono (by decide)) pass0 (pa_cons (pe_op op_mulW (pv 4) (pv 2)) pa_nil)) pe_int (fun _ _ => rfl)))))) (fun _ _ _ _ _ => (pv 4))))))))
      (pss_one (ps_ret (pe_callTy call_TupL (by rfl) T.f_tuple boot_tupleT (pa_cons (pe_callB call_SrtI (by rfl) T.f_sorted boot_sortedB (pa_cons (pv 1) pa_nil)) pa_nil)))))), ?_⟩
    try dsimp only [cxOf, Cx.nox, Cx.wish]
    obtain ⟨s, rfl, av, a, r, pv, tk, st, du, n, rfl, ⟨hr1, hp0, ok, gd, hn, hav⟩, hn1, q⟩ := h
    obtain ⟨pa, pdx, b, c, hv, rfl, h1, h2, h3, h4⟩ := id hp0
    have c0 := T.cl_Run
    have c1 := T.na_Run_duo
    have c2 := T.na_Run_tops
    have c3 := T.me_Run_keeps
    have ho := hr1.ob
    have o1 := ok.ub
    have l1' := gd.l1
    obtain ⟨as1, hd, hrows⟩ := hr1.tops
    lcg_src
    rename_i p0 G0 n0 S0 e0 p1 G1 S1 e1
    have S01 := S0.trans S1
    refine ⟨r.t, _, S01 _ _ hd, trivial, fun od Hl Cl el => ?_⟩
    have hd1 := S01 _ _ hd
    have ol : Hl a = some (.ins (ad K "Run") r.dx (runF (.ref pa) tk r st.noted st.gone)) := Cl _ _ (ne_tag (S01 _ _ ho) hd1 rfl) (S01 _ _ ho)
    have pl : PairV K Hl (.ref pa) du := cg_P Cl (sm_P S01 hp0) hd1 rfl
    have hrl : RowsAt av Hl as1 st.tops := hrows.imp fun b xs _ z => Cl _ _ (ne_tag (S01 _ _ z) hd1 rfl) (S01 _ _ z)
    have tl : TopsR av Hl r.t st.tops := ⟨as1, .inr ⟨_, el⟩, hrl⟩
    obtain ⟨n1, n2, n3, n4, n5, n6, n7, n8, n9, n10⟩ := nd5 hr1.nd
    have ll : TopsR av Hl r.l st.lows := ((hr1.lows.same S01).chg Cl hd1 rfl n1).rd
    have e0l : Hl p0 = some (.lst []) := Cl _ _ (ne_tag (S1 _ _ e0) hd1 rfl) (S1 _ _ e0)
    lcg_src
    refine ForG.vals (fun i σ' H' => (∃ l o3 o4, σ' = [some (.ref a), some (.ref l), some (.int du.ub), o3, o4] ∧ H' l = some (.lst (((st.tops.take i).flatMap fun p => aloneRow du st p.2).map V.int))) ∧ Same Hl H') ⟨⟨_, _, _, rfl, e0l⟩, Same.refl _⟩ (fun i σ' H' z => z.2 _ _ el) (fun i k v σ' H2 hk hp => ?_) (fun σ' H2 hp => ?_)
    · obtain ⟨⟨l, o3, o4, rfl, hl⟩, S2⟩ := hp
      obtain ⟨key, lr, ha, rfl, rfl⟩ := toK_at hk
      obtain ⟨row, hm, hal, hrow⟩ := hrl.at_ ha
      have hr2 := S2 _ _ hrow
      have hlen := gd.rt _ (List.mem_of_getElem? hm)
      have huw := ok.uw
      have hbig := gd.bt _ (List.mem_of_getElem? hm)
      lcg_src
      refine LcG.rowF (row := row) (sq_L hr2) (by simp only at hlen; omega) (fun x => !(hits du (lowP du (x * du.ub)) st)) (fun n2 H4 Y N hn3 S4 hy hn2 => ?_) (fun D G3 nD S3 hD => ?_)
      · have ol4 := S4 _ _ (S2 _ _ ol)
        have pl4 := sm_P (S2.trans S4) pl
        have tl4 := tl.same (S2.trans S4)
        have ll4 := ll.same (S2.trans S4)
        obtain ⟨bg0, bg1⟩ := hbig _ hn3
        lcg_src
        refine w_ite (fun e => ?_) (fun e => ?_)
        · lcg_src
          exact hy e _ (by kas_types)
        · exact hn2 e _ (by kas_types)
      · lcg_src
        have hr1000 : ∀ p ∈ st.tops.take i, p.2.length ≤ 1000 := fun p hp => by
          have h1 := gd.rt p (List.mem_of_mem_take hp)
          omega
        have z1 := flat_len (du := du) (s := st) hr1000
        have z2 : (st.tops.take i).length ≤ 100 := by
          rw [List.length_take]
          omega
        have z3 := List.length_filter_le (fun x => !hits du (lowP du (x * du.ub)) st) row
        simp only at hlen
        refine ⟨by rw [List.length_map, List.length_map]; exact Nat.le_trans (show _ ≤ 200000 by omega) (by decide), fun p9 G9 n9 S9 e9 => ?_⟩
        refine ⟨⟨_, _, _, rfl, ?_⟩, S2.trans (S3.trans S9)⟩
        rw [e9, flat_take hm, List.map_append]
        rfl
    · obtain ⟨⟨l, o3, o4, rfl, hl⟩, S2⟩ := hp
      refine ⟨S2 _ _ el, fun G3 C3 e3 => ?_⟩
      have tk1 : st.tops.take (toK V.ref as1).length = st.tops := by rw [len_toK, hrows.len, List.take_length]
      rw [tk1] at hl
      have hl3 := C3 _ _ (ne_tag hl (S2 _ _ el) rfl) hl
      have S13 := Same.unlock hd1 Cl S2 C3 e3
      lcg_src
      rename_i ns hp1 hp2 p4 G4 n4 S4 e4 p5 G5 S5 e5
      exact q _ _ ns (S01.trans (S13.trans (S4.trans S5))) hp1 hp2 e5
abbrev spRunOf (K : Fr0) : Sp := s2 fun p t H Q _ => ∃ du b row, t = .ref b ∧ PairV K H p du ∧ Duo.ok du ∧ SqT K H b (row.map V.int) ∧ (∀ x ∈ row, Big x) ∧ row.length ≤ 90 ∧
  ∀ z l a r av H', Same H H' → SqT K H' z [.ref a, .ref l] → RunAt K av H' a r p false (runS du false row) → FA av H' → Q (.ref z) H'
abbrev N_run_of : List Str := ["pair", "row", "found", "told", "place"]
abbrev P_run_of : List Str := ["pair", "row"]
theorem sc_run_of : FnScope N_run_of P_run_of (defScope s_run_of) := ⟨rfl, rfl, rfl, by decide +kernel, rfl, by decide +kernel, by decide +kernel⟩
theorem ok_run_of (T : Tx K mg) : FnR P w K mg base CX0 8 (ad K "run_of") (spRunOf K) := by
  obtain ⟨fd, F⟩ := T.fd_run_of
  refine fnr F (fun _ _ _ _ _ _ us hl => match us, hl with | [_, _], _ => rfl) sc_run_of (fun vs H Q E h => ?_) (fun cdv A outer s H vs Q E hr h => ?_)
  · first | exact l1 h | exact l0 h | exact l2 h | exact l3 h | exact l4 h | exact l5 h | exact l6 h
  · have hu := hu_of hr
    refine ⟨_, PSs.nox (pss_cons (ps_par (by rfl) sc_run_of.nd (i := 2) (j := 3) rfl rfl (by decide) rfl rfl (pa_cons (pe_mkS T.mk_Run (ok_Run_init1 T) (hr.mono (by decide)) (by rfl) T.g_Run (pa_cons (pv 0) pa_nil)) (pa_cons (pe_lstS pa_nil) pa_nil)) (by rfl))
      (pss_cons (ps_for PassesOwn.never rfl (pi_tup (pv 1)) (pg_name (i := 4) sc_run_of.nd rfl (Or.inl rfl)) (pss_one (ps_expr (pe_bm PySem.F.plainAttrs_list PySem.F.slot_list_append PySem.F.type_list_append mt_apps (pv 3) (pa_cons (pe_mt (pv 2) T.cl_Run T.me_Run_ask (ok_Run_ask T) (hr.mono (by decide)) pass0 (pa_cons (pv 4) pa_nil)) pa_nil)))))
      (pss_one (ps_ret (pe_tupS (pa_cons (pv 2) (pa_cons (pv 3) pa_nil))))))), ?_⟩
    try dsimp only [cxOf, Cx.nox, Cx.wish]
    obtain ⟨p, t, rfl, du, b, row, rfl, hp, ok, hb, hbig, hlen, q⟩ := h
    have c1 := T.me_Run_ask
    lcg_src
    rename_i x dx G0 nx ndx nex S0 ex r0 G1 nr C1 RX tl G2 ntl S2 etl
    have S01 : Same H G1 := Same.newc C1 S0 nx
    have S02 := S01.trans S2
    have ntl0 : H tl = none := free_of ntl S01
    have RX2 : RunAt K (fun b => b ≠ tl) G2 x r0 p false sh0 := (RX _).same S2
    refine ForG.tup (K := K) (fun i σ' H' => (∃ o4, σ' = [some p, some (.ref b), some (.ref x), some (.ref tl), o4]) ∧ Same H H' ∧ (∃ r', RunAt K (fun b => b ≠ tl) H' x r' p false (runS du false (row.take i)) ∧ ∀ c ∈ [x, r'.t, r'.l, r'.h, r'.m, r'.n], H c = none) ∧ ∃ vs, H' tl = some (.lst vs) ∧ vs.length = i) ⟨⟨_, rfl⟩, S02, ⟨r0, RX2, fun c hc => ?_⟩, [], etl, rfl⟩ (fun i σ' H' z => sm_T z.2.1 hb) (fun i v σ' H' hx hi => ?_) (fun σ' H' hi => ?_)
    · rcases List.mem_cons.mp hc with z | z
      · rw [z]
        exact nx
      · exact free_of (nr c z) S0
    · obtain ⟨⟨o4, rfl⟩, SH, ⟨r', R', own⟩, vs, hvs, hlv⟩ := hi
      have hx2 : ∃ n, v = .int n ∧ row[i]? = some n := by
        rw [List.getElem?_map] at hx
        cases e : row[i]? with
        | none => rw [e] at hx; cases hx
        | some n =>
          rw [e] at hx
          exact ⟨n, (Option.some.inj hx).symm, rfl⟩
      obtain ⟨n, rfl, hrn⟩ := hx2
      have hil := (List.getElem?_eq_some_iff.mp hrn).1
      have bg := hbig n (List.mem_of_getElem? hrn)
      have gd : Good du i (runS du false (row.take i)) := by
        have g := good_run (tk := false) ok (row.take i) 0 sh0 (good0 du) fun y hy => hbig y (List.mem_of_mem_take hy)
        rw [List.length_take, Nat.zero_add, Nat.min_eq_left (Nat.le_of_lt hil)] at g
        exact g
      have fa : FA (fun b => b ≠ tl) H' := fun c hc e => by
        rw [e, hvs] at hc
        cases hc
      have pre : RunPre K (fun b => b ≠ tl) H' x r' p false (runS du false (row.take i)) du i := ⟨R', sm_P SH hp, ok, gd, by omega, fa⟩
      have ob := R'.ob
      lcg_src
      refine And.intro (Or.inl ⟨rfl, _, sq_L hvs⟩) ?_
      lcg_src
      rename_i t' z H2 ht O2 R2 F2 hz
      have hv2 := O2 _ _ (R'.notlst hvs) hvs
      lcg_src
      refine ⟨Nat.lt_of_lt_of_le (show _ < 5000 by omega) (by decide), fun H3 C3 e3 => ?_⟩
      lcg_src
      refine ⟨⟨_, rfl⟩, ?_, ⟨{ r' with t := t' }, ?_, ?_⟩, _, e3, by simp [hlv]⟩
      · intro c o hc
        have h1 := SH c o hc
        have h2 := O2 c o (fun m => by
          have := own c m
          rw [this] at hc
          cases hc) h1
        exact C3 c o (ne_of_none hc ntl0) h2
      · rw [run_take hrn]
        exact R2.chl C3 ⟨_, hv2⟩ (fun c hc => hc)
      · intro c hc
        simp only [List.mem_cons, List.not_mem_nil, or_false] at hc
        rcases hc with z | z | z | z | z | z
        · exact own c (by simp [z])
        · rcases ht with w | w
          · exact own c (by simp [z, w])
          · rw [z]
            exact free_of w SH
        · exact own c (by simp [z])
        · exact own c (by simp [z])
        · exact own c (by simp [z])
        · exact own c (by simp [z])
    · obtain ⟨⟨o4, rfl⟩, SH, ⟨r', R', own⟩, vs, hvs, hlv⟩ := hi
      rw [List.length_map, List.take_length] at R'
      have fa : FA (fun b => b ≠ tl) H' := fun c hc e => by
        rw [e, hvs] at hc
        cases hc
      lcg_src
      rename_i z G5 S5 hz
      exact q z tl x r' _ G5 (SH.trans S5) hz (R'.same S5) (fa.same S5)
end
end
section
/-! The defs, part F: the least number of ways, by the program and by the law. -/
open PySem PySem.Spec PyProof.Rows L2
/-- the upper shelf's sets lie within the lower one's -/
def linked (du : Duo) : Bool := decide (du.us = 1) || (decide (du.ub = du.lb) && decide (du.ls % du.us = 0))
def leastM (du : Duo) : Option Int :=
  if linked du = true then
    if du.uw = 1 then some 1
    else match du.he with
      | .misses => none
      | .moved => some du.uw
      | .each n => if n = 0 then some du.uw else some (2 * du.uw + n - 2)
  else none
def optV : Option Int → V
  | none => .non
  | some i => .int i
theorem decV' {i j : Int} : decide (V.int i = V.int j) = decide (i = j) := decide_eq_decide.mpr ⟨fun z => V.int.inj z, fun z => congrArg V.int z⟩
theorem eqv_each (n : Int) : ([PyData.str "moved", .tuple [.str "each", .int 0]].any fun z => PyData.eqv z (.tuple [.str "each", .int n])) = decide (n = 0) := by
  by_cases h : n = 0
  · subst h
    rw [decide_eq_true rfl]
    with_unfolding_all rfl
  · rw [decide_eq_false h]
    have h2 : ((0 : Int) == n) = false := by
      rw [Bool.eq_false_iff]
      intro z
      exact h (beq_iff_eq.mp z).symm
    simp [PyData.eqv, PyData.eqvAll, h2, h]
    try omega
section
variable {P : Program} {w : World} {K : Fr0} {mg : Str → Option Value} {base : Heap}
abbrev spLinked (K : Fr0) : Sp := s1 fun p H Q _ => ∃ du, PairV K H p du ∧ Duo.ok du ∧ ∀ H', Same H H' → Q (.bl (linked du)) H'
abbrev N_is_linked : List Str := ["pair", "upper", "lower"]
abbrev P_is_linked : List Str := ["pair"]
theorem sc_is_linked : FnScope N_is_linked P_is_linked (defScope s_is_linked) := ⟨rfl, rfl, rfl, by decide +kernel, rfl, by decide +kernel, by decide +kernel⟩
theorem ok_is_linked (T : Tx K mg) : FnR P w K mg base CX0 3 (ad K "is_linked") (spLinked K) := by
  obtain ⟨fd, F⟩ := T.fd_is_linked
  refine fnr F (fun _ _ _ _ _ _ us hl => match us, hl with | [_], _ => rfl) sc_is_linked (fun vs H Q E h => ?_) (fun cdv A outer s H vs Q E hr h => ?_)
  · first | exact l1 h | exact l0 h | exact l2 h | exact l3 h | exact l4 h | exact l5 h | exact l6 h
  · have hu := hu_of hr
    refine ⟨_, PSs.nox (pss_cons (ps_par (by rfl) sc_is_linked.nd (i := 1) (j := 2) rfl rfl (by decide) rfl rfl (pa_cons (pe_pr (pv 0) T.cl_Pair T.pr_Pair_top (ok_Pair_top T) (hr.mono (by decide))) (pa_cons (pe_pr (pv 0) T.cl_Pair T.pr_Pair_bottom (ok_Pair_bottom T) (hr.mono (by decide))) pa_nil)) (by rfl))
      (pss_one (ps_ret (pe_or (pe_cmpR op_eq (pe_ix ix_tup (pv 1) pe_int (fun _ _ => rfl)) pe_int (nomark _)) (pe_one (pe_and (pe_cmpR op_eq (pe_ix ix_tup (pv 1) pe_int (fun _ _ => rfl)) (pe_ix ix_tup (pv 2) pe_int (fun _ _ => rfl)) (nomark _)) (pe_one (pe_cmpR op_eq (pe_op op_mod (pe_ix ix_tup (pv 2) pe_int (fun _ _ => rfl)) (pe_ix ix_tup (pv 1) pe_int (fun _ _ => rfl))) pe_int (nomark _))))))))), ?_⟩
    try dsimp only [cxOf, Cx.nox, Cx.wish]
    obtain ⟨p, rfl, du, ⟨pa, pdx, b, c, hv, rfl, h1, h2, h3, h4⟩, ok, q⟩ := h
    have o3 := ok.us
    lcg_src
    have hl : linked du = (decide (du.us = 1) || (decide (du.ub = du.lb) && decide (du.ls % du.us = 0))) := rfl
    rw [decV']
    refine w_ite (fun e1 => ?_) (fun e1 => ?_)
    · rw [hl, e1, Bool.true_or] at q
      exact q _ (by kas_types)
    · rw [hl, e1, Bool.false_or] at q
      lcg_src
      rw [decV']
      refine w_ite (fun e2 => ?_) (fun e2 => ?_)
      · rw [e2, Bool.true_and] at q
        lcg_src
        rw [decV']
        exact q _ (by kas_types)
      · rw [e2, Bool.false_and] at q
        exact q _ (by kas_types)
abbrev spWaysFor (K : Fr0) : Sp := s2 fun p h H Q _ => ∃ du, PairV K H p du ∧ Duo.ok du ∧ HeV K H h du.he ∧ ∀ H', Same H H' → Q (optV (leastM du)) H'
abbrev N_ways_for : List Str := ["pair", "hears", "ways"]
abbrev P_ways_for : List Str := ["pair", "hears"]
theorem sc_ways_for : FnScope N_ways_for P_ways_for (defScope s_ways_for) := ⟨rfl, rfl, rfl, by decide +kernel, rfl, by decide +kernel, by decide +kernel⟩
theorem ok_ways_for (T : Tx K mg) : FnR P w K mg base CX0 4 (ad K "ways_for") (spWaysFor K) := by
  obtain ⟨fd, F⟩ := T.fd_ways_for
  refine fnr F (fun _ _ _ _ _ _ us hl => match us, hl with | [_, _], _ => rfl) sc_ways_for (fun vs H Q E h => ?_) (fun cdv A outer s H vs Q E hr h => ?_)
  · first | exact l1 h | exact l0 h | exact l2 h | exact l3 h | exact l4 h | exact l5 h | exact l6 h
  · have hu := hu_of hr
    obtain ⟨tk_EACH, mc_EACH⟩ := T.c_EACH
    obtain ⟨tk_MISSES, mc_MISSES⟩ := T.c_MISSES
    obtain ⟨tk_MOVED, mc_MOVED⟩ := T.c_MOVED
    refine ⟨_, PSs.nox (pss_cons (ps_set (i := 2) sc_ways_for.nd rfl (Or.inl rfl) (pe_ix ix_tup (pe_pr (pv 0) T.cl_Pair T.pr_Pair_top (ok_Pair_top T) (hr.mono (by decide))) pe_int (fun _ _ => rfl)))
      (pss_cons (ps_if (pt_not (pt_val (pe_fn (ok_is_linked T) (hr.mono (by decide)) (by rfl) T.g_is_linked T.k_is_linked pass0 (pa_cons (pv 0) pa_nil)))) (pss_one (ps_ret pe_non)) pss_nil)
      (pss_cons (ps_if (pt_cmpR op_eq (pv 2) pe_int (nomark _)) (pss_one (ps_ret pe_int)) pss_nil)
      (pss_cons (ps_if (pt_cmpR (op_eqD hr.units) (pv 1) (pe_glob (v := .str "misses") rfl mc_MISSES ⟨_, rfl⟩) (nomark _)) (pss_one (ps_ret pe_non)) pss_nil)
      (pss_cons (ps_if (pt_cmpR (op_inTD (hu65 hr)) (pv 1) (pe_tupS (pa_cons (pe_glob (v := .str "moved") rfl mc_MOVED ⟨_, rfl⟩) (pa_cons (pe_tupS (pa_cons (pe_glob (v := .str "each") rfl mc_EACH ⟨_, rfl⟩) (pa_cons pe_int pa_nil))) pa_nil))) (by rfl)) (pss_one (ps_ret (pv 2))) pss_nil)
      (pss_one (ps_ret (pe_op op_sub (pe_op op_add (pe_op op_mul pe_int (pv 2)) (pe_ix ix_tup (pv 1) pe_int (fun _ _ => rfl))) pe_int)))))))), ?_⟩
    try dsimp only [cxOf, Cx.nox, Cx.wish]
    obtain ⟨p, h, rfl, du, hp, ok, hh, q⟩ := h
    obtain ⟨pa, pdx, b, c, hv, rfl, h1, h2, h3, h4⟩ := id hp
    lcg_src
    rename_i G1 S1
    unfold leastM at q
    refine w_ite (fun e1 => ?_) (fun e1 => ?_)
    · have e2 : linked du = false := by
        cases e : linked du with
        | false => rfl
        | true =>
          rw [e] at e1
          cases e1
      rw [if_neg (by rw [e2]; exact Bool.false_ne_true)] at q
      lcg_src
      exact q _ (by kas_types)
    · have e2 : linked du = true := by
        cases e : linked du with
        | true => rfl
        | false =>
          rw [e] at e1
          cases e1
      rw [if_pos e2] at q
      lcg_src
      rw [decV']
      refine w_ite (fun e3 => ?_) (fun e3 => ?_)
      · rw [if_pos (of_decide_eq_true e3)] at q
        lcg_src
        exact q _ (by kas_types)
      · rw [if_neg (of_decide_eq_false e3)] at q
        have hh2 := sm_Dp S1 hh
        cases e : du.he with
        | misses =>
          rw [e] at hh2 q
          cases hh2
          lcg_src
          exact q _ (by kas_types)
        | moved =>
          rw [e] at hh2 q
          cases hh2
          lcg_src
          exact q _ (by kas_types)
        | each n =>
          rw [e] at hh2 q
          obtain ⟨ha, hx⟩ : ∃ a', h = .ref a' ∧ SqT K G1 a' [.str "each", .int n] := by
            cases hh2 with
            | tup ha hx =>
              cases hx with
              | cons z1 hx =>
                cases z1
                cases hx with
                | cons z2 hx =>
                  cases z2
                  cases hx
                  exact ⟨_, rfl, ha⟩
          obtain ⟨rfl, hx⟩ := hx
          have ouw := ok.uw
          have ee : ([PyData.str "moved", .tuple [.str "each", .int 0]].any fun z => PyData.eqv z (Hears.each n).d) = decide (n = 0) := eqv_each n
          lcg_src
          rw [ee]
          refine w_ite (fun e5 => ?_) (fun e5 => ?_)
          · lcg_src
            rw [show (match Hears.each n with | .misses => none | .moved => some du.uw | .each n => if n = 0 then some du.uw else some (2 * du.uw + n - 2)) = (if n = 0 then some du.uw else some (2 * du.uw + n - 2)) from rfl, if_pos (of_decide_eq_true e5)] at q
            exact q _ (by kas_types)
          · rw [show (match Hears.each n with | .misses => none | .moved => some du.uw | .each n => if n = 0 then some du.uw else some (2 * du.uw + n - 2)) = (if n = 0 then some du.uw else some (2 * du.uw + n - 2)) from rfl, if_neg (of_decide_eq_false e5)] at q
            lcg_src
            exact q _ (by kas_types)
def enoughM (du : Duo) : Bool := match leastM du with
  | none => false
  | some m => decide (m ≤ du.lw)
abbrev spEnough (K : Fr0) : Sp := s2 fun p h H Q _ => ∃ du, PairV K H p du ∧ Duo.ok du ∧ HeV K H h du.he ∧ ∀ H', Same H H' → Q (.bl (enoughM du)) H'
abbrev N_is_enough : List Str := ["pair", "hears", "least"]
abbrev P_is_enough : List Str := ["pair", "hears"]
theorem sc_is_enough : FnScope N_is_enough P_is_enough (defScope s_is_enough) := ⟨rfl, rfl, rfl, by decide +kernel, rfl, by decide +kernel, by decide +kernel⟩
theorem ok_is_enough (T : Tx K mg) : FnR P w K mg base CX0 5 (ad K "is_enough") (spEnough K) := by
  obtain ⟨fd, F⟩ := T.fd_is_enough
  refine fnr F (fun _ _ _ _ _ _ us hl => match us, hl with | [_, _], _ => rfl) sc_is_enough (fun vs H Q E h => ?_) (fun cdv A outer s H vs Q E hr h => ?_)
  · first | exact l1 h | exact l0 h | exact l2 h | exact l3 h | exact l4 h | exact l5 h | exact l6 h
  · have hu := hu_of hr
    refine ⟨_, PSs.nox (pss_cons (ps_set (i := 2) sc_is_enough.nd rfl (Or.inl rfl) (pe_fn (ok_ways_for T) (hr.mono (by decide)) (by rfl) T.g_ways_for T.k_ways_for pass0 (pa_cons (pv 0) (pa_cons (pv 1) pa_nil))))
      (pss_one (ps_ret (pe_and (pe_cmpR op_notN (pv 2) pe_non (nomark _)) (pe_one (pe_cmpR op_ge (pe_ix ix_tup (pe_pr (pv 0) T.cl_Pair T.pr_Pair_bottom (ok_Pair_bottom T) (hr.mono (by decide))) pe_int (fun _ _ => rfl)) (pv 2) (nomark _))))))), ?_⟩
    try dsimp only [cxOf, Cx.nox, Cx.wish]
    obtain ⟨p, h, rfl, du, hp, ok, hh, q⟩ := h
    obtain ⟨pa, pdx, b, c, hv, rfl, h1, h2, h3, h4⟩ := id hp
    lcg_src
    rename_i G1 S1
    unfold enoughM at q
    cases e : leastM du with
    | none =>
      rw [e] at q
      lcg_src
      exact q _ (by kas_types)
    | some m =>
      rw [e] at q
      have e2 : optV (some m) = .int m := rfl
      rw [e2]
      lcg_src
      exact q _ (by kas_types)
abbrev spLeastL (K : Fr0) : Sp := s1 fun d H Q _ => ∃ du, DuoV K H d du ∧ Duo.ok du ∧ ∀ H', Same H H' → Q (optV (leastM du)) H'
abbrev N_q_least : List Str := ["_law_duo_here", "_law_sets", "_law_ways", "_law_span", "_law_under", "_law_many", "_law_wide", "_law_hears_here"]
abbrev P_q_least : List Str := ["_law_duo_here"]
theorem sc_q_least : FnScope N_q_least P_q_least (defScope s_q_least) := ⟨rfl, rfl, rfl, by decide +kernel, rfl, by decide +kernel, by decide +kernel⟩
theorem ok_q_least (T : Tx K mg) : FnR P w K mg base CX0 2 (ad K "_law_least") (spLeastL K) := by
  obtain ⟨fd, F⟩ := T.fd_q_least
  refine fnr F (fun _ _ _ _ _ _ us hl => match us, hl with | [_], _ => rfl) sc_q_least (fun vs H Q E h => ?_) (fun cdv A outer s H vs Q E hr h => ?_)
  · first | exact l1 h | exact l0 h | exact l2 h | exact l3 h | exact l4 h | exact l5 h | exact l6 h
  · have hu := hu_of hr
    refine ⟨_, PSs.nox (pss_cons (ps_asg (pv 0) (pg_tup (n := 3) rfl (pgs_cons (pg_tup (n := 3) rfl (pgs_cons (pg_name (i := 1) sc_q_least.nd rfl (Or.inl rfl)) (pgs_cons (pg_name (i := 2) sc_q_least.nd rfl (Or.inl rfl)) (pgs_cons (pg_name (i := 3) sc_q_least.nd rfl (Or.inl rfl)) pgs_nil)))) (pgs_cons (pg_tup (n := 3) rfl (pgs_cons (pg_name (i := 4) sc_q_least.nd rfl (Or.inl rfl)) (pgs_cons (pg_name (i := 5) sc_q_least.nd rfl (Or.inl rfl)) (pgs_cons (pg_name (i := 6) sc_q_least.nd rfl (Or.inl rfl)) pgs_nil)))) (pgs_cons (pg_name (i := 7) sc_q_least.nd rfl (Or.inl rfl)) pgs_nil)))))
      (pss_cons (ps_if (PW.pt (pw_and (pt_cmpR op_gt (pv 1) pe_int (nomark _)) (pw_and1 (PW.pt (pw_or (pt_cmpR op_ne (pv 3) (pv 6) (nomark _)) (pw_or1 (pt_cmpR op_ne (pe_fn (ok_q_lot T) (hr.mono (by decide)) (by rfl) T.g_q_lot T.k_q_lot pass0 (pa_cons (pv 4) (pa_cons (pv 1) pa_nil))) pe_int (nomark _)))))))) (pss_one (ps_ret pe_non)) pss_nil)
      (pss_cons (ps_if (pt_cmpR op_eq (pv 2) pe_int (nomark _)) (pss_one (ps_ret pe_int)) pss_nil)
      (pss_cons (ps_if (pt_cmpR (op_eqD hr.units) (pv 7) pe_str (nomark _)) (pss_one (ps_ret pe_non)) pss_nil)
      (pss_one (ps_ret (pe_ifExp (pt_cmpR (op_inD (hu65 hr)) (pv 7) (pe_lstS (pa_cons pe_str (pa_cons (pe_tupS (pa_cons pe_str (pa_cons pe_int pa_nil))) pa_nil))) (by rfl)) (pv 2) (pe_op op_sub (pe_op op_add (pe_op op_mul pe_int (pv 2)) (pe_ix ix_tup (pv 7) pe_int (fun _ _ => rfl))) pe_int)))))))), ?_⟩
    try dsimp only [cxOf, Cx.nox, Cx.wish]
    obtain ⟨d, rfl, du, hd, ok, q⟩ := h
    obtain ⟨b, u, l, hv, rfl, hb, hu1, hl, hh⟩ := hd.open
    have o3 := ok.us
    have lk : linked du = (decide (du.us = 1) || (decide (du.ub = du.lb) && decide (du.ls % du.us = 0))) := rfl
    unfold leastM at q
    by_cases hlk : linked du = true
    · rw [if_pos hlk] at q
      by_cases hu : du.us = 1
      · lcg_src
        rw [decide_eq_false (show ¬ 1 < du.us by omega)]
        lcg_src
        rw [decV']
        refine w_ite (fun e3 => ?_) (fun e3 => ?_)
        · rw [if_pos (of_decide_eq_true e3)] at q
          lcg_src
          exact q _ (by kas_types)
        · rw [if_neg (of_decide_eq_false e3)] at q
          cases e : du.he with
          | misses =>
            rw [e] at hh q
            cases hh
            lcg_src
            exact q _ (by kas_types)
          | moved =>
            rw [e] at hh q
            cases hh
            lcg_src
            exact q _ (by kas_types)
          | each n =>
            rw [e] at hh q
            obtain ⟨ha, rfl, hx⟩ : ∃ a', hv = .ref a' ∧ SqT K H a' [.str "each", .int n] := by
              cases hh with
              | tup ha hx =>
                cases hx with
                | cons z1 hx =>
                  cases z1
                  cases hx with
                  | cons z2 hx =>
                    cases z2
                    cases hx
                    exact ⟨_, rfl, ha⟩
            have ouw := ok.uw
            have ee : ([PyData.str "moved", .tuple [.str "each", .int 0]].any fun z => PyData.eqv z (Hears.each n).d) = decide (n = 0) := eqv_each n
            lcg_src
            rw [ee]
            refine w_ite (fun e5 => ?_) (fun e5 => ?_)
            · lcg_src
              rw [show (match Hears.each n with | .misses => none | .moved => some du.uw | .each n => if n = 0 then some du.uw else some (2 * du.uw + n - 2)) = (if n = 0 then some du.uw else some (2 * du.uw + n - 2)) from rfl, if_pos (of_decide_eq_true e5)] at q
              exact q _ (by kas_types)
            · rw [show (match Hears.each n with | .misses => none | .moved => some du.uw | .each n => if n = 0 then some du.uw else some (2 * du.uw + n - 2)) = (if n = 0 then some du.uw else some (2 * du.uw + n - 2)) from rfl, if_neg (of_decide_eq_false e5)] at q
              lcg_src
              exact q _ (by kas_types)
      · rw [lk, decide_eq_false hu, Bool.false_or, Bool.and_eq_true] at hlk
        have hb2 := of_decide_eq_true hlk.1
        have hm2 := of_decide_eq_true hlk.2
        lcg_src
        rw [decide_eq_true (show 1 < du.us by omega)]
        lcg_src
        rw [decV', decide_eq_true hb2]
        lcg_src
        rw [decV', decide_eq_true hm2]
        lcg_src
        rw [decV']
        refine w_ite (fun e3 => ?_) (fun e3 => ?_)
        · rw [if_pos (of_decide_eq_true e3)] at q
          lcg_src
          exact q _ (by kas_types)
        · rw [if_neg (of_decide_eq_false e3)] at q
          cases e : du.he with
          | misses =>
            rw [e] at hh q
            cases hh
            lcg_src
            exact q _ (by kas_types)
          | moved =>
            rw [e] at hh q
            cases hh
            lcg_src
            exact q _ (by kas_types)
          | each n =>
            rw [e] at hh q
            obtain ⟨ha, rfl, hx⟩ : ∃ a', hv = .ref a' ∧ SqT K H a' [.str "each", .int n] := by
              cases hh with
              | tup ha hx =>
                cases hx with
                | cons z1 hx =>
                  cases z1
                  cases hx with
                  | cons z2 hx =>
                    cases z2
                    cases hx
                    exact ⟨_, rfl, ha⟩
            have ouw := ok.uw
            have ee : ([PyData.str "moved", .tuple [.str "each", .int 0]].any fun z => PyData.eqv z (Hears.each n).d) = decide (n = 0) := eqv_each n
            lcg_src
            rw [ee]
            refine w_ite (fun e5 => ?_) (fun e5 => ?_)
            · lcg_src
              rw [show (match Hears.each n with | .misses => none | .moved => some du.uw | .each n => if n = 0 then some du.uw else some (2 * du.uw + n - 2)) = (if n = 0 then some du.uw else some (2 * du.uw + n - 2)) from rfl, if_pos (of_decide_eq_true e5)] at q
              exact q _ (by kas_types)
            · rw [show (match Hears.each n with | .misses => none | .moved => some du.uw | .each n => if n = 0 then some du.uw else some (2 * du.uw + n - 2)) = (if n = 0 then some du.uw else some (2 * du.uw + n - 2)) from rfl, if_neg (of_decide_eq_false e5)] at q
              lcg_src
              exact q _ (by kas_types)
    · rw [if_neg hlk] at q
      have hlk2 : linked du = false := by
        cases e : linked du with
        | false => rfl
        | true => exact absurd e hlk
      rw [lk, Bool.or_eq_false_iff] at hlk2
      have hu := of_decide_eq_false hlk2.1
      lcg_src
      rw [decide_eq_true (show 1 < du.us by omega)]
      lcg_src
      rw [decV']
      by_cases hb2 : du.ub = du.lb
      · have hm2 : ¬ du.ls % du.us = 0 := by
          intro z
          rw [decide_eq_true hb2, decide_eq_true z] at hlk2
          exact absurd hlk2.2 (by decide)
        rw [decide_eq_true hb2]
        lcg_src
        rw [decV', decide_eq_false hm2]
        lcg_src
        exact q _ (by kas_types)
      · rw [decide_eq_false hb2]
        lcg_src
        exact q _ (by kas_types)
end
end
section
/-! The defs, part G: the law's own reckoning. -/
open PySem PySem.Spec PyProof.Rows L2
theorem topsR_get {av : Addr → Prop} {H : Hp} {d : Addr} {m : Rows} {k : Int} {Q : VK} (h : TopsR av H d m) (e : (getA m k).isSome = true) (q : ∀ l, av l → H l = some (.lst ((getR m k).map V.int)) → Q (.ref l) H) : GetK (.ref d) (.int k) H Q := by
  obtain ⟨as1, h1, h2⟩ := h
  unfold getR at q
  rcases h2.get k with ⟨e1, e2⟩ | ⟨l, row, e1, e2, e3, e4⟩
  · rw [e2] at e
    cases e
  · rw [e2] at q
    refine ⟨d, .ref l, rfl, ?_, q l e3 e4⟩
    have e5 : some (V.ref l) = valV (toK V.ref as1) (Sum.inl k) := by
      rw [val_toK, e1]
      rfl
    exact .inl ⟨_, Sum.inl k, h1, rfl, e5⟩
/-- a list that is none of these changes -/
theorem TopsR.chl {av : Addr → Prop} {H H' : Hp} {a d : Addr} {m : Rows} (C : Chg a H H') (hl : ∃ xs, H a = some (.lst xs)) (n : ∀ b, av b → b ≠ a) (h : TopsR av H d m) : TopsR av H' d m := by
  obtain ⟨as1, h1, h2⟩ := h
  obtain ⟨xs, hl⟩ := hl
  refine ⟨as1, ?_, h2.imp fun b ys hb e => C _ _ (n b hb) e⟩
  rcases h1 with h1 | ⟨o, h1⟩
  · exact .inl (C _ _ (ne_tag h1 hl rfl) h1)
  · exact .inr ⟨o, C _ _ (ne_tag h1 hl rfl) h1⟩
theorem TopsAt.ne {av : Addr → Prop} {H : Hp} {d f : Addr} {m : Rows} (n : H f = none) (h : TopsAt av H d m) : TopsAt (fun b => b ≠ f) H d m := by
  obtain ⟨as1, h1, h2⟩ := h
  refine ⟨as1, h1, ?_⟩
  clear h1
  induction h2 with
  | nil => exact .nil
  | cons x y ih => exact .cons ⟨x.1, ne_of_none x.2.2 n, x.2.2⟩ ih
theorem getA_at {β : Type} {m : List (Int × β)} {i : Nat} {k : Int} {v : β} (nd : (m.map (·.1)).Nodup) (h : m[i]? = some (k, v)) : getA m k = some v := by
  induction m generalizing i with
  | nil => simp at h
  | cons p r ih =>
    rw [List.map_cons, List.nodup_cons] at nd
    cases i with
    | zero =>
      have e : p = (k, v) := by simpa using h
      rw [e]
      exact getA_pos rfl
    | succ j =>
      have h2 : r[j]? = some (k, v) := by simpa using h
      have hne : ¬ p.1 = k := by
        intro e
        exact nd.1 (List.mem_map.mpr ⟨(k, v), List.mem_of_getElem? h2, e.symm⟩)
      rw [getA_neg hne]
      exact ih nd.2 h2
theorem alone_take {du : Duo} {s : Sh} {row : List Int} {j : Nat} {x : Int} (h : row[j]? = some x) : aloneRow du s (row.take (j + 1)) = aloneRow du s (row.take j) ++ (if (!(hits du (lowP du (x * du.ub)) s)) = true then [x] else []) := by
  unfold aloneRow
  rw [List.take_add_one, h, List.filter_append]
  congr 1
  show List.filter (fun x => !(hits du (lowP du (x * du.ub)) s)) [x] = _
  rw [List.filter_cons, List.filter_nil]
theorem row_at {row : List Int} {i : Nat} {v : V} (hx : (row.map V.int)[i]? = some v) : ∃ n, v = .int n ∧ row[i]? = some n := by
  rw [List.getElem?_map] at hx
  cases e : row[i]? with
  | none => rw [e] at hx; cases hx
  | some n =>
    rw [e] at hx
    exact ⟨n, (Option.some.inj hx).symm, rfl⟩
section
variable {P : Program} {w : World} {K : Fr0} {mg : Str → Option Value} {base : Heap}
abbrev spLonelyL (K : Fr0) : Sp := s3 fun d t l H Q _ => ∃ av du dt dl s n, DuoV K H d du ∧ Duo.ok du ∧ t = .ref dt ∧ l = .ref dl ∧ dl ≠ dt ∧ TopsAt av H dt s.tops ∧ TopsAt av H dl s.lows ∧ Good du n s ∧ n ≤ 100 ∧
  ∀ z H' (ns : List Int), Same H H' → ns.Perm (lonelyM du s) → ns.Pairwise (· ≤ ·) → SqT K H' z (ns.map V.int) → Q (.ref z) H'
abbrev N_q_lonely : List Str := ["_law_duo_here", "_law_tops", "_law_lows", "_law_found", "_law_span", "_law_under", "_law_many", "_law_wide", "_law_spot", "_law_piece", "_law_low"]
abbrev P_q_lonely : List Str := ["_law_duo_here", "_law_tops", "_law_lows"]
theorem sc_q_lonely : FnScope N_q_lonely P_q_lonely (defScope s_q_lonely) := ⟨rfl, rfl, rfl, by decide +kernel, rfl, by decide +kernel, by decide +kernel⟩
theorem ok_q_lonely (T : Tx K mg) : FnR P w K mg base CX0 2 (ad K "_law_lonely") (spLonelyL K) := by
  obtain ⟨fd, F⟩ := T.fd_q_lonely
  refine fnr F (fun _ _ _ _ _ _ us hl => match us, hl with | [_, _, _], _ => rfl) sc_q_lonely (fun vs H Q E h => ?_) (fun cdv A outer s H vs Q E hr h => ?_)
  · first | exact l1 h | exact l0 h | exact l2 h | exact l3 h | exact l4 h | exact l5 h | exact l6 h
  · have hu := hu_of hr
    refine ⟨_, PSs.nox (pss_cons (ps_asg (pe_tupS (pa_cons (pe_lstS pa_nil) (pa_cons (pe_ix ix_tup (pe_ix ix_tup (pv 0) pe_int (fun _ _ => rfl)) pe_int (fun _ _ => rfl)) (pa_cons (pe_ix ix_tup (pv 0) pe_int (fun _ _ => rfl)) pa_nil)))) (pg_tup (n := 3) rfl (pgs_cons (pg_name (i := 3) sc_q_lonely.nd rfl (Or.inl rfl)) (pgs_cons (pg_name (i := 4) sc_q_lonely.nd rfl (Or.inl rfl)) (pgs_cons (pg_tup (n := 3) rfl (pgs_cons (pg_name (i := 5) sc_q_lonely.nd rfl (Or.inl rfl)) (pgs_cons (pg_name (i := 6) sc_q_lonely.nd rfl (Or.inl rfl)) (pgs_cons (pg_name (i := 7) sc_q_lonely.nd rfl (Or.inl rfl)) pgs_nil)))) pgs_nil)))))
      (pss_cons (ps_lockS (ps_for PassesOwn.never rfl (pi_keys (pv 1)) (pg_name (i := 8) sc_q_lonely.nd rfl (Or.inl rfl)) (pss_one (ps_for PassesOwn.never rfl (pi_list (pe_dget hu (pv 1) (pv 8) (fun _ _ => rfl))) (pg_name (i := 9) sc_q_lonely.nd rfl (Or.inl rfl)) (pss_cons (ps_set (i := 10) sc_q_lonely.nd rfl (Or.inl rfl) (pe_op op_fdivW (pe_op op_mulW (pv 9) (pv 4)) (pv 7)))
      (pss_one (ps_if (pt_cmpR op_notIn_seq (pv 10) (pe_dget2 hu (pv 2) (pe_fn (ok_q_lot T) (hr.mono (by decide)) (by rfl) T.g_q_lot T.k_q_lot pass0 (pa_cons (pv 10) (pa_cons (pv 5) pa_nil))) (pe_lstS pa_nil) ⟨by rfl, by rfl, by rfl, by rfl⟩) (by rfl)) (pss_one (ps_expr (pe_bm PySem.F.plainAttrs_list PySem.F.slot_list_append PySem.F.type_list_append mt_apps (pv 3) (pa_cons (pv 9) pa_nil)))) pss_nil)))))))
      (pss_one (ps_ret (pe_callTy call_TupL (by rfl) T.f_tuple boot_tupleT (pa_cons (pe_callB call_SrtI (by rfl) T.f_sorted boot_sortedB (pa_cons (pv 3) pa_nil)) pa_nil)))))), ?_⟩
    try dsimp only [cxOf, Cx.nox, Cx.wish]
    obtain ⟨d, t, l, rfl, av, du, dt, dl, s, n, hd, ok, rfl, rfl, hne, ht, hl, gd, hn, q⟩ := h
    obtain ⟨b, u, lo, hv, rfl, hb, hu1, hlo, hh⟩ := hd.open
    have o1 := ok.ub
    have o2 := ok.lb
    have o3 := ok.ls
    have l1' := gd.l1
    lcg_src
    rename_i f G0 nf S0 ef p1 G1 S1 e1
    have S01 := S0.trans S1
    have t1 := (ht.ne nf).same S01
    have l1 := (hl.ne nf).same S01
    obtain ⟨as1, hd1, hrows⟩ := t1
    refine ⟨dt, _, hd1, trivial, fun od Hl Cl el => ?_⟩
    have hrl : RowsAt (fun b => b ≠ f) Hl as1 s.tops := hrows.imp fun b xs _ z => Cl _ _ (ne_tag z hd1 rfl) z
    have tl : TopsR (fun b => b ≠ f) Hl dt s.tops := ⟨as1, .inr ⟨_, el⟩, hrl⟩
    have ll : TopsR (fun b => b ≠ f) Hl dl s.lows := (l1.chg Cl hd1 rfl hne).rd
    have efl : Hl f = some (.lst []) := Cl _ _ (ne_tag (S1 _ _ ef) hd1 rfl) (S1 _ _ ef)
    have lot := 0
    lcg_src
    refine .inl ⟨_, el, ?_⟩
    refine ForG.keys (fun i σ' H' => (∃ o8 o9 o10, σ' = [some (.ref b), some (.ref dt), some (.ref dl), some (.ref f), some (.int du.ub), some (.int du.ls), some (.int du.lw), some (.int du.lb), o8, o9, o10]) ∧ Chg f Hl H' ∧ H' f = some (.lst (((s.tops.take i).flatMap fun p => aloneRow du s p.2).map V.int))) ⟨⟨_, _, _, rfl⟩, Chg.refl _ _, efl⟩ (fun i σ' H' z => z.2.1 _ _ (ne_tag el efl rfl) el) (fun i k v σ' H2 hk hp => ?_) (fun σ' H2 hp => ?_)
    · obtain ⟨⟨o8, o9, o10, rfl⟩, C2, f2⟩ := hp
      obtain ⟨key, lr, ha, rfl, rfl⟩ := toK_at hk
      obtain ⟨row, hm, hal, hrow⟩ := hrl.at_ ha
      have hlen := gd.rt _ (List.mem_of_getElem? hm)
      have huw := ok.uw
      have hbig := gd.bt _ (List.mem_of_getElem? hm)
      have eg := getA_at gd.nt hm
      have er : getR s.tops key = row := by
        unfold getR
        rw [eg]
        rfl
      have t2 := tl.chl C2 ⟨_, efl⟩ (fun b h => h)
      lcg_src
      refine topsR_get (k := key) t2 (by rw [eg]; rfl) (fun l2 hl2 e2 => ?_)
      rw [er] at e2
      lcg_src
      refine ForG.list (K := K) (xs := row.map V.int) (fun j σ' H' => (∃ o8 o9 o10, σ' = [some (.ref b), some (.ref dt), some (.ref dl), some (.ref f), some (.int du.ub), some (.int du.ls), some (.int du.lw), some (.int du.lb), o8, o9, o10]) ∧ Chg f H2 H' ∧ H' f = some (.lst (((s.tops.take i).flatMap fun p => aloneRow du s p.2).map V.int ++ (aloneRow du s (row.take j)).map V.int))) ⟨⟨_, _, _, rfl⟩, Chg.refl _ _, ?_⟩ (fun j σ' H' z => sq_L (z.2.1 _ _ hl2 e2)) (fun j x σ' H3 hx hp => ?_) (fun σ' H3 hp => ?_)
      · rw [f2]
        simp [aloneRow]
      · obtain ⟨⟨q8, q9, q10, rfl⟩, C3, f3⟩ := hp
        obtain ⟨n2, rfl, hn2⟩ := row_at hx
        obtain ⟨bg0, bg1⟩ := hbig n2 (List.mem_of_getElem? hn2)
        have ll3 := (ll.chl C2 ⟨_, efl⟩ (fun b h => h)).chl C3 ⟨_, f2⟩ (fun b h => h)
        have il3 := ll3.isD
        lcg_src
        rename_i p5 G5 n5 S5 e5
        refine topsR_getD (ll3.same S5) e5 (fun l6 e6 => ?_)
        lcg_src
        rw [inV_ints]
        have f5 := S5 _ _ f3
        have hr1000 : ∀ p ∈ s.tops.take i, p.2.length ≤ 1000 := fun p hp => by
          have h1 := gd.rt p (List.mem_of_mem_take hp)
          omega
        have z1 := flat_len (du := du) (s := s) hr1000
        have z2 : (s.tops.take i).length ≤ 100 := by
          rw [List.length_take]
          omega
        have z3 := List.length_filter_le (fun x => !(hits du (lowP du (x * du.ub)) s)) (row.take j)
        have z4 : (row.take j).length ≤ row.length := by
          rw [List.length_take]
          omega
        refine w_ite (fun e => ?_) (fun e => ?_)
        · lcg_src
          refine And.intro (Or.inl ⟨rfl, _, sq_L f5⟩) ?_
          lcg_src
          refine ⟨by rw [List.length_append, List.length_map, List.length_map]; exact Nat.lt_of_le_of_lt (show _ ≤ 200000 by unfold aloneRow at *; simp only at hlen; omega) (by decide), fun H6 C6 e7 => ?_⟩
          lcg_src
          refine ⟨⟨_, _, _, rfl⟩, (C3.trans (SW.Same.chg S5)).trans C6, ?_⟩
          rw [e7, alone_take hn2, if_pos (show (!(hits du (lowP du (n2 * du.ub)) s)) = true from e), List.map_append, List.append_assoc]
          rfl
        · lcg_src
          refine ⟨⟨_, _, _, rfl⟩, C3.trans (SW.Same.chg S5), ?_⟩
          rw [f5, alone_take hn2, if_neg (by rw [show (!(hits du (lowP du (n2 * du.ub)) s)) = false from e]; exact Bool.false_ne_true), List.append_nil]
      · obtain ⟨⟨q8, q9, q10, rfl⟩, C3, f3⟩ := hp
        rw [List.length_map, List.take_length] at f3
        refine ⟨⟨_, _, _, rfl⟩, C2.trans C3, ?_⟩
        rw [f3, flat_take hm, List.map_append]
    · obtain ⟨⟨q8, q9, q10, rfl⟩, C2, f2⟩ := hp
      have tk1 : s.tops.take (toK V.ref as1).length = s.tops := by rw [len_toK, hrows.len, List.take_length]
      rw [tk1] at f2
      have elt := C2 _ _ (ne_tag el efl rfl) el
      refine ⟨elt, fun G3 C3 e3 => ?_⟩
      have hl3 := C3 _ _ (ne_tag f2 elt rfl) f2
      have S13 : Same G0 G3 ∨ True := .inr True.intro
      have SS : Same H G3 := fun c o hc => by
        have h1 := S01 c o hc
        by_cases hcd : c = dt
        · subst hcd
          rw [hd1] at h1
          rw [← h1]
          exact e3
        · exact C3 c o hcd (C2 c o (ne_of_none hc nf) (Cl c o hcd h1))
      lcg_src
      rename_i ns hp1 hp2 p4 G4 n4 S4 e4 p5 G5 S5 e5
      exact q _ _ ns (SS.trans (S4.trans S5)) hp1 hp2 e5
end
end
section
/-! The law's run of shelves: what it stands on, the taking back. -/
open PySem PySem.Spec PyProof.Rows L2
def stAt (l : List Stmt) (i : Nat) : Stmt := l.getD i (.Pass ⟨0, 0, 0, 0⟩)
def stBody : Stmt → List Stmt
  | .For _ _ b _ _ => b
  | .If _ b _ _ => b
  | _ => []
/-- five dicts that hold a state -/
structure Five (av : Addr → Prop) (H : Hp) (r : RA) (s : Sh) : Prop where
  tops : TopsAt av H r.t s.tops
  lows : TopsAt av H r.l s.lows
  heard : NumsAt H r.h s.heard
  missed : NumsAt H r.m s.missed
  newest : NumsAt H r.n s.newest
  nd : [r.t, r.l, r.h, r.m, r.n].Nodup
section
variable {av : Addr → Prop} {H H' : Hp} {x : Addr} {r : RA} {s : Sh} {u : HO} {m : Rows} {nm : Nums}
theorem Five.same (S : Same H H') (h : Five av H r s) : Five av H' r s := ⟨h.tops.same S, h.lows.same S, S _ _ h.heard, S _ _ h.missed, S _ _ h.newest, h.nd⟩
theorem Five.chl (C : Chg x H H') (hl : ∃ xs, H x = some (.lst xs)) (n : ∀ b, av b → b ≠ x) (h : Five av H r s) : Five av H' r s := by
  have hl2 := hl
  obtain ⟨xs, hl2⟩ := hl2
  exact ⟨h.tops.chl C hl n, h.lows.chl C hl n, C _ _ (ne_tag h.heard hl2 rfl) h.heard, C _ _ (ne_tag h.missed hl2 rfl) h.missed, C _ _ (ne_tag h.newest hl2 rfl) h.newest, h.nd⟩
theorem Five.putL (h : Five av H r s) (C : Chg r.l H H') (T : TopsAt av H' r.l m) : Five av H' r { s with lows := m } := by
  obtain ⟨n1, n2, n3, n4, n5, n6, n7, n8, n9, n10⟩ := nd5 h.nd
  obtain ⟨kvs, hk⟩ := h.lows.has
  exact ⟨h.tops.chg C hk rfl n1.symm, T, C _ _ n5 h.heard, C _ _ n6 h.missed, C _ _ n7 h.newest, h.nd⟩
theorem Five.putT (h : Five av H r s) (C : Chg r.t H H') (T : TopsAt av H' r.t m) : Five av H' r { s with tops := m } := by
  obtain ⟨n1, n2, n3, n4, n5, n6, n7, n8, n9, n10⟩ := nd5 h.nd
  obtain ⟨kvs, hk⟩ := h.tops.has
  exact ⟨T, h.lows.chg C hk rfl n1, C _ _ n2 h.heard, C _ _ n3 h.missed, C _ _ n4 h.newest, h.nd⟩
theorem Five.putH (h : Five av H r s) (C : Chg r.h H H') (T : NumsAt H' r.h nm) : Five av H' r { s with heard := nm } := by
  obtain ⟨n1, n2, n3, n4, n5, n6, n7, n8, n9, n10⟩ := nd5 h.nd
  have hk := h.heard
  exact ⟨h.tops.chg C hk rfl n2.symm, h.lows.chg C hk rfl n5.symm, T, C _ _ n8 h.missed, C _ _ n9 h.newest, h.nd⟩
theorem Five.putM (h : Five av H r s) (C : Chg r.m H H') (T : NumsAt H' r.m nm) : Five av H' r { s with missed := nm } := by
  obtain ⟨n1, n2, n3, n4, n5, n6, n7, n8, n9, n10⟩ := nd5 h.nd
  have hk := h.missed
  exact ⟨h.tops.chg C hk rfl n3.symm, h.lows.chg C hk rfl n6.symm, C _ _ n8.symm h.heard, T, C _ _ n10 h.newest, h.nd⟩
theorem Five.putN (h : Five av H r s) (C : Chg r.n H H') (T : NumsAt H' r.n nm) : Five av H' r { s with newest := nm } := by
  obtain ⟨n1, n2, n3, n4, n5, n6, n7, n8, n9, n10⟩ := nd5 h.nd
  have hk := h.newest
  exact ⟨h.tops.chg C hk rfl n4.symm, h.lows.chg C hk rfl n7.symm, C _ _ n9.symm h.heard, C _ _ n10.symm h.missed, T, h.nd⟩
end
theorem putA_mid {β : Type} {A B : List (Int × β)} {k : Int} {v w : β} (nA : k ∉ A.map (·.1)) (nB : k ∉ B.map (·.1)) : putA (A ++ (k, v) :: B) k w = A ++ (k, w) :: B := by
  have h : ((A ++ (k, v) :: B).any fun kv => decide (kv.1 = k)) = true := List.any_eq_true.mpr ⟨(k, v), by simp, decide_eq_true rfl⟩
  have id : ∀ L : List (Int × β), k ∉ L.map (·.1) → (L.map fun kv => if kv.1 = k then (kv.1, w) else kv) = L := fun L nL => by
    refine (List.map_congr_left (g := id) fun p hp => ?_).trans (List.map_id L)
    exact if_neg fun z => nL (List.mem_map.mpr ⟨p, hp, z⟩)
  unfold putA
  rw [if_pos h, List.map_append, List.map_cons, id A nA, id B nB]
  show A ++ (if k = k then (k, w) else (k, v)) :: B = _
  rw [if_pos rfl]
theorem getA_mid {β : Type} {A B : List (Int × β)} {k : Int} {v : β} (nA : k ∉ A.map (·.1)) : getA (A ++ (k, v) :: B) k = some v := by
  induction A with
  | nil => exact getA_pos rfl
  | cons p r ih =>
    rw [List.map_cons, List.mem_cons, not_or] at nA
    rw [List.cons_append, getA_neg (fun z => nA.1 z.symm)]
    exact ih nA.2
abbrev stR (a0 b : Addr) (tk : Bool) (du : Duo) (hv : V) (r : RA) (lw : Addr) : L2.St := [some (.ref a0), some (.ref b), some (.bl tk), some (.int du.us), some (.int du.uw), some (.int du.ub), some (.int du.ls), some (.int du.lw), some (.int du.lb), some hv, some (.ref r.t), some (.ref r.l), some (.ref r.h), some (.ref r.m), some (.ref r.n), some (.ref lw)]
section
variable {P : Program} {w : World} {K : Fr0} {mg : Str → Option Value} {base : Heap}
abbrev N_q_run : List Str := (["_law_duo_here", "_law_row", "_law_takes", "_law_sets", "_law_ways", "_law_span", "_law_under", "_law_many", "_law_wide", "_law_hears_here", "_law_tops", "_law_lows", "_law_heard", "_law_missed", "_law_newest", "_law_words", "_law_notes", "_law_gone", "_law_at", "_law_place_here"] : List Str) ++ (["_law_piece", "_law_low", "_law_spot", "_law_cell", "_law_deep", "_law_is_hit", "_law_since", "_law_lost", "_law_spots_here", "_law_each", "_law_kept", "_law_own", "_law_one"] : List Str)
abbrev P_q_run : List Str := ["_law_duo_here", "_law_row", "_law_takes"]
theorem sc_q_run : FnScope N_q_run P_q_run (defScope s_q_run) := ⟨rfl, rfl, rfl, by decide +kernel, rfl, by decide +kernel, by decide +kernel⟩
theorem part_run1 (T : Tx K mg) {f : Addr} {cdv : Value} {A : Around} {outer : List Env} {s : Shared} {HE : Hp} {E : XK} (hr : Room 2 (A.deeper (envOfC "_law_run" (defScope s_q_run) s.heap.objs.size f cdv)))  :
    ∃ t, PSs (cxOf CX0 P w K mg base N_q_run "_law_run" (defScope s_q_run) f cdv A outer s HE E).nox (stBody (stAt (stBody (stAt (stBody (stAt (defBody s_q_run) 3)) 6)) 0)) t ∧ ∀ (D : Ends) (H : Hp) (av : Addr → Prop) (r : RA) (a0 b : Addr) (tk : Bool) (du : Duo) (hv : V) (lw l ld : Addr) (st : Sh) (piece low spot cell : Int) (hit : Bool) (deep : List Int) (o18 o19 o26 o27 o28 o29 o30 o31 o32 : Option V) (n : Nat), Duo.ok du → Good du n st → n ≤ 2000 → Five av H r st → FA av H → H ld = some (.lst (deep.map V.int)) → 0 < deep.length → deep.length ≤ 1000 → (∀ H' ld' o27 o28 o29 o30 o32, Chg r.t H H' → H' ld' = some (.lst (deep.tail.map V.int)) → FA av H' → Five av H' r (if tk = true then takeBack du (deep.headD 0) st else st) → D.nx (stR a0 b tk du hv r lw ++ [some (.ref l), some (.int ((if tk = true then takeBack du (deep.headD 0) st else st).gone : Nat)), o18, o19, some (.int piece), some (.int low), some (.int spot), some (.int cell), some (.ref ld'), some (.bl hit), o26, o27, o28, o29, o30, o31, o32]) H') → t D (stR a0 b tk du hv r lw ++ [some (.ref l), some (.int (st.gone : Nat)), o18, o19, some (.int piece), some (.int low), some (.int spot), some (.int cell), some (.ref ld), some (.bl hit), o26, o27, o28, o29, o30, o31, o32]) H := by
  have hu := hu_of hr
  refine ⟨_, (pss_cons (ps_asg (pe_tupS (pa_cons (pe_ix ix_list (pv 24) pe_int (fun _ _ => rfl)) (pa_cons (pe_slice sl_Ls (pv 24) (po_some pe_int) po_none) pa_nil))) (pg_tup (n := 2) rfl (pgs_cons (pg_name (i := 27) sc_q_run.nd rfl (Or.inr rfl)) (pgs_cons (pg_name (i := 24) sc_q_run.nd rfl (Or.inl rfl)) pgs_nil))))
      (pss_cons (ps_set (i := 28) sc_q_run.nd rfl (Or.inl rfl) (pe_ifExp (pt_val (pv 2)) (pe_callTy (call_ListDs rfl) (by rfl) T.f_list boot_listT (pa_cons (pv 10) pa_nil)) (pe_lstS pa_nil)))
      (pss_one (ps_for PassesOwn.never rfl (pi_list (pv 28)) (pg_name (i := 29) sc_q_run.nd rfl (Or.inl rfl)) (pss_cons (ps_setLc (i := 30) (own := [("_law_one", 32)]) (g := gName 32)  rfl sc_q_run.nd rfl rfl (sw_true rfl rfl rfl (by decide +kernel)) (pi_list (pe_dget hu (pv 10) (pv 29) (fun _ _ => rfl))) (blkOk_by (N := N_q_run) (sc := defScope s_q_run) (by decide +kernel)) (fun _ _ _ _ _ => (pg_name (i := 32) sc_q_run.nd rfl (Or.inl rfl))) (fun _ _ _ _ _ => (pts_one (pt_cmpR op_ne (pe_op op_fdivW (pe_op op_mulW (pv 32) (pv 5)) (pv 8)) (pv 27) (nomark _)))) (fun _ _ _ _ _ => (pv 32)))
      (pss_one (ps_asg (pe_tupS (pa_cons (pe_op op_sub (pe_op op_add (pv 17) (pe_callB call_LenL (by rfl) T.f_len boot_lenB (pa_cons (pe_dget hu (pv 10) (pv 29) (fun _ _ => rfl)) pa_nil))) (pe_callB call_LenL (by rfl) T.f_len boot_lenB (pa_cons (pv 30) pa_nil))) (pa_cons (pv 30) pa_nil))) (pg_tup (n := 2) rfl (pgs_cons (pg_name (i := 17) sc_q_run.nd rfl (Or.inl rfl)) (pgs_cons (pg_sub (pv 10) (pv 29) (set_Ds hu)) pgs_nil)))))))))), ?_⟩
  try dsimp only [cxOf, Cx.nox, Cx.wish]
  intro D H av r a0 b tk du hv lw l ld st piece low spot cell hit deep o18 o19 o26 o27 o28 o29 o30 o31 o32 n ok gd hn R fa hld hl0 hl1 q
  have o1 := ok.ub
  have o2 := ok.lb
  obtain ⟨y, rest, rfl⟩ : ∃ y rest, deep = y :: rest := by
    cases deep with
    | nil => cases hl0
    | cons y rest => exact ⟨y, rest, rfl⟩
  have hld' : H ld = some (.lst (.int y :: rest.map V.int)) := hld
  clear hld
  lcg_src
  refine w_ixL (sq_L hld') (atI_nat (j := 0) rfl) ?_
  lcg_src
  rename_i pd G1 n1 S1 e1 pt G2 S2 e2
  rw [cut_tail] at e1
  have R2 := R.same (S1.trans S2)
  have C2 : Chg r.t H G2 := SW.Same.chg (S1.trans S2)
  have e1' := S2 _ _ e1
  cases tk with
  | false =>
    lcg_src
    rename_i p3 G3 n3 S3 e3
    refine ForG.list (K := K) (fun _ σ' H' => σ' = _ ∧ H' = G3) ⟨rfl, rfl⟩ (fun _ _ H' z => by rw [z.2]; exact sq_L e3) (fun i x σ' H' hx _ => by simp at hx) (fun σ' H' z => ?_)
    obtain ⟨rfl, rfl⟩ := z
    exact q _ _ _ _ _ _ _ (C2.trans (SW.Same.chg S3)) (S3 _ _ e1') (fa.same (S1.trans (S2.trans S3))) (R2.same S3)
  | true =>
    obtain ⟨as0, hd0, hrows0⟩ := R2.tops
    lcg_src
    rename_i p3 G3 n3 S3 e3
    have e1'' := S3 _ _ e1'
    have R3 := R2.same S3
    have C3 : Chg r.t H G3 := C2.trans (SW.Same.chg S3)
    have fa3 := fa.same (S1.trans (S2.trans S3))
    obtain ⟨kvs3, hk3⟩ := R3.tops.has
    have npt : p3 ≠ r.t := ne_tag e3 hk3 rfl
    have hkn : ((toK V.ref as0).map fun kv => kV kv.1).length = st.tops.length := by rw [List.length_map, len_toK, hrows0.len]
    refine ForG.list (K := K) (xs := (toK V.ref as0).map fun kv => kV kv.1) (fun i σ' H' => (∃ g29 g30 g32, σ' = stR a0 b true du hv r lw ++ [some (.ref l), some (.int ((st.gone + lostN du y (st.tops.take i) : Nat) : Int)), o18, o19, some (.int piece), some (.int low), some (.int spot), some (.int cell), some (.ref pd), some (.bl hit), o26, some (.int y), some (.ref p3), g29, g30, o31, g32]) ∧ Chg r.t G3 H' ∧ FA av H' ∧ Five av H' r { st with tops := takeTops du y (st.tops.take i) ++ st.tops.drop i })
      ⟨⟨_, _, _, rfl⟩, Chg.refl _ _, fa3, R3⟩ (fun i σ' H' z => sq_L (z.2.1 _ _ npt e3)) (fun i x σ' H' hx hp => ?_) (fun σ' H' hp => ?_)
    · obtain ⟨⟨g29, g30, g32, rfl⟩, C4, F4, R4⟩ := hp
      rw [List.getElem?_map] at hx
      obtain ⟨kl, hkl⟩ : ∃ kl, (toK V.ref as0)[i]? = some kl := by
        cases e : (toK V.ref as0)[i]? with
        | none => rw [e] at hx; cases hx
        | some kl => exact ⟨kl, rfl⟩
      rw [hkl] at hx
      obtain ⟨key, la, ha1, ek, el⟩ := toK_at (k := kl.1) (v := kl.2) hkl
      obtain ⟨row, hm, hal, hl⟩ := hrows0.at_ ha1
      obtain rfl : V.int key = x := by
        have hx2 := Option.some.inj hx
        show V.int key = x
        rw [← hx2]
        show V.int key = kV kl.1
        rw [ek]
        rfl
      have hi := (List.getElem?_eq_some_iff.mp hm).1
      have ed : st.tops.drop i = (key, row) :: st.tops.drop (i + 1) := by
        rw [List.drop_eq_getElem_cons hi, (List.getElem?_eq_some_iff.mp hm).2]
      have nA : key ∉ (takeTops du y (st.tops.take i)).map (·.1) := by
        rw [tops_keys]
        exact nd_take gd.nt hm
      have nB : key ∉ (st.tops.drop (i + 1)).map (·.1) := by
        have h2 := gd.nt
        rw [← List.take_append_drop i st.tops, ed, List.map_append, List.map_cons] at h2
        have h3 := (List.nodup_append.mp h2).2.1
        exact (List.nodup_cons.mp h3).1
      have T4 := R4.tops
      simp only [ed] at T4
      have eg : getA (takeTops du y (st.tops.take i) ++ (key, row) :: st.tops.drop (i + 1)) key = some row := getA_mid nA
      have er : getR (takeTops du y (st.tops.take i) ++ (key, row) :: st.tops.drop (i + 1)) key = row := by
        unfold getR
        rw [eg]
        rfl
      have hrow : ∀ x ∈ row, Big x := gd.bt _ (List.mem_of_getElem? hm)
      have hw := ok.uw
      have hlen := gd.rt _ (List.mem_of_getElem? hm)
      simp only at hlen
      lcg_src
      refine tops_get (k := key) T4 (by rw [eg]; rfl) (fun l1 _ hl1 => ?_)
      rw [er] at hl1
      lcg_src
      refine LcG.rowF (row := row) (sq_L hl1) (by omega) (fun n => !decide (lowOf du n = y)) (fun n2 H4 Y N hn3 S4 hy hn2 => ?_) (fun DD H4 nD S4 hD => ?_)
      · obtain ⟨b0, b1⟩ := hrow _ hn3
        lcg_src
        rw [decV]
        refine w_ite (fun e => ?_) (fun e => hn2 e _ (Same.refl _))
        lcg_src
        exact hy e _ (Same.refl _)
      · lcg_src
        refine tops_get (k := key) (T4.same S4) (by rw [eg]; rfl) (fun l2 _ hl2 => ?_)
        rw [er] at hl2
        lcg_src
        have lt : (takeTops du y (st.tops.take i) ++ (key, row) :: st.tops.drop (i + 1)).length ≤ 5000 := by
          unfold takeTops
          simp only [List.length_append, List.length_map, List.length_take, List.length_cons, List.length_drop]
          have := gd.l1
          omega
        refine tops_put (row := keepRow du y row) ((T4.same S4).same (by assumption)) (by lcg_sub) (F4 _ nD) lt (fun H5 C5 T5 => ?_)
        rename_i pz G5 S5 e5
        rw [putA_mid nA nB] at T5
        have et : takeTops du y (st.tops.take (i + 1)) ++ st.tops.drop (i + 1) = takeTops du y (st.tops.take i) ++ (key, keepRow du y row) :: st.tops.drop (i + 1) := by
          rw [tops_take hm, List.append_assoc]
          rfl
        have eg2 : ((st.gone + lostN du y (st.tops.take i) : Nat) : Int) + ((row.map V.int).length : Nat) - (((row.filter fun n => !decide (lowOf du n = y)).map V.int).length : Nat) = ((st.gone + lostN du y (st.tops.take (i + 1)) : Nat) : Int) := by
          rw [lost_take hm, List.length_map, List.length_map]
          have := List.length_filter_le (fun x => !decide (lowOf du x = y)) row
          unfold keepRow
          simp only
          omega
        rw [eg2]
        lcg_src
        have R5 := (R4.same (S4.trans S5)).putT C5 T5
        obtain ⟨kvs5, hk5⟩ := T5.has
        refine ⟨⟨_, _, _, rfl⟩, (C4.trans (SW.Same.chg (S4.trans S5))).trans C5, (F4.same (S4.trans S5)).chg C5 ⟨_, hk5⟩, ?_⟩
        rw [et]
        exact R5
    · obtain ⟨⟨g29, g30, g32, rfl⟩, C4, F4, R4⟩ := hp
      rw [hkn, List.take_length, List.drop_length, List.append_nil] at R4
      rw [hkn, List.take_length]
      exact q _ _ _ _ _ _ _ (C3.trans C4) (C4 _ _ (ne_tag e1'' hk3 rfl) e1'') F4 ⟨R4.tops, R4.lows, R4.heard, R4.missed, R4.newest, R4.nd⟩
end
end
section
/-! The law's run of shelves: what the lower shelf hears. -/
open PySem PySem.Spec PyProof.Rows L2
section
variable {P : Program} {w : World} {K : Fr0} {mg : Str → Option Value} {base : Heap}
/-- what the lower shelf hears, by its row -/
def tellR (du : Duo) (tk : Bool) (deep : List Int) (low cell piece spot : Int) (hit : Bool) (s1 : Sh) : Sh :=
  let s2 := lawBack du tk deep low s1
  { s2 with lows := putA s2.lows cell (dropE low (lawDeep du deep low) ++ [low]), heard := putA s2.heard piece ((getA s2.missed spot).getD 0), noted := if hit = true then s2.noted + 1 else s2.noted }
theorem part_run2 (T : Tx K mg) {f : Addr} {cdv : Value} {A : Around} {outer : List Env} {s : Shared} {HE : Hp} {E : XK} (hr : Room 2 (A.deeper (envOfC "_law_run" (defScope s_q_run) s.heap.objs.size f cdv)))  :
    ∃ t, PSs (cxOf CX0 P w K mg base N_q_run "_law_run" (defScope s_q_run) f cdv A outer s HE E).nox (stBody (stAt (stBody (stAt (defBody s_q_run) 3)) 6)) t ∧ ∀ (D : Ends) (H : Hp) (av : Addr → Prop) (r : RA) (a0 b : Addr) (tk : Bool) (du : Duo) (hv : V) (lw l ld : Addr) (st : Sh) (piece low spot cell i : Int) (hit : Bool) (deep : List Int) (ns : List Int) (o19 o26 o27 o28 o29 o30 o31 o32 : Option V) (n : Nat), Duo.ok du → Good du n st → n ≤ 2000 → Five av H r st → FA av H → H ld = some (.lst (deep.map V.int)) → (deep.length : Int) ≤ du.lw → (getA st.missed spot).isSome = true → H l = some (.lst (ns.map V.int)) → ns.length = st.noted → ns.length ≤ 1000 → (∀ H' l' o24 o27 o28 o29 o30 o32, (∀ b o, b ∉ [r.t, r.l, r.h] → H b = some o → H' b = some o) → FA av H' → Five av H' r (tellR du tk deep low cell piece spot hit st) → (l' = l ∨ H l' = none) → (∃ ns2 : List Int, H' l' = some (.lst (ns2.map V.int)) ∧ ns2.length = (tellR du tk deep low cell piece spot hit st).noted) → D.nx (stR a0 b tk du hv r lw ++ [some (.ref l'), some (.int ((tellR du tk deep low cell piece spot hit st).gone : Nat)), some (.int i), o19, some (.int piece), some (.int low), some (.int spot), some (.int cell), o24, some (.bl hit), o26, o27, o28, o29, o30, o31, o32]) H') → t D (stR a0 b tk du hv r lw ++ [some (.ref l), some (.int (st.gone : Nat)), some (.int i), o19, some (.int piece), some (.int low), some (.int spot), some (.int cell), some (.ref ld), some (.bl hit), o26, o27, o28, o29, o30, o31, o32]) H := by
  have hu := hu_of hr
  obtain ⟨tb1, hp1, kp1⟩ := part_run1 (P := P) (w := w) (base := base) (f := f) (cdv := cdv) (A := A) (outer := outer) (s := s) (HE := HE) (E := E) T hr
  refine ⟨_, (Evl.pss_cut (ps_if (PW.pt (pw_and (pt_cmpR op_notIn_seq (pv 21) (pv 24) (by rfl)) (pw_and1 (pt_cmpR op_eq (pe_callB call_LenL (by rfl) T.f_len boot_lenB (pa_cons (pv 24) pa_nil)) (pv 7) (nomark _))))) hp1 pss_nil)
      (pss_cons (ps_dputS hu (pv 11) (pv 23) (pe_op op_Cats (pe_lc (own := [("_law_one", 32)]) (g := gName 32)  rfl sc_q_run.nd (pi_list (pv 24)) (blkOk_by (N := N_q_run) (sc := defScope s_q_run) (by decide +kernel)) (fun _ _ _ _ _ => (pg_name (i := 32) sc_q_run.nd rfl (Or.inl rfl))) (fun _ _ _ _ _ => (pts_one (pt_cmpR op_ne (pv 32) (pv 21) (nomark _)))) (fun _ _ _ _ _ => (pv 32))) (pe_lstS (pa_cons (pv 21) pa_nil))) rfl)
      (pss_cons (ps_dputS hu (pv 12) (pv 20) (pe_dget hu (pv 13) (pv 22) (fun _ _ => rfl)) rfl)
      (pss_one (ps_set (i := 16) sc_q_run.nd rfl (Or.inl rfl) (pe_op op_Cats (pv 16) (pe_ifExp (pt_val (pv 25)) (pe_lstS (pa_cons (pv 18) pa_nil)) (pe_lstS pa_nil)))))))), ?_⟩
  try dsimp only [cxOf, Cx.nox, Cx.wish]
  intro D H av r a0 b tk du hv lw l ld st piece low spot cell i hit deep ns o19 o26 o27 o28 o29 o30 o31 o32 n ok gd hn R fa hld hdl hms hl hnl hns q
  have o1 := ok.ub
  have o2 := ok.lb
  have o3 := ok.lw
  refine ⟨fun σ' H' => ∃ ld' o27 o28 o29 o30 o32, σ' = stR a0 b tk du hv r lw ++ [some (.ref l), some (.int ((lawBack du tk deep low st).gone : Nat)), some (.int i), o19, some (.int piece), some (.int low), some (.int spot), some (.int cell), some (.ref ld'), some (.bl hit), o26, o27, o28, o29, o30, o31, o32] ∧ Chg r.t H H' ∧ H' ld' = some (.lst ((lawDeep du deep low).map V.int)) ∧ FA av H' ∧ Five av H' r (lawBack du tk deep low st), ?_, ?_⟩
  · lcg_src
    rw [inV_ints]
    cases hc : deep.contains low with
    | true =>
      have e1 : lawBack du tk deep low st = st := by
        unfold lawBack
        rw [hc]
        rfl
      have e2 : lawDeep du deep low = deep := by
        unfold lawDeep
        rw [hc]
        rfl
      refine w_ifF rfl (w_ifF rfl (w_next ?_))
      rw [e1, e2]
      exact ⟨_, _, _, _, _, _, rfl, Chg.refl _ _, hld, fa, R⟩
    | false =>
      refine w_ifT rfl ?_
      lcg_src
      rw [decV, List.length_map]
      refine w_ite (fun hd => ?_) (fun hd => ?_)
      · have hd2 := of_decide_eq_true hd
        have e0 : (!deep.contains low && decide ((deep.length : Int) = du.lw)) = true := by
          rw [hc, hd]
          rfl
        have e1 : lawBack du tk deep low st = if tk = true then takeBack du (deep.headD 0) st else st := by
          unfold lawBack
          rw [if_pos e0]
        have e2 : lawDeep du deep low = deep.tail := by
          unfold lawDeep
          rw [if_pos e0]
        rw [e1, e2]
        exact kp1 _ H av r a0 b tk du hv lw l ld st piece low spot cell hit deep _ _ _ _ _ _ _ _ _ n ok gd hn R fa hld (by omega) (by omega) fun H' ld' o27 o28 o29 o30 o32 C hl' fa' R' => ⟨_, _, _, _, _, _, rfl, C, hl', fa', R'⟩
      · have e0 : (!deep.contains low && decide ((deep.length : Int) = du.lw)) = false := by
          rw [hc, hd]
          rfl
        have e1 : lawBack du tk deep low st = st := by
          unfold lawBack
          rw [e0]
          rfl
        have e2 : lawDeep du deep low = deep := by
          unfold lawDeep
          rw [e0]
          rfl
        refine w_next ?_
        rw [e1, e2]
        exact ⟨_, _, _, _, _, _, rfl, Chg.refl _ _, hld, fa, R⟩
  · intro σ' H' hm
    obtain ⟨ld', o27, o28, o29, o30, o32, rfl, C1, hld1, fa1, R1⟩ := hm
    obtain ⟨kt, hkt⟩ := R.tops.has
    have hl1 : H' l = some (.lst (ns.map V.int)) := C1 _ _ (ne_tag hl hkt rfl) hl
    have hdl1 : ((lawDeep du deep low).length : Int) ≤ du.lw := by
      unfold lawDeep
      split
      · rw [List.length_tail]
        omega
      · exact hdl
    lcg_src
    refine LcG.rowF (row := lawDeep du deep low) (sq_L hld1) (by omega) (fun z => !decide (z = low)) (fun n2 H4 Y N hn3 S4 hy hn2 => ?_) (fun DD H4 nD S4 hD => ?_)
    · lcg_src
      rw [decV]
      refine w_ite (fun e => ?_) (fun e => hn2 e _ (Same.refl _))
      lcg_src
      exact hy e _ (Same.refl _)
    · lcg_src
      rename_i p5 H5 n5 S5 e5
      have hdrop : (lawDeep du deep low).filter (fun z => !decide (z = low)) = dropE low (lawDeep du deep low) := rfl
      have hlen := List.length_filter_le (fun z => !decide (z = low)) (lawDeep du deep low)
      refine ⟨by
        rw [List.length_map]
        exact Nat.le_of_lt (big_len (by simp only [List.length_cons, List.length_nil]; omega)), ?_⟩
      lcg_src
      rename_i p6 H6 n6 S6 e6
      have S46 := S4.trans (S5.trans S6)
      have R6 := R1.same S46
      have gl : (lawBack du tk deep low st).lows.length ≤ 5000 := by
        have h1 := gd.l2
        rcases back_or du tk deep low with h | ⟨_, _, h⟩
        · rw [h]
          omega
        · rw [h]
          show st.lows.length ≤ 5000
          omega
      have gh : (lawBack du tk deep low st).heard = st.heard ∧ (lawBack du tk deep low st).missed = st.missed ∧ (lawBack du tk deep low st).noted = st.noted := by
        rcases back_or du tk deep low with h | ⟨_, _, h⟩
        · rw [h]
          exact ⟨rfl, rfl, rfl⟩
        · rw [h]
          exact ⟨rfl, rfl, rfl⟩
      obtain ⟨gh1, gh2, gh3⟩ := gh
      have e6' : H6 p6 = some (.lst ((dropE low (lawDeep du deep low) ++ [low]).map V.int)) := by
        rw [e6, List.map_append]
        rfl
      refine tops_put (row := dropE low (lawDeep du deep low) ++ [low]) R6.lows e6' ((fa1.same (S4.trans S5)) _ n6) gl (fun H7 C7 T7 => ?_)
      have R7 := R6.putL C7 T7
      obtain ⟨k7, hk7⟩ := R6.lows.has
      obtain ⟨k8, hk8⟩ := T7.has
      have F7 := (fa1.same S46).chg C7 ⟨_, hk8⟩
      have hl7 : H7 l = some (.lst (ns.map V.int)) := C7 _ _ (ne_tag (S46 _ _ hl1) hk7 rfl) (S46 _ _ hl1)
      lcg_src
      obtain ⟨mv, hmv⟩ := Option.isSome_iff_exists.mp hms
      have hmv2 : getA (lawBack du tk deep low st).missed spot = some mv := by rw [gh2]; exact hmv
      refine nums_get (v := mv) R7.missed hmv2 ?_
      lcg_src
      refine nums_put R7.heard (by show (lawBack du tk deep low st).heard.length ≤ 5000; rw [gh1]; have := gd.l3; omega) (fun H8 C8 T8 => ?_)
      have R8 := R7.putH C8 T8
      have hk9 := R7.heard
      have F8 := F7.chg C8 ⟨_, T8⟩
      have hl8 : H8 l = some (.lst (ns.map V.int)) := C8 _ _ (ne_tag hl7 hk9 rfl) hl7
      have keep8 : ∀ b o, b ∉ [r.t, r.l, r.h] → H b = some o → H8 b = some o := fun b o hb h => by
        simp only [List.mem_cons, List.not_mem_nil, or_false, not_or] at hb
        exact C8 _ _ hb.2.2 (C7 _ _ hb.2.1 (S46 _ _ (C1 _ _ hb.1 h)))
      have et : ∀ {z : Sh}, z = { lawBack du tk deep low st with lows := putA (lawBack du tk deep low st).lows cell (dropE low (lawDeep du deep low) ++ [low]), heard := putA (lawBack du tk deep low st).heard piece mv } → Five av H8 r z → Five av H8 r (tellR du tk deep low cell piece spot hit st) := fun {z} e R => by
        subst e
        have e2 : (getA (lawBack du tk deep low st).missed spot).getD 0 = mv := by rw [hmv2]; rfl
        refine ⟨R.tops, R.lows, ?_, R.missed, R.newest, R.nd⟩
        show NumsAt H8 r.h (putA (lawBack du tk deep low st).heard piece ((getA (lawBack du tk deep low st).missed spot).getD 0))
        rw [e2]
        exact R.heard
      have R9 := et rfl R8
      have en : (tellR du tk deep low cell piece spot hit st).noted = if hit = true then st.noted + 1 else st.noted := by
        show (if hit = true then (lawBack du tk deep low st).noted + 1 else (lawBack du tk deep low st).noted) = _
        rw [gh3]
      have fr : ∀ {p : Addr}, H8 p = none → H p = none := fun {p} h => by
        obtain ⟨k1, h1⟩ := R9.tops.has
        obtain ⟨k2, h2⟩ := R9.lows.has
        cases e : H p with
        | none => rfl
        | some o =>
          by_cases hb : p ∈ [r.t, r.l, r.h]
          · simp only [List.mem_cons, List.not_mem_nil, or_false] at hb
            rcases hb with z | z | z <;> subst z
            · rw [h1] at h; cases h
            · rw [h2] at h; cases h
            · rw [R9.heard] at h; cases h
          · rw [keep8 p o hb e] at h
            cases h
      lcg_src
      cases hit with
      | true =>
        lcg_src
        rename_i p9 H9 n9 S9 e9
        refine ⟨by
          rw [List.length_map]
          exact Nat.le_of_lt (big_len (by simp only [List.length_cons, List.length_nil]; omega)), ?_⟩
        lcg_src
        rename_i p10 H10 n10 S10 e10
        refine q H10 p10 _ _ _ _ _ _ (fun b o hb h => (S9.trans S10) _ _ (keep8 b o hb h)) (F8.same (S9.trans S10)) (R9.same (S9.trans S10)) (.inr (fr (free_of n10 S9))) ⟨ns ++ [i], ?_, ?_⟩
        · rw [e10, List.map_append]
          rfl
        · rw [List.length_append, en, if_pos rfl, hnl]
          rfl
      | false =>
        lcg_src
        rename_i p9 H9 n9 S9 e9
        refine ⟨by
          rw [List.length_map]
          exact Nat.le_of_lt (big_len (by simp only [List.length_nil]; omega)), ?_⟩
        lcg_src
        rename_i p10 H10 n10 S10 e10
        refine q H10 p10 _ _ _ _ _ _ (fun b o hb h => (S9.trans S10) _ _ (keep8 b o hb h)) (F8.same (S9.trans S10)) (R9.same (S9.trans S10)) (.inr (fr (free_of n10 S9))) ⟨ns, ?_, ?_⟩
        · rw [e10, List.append_nil]
        · rw [en, if_neg Bool.false_ne_true, hnl]
end
end
section
/-! The law's run of shelves: one turn. -/
open PySem PySem.Spec PyProof.Rows L2
theorem tops_getD2 {av : Addr → Prop} {H : Hp} {d p : Addr} {m : Rows} {k : Int} {Q : VK} (h : TopsAt av H d m) (hp : H p = some (.lst [])) (q : ∀ l, (av l ∨ l = p) → H l = some (.lst ((getR m k).map V.int)) → Q (.ref l) H) : GetD d (.int k) (.ref p) H Q := by
  obtain ⟨as1, h1, h2⟩ := h
  refine ⟨_, DGet.k (k := Sum.inl k) h1, ?_⟩
  rw [val_toK]
  unfold getR at q
  rcases h2.get k with ⟨e1, e2⟩ | ⟨l, row, e1, e2, e4, e3⟩
  · rw [e2] at q
    rw [e1]
    exact q p (.inr rfl) hp
  · rw [e2] at q
    rw [e1]
    exact q l (.inl e4) e3
theorem good_mis {du : Duo} {n : Nat} {s : Sh} {k v : Int} (g : Good du n s) : Good du (n + 1) { s with missed := putA s.missed k v } :=
  ⟨Nat.le_succ_of_le g.l1, Nat.le_succ_of_le g.l2, Nat.le_succ_of_le g.l3, Nat.le_trans (len_put ..) (Nat.succ_le_succ g.l4), Nat.le_succ_of_le g.l5, g.nt, g.nl, g.rt, g.rl, g.bt, fun p hp x hx =>
    let ⟨k1, k2, k3⟩ := g.hs p hp x hx
    ⟨k1, some_put k2, k3⟩⟩
/-- the state behind a miss counted -/
def misS (du : Duo) (s : Sh) (x : Int) : Sh := if isHit du s x = true then s else { s with missed := putA s.missed (pieceOf du x % du.us) ((getA s.missed (pieceOf du x % du.us)).getD 0 + 1) }
def hearS (du : Duo) (tk : Bool) (s : Sh) (x : Int) : Sh := if (!isHit du s x || tellsM du s (pieceOf du x) (pieceOf du x % du.us)) = true then lawTell du tk s (misS du s x) x else misS du s x
theorem step_eq (du : Duo) (tk : Bool) (s : Sh) (x : Int) : lawStep du tk s x = lawEnd du (hearS du tk s x) x := rfl
theorem misS_lows (du : Duo) (s : Sh) (x : Int) : (misS du s x).lows = s.lows ∧ (misS du s x).tops = s.tops ∧ (misS du s x).newest = s.newest ∧ (misS du s x).heard = s.heard ∧ (misS du s x).noted = s.noted ∧ (misS du s x).gone = s.gone := by
  unfold misS
  split <;> exact ⟨rfl, rfl, rfl, rfl, rfl, rfl⟩
theorem misS_good {du : Duo} {n : Nat} {s : Sh} {x : Int} (g : Good du n s) : Good du (n + 1) (misS du s x) := by
  unfold misS
  split
  · exact ⟨Nat.le_succ_of_le g.l1, Nat.le_succ_of_le g.l2, Nat.le_succ_of_le g.l3, Nat.le_succ_of_le g.l4, Nat.le_succ_of_le g.l5, g.nt, g.nl, g.rt, g.rl, g.bt, g.hs⟩
  · exact good_mis g
theorem misS_some {du : Duo} {n : Nat} {s : Sh} {x : Int} (g : Good du n s) : (getA (misS du s x).missed (pieceOf du x % du.us)).isSome = true := by
  unfold misS
  split
  · rename_i h
    obtain ⟨row, e1, e2, hm⟩ := hit_mem h
    exact (g.hs _ (getA_mem e1) _ hm).2.1
  · show (getA (putA s.missed _ _) _).isSome = true
    rw [getA_put, if_pos rfl]
    rfl
theorem hearS_rt {du : Duo} {tk : Bool} {n : Nat} {s : Sh} {x : Int} (g : Good du n s) : (hearS du tk s x).tops.length ≤ n ∧ (hearS du tk s x).newest = s.newest ∧ ∀ k, ((getR (hearS du tk s x).tops k).length : Int) ≤ max 0 du.uw := by
  have key : ∀ k, ((getR s.tops k).length : Int) ≤ max 0 du.uw := fun k => len_getR (fun p hp => by
    have := g.rt p hp
    omega) (by omega)
  unfold hearS
  split
  · unfold lawTell
    dsimp only
    rcases back_or du tk (getR s.lows (lowP du x % du.ls)) (lowP du x) with h | ⟨_, _, h⟩
    · rw [h]
      rw [(misS_lows du s x).2.1, (misS_lows du s x).2.2.1]
      exact ⟨g.l1, rfl, key⟩
    · rw [h]
      unfold takeBack
      dsimp only
      rw [(misS_lows du s x).2.1, (misS_lows du s x).2.2.1]
      refine ⟨by unfold takeTops; rw [List.length_map]; exact g.l1, rfl, fun k => ?_⟩
      rw [getR_take]
      have h1 := key k
      have h2 := List.length_filter_le (fun z => !decide (lowOf du z = (getR s.lows (lowP du x % du.ls)).headD 0)) (getR s.tops k)
      unfold keepRow
      omega
  · rw [(misS_lows du s x).2.1, (misS_lows du s x).2.2.1]
    exact ⟨g.l1, rfl, key⟩
section
variable {P : Program} {w : World} {K : Fr0} {mg : Str → Option Value} {base : Heap}
theorem part_run3 (T : Tx K mg) {f : Addr} {cdv : Value} {A : Around} {outer : List Env} {s : Shared} {HE : Hp} {E : XK} (hr : Room 2 (A.deeper (envOfC "_law_run" (defScope s_q_run) s.heap.objs.size f cdv)))  :
    ∃ t, PSs (cxOf CX0 P w K mg base N_q_run "_law_run" (defScope s_q_run) f cdv A outer s HE E).nox (stBody (stAt (defBody s_q_run) 3)) t ∧ ∀ (D : Ends) (H : Hp) (av : Addr → Prop) (r : RA) (a0 b : Addr) (tk : Bool) (du : Duo) (hv : V) (lw l : Addr) (st : Sh) (i x : Int) (ns : List Int) (ws : List V) (o20 o21 o22 o23 o24 o25 o26 o27 o28 o29 o30 o31 o32 : Option V) (n : Nat), Duo.ok du → Good du n st → n ≤ 1000 → Five av H r st → FA av H → HeV K H hv du.he → Big x → H l = some (.lst (ns.map V.int)) → ns.length = st.noted → ns.length ≤ 1000 → H lw = some (.lst ws) → ws.length ≤ 1000 → ¬ av lw → l ≠ lw → (∀ H' l' o20 o21 o22 o23 o24 o25 o26 o27 o28 o29 o30 o31 o32, (∀ b o, b ∉ [r.t, r.l, r.h, r.m, r.n, lw] → H b = some o → H' b = some o) → FA av H' → Five av H' r (ask du tk st x) → H' lw = some (.lst (ws ++ [.str (word du st x)])) → l' ≠ lw → (∃ ns2 : List Int, H' l' = some (.lst (ns2.map V.int)) ∧ ns2.length = (ask du tk st x).noted) → D.nx (stR a0 b tk du hv r lw ++ [some (.ref l'), some (.int ((ask du tk st x).gone : Nat)), some (.int i), some (.int x), o20, o21, o22, o23, o24, o25, o26, o27, o28, o29, o30, o31, o32]) H') → t D (stR a0 b tk du hv r lw ++ [some (.ref l), some (.int (st.gone : Nat)), some (.int i), some (.int x), o20, o21, o22, o23, o24, o25, o26, o27, o28, o29, o30, o31, o32]) H := by
  have hu := hu_of hr
  obtain ⟨tb2, hp2, kp2⟩ := part_run2 (P := P) (w := w) (base := base) (f := f) (cdv := cdv) (A := A) (outer := outer) (s := s) (HE := HE) (E := E) T hr
  refine ⟨_, (pss_cons (ps_asg (pe_tupS (pa_cons (pe_op op_fdivW (pv 19) (pv 5)) (pa_cons (pe_op op_fdivW (pv 19) (pv 8)) pa_nil))) (pg_tup (n := 2) rfl (pgs_cons (pg_name (i := 20) sc_q_run.nd rfl (Or.inr rfl)) (pgs_cons (pg_name (i := 21) sc_q_run.nd rfl (Or.inr rfl)) pgs_nil))))
      (pss_cons (ps_par (by rfl) sc_q_run.nd (i := 22) (j := 23) rfl rfl (by decide) rfl rfl (pa_cons (pe_fn (ok_q_lot T) (hr.mono (by decide)) (by rfl) T.g_q_lot T.k_q_lot pass0 (pa_cons (pv 20) (pa_cons (pv 3) pa_nil))) (pa_cons (pe_fn (ok_q_lot T) (hr.mono (by decide)) (by rfl) T.g_q_lot T.k_q_lot pass0 (pa_cons (pv 21) (pa_cons (pv 6) pa_nil))) pa_nil)) (by rfl))
      (pss_cons (ps_par (by rfl) sc_q_run.nd (i := 24) (j := 25) rfl rfl (by decide) rfl rfl (pa_cons (pe_dget2 hu (pv 11) (pv 23) (pe_lstS pa_nil) ⟨by rfl, by rfl, by rfl, by rfl⟩) (pa_cons (pe_cmpR op_in_seq (pv 20) (pe_dget2 hu (pv 10) (pv 22) (pe_lstS pa_nil) ⟨by rfl, by rfl, by rfl, by rfl⟩) (by rfl)) pa_nil)) (by rfl))
      (Evl.pss_cut (ps_expr (pe_bm PySem.F.plainAttrs_list PySem.F.slot_list_append PySem.F.type_list_append mt_apps (pv 15) (pa_cons (pe_ifExp (pt_val (pv 25)) pe_str (pe_ifExp (pt_cmpR op_in_seq (pv 21) (pv 24) (by rfl)) pe_str pe_str)) pa_nil)))
      (Evl.pss_cut (ps_if (pt_not (pt_val (pv 25))) (pss_one (ps_dputS hu (pv 13) (pv 22) (pe_op op_add (pe_dget2 hu (pv 13) (pv 22) pe_int ⟨by rfl, by rfl, by rfl, by rfl⟩) pe_int) rfl)) pss_nil)
      (pss_cons (ps_set (i := 26) sc_q_run.nd rfl (Or.inl rfl) (pe_op op_sub (pe_dget hu (pv 13) (pv 22) (fun _ _ => rfl)) (pe_dget2 hu (pv 12) (pv 20) pe_int ⟨by rfl, by rfl, by rfl, by rfl⟩)))
      (Evl.pss_cut (ps_if (PW.pt (pw_or (pt_not (pt_val (pv 25))) (pw_or1 (pt_val (pe_fn (ok_q_tells T) (hr.mono (by decide)) (by rfl) T.g_q_tells T.k_q_tells pass0 (pa_cons (pv 9) (pa_cons (pe_cmpR op_eq (pe_dget hu (pv 14) (pv 22) (fun _ _ => rfl)) (pv 20) (nomark _)) (pa_cons (pv 26) pa_nil)))))))) hp2 pss_nil)
      (pss_cons (ps_asg (pe_tupS (pa_cons (pv 20) (pa_cons (pe_lc (own := [("_law_one", 32)]) (g := gName 32)  rfl sc_q_run.nd (pi_list (pe_dget2 hu (pv 10) (pv 22) (pe_lstS pa_nil) ⟨by rfl, by rfl, by rfl, by rfl⟩)) (blkOk_by (N := N_q_run) (sc := defScope s_q_run) (by decide +kernel)) (fun _ _ _ _ _ => (pg_name (i := 32) sc_q_run.nd rfl (Or.inl rfl))) (fun _ _ _ _ _ => (pts_one (pt_cmpR op_ne (pv 32) (pv 20) (nomark _)))) (fun _ _ _ _ _ => (pv 32))) pa_nil))) (pg_tup (n := 2) rfl (pgs_cons (pg_sub (pv 14) (pv 22) (set_Ds hu)) (pgs_cons (pg_name (i := 31) sc_q_run.nd rfl (Or.inl rfl)) pgs_nil))))
      (pss_one (ps_dputS hu (pv 10) (pv 22) (pe_op op_Cats (pe_ifExp (pt_cmpR op_eq (pe_callB call_LenL (by rfl) T.f_len boot_lenB (pa_cons (pv 31) pa_nil)) (pv 4) (nomark _)) (pe_slice sl_Ls (pv 31) (po_some pe_int) po_none) (pv 31)) (pe_lstS (pa_cons (pv 20) pa_nil))) rfl)))))))))), ?_⟩
  try dsimp only [cxOf, Cx.nox, Cx.wish]
  intro D H av r a0 b tk du hv lw l st i x ns ws o20 o21 o22 o23 o24 o25 o26 o27 o28 o29 o30 o31 o32 n ok gd hn R fa hhe bx hl hnl hns hw hws nav nl q
  have o1 := ok.ub
  have o2 := ok.lb
  have o3 := ok.ls
  have o4 := ok.us
  have o5 := ok.lw
  obtain ⟨x0, x1⟩ := bx
  have i1 := R.lows.isD
  have i2 := R.tops.isD
  lcg_src
  rename_i p1 H1 S1 e1 p2 H2 n2 S2 e2
  have R2 := R.same (S1.trans S2)
  have fa2 := fa.same (S1.trans S2)
  have plw : p2 ≠ lw := (ne_of_none (S1 _ _ hw) n2).symm
  refine tops_getD2 R2.lows e2 fun ld hav hld => ?_
  have i3 := R2.tops.isD
  lcg_src
  rename_i p3 H3 n3 S3 e3
  have R3 := R2.same S3
  have fa3 := fa2.same S3
  refine tops_getD R3.tops e3 fun lt hlt => ?_
  lcg_src
  have hld3 := S3 _ _ hld
  have nld : ld ≠ lw := by
    rcases hav with h | h
    · exact fun z => nav (z ▸ h)
    · rw [h]
      exact plw
  have ehit : inV (V.int (x / du.ub)) ((getR st.tops (x / du.ub % du.us)).map V.int) = isHit du st x := by rw [inV_ints]; rfl
  rw [ehit]
  have S03 := S1.trans (S2.trans S3)
  have hw3 := S03 _ _ hw
  have hl3 := S03 _ _ hl
  have hh3 : HeV K H3 hv du.he := sm_Dp S03 hhe
  refine ⟨fun σ' H' => σ' = stR a0 b tk du hv r lw ++ [some (.ref l), some (.int (st.gone : Nat)), some (.int i), some (.int x), some (.int (pieceOf du x)), some (.int (lowP du x)), some (.int (pieceOf du x % du.us)), some (.int (lowP du x % du.ls)), some (.ref ld), some (.bl (isHit du st x)), o26, o27, o28, o29, o30, o31, o32] ∧ Chg lw H3 H' ∧ H' lw = some (.lst (ws ++ [.str (word du st x)])), ?_, ?_⟩
  · lcg_src
    refine And.intro (Or.inl ⟨rfl, _, sq_L hw3⟩) ?_
    lcg_src
    refine w_ite (fun c => ?_) (fun c => ?_)
    · have e9 : word du st x = "upper" := by
        unfold word
        rw [if_pos c]
      lcg_src
      refine ⟨big_len (by omega), ?_⟩
      lcg_src
      rename_i H4 C4 e4
      rw [e9]
      exact e4
    · lcg_src
      rw [inV_ints]
      refine w_ite (fun c2 => ?_) (fun c2 => ?_)
      · have e9 : word du st x = "lower" := by
          unfold word
          rw [if_neg (by rw [c]; exact Bool.false_ne_true)]
          exact if_pos c2
        lcg_src
        refine ⟨big_len (by omega), ?_⟩
        lcg_src
        rename_i H4 C4 e4
        rw [e9]
        exact e4
      · have e9 : word du st x = "none" := by
          unfold word
          rw [if_neg (by rw [c]; exact Bool.false_ne_true)]
          exact if_neg (by
            intro z
            have z2 : (getR st.lows (x / du.lb % du.ls)).contains (x / du.lb) = true := z
            rw [c2] at z2
            cases z2)
        lcg_src
        refine ⟨big_len (by omega), ?_⟩
        lcg_src
        rename_i H4 C4 e4
        rw [e9]
        exact e4
  · intro σ' H4 hm
    obtain ⟨rfl, C4, hw4⟩ := hm
    have hlw3 : ∃ xs, H3 lw = some (.lst xs) := ⟨_, hw3⟩
    have R4 := R3.chl C4 hlw3 (fun b hb z => nav (z ▸ hb))
    have fa4 := fa3.chg C4 ⟨_, hw4⟩
    have hld4 : H4 ld = some (.lst ((getR st.lows (lowP du x % du.ls)).map V.int)) := C4 _ _ nld hld3
    have hl4 : H4 l = some (.lst (ns.map V.int)) := C4 _ _ nl hl3
    have hh4 : HeV K H4 hv du.he := by
      have h9 := hh3
      exact Dp.chg C4 hw3 rfl _ _ (he_tupO _) h9
    have keep4 : ∀ b o, b ≠ lw → H b = some o → H4 b = some o := fun b o hb h => C4 _ _ hb (S03 _ _ h)
    clear C4 hw3 hl3 hh3 hld3 R3 fa3 hlt e3 n3 S3 S03 i3 hld hav R2 fa2 e2 n2 S2 e1 S1 plw
    have i4 := R4.missed.isD
    refine ⟨fun σ' H' => σ' = stR a0 b tk du hv r lw ++ [some (.ref l), some (.int (st.gone : Nat)), some (.int i), some (.int x), some (.int (pieceOf du x)), some (.int (lowP du x)), some (.int (pieceOf du x % du.us)), some (.int (lowP du x % du.ls)), some (.ref ld), some (.bl (isHit du st x)), o26, o27, o28, o29, o30, o31, o32] ∧ Chg r.m H4 H' ∧ FA av H' ∧ Five av H' r (misS du st x), ?_, ?_⟩
    · lcg_src
      refine w_ite (fun c => ?_) (fun c => ?_)
      · have c2 : isHit du st x = false := by
          cases e : isHit du st x with
          | false => rfl
          | true => rw [e] at c; cases c
        have em : misS du st x = { st with missed := putA st.missed (pieceOf du x % du.us) ((getA st.missed (pieceOf du x % du.us)).getD 0 + 1) } := by
          unfold misS
          rw [c2]
          rfl
        lcg_src
        refine nums_getD R4.missed ?_
        lcg_src
        refine nums_put R4.missed (by have := gd.l4; omega) (fun H5 C5 T5 => ?_)
        have R5 := R4.putM C5 T5
        have fa5 := fa4.chg C5 ⟨_, T5⟩
        rw [em]
        exact ⟨rfl, C5, fa5, R5⟩
      · have c2 : isHit du st x = true := by
          cases e : isHit du st x with
          | true => rfl
          | false => rw [e] at c; cases c
        have em : misS du st x = st := by
          unfold misS
          rw [if_pos c2]
        refine w_next ?_
        rw [em]
        exact ⟨rfl, Chg.refl _ _, fa4, R4⟩
    · intro σ' H5 hm
      obtain ⟨rfl, C5, fa5, R5⟩ := hm
      have hkm := R4.missed
      have hld5 : H5 ld = some (.lst ((getR st.lows (lowP du x % du.ls)).map V.int)) := C5 _ _ (ne_tag hld4 hkm rfl) hld4
      have hl5 : H5 l = some (.lst (ns.map V.int)) := C5 _ _ (ne_tag hl4 hkm rfl) hl4
      have hw5 : H5 lw = some (.lst (ws ++ [.str (word du st x)])) := C5 _ _ (ne_tag hw4 hkm rfl) hw4
      have hh5 : HeV K H5 hv du.he := Dp.chg C5 hkm rfl _ _ (he_tupO _) hh4
      have keep5 : ∀ b o, b ∉ [r.m, lw] → H b = some o → H5 b = some o := fun b o hb h => by
        simp only [List.mem_cons, List.not_mem_nil, or_false, not_or] at hb
        exact C5 _ _ hb.1 (keep4 _ _ hb.2 h)
      clear keep4 C5 hkm hld4 hl4 hw4 hh4 R4 fa4 i4 hlw3
      have g1 := misS_good (x := x) gd
      obtain ⟨m1, m2, m3, m4, m5, m6⟩ := misS_lows du st x
      obtain ⟨mv, hmv⟩ := Option.isSome_iff_exists.mp (misS_some (x := x) gd)
      have i5 := R5.heard.isD
      lcg_src
      refine nums_get R5.missed hmv ?_
      lcg_src
      refine nums_getD R5.heard ?_
      lcg_src
      refine ⟨fun σ' H' => ∃ l' o24 o26 o27 o28 o29 o30 o32, σ' = stR a0 b tk du hv r lw ++ [some (.ref l'), some (.int ((hearS du tk st x).gone : Nat)), some (.int i), some (.int x), some (.int (pieceOf du x)), some (.int (lowP du x)), some (.int (pieceOf du x % du.us)), some (.int (lowP du x % du.ls)), o24, some (.bl (isHit du st x)), o26, o27, o28, o29, o30, o31, o32] ∧ (∀ b o, b ∉ [r.t, r.l, r.h] → H5 b = some o → H' b = some o) ∧ FA av H' ∧ Five av H' r (hearS du tk st x) ∧ (l' = l ∨ H5 l' = none) ∧ ∃ ns2 : List Int, H' l' = some (.lst (ns2.map V.int)) ∧ ns2.length = (hearS du tk st x).noted, ?_, ?_⟩
      · have deepl : ((getR st.lows (lowP du x % du.ls)).length : Int) ≤ du.lw := len_getR gd.rl (by omega)
        have et : tellR du tk (getR st.lows (lowP du x % du.ls)) (lowP du x) (lowP du x % du.ls) (pieceOf du x) (pieceOf du x % du.us) (isHit du st x) (misS du st x) = lawTell du tk st (misS du st x) x := rfl
        have fire : ∀ (b' : Bool) (A1 A2 : Prop) (D' : Ends) (o26 : Option V) (H6 : Hp), b' = true → Same H5 H6 → hearS du tk st x = lawTell du tk st (misS du st x) x → (∀ σ' H', (∃ l' o24 o26 o27 o28 o29 o30 o32, σ' = stR a0 b tk du hv r lw ++ [some (.ref l'), some (.int ((hearS du tk st x).gone : Nat)), some (.int i), some (.int x), some (.int (pieceOf du x)), some (.int (lowP du x)), some (.int (pieceOf du x % du.us)), some (.int (lowP du x % du.ls)), o24, some (.bl (isHit du st x)), o26, o27, o28, o29, o30, o31, o32] ∧ (∀ b o, b ∉ [r.t, r.l, r.h] → H5 b = some o → H' b = some o) ∧ FA av H' ∧ Five av H' r (hearS du tk st x) ∧ (l' = l ∨ H5 l' = none) ∧ ∃ ns2 : List Int, H' l' = some (.lst (ns2.map V.int)) ∧ ns2.length = (hearS du tk st x).noted) → D'.nx σ' H') →
            tb2 D' (stR a0 b tk du hv r lw ++ [some (.ref l), some (.int (st.gone : Nat)), some (.int i), some (.int x), some (.int (pieceOf du x)), some (.int (lowP du x)), some (.int (pieceOf du x % du.us)), some (.int (lowP du x % du.ls)), some (.ref ld), some (.bl (isHit du st x)), o26, o27, o28, o29, o30, o31, o32]) H6 := fun b' A1 A2 D' o26 H6 hb S eh hD => by
          have k := kp2 D' H6 av r a0 b tk du hv lw l ld (misS du st x) (pieceOf du x) (lowP du x) (pieceOf du x % du.us) (lowP du x % du.ls) i (isHit du st x) (getR st.lows (lowP du x % du.ls)) ns (some (.int x)) o26 o27 o28 o29 o30 o31 o32 (n + 1) ok g1 (by omega) (R5.same S) (fa5.same S) (S _ _ hld5) deepl (misS_some gd) (S _ _ hl5) (by rw [m5]; exact hnl) hns
            (fun H' l' o24 o27 o28 o29 o30 o32 kp fa' R' hl' hn' => hD _ _ (by
              rw [et, ← eh] at R' hn'
              rw [et, ← eh]
              exact ⟨l', o24, _, o27, o28, o29, o30, o32, rfl, fun b o hb h => kp b o hb (S _ _ h), fa', R', hl'.imp id (fun z => free_of z S), hn'⟩))
          rw [m6] at k
          exact k
        lcg_src
        refine w_ite (fun c => ?_) (fun c => ?_)
        · have eh : hearS du tk st x = lawTell du tk st (misS du st x) x := by
            unfold hearS
            rw [if_pos (by rw [c]; rfl)]
          refine w_ifT rfl ?_
          exact fire true True True _ _ H5 rfl (Same.refl _) eh fun σ' H' h => h
        · have c2 : isHit du st x = true := by
            cases e : isHit du st x with
            | true => rfl
            | false => rw [e] at c; cases c
          obtain ⟨row, er1, er2, hmr⟩ := hit_mem c2
          obtain ⟨nv, hnv⟩ := Option.isSome_iff_exists.mp (gd.hs _ (getA_mem er1) _ hmr).2.2
          have hnv5 : getA (misS du st x).newest (pieceOf du x % du.us) = some nv := by rw [m3]; exact hnv
          lcg_src
          refine nums_get R5.newest hnv5 ?_
          lcg_src
          rename_i H6 S6
          have em : misS du st x = st := by
            unfold misS
            rw [if_pos c2]
          have hmv2 : getA st.missed (pieceOf du x % du.us) = some mv := by rw [← em]; exact hmv
          have tm : (match du.he with
              | Hears.misses => false
              | Hears.moved => !decide (V.int nv = V.int (pieceOf du x))
              | Hears.each m => decide (m ≤ mv - (getA (misS du st x).heard (pieceOf du x)).getD 0)) = tellsM du st (pieceOf du x) (pieceOf du x % du.us) := by
            unfold tellsM
            cases du.he with
            | misses => rfl
            | moved =>
              show (!decide (V.int nv = V.int (pieceOf du x))) = !decide (getA st.newest (pieceOf du x % du.us) = some (pieceOf du x))
              rw [decV, show getA st.newest (pieceOf du x % du.us) = some nv from hnv]
              simp only [Option.some.injEq]
            | each m =>
              show decide (m ≤ mv - (getA (misS du st x).heard (pieceOf du x)).getD 0) = decide (m ≤ (getA st.missed (pieceOf du x % du.us)).getD 0 - (getA st.heard (pieceOf du x)).getD 0)
              rw [hmv2, em]
              rfl
          refine w_ite (fun ht0 => ?_) (fun ht0 => ?_)
          · have ht : tellsM du st (pieceOf du x) (pieceOf du x % du.us) = true := tm.symm.trans ht0
            have eh : hearS du tk st x = lawTell du tk st (misS du st x) x := by
              unfold hearS
              rw [if_pos (by rw [ht, Bool.or_true])]
            exact fire true True True _ _ H6 rfl S6 eh fun σ' H' h => h
          · have ht : tellsM du st (pieceOf du x) (pieceOf du x % du.us) = false := tm.symm.trans ht0
            have eh : hearS du tk st x = st := by
              unfold hearS
              rw [if_neg (by rw [ht, c2]; decide), em]
            refine w_next ?_
            rw [eh]
            rw [em] at R5
            exact ⟨l, _, _, _, _, _, _, _, rfl, fun b o _ h => S6 _ _ h, fa5.same S6, R5.same S6, .inl rfl, ns, S6 _ _ hl5, hnl⟩
      · intro σ' H6 hm
        obtain ⟨l', o24, o26, o27, o28, o29, o30, o32, rfl, keep6, fa6, R6, hl', ns2, hns2, hnn2⟩ := hm
        obtain ⟨t1, t2, t3⟩ := hearS_rt (tk := tk) (x := x) gd
        have hw6 : H6 lw = some (.lst (ws ++ [.str (word du st x)])) := keep6 _ _ (by
          obtain ⟨k1, h1⟩ := R5.tops.has
          obtain ⟨k2, h2⟩ := R5.lows.has
          have h3 := R5.heard
          simp only [List.mem_cons, List.not_mem_nil, or_false, not_or]
          exact ⟨ne_tag hw5 h1 rfl, ne_tag hw5 h2 rfl, ne_tag hw5 h3 rfl⟩) hw5
        have nl2 : l' ≠ lw := by
          rcases hl' with z | z
          · rw [z]
            exact nl
          · exact (ne_of_none hw5 z).symm
        have keep7 : ∀ b o, b ∉ [r.t, r.l, r.h, r.m, lw] → H b = some o → H6 b = some o := fun b o hb h => by
          simp only [List.mem_cons, List.not_mem_nil, or_false, not_or] at hb
          exact keep6 b o (by simp only [List.mem_cons, List.not_mem_nil, or_false, not_or]; exact ⟨hb.1, hb.2.1, hb.2.2.1⟩) (keep5 b o (by simp only [List.mem_cons, List.not_mem_nil, or_false, not_or]; exact ⟨hb.2.2.2.1, hb.2.2.2.2⟩) h)
        have i6 := R6.tops.isD
        clear keep6 keep5 R5 fa5 hld5 hl5 hw5 hh5 i5 hl'
        lcg_src
        rename_i p7 H7 n7 S7 e7
        refine tops_getD (R6.same S7).tops e7 fun lo hlo => ?_
        have t3' := t3 (pieceOf du x % du.us)
        lcg_src
        refine LcG.rowF (row := getR (hearS du tk st x).tops (pieceOf du x % du.us)) (sq_L hlo) (by have := ok.uw; omega) (fun z => !decide (z = pieceOf du x)) (fun n2 H4 Y N hn3 S4 hy hn2 => ?_) (fun DD H8 nD S8 hD => ?_)
        · lcg_src
          rw [decV]
          refine w_ite (fun e => ?_) (fun e => hn2 e _ (Same.refl _))
          lcg_src
          exact hy e _ (Same.refl _)
        · lcg_src
          rename_i p9 H9 S9 e9
          have S69 := S7.trans (S8.trans S9)
          have R9 := R6.same S69
          have fa9 := fa6.same S69
          refine nums_put (v := pieceOf du x) R9.newest (by rw [t2]; have := gd.l5; omega) (fun H10 C10 T10 => ?_)
          have R10 := R9.putN C10 T10
          have fa10 := fa9.chg C10 ⟨_, T10⟩
          have hkn := R9.newest
          have hDD : H10 DD = some (.lst ((dropE (pieceOf du x) (getR (hearS du tk st x).tops (pieceOf du x % du.us))).map V.int)) := by
            have h9 := S9 _ _ hD
            exact C10 _ _ (ne_tag h9 hkn rfl) h9
          have hw9 := S69 _ _ hw6
          have hw10 : H10 lw = some (.lst (ws ++ [.str (word du st x)])) := C10 _ _ (ne_tag hw9 hkn rfl) hw9
          have hl9 := S69 _ _ hns2
          have hl10 : H10 l' = some (.lst (ns2.map V.int)) := C10 _ _ (ne_tag hl9 hkn rfl) hl9
          have keep10 : ∀ b o, b ∉ [r.t, r.l, r.h, r.m, r.n, lw] → H b = some o → H10 b = some o := fun b o hb h => by
            simp only [List.mem_cons, List.not_mem_nil, or_false, not_or] at hb
            exact C10 _ _ hb.2.2.2.2.1 (S69 _ _ (keep7 b o (by simp only [List.mem_cons, List.not_mem_nil, or_false, not_or]; exact ⟨hb.1, hb.2.1, hb.2.2.1, hb.2.2.2.1, hb.2.2.2.2.2⟩) h))
          have el := step_eq du tk st x
          rw [law_eq gd ok] at el
          have fin : ∀ (row2 : List Int) (H11 : Hp) (la : Addr) (o31 : Option V), Same H10 H11 → H10 la = none → H11 la = some (.lst ((row2 ++ [pieceOf du x]).map V.int)) →
              row2 = (if ((dropE (pieceOf du x) (getR (hearS du tk st x).tops (pieceOf du x % du.us))).length : Int) = du.uw then (dropE (pieceOf du x) (getR (hearS du tk st x).tops (pieceOf du x % du.us))).tail else dropE (pieceOf du x) (getR (hearS du tk st x).tops (pieceOf du x % du.us))) →
              PutK (.ref r.t) (.int (pieceOf du x % du.us)) (.ref la) H11 (fun H12 => D.nx (stR a0 b tk du hv r lw ++ [some (.ref l'), some (.int ((hearS du tk st x).gone : Nat)), some (.int i), some (.int x), some (.int (pieceOf du x)), some (.int (lowP du x)), some (.int (pieceOf du x % du.us)), some (.int (lowP du x % du.ls)), o24, some (.bl (isHit du st x)), o26, o27, o28, o29, o30, o31, o32]) H12) := fun row2 H11 la o31 S11 n11 h11 e11 => by
            refine tops_put (R10.same S11).tops h11 (fa10 _ n11) (by show (hearS du tk st x).tops.length ≤ 5000; omega) (fun H12 C12 T12 => ?_)
            have R12 := (R10.same S11).putT C12 T12
            obtain ⟨k12, hk12⟩ := T12.has
            obtain ⟨k11, hk11⟩ := (R10.same S11).tops.has
            have R13 : Five av H12 r (ask du tk st x) := by
              rw [el]
              unfold lawEnd
              dsimp only
              rw [← e11]
              exact R12
            have eg : (hearS du tk st x).gone = (ask du tk st x).gone := by rw [el]; rfl
            have en : (hearS du tk st x).noted = (ask du tk st x).noted := by rw [el]; rfl
            rw [eg]
            refine q H12 l' _ _ _ _ _ _ _ _ _ _ _ _ _ (fun b o hb h => ?_) ((fa10.same S11).chg C12 ⟨_, hk12⟩) R13 (C12 _ _ (ne_tag (S11 _ _ hw10) hk11 rfl) (S11 _ _ hw10)) nl2 ⟨ns2, C12 _ _ (ne_tag (S11 _ _ hl10) hk11 rfl) (S11 _ _ hl10), by rw [← en]; exact hnn2⟩
            simp only [List.mem_cons, List.not_mem_nil, or_false, not_or] at hb
            exact C12 _ _ hb.1 (S11 _ _ (keep10 b o (by simp only [List.mem_cons, List.not_mem_nil, or_false, not_or]; exact hb) h))
          clear keep7 keep10 R6 R9 fa6 fa9 S69 hw9 hl9 hkn hns2 hw6
          have hol : (dropE (pieceOf du x) (getR (hearS du tk st x).tops (pieceOf du x % du.us))).length ≤ 1000 := by
            have h1 := List.length_filter_le (fun z => !decide (z = pieceOf du x)) (getR (hearS du tk st x).tops (pieceOf du x % du.us))
            have h2 := ok.uw
            unfold dropE
            omega
          lcg_src
          rw [decV, List.length_map]
          refine w_ite (fun c => ?_) (fun c => ?_)
          · have c' := of_decide_eq_true c
            have huw := ok.uw
            obtain ⟨y0, rest0, ey⟩ : ∃ y0 rest0, dropE (pieceOf du x) (getR (hearS du tk st x).tops (pieceOf du x % du.us)) = y0 :: rest0 := by
              cases e : dropE (pieceOf du x) (getR (hearS du tk st x).tops (pieceOf du x % du.us)) with
              | nil =>
                rw [e] at c'
                simp only [List.length_nil] at c'
                omega
              | cons y0 rest0 => exact ⟨y0, rest0, rfl⟩
            rw [ey] at hol
            rw [ey] at hDD
            simp only [List.length_cons] at hol
            lcg_src
            rename_i pa Ha na Sa ea pb Hb nb Sb eb
            rw [List.map_cons, cut_tail] at ea
            rw [List.map_cons, cut_tail]
            refine ⟨by
              rw [List.length_map]
              exact Nat.le_of_lt (big_len (by simp only [List.length_cons, List.length_nil]; omega)), ?_⟩
            lcg_src
            rename_i pc Hc nc Sc ec
            refine fin rest0 Hc pc (some (.ref DD)) (Sa.trans (Sb.trans Sc)) (free_of nc (Sa.trans Sb)) (by rw [ec, List.map_append]; rfl) (by rw [if_pos c', ey]; rfl)
          · have c' := of_decide_eq_false c
            lcg_src
            rename_i pb Hb nb Sb eb
            refine ⟨by
              rw [List.length_map]
              exact Nat.le_of_lt (big_len (by simp only [List.length_cons, List.length_nil]; omega)), ?_⟩
            lcg_src
            rename_i pc Hc nc Sc ec
            refine fin _ Hc pc (some (.ref DD)) (Sb.trans Sc) (free_of nc Sb) (by rw [ec, List.map_append]; rfl) (by rw [if_neg c'])
end
end
section
/-! The law's run of shelves, whole. -/
open PySem PySem.Spec PyProof.Rows L2
section
variable {P : Program} {w : World} {K : Fr0} {mg : Str → Option Value} {base : Heap}
def wordsM (du : Duo) (tk : Bool) (row : List Int) : List Str := (List.range row.length).map fun i => word du (runS du tk (row.take i)) (row.getD i 0)
theorem words_take {du : Duo} {tk : Bool} {row : List Int} {i : Nat} {x : Int} (h : row[i]? = some x) : wordsM du tk (row.take (i + 1)) = wordsM du tk (row.take i) ++ [word du (runS du tk (row.take i)) x] := by
  have hi := (List.getElem?_eq_some_iff.mp h).1
  unfold wordsM
  rw [List.length_take, List.length_take, Nat.min_eq_left (by omega), Nat.min_eq_left (by omega), List.range_succ, List.map_append]
  congr 1
  · refine List.map_congr_left fun j hj => ?_
    have hj := List.mem_range.mp hj
    rw [List.take_take, List.take_take, Nat.min_eq_left (by omega), Nat.min_eq_left (by omega)]
    congr 1
    rw [List.getD_eq_getElem?_getD, List.getD_eq_getElem?_getD, List.getElem?_take_of_lt (by omega), List.getElem?_take_of_lt (by omega)]
  · show [word du (runS du tk ((row.take (i + 1)).take i)) ((row.take (i + 1)).getD i 0)] = _
    rw [List.take_take, Nat.min_eq_left (by omega), List.getD_eq_getElem?_getD, List.getElem?_take_of_lt (by omega), h]
    rfl
theorem words_len (du : Duo) (tk : Bool) (row : List Int) : (wordsM du tk row).length = row.length := by
  unfold wordsM
  rw [List.length_map, List.length_range]
theorem runS_good {du : Duo} {tk : Bool} (ok : du.ok) {row : List Int} (hb : ∀ x ∈ row, Big x) (i : Nat) (hi : i ≤ row.length) : Good du i (runS du tk (row.take i)) := by
  have g := good_run (tk := tk) ok (row.take i) 0 sh0 (good0 du) fun y hy => hb y (List.mem_of_mem_take hy)
  rw [List.length_take, Nat.zero_add, Nat.min_eq_left hi] at g
  exact g
theorem ask_noted {du : Duo} {tk : Bool} {n : Nat} {s : Sh} {x : Int} (g : Good du n s) (ok : du.ok) : (ask du tk s x).noted ≤ s.noted + 1 := by
  rw [← law_eq g ok, step_eq]
  show (hearS du tk s x).noted ≤ _
  obtain ⟨m1, m2, m3, m4, m5, m6⟩ := misS_lows du s x
  have hb : (lawBack du tk (getR s.lows (lowP du x % du.ls)) (lowP du x) (misS du s x)).noted = s.noted := by
    rcases back_or du tk (getR s.lows (lowP du x % du.ls)) (lowP du x) with h | ⟨_, _, h⟩
    · rw [h, m5]
    · rw [h]
      exact m5
  unfold hearS
  split
  · show (if isHit du s x = true then (lawBack du tk (getR s.lows (lowP du x % du.ls)) (lowP du x) (misS du s x)).noted + 1 else (lawBack du tk (getR s.lows (lowP du x % du.ls)) (lowP du x) (misS du s x)).noted) ≤ _
    rw [hb]
    split <;> omega
  · rw [m5]
    omega
theorem runS_noted {du : Duo} {tk : Bool} (ok : du.ok) {row : List Int} (hb : ∀ x ∈ row, Big x) (i : Nat) (hi : i ≤ row.length) : (runS du tk (row.take i)).noted ≤ i := by
  induction i with
  | zero => exact Nat.le_refl _
  | succ i ih =>
    have h := List.getElem?_eq_getElem (l := row) (i := i) (by omega)
    rw [run_take h]
    exact Nat.le_trans (ask_noted (runS_good ok hb i (by omega)) ok) (Nat.succ_le_succ (ih (by omega)))
abbrev spRunL (K : Fr0) : Sp := s3 fun d r t H Q _ => ∃ du b row tk, DuoV K H d du ∧ Duo.ok du ∧ r = .ref b ∧ SqT K H b (row.map V.int) ∧ (∀ x ∈ row, Big x) ∧ row.length ≤ 90 ∧ t = .bl tk ∧
  ∀ z lw ln dt dl (ns : List Int) H', Same H H' → SqT K H' z [.ref lw, .ref ln, .ref dt, .ref dl, .int (runS du tk row).gone] → H' lw = some (.lst ((wordsM du tk row).map V.str)) → H' ln = some (.lst (ns.map V.int)) → ns.length = (runS du tk row).noted →
    dl ≠ dt → TopsAt (fun _ => True) H' dt (runS du tk row).tops → TopsAt (fun _ => True) H' dl (runS du tk row).lows → Q (.ref z) H'

theorem ok_q_run (T : Tx K mg) : FnR P w K mg base CX0 3 (ad K "_law_run") (spRunL K) := by
  obtain ⟨fd, F⟩ := T.fd_q_run
  refine fnr F (fun _ _ _ _ _ _ us hl => match us, hl with | [_, _, _], _ => rfl) sc_q_run (fun vs H Q E h => ?_) (fun cdv A outer s H vs Q E hr h => ?_)
  · first | exact l1 h | exact l0 h | exact l2 h | exact l3 h | exact l4 h | exact l5 h | exact l6 h
  · have hu := hu_of hr
    obtain ⟨tb3, hp3, kp3⟩ := part_run3 (P := P) (w := w) (base := base) (f := ad K "_law_run") (cdv := cdv) (A := A) (outer := outer) (s := s) (HE := H) (E := E) T hr
    refine ⟨_, PSs.nox (pss_cons (ps_asg (pv 0) (pg_tup (n := 3) rfl (pgs_cons (pg_tup (n := 3) rfl (pgs_cons (pg_name (i := 3) sc_q_run.nd rfl (Or.inl rfl)) (pgs_cons (pg_name (i := 4) sc_q_run.nd rfl (Or.inl rfl)) (pgs_cons (pg_name (i := 5) sc_q_run.nd rfl (Or.inr rfl)) pgs_nil)))) (pgs_cons (pg_tup (n := 3) rfl (pgs_cons (pg_name (i := 6) sc_q_run.nd rfl (Or.inl rfl)) (pgs_cons (pg_name (i := 7) sc_q_run.nd rfl (Or.inl rfl)) (pgs_cons (pg_name (i := 8) sc_q_run.nd rfl (Or.inr rfl)) pgs_nil)))) (pgs_cons (pg_name (i := 9) sc_q_run.nd rfl (Or.inl rfl)) pgs_nil)))))
      (pss_cons (ps_asg (pe_tupS (pa_cons pe_dicS (pa_cons pe_dicS (pa_cons pe_dicS (pa_cons pe_dicS (pa_cons pe_dicS pa_nil)))))) (pg_tup (n := 5) rfl (pgs_cons (pg_name (i := 10) sc_q_run.nd rfl (Or.inl rfl)) (pgs_cons (pg_name (i := 11) sc_q_run.nd rfl (Or.inl rfl)) (pgs_cons (pg_name (i := 12) sc_q_run.nd rfl (Or.inl rfl)) (pgs_cons (pg_name (i := 13) sc_q_run.nd rfl (Or.inl rfl)) (pgs_cons (pg_name (i := 14) sc_q_run.nd rfl (Or.inl rfl)) pgs_nil)))))))
      (pss_cons (ps_par3 (by rfl) sc_q_run.nd (i := 15) (j := 16) (l := 17) rfl rfl rfl (by decide) (by decide) (by decide) rfl rfl rfl (pa_cons (pe_lstS pa_nil) (pa_cons (pe_lstS pa_nil) (pa_cons pe_int pa_nil))) (by rfl))
      (pss_cons (ps_for PassesOwn.never rfl (pi_enumT (by rfl) T.f_enumerate (pa_cons (pv 1) pa_nil)) (pg_tup (n := 2) rfl (pgs_cons (pg_name (i := 18) sc_q_run.nd rfl (Or.inl rfl)) (pgs_cons (pg_name (i := 19) sc_q_run.nd rfl (Or.inl rfl)) pgs_nil))) hp3)
      (pss_one (ps_ret (pe_tupS (pa_cons (pv 15) (pa_cons (pv 16) (pa_cons (pv 10) (pa_cons (pv 11) (pa_cons (pv 17) pa_nil)))))))))))), ?_⟩
    try dsimp only [cxOf, Cx.nox, Cx.wish]
    obtain ⟨d, r, t, rfl, du, b, row, tk, hd, ok, rfl, hb, hbig, hlen, rfl, q⟩ := h
    obtain ⟨a0, u, lo, hv, rfl, ha0, hu1, hlo, hh⟩ := hd.open
    have o1 := ok.ub
    have o2 := ok.lb
    have o3 := ok.ls
    have o4 := ok.us
    have hσ : start N_q_run [V.ref a0, V.ref b, V.bl tk] = [some (.ref a0), some (.ref b), some (.bl tk), none, none, none, none, none, none, none, none, none, none, none, none, none, none, none, none, none, none, none, none, none, none, none, none, none, none, none, none, none, none] := rfl
    rw [hσ]
    lcg_src
    simp only [List.set_cons_succ, List.set_cons_zero]
    rename_i p1 G1 n1 S1 e1 p2 G2 n2 S2 e2 p3 G3 n3 S3 e3 p4 G4 n4 S4 e4 p5 G5 n5 S5 e5 p6 G6 S6 e6 lw G7 n7 S7 e7 ln G8 n8 S8 e8
    have S05 := S1.trans (S2.trans (S3.trans (S4.trans S5)))
    have S08 := S05.trans (S6.trans (S7.trans S8))
    have s58 := S6.trans (S7.trans S8)
    have f2 := free_of n2 S1
    have f3 := free_of n3 (S1.trans S2)
    have f4 := free_of n4 (S1.trans (S2.trans S3))
    have f5 := free_of n5 (S1.trans (S2.trans (S3.trans S4)))
    have f7 : H lw = none := free_of n7 (S05.trans S6)
    have F8 : Five (fun b => b ≠ lw) G8 ⟨0, p1, p2, p3, p4, p5⟩ sh0 :=
      ⟨tops_new (s58 _ _ ((S2.trans (S3.trans (S4.trans S5))) _ _ e1)), tops_new (s58 _ _ ((S3.trans (S4.trans S5)) _ _ e2)), nums_new (s58 _ _ ((S4.trans S5) _ _ e3)), nums_new (s58 _ _ (S5 _ _ e4)), nums_new (s58 _ _ e5),
        mk5 ⟨(ne_of_none e1 n2).symm, (ne_of_none (S2 _ _ e1) n3).symm, (ne_of_none (S3 _ _ (S2 _ _ e1)) n4).symm, (ne_of_none (S4 _ _ (S3 _ _ (S2 _ _ e1))) n5).symm, (ne_of_none e2 n3).symm, (ne_of_none (S3 _ _ e2) n4).symm, (ne_of_none (S4 _ _ (S3 _ _ e2)) n5).symm, (ne_of_none e3 n4).symm, (ne_of_none (S4 _ _ e3) n5).symm, (ne_of_none e4 n5).symm⟩⟩
    have nlw : lw ≠ ln := ne_of_none e7 n8
    refine ForG.enT (K := K) (fun i σ' H' => (∃ l o18 o19 o20 o21 o22 o23 o24 o25 o26 o27 o28 o29 o30 o31 o32, σ' = stR a0 b tk du hv ⟨0, p1, p2, p3, p4, p5⟩ lw ++ [some (.ref l), some (.int ((runS du tk (row.take i)).gone : Nat)), o18, o19, o20, o21, o22, o23, o24, o25, o26, o27, o28, o29, o30, o31, o32] ∧ l ≠ lw ∧ ∃ ns : List Int, H' l = some (.lst (ns.map V.int)) ∧ ns.length = (runS du tk (row.take i)).noted ∧ ns.length ≤ i) ∧ Same H H' ∧ Five (fun b => b ≠ lw) H' ⟨0, p1, p2, p3, p4, p5⟩ (runS du tk (row.take i)) ∧ H' lw = some (.lst ((wordsM du tk (row.take i)).map V.str)) ∧ FA (fun b => b ≠ lw) H')
      ⟨⟨_, _, _, _, _, _, _, _, _, _, _, _, _, _, _, _, rfl, nlw.symm, [], e8, rfl, Nat.le_refl _⟩, S08, F8, S8 _ _ e7, fun c hc e => by
        rw [e, S8 _ _ e7] at hc
        cases hc⟩ (fun i σ' H' z => sm_T z.2.1 hb) (fun i v σ' H' tp H2 hx hi S9 htp => ?_) (fun σ' H' hi => ?_)
    · obtain ⟨⟨l, o18, o19, o20, o21, o22, o23, o24, o25, o26, o27, o28, o29, o30, o31, o32, rfl, nl, ns, hns, hnl, hni⟩, SH, R, hw, fa⟩ := hi
      obtain ⟨x, rfl, hrn⟩ := row_at hx
      have hil := (List.getElem?_eq_some_iff.mp hrn).1
      have bg := hbig x (List.mem_of_getElem? hrn)
      have gd := runS_good (tk := tk) ok hbig i (Nat.le_of_lt hil)
      lcg_src
      simp only [stR, List.cons_append, List.nil_append, List.set_cons_succ, List.set_cons_zero]
      refine kp3 _ H2 _ ⟨0, p1, p2, p3, p4, p5⟩ a0 b tk du hv lw l (runS du tk (row.take i)) i x ns _ _ _ _ _ _ _ _ _ _ _ _ _ _ i ok gd (by omega) (R.same S9) (fa.same S9) (sm_Dp (SH.trans S9) hh) bg (S9 _ _ hns) hnl (by omega) (S9 _ _ hw) (by rw [List.length_map, words_len, List.length_take]; omega) (fun z => z rfl) nl (fun H3 l' o20 o21 o22 o23 o24 o25 o26 o27 o28 o29 o30 o31 o32 kp fa' R' hw' nl' hn' => ?_)
      obtain ⟨ns2, hns2, hn2⟩ := hn'
      have hn3 := runS_noted (tk := tk) ok hbig (i + 1) hil
      rw [run_take hrn] at hn3
      rw [run_take hrn, words_take hrn, List.map_append]
      refine ⟨⟨l', _, _, _, _, _, _, _, _, _, _, _, _, _, _, _, rfl, nl', ns2, hns2, hn2, by omega⟩, fun b o h => kp b o ?_ (S9 _ _ (SH _ _ h)), R', hw', fa'⟩
      simp only [List.mem_cons, List.not_mem_nil, or_false, not_or]
      exact ⟨ne_of_none h n1, ne_of_none h f2, ne_of_none h f3, ne_of_none h f4, ne_of_none h f5, ne_of_none h f7⟩
    · obtain ⟨⟨l, o18, o19, o20, o21, o22, o23, o24, o25, o26, o27, o28, o29, o30, o31, o32, rfl, nl, ns, hns, hnl, hni⟩, SH, R, hw, fa⟩ := hi
      rw [List.length_map, List.take_length] at hnl R hw ⊢
      lcg_src
      rename_i pz Hz Sz ez
      exact q pz lw l p1 p2 ns Hz (SH.trans Sz) ez (Sz _ _ hw) (Sz _ _ hns) hnl (nd5 R.nd).1 ((R.tops.same Sz).av_of fun _ _ => trivial) ((R.lows.same Sz).av_of fun _ _ => trivial)
end
end
section
/-! The defs, part K: what is raised. -/
open PySem PySem.Spec PyProof.Rows L2
section
variable {X : Cx}
theorem sc_IN : FnScope ["self", "given"] ["self", "given"] (defScope s_InvalidNumber_init) := ⟨rfl, rfl, rfl, by decide +kernel, rfl, by decide +kernel, by decide +kernel⟩
theorem pmk_IN (T : Tx X.K X.mg) (hr : Room 2 X.A) {e : Expr} {ae : TE} {p pos : Pos} (hg : Gl X "InvalidNumber") (ha : PE X e ae) (hs : starEach [e] X.env = (false, eval e X.env) :: starEach [] X.env := by rfl) : PMk X (.Call (.Name "InvalidNumber" p) [e] [] pos) (tMkX (ad X.K "InvalidNumber") "given" ae) := by
  obtain ⟨fd, F⟩ := T.fd_InvalidNumber_init
  have b : Binds X.K fd ["self", "given"] [] := F.bindsN fun _ _ _ _ _ _ us hl => match us, hl with | [_, _], _ => rfl
  have ok := ok_xinit (P := X.prog) (w := X.w) (mg := X.mg) (base := X.base) PySem.F.store_ValueError T.xc_InvalidNumber T.xn_InvalidNumber F sc_IN rfl rfl (by decide) (by decide) rfl
  exact pmk_x PySem.F.excBase_ValueError T.xc_InvalidNumber T.xi_InvalidNumber.1 T.xi_InvalidNumber.2 ok b hr hg T.g_InvalidNumber ha (by decide) hs rfl
end
section
variable {P : Program} {w : World} {K : Fr0} {mg : Str → Option Value} {base : Heap}
/-- an exception of the class C that bears v in its field f -/
def Bears (C : Addr) (f : Str) (v : V) (H : Hp) (E : XK) : Prop := ∀ d H2, H d = none → Same H H2 → H2 d = some (.xd [(f, v)]) → E (.ref C) (some d) H2
abbrev spCheckPlace (K : Fr0) : Sp := s1 fun v H Q E => (∃ i, v = .int i ∧ 0 ≤ i ∧ i ≤ 9999999999999999999999999999999999999999999999999999999999999999999999 ∧ Q .non H) ∨ (NotI K H v ∧ Bears (ad K "InvalidNumber") "given" v H E) ∨ (∃ i, v = .int i ∧ (i < 0 ∨ 9999999999999999999999999999999999999999999999999999999999999999999999 < i) ∧ Bears (ad K "InvalidNumber") "given" v H E)
abbrev N_check_place : List Str := ["value"]
abbrev P_check_place : List Str := ["value"]
theorem sc_check_place : FnScope N_check_place P_check_place (defScope s_check_place) := ⟨rfl, rfl, rfl, by decide +kernel, rfl, by decide +kernel, by decide +kernel⟩
theorem ok_check_place (T : Tx K mg) : FnR P w K mg base (L2.CX P w) 3 (ad K "check_place") (spCheckPlace K) := by
  obtain ⟨fd, F⟩ := T.fd_check_place
  refine fnr F (fun _ _ _ _ _ _ us hl => match us, hl with | [_], _ => rfl) sc_check_place (fun vs H Q E h => ?_) (fun cdv A outer s H vs Q E hr h => ?_)
  · first | exact l1 h | exact l0 h | exact l2 h | exact l3 h | exact l4 h | exact l5 h | exact l6 h
  · have hu := hu_of hr
    obtain ⟨tk_MOST_PLACE, mc_MOST_PLACE⟩ := T.c_MOST_PLACE
    refine ⟨_, (pss_one (ps_if (pt_not (pt_val (pe_fn (ok_is_within T) (hr.mono (by decide)) (by rfl) T.g_is_within T.k_is_within pass0 (pa_cons (pv 0) (pa_cons pe_int (pa_cons (pe_glob (v := .int 9999999999999999999999999999999999999999999999999999999999999999999999) rfl mc_MOST_PLACE ⟨_, rfl⟩) pa_nil)))))) (pss_one (ps_raise rfl (takes_of rfl rfl rfl rfl) (pmk_IN T (hr.mono (by decide)) (by rfl) (pv 0)))) pss_nil)), ?_⟩
    try dsimp only [cxOf, Cx.nox, Cx.wish]
    obtain ⟨v, rfl, h⟩ := h
    rcases h with ⟨i, rfl, b0, b1, q⟩ | ⟨hn, q⟩ | ⟨i, rfl, hi, q⟩
    · lcg_src
      refine .inl ⟨i, rfl, ?_⟩
      rw [decide_eq_true b0, decide_eq_true b1]
      lcg_src
      exact q
    · lcg_src
      refine .inr ⟨hn, ?_⟩
      lcg_src
      refine (show tVar 0 _ _ _ from w_var rfl ?_)
      exact fun d H2 n S e => q d H2 n S e
    · lcg_src
      refine .inl ⟨i, rfl, ?_⟩
      have e : (decide (0 ≤ i) && decide (i ≤ 9999999999999999999999999999999999999999999999999999999999999999999999)) = false := by
        rcases hi with h | h
        · rw [decide_eq_false (by omega)]
          rfl
        · rw [decide_eq_false (show ¬ i ≤ _ by omega), Bool.and_false]
      rw [e]
      lcg_src
      refine (show tVar 0 _ _ _ from w_var rfl ?_)
      exact fun d H2 n S e => q d H2 n S e
end
end
section
/-! The defs, part J: asks that are none. -/
open PySem PySem.Spec PyProof.Rows L2
theorem row_at2 {row : List Int} {i : Nat} {v : V} (hx : (row.map V.int)[i]? = some v) : ∃ n, v = .int n ∧ row[i]? = some n := by
  rw [List.getElem?_map] at hx
  cases e : row[i]? with
  | none => rw [e] at hx; cases hx
  | some n =>
    rw [e] at hx
    exact ⟨n, (Option.some.inj hx).symm, rfl⟩
section
variable {P : Program} {w : World} {K : Fr0} {mg : Str → Option Value} {base : Heap}
abbrev spWrongAsk (K : Fr0) : Sp := s1 fun v H Q _ => ∃ a, ∃ row : List Int, v = .ref a ∧ SqT K H a (row.map V.int) ∧ (∀ x ∈ row, Big x) ∧ row.length ≤ 1000 ∧ NewT K H [] Q
abbrev N_wrong_ask : List Str := ["row", "at", "place"]
abbrev P_wrong_ask : List Str := ["row"]
theorem sc_wrong_ask : FnScope N_wrong_ask P_wrong_ask (defScope s_wrong_ask) := ⟨rfl, rfl, rfl, by decide +kernel, rfl, by decide +kernel, by decide +kernel⟩
theorem ok_wrong_ask (T : Tx K mg) : FnR P w K mg base CX0 3 (ad K "wrong_ask") (spWrongAsk K) := by
  obtain ⟨fd, F⟩ := T.fd_wrong_ask
  refine fnr F (fun _ _ _ _ _ _ us hl => match us, hl with | [_], _ => rfl) sc_wrong_ask (fun vs H Q E h => ?_) (fun cdv A outer s H vs Q E hr h => ?_)
  · first | exact l1 h | exact l0 h | exact l2 h | exact l3 h | exact l4 h | exact l5 h | exact l6 h
  · have hu := hu_of hr
    obtain ⟨tk_MOST_PLACE, mc_MOST_PLACE⟩ := T.c_MOST_PLACE
    obtain ⟨tk_MOST_PLACES, mc_MOST_PLACES⟩ := T.c_MOST_PLACES
    refine ⟨_, PSs.nox (pss_cons (ps_if (pt_not (pt_val (pe_callB call_isi (by rfl) T.f_isinstance boot_isinst (pa_cons (pv 0) (pa_cons (pe_bltn (v := .ty "tuple") (by rfl) T.f_tuple boot_tupleT rfl) pa_nil))))) (pss_one (ps_ret (pe_tupS (pa_cons pe_non pa_nil)))) pss_nil)
      (pss_cons (ps_for PassesOwn.never rfl (pi_enumT (by rfl) T.f_enumerate (pa_cons (pv 0) pa_nil)) (pg_tup (n := 2) rfl (pgs_cons (pg_name (i := 1) sc_wrong_ask.nd rfl (Or.inl rfl)) (pgs_cons (pg_name (i := 2) sc_wrong_ask.nd rfl (Or.inl rfl)) pgs_nil))) (pss_one (ps_if (PW.pt (pw_or (pt_not (pt_val (pe_fn (ok_is_withinI T) (hr.mono (by decide)) (by rfl) T.g_is_within T.k_is_within pass0 (pa_cons (pv 2) (pa_cons pe_int (pa_cons (pe_glob (v := .int 9999999999999999999999999999999999999999999999999999999999999999999999) rfl mc_MOST_PLACE ⟨_, rfl⟩) pa_nil)))))) (pw_or1 (pt_cmpR op_ge (pv 1) (pe_glob (v := .int 2000) rfl mc_MOST_PLACES ⟨_, rfl⟩) (nomark _))))) (pss_one (ps_ret (pe_tupS (pa_cons (pv 1) pa_nil)))) pss_nil)))
      (pss_one (ps_ret (pe_tupS pa_nil))))), ?_⟩
    try dsimp only [cxOf, Cx.nox, Cx.wish]
    obtain ⟨v, rfl, a, row, rfl, ha, hbig, hlen, q⟩ := h
    lcg_src
    refine ForG.enT (K := K) (fun _ σ' H' => Same H H' ∧ ∃ o1 o2, σ' = [some (.ref a), o1, o2]) ⟨Same.refl H, _, _, rfl⟩ (fun _ _ H' p => sm_T p.1 ha) (fun m x σ' H1 p H2 hx hp S2 hp2 => ?_) (fun σ' H1 hp => ?_)
    · obtain ⟨S1, o1, o2, rfl⟩ := hp
      obtain ⟨n, rfl, hn⟩ := row_at2 hx
      obtain ⟨b0, b1⟩ := hbig n (List.mem_of_getElem? hn)
      have hm := (List.getElem?_eq_some_iff.mp hn).1
      lcg_src
      have e1 : decide (0 ≤ n) = true := decide_eq_true b0
      have e2 : decide (n ≤ 9999999999999999999999999999999999999999999999999999999999999999999999) = true := decide_eq_true (by omega)
      rw [e1, e2]
      lcg_src
      refine w_ite (fun e => absurd (of_decide_eq_true e) (by omega)) (fun e => ?_)
      lcg_src
      exact ⟨S1.trans S2, _, _, rfl⟩
    · obtain ⟨S1, o1, o2, rfl⟩ := hp
      lcg_src
      exact q _ _ (by kas_types) (by assumption)
end
end
section
/-! Marks and trials. -/
open PySem PySem.Spec PyProof.Rows L2
section
variable {P : Program} {w : World} {K : Fr0} {mg : Str → Option Value} {base : Heap}
abbrev spMarkInit (K : Fr0) : Sp := s3 fun m s b H Q _ => ∃ x d, m = .ref x ∧ H x = some (.ins (ad K "Mark") d []) ∧ ∀ H', Chg x H H' → H' x = some (.ins (ad K "Mark") d [("states", s), ("before", b)]) → Q .non H'
abbrev N_Mark_init : List Str := ["self", "states", "before"]
abbrev P_Mark_init : List Str := ["self", "states", "before"]
theorem sc_Mark_init : FnScope N_Mark_init P_Mark_init (defScope s_Mark_init) := ⟨rfl, rfl, rfl, by decide +kernel, rfl, by decide +kernel, by decide +kernel⟩
theorem ok_Mark_init (T : Tx K mg) : FnR P w K mg base CX0 1 (am K "Mark" "__init__") (spMarkInit K) := by
  obtain ⟨fd, F⟩ := T.fd_Mark_init
  refine fnr F (fun _ _ _ _ _ _ us hl => match us, hl with | [_, _, _], _ => rfl) sc_Mark_init (fun vs H Q E h => ?_) (fun cdv A outer s H vs Q E hr h => ?_)
  · first | exact l1 h | exact l0 h | exact l2 h | exact l3 h | exact l4 h | exact l5 h | exact l6 h
  · have hu := hu_of hr
    refine ⟨_, PSs.nox (pss_cons (ps_fldS (pv 0) (pv 1) rfl)
      (pss_one (ps_fldS (pv 0) (pv 2) rfl))), ?_⟩
    try dsimp only [cxOf, Cx.nox, Cx.wish]
    obtain ⟨m, s, b, rfl, x, d, rfl, hx, q⟩ := h
    have c0 := T.cl_Mark
    have c1 := T.na_Mark_states
    have c2 := T.na_Mark_before
    lcg_src
    exact q _ (by kpf_close) (by assumption)
abbrev spTrialInit (K : Fr0) : Sp := s2 fun m s H Q _ => ∃ x d, m = .ref x ∧ H x = some (.ins (ad K "Trial") d []) ∧ ∀ H', Chg x H H' → H' x = some (.ins (ad K "Trial") d [("holder", s), ("mark", .non)]) → Q .non H'
abbrev N_Trial_init : List Str := ["self", "holder"]
abbrev P_Trial_init : List Str := ["self", "holder"]
theorem sc_Trial_init : FnScope N_Trial_init P_Trial_init (defScope s_Trial_init) := ⟨rfl, rfl, rfl, by decide +kernel, rfl, by decide +kernel, by decide +kernel⟩
theorem ok_Trial_init (T : Tx K mg) : FnR P w K mg base CX0 1 (am K "Trial" "__init__") (spTrialInit K) := by
  obtain ⟨fd, F⟩ := T.fd_Trial_init
  refine fnr F (fun _ _ _ _ _ _ us hl => match us, hl with | [_, _], _ => rfl) sc_Trial_init (fun vs H Q E h => ?_) (fun cdv A outer s H vs Q E hr h => ?_)
  · first | exact l1 h | exact l0 h | exact l2 h | exact l3 h | exact l4 h | exact l5 h | exact l6 h
  · have hu := hu_of hr
    refine ⟨_, PSs.nox (pss_cons (ps_fldS (pv 0) (pv 1) rfl)
      (pss_one (ps_fldS (pv 0) pe_non rfl))), ?_⟩
    try dsimp only [cxOf, Cx.nox, Cx.wish]
    obtain ⟨m, s, rfl, x, d, rfl, hx, q⟩ := h
    have c0 := T.cl_Trial
    have c1 := T.na_Trial_holder
    have c2 := T.na_Trial_mark
    lcg_src
    exact q _ (by kpf_close) (by assumption)
/-- the store in a trial's hand: its states come first of all that is read -/
abbrev storeF (both states : V) : List (Str × V) := [("both", both), ("states", states)]
abbrev trialF (h m : V) : List (Str × V) := [("holder", h), ("mark", m)]
abbrev markF (s b : V) : List (Str × V) := [("states", s), ("before", b)]
abbrev spEnter (K : Fr0) : Sp := s1 fun t H Q _ => ∃ x d h mk st ds bo ss, t = .ref x ∧ H x = some (.ins (ad K "Trial") d (trialF (.ref h) mk)) ∧ H h = some (.ins st ds (storeF bo ss)) ∧ st = ad K "Store" ∧
  ∀ m dm H', H m = none → Chg x H H' → H' m = some (.ins (ad K "Mark") dm (markF ss mk)) → H' x = some (.ins (ad K "Trial") d (trialF (.ref h) (.ref m))) → Q (.ref h) H'
abbrev N_Trial_enter : List Str := ["self"]
abbrev P_Trial_enter : List Str := ["self"]
theorem sc_Trial_enter : FnScope N_Trial_enter P_Trial_enter (defScope s_Trial_enter) := ⟨rfl, rfl, rfl, by decide +kernel, rfl, by decide +kernel, by decide +kernel⟩
theorem ok_Trial_enter (T : Tx K mg) : FnR P w K mg base CX0 3 (am K "Trial" "__enter__") (spEnter K) := by
  obtain ⟨fd, F⟩ := T.fd_Trial_enter
  refine fnr F (fun _ _ _ _ _ _ us hl => match us, hl with | [_], _ => rfl) sc_Trial_enter (fun vs H Q E h => ?_) (fun cdv A outer s H vs Q E hr h => ?_)
  · first | exact l1 h | exact l0 h | exact l2 h | exact l3 h | exact l4 h | exact l5 h | exact l6 h
  · have hu := hu_of hr
    refine ⟨_, PSs.nox (pss_cons (ps_fldS (pv 0) (pe_mkS T.mk_Mark (ok_Mark_init T) (hr.mono (by decide)) (by rfl) T.g_Mark (pa_cons (pe_fld (pe_fld (pv 0) rfl) rfl) (pa_cons (pe_fld (pv 0) rfl) pa_nil))) rfl)
      (pss_one (ps_ret (pe_fld (pv 0) rfl)))), ?_⟩
    try dsimp only [cxOf, Cx.nox, Cx.wish]
    obtain ⟨t, rfl, x, d, h, mk, st, ds, bo, ss, rfl, hx, hh, rfl, q⟩ := h
    have c0 := T.cl_Trial
    have c1 := T.na_Trial_holder
    have c2 := T.na_Trial_mark
    have c3 := T.cl_Store
    have c4 := T.na_Store_states
    lcg_src
    rename_i m dm G1 nm nd ne S1 e1 G2 C2 e2 G3 C3 e3
    have S2 : Same H G2 := Same.newc C2 S1 nm
    exact q m dm G3 nm ((SW.Same.chg S2).trans C3) (C3 _ _ (ne_of_none hx nm).symm e2) e3
abbrev spExit (K : Fr0) : Sp := s4 fun t k v r H Q _ => ∃ x d h m dm ds bo s1 ss mk, t = .ref x ∧ H x = some (.ins (ad K "Trial") d (trialF (.ref h) (.ref m))) ∧ H h = some (.ins (ad K "Store") ds (storeF bo s1)) ∧ H m = some (.ins (ad K "Mark") dm (markF ss mk)) ∧ x ≠ h ∧ m ≠ h ∧ m ≠ x ∧
  ∀ H1 H', Chg h H H1 → Chg x H1 H' → H' h = some (.ins (ad K "Store") ds (storeF bo ss)) → H' x = some (.ins (ad K "Trial") d (trialF (.ref h) mk)) → Q .non H'
abbrev N_Trial_exit : List Str := ["self", "kind", "value", "trace"]
abbrev P_Trial_exit : List Str := ["self", "kind", "value", "trace"]
theorem sc_Trial_exit : FnScope N_Trial_exit P_Trial_exit (defScope s_Trial_exit) := ⟨rfl, rfl, rfl, by decide +kernel, rfl, by decide +kernel, by decide +kernel⟩
theorem ok_Trial_exit (T : Tx K mg) : FnR P w K mg base CX0 1 (am K "Trial" "__exit__") (spExit K) := by
  obtain ⟨fd, F⟩ := T.fd_Trial_exit
  refine fnr F (fun _ _ _ _ _ _ us hl => match us, hl with | [_, _, _, _], _ => rfl) sc_Trial_exit (fun vs H Q E h => ?_) (fun cdv A outer s H vs Q E hr h => ?_)
  · first | exact l1 h | exact l0 h | exact l2 h | exact l3 h | exact l4 h | exact l5 h | exact l6 h
  · have hu := hu_of hr
    refine ⟨_, PSs.nox (pss_cons (ps_fldS (pe_fld (pv 0) rfl) (pe_fld (pe_fld (pv 0) rfl) rfl) rfl)
      (pss_one (ps_fldS (pv 0) (pe_fld (pe_fld (pv 0) rfl) rfl) rfl))), ?_⟩
    try dsimp only [cxOf, Cx.nox, Cx.wish]
    obtain ⟨t, k, v, r, rfl, x, d, h, m, dm, ds, bo, s1, ss, mk, rfl, hx, hh, hm, n1, n2, n3, q⟩ := h
    have c0 := T.cl_Trial
    have c1 := T.na_Trial_holder
    have c2 := T.na_Trial_mark
    have c3 := T.cl_Store
    have c4 := T.na_Store_states
    have c5 := T.cl_Mark
    have c6 := T.na_Mark_states
    have c7 := T.na_Mark_before
    lcg_src
    rename_i G1 C1 e1 G2 C2 e2
    exact q G1 G2 C1 C2 (C2 _ _ n1.symm e1) e2
end
end
section
/-! The store. -/
open PySem PySem.Spec PyProof.Rows L2
/-- a store: its states from the first one on -/
def StoreAt (K : Fr0) (av : Addr → Prop) (H : Hp) (x : Addr) (du : Duo) (tk : Bool) (row : List Int) : Prop := ∃ ds pv t, ∃ as : List Addr, H x = some (.ins (ad K "Store") ds (storeF pv (.ref t))) ∧ PairV K H pv du ∧ SqT K H t (as.map V.ref) ∧ as.length = row.length + 1 ∧
  ∀ (i : Nat) (a : Addr), as[i]? = some a → ∃ r, RunAt K av H a r pv tk (runS du tk (row.take i))
/-- what stands for a store, but its lists -/
def kindR (o : HO) : Bool := tag o == 1 || tag o == 2 || tag o == 9 || tag o == 103 || tag o == 109
/-- what stands for a pair: tuples and the pair itself -/
def kindP (o : HO) : Bool := tag o == 1 || tag o == 9 || tag o == 103
theorem kp_r {o : HO} (h : kindP o = true) : kindR o = true := by
  unfold kindP at h
  unfold kindR
  cases h1 : (tag o == 1) <;> cases h2 : (tag o == 9) <;> cases h3 : (tag o == 103) <;> simp_all
def kindS (o : HO) : Bool := kindR o || tag o == 102
section
variable {K : Fr0} {av : Addr → Prop} {H H' : Hp} {x a : Addr} {du : Duo} {tk : Bool} {row : List Int} {u : HO}
theorem rd_keep {o : HO} (k : ∀ b o, kindP o = true → H b = some o → H' b = some o) (t : kindP o = true) (h : Rd H a o) : Rd H' a o := by
  rcases h with h | ⟨u, h⟩
  · exact .inl (k _ _ t h)
  · exact .inr ⟨u, k _ _ rfl h⟩
theorem sqT_keep {xs : List V} (k : ∀ b o, kindP o = true → H b = some o → H' b = some o) (h : SqT K H a xs) : SqT K H' a xs := by
  rcases h with h | h
  · exact .inl (rd_keep k rfl h)
  · exact .inr h
mutual
theorem dp_keep (k : ∀ b o, kindP o = true → H b = some o → H' b = some o) : ∀ (d : PyData) (v : V), tupO d = true → Dp K H v d → Dp K H' v d
  | .none, _, _, h => by cases h; exact .non
  | .bool b, _, _, h => by cases h; exact .bl b
  | .int i, _, _, h => by cases h; exact .int i
  | .str x, _, _, h => by cases h; exact .str x
  | .list ds, _, t, h => by cases t
  | .tuple ds, _, t, h => by cases h with | tup x y => exact .tup (sqT_keep k x) (dps_keep k _ _ t y)
  | .dict _, _, t, h => by cases t
theorem dps_keep (k : ∀ b o, kindP o = true → H b = some o → H' b = some o) : ∀ (ds : List PyData) (vs : List V), tupOs ds = true → DpAll K H vs ds → DpAll K H' vs ds
  | [], _, _, h => by cases h; exact .nil
  | d :: ds, _, t, h => by
    have t2 : (tupO d && tupOs ds) = true := t
    rw [Bool.and_eq_true] at t2
    cases h with | cons x y => exact .cons (dp_keep k _ _ t2.1 x) (dps_keep k _ _ t2.2 y)
end
theorem pair_keep {v : V} (k : ∀ b o, kindP o = true → H b = some o → H' b = some o) (h : PairV K H v du) : PairV K H' v du := by
  obtain ⟨a, dx, b, c, x, e, h1, h2, h3, h4⟩ := h
  exact ⟨a, dx, b, c, x, e, k _ _ rfl h1, sqT_keep k h2, sqT_keep k h3, dp_keep k _ _ (he_tupO _) h4⟩
theorem tops_keep {d : Addr} {m : Rows} (k : ∀ b o, kindR o = true → H b = some o → H' b = some o) (kl : ∀ b xs, av b → H b = some (.lst xs) → H' b = some (.lst xs)) (h : TopsAt av H d m) : TopsAt av H' d m := by
  obtain ⟨as1, h1, h2⟩ := h
  exact ⟨as1, k _ _ rfl h1, h2.imp fun b xs hb e => kl b xs hb e⟩
theorem run_keep {r : RA} {pv : V} {s : Sh} (k : ∀ b o, kindR o = true → H b = some o → H' b = some o) (kl : ∀ b xs, av b → H b = some (.lst xs) → H' b = some (.lst xs)) (h : RunAt K av H a r pv tk s) : RunAt K av H' a r pv tk s :=
  ⟨k _ _ rfl h.ob, tops_keep k kl h.tops, tops_keep k kl h.lows, k _ _ rfl h.heard, k _ _ rfl h.missed, k _ _ rfl h.newest, h.nd⟩
theorem StoreAt.keep (k : ∀ b o, kindS o = true → H b = some o → H' b = some o) (kl : ∀ b xs, av b → H b = some (.lst xs) → H' b = some (.lst xs)) (h : StoreAt K av H x du tk row) : StoreAt K av H' x du tk row := by
  obtain ⟨ds, pv, t, as1, h1, h2, h3, h4, h5⟩ := h
  have kr : ∀ b o, kindR o = true → H b = some o → H' b = some o := fun b o ho => k b o (by unfold kindS; rw [ho]; rfl)
  refine ⟨ds, pv, t, as1, k _ _ rfl h1, pair_keep (fun b o h => kr b o (kp_r h)) h2, sqT_keep (fun b o h => kr b o (kp_r h)) h3, h4, fun i a ha => ?_⟩
  obtain ⟨r, hr⟩ := h5 i a ha
  exact ⟨r, run_keep kr kl hr⟩
theorem StoreAt.same (S : Same H H') (h : StoreAt K av H x du tk row) : StoreAt K av H' x du tk row := h.keep (fun b o _ => S b o) fun b xs _ => S b _
/-- something that is no part of it changes -/
theorem StoreAt.chg (C : Chg a H H') (ha : H a = some u) (t : (kindS u || tag u == 0) = false) (h : StoreAt K av H x du tk row) : StoreAt K av H' x du tk row := by
  have t2 := Bool.or_eq_false_iff.mp t
  refine h.keep (fun b o ho e => C b o (ne_of e ha fun z => ?_) e) fun b xs _ e => C b _ (ne_of e ha fun z => ?_) e
  · subst z
    rw [t2.1] at ho
    cases ho
  · subst z
    cases t2.2
/-- a list that is none of its rows changes -/
theorem StoreAt.chl (C : Chg a H H') (ha : ∃ xs, H a = some (.lst xs)) (n : ∀ b, av b → b ≠ a) (h : StoreAt K av H x du tk row) : StoreAt K av H' x du tk row := by
  obtain ⟨xs, ha⟩ := ha
  refine h.keep (fun b o ho e => C b o (ne_of e ha fun z => ?_) e) fun b xs hb e => C b _ (n b hb) e
  subst z
  cases ho
theorem TopsAt.re {av' : Addr → Prop} {d : Addr} {m : Rows} (hv : ∀ b xs, av b → H b = some (.lst xs) → av' b) (h : TopsAt av H d m) : TopsAt av' H d m := by
  obtain ⟨as1, h1, h2⟩ := h
  refine ⟨as1, h1, ?_⟩
  clear h1
  induction h2 with
  | nil => exact .nil
  | cons x y ih => exact .cons ⟨x.1, hv _ _ x.2.1 x.2.2, x.2.2⟩ ih
/-- other bounds for where its lists stand -/
theorem StoreAt.re {av' : Addr → Prop} (hv : ∀ b xs, av b → H b = some (.lst xs) → av' b) (h : StoreAt K av H x du tk row) : StoreAt K av' H x du tk row := by
  obtain ⟨ds, pv, t, as1, h1, h2, h3, h4, h5⟩ := h
  refine ⟨ds, pv, t, as1, h1, h2, h3, h4, fun i a ha => ?_⟩
  obtain ⟨r, hr⟩ := h5 i a ha
  exact ⟨r, hr.ob, hr.tops.re hv, hr.lows.re hv, hr.heard, hr.missed, hr.newest, hr.nd⟩
/-- the last state -/
theorem StoreAt.last (h : StoreAt K av H x du tk row) : ∃ ds pv t, ∃ as : List Addr, ∃ a r, H x = some (.ins (ad K "Store") ds (storeF pv (.ref t))) ∧ PairV K H pv du ∧ SqT K H t ((as ++ [a]).map V.ref) ∧ as.length = row.length ∧ RunAt K av H a r pv tk (runS du tk row) ∧ ∀ (i : Nat) (c : Addr), (as ++ [a])[i]? = some c → ∃ r, RunAt K av H c r pv tk (runS du tk (row.take i)) := by
  obtain ⟨ds, pv, t, as1, h1, h2, h3, h4, h5⟩ := h
  have hn : as1 ≠ [] := fun z => by
    rw [z] at h4
    cases h4
  have e := List.dropLast_concat_getLast hn
  have hl : (as1.dropLast).length = row.length := by rw [List.length_dropLast, h4]; omega
  obtain ⟨r, hr⟩ := h5 row.length (as1.getLast hn) (by
    conv => lhs; rw [← e]
    rw [← hl]
    simp)
  rw [List.take_length] at hr
  exact ⟨ds, pv, t, as1.dropLast, as1.getLast hn, r, h1, h2, by rw [e]; exact h3, hl, hr, by rw [e]; exact h5⟩
end
/-- ascending, by the pieces that are alone -/
def StF (K : Fr0) (x : Addr) (H H' : Hp) : Prop := ∀ ds bo ss, H x = some (.ins (ad K "Store") ds (storeF bo ss)) → ∃ s1, H' x = some (.ins (ad K "Store") ds (storeF bo s1))
theorem StF.refl {K : Fr0} {x : Addr} {H : Hp} : StF K x H H := fun _ _ ss h => ⟨ss, h⟩
theorem StF.trans {K : Fr0} {x : Addr} {H H1 H2 : Hp} (a : StF K x H H1) (b : StF K x H1 H2) : StF K x H H2 := fun ds bo ss h => by
  obtain ⟨s1, h1⟩ := a ds bo ss h
  exact b ds bo s1 h1
theorem StF.same {K : Fr0} {x : Addr} {H H1 : Hp} (S : Same H H1) : StF K x H H1 := fun _ _ ss h => ⟨ss, S _ _ h⟩
theorem StF.at {K : Fr0} {x : Addr} {H H1 : Hp} {ds : Addr} {bo ss s1 : V} (h : H x = some (.ins (ad K "Store") ds (storeF bo ss))) (h1 : H1 x = some (.ins (ad K "Store") ds (storeF bo s1))) : StF K x H H1 := fun ds' bo' ss' e => by
  rw [h] at e
  cases e
  exact ⟨s1, h1⟩
def sortI (l : List Int) : List Int := l.mergeSort
theorem sortI_eq {ns l : List Int} (p : ns.Perm l) (o : ns.Pairwise (· ≤ ·)) : ns = sortI l := by
  have h1 : (sortI l).Pairwise (fun a b => decide (a ≤ b) = true) := List.pairwise_mergeSort (le := fun a b => decide (a ≤ b)) (fun a b c h1 h2 => by simp only [decide_eq_true_eq] at *; omega) (fun a b => by simp only [Bool.or_eq_true, decide_eq_true_eq]; omega) l
  have h2 : (sortI l).Pairwise (· ≤ ·) := h1.imp fun h => of_decide_eq_true h
  exact (p.trans (List.mergeSort_perm l _).symm).eq_of_pairwise (le := (· ≤ ·)) (fun a b _ _ h1 h2 => Int.le_antisymm h1 h2) o h2
def aloneM (du : Duo) (s : Sh) : List Int := sortI (lonelyM du s)
theorem TyX_P {K : Fr0} {mg : Str → Option Value} (T : Tx K mg) {H : Hp} {a dx : Addr} {fs : List (Str × V)} (h : H a = some (.ins (ad K "Pair") dx fs)) : TyX K H (.ref a) (.ref (ad K "Pair")) :=
  .base (.ins h T.cl_Pair T.py_cls T.py_spec T.py_tak T.py_mro)
theorem isi_P {K : Fr0} {mg : Str → Option Value} (T : Tx K mg) {H : Hp} {a dx : Addr} {fs : List (Str × V)} {Q : VK} (h : H a = some (.ins (ad K "Pair") dx fs)) (q : Q (.bl true) H) : rIsi K [.ref a, .ref (ad K "Pair")] H Q :=
  ⟨.ref a, .ref (ad K "Pair"), .ref (ad K "Pair"), .ref (ad K "Pair"), true, rfl, .own _, TyX_P T h, T.is_Pair, q⟩
section
variable {P : Program} {w : World} {K : Fr0} {mg : Str → Option Value} {base : Heap}
abbrev spCheckPair (K : Fr0) : Sp := s1 fun v H Q _ => ∃ du, PairV K H v du ∧ Q .non H
abbrev N_check_pair : List Str := ["value"]
abbrev P_check_pair : List Str := ["value"]
theorem sc_check_pair : FnScope N_check_pair P_check_pair (defScope s_check_pair) := ⟨rfl, rfl, rfl, by decide +kernel, rfl, by decide +kernel, by decide +kernel⟩
theorem ok_check_pair (T : Tx K mg) : FnR P w K mg base CX0 1 (ad K "check_pair") (spCheckPair K) := by
  obtain ⟨fd, F⟩ := T.fd_check_pair
  refine fnr F (fun _ _ _ _ _ _ us hl => match us, hl with | [_], _ => rfl) sc_check_pair (fun vs H Q E h => ?_) (fun cdv A outer s H vs Q E hr h => ?_)
  · first | exact l1 h | exact l0 h | exact l2 h | exact l3 h | exact l4 h | exact l5 h | exact l6 h
  · have hu := hu_of hr
    refine ⟨_, PSs.nox (pss_one (ps_if (pt_not (pt_val (pe_callB call_isi (by rfl) T.f_isinstance boot_isinst (pa_cons (pv 0) (pa_cons (pe_glob (v := .ref (ad K "Pair")) rfl T.g_Pair rfl) pa_nil))))) (pss_one ps_never) pss_nil)), ?_⟩
    try dsimp only [cxOf, Cx.nox, Cx.wish]
    obtain ⟨v, rfl, du, hp, q⟩ := h
    obtain ⟨pa, pdx, b, c, hv, rfl, h1, h2, h3, h4⟩ := id hp
    lcg_src
    refine isi_P T h1 ?_
    lcg_src
    exact q
abbrev spPairEq (K : Fr0) : Sp := s2 fun v u H Q _ => ∃ du, PairV K H v du ∧ PairV K H u du ∧ ∀ H', Same H H' → Q (.bl true) H'
abbrev N_Pair_eq : List Str := ["self", "other"]
abbrev P_Pair_eq : List Str := ["self", "other"]
theorem sc_Pair_eq : FnScope N_Pair_eq P_Pair_eq (defScope s_Pair_eq) := ⟨rfl, rfl, rfl, by decide +kernel, rfl, by decide +kernel, by decide +kernel⟩
theorem ok_Pair_eq (T : Tx K mg) : FnR P w K mg base CX0 2 (am K "Pair" "__eq__") (spPairEq K) := by
  obtain ⟨fd, F⟩ := T.fd_Pair_eq
  refine fnr F (fun _ _ _ _ _ _ us hl => match us, hl with | [_, _], _ => rfl) sc_Pair_eq (fun vs H Q E h => ?_) (fun cdv A outer s H vs Q E hr h => ?_)
  · first | exact l1 h | exact l0 h | exact l2 h | exact l3 h | exact l4 h | exact l5 h | exact l6 h
  · have hu := hu_of hr
    refine ⟨_, PSs.nox (pss_cons (ps_if (pt_not (pt_val (pe_callB call_isi (by rfl) T.f_isinstance boot_isinst (pa_cons (pv 1) (pa_cons (pe_glob (v := .ref (ad K "Pair")) rfl T.g_Pair rfl) pa_nil))))) (pss_one (ps_ret pe_bl)) pss_nil)
      (pss_one (ps_ret (pe_and (pe_cmpR (op_eqD hr.units) (pe_fld (pv 0) rfl) (pe_fld (pv 1) rfl) (nomark _)) (pe_and (pe_cmpR (op_eqD hr.units) (pe_fld (pv 0) rfl) (pe_fld (pv 1) rfl) (nomark _)) (pe_one (pe_cmpR (op_eqD hr.units) (pe_fld (pv 0) rfl) (pe_fld (pv 1) rfl) (nomark _)))))))), ?_⟩
    try dsimp only [cxOf, Cx.nox, Cx.wish]
    obtain ⟨v, u, rfl, du, hp, hp2, q⟩ := h
    obtain ⟨pa, pdx, b, c, hv, rfl, h1, h2, h3, h4⟩ := id hp
    obtain ⟨pa2, pdx2, b2, c2, hv2, rfl, k1, k2, k3, k4⟩ := id hp2
    have c0 := T.cl_Pair
    have c1 := T.na_Pair_front
    have c2 := T.na_Pair_back
    have c3 := T.na_Pair_notes
    lcg_src
    refine isi_P T k1 ?_
    lcg_src
    refine w_ifT (SeqAt.eqv_refl _ rfl) ?_
    lcg_src
    refine w_ifT (SeqAt.eqv_refl _ rfl) ?_
    have sh : SeqAt.shaped du.he.d = true := by cases du.he <;> with_unfolding_all rfl
    have cl : PyData.canLay0 du.he.d = true := by cases du.he <;> with_unfolding_all rfl
    lcg_src
    rw [SeqAt.eqv_refl _ cl]
    exact q _ (Same.refl _)
abbrev OnS (K : Fr0) (av : Addr → Prop) (H : Hp) (x : Addr) (du : Duo) (tk : Bool) (row : List Int) : Prop := StoreAt K av H x du tk row ∧ Duo.ok du ∧ (∀ y ∈ row, Big y) ∧ row.length ≤ 60 ∧ FA av H
abbrev spAsked (K : Fr0) : Sp := s1 fun s H Q _ => ∃ x av du tk row, s = .ref x ∧ OnS K av H x du tk row ∧ Q (.int (row.length : Nat)) H
abbrev N_Store_asked : List Str := ["self"]
abbrev P_Store_asked : List Str := ["self"]
theorem sc_Store_asked : FnScope N_Store_asked P_Store_asked (defScope s_Store_asked) := ⟨rfl, rfl, rfl, by decide +kernel, rfl, by decide +kernel, by decide +kernel⟩
theorem ok_Store_asked (T : Tx K mg) : FnR P w K mg base CX0 1 (ag K "Store" "asked") (spAsked K) := by
  obtain ⟨fd, F⟩ := T.fd_Store_asked
  refine fnr F (fun _ _ _ _ _ _ us hl => match us, hl with | [_], _ => rfl) sc_Store_asked (fun vs H Q E h => ?_) (fun cdv A outer s H vs Q E hr h => ?_)
  · first | exact l1 h | exact l0 h | exact l2 h | exact l3 h | exact l4 h | exact l5 h | exact l6 h
  · have hu := hu_of hr
    refine ⟨_, PSs.nox (pss_one (ps_ret (pe_op op_sub (pe_callB call_LenT (by rfl) T.f_len boot_lenB (pa_cons (pe_fld (pv 0) rfl) pa_nil)) pe_int))), ?_⟩
    try dsimp only [cxOf, Cx.nox, Cx.wish]
    obtain ⟨s, rfl, x, av, du, tk, row, rfl, ⟨hs, ok, hb, hl, fa⟩, q⟩ := h
    obtain ⟨ds, pv, t, as1, a, r, h1, h2, h3, h4, h5, h6⟩ := hs.last
    have c0 := T.cl_Store
    have c1 := T.na_Store_states
    lcg_src
    rw [List.length_map, List.length_append, h4]
    have e : (((row.length + [a].length : Nat) : Int) - 1) = (row.length : Int) := by
      simp only [List.length_cons, List.length_nil]
      omega
    rw [e]
    exact q
abbrev spNoticesS (K : Fr0) : Sp := s1 fun s H Q _ => ∃ x av du tk row, s = .ref x ∧ OnS K av H x du tk row ∧ Q (.int (runS du tk row).noted) H
abbrev N_Store_notices : List Str := ["self"]
abbrev P_Store_notices : List Str := ["self"]
theorem sc_Store_notices : FnScope N_Store_notices P_Store_notices (defScope s_Store_notices) := ⟨rfl, rfl, rfl, by decide +kernel, rfl, by decide +kernel, by decide +kernel⟩
theorem ok_Store_notices (T : Tx K mg) : FnR P w K mg base CX0 1 (ag K "Store" "notices") (spNoticesS K) := by
  obtain ⟨fd, F⟩ := T.fd_Store_notices
  refine fnr F (fun _ _ _ _ _ _ us hl => match us, hl with | [_], _ => rfl) sc_Store_notices (fun vs H Q E h => ?_) (fun cdv A outer s H vs Q E hr h => ?_)
  · first | exact l1 h | exact l0 h | exact l2 h | exact l3 h | exact l4 h | exact l5 h | exact l6 h
  · have hu := hu_of hr
    refine ⟨_, PSs.nox (pss_one (ps_ret (pe_fld (pe_ix ix_tup (pe_fld (pv 0) rfl) (pe_un un_neg pe_int) (fun _ _ => rfl)) rfl))), ?_⟩
    try dsimp only [cxOf, Cx.nox, Cx.wish]
    obtain ⟨s, rfl, x, av, du, tk, row, rfl, ⟨hs, ok, hb, hl, fa⟩, q⟩ := h
    obtain ⟨ds, pv, t, as1, a, r, h1, h2, h3, h4, h5, h6⟩ := hs.last
    have c0 := T.cl_Store
    have c1 := T.na_Store_states
    have c2 := T.cl_Run
    have c3 := T.na_Run_noted
    have ob := h5.ob
    rw [List.map_append] at h3
    lcg_src
    refine w_ixT h3 (atI_last _ _) ?_
    lcg_src
    exact q
abbrev spTakenS (K : Fr0) : Sp := s1 fun s H Q _ => ∃ x av du tk row, s = .ref x ∧ OnS K av H x du tk row ∧ Q (.int (runS du tk row).gone) H
abbrev N_Store_taken : List Str := ["self"]
abbrev P_Store_taken : List Str := ["self"]
theorem sc_Store_taken : FnScope N_Store_taken P_Store_taken (defScope s_Store_taken) := ⟨rfl, rfl, rfl, by decide +kernel, rfl, by decide +kernel, by decide +kernel⟩
theorem ok_Store_taken (T : Tx K mg) : FnR P w K mg base CX0 1 (ag K "Store" "taken") (spTakenS K) := by
  obtain ⟨fd, F⟩ := T.fd_Store_taken
  refine fnr F (fun _ _ _ _ _ _ us hl => match us, hl with | [_], _ => rfl) sc_Store_taken (fun vs H Q E h => ?_) (fun cdv A outer s H vs Q E hr h => ?_)
  · first | exact l1 h | exact l0 h | exact l2 h | exact l3 h | exact l4 h | exact l5 h | exact l6 h
  · have hu := hu_of hr
    refine ⟨_, PSs.nox (pss_one (ps_ret (pe_fld (pe_ix ix_tup (pe_fld (pv 0) rfl) (pe_un un_neg pe_int) (fun _ _ => rfl)) rfl))), ?_⟩
    try dsimp only [cxOf, Cx.nox, Cx.wish]
    obtain ⟨s, rfl, x, av, du, tk, row, rfl, ⟨hs, ok, hb, hl, fa⟩, q⟩ := h
    obtain ⟨ds, pv, t, as1, a, r, h1, h2, h3, h4, h5, h6⟩ := hs.last
    have c0 := T.cl_Store
    have c1 := T.na_Store_states
    have c2 := T.cl_Run
    have c3 := T.na_Run_gone
    have ob := h5.ob
    rw [List.map_append] at h3
    lcg_src
    refine w_ixT h3 (atI_last _ _) ?_
    lcg_src
    exact q
abbrev spAloneS (K : Fr0) : Sp := s1 fun s H Q _ => ∃ x av du tk row, s = .ref x ∧ OnS K av H x du tk row ∧ ∀ z H', Same H H' → SqT K H' z ((aloneM du (runS du tk row)).map V.int) → Q (.ref z) H'
abbrev N_Store_alone : List Str := ["self"]
abbrev P_Store_alone : List Str := ["self"]
theorem sc_Store_alone : FnScope N_Store_alone P_Store_alone (defScope s_Store_alone) := ⟨rfl, rfl, rfl, by decide +kernel, rfl, by decide +kernel, by decide +kernel⟩
theorem ok_Store_alone (T : Tx K mg) : FnR P w K mg base CX0 7 (ag K "Store" "alone") (spAloneS K) := by
  obtain ⟨fd, F⟩ := T.fd_Store_alone
  refine fnr F (fun _ _ _ _ _ _ us hl => match us, hl with | [_], _ => rfl) sc_Store_alone (fun vs H Q E h => ?_) (fun cdv A outer s H vs Q E hr h => ?_)
  · first | exact l1 h | exact l0 h | exact l2 h | exact l3 h | exact l4 h | exact l5 h | exact l6 h
  · have hu := hu_of hr
    refine ⟨_, PSs.nox (pss_one (ps_ret (pe_mt0 (pe_ix ix_tup (pe_fld (pv 0) rfl) (pe_un un_neg pe_int) (fun _ _ => rfl)) T.cl_Run T.me_Run_lonely (ok_Run_lonely T) (hr.mono (by decide)) pass0))), ?_⟩
    try dsimp only [cxOf, Cx.nox, Cx.wish]
    obtain ⟨s, rfl, x, av, du, tk, row, rfl, ⟨hs, ok, hb, hl, fa⟩, q⟩ := h
    obtain ⟨ds, pv, t, as1, a, r, h1, h2, h3, h4, h5, h6⟩ := hs.last
    have c0 := T.cl_Store
    have c1 := T.na_Store_states
    have c2 := T.me_Run_lonely
    have c3 := T.cl_Run
    have ob := h5.ob
    have gd := runS_good (tk := tk) ok hb row.length (Nat.le_refl _)
    rw [List.take_length] at gd
    have pre : RunPre K av H a r pv tk (runS du tk row) du row.length := ⟨h5, h2, ok, gd, by omega, fa⟩
    rw [List.map_append] at h3
    lcg_src
    refine w_ixT h3 (atI_last _ _) ?_
    lcg_src
    rename_i z H1 ns S1 p1 p2 hz
    rw [sortI_eq p1 p2] at hz
    exact q z H1 S1 hz
abbrev spHoldsS (K : Fr0) : Sp := s2 fun s p H Q _ => ∃ x av du tk row i, s = .ref x ∧ p = .int i ∧ Big i ∧ OnS K av H x du tk row ∧ ∀ z H', Same H H' → SqT K H' z [.bl (isHit du (runS du tk row) i), .bl (hits du (lowP du i) (runS du tk row))] → Q (.ref z) H'
abbrev N_Store_holds : List Str := ["self", "place"]
abbrev P_Store_holds : List Str := ["self", "place"]
theorem sc_Store_holds : FnScope N_Store_holds P_Store_holds (defScope s_Store_holds) := ⟨rfl, rfl, rfl, by decide +kernel, rfl, by decide +kernel, by decide +kernel⟩
theorem ok_Store_holds (T : Tx K mg) : FnR P w K mg base CX0 4 (am K "Store" "holds") (spHoldsS K) := by
  obtain ⟨fd, F⟩ := T.fd_Store_holds
  refine fnr F (fun _ _ _ _ _ _ us hl => match us, hl with | [_, _], _ => rfl) sc_Store_holds (fun vs H Q E h => ?_) (fun cdv A outer s H vs Q E hr h => ?_)
  · first | exact l1 h | exact l0 h | exact l2 h | exact l3 h | exact l4 h | exact l5 h | exact l6 h
  · have hu := hu_of hr
    refine ⟨_, PSs.nox (pss_cons (ps_expr (pe_fn (ok_check_place T) (hr.mono (by decide)) (by rfl) T.g_check_place T.k_check_place passN (pa_cons (pv 1) pa_nil)))
      (pss_one (ps_ret (pe_mt (pe_ix ix_tup (pe_fld (pv 0) rfl) (pe_un un_neg pe_int) (fun _ _ => rfl)) T.cl_Run T.me_Run_keeps (ok_Run_keeps T) (hr.mono (by decide)) pass0 (pa_cons (pv 1) pa_nil))))), ?_⟩
    try dsimp only [cxOf, Cx.nox, Cx.wish]
    obtain ⟨s, p, rfl, x, av, du, tk, row, i, rfl, rfl, ⟨i0, i1⟩, ⟨hs, ok, hb, hl, fa⟩, q⟩ := h
    obtain ⟨ds, pv, t, as1, a, r, h1, h2, h3, h4, h5, h6⟩ := hs.last
    have c0 := T.cl_Store
    have c1 := T.na_Store_states
    have c2 := T.me_Run_keeps
    have c3 := T.cl_Run
    have ob := h5.ob
    have tr := h5.tops.rd
    have lr := h5.lows.rd
    rw [List.map_append] at h3
    lcg_src
    refine .inl ⟨i, rfl, i0, by omega, ?_⟩
    lcg_src
    refine w_ixT h3 (atI_last _ _) ?_
    lcg_src
    rename_i z H1 S1 ez
    exact q z H1 S1 ez
abbrev spStInit (K : Fr0) : Sp := s3 fun s p t H Q _ => ∃ x d du tk, s = .ref x ∧ t = .bl tk ∧ H x = some (.ins (ad K "Store") d []) ∧ PairV K H p du ∧ Duo.ok du ∧ ∀ H', Chg x H H' → (∀ av, StoreAt K av H' x du tk []) → Q .non H'
abbrev N_Store_init : List Str := ["self", "pair", "takes_back"]
abbrev P_Store_init : List Str := ["self", "pair", "takes_back"]
theorem sc_Store_init : FnScope N_Store_init P_Store_init (defScope s_Store_init) := ⟨rfl, rfl, rfl, by decide +kernel, rfl, by decide +kernel, by decide +kernel⟩
theorem okk_Store_init (T : Tx K mg) : ∃ fd, FunD K "__init__" "Store.__init__" (defArgs s_Store_init) (defBody s_Store_init) (defScope s_Store_init) [.bl false] [] (am K "Store" "__init__") fd ∧ FnOk P w K mg base CX0 3 (am K "Store" "__init__") fd P_Store_init (spStInit K) := by
  obtain ⟨fd, F⟩ := T.fd_Store_init
  refine ⟨fd, F, F.ok sc_Store_init (fun vs H Q E h => ?_) (fun cdv A outer s H vs Q E hr h => ?_)⟩
  · first | exact l1 h | exact l0 h | exact l2 h | exact l3 h | exact l4 h | exact l5 h | exact l6 h
  · have hu := hu_of hr
    refine ⟨_, PSs.nox (pss_cons (ps_expr (pe_fn (ok_check_pair T) (hr.mono (by decide)) (by rfl) T.g_check_pair T.k_check_pair pass0 (pa_cons (pv 1) pa_nil)))
      (pss_cons (ps_if (pt_not (pt_val (pe_callB call_isi (by rfl) T.f_isinstance boot_isinst (pa_cons (pv 2) (pa_cons (pe_bltn (v := .ty "bool") (by rfl) T.f_bool boot_boolT rfl) pa_nil))))) (pss_one ps_never) pss_nil)
      (pss_cons (ps_fldS (pv 0) (pv 1) rfl)
      (pss_one (ps_fldS (pv 0) (pe_tupS (pa_cons (pe_mkS T.mk_Run (ok_Run_init T) (hr.mono (by decide)) (by rfl) T.g_Run (pa_cons (pv 1) (pa_cons (pv 2) pa_nil))) pa_nil)) rfl))))), ?_⟩
    try dsimp only [cxOf, Cx.nox, Cx.wish]
    obtain ⟨s, p, t, rfl, x, d, du, tk, rfl, rfl, hx, hp, ok, q⟩ := h
    have c0 := T.cl_Store
    have c1 := T.na_Store_both
    have c2 := T.na_Store_states
    lcg_src
    rename_i G1 C1 e1 y dy G2 ny ndy nd2 S2 ey r G3 fr C3 R3 t G4 S4 et G5 C5 e5
    have yx : y ≠ x := fun z => by
      rw [z, e1] at ny
      cases ny
    have S13 : Same G1 G3 := Same.newc C3 S2 ny
    have hx3 : G3 x = some (.ins (ad K "Store") d (putF "both" p [])) := S13 _ _ e1
    have hx4 := S4 _ _ hx3
    have C : Chg x H G5 := (C1.trans (SW.Same.chg (S13.trans S4))).trans C5
    refine q G5 C fun av => ⟨d, p, t, [y], e5, cg_P C hp hx rfl, cg_T C5 et hx4 rfl, rfl, fun i a ha => ?_⟩
    cases i with
    | succ i => simp at ha
    | zero =>
      obtain rfl : y = a := by simpa using ha
      exact ⟨r, run_keep (fun b o ho e => C5 b o (ne_of e hx4 fun z => by
        subst z
        cases ho) e) (fun b xs _ e => C5 b _ (ne_of e hx4 fun z => by cases z) e) ((R3 av).same S4)⟩
theorem ok_Store_init (T : Tx K mg) : FnR P w K mg base CX0 3 (am K "Store" "__init__") (spStInit K) := by
  obtain ⟨fd, F, G⟩ := okk_Store_init T
  obtain ⟨ds, hv, hB⟩ := (F.binds1 (ps := P_Store_init) 3 1 (by decide) rfl fun _ _ _ _ _ _ _ us its hl hi => match us, its, hl, hi with | [_, _, _], [_], _, _ => ⟨_, rfl, by with_unfolding_all rfl⟩)
  exact (FnOk.raw G hB hv).imp fun vs H Q E h => by
    show ((spStInit K)) (vs ++ []) H Q E
    rw [List.append_nil]
    exact h
theorem ok_Store_init1 (T : Tx K mg) : FnR P w K mg base CX0 3 (am K "Store" "__init__") (fun vs H Q E => ((spStInit K)) (vs ++ [.bl false]) H Q E) := by
  obtain ⟨fd, F, G⟩ := okk_Store_init T
  obtain ⟨ds, hv, hB⟩ := (F.binds1 (ps := P_Store_init) 2 0 (by decide) rfl fun _ _ _ _ _ _ _ us its hl hi => match us, its, hl, hi with | [_, _], [_], _, _ => ⟨_, rfl, by with_unfolding_all rfl⟩)
  exact FnOk.raw G hB hv
end
end
section
/-! Names, wishes. -/
open PySem PySem.Spec PyProof.Rows L2
/-- the two names that are given -/
def TagS (t : Str) : Prop := t = "own" ∨ t = "b2"
theorem TagS.letter {t : Str} (h : TagS t) : ∃ c, atI t.cps.toList 0 = some c ∧ decide (c ∈ ("abcdefghijklmnopqrstuvwxyz" : Str).cps.toList) = true := by
  rcases h with rfl | rfl
  · exact ⟨111, by with_unfolding_all rfl, by decide +kernel⟩
  · exact ⟨98, by with_unfolding_all rfl, by decide +kernel⟩
theorem TagS.signs {t : Str} (h : TagS t) : ∀ c ∈ t.cps.toList, (decide (c ∈ ("abcdefghijklmnopqrstuvwxyz" : Str).cps.toList) || decide (c ∈ ("0123456789" : Str).cps.toList)) = true := by
  rcases h with rfl | rfl <;> decide +kernel
theorem TagS.len {t : Str} (h : TagS t) : 1 ≤ t.length ∧ t.length ≤ 3 ∧ t.cps.size ≤ 3 := by
  rcases h with rfl | rfl <;> decide +kernel
theorem LcG.str {g : TG} {tt : TT} {te : TE} {vs : List Nat} {σ : L2.St} {H1 : Hp} {Q : VK} {z : Str} (hz : z.cps.size < 100000) (h : Nat → V)
    (hs : ∀ (c : Nat) (H : Hp) (Y : VK) (N : Hp → Prop), c ∈ z.cps.toList → Same H1 H → (∀ H4, Same H H4 → Y (h c) H4) →
      g (.str ⟨#[c]⟩) (wipe σ vs) H fun σ2 H2 => wipe σ2 vs = wipe σ vs ∧ tt σ2 H2 fun b H3 => if b = true then te σ2 H3 Y else N H3)
    (hq : ∀ D H', H1 D = none → Same H1 H' → H' D = some (.lst (z.cps.toList.map h)) → Q (.ref D) H') : LcG (Its z) g tt te vs σ H1 Q := by
  have hl : (z.cps.toList.map fun c => V.str ⟨#[c]⟩).length = z.cps.size := by simp
  refine LcG.pure (z.cps.toList.map fun c => V.str ⟨#[c]⟩) (G := fun _ => True) (Y := fun i H v H' => H' = H ∧ ∃ c, z.cps[i]? = some c ∧ v = .str ⟨#[c]⟩) (by rw [hl]; exact walk_str) (by rw [hl]; exact hz) (fun _ _ => True.intro) (fun i H x H' hi y => ?_) (fun v => match v with
    | .str w => match w.cps.toList with
      | [c] => some (h c)
      | _ => none
    | _ => none) (fun i x H Y N hx s y n => ?_) (fun D H' n S e => hq D H' n S ?_)
  · obtain ⟨e, c, h1, h2⟩ := y
    refine ⟨e, ?_⟩
    rw [List.getElem?_map, Array.getElem?_toList, h1, h2]
    rfl
  · rw [List.getElem?_map] at hx
    cases e : z.cps.toList[i]? with
    | none => rw [e] at hx; cases hx
    | some c =>
      rw [e] at hx
      cases hx
      exact hs c H Y N (List.mem_of_getElem? e) s fun H4 S4 => y _ _ rfl S4
  · rw [e, List.filterMap_map]
    congr 2
    induction z.cps.toList with
    | nil => rfl
    | cons c r ih =>
      rw [List.map_cons, List.filterMap_cons]
      show h c :: _ = _
      rw [ih]
/-- a wish about the book's pair of that name -/
inductive Wish
  | never (t : Str)
  | ways (t : Str) (n : Int)
  | alone (t : Str) (row : List Int) (n : Int)
  | notices (t : Str) (row : List Int) (n : Int)
def Wish.tag : Wish → Str
  | .never t => t
  | .ways t _ => t
  | .alone t _ _ => t
  | .notices t _ _ => t
def Wish.d : Wish → PyData
  | .never t => .tuple [.str "never", .str t]
  | .ways t n => .tuple [.str "ways", .str t, .int n]
  | .alone t r n => .tuple [.str "alone", .str t, .tuple (r.map PyData.int), .int n]
  | .notices t r n => .tuple [.str "notices", .str t, .tuple (r.map PyData.int), .int n]
def Wish.row : Wish → List Int
  | .alone _ r _ => r
  | .notices _ r _ => r
  | _ => []
def Wish.most : Wish → Int
  | .never _ => 0
  | .ways _ n => n
  | .alone _ _ n => n
  | .notices _ _ n => n
structure Wish.ok (wi : Wish) : Prop where
  tg : TagS wi.tag
  ge : 0 ≤ wi.most
  bg : ∀ x ∈ wi.row, Big x
  ln : wi.row.length ≤ 60
def holdsM (du : Duo) : Wish → Bool
  | .never _ => enoughM du
  | .ways _ n => match leastM du with
    | none => false
    | some m => decide (m ≤ n)
  | .alone _ r n => decide (((lonelyM du (runS du false r)).length : Int) ≤ n)
  | .notices _ r n => decide (((runS du false r).noted : Int) ≤ n)
theorem DpAll.ints {K : Fr0} {H : Hp} : ∀ {r : List Int} {vs : List V}, DpAll K H vs (r.map PyData.int) → vs = r.map V.int
  | [], _, h => by
    cases h
    rfl
  | x :: r, _, h => by
    cases h with
    | cons a b =>
      cases a
      rw [DpAll.ints b]
      rfl
theorem DpAll.of_ints {K : Fr0} {H : Hp} : ∀ (r : List Int), DpAll K H (r.map V.int) (r.map PyData.int)
  | [] => .nil
  | x :: r => .cons (.int x) (DpAll.of_ints r)
section
variable {K : Fr0} {H : Hp} {v : V} {t : Str} {n : Int} {r : List Int}
theorem wish_never (h : Dp K H v (Wish.never t).d) : ∃ a, v = .ref a ∧ SqT K H a [.str "never", .str t] := by
  cases h with | tup ha hx => cases hx with | cons z1 hx => cases z1; cases hx with | cons z2 hx => cases z2; cases hx; exact ⟨_, rfl, ha⟩
theorem wish_ways (h : Dp K H v (Wish.ways t n).d) : ∃ a, v = .ref a ∧ SqT K H a [.str "ways", .str t, .int n] := by
  cases h with | tup ha hx => cases hx with | cons z1 hx => cases z1; cases hx with | cons z2 hx => cases z2; cases hx with | cons z3 hx => cases z3; cases hx; exact ⟨_, rfl, ha⟩
theorem wish_row {k : Str} (h : Dp K H v (.tuple [.str k, .str t, .tuple (r.map PyData.int), .int n])) : ∃ a b, v = .ref a ∧ SqT K H a [.str k, .str t, .ref b, .int n] ∧ SqT K H b (r.map V.int) := by
  cases h with | tup ha hx => cases hx with | cons z1 hx => cases z1; cases hx with | cons z2 hx => cases z2; cases hx with | cons z3 hx => cases z3 with | tup hb hy => cases hx with | cons z4 hx => cases z4; cases hx; rw [DpAll.ints hy] at hb; exact ⟨_, _, rfl, ha, hb⟩
end
section
variable {P : Program} {w : World} {K : Fr0} {mg : Str → Option Value} {base : Heap}
abbrev spIsName (K : Fr0) : Sp := s1 fun v H Q _ => ∃ t, v = .str t ∧ TagS t ∧ ∀ H', Same H H' → Q (.bl true) H'
abbrev N_is_name : List Str := ["value", "sign"]
abbrev P_is_name : List Str := ["value"]
theorem sc_is_name : FnScope N_is_name P_is_name (defScope s_is_name) := ⟨rfl, rfl, rfl, by decide +kernel, rfl, by decide +kernel, by decide +kernel⟩
theorem ok_is_name (T : Tx K mg) : FnR P w K mg base CX0 1 (ad K "is_name") (spIsName K) := by
  obtain ⟨fd, F⟩ := T.fd_is_name
  refine fnr F (fun _ _ _ _ _ _ us hl => match us, hl with | [_], _ => rfl) sc_is_name (fun vs H Q E h => ?_) (fun cdv A outer s H vs Q E hr h => ?_)
  · first | exact l1 h | exact l0 h | exact l2 h | exact l3 h | exact l4 h | exact l5 h | exact l6 h
  · have hu := hu_of hr
    obtain ⟨tk_DIGITS, mc_DIGITS⟩ := T.c_DIGITS
    obtain ⟨tk_LETTERS, mc_LETTERS⟩ := T.c_LETTERS
    obtain ⟨tk_LONGEST_NAME, mc_LONGEST_NAME⟩ := T.c_LONGEST_NAME
    refine ⟨_, PSs.nox (pss_cons (ps_if (PW.pt (pw_or (pt_not (pt_val (pe_callB call_isi (by rfl) T.f_isinstance boot_isinst (pa_cons (pv 0) (pa_cons (pe_bltn (v := .ty "str") (by rfl) T.f_str boot_strT rfl) pa_nil))))) (pw_or1 (pt_not (pt_chain op_le op_le pe_int (pe_callB call_len_str (by rfl) T.f_len boot_lenB (pa_cons (pv 0) pa_nil)) (pe_glob (v := .int 8) rfl mc_LONGEST_NAME ⟨_, rfl⟩)))))) (pss_one (ps_ret pe_bl)) pss_nil)
      (pss_one (ps_ret (pe_and (pe_cmpR op_inS (pe_ix (r := rIxS) ix_str (pv 0) pe_int (fun _ _ => rfl)) (pe_glob (v := .str "abcdefghijklmnopqrstuvwxyz") rfl mc_LETTERS ⟨_, rfl⟩) (by rfl)) (pe_one (pe_callB (cr_all rfl) (by rfl) T.f_all boot_allB (pa_cons (pe_lc (own := [("sign", 1)]) (g := gName 1)  (tt := tYes) rfl sc_is_name.nd (pi_str (pv 0)) (blkOk_by (N := N_is_name) (sc := defScope s_is_name) (by decide +kernel)) (fun _ _ _ _ _ => (pg_name (i := 1) sc_is_name.nd rfl (Or.inl rfl))) (fun _ _ _ _ _ => pts_nil) (fun _ _ _ _ _ => (pe_or (pe_cmpR op_inS (pv 1) (pe_glob (v := .str "abcdefghijklmnopqrstuvwxyz") rfl mc_LETTERS ⟨_, rfl⟩) (by rfl)) (pe_one (pe_cmpR op_inS (pv 1) (pe_glob (v := .str "0123456789") rfl mc_DIGITS ⟨_, rfl⟩) (by rfl)))))) pa_nil))))))), ?_⟩
    try dsimp only [cxOf, Cx.nox, Cx.wish]
    obtain ⟨v, rfl, t, rfl, ht, q⟩ := h
    obtain ⟨l1, l2, l3⟩ := ht.len
    obtain ⟨c, hc, hm⟩ := ht.letter
    have hz : t.length ≤ sizeLine := Nat.le_trans l2 (by decide)
    lcg_src
    have e1 : decide ((1 : Int) ≤ (t.length : Nat)) = true := decide_eq_true (by omega)
    have e2 : decide (((t.length : Nat) : Int) ≤ 8) = true := decide_eq_true (by omega)
    rw [e1]
    lcg_src
    rw [e2]
    lcg_src
    refine ⟨t, 0, c, rfl, rfl, hz, hc, ?_⟩
    lcg_src
    refine ⟨c, _, rfl, rfl, ?_⟩
    rw [hm]
    lcg_src
    refine ⟨.str t, rfl, t, rfl, ?_⟩
    refine LcG.str (Nat.lt_of_le_of_lt l3 (by decide)) (fun _ => .bl true) (fun c2 H2 Y N hc2 S hy => ?_) (fun D H2 nD S eD => ?_)
    · have z := ht.signs c2 hc2
      lcg_src
      refine ⟨c2, _, rfl, rfl, ?_⟩
      lcg_src
      refine w_ite (fun z1 => ?_) (fun z1 => ?_)
      · exact hy _ (by kas_types)
      · rw [z1, Bool.false_or] at z
        lcg_src
        refine ⟨c2, _, rfl, rfl, ?_⟩
        rw [z]
        exact hy _ (by kas_types)
    · lcg_src
      refine ⟨D, t.cps.toList.map fun _ => true, rfl, sq_L (by rw [eD, List.map_map]; rfl), ?_⟩
      have e : (t.cps.toList.map fun _ => true).all id = true := by simp
      rw [e]
      exact q _ S
abbrev spCheckName (K : Fr0) : Sp := s1 fun v H Q _ => ∃ t, v = .str t ∧ TagS t ∧ ∀ H', Same H H' → Q .non H'
abbrev N_check_name : List Str := ["value"]
abbrev P_check_name : List Str := ["value"]
theorem sc_check_name : FnScope N_check_name P_check_name (defScope s_check_name) := ⟨rfl, rfl, rfl, by decide +kernel, rfl, by decide +kernel, by decide +kernel⟩
theorem ok_check_name (T : Tx K mg) : FnR P w K mg base CX0 2 (ad K "check_name") (spCheckName K) := by
  obtain ⟨fd, F⟩ := T.fd_check_name
  refine fnr F (fun _ _ _ _ _ _ us hl => match us, hl with | [_], _ => rfl) sc_check_name (fun vs H Q E h => ?_) (fun cdv A outer s H vs Q E hr h => ?_)
  · first | exact l1 h | exact l0 h | exact l2 h | exact l3 h | exact l4 h | exact l5 h | exact l6 h
  · have hu := hu_of hr
    refine ⟨_, PSs.nox (pss_one (ps_if (pt_not (pt_val (pe_fn (ok_is_name T) (hr.mono (by decide)) (by rfl) T.g_is_name T.k_is_name pass0 (pa_cons (pv 0) pa_nil)))) (pss_one ps_never) pss_nil)), ?_⟩
    try dsimp only [cxOf, Cx.nox, Cx.wish]
    obtain ⟨v, rfl, t, rfl, ht, q⟩ := h
    lcg_src
    exact q _ (by kas_types)
abbrev spIsWish (K : Fr0) : Sp := s1 fun v H Q _ => ∃ wi : Wish, Dp K H v wi.d ∧ wi.ok ∧ ∀ H', Same H H' → Q (.bl true) H'
abbrev N_is_wish : List Str := ["value"]
abbrev P_is_wish : List Str := ["value"]
theorem sc_is_wish : FnScope N_is_wish P_is_wish (defScope s_is_wish) := ⟨rfl, rfl, rfl, by decide +kernel, rfl, by decide +kernel, by decide +kernel⟩
theorem ok_is_wish (T : Tx K mg) : FnR P w K mg base CX0 4 (ad K "is_wish") (spIsWish K) := by
  obtain ⟨fd, F⟩ := T.fd_is_wish
  refine fnr F (fun _ _ _ _ _ _ us hl => match us, hl with | [_], _ => rfl) sc_is_wish (fun vs H Q E h => ?_) (fun cdv A outer s H vs Q E hr h => ?_)
  · first | exact l1 h | exact l0 h | exact l2 h | exact l3 h | exact l4 h | exact l5 h | exact l6 h
  · have hu := hu_of hr
    refine ⟨_, PSs.nox (pss_cons (ps_if (PW.pt (pw_or (pt_not (pt_val (pe_callB call_isi (by rfl) T.f_isinstance boot_isinst (pa_cons (pv 0) (pa_cons (pe_bltn (v := .ty "tuple") (by rfl) T.f_tuple boot_tupleT rfl) pa_nil))))) (pw_or (pt_cmpR op_lt (pe_callB call_LenT (by rfl) T.f_len boot_lenB (pa_cons (pv 0) pa_nil)) pe_int (nomark _)) (pw_or1 (pt_not (pt_val (pe_fn (ok_is_name T) (hr.mono (by decide)) (by rfl) T.g_is_name T.k_is_name pass0 (pa_cons (pe_ix ix_tup (pv 0) pe_int (fun _ _ => rfl)) pa_nil)))))))) (pss_one (ps_ret pe_bl)) pss_nil)
      (pss_cons (ps_if (pt_cmpR op_eq (pe_ix ix_tup (pv 0) pe_int (fun _ _ => rfl)) pe_str (nomark _)) (pss_one (ps_ret (pe_cmpR op_eq (pe_callB call_LenT (by rfl) T.f_len boot_lenB (pa_cons (pv 0) pa_nil)) pe_int (nomark _)))) pss_nil)
      (pss_cons (ps_if (PW.pt (pw_or (pt_not (pt_val (pe_fn (ok_is_integer T) (hr.mono (by decide)) (by rfl) T.g_is_integer T.k_is_integer pass0 (pa_cons (pe_ix ix_tup (pv 0) (pe_un un_neg pe_int) (fun _ _ => rfl)) pa_nil)))) (pw_or1 (pt_cmpR op_lt (pe_ix ix_tup (pv 0) (pe_un un_neg pe_int) (fun _ _ => rfl)) pe_int (nomark _))))) (pss_one (ps_ret pe_bl)) pss_nil)
      (pss_cons (ps_if (pt_cmpR op_eq (pe_ix ix_tup (pv 0) pe_int (fun _ _ => rfl)) pe_str (nomark _)) (pss_one (ps_ret (pe_cmpR op_eq (pe_callB call_LenT (by rfl) T.f_len boot_lenB (pa_cons (pv 0) pa_nil)) pe_int (nomark _)))) pss_nil)
      (pss_one (ps_ret (pe_and (pe_cmpR op_in_seq (pe_ix ix_tup (pv 0) pe_int (fun _ _ => rfl)) (pe_tupS (pa_cons pe_str (pa_cons pe_str pa_nil))) (by rfl)) (pe_and (pe_cmpR op_eq (pe_callB call_LenT (by rfl) T.f_len boot_lenB (pa_cons (pv 0) pa_nil)) pe_int (nomark _)) (pe_one (pe_cmpR (op_eqD hr.units) (pe_fn (ok_wrong_ask T) (hr.mono (by decide)) (by rfl) T.g_wrong_ask T.k_wrong_ask pass0 (pa_cons (pe_ix ix_tup (pv 0) pe_int (fun _ _ => rfl)) pa_nil)) (pe_tupS pa_nil) (nomark _))))))))))), ?_⟩
    try dsimp only [cxOf, Cx.nox, Cx.wish]
    obtain ⟨v, rfl, wi, hv, ok, q⟩ := h
    cases wi with
    | never t =>
      obtain ⟨a, rfl, ha⟩ := wish_never hv
      have ht : TagS t := ok.tg
      lcg_src
      exact q _ (by kas_types)
    | ways t n =>
      obtain ⟨a, rfl, ha⟩ := wish_ways hv
      have ht : TagS t := ok.tg
      have hn : 0 ≤ n := ok.ge
      lcg_src
      refine .inl ⟨n, rfl, ?_⟩
      lcg_src
      rw [decide_eq_false (by omega)]
      lcg_src
      exact q _ (by kas_types)
    | alone t r n =>
      obtain ⟨a, b, rfl, ha, hb⟩ := wish_row hv
      have ht : TagS t := ok.tg
      have hn : 0 ≤ n := ok.ge
      have hbg : ∀ x ∈ r, Big x := ok.bg
      have hln : r.length ≤ 60 := ok.ln
      lcg_src
      refine .inl ⟨n, rfl, ?_⟩
      lcg_src
      rw [decide_eq_false (by omega)]
      lcg_src
      exact q _ (by kas_types)
    | notices t r n =>
      obtain ⟨a, b, rfl, ha, hb⟩ := wish_row hv
      have ht : TagS t := ok.tg
      have hn : 0 ≤ n := ok.ge
      have hbg : ∀ x ∈ r, Big x := ok.bg
      have hln : r.length ≤ 60 := ok.ln
      lcg_src
      refine .inl ⟨n, rfl, ?_⟩
      lcg_src
      rw [decide_eq_false (by omega)]
      lcg_src
      exact q _ (by kas_types)
end
end
section
/-! The store asked, taken back. -/
open PySem PySem.Spec PyProof.Rows L2
section
variable {P : Program} {w : World} {K : Fr0} {mg : Str → Option Value} {base : Heap}
theorem Same.only {S : List Addr} {H H1 H2 : Hp} (S1 : Same H H1) (O : Only S H1 H2) (n : ∀ b ∈ S, H b = none) : Same H H2 := fun b o h => O b o (fun z => by
  rw [n b z] at h
  cases h) (S1 b o h)
/-- neither a place, nor seen as one -/
def OddV (K : Fr0) (H : Hp) (v : V) : Prop := NotI K H v ∨ ∃ i, v = .int i ∧ (i < 0 ∨ 9999999999999999999999999999999999999999999999999999999999999999999999 < i)
theorem only_hp {S : List Addr} {H H1 H2 : Hp} {b : Addr} {o : HO} (O : Only S H1 H2) (S1 : Same H H1) (n : ∀ b ∈ S, H b = none) (h : H b = some o) : H2 b = some o := Same.only S1 O n b o h
theorem only_T {K : Fr0} {S : List Addr} {H H1 H2 : Hp} {b : Addr} {xs : List V} (O : Only S H1 H2) (S1 : Same H H1) (n : ∀ b ∈ S, H b = none) (h : SqT K H b xs) : SqT K H2 b xs := sm_T (Same.only S1 O n) h
theorem pre_new {K : Fr0} {av : Addr → Prop} {H H' : Hp} {a : Addr} {r : RA} {pv : V} {tk : Bool} {s : Sh} {du : Duo} {n : Nat} (R : RunAt K av H' a r pv tk s) (F : FA av H') (S : Same H H') (p : PairV K H pv du) (ok : Duo.ok du) (gd : Good du n s) (hn : n ≤ 2000) : RunPre K av H' a r pv tk s du n := ⟨R, sm_P S p, ok, gd, hn, F⟩
local macro_rules | `(tactic| lcg_sub) => `(tactic| ((with_reducible apply only_T); assumption; assumption; assumption; assumption))
local macro_rules | `(tactic| lcg_sub) => `(tactic| ((with_reducible apply only_hp); assumption; assumption; assumption; assumption))
local macro_rules | `(tactic| lcg_sub) => `(tactic| exact pre_new (by assumption) (by assumption) (by assumption) (by assumption) (by assumption) (by assumption) (by omega))
local macro_rules | `(tactic| lcg_sub) => `(tactic| exact RunAt.ob (by assumption))
abbrev spStAsk (K : Fr0) : Sp := s2 fun s p H Q E => ∃ x av du tk row, s = .ref x ∧ OnS K av H x du tk row ∧ ((∃ i, p = .int i ∧ Big i ∧ ∀ H', Chg x H H' → StoreAt K av H' x du tk (row ++ [i]) → FA av H' → StF K x H H' → Q (.str (word du (runS du tk row) i)) H') ∨ (OddV K H p ∧ Bears (ad K "InvalidNumber") "given" p H E))
abbrev N_Store_ask : List Str := ["self", "place", "later", "word"]
abbrev P_Store_ask : List Str := ["self", "place"]
theorem sc_Store_ask : FnScope N_Store_ask P_Store_ask (defScope s_Store_ask) := ⟨rfl, rfl, rfl, by decide +kernel, rfl, by decide +kernel, by decide +kernel⟩
theorem ok_Store_ask (T : Tx K mg) : FnR P w K mg base (L2.CX P w) 7 (am K "Store" "ask") (spStAsk K) := by
  obtain ⟨fd, F⟩ := T.fd_Store_ask
  refine fnr F (fun _ _ _ _ _ _ us hl => match us, hl with | [_, _], _ => rfl) sc_Store_ask (fun vs H Q E h => ?_) (fun cdv A outer s H vs Q E hr h => ?_)
  · first | exact l1 h | exact l0 h | exact l2 h | exact l3 h | exact l4 h | exact l5 h | exact l6 h
  · have hu := hu_of hr
    refine ⟨_, (pss_cons (ps_expr (pe_fn (ok_check_place T) (hr.mono (by decide)) (by rfl) T.g_check_place T.k_check_place (passes_call (takes_of rfl rfl rfl rfl) (fun _ _ _ _ h => h)) (pa_cons (pv 1) pa_nil)))
      (pss_cons (ps_set (i := 2) sc_Store_ask.nd rfl (Or.inl rfl) (pe_mt0 (pe_ix ix_tup (pe_fld (pv 0) rfl) (pe_un un_neg pe_int) (fun _ _ => rfl)) T.cl_Run T.me_Run_copied (ok_Run_copied T) (hr.mono (by decide)) pass0))
      (pss_cons (ps_set (i := 3) sc_Store_ask.nd rfl (Or.inl rfl) (pe_ix (r := rIxT K) ix_tup (pe_mt (pv 2) T.cl_Run T.me_Run_ask (ok_Run_ask T) (hr.mono (by decide)) pass0 (pa_cons (pv 1) pa_nil)) pe_int (fun _ _ => rfl)))
      (pss_cons (ps_fldS (pv 0) (pe_op op_CatTs (pe_fld (pv 0) rfl) (pe_tupS (pa_cons (pv 2) pa_nil))) rfl)
      (pss_one (ps_ret (pv 3))))))), ?_⟩
    try dsimp only [cxOf, Cx.nox, Cx.wish]
    obtain ⟨s, p, rfl, x, av, du, tk, row, rfl, ⟨hs, ok, hb, hl, fa⟩, h⟩ := h
    obtain ⟨ds, pv, t, as1, a, r, h1, h2, h3, h4, h5, h6⟩ := hs.last
    have c0 := T.cl_Store
    have c1 := T.na_Store_states
    have c2 := T.me_Run_copied
    have c3 := T.me_Run_ask
    have c4 := T.cl_Run
    rcases h with ⟨i, rfl, ⟨i0, i1⟩, q⟩ | ⟨od, q⟩
    · have ob := h5.ob
      have gd := runS_good (tk := tk) ok hb row.length (Nat.le_refl _)
      rw [List.take_length] at gd
      have pre : RunPre K av H a r pv tk (runS du tk row) du row.length := ⟨h5, h2, ok, gd, by omega, fa⟩
      have h3' : SqT K H t (as1.map V.ref ++ [V.ref a]) := by
        rw [List.map_append] at h3
        exact h3
      lcg_src
      refine .inl ⟨i, rfl, i0, by omega, ?_⟩
      lcg_src
      refine w_ixT h3' (atI_last _ _) ?_
      lcg_src
      rename_i a2 r2 G1 S1 fr R1 F1 t2 z G2 ht O2 R2 F2 ez p3 G3 S3 e3
      have S02 : Same H G2 := Same.only S1 O2 fr
      have S03 := S02.trans S3
      refine ⟨by
        simp only [List.length_append, List.length_map, List.length_cons, List.length_nil]
        exact Nat.le_of_lt (big_len (by omega)), ?_⟩
      have hx3 := S03 _ _ h1
      lcg_src
      rename_i p4 G4 S4 e4 G5 C5 e5
      have S04 := S03.trans S4
      have hx4 := S04 _ _ h1
      have C : Chg x H G5 := (SW.Same.chg S04).trans C5
      refine q G5 C ⟨ds, pv, p4, as1 ++ [a, a2], e5, cg_P C h2 h1 rfl, ?_, ?_, fun j c hj => ?_⟩ (((F2.same S3).same S4).chg C5 ⟨_, e5⟩) (StF.at h1 e5)
      · have e : (as1 ++ [a, a2]).map V.ref = as1.map V.ref ++ [V.ref a] ++ [V.ref a2] := by simp
        rw [e]
        exact cg_T C5 e4 hx4 rfl
      · simp only [List.length_append, List.length_cons, List.length_nil]
        omega
      · have kR : ∀ b o, kindR o = true → G4 b = some o → G5 b = some o := fun b o ho e => C5 b o (ne_of e hx4 fun z => by
          subst z
          cases ho) e
        have kl : ∀ b xs, av b → G4 b = some (.lst xs) → G5 b = some (.lst xs) := fun b xs _ e => C5 b _ (ne_of e hx4 fun z => by cases z) e
        by_cases hjl : j = row.length + 1
        · have ec : c = a2 := by
            have e1 : as1 ++ [a, a2] = (as1 ++ [a]) ++ [a2] := by simp
            rw [e1, List.getElem?_append_right (by simp; omega)] at hj
            simp [h4, hjl] at hj
            exact hj.symm
          subst ec
          rw [hjl, List.take_of_length_le (by simp), run_snoc]
          exact ⟨_, run_keep kR kl ((R2.same S3).same S4)⟩
        · have hlt : j < row.length + 1 := by
            have := (List.getElem?_eq_some_iff.mp hj).1
            simp only [List.length_append, List.length_cons, List.length_nil] at this
            omega
          have e1 : as1 ++ [a, a2] = (as1 ++ [a]) ++ [a2] := by simp
          rw [e1, List.getElem?_append_left (by simp; omega)] at hj
          obtain ⟨rc, hrc⟩ := h6 j c hj
          rw [List.take_append_of_le_length (by omega)]
          exact ⟨rc, run_keep kR kl (hrc.same S04)⟩
    · lcg_src
      rcases od with od | ⟨i, rfl, hi⟩
      · exact .inr (.inl ⟨od, fun d H2 n S e => q d H2 n S e⟩)
      · exact .inr (.inr ⟨i, rfl, hi, fun d H2 n S e => q d H2 n S e⟩)
end
end
section
/-! Whether a pair holds a wish. -/
open PySem PySem.Spec PyProof.Rows L2
theorem runF_good {du : Duo} {row : List Int} (ok : Duo.ok du) (hb : ∀ x ∈ row, Big x) : Good du row.length (runS du false row) := by
  have g := runS_good (tk := false) ok hb row.length (Nat.le_refl _)
  rw [List.take_length] at g
  exact g
local macro_rules | `(tactic| lcg_sub) => `(tactic| exact pre_new (by assumption) (by assumption) (by assumption) (by assumption) (by assumption) (by assumption) (by omega))
local macro_rules | `(tactic| lcg_sub) => `(tactic| exact RunAt.ob (by assumption))
section
variable {P : Program} {w : World} {K : Fr0} {mg : Str → Option Value} {base : Heap}
abbrev spHolds (K : Fr0) : Sp := s2 fun p v H Q _ => ∃ du, ∃ wi : Wish, PairV K H p du ∧ Duo.ok du ∧ Dp K H v wi.d ∧ wi.ok ∧ ∀ H', Same H H' → Q (.bl (holdsM du wi)) H'
abbrev N_holds : List Str := ["pair", "wish", "least", "run"]
abbrev P_holds : List Str := ["pair", "wish"]
theorem sc_holds : FnScope N_holds P_holds (defScope s_holds) := ⟨rfl, rfl, rfl, by decide +kernel, rfl, by decide +kernel, by decide +kernel⟩
theorem ok_holds (T : Tx K mg) : FnR P w K mg base CX0 9 (ad K "holds") (spHolds K) := by
  obtain ⟨fd, F⟩ := T.fd_holds
  refine fnr F (fun _ _ _ _ _ _ us hl => match us, hl with | [_, _], _ => rfl) sc_holds (fun vs H Q E h => ?_) (fun cdv A outer s H vs Q E hr h => ?_)
  · first | exact l1 h | exact l0 h | exact l2 h | exact l3 h | exact l4 h | exact l5 h | exact l6 h
  · have hu := hu_of hr
    refine ⟨_, PSs.nox (pss_cons (ps_if (pt_cmpR op_eq (pe_ix ix_tup (pv 1) pe_int (fun _ _ => rfl)) pe_str (nomark _)) (pss_one (ps_ret (pe_fn (ok_is_enough T) (hr.mono (by decide)) (by rfl) T.g_is_enough T.k_is_enough pass0 (pa_cons (pv 0) (pa_cons (pe_pr (pv 0) T.cl_Pair T.pr_Pair_hears (ok_Pair_hears T) (hr.mono (by decide))) pa_nil))))) pss_nil)
      (pss_cons (ps_if (pt_cmpR op_eq (pe_ix ix_tup (pv 1) pe_int (fun _ _ => rfl)) pe_str (nomark _)) (pss_cons (ps_set (i := 2) sc_holds.nd rfl (Or.inl rfl) (pe_fn (ok_ways_for T) (hr.mono (by decide)) (by rfl) T.g_ways_for T.k_ways_for pass0 (pa_cons (pv 0) (pa_cons (pe_pr (pv 0) T.cl_Pair T.pr_Pair_hears (ok_Pair_hears T) (hr.mono (by decide))) pa_nil))))
      (pss_one (ps_ret (pe_and (pe_cmpR op_notN (pv 2) pe_non (nomark _)) (pe_one (pe_cmpR op_le (pv 2) (pe_ix ix_tup (pv 1) pe_int (fun _ _ => rfl)) (nomark _))))))) pss_nil)
      (pss_cons (ps_set (i := 3) sc_holds.nd rfl (Or.inl rfl) (pe_ix ix_tup (pe_fn (ok_run_of T) (hr.mono (by decide)) (by rfl) T.g_run_of T.k_run_of pass0 (pa_cons (pv 0) (pa_cons (pe_ix ix_tup (pv 1) pe_int (fun _ _ => rfl)) pa_nil))) pe_int (fun _ _ => rfl)))
      (pss_one (ps_ret (pe_cmpR op_le (pe_ifExp (pt_cmpR op_eq (pe_ix ix_tup (pv 1) pe_int (fun _ _ => rfl)) pe_str (nomark _)) (pe_callB call_LenT (by rfl) T.f_len boot_lenB (pa_cons (pe_mt0 (pv 3) T.cl_Run T.me_Run_lonely (ok_Run_lonely T) (hr.mono (by decide)) pass0) pa_nil)) (pe_fld (pv 3) rfl)) (pe_ix ix_tup (pv 1) pe_int (fun _ _ => rfl)) (nomark _))))))), ?_⟩
    try dsimp only [cxOf, Cx.nox, Cx.wish]
    obtain ⟨p, v, rfl, du, wi, hp, ok, hv, wo, q⟩ := h
    obtain ⟨pa, pdx, b, c, he, rfl, h1, h2, h3, h4⟩ := id hp
    cases wi with
    | never t =>
      obtain ⟨a, rfl, ha⟩ := wish_never hv
      lcg_src
      exact q _ (by kas_types)
    | ways t n =>
      obtain ⟨a, rfl, ha⟩ := wish_ways hv
      unfold holdsM at q
      cases e : leastM du with
      | none =>
        rw [e] at q
        lcg_src
        rw [e]
        lcg_src
        exact q _ (by kas_types)
      | some m =>
        rw [e] at q
        lcg_src
        rw [e]
        have e2 : optV (some m) = .int m := rfl
        rw [e2]
        lcg_src
        exact q _ (by kas_types)
    | alone t r n =>
      obtain ⟨a, b, rfl, ha, hb⟩ := wish_row hv
      have hbg : ∀ x ∈ r, Big x := wo.bg
      have hln : r.length ≤ 60 := wo.ln
      have gd := runF_good ok hbg
      have c2 := T.me_Run_lonely
      have c3 := T.cl_Run
      have hq : holdsM du (.alone t r n) = decide (((lonelyM du (runS du false r)).length : Int) ≤ n) := rfl
      rw [hq] at q
      lcg_src
      rename_i z2 H2 ns S2 p1 p2 e2
      rw [List.length_map, p1.length_eq]
      exact q _ (by kas_types)
    | notices t r n =>
      obtain ⟨a, b, rfl, ha, hb⟩ := wish_row hv
      have hbg : ∀ x ∈ r, Big x := wo.bg
      have hln : r.length ≤ 60 := wo.ln
      have gd := runF_good ok hbg
      have c2 := T.na_Run_noted
      have c3 := T.cl_Run
      have hq : holdsM du (.notices t r n) = decide (((runS du false r).noted : Int) ≤ n) := rfl
      rw [hq] at q
      lcg_src
      exact q _ (by kas_types)
end
end
section
/-! The store taken back, its trials. -/
open PySem PySem.Spec PyProof.Rows L2
theorem cut_init (xs : List V) (v : V) : cutV (xs ++ [v]) none (some (-1)) = xs := by
  unfold cutV
  have e1 : HT.sIx (xs ++ [v]).length 0 none = 0 := by
    unfold HT.sIx
    simp
  have e2 : HT.sIx (xs ++ [v]).length (xs ++ [v]).length (some (-1)) = xs.length := by
    unfold HT.sIx
    simp
    omega
  rw [e1, e2]
  simp
theorem pmk_NU {X : Cx} {mg : Str → Option Value} (T : Tx X.K X.mg) {p pos : Pos} (hg : Gl X "NothingToUndo") : PMk X (.Call (.Name "NothingToUndo" p) [] [] pos) (fun _ H Q => Q (.ref (ad X.K "NothingToUndo")) none H) :=
  pmk_x0 PySem.F.excBase_ArithmeticError T.x0_NothingToUndo.1 T.g_NothingToUndo T.x0_NothingToUndo.2.1 (raises_own T.x0_NothingToUndo.2.2.1 T.x0_NothingToUndo.2.2.2) hg
section
variable {P : Program} {w : World} {K : Fr0} {mg : Str → Option Value} {base : Heap}
abbrev spStUndo (K : Fr0) : Sp := s1 fun s H Q E => ∃ x av du tk row, s = .ref x ∧ OnS K av H x du tk row ∧ (∀ H', row ≠ [] → Chg x H H' → StoreAt K av H' x du tk row.dropLast → FA av H' → StF K x H H' → Q .non H') ∧ (row = [] → E (.ref (ad K "NothingToUndo")) none H)
abbrev N_Store_undo : List Str := ["self"]
abbrev P_Store_undo : List Str := ["self"]
theorem sc_Store_undo : FnScope N_Store_undo P_Store_undo (defScope s_Store_undo) := ⟨rfl, rfl, rfl, by decide +kernel, rfl, by decide +kernel, by decide +kernel⟩
theorem ok_Store_undo (T : Tx K mg) : FnR P w K mg base (L2.CX P w) 2 (am K "Store" "undo") (spStUndo K) := by
  obtain ⟨fd, F⟩ := T.fd_Store_undo
  refine fnr F (fun _ _ _ _ _ _ us hl => match us, hl with | [_], _ => rfl) sc_Store_undo (fun vs H Q E h => ?_) (fun cdv A outer s H vs Q E hr h => ?_)
  · first | exact l1 h | exact l0 h | exact l2 h | exact l3 h | exact l4 h | exact l5 h | exact l6 h
  · have hu := hu_of hr
    refine ⟨_, (pss_cons (ps_if (pt_cmpR op_eq (pe_callB call_LenT (by rfl) T.f_len boot_lenB (pa_cons (pe_fld (pv 0) rfl) pa_nil)) pe_int (nomark _)) (pss_one (ps_raise rfl (takes_of rfl rfl rfl rfl) (pmk_NU (mg := mg) T (by rfl)))) pss_nil)
      (pss_one (ps_fldS (pv 0) (pe_slice sl_Ts (pe_fld (pv 0) rfl) po_none (po_some (pe_un un_neg pe_int))) rfl))), ?_⟩
    try dsimp only [cxOf, Cx.nox, Cx.wish]
    obtain ⟨s, rfl, x, av, du, tk, row, rfl, ⟨hs, ok, hb, hl, fa⟩, q, q2⟩ := h
    obtain ⟨ds, pv, t, as1, a, r, h1, h2, h3, h4, h5, h6⟩ := hs.last
    have c0 := T.cl_Store
    have c1 := T.na_Store_states
    have h3' : SqT K H t (as1.map V.ref ++ [V.ref a]) := by
      rw [List.map_append] at h3
      exact h3
    clear h3
    lcg_src
    rw [decV]
    have hlen : ((as1.map V.ref ++ [V.ref a]).length : Nat) = row.length + 1 := by simp [h4]
    rw [hlen]
    refine w_ite (fun c => ?_) (fun c => ?_)
    · have hr0 : row = [] := by
        have := of_decide_eq_true c
        cases row with
        | nil => rfl
        | cons y r => simp at this; omega
      lcg_src
      exact q2 hr0
    · have hr0 : row ≠ [] := fun z => by
        rw [z] at c
        exact absurd (of_decide_eq_false c) (by simp)
      lcg_src
      rename_i p3 G3 S3 e3 G4 C4 e4
      rw [cut_init] at e3
      have hx3 := S3 _ _ h1
      have C : Chg x H G4 := (SW.Same.chg S3).trans C4
      refine q G4 hr0 C ⟨ds, pv, p3, as1, e4, cg_P C h2 h1 rfl, cg_T C4 e3 hx3 rfl, by rw [List.length_dropLast, h4]; cases row with
        | nil => exact absurd rfl hr0
        | cons y r => rfl, fun j c hj => ?_⟩ ((fa.same S3).chg C4 ⟨_, e4⟩) (StF.at h1 e4)
      have hlt := (List.getElem?_eq_some_iff.mp hj).1
      obtain ⟨rc, hrc⟩ := h6 j c (by rw [List.getElem?_append_left hlt]; exact hj)
      refine ⟨rc, ?_⟩
      rw [List.dropLast_eq_take, List.take_take, Nat.min_eq_left (by omega)]
      exact run_keep (fun b o ho e => C4 b o (ne_of e hx3 fun z => by
        subst z
        cases ho) e) (fun b xs _ e => C4 b _ (ne_of e hx3 fun z => by cases z) e) (hrc.same S3)
abbrev spStTrial (K : Fr0) : Sp := s1 fun s H Q _ => ∃ x, s = .ref x ∧ ∀ y d H', H y = none → Same H H' → H' y = some (.ins (ad K "Trial") d (trialF (.ref x) .non)) → Q (.ref y) H'
abbrev N_Store_trial : List Str := ["self"]
abbrev P_Store_trial : List Str := ["self"]
theorem sc_Store_trial : FnScope N_Store_trial P_Store_trial (defScope s_Store_trial) := ⟨rfl, rfl, rfl, by decide +kernel, rfl, by decide +kernel, by decide +kernel⟩
theorem ok_Store_trial (T : Tx K mg) : FnR P w K mg base CX0 3 (am K "Store" "trial") (spStTrial K) := by
  obtain ⟨fd, F⟩ := T.fd_Store_trial
  refine fnr F (fun _ _ _ _ _ _ us hl => match us, hl with | [_], _ => rfl) sc_Store_trial (fun vs H Q E h => ?_) (fun cdv A outer s H vs Q E hr h => ?_)
  · first | exact l1 h | exact l0 h | exact l2 h | exact l3 h | exact l4 h | exact l5 h | exact l6 h
  · have hu := hu_of hr
    refine ⟨_, PSs.nox (pss_one (ps_ret (pe_mkS T.mk_Trial (ok_Trial_init T) (hr.mono (by decide)) (by rfl) T.g_Trial (pa_cons (pv 0) pa_nil)))), ?_⟩
    try dsimp only [cxOf, Cx.nox, Cx.wish]
    obtain ⟨s, rfl, x, rfl, q⟩ := h
    lcg_src
    rename_i y d G1 ny nd ne S1 ey G2 C2 e2
    exact q y d G2 ny (Same.newc C2 S1 ny) e2
end
end
section
/-! What the book raises; entries; its wishes checked. -/
open PySem PySem.Spec PyProof.Rows L2
section
variable {X : Cx}
theorem sc_II : FnScope ["self", "given"] ["self", "given"] (defScope s_InvalidIndex_init) := ⟨rfl, rfl, rfl, by decide +kernel, rfl, by decide +kernel, by decide +kernel⟩
theorem pmk_II (T : Tx X.K X.mg) (hr : Room 2 X.A) {e : Expr} {ae : TE} {p pos : Pos} (hg : Gl X "InvalidIndex") (ha : PE X e ae) (hs : starEach [e] X.env = (false, eval e X.env) :: starEach [] X.env := by rfl) : PMk X (.Call (.Name "InvalidIndex" p) [e] [] pos) (tMkX (ad X.K "InvalidIndex") "given" ae) := by
  obtain ⟨fd, F⟩ := T.fd_InvalidIndex_init
  have b : Binds X.K fd ["self", "given"] [] := F.bindsN fun _ _ _ _ _ _ us hl => match us, hl with | [_, _], _ => rfl
  have ok := ok_xinit (P := X.prog) (w := X.w) (mg := X.mg) (base := X.base) PySem.F.store_ValueError T.xc_InvalidIndex T.xn_InvalidIndex F sc_II rfl rfl (by decide) (by decide) rfl
  exact pmk_x PySem.F.excBase_ValueError T.xc_InvalidIndex T.xi_InvalidIndex.1 T.xi_InvalidIndex.2 ok b hr hg T.g_InvalidIndex ha (by decide) hs rfl
theorem sc_UN : FnScope ["self", "given"] ["self", "given"] (defScope s_UnknownName_init) := ⟨rfl, rfl, rfl, by decide +kernel, rfl, by decide +kernel, by decide +kernel⟩
theorem pmk_UN (T : Tx X.K X.mg) (hr : Room 2 X.A) {e : Expr} {ae : TE} {p pos : Pos} (hg : Gl X "UnknownName") (ha : PE X e ae) (hs : starEach [e] X.env = (false, eval e X.env) :: starEach [] X.env := by rfl) : PMk X (.Call (.Name "UnknownName" p) [e] [] pos) (tMkX (ad X.K "UnknownName") "given" ae) := by
  obtain ⟨fd, F⟩ := T.fd_UnknownName_init
  have b : Binds X.K fd ["self", "given"] [] := F.bindsN fun _ _ _ _ _ _ us hl => match us, hl with | [_, _], _ => rfl
  have ok := ok_xinit (P := X.prog) (w := X.w) (mg := X.mg) (base := X.base) PySem.F.store_LookupError T.xc_UnknownName T.xn_UnknownName F sc_UN rfl rfl (by decide) (by decide) rfl
  exact pmk_x PySem.F.excBase_LookupError T.xc_UnknownName T.xi_UnknownName.1 T.xi_UnknownName.2 ok b hr hg T.g_UnknownName ha (by decide) hs rfl
theorem sc_BR : FnScope ["self", "index"] ["self", "index"] (defScope s_Broken_init) := ⟨rfl, rfl, rfl, by decide +kernel, rfl, by decide +kernel, by decide +kernel⟩
theorem pmk_BR (T : Tx X.K X.mg) (hr : Room 2 X.A) {e : Expr} {ae : TE} {p pos : Pos} (hg : Gl X "Broken") (ha : PE X e ae) (hs : starEach [e] X.env = (false, eval e X.env) :: starEach [] X.env := by rfl) : PMk X (.Call (.Name "Broken" p) [e] [] pos) (tMkX (ad X.K "Broken") "index" ae) := by
  obtain ⟨fd, F⟩ := T.fd_Broken_init
  have b : Binds X.K fd ["self", "index"] [] := F.bindsN fun _ _ _ _ _ _ us hl => match us, hl with | [_, _], _ => rfl
  have ok := ok_xinit (P := X.prog) (w := X.w) (mg := X.mg) (base := X.base) PySem.F.store_ArithmeticError T.xc_Broken T.xn_Broken F sc_BR rfl rfl (by decide) (by decide) rfl
  exact pmk_x PySem.F.excBase_ArithmeticError T.xc_Broken T.xi_Broken.1 T.xi_Broken.2 ok b hr hg T.g_Broken ha (by decide) hs rfl
end
/-- pairs under their names, a plain tuple of tuples -/
abbrev EntA (K : Fr0) (H : Hp) (b : Addr) (p : Str × Duo) : Prop := ∃ pv, SqT K H b [.str p.1, pv] ∧ PairV K H pv p.2
def EntsAt (K : Fr0) (H : Hp) (e : Addr) (es : List (Str × Duo)) : Prop := ∃ bs : List Addr, TupD H e (bs.map V.ref) ∧ Paired (EntA K H) bs es
structure EsOk (es : List (Str × Duo)) : Prop where
  nd : (es.map (·.1)).Nodup
  ok : ∀ p ∈ es, Duo.ok p.2
  ln : es.length ≤ 2
def badAt (es : List (Str × Duo)) (wi : Wish) : Bool := match es.lookup wi.tag with
  | some du => !(holdsM du wi)
  | none => false
def firstBad (es : List (Str × Duo)) (ws : List Wish) : Option Nat := ws.findIdx? (badAt es)
theorem EntsAt.same {K : Fr0} {H H' : Hp} {e : Addr} {es : List (Str × Duo)} (S : Same H H') (h : EntsAt K H e es) : EntsAt K H' e es := by
  obtain ⟨bs, h1, h2⟩ := h
  exact ⟨bs, h1.same S, Paired.mapP h2 fun b p ⟨pv, x, y⟩ => ⟨pv, sm_T S x, sm_P S y⟩⟩
/-- what dict(..) makes of the entries -/
theorem ents_kvs {K : Fr0} {H : Hp} : ∀ {bs : List Addr} {es : List (Str × Duo)}, Paired (EntA K H) bs es → ∃ kvs : List (Key × V), Paired (fun p kv => SqT K H p [kV kv.1, kv.2]) bs kvs ∧ kvs.map (·.1) = es.map (fun p => Sum.inr p.1) ∧
    ∀ t du, es.lookup t = some du → ∃ pv, valV kvs (Sum.inr t) = some pv ∧ PairV K H pv du
  | _, _, .nil => ⟨[], .nil, rfl, fun t du e => by cases e⟩
  | _, _, .cons (a := b) (b := p) ⟨pv, h1, h2⟩ r => by
    obtain ⟨kvs, k1, k2, k3⟩ := ents_kvs r
    refine ⟨(Sum.inr p.1, pv) :: kvs, .cons h1 k1, by rw [List.map_cons, List.map_cons, k2], fun t du e => ?_⟩
    by_cases c : p.1 = t
    · have e2 : p.2 = du := by
        rw [List.lookup_cons, show (t == p.1) = true from beq_iff_eq.mpr c.symm] at e
        exact Option.some.inj e
      exact ⟨pv, valV_pos (by rw [c]), e2 ▸ h2⟩
    · rw [List.lookup_cons, show (t == p.1) = false from beq_eq_false_iff_ne.mpr (fun z => c z.symm)] at e
      obtain ⟨qv, q1, q2⟩ := k3 t du e
      refine ⟨qv, ?_, q2⟩
      rw [valV_neg (fun z => c (Sum.inr.inj z))]
      exact q1
theorem dps_get {K : Fr0} {H : Hp} : ∀ {vs : List V} {ws : List Wish} {i : Nat} {x : V}, DpAll K H vs (ws.map Wish.d) → vs[i]? = some x → ∃ wi, ws[i]? = some wi ∧ Dp K H x wi.d
  | [], _, _, _, h, e => by simp at e
  | v :: vs, ws, i, x, h, e => by
    cases ws with
    | nil => cases h
    | cons wi r =>
      cases h with
      | cons a b =>
        cases i with
        | zero =>
          obtain rfl : v = x := by simpa using e
          exact ⟨wi, rfl, a⟩
        | succ j => exact dps_get (ws := r) b (by simpa using e)
theorem dps_len {K : Fr0} {H : Hp} : ∀ {vs : List V} {ds : List PyData}, DpAll K H vs ds → vs.length = ds.length
  | _, _, .nil => rfl
  | _, _, .cons _ r => by rw [List.length_cons, List.length_cons, dps_len r]
/-- a wish's parts: its name stands second -/
theorem wish_tag {K : Fr0} {H : Hp} {v : V} {wi : Wish} (h : Dp K H v wi.d) : ∃ a xs, v = .ref a ∧ SqT K H a xs ∧ atI xs 1 = some (.str wi.tag) := by
  cases wi with
  | never t => obtain ⟨a, e, h⟩ := wish_never h; exact ⟨a, _, e, h, rfl⟩
  | ways t n => obtain ⟨a, e, h⟩ := wish_ways h; exact ⟨a, _, e, h, rfl⟩
  | alone t r n => obtain ⟨a, b, e, h, _⟩ := wish_row h; exact ⟨a, _, e, h, rfl⟩
  | notices t r n => obtain ⟨a, b, e, h, _⟩ := wish_row h; exact ⟨a, _, e, h, rfl⟩
theorem merge_nd : ∀ (kvs acc : List (Key × V)), (kvs.map (·.1)).Nodup → (∀ k ∈ kvs.map (·.1), valV acc k = none) → mergeK acc kvs = acc ++ kvs
  | [], acc, _, _ => by rw [List.append_nil]; rfl
  | p :: r, acc, nd, h => by
    rw [List.map_cons, List.nodup_cons] at nd
    show mergeK (putK acc p.1 p.2) r = _
    rw [putK_new p.2 (h _ (List.mem_map.mpr ⟨p, List.mem_cons_self .., rfl⟩)), merge_nd r _ nd.2 (fun k hk => ?_), List.append_assoc]
    · rfl
    · have hne : ¬ k = p.1 := fun z => nd.1 (z ▸ hk)
      rw [valV_snoc _ _ _ _ (h _ (List.mem_map.mpr ⟨p, List.mem_cons_self .., rfl⟩)), if_neg hne]
      exact h k (List.mem_map.mpr (by
        obtain ⟨q, hq, e⟩ := List.mem_map.mp hk
        exact ⟨q, List.mem_cons_of_mem _ hq, e⟩))
section
variable {P : Program} {w : World} {K : Fr0} {mg : Str → Option Value} {base : Heap}
abbrev spCheckWishes (K : Fr0) : Sp := s2 fun e v H Q E => ∃ ea es wa vs, ∃ ws : List Wish, e = .ref ea ∧ EntsAt K H ea es ∧ EsOk es ∧ v = .ref wa ∧ SqT K H wa vs ∧ DpAll K H vs (ws.map Wish.d) ∧ (∀ wi ∈ ws, wi.ok ∧ ∃ du, es.lookup wi.tag = some du) ∧ ws.length ≤ 1000 ∧
  (firstBad es ws = none → ∀ H', Same H H' → Q .non H') ∧ ∀ n : Nat, firstBad es ws = some n → Bears (ad K "Broken") "index" (.int n) H E
abbrev N_check_wishes : List Str := ["entries", "wishes", "known", "at", "wish"]
abbrev P_check_wishes : List Str := ["entries", "wishes"]
theorem sc_check_wishes : FnScope N_check_wishes P_check_wishes (defScope s_check_wishes) := ⟨rfl, rfl, rfl, by decide +kernel, rfl, by decide +kernel, by decide +kernel⟩
theorem ok_check_wishes (T : Tx K mg) : FnR P w K mg base (L2.CX P w) 11 (ad K "check_wishes") (spCheckWishes K) := by
  obtain ⟨fd, F⟩ := T.fd_check_wishes
  refine fnr F (fun _ _ _ _ _ _ us hl => match us, hl with | [_, _], _ => rfl) sc_check_wishes (fun vs H Q E h => ?_) (fun cdv A outer s H vs Q E hr h => ?_)
  · first | exact l1 h | exact l0 h | exact l2 h | exact l3 h | exact l4 h | exact l5 h | exact l6 h
  · have hu := hu_of hr
    refine ⟨_, (pss_cons (ps_set (i := 2) sc_check_wishes.nd rfl (Or.inl rfl) (pe_callTy (call_DictT rfl) (by rfl) T.f_dict boot_dictT (pa_cons (pv 0) pa_nil)))
      (pss_one (ps_for PassesOwn.leaving rfl (pi_enumT (by rfl) T.f_enumerate (pa_cons (pv 1) pa_nil)) (pg_tup (n := 2) rfl (pgs_cons (pg_name (i := 3) sc_check_wishes.nd rfl (Or.inl rfl)) (pgs_cons (pg_name (i := 4) sc_check_wishes.nd rfl (Or.inl rfl)) pgs_nil))) (pss_one (ps_if (pt_not (pt_val (pe_fn (ok_holds T) (hr.mono (by decide)) (by rfl) T.g_holds T.k_holds pass0 (pa_cons (pe_dget hu (pv 2) (pe_ix ix_tup (pv 4) pe_int (fun _ _ => rfl)) (fun _ _ => rfl)) (pa_cons (pv 4) pa_nil))))) (pss_one (ps_raise rfl (takes_of rfl rfl rfl rfl) (pmk_BR T (hr.mono (by decide)) (by rfl) (pv 3)))) pss_nil))))), ?_⟩
    try dsimp only [cxOf, Cx.nox, Cx.wish]
    obtain ⟨e, v, rfl, ea, es, wa, vs, ws, rfl, he, eo, rfl, hw, hd, hok, hln, q1, q2⟩ := h
    obtain ⟨bs, ht, hp⟩ := id he
    obtain ⟨kvs, k1, k2, k3⟩ := ents_kvs hp
    have hnd : (kvs.map (·.1)).Nodup := by
      rw [k2]
      exact List.pairwise_map.mpr ((List.pairwise_map.mp eo.nd).imp fun n z => n (Sum.inr.inj z))
    lcg_src
    refine ⟨ea, bs, kvs, rfl, ht, k1, ?_⟩
    rw [merge_nd kvs [] hnd (fun _ _ => rfl), List.nil_append]
    lcg_src
    rename_i d H2 nd S2 ed
    refine ForG.enT (K := K) (fun m σ' H' => Same H2 H' ∧ (∃ o3 o4, σ' = [some (.ref ea), some (.ref wa), some (.ref d), o3, o4]) ∧ ∀ j wi, j < m → ws[j]? = some wi → badAt es wi = false) ⟨Same.refl _, ⟨_, _, rfl⟩, fun j wi h => absurd h (Nat.not_lt_zero _)⟩ (fun m σ' H' p => sm_T (S2.trans p.1) hw) (fun m x σ' H3 p H4 hx hp S4 hp2 => ?_) (fun σ' H3 hp => ?_)
    · obtain ⟨S3, ⟨o3, o4, rfl⟩, hgood⟩ := hp
      obtain ⟨wi, hwi, hwd⟩ := dps_get hd hx
      obtain ⟨wok, du, hdu⟩ := hok wi (List.mem_of_getElem? hwi)
      obtain ⟨pv, hv, hpv⟩ := k3 _ _ hdu
      have SH4 : Same H H4 := (S2.trans S3).trans S4
      have ed4 : H4 d = some (.dK kvs) := S4 _ _ (S3 _ _ ed)
      have hpv4 := sm_P SH4 hpv
      have hwd4 := sm_Dp SH4 hwd
      have dok : Duo.ok du := eo.ok _ (mem_of_lookup hdu)
      obtain ⟨a, xs, ex, ha, hat⟩ := wish_tag hwd4
      subst ex
      lcg_src
      refine w_ixT ha hat ?_
      refine ⟨d, pv, rfl, by rw [← hv]; exact DGet.k (k := Sum.inr wi.tag) ed4, ?_⟩
      have hb : badAt es wi = !(holdsM du wi) := by
        unfold badAt
        rw [hdu]
      lcg_src
      rename_i H5 S5
      refine w_ite (fun z => ?_) (fun z => ?_)
      · rw [← hb] at z
        have hf : firstBad es ws = some m := List.findIdx?_eq_some_iff_getElem.mpr ⟨(List.getElem?_eq_some_iff.mp hwi).1, by rw [(List.getElem?_eq_some_iff.mp hwi).2]; exact z, fun j hj => by
          have hjl : j < ws.length := Nat.lt_trans hj (List.getElem?_eq_some_iff.mp hwi).1
          rw [hgood j ws[j] hj (List.getElem?_eq_getElem hjl)]
          exact Bool.false_ne_true⟩
        refine (show tVar 3 _ _ _ from w_var rfl ?_)
        have SH5 := SH4.trans S5
        exact fun d2 H6 n6 S6 e6 => q2 m hf d2 H6 (free_of n6 SH5) (SH5.trans S6) e6
      · lcg_src
        rw [← hb] at z
        refine ⟨(S3.trans S4).trans S5, ⟨_, _, rfl⟩, fun j wj hj hwj => ?_⟩
        by_cases c : j = m
        · subst c
          rw [hwi] at hwj
          cases hwj
          exact z
        · exact hgood j wj (by omega) hwj
    · obtain ⟨S3, ⟨o3, o4, rfl⟩, hgood⟩ := hp
      refine q1 (List.findIdx?_eq_none_iff.mpr fun wi hm => ?_) H3 (S2.trans S3)
      obtain ⟨j, hj⟩ := List.mem_iff_getElem?.mp hm
      have hjl := (List.getElem?_eq_some_iff.mp hj).1
      refine hgood j wi ?_ hj
      have := dps_len hd
      rw [List.length_map] at this
      omega
end
end
section
/-! The book: its pages, what is told of the last one. -/
open PySem PySem.Spec PyProof.Rows L2
abbrev Pg := List (Str × Duo) × List Wish
/-- the entries, by their names' order -/
def entsM (ps : List (Str × Duo)) : List (Str × Duo) := ((ps.lookup ("b2" : Str)).map fun d => (("b2" : Str), d)).toList ++ ((ps.lookup ("own" : Str)).map fun d => (("own" : Str), d)).toList
def PageAt (K : Fr0) (H : Hp) (s : Addr) (pg : Pg) : Prop := ∃ e w vs, SqT K H s [.ref e, .ref w] ∧ EntsAt K H e (entsM pg.1) ∧ SqT K H w vs ∧ DpAll K H vs (pg.2.map Wish.d)
def BookAt (K : Fr0) (H : Hp) (x : Addr) (pages : List Pg) : Prop := ∃ ds t, ∃ ss : List Addr, H x = some (.ins (ad K "Book") ds [("states", .ref t)]) ∧ SqT K H t (ss.map V.ref) ∧ Paired (PageAt K H) ss pages
structure PgOk (pg : Pg) : Prop where
  nd : (pg.1.map (·.1)).Nodup
  tg : ∀ p ∈ pg.1, TagS p.1
  ok : ∀ p ∈ pg.1, Duo.ok p.2
  ws : ∀ wi ∈ pg.2, wi.ok ∧ ∃ du, pg.1.lookup wi.tag = some du
  ln : pg.2.length ≤ 60
  hold : firstBad pg.1 pg.2 = none
theorem ents_lookup {ps : List (Str × Duo)} {t : Str} (h : TagS t) : (entsM ps).lookup t = ps.lookup t := by
  unfold entsM
  have n1 : (("own" : Str) == ("b2" : Str)) = false := by decide
  have n2 : (("b2" : Str) == ("own" : Str)) = false := by decide
  rcases h with rfl | rfl
  · cases e1 : ps.lookup ("b2" : Str) <;> cases e2 : ps.lookup ("own" : Str) <;> simp [List.lookup_cons, e1, e2, n1]
  · cases e1 : ps.lookup ("b2" : Str) <;> cases e2 : ps.lookup ("own" : Str) <;> simp [List.lookup_cons, e1, e2, n2]
theorem ents_mem {ps : List (Str × Duo)} {p : Str × Duo} (h : p ∈ entsM ps) : TagS p.1 ∧ p ∈ ps := by
  unfold entsM at h
  rcases List.mem_append.mp h with z | z
  · cases e : ps.lookup ("b2" : Str) with
    | none => rw [e] at z; simp at z
    | some d =>
      rw [e] at z
      obtain rfl : p = (("b2" : Str), d) := by simpa using z
      exact ⟨.inr rfl, mem_of_lookup e⟩
  · cases e : ps.lookup ("own" : Str) with
    | none => rw [e] at z; simp at z
    | some d =>
      rw [e] at z
      obtain rfl : p = (("own" : Str), d) := by simpa using z
      exact ⟨.inl rfl, mem_of_lookup e⟩
theorem ents_ok {ps : List (Str × Duo)} (h : ∀ p ∈ ps, Duo.ok p.2) : EsOk (entsM ps) := by
  refine ⟨?_, fun p hp => h p (ents_mem hp).2, ?_⟩
  · unfold entsM
    cases e1 : ps.lookup ("b2" : Str) <;> cases e2 : ps.lookup ("own" : Str) <;> simp
    decide
  · unfold entsM
    cases e1 : ps.lookup ("b2" : Str) <;> cases e2 : ps.lookup ("own" : Str) <;> simp
theorem bad_ents {ps : List (Str × Duo)} {wi : Wish} (h : TagS wi.tag) : badAt (entsM ps) wi = badAt ps wi := by
  unfold badAt
  rw [ents_lookup h]
theorem first_ents {ps : List (Str × Duo)} : ∀ {ws : List Wish}, (∀ wi ∈ ws, TagS wi.tag) → firstBad (entsM ps) ws = firstBad ps ws := by
  intro ws h
  unfold firstBad
  induction ws with
  | nil => rfl
  | cons wi r ih =>
    rw [List.findIdx?_cons, List.findIdx?_cons, bad_ents (h wi (List.mem_cons_self ..)), ih fun w hw => h w (List.mem_cons_of_mem _ hw)]
def kindB (o : HO) : Bool := kindP o || tag o == 101
section
variable {K : Fr0} {H H' : Hp} {x a : Addr} {pages : List Pg} {u : HO}
theorem tupD_keep {xs : List V} (k : ∀ b o, kindP o = true → H b = some o → H' b = some o) (h : TupD H a xs) : TupD H' a xs := by
  obtain ⟨o, h1, h2⟩ := h
  exact ⟨o, k _ _ rfl h1, h2⟩
theorem ents_keep {es : List (Str × Duo)} (k : ∀ b o, kindP o = true → H b = some o → H' b = some o) (h : EntsAt K H a es) : EntsAt K H' a es := by
  obtain ⟨bs, h1, h2⟩ := h
  exact ⟨bs, tupD_keep k h1, Paired.mapP h2 fun b p ⟨pv, x, y⟩ => ⟨pv, sqT_keep k x, pair_keep k y⟩⟩
theorem wish_tupO (wi : Wish) : tupO wi.d = true := by
  have hr : ∀ r : List Int, tupOs (r.map PyData.int) = true := fun r => by
    induction r with
    | nil => rfl
    | cons x r ih => exact ih
  cases wi with
  | never t => rfl
  | ways t n => rfl
  | alone t r n =>
    show (tupOs (r.map PyData.int) && true) = true
    rw [hr]
    rfl
  | notices t r n =>
    show (tupOs (r.map PyData.int) && true) = true
    rw [hr]
    rfl
theorem wishes_tupO (ws : List Wish) : tupOs (ws.map Wish.d) = true := by
  induction ws with
  | nil => rfl
  | cons x r ih =>
    show (tupO x.d && tupOs (r.map Wish.d)) = true
    rw [wish_tupO, ih]
    rfl
theorem page_keep {pg : Pg} (k : ∀ b o, kindP o = true → H b = some o → H' b = some o) (h : PageAt K H a pg) : PageAt K H' a pg := by
  obtain ⟨e, w, vs, h1, h2, h3, h4⟩ := h
  exact ⟨e, w, vs, sqT_keep k h1, ents_keep k h2, sqT_keep k h3, dps_keep k _ _ (wishes_tupO _) h4⟩
theorem BookAt.keep (k : ∀ b o, kindB o = true → H b = some o → H' b = some o) (h : BookAt K H x pages) : BookAt K H' x pages := by
  obtain ⟨ds, t, ss, h1, h2, h3⟩ := h
  have kr : ∀ b o, kindP o = true → H b = some o → H' b = some o := fun b o ho => k b o (by unfold kindB; rw [ho]; rfl)
  exact ⟨ds, t, ss, k _ _ rfl h1, sqT_keep kr h2, Paired.mapP h3 fun s pg hp => page_keep kr hp⟩
theorem BookAt.same (S : Same H H') (h : BookAt K H x pages) : BookAt K H' x pages := h.keep fun b o _ => S b o
theorem BookAt.chg (C : Chg a H H') (ha : H a = some u) (t : kindB u = false) (h : BookAt K H x pages) : BookAt K H' x pages := h.keep fun b o ho e => C b o (ne_of e ha fun z => by
  subst z
  rw [t] at ho
  cases ho) e
theorem Paired.snocInv {α β : Type} {R : α → β → Prop} : ∀ {ss : List α} {ps : List β} {pg : β}, Paired R ss (ps ++ [pg]) → ∃ s0 s, ss = s0 ++ [s] ∧ Paired R s0 ps ∧ R s pg
  | _, [], pg, h => by
    cases h with
    | cons a r =>
      cases r
      exact ⟨[], _, rfl, .nil, a⟩
  | _, p :: ps, pg, h => by
    cases h with
    | cons a r =>
      obtain ⟨s0, s, e, h1, h2⟩ := Paired.snocInv r
      exact ⟨_ :: s0, s, by rw [e]; rfl, .cons a h1, h2⟩
theorem Paired.snoc {α β : Type} {R : α → β → Prop} {s : α} {pg : β} (h2 : R s pg) : ∀ {ss : List α} {ps : List β}, Paired R ss ps → Paired R (ss ++ [s]) (ps ++ [pg])
  | _, _, .nil => .cons h2 .nil
  | _, _, .cons a r => .cons a (Paired.snoc h2 r)
/-- the last page -/
theorem BookAt.last {ps : List Pg} {pg : Pg} (h : BookAt K H x (ps ++ [pg])) : ∃ ds t, ∃ ss : List Addr, ∃ s e w vs, H x = some (.ins (ad K "Book") ds [("states", .ref t)]) ∧ SqT K H t (ss.map V.ref ++ [.ref s]) ∧ Paired (PageAt K H) ss ps ∧ SqT K H s [.ref e, .ref w] ∧ EntsAt K H e (entsM pg.1) ∧ SqT K H w vs ∧ DpAll K H vs (pg.2.map Wish.d) := by
  obtain ⟨ds, t, ss, h1, h2, h3⟩ := h
  obtain ⟨s0, s, rfl, h4, e, w, vs, h5, h6, h7, h8⟩ := Paired.snocInv h3
  rw [List.map_append] at h2
  exact ⟨ds, t, s0, s, e, w, vs, h1, h2, h4, h5, h6, h7, h8⟩
end
section
variable {P : Program} {w : World} {K : Fr0} {mg : Str → Option Value} {base : Heap}
abbrev spBInit (K : Fr0) : Sp := s1 fun s H Q _ => ∃ x d, s = .ref x ∧ H x = some (.ins (ad K "Book") d []) ∧ ∀ H', Chg x H H' → BookAt K H' x [([], [])] → Q .non H'
abbrev N_Book_init : List Str := ["self"]
abbrev P_Book_init : List Str := ["self"]
theorem sc_Book_init : FnScope N_Book_init P_Book_init (defScope s_Book_init) := ⟨rfl, rfl, rfl, by decide +kernel, rfl, by decide +kernel, by decide +kernel⟩
theorem ok_Book_init (T : Tx K mg) : FnR P w K mg base CX0 1 (am K "Book" "__init__") (spBInit K) := by
  obtain ⟨fd, F⟩ := T.fd_Book_init
  refine fnr F (fun _ _ _ _ _ _ us hl => match us, hl with | [_], _ => rfl) sc_Book_init (fun vs H Q E h => ?_) (fun cdv A outer s H vs Q E hr h => ?_)
  · first | exact l1 h | exact l0 h | exact l2 h | exact l3 h | exact l4 h | exact l5 h | exact l6 h
  · have hu := hu_of hr
    refine ⟨_, PSs.nox (pss_one (ps_fldS (pv 0) (pe_tupS (pa_cons (pe_tupS (pa_cons (pe_tupD pa_nil) (pa_cons (pe_tupD pa_nil) pa_nil))) pa_nil)) rfl)), ?_⟩
    try dsimp only [cxOf, Cx.nox, Cx.wish]
    obtain ⟨s, rfl, x, d, rfl, hx, q⟩ := h
    have c0 := T.cl_Book
    have c1 := T.na_Book_states
    lcg_src
    refine (show tTupD tNil _ _ _ from ⟨by decide, fun e H1 ne S1 he => ?_⟩)
    lcg_src
    refine (show tTupD tNil _ _ _ from ⟨by decide, fun e2 H2 ne2 S2 he2 => ?_⟩)
    lcg_src
    rename_i st H3 S3 e3 t H4 S4 e4 H5 C5 e5
    have SH4 := ((S1.trans S2).trans S3).trans S4
    have hx4 := SH4 _ _ hx
    have C : Chg x H H5 := (SW.Same.chg SH4).trans C5
    refine q H5 C ⟨d, t, [st], e5, cg_T C5 e4 hx4 rfl, .cons ⟨e, e2, [], cg_T C5 (sm_T S4 e3) hx4 rfl, ?_, cg_T C5 (sm_T S4 (sm_T S3 he2.sq)) hx4 rfl, .nil⟩ .nil⟩
    obtain ⟨o, z1, z2⟩ := ((he.same S2).same S3).same S4
    exact ⟨[], ⟨o, C5 _ _ (ne_tag z1 hx4 rfl) z1, z2⟩, .nil⟩
abbrev spBEntries (K : Fr0) : Sp := s1 fun s H Q _ => ∃ x ps pg, s = .ref x ∧ BookAt K H x (ps ++ [pg]) ∧ ∀ e, EntsAt K H e (entsM pg.1) → Q (.ref e) H
abbrev N_Book_entries : List Str := ["self"]
abbrev P_Book_entries : List Str := ["self"]
theorem sc_Book_entries : FnScope N_Book_entries P_Book_entries (defScope s_Book_entries) := ⟨rfl, rfl, rfl, by decide +kernel, rfl, by decide +kernel, by decide +kernel⟩
theorem ok_Book_entries (T : Tx K mg) : FnR P w K mg base CX0 1 (ag K "Book" "entries") (spBEntries K) := by
  obtain ⟨fd, F⟩ := T.fd_Book_entries
  refine fnr F (fun _ _ _ _ _ _ us hl => match us, hl with | [_], _ => rfl) sc_Book_entries (fun vs H Q E h => ?_) (fun cdv A outer s H vs Q E hr h => ?_)
  · first | exact l1 h | exact l0 h | exact l2 h | exact l3 h | exact l4 h | exact l5 h | exact l6 h
  · have hu := hu_of hr
    refine ⟨_, PSs.nox (pss_one (ps_ret (pe_ix ix_tup (pe_ix ix_tup (pe_fld (pv 0) rfl) (pe_un un_neg pe_int) (fun _ _ => rfl)) pe_int (fun _ _ => rfl)))), ?_⟩
    try dsimp only [cxOf, Cx.nox, Cx.wish]
    obtain ⟨s, rfl, x, ps, pg, rfl, hb, q⟩ := h
    obtain ⟨ds, t, ss, st, e, wd, vs, h1, h2, h3, h4, h5, h6, h7⟩ := hb.last
    have c0 := T.cl_Book
    have c1 := T.na_Book_states
    lcg_src
    refine w_ixT h2 (atI_last _ _) ?_
    lcg_src
    exact q _ h5
abbrev spBWishes (K : Fr0) : Sp := s1 fun s H Q _ => ∃ x ps pg, s = .ref x ∧ BookAt K H x (ps ++ [pg]) ∧ ∀ e vs, SqT K H e vs → DpAll K H vs (pg.2.map Wish.d) → Q (.ref e) H
abbrev N_Book_wishes : List Str := ["self"]
abbrev P_Book_wishes : List Str := ["self"]
theorem sc_Book_wishes : FnScope N_Book_wishes P_Book_wishes (defScope s_Book_wishes) := ⟨rfl, rfl, rfl, by decide +kernel, rfl, by decide +kernel, by decide +kernel⟩
theorem ok_Book_wishes (T : Tx K mg) : FnR P w K mg base CX0 1 (ag K "Book" "wishes") (spBWishes K) := by
  obtain ⟨fd, F⟩ := T.fd_Book_wishes
  refine fnr F (fun _ _ _ _ _ _ us hl => match us, hl with | [_], _ => rfl) sc_Book_wishes (fun vs H Q E h => ?_) (fun cdv A outer s H vs Q E hr h => ?_)
  · first | exact l1 h | exact l0 h | exact l2 h | exact l3 h | exact l4 h | exact l5 h | exact l6 h
  · have hu := hu_of hr
    refine ⟨_, PSs.nox (pss_one (ps_ret (pe_ix ix_tup (pe_ix ix_tup (pe_fld (pv 0) rfl) (pe_un un_neg pe_int) (fun _ _ => rfl)) pe_int (fun _ _ => rfl)))), ?_⟩
    try dsimp only [cxOf, Cx.nox, Cx.wish]
    obtain ⟨s, rfl, x, ps, pg, rfl, hb, q⟩ := h
    obtain ⟨ds, t, ss, st, e, wd, vs, h1, h2, h3, h4, h5, h6, h7⟩ := hb.last
    have c0 := T.cl_Book
    have c1 := T.na_Book_states
    lcg_src
    refine w_ixT h2 (atI_last _ _) ?_
    lcg_src
    exact q _ _ h6 h7
abbrev spBChanges (K : Fr0) : Sp := s1 fun s H Q _ => ∃ x ps pg, s = .ref x ∧ BookAt K H x (ps ++ [pg]) ∧ Q (.int (ps.length : Nat)) H
abbrev N_Book_changes : List Str := ["self"]
abbrev P_Book_changes : List Str := ["self"]
theorem sc_Book_changes : FnScope N_Book_changes P_Book_changes (defScope s_Book_changes) := ⟨rfl, rfl, rfl, by decide +kernel, rfl, by decide +kernel, by decide +kernel⟩
theorem ok_Book_changes (T : Tx K mg) : FnR P w K mg base CX0 1 (ag K "Book" "changes") (spBChanges K) := by
  obtain ⟨fd, F⟩ := T.fd_Book_changes
  refine fnr F (fun _ _ _ _ _ _ us hl => match us, hl with | [_], _ => rfl) sc_Book_changes (fun vs H Q E h => ?_) (fun cdv A outer s H vs Q E hr h => ?_)
  · first | exact l1 h | exact l0 h | exact l2 h | exact l3 h | exact l4 h | exact l5 h | exact l6 h
  · have hu := hu_of hr
    refine ⟨_, PSs.nox (pss_one (ps_ret (pe_op op_sub (pe_callB call_LenT (by rfl) T.f_len boot_lenB (pa_cons (pe_fld (pv 0) rfl) pa_nil)) pe_int))), ?_⟩
    try dsimp only [cxOf, Cx.nox, Cx.wish]
    obtain ⟨s, rfl, x, ps, pg, rfl, hb, q⟩ := h
    obtain ⟨ds, t, ss, st, e, wd, vs, h1, h2, h3, h4, h5, h6, h7⟩ := hb.last
    have c0 := T.cl_Book
    have c1 := T.na_Book_states
    lcg_src
    rw [List.length_append, List.length_map, h3.length]
    have e : (((ps.length + [V.ref st].length : Nat) : Int) - 1) = (ps.length : Int) := by
      simp only [List.length_cons, List.length_nil]
      omega
    rw [e]
    exact q
abbrev spBLen (K : Fr0) : Sp := s1 fun s H Q _ => ∃ x ps pg, s = .ref x ∧ BookAt K H x (ps ++ [pg]) ∧ Q (.int ((entsM pg.1).length : Nat)) H
abbrev N_Book_len : List Str := ["self"]
abbrev P_Book_len : List Str := ["self"]
theorem sc_Book_len : FnScope N_Book_len P_Book_len (defScope s_Book_len) := ⟨rfl, rfl, rfl, by decide +kernel, rfl, by decide +kernel, by decide +kernel⟩
theorem ok_Book_len (T : Tx K mg) : FnR P w K mg base CX0 3 (am K "Book" "__len__") (spBLen K) := by
  obtain ⟨fd, F⟩ := T.fd_Book_len
  refine fnr F (fun _ _ _ _ _ _ us hl => match us, hl with | [_], _ => rfl) sc_Book_len (fun vs H Q E h => ?_) (fun cdv A outer s H vs Q E hr h => ?_)
  · first | exact l1 h | exact l0 h | exact l2 h | exact l3 h | exact l4 h | exact l5 h | exact l6 h
  · have hu := hu_of hr
    refine ⟨_, PSs.nox (pss_one (ps_ret (pe_callB call_LenT (by rfl) T.f_len boot_lenB (pa_cons (pe_pr (pv 0) T.cl_Book T.pr_Book_entries (ok_Book_entries T) (hr.mono (by decide))) pa_nil)))), ?_⟩
    try dsimp only [cxOf, Cx.nox, Cx.wish]
    obtain ⟨s, rfl, x, ps, pg, rfl, hb, q⟩ := h
    have c0 := T.cl_Book
    obtain ⟨ds, t, ss, st, e, wd, vs, h1, h2, h3, h4, h5, h6, h7⟩ := hb.last
    lcg_src
    rename_i e2 he2
    obtain ⟨bs, z1, z2⟩ := he2
    refine ⟨e2, _, rfl, z1.sq, ?_⟩
    rw [List.length_map, z2.length]
    exact q
end
end
section
/-! The book read, taken back, a wish lifted, a wish made. -/
open PySem PySem.Spec PyProof.Rows L2
theorem paired_get {α β : Type} {R : α → β → Prop} : ∀ {l : List α} {m : List β} {i : Nat} {x : α}, Paired R l m → l[i]? = some x → ∃ y, m[i]? = some y ∧ R x y
  | _, _, _, _, .nil, h => by simp at h
  | _, _, 0, x, .cons (a := a) (b := b) r _, h => by
    obtain rfl : a = x := by simpa using h
    exact ⟨b, rfl, r⟩
  | _, _, i + 1, x, .cons _ t, h => paired_get (i := i) t (by simpa using h)
theorem lookup_nd {β : Type} {es : List (Str × β)} {p : Str × β} (nd : (es.map (·.1)).Nodup) (h : p ∈ es) : es.lookup p.1 = some p.2 := by
  induction es with
  | nil => cases h
  | cons q r ih =>
    rw [List.map_cons, List.nodup_cons] at nd
    rw [List.lookup_cons]
    rcases List.mem_cons.mp h with z | z
    · rw [z, beq_self_eq_true]
    · have n : ¬ p.1 = q.1 := fun e => nd.1 (e ▸ List.mem_map.mpr ⟨p, z, rfl⟩)
      rw [beq_eq_false_iff_ne.mpr n]
      exact ih nd.2 z
theorem cut_take (xs : List V) (k : Nat) : cutV xs none (some (k : Int)) = xs.take k := by
  unfold cutV
  have e1 : HT.sIx xs.length 0 none = 0 := by
    unfold HT.sIx
    simp
  have e2 : HT.sIx xs.length xs.length (some (k : Int)) = min k xs.length := by
    unfold HT.sIx
    simp
    omega
  rw [e1, e2, List.drop_zero, Nat.sub_zero]
  by_cases h : k ≤ xs.length
  · rw [Nat.min_eq_left h]
  · rw [Nat.min_eq_right (by omega), List.take_length, List.take_of_length_le (by omega)]
theorem cut_drop (xs : List V) (k : Nat) : cutV xs (some (k : Int)) none = xs.drop k := by
  unfold cutV
  have e1 : HT.sIx xs.length xs.length none = xs.length := by
    unfold HT.sIx
    simp
  have e2 : HT.sIx xs.length 0 (some (k : Int)) = min k xs.length := by
    unfold HT.sIx
    simp
    omega
  rw [e1, e2]
  by_cases h : k ≤ xs.length
  · rw [Nat.min_eq_left h, List.take_of_length_le (by rw [List.length_drop]; exact Nat.le_refl _)]
  · rw [Nat.min_eq_right (by omega), List.drop_length, List.drop_of_length_le (by omega), List.take_nil]
theorem dps_take {K : Fr0} {H : Hp} : ∀ {vs : List V} {ds : List PyData} (k : Nat), DpAll K H vs ds → DpAll K H (vs.take k) (ds.take k)
  | _, _, 0, _ => by rw [List.take_zero, List.take_zero]; exact .nil
  | _, _, k + 1, .nil => .nil
  | _, _, k + 1, .cons a r => .cons a (dps_take k r)
theorem dps_drop {K : Fr0} {H : Hp} : ∀ {vs : List V} {ds : List PyData} (k : Nat), DpAll K H vs ds → DpAll K H (vs.drop k) (ds.drop k)
  | _, _, 0, h => h
  | _, _, k + 1, .nil => .nil
  | _, _, k + 1, .cons a r => dps_drop k r
theorem dps_app {K : Fr0} {H : Hp} : ∀ {vs us : List V} {ds es : List PyData}, DpAll K H vs ds → DpAll K H us es → DpAll K H (vs ++ us) (ds ++ es)
  | _, _, _, _, .nil, h => h
  | _, _, _, _, .cons a r, h => .cons a (dps_app r h)
theorem inV_names (t : Str) (es : List (Str × Duo)) : inV (.str t) (es.map fun p => V.str p.1) = (es.lookup t).isSome := by
  induction es with
  | nil => rfl
  | cons p r ih =>
    rw [List.map_cons, List.lookup_cons]
    show (eqV (.str p.1) (.str t) || inV (.str t) (r.map fun p => V.str p.1)) = _
    rw [ih]
    show ((p.1 == t) || _) = _
    by_cases c : t = p.1
    · rw [show (t == p.1) = true from beq_iff_eq.mpr c, show (p.1 == t) = true from beq_iff_eq.mpr c.symm]
      rfl
    · rw [show (t == p.1) = false from beq_eq_false_iff_ne.mpr c, show (p.1 == t) = false from beq_eq_false_iff_ne.mpr (fun z => c z.symm)]
      rfl
theorem first_snoc {ps : List (Str × Duo)} {ws : List Wish} {wi : Wish} (h : firstBad ps ws = none) : firstBad ps (ws ++ [wi]) = if badAt ps wi = true then some ws.length else none := by
  unfold firstBad at *
  rw [List.findIdx?_append, h, List.findIdx?_cons]
  by_cases c : badAt ps wi = true
  · rw [c, if_pos rfl]
    simp
  · rw [if_neg c, Bool.eq_false_iff.mpr c]
    simp
theorem BookAt.push {K : Fr0} {H H4 H5 : Hp} {x ds t st p3 p4 : Addr} {ss : List Addr} {ps : List Pg} {pg pg2 : Pg} (h1 : H x = some (.ins (ad K "Book") ds [("states", .ref t)])) (h3 : Paired (PageAt K H) ss ps) (hs : PageAt K H st pg) (S : Same H H4) (n : PageAt K H4 p3 pg2)
    (hp : SqT K H4 p4 (ss.map V.ref ++ [V.ref st] ++ [V.ref p3])) (C5 : Chg x H4 H5) (e5 : H5 x = some (.ins (ad K "Book") ds [("states", .ref p4)])) : BookAt K H5 x (ps ++ [pg, pg2]) := by
  have hx4 := S _ _ h1
  have k4 : ∀ b o, kindP o = true → H4 b = some o → H5 b = some o := fun b o ho e => C5 b o (ne_of e hx4 fun z => by
    subst z
    cases ho) e
  refine ⟨ds, p4, ss ++ [st] ++ [p3], e5, ?_, ?_⟩
  · have e : (ss ++ [st] ++ [p3]).map V.ref = ss.map V.ref ++ [V.ref st] ++ [V.ref p3] := by simp
    rw [e]
    exact cg_T C5 hp hx4 rfl
  · have e : ps ++ [pg, pg2] = ps ++ [pg] ++ [pg2] := by simp
    rw [e]
    exact Paired.snoc (page_keep k4 n) (Paired.snoc (page_keep (fun b o ho e => k4 b o ho (S _ _ e)) hs) (Paired.mapP h3 fun s pg hp => page_keep (fun b o ho e => k4 b o ho (S _ _ e)) hp))
theorem page_same {K : Fr0} {H H' : Hp} {a : Addr} {pg : Pg} (S : Same H H') (h : PageAt K H a pg) : PageAt K H' a pg := page_keep (fun b o _ => S b o) h
local macro_rules | `(tactic| lcg_sub) => `(tactic| ((with_reducible apply sm_DpA); assumption; lcg_sub))
local macro_rules | `(tactic| lcg_sub) => `(tactic| ((with_reducible apply EntsAt.same); assumption; lcg_sub))
local macro_rules | `(tactic| lcg_sub) => `(tactic| ((with_reducible apply BookAt.same); assumption; lcg_sub))
section
variable {P : Program} {w : World} {K : Fr0} {mg : Str → Option Value} {base : Heap}
abbrev spBGet (K : Fr0) : Sp := s2 fun s n H Q _ => ∃ x ps, ∃ pg : Pg, ∃ t du, s = .ref x ∧ n = .str t ∧ BookAt K H x (ps ++ [pg]) ∧ PgOk pg ∧ TagS t ∧ pg.1.lookup t = some du ∧ ∀ pv, PairV K H pv du → Q pv H
abbrev N_Book_getitem : List Str := ["self", "name", "known", "value"]
abbrev P_Book_getitem : List Str := ["self", "name"]
theorem sc_Book_getitem : FnScope N_Book_getitem P_Book_getitem (defScope s_Book_getitem) := ⟨rfl, rfl, rfl, by decide +kernel, rfl, by decide +kernel, by decide +kernel⟩
theorem ok_Book_getitem (T : Tx K mg) : FnR P w K mg base CX0 3 (am K "Book" "__getitem__") (spBGet K) := by
  obtain ⟨fd, F⟩ := T.fd_Book_getitem
  refine fnr F (fun _ _ _ _ _ _ us hl => match us, hl with | [_, _], _ => rfl) sc_Book_getitem (fun vs H Q E h => ?_) (fun cdv A outer s H vs Q E hr h => ?_)
  · first | exact l1 h | exact l0 h | exact l2 h | exact l3 h | exact l4 h | exact l5 h | exact l6 h
  · have hu := hu_of hr
    refine ⟨_, PSs.nox (pss_cons (ps_for PassesOwn.never rfl (pi_tup (pe_pr (pv 0) T.cl_Book T.pr_Book_entries (ok_Book_entries T) (hr.mono (by decide)))) (pg_tup (n := 2) rfl (pgs_cons (pg_name (i := 2) sc_Book_getitem.nd rfl (Or.inl rfl)) (pgs_cons (pg_name (i := 3) sc_Book_getitem.nd rfl (Or.inl rfl)) pgs_nil))) (pss_one (ps_if (pt_cmpR op_eq (pv 2) (pv 1) (nomark _)) (pss_one (ps_ret (pv 3))) pss_nil)))
      (pss_one ps_never)), ?_⟩
    try dsimp only [cxOf, Cx.nox, Cx.wish]
    obtain ⟨s, n, rfl, x, ps, pg, t, du, rfl, rfl, hb, ok, ht, hl, q⟩ := h
    have c0 := T.cl_Book
    obtain ⟨ds, tt, ss, st, e, wd, vs, h1, h2, h3, h4, h5, h6, h7⟩ := hb.last
    lcg_src
    rename_i e2 he2
    obtain ⟨bs, z1, z2⟩ := he2
    have hl2 : (entsM pg.1).lookup t = some du := by rw [ents_lookup ht]; exact hl
    refine ⟨⟨_, z1.sq⟩, ?_⟩
    refine ForG.tup (K := K) (fun m σ' H' => H' = H ∧ (∃ o2 o3, σ' = [some (.ref x), some (.str t), o2, o3]) ∧ ∀ j p, j < m → (entsM pg.1)[j]? = some p → ¬ p.1 = t) ⟨rfl, ⟨_, _, rfl⟩, fun j p h => absurd h (Nat.not_lt_zero _)⟩ (fun m σ' H' p => by rw [p.1]; exact z1.sq) (fun m v σ' H' hx hp => ?_) (fun σ' H' hp => ?_)
    · obtain ⟨rfl, ⟨o2, o3, rfl⟩, hn⟩ := hp
      rw [List.getElem?_map] at hx
      cases eb : bs[m]? with
      | none => rw [eb] at hx; cases hx
      | some b =>
        rw [eb] at hx
        cases hx
        obtain ⟨p, hp, pv, y1, y2⟩ := paired_get z2 eb
        lcg_src
        by_cases c : p.1 = t
        · rw [decide_eq_true (show V.str p.1 = V.str t by rw [c])]
          lcg_src
          have e3 := lookup_nd (ents_ok ok.ok).nd (List.mem_of_getElem? hp)
          rw [c, hl2] at e3
          cases e3
          exact q _ y2
        · rw [decide_eq_false (fun z => c (V.str.inj z))]
          lcg_src
          refine ⟨⟨_, _, rfl⟩, fun j p2 hj hp2 => ?_⟩
          by_cases d : j = m
          · subst d
            rw [hp] at hp2
            cases hp2
            exact c
          · exact hn j p2 (by omega) hp2
    · obtain ⟨rfl, ⟨o2, o3, rfl⟩, hn⟩ := hp
      exfalso
      obtain ⟨j, hj⟩ := List.mem_iff_getElem?.mp (mem_of_lookup hl2)
      refine hn j _ ?_ hj rfl
      rw [List.length_map, z2.length]
      exact (List.getElem?_eq_some_iff.mp hj).1
abbrev spBUndo (K : Fr0) : Sp := s1 fun s H Q E => ∃ x ps, ∃ pg : Pg, s = .ref x ∧ BookAt K H x (ps ++ [pg]) ∧ ps.length ≤ 1000 ∧ (∀ H', ps ≠ [] → Chg x H H' → BookAt K H' x ps → Q .non H') ∧ (ps = [] → E (.ref (ad K "NothingToUndo")) none H)
abbrev N_Book_undo : List Str := ["self"]
abbrev P_Book_undo : List Str := ["self"]
theorem sc_Book_undo : FnScope N_Book_undo P_Book_undo (defScope s_Book_undo) := ⟨rfl, rfl, rfl, by decide +kernel, rfl, by decide +kernel, by decide +kernel⟩
theorem ok_Book_undo (T : Tx K mg) : FnR P w K mg base (L2.CX P w) 3 (am K "Book" "undo") (spBUndo K) := by
  obtain ⟨fd, F⟩ := T.fd_Book_undo
  refine fnr F (fun _ _ _ _ _ _ us hl => match us, hl with | [_], _ => rfl) sc_Book_undo (fun vs H Q E h => ?_) (fun cdv A outer s H vs Q E hr h => ?_)
  · first | exact l1 h | exact l0 h | exact l2 h | exact l3 h | exact l4 h | exact l5 h | exact l6 h
  · have hu := hu_of hr
    refine ⟨_, (pss_cons (ps_if (pt_cmpR op_eq (pe_pr (pv 0) T.cl_Book T.pr_Book_changes (ok_Book_changes T) (hr.mono (by decide))) pe_int (nomark _)) (pss_one (ps_raise rfl (takes_of rfl rfl rfl rfl) (pmk_NU (mg := mg) T (by rfl)))) pss_nil)
      (pss_one (ps_fldS (pv 0) (pe_slice sl_Ts (pe_fld (pv 0) rfl) po_none (po_some (pe_un un_neg pe_int))) rfl))), ?_⟩
    try dsimp only [cxOf, Cx.nox, Cx.wish]
    obtain ⟨s, rfl, x, ps, pg, rfl, hb, hln, q, q2⟩ := h
    have c0 := T.cl_Book
    have c1 := T.na_Book_states
    obtain ⟨ds, t, ss, st, e, wd, vs, h1, h2, h3, h4, h5, h6, h7⟩ := id hb.last
    lcg_src
    refine w_ite (fun c => ?_) (fun c => ?_)
    · have hr0 : ps = [] := by
        have := of_decide_eq_true c
        cases ps with
        | nil => rfl
        | cons y r => simp at this; omega
      lcg_src
      exact q2 hr0
    · have hr0 : ps ≠ [] := fun z => by
        rw [z] at c
        exact absurd (of_decide_eq_false c) (by simp)
      lcg_src
      rename_i p3 G3 S3 e3 G4 C4 e4
      rw [cut_init] at e3
      have hx3 := S3 _ _ h1
      have C : Chg x H G4 := (SW.Same.chg S3).trans C4
      have k4 : ∀ b o, kindP o = true → G3 b = some o → G4 b = some o := fun b o ho e => C4 b o (ne_of e hx3 fun z => by
        subst z
        cases ho) e
      exact q G4 hr0 C ⟨ds, p3, ss, e4, cg_T C4 e3 hx3 rfl, Paired.mapP h3 fun s pg hp => page_keep (fun b o ho e => k4 b o ho (S3 _ _ e)) hp⟩
abbrev spBLift (K : Fr0) : Sp := s2 fun s i H Q E => ∃ x ps, ∃ pg : Pg, ∃ k : Nat, s = .ref x ∧ i = .int k ∧ BookAt K H x (ps ++ [pg]) ∧ ps.length ≤ 1000 ∧ pg.2.length ≤ 1000 ∧
  (∀ H', k < pg.2.length → Chg x H H' → BookAt K H' x (ps ++ [pg, (pg.1, pg.2.take k ++ pg.2.drop (k + 1))]) → Q .non H') ∧ (pg.2.length ≤ k → Bears (ad K "InvalidIndex") "given" (.int k) H E)
abbrev N_Book_lift : List Str := ["self", "index", "wishes"]
abbrev P_Book_lift : List Str := ["self", "index"]
theorem sc_Book_lift : FnScope N_Book_lift P_Book_lift (defScope s_Book_lift) := ⟨rfl, rfl, rfl, by decide +kernel, rfl, by decide +kernel, by decide +kernel⟩
theorem ok_Book_lift (T : Tx K mg) : FnR P w K mg base (L2.CX P w) 4 (am K "Book" "lift") (spBLift K) := by
  obtain ⟨fd, F⟩ := T.fd_Book_lift
  refine fnr F (fun _ _ _ _ _ _ us hl => match us, hl with | [_, _], _ => rfl) sc_Book_lift (fun vs H Q E h => ?_) (fun cdv A outer s H vs Q E hr h => ?_)
  · first | exact l1 h | exact l0 h | exact l2 h | exact l3 h | exact l4 h | exact l5 h | exact l6 h
  · have hu := hu_of hr
    refine ⟨_, (pss_cons (ps_if (pt_not (pt_val (pe_fn (ok_is_withinI T) (hr.mono (by decide)) (by rfl) T.g_is_within T.k_is_within pass0 (pa_cons (pv 1) (pa_cons pe_int (pa_cons (pe_op op_sub (pe_callB call_LenT (by rfl) T.f_len boot_lenB (pa_cons (pe_pr (pv 0) T.cl_Book T.pr_Book_wishes (ok_Book_wishes T) (hr.mono (by decide))) pa_nil)) pe_int) pa_nil)))))) (pss_one (ps_raise rfl (takes_of rfl rfl rfl rfl) (pmk_II T (hr.mono (by decide)) (by rfl) (pv 1)))) pss_nil)
      (pss_cons (ps_set (i := 2) sc_Book_lift.nd rfl (Or.inl rfl) (pe_op op_CatTs (pe_slice sl_Ts (pe_pr (pv 0) T.cl_Book T.pr_Book_wishes (ok_Book_wishes T) (hr.mono (by decide))) po_none (po_some (pv 1))) (pe_slice sl_Ts (pe_pr (pv 0) T.cl_Book T.pr_Book_wishes (ok_Book_wishes T) (hr.mono (by decide))) (po_some (pe_op op_add (pv 1) pe_int)) po_none)))
      (pss_one (ps_fldS (pv 0) (pe_op op_CatTs (pe_fld (pv 0) rfl) (pe_tupS (pa_cons (pe_tupS (pa_cons (pe_pr (pv 0) T.cl_Book T.pr_Book_entries (ok_Book_entries T) (hr.mono (by decide))) (pa_cons (pv 2) pa_nil))) pa_nil))) rfl)))), ?_⟩
    try dsimp only [cxOf, Cx.nox, Cx.wish]
    obtain ⟨s, i, rfl, x, ps, pg, k, rfl, rfl, hb, hln, hln2, q, q2⟩ := h
    have c0 := T.cl_Book
    have c1 := T.na_Book_states
    obtain ⟨ds, t, ss, st, e, wd, vs, h1, h2, h3, h4, h5, h6, h7⟩ := id hb.last
    lcg_src
    rename_i e0 vs0 y1 y2
    have hl0 : vs0.length = pg.2.length := by rw [dps_len y2, List.length_map]
    rw [hl0]
    by_cases hk : k < pg.2.length
    · rw [decide_eq_true (show (0 : Int) ≤ (k : Int) by omega), decide_eq_true (show (k : Int) ≤ (pg.2.length : Int) - 1 by omega)]
      lcg_src
      rename_i e1 vs1 y3 y4 p1 G1 S1 f1 e2 vs2 y5 y6 p2 G2 S2 f2
      have l1 : vs1.length = pg.2.length := by rw [dps_len y4, List.length_map]
      have l2 : vs2.length = pg.2.length := by rw [dps_len y6, List.length_map]
      rw [show ((k : Int) + 1) = ((k + 1 : Nat) : Int) from rfl] at *
      rw [cut_take, cut_drop]
      refine ⟨by rw [List.length_take, List.length_drop, l1, l2]; exact Nat.le_trans (show _ ≤ 5000 by omega) (by decide), ?_⟩
      lcg_src
      rename_i p3 G3 S3 f3 e3 f3e p4 G4 S4 f4 p5 G5 S5 f5
      refine ⟨by
        rw [List.length_append, List.length_map, h3.length]
        exact Nat.le_trans (show _ ≤ 5000 by simp only [List.length_cons, List.length_nil]; omega) (by decide), ?_⟩
      lcg_src
      rename_i p6 G6 S6 f6 G7 C7 f7
      have S36 : Same G3 G6 := (S4.trans S5).trans S6
      have S26 : Same G2 G6 := S3.trans S36
      have SH6 : Same H G6 := (S1.trans S2).trans S26
      have C : Chg x H G7 := (SW.Same.chg SH6).trans C7
      refine q G7 hk C (BookAt.push h1 h3 ⟨e, wd, vs, h4, h5, h6, h7⟩ SH6 (p3 := p4) ⟨e3, p3, _, sm_T (S5.trans S6) f4, f3e.same S36, sm_T S36 f3, ?_⟩ f6 C7 f7)
      rw [List.map_append, List.map_take, List.map_drop]
      exact dps_app (dps_take k (sm_DpA SH6 y4)) (dps_drop (k + 1) (sm_DpA (S2.trans S26) y6))
    · rw [decide_eq_true (show (0 : Int) ≤ (k : Int) by omega), decide_eq_false (show ¬ (k : Int) ≤ (pg.2.length : Int) - 1 by omega)]
      lcg_src
      refine (show tVar 1 _ _ _ from w_var rfl ?_)
      exact fun d H2 n S e => q2 (by omega) d H2 n S e
abbrev spBNames (K : Fr0) : Sp := s1 fun s H Q _ => ∃ x ps, ∃ pg : Pg, s = .ref x ∧ BookAt K H x (ps ++ [pg]) ∧ ∀ z H', Same H H' → SqT K H' z ((entsM pg.1).map fun p => V.str p.1) → Q (.ref z) H'
abbrev N_Book_names : List Str := ["self", "name", "value"]
abbrev P_Book_names : List Str := ["self"]
theorem sc_Book_names : FnScope N_Book_names P_Book_names (defScope s_Book_names) := ⟨rfl, rfl, rfl, by decide +kernel, rfl, by decide +kernel, by decide +kernel⟩
theorem ok_Book_names (T : Tx K mg) : FnR P w K mg base CX0 3 (ag K "Book" "names") (spBNames K) := by
  obtain ⟨fd, F⟩ := T.fd_Book_names
  refine fnr F (fun _ _ _ _ _ _ us hl => match us, hl with | [_], _ => rfl) sc_Book_names (fun vs H Q E h => ?_) (fun cdv A outer s H vs Q E hr h => ?_)
  · first | exact l1 h | exact l0 h | exact l2 h | exact l3 h | exact l4 h | exact l5 h | exact l6 h
  · have hu := hu_of hr
    refine ⟨_, PSs.nox (pss_one (ps_ret (pe_callTy call_TupL (by rfl) T.f_tuple boot_tupleT (pa_cons (pe_lc (own := [("name", 1), ("value", 2)]) (g := gTup K 2 (gCons (gName 1) (gCons (gName 2) gNil)))  (tt := tYes) rfl sc_Book_names.nd (pi_tup (pe_pr (pv 0) T.cl_Book T.pr_Book_entries (ok_Book_entries T) (hr.mono (by decide)))) (blkOk_by (N := N_Book_names) (sc := defScope s_Book_names) (by decide +kernel)) (fun _ _ _ _ _ => (pg_tup (n := 2) rfl (pgs_cons (pg_name (i := 1) sc_Book_names.nd rfl (Or.inl rfl)) (pgs_cons (pg_name (i := 2) sc_Book_names.nd rfl (Or.inl rfl)) pgs_nil)))) (fun _ _ _ _ _ => pts_nil) (fun _ _ _ _ _ => (pv 1))) pa_nil)))), ?_⟩
    try dsimp only [cxOf, Cx.nox, Cx.wish]
    obtain ⟨s, rfl, x, ps, pg, rfl, hb, q⟩ := h
    have c0 := T.cl_Book
    obtain ⟨ds, tt, ss, st, e, wd, vs, h1, h2, h3, h4, h5, h6, h7⟩ := hb.last
    lcg_src
    rename_i e2 he2
    obtain ⟨bs, z1, z2⟩ := he2
    have hbl := z2.length
    have hel : (entsM pg.1).length ≤ 2 := by
      unfold entsM
      cases e1 : pg.1.lookup ("b2" : Str) <;> cases e2 : pg.1.lookup ("own" : Str) <;> simp
    refine ⟨⟨_, z1.sq⟩, ?_⟩
    refine LcG.gen (walk_tup (K := K) (a := e2) (xs := bs.map V.ref)) (by rw [List.length_map]; omega) (fun D i ys H' => Same H H' ∧ ys = ((entsM pg.1).take i).map fun p => V.str p.1) (fun D H' nD S _ => ⟨S, rfl⟩) (fun D i ys H' I => sm_T I.1 z1.sq) (fun D i ys H2 H3 nD I C => ⟨fun b o h => C b o (ne_of_none h nD) (I.1 b o h), I.2⟩)
      (fun D i v ys H2 H3 Y2 N nD hi hl hD I hy hq => ?_) (fun D ys H' nD hl I hD => ?_)
    · obtain ⟨rfl, hv⟩ := hy
      rw [List.getElem?_map] at hv
      cases eb : bs[i]? with
      | none => rw [eb] at hv; cases hv
      | some b =>
        rw [eb] at hv
        cases hv
        obtain ⟨p, hp, pv, y1, y2⟩ := paired_get z2 eb
        have y1' := sm_T I.1 y1
        lcg_src
        refine hq _ _ ⟨I.1, ?_⟩ hD
        rw [List.take_add_one, hp, List.map_append, ← I.2]
        rfl
    · lcg_src
      rename_i z G S hz
      refine q z G (I.1.trans S) ?_
      rw [I.2, List.length_map, hbl, List.take_length] at hz
      exact hz
abbrev spBWish (K : Fr0) : Sp := s2 fun s v H Q E => ∃ x ps, ∃ pg : Pg, ∃ wi : Wish, s = .ref x ∧ BookAt K H x (ps ++ [pg]) ∧ PgOk pg ∧ ps.length ≤ 1000 ∧ Dp K H v wi.d ∧ wi.ok ∧
  (pg.1.lookup wi.tag = none → Bears (ad K "UnknownName") "given" (.str wi.tag) H E) ∧
  (∀ du, pg.1.lookup wi.tag = some du → holdsM du wi = true → ∀ H', Chg x H H' → BookAt K H' x (ps ++ [pg, (pg.1, pg.2 ++ [wi])]) → Q .non H') ∧
  (∀ du, pg.1.lookup wi.tag = some du → holdsM du wi = false → Bears (ad K "Broken") "index" (.int pg.2.length) H E)
abbrev N_Book_wish : List Str := ["self", "wish"]
abbrev P_Book_wish : List Str := ["self", "wish"]
theorem sc_Book_wish : FnScope N_Book_wish P_Book_wish (defScope s_Book_wish) := ⟨rfl, rfl, rfl, by decide +kernel, rfl, by decide +kernel, by decide +kernel⟩
theorem ok_Book_wish (T : Tx K mg) : FnR P w K mg base (L2.CX P w) 13 (am K "Book" "wish") (spBWish K) := by
  obtain ⟨fd, F⟩ := T.fd_Book_wish
  refine fnr F (fun _ _ _ _ _ _ us hl => match us, hl with | [_, _], _ => rfl) sc_Book_wish (fun vs H Q E h => ?_) (fun cdv A outer s H vs Q E hr h => ?_)
  · first | exact l1 h | exact l0 h | exact l2 h | exact l3 h | exact l4 h | exact l5 h | exact l6 h
  · have hu := hu_of hr
    refine ⟨_, (pss_cons (ps_if (pt_not (pt_val (pe_fn (ok_is_wish T) (hr.mono (by decide)) (by rfl) T.g_is_wish T.k_is_wish pass0 (pa_cons (pv 1) pa_nil)))) (pss_one ps_never) pss_nil)
      (pss_cons (ps_if (pt_cmpR op_notIn_seq (pe_ix ix_tup (pv 1) pe_int (fun _ _ => rfl)) (pe_pr (pv 0) T.cl_Book T.pr_Book_names (ok_Book_names T) (hr.mono (by decide))) (by rfl)) (pss_one (ps_raise rfl (takes_of rfl rfl rfl rfl) (pmk_UN T (hr.mono (by decide)) (by rfl) (pe_ix ix_tup (pv 1) pe_int (fun _ _ => rfl))))) pss_nil)
      (pss_cons (ps_expr (pe_fn (ok_check_wishes T) (hr.mono (by decide)) (by rfl) T.g_check_wishes T.k_check_wishes (passes_call (takes_of rfl rfl rfl rfl) (fun _ _ _ _ h => h)) (pa_cons (pe_pr (pv 0) T.cl_Book T.pr_Book_entries (ok_Book_entries T) (hr.mono (by decide))) (pa_cons (pe_op op_CatTs (pe_pr (pv 0) T.cl_Book T.pr_Book_wishes (ok_Book_wishes T) (hr.mono (by decide))) (pe_tupS (pa_cons (pv 1) pa_nil))) pa_nil))))
      (pss_one (ps_fldS (pv 0) (pe_op op_CatTs (pe_fld (pv 0) rfl) (pe_tupS (pa_cons (pe_tupS (pa_cons (pe_pr (pv 0) T.cl_Book T.pr_Book_entries (ok_Book_entries T) (hr.mono (by decide))) (pa_cons (pe_op op_CatTs (pe_pr (pv 0) T.cl_Book T.pr_Book_wishes (ok_Book_wishes T) (hr.mono (by decide))) (pe_tupS (pa_cons (pv 1) pa_nil))) pa_nil))) pa_nil))) rfl))))), ?_⟩
    try dsimp only [cxOf, Cx.nox, Cx.wish]
    obtain ⟨s, v, rfl, x, ps, pg, wi, rfl, hb, ok, hln, hv, wok, q1, q2, q3⟩ := h
    have c0 := T.cl_Book
    have c1 := T.na_Book_states
    obtain ⟨ds, t, ss, st, e, wd, vs, h1, h2, h3, h4, h5, h6, h7⟩ := id hb.last
    obtain ⟨a, xs, ex, ha, hat⟩ := wish_tag hv
    subst ex
    lcg_src
    rename_i H0 S0
    refine w_ixT (sm_T S0 ha) hat ?_
    lcg_src
    rename_i z G1 S1 ez
    have hfl : ((entsM pg.1).map fun p => V.str p.1).all flatV = true := by
      rw [List.all_eq_true]
      intro v hv
      obtain ⟨p, _, rfl⟩ := List.mem_map.mp hv
      rfl
    have hin : inV (.str wi.tag) ((entsM pg.1).map fun p => V.str p.1) = (pg.1.lookup wi.tag).isSome := by
      rw [← ents_lookup wok.tg]
      exact inV_names _ _
    refine w_niT ez rfl hfl ?_
    rw [hin]
    cases hd : pg.1.lookup wi.tag with
    | none =>
      lcg_src
      refine (show tOp (rIxT K) (tVar 1) (tC (.int 1)) _ _ _ from ?_)
      lcg_src
      have S01 := S0.trans S1
      refine w_ixT (sm_T S01 ha) hat ?_
      exact fun d2 H6 n6 S6 e6 => q1 hd d2 H6 (free_of n6 S01) (S01.trans S6) e6
    | some du =>
      have wd4 : ∀ {G : Hp}, Same H G → DpAll K G [V.ref a] ([wi].map Wish.d) := fun S => .cons (sm_Dp S hv) .nil
      have tgs : ∀ w ∈ pg.2 ++ [wi], TagS w.tag := fun w hw => by
        rcases List.mem_append.mp hw with z | z
        · exact (ok.ws w z).1.tg
        · rw [List.mem_singleton.mp z]
          exact wok.tg
      have hfb : firstBad (entsM pg.1) (pg.2 ++ [wi]) = if badAt pg.1 wi = true then some pg.2.length else none := by
        rw [first_ents tgs]
        exact first_snoc ok.hold
      have hbad : badAt pg.1 wi = !(holdsM du wi) := by
        unfold badAt
        rw [hd]
      lcg_src
      rename_i e1 y1 e2 vs2 y2 y3 p2 G2 S2 f2
      have l2 : vs2.length = pg.2.length := by rw [dps_len y3, List.length_map]
      have hl60 := ok.ln
      have S02 : Same H G2 := (S0.trans S1).trans S2
      refine ⟨by rw [l2]; exact Nat.le_trans (show _ ≤ 5000 by simp only [List.length_cons, List.length_nil]; omega) (by decide), fun p3 G3 S3 f3 => ?_⟩
      have S23 := S2.trans S3
      have SH3 := S02.trans S3
      refine w_nil ?_
      refine ⟨_, _, rfl, e1, entsM pg.1, p3, vs2 ++ [V.ref a], pg.2 ++ [wi], rfl, y1.same S23, ents_ok ok.ok, rfl, f3, ?_, fun w hw => ?_, by rw [List.length_append]; simp only [List.length_cons, List.length_nil]; omega, fun hn G4 S4 => ?_, fun n hn => ?_⟩
      · rw [List.map_append]
        exact dps_app (sm_DpA S23 y3) (wd4 SH3)
      · rcases List.mem_append.mp hw with z | z
        · obtain ⟨z1, z2, z3⟩ := ok.ws w z
          exact ⟨z1, z2, by rw [ents_lookup z1.tg]; exact z3⟩
        · rw [List.mem_singleton.mp z]
          exact ⟨wok, du, by rw [ents_lookup wok.tg]; exact hd⟩
      · have hh : holdsM du wi = true := by
          rw [hfb, hbad] at hn
          cases e : holdsM du wi with
          | true => rfl
          | false =>
            rw [e] at hn
            cases hn
        have SH4 := SH3.trans S4
        lcg_src
        rename_i e3 y4 e4 vs4 y5 y6 p5 G5 S5 f5
        have l4 : vs4.length = pg.2.length := by rw [dps_len y6, List.length_map]
        refine ⟨by rw [l4]; exact Nat.le_trans (show _ ≤ 5000 by simp only [List.length_cons, List.length_nil]; omega) (by decide), ?_⟩
        lcg_src
        rename_i p6 G6 S6 f6 p7 G7 S7 f7 p8 G8 S8 f8
        refine ⟨by
          rw [List.length_append, List.length_map, h3.length]
          exact Nat.le_trans (show _ ≤ 5000 by simp only [List.length_cons, List.length_nil]; omega) (by decide), ?_⟩
        lcg_src
        rename_i p9 G9 S9 f9 G10 C10 f10
        have S69 : Same G6 G9 := (S7.trans S8).trans S9
        have S49 : Same G4 G9 := (S5.trans S6).trans S69
        have SH9 : Same H G9 := SH4.trans S49
        refine q2 du hd hh G10 ((SW.Same.chg SH9).trans C10) (BookAt.push h1 h3 ⟨e, wd, vs, h4, h5, h6, h7⟩ SH9 (p3 := p7) ⟨e3, p6, _, sm_T (S8.trans S9) f7, y4.same S49, sm_T S69 f6, ?_⟩ f9 C10 f10)
        rw [List.map_append]
        exact dps_app (sm_DpA S49 y6) (wd4 SH9)
      · have hh : holdsM du wi = false ∧ n = pg.2.length := by
          rw [hfb, hbad] at hn
          cases e : holdsM du wi with
          | true =>
            rw [e] at hn
            cases hn
          | false =>
            rw [e] at hn
            exact ⟨rfl, (Option.some.inj hn).symm⟩
        rw [hh.2]
        exact fun d2 H6 n6 S6 e6 => q3 du hd hh.1 d2 H6 (free_of n6 SH3) (SH3.trans S6) e6
end
end
section
/-! How a call ended: _law_came of a lambda. -/
open PySem PySem.Spec PyProof.Rows L2 LamX
abbrev N_q_came : List Str := ["_law_act", "e"]
theorem sc_q_came : FnScope N_q_came ["_law_act"] (defScope s_q_came) := ⟨rfl, rfl, rfl, by decide +kernel, rfl, by decide +kernel, by decide +kernel⟩
/-- an exception of one of the five classes, and the list that tells of it -/
inductive Tells (K : Fr0) (Q : VK) : Value → Option Addr → Hp → Prop
  | brk {d : Addr} {v : V} {H : Hp} (h : H d = some (.xd [("index", v)])) (q : New H (.lst [.str "Broken", v]) Q) : Tells K Q (.ref (ad K "Broken")) (some d) H
  | num {d : Addr} {v : V} {H : Hp} (h : H d = some (.xd [("given", v)])) (q : New H (.lst [.str "InvalidNumber", v]) Q) : Tells K Q (.ref (ad K "InvalidNumber")) (some d) H
  | ind {d : Addr} {v : V} {H : Hp} (h : H d = some (.xd [("given", v)])) (q : New H (.lst [.str "InvalidIndex", v]) Q) : Tells K Q (.ref (ad K "InvalidIndex")) (some d) H
  | unk {d : Addr} {v : V} {H : Hp} (h : H d = some (.xd [("given", v)])) (q : New H (.lst [.str "UnknownName", v]) Q) : Tells K Q (.ref (ad K "UnknownName")) (some d) H
  | und {d : Option Addr} {H : Hp} (q : New H (.lst [.str "NothingToUndo", .non]) Q) : Tells K Q (.ref (ad K "NothingToUndo")) d H
/-- what _law_came makes of the lambda's reading -/
def TCame (K : Fr0) (tl : XK → Hp → VK → Prop) (H : Hp) (Q : VK) : Prop := tl (Tells K Q) H fun v H1 => [V.str "gave", v].length ≤ sizeLine ∧ New H1 (.lst [.str "gave", v]) Q
section
variable {P : Program} {w : World} {K : Fr0} {mg : Str → Option Value} {base : Heap}
theorem came_body {X : Cx} {g f c' : Addr} {cdg : Value} {co : HO} {s : Shared} {H : Hp} {Q : VK} {tl : XK → Hp → VK → Prop} (T : Tx X.K X.mg)
    (act : ∀ (W : WX) (pn : List (Addr × Obj)) (xe : Value → Shared → Prop) (E : XK) (p1 p2 : Pos), Takes ((cxOf CX0 X.prog X.w X.K X.mg X.base N_q_came "_law_came" (defScope s_q_came) g cdg X.A X.stack s H E0).tr pn xe) W → (∀ cls d (σ' : L2.St) H', σ'.length = N_q_came.length → E cls d H' → W cls d σ' H') →
      PE ((cxOf CX0 X.prog X.w X.K X.mg X.base N_q_came "_law_came" (defScope s_q_came) g cdg X.A X.stack s H E0).tr pn xe) (.Call (.Name "_law_act" p1) [] [] p2) (fun σZ HZ Q => σZ[0]? = some (some (.ref f)) ∧ HZ c' = some co ∧ tl E HZ Q))
    (hc : H c' = some co) (h : TCame X.K tl H Q) :
    ∃ t, PSs (cxOf CX0 X.prog X.w X.K X.mg X.base N_q_came "_law_came" (defScope s_q_came) g cdg X.A X.stack s H E0).nox (defBody s_q_came) t ∧ t { nx := fun _ H' => Q .non H', rt := Q } (start N_q_came [.ref f]) H := by
  refine ⟨_, pss_one (ps_try_mix (X := (cxOf CX0 X.prog X.w X.K X.mg X.base N_q_came "_law_came" (defScope s_q_came) g cdg X.A X.stack s H E0).nox)
      (tb := fun W D σ H => ∃ E : XK, (∀ cls d (σ' : L2.St) H', σ'.length = N_q_came.length → E cls d H' → W cls d σ' H') ∧ σ[0]? = some (some (.ref f)) ∧ H c' = some co ∧ tl E H (fun v H1 => [V.str "gave", v].length ≤ sizeLine ∧ New H1 (.lst [.str "gave", v]) D.rt))
      rfl rfl sc_q_came.nd LamX.takes0 (fun W pn xe tk _ => ?_)
      (.named (i := 1) (c := .ref (ad X.K "Broken")) ⟨rfl, by decide, .inl T.g_Broken⟩ rfl rfl (fun a oe cls d pn hz hf => pss_one (ps_ret (pe_lstS (pa_cons pe_str (pa_cons (pe_xf T.xf_Broken T.xn_Broken hz hf (pv 1)) pa_nil)))))
      (.named (i := 1) (c := .ref (ad X.K "InvalidNumber")) ⟨rfl, by decide, .inl T.g_InvalidNumber⟩ rfl rfl (fun a oe cls d pn hz hf => pss_one (ps_ret (pe_lstS (pa_cons pe_str (pa_cons (pe_xf T.xf_InvalidNumber T.xn_InvalidNumber hz hf (pv 1)) pa_nil)))))
      (.named (i := 1) (c := .ref (ad X.K "InvalidIndex")) ⟨rfl, by decide, .inl T.g_InvalidIndex⟩ rfl rfl (fun a oe cls d pn hz hf => pss_one (ps_ret (pe_lstS (pa_cons pe_str (pa_cons (pe_xf T.xf_InvalidIndex T.xn_InvalidIndex hz hf (pv 1)) pa_nil)))))
      (.named (i := 1) (c := .ref (ad X.K "UnknownName")) ⟨rfl, by decide, .inl T.g_UnknownName⟩ rfl rfl (fun a oe cls d pn hz hf => pss_one (ps_ret (pe_lstS (pa_cons pe_str (pa_cons (pe_xf T.xf_UnknownName T.xn_UnknownName hz hf (pv 1)) pa_nil)))))
      (.plain (c := .ref (ad X.K "NothingToUndo")) ⟨rfl, by decide, .inl T.g_NothingToUndo⟩ (fun a oe cls d pn hz hf => pss_one (ps_ret (pe_lstS (pa_cons pe_str (pa_cons pe_non pa_nil))))) .nil)))))), ?_⟩
  · refine ⟨fun pins s' σ H' D I h' => ?_⟩
    obtain ⟨E, hW, h1, h2, h3⟩ := h'
    have hp := fun p1 p2 => act W pn xe E p1 p2 tk hW
    exact (pss_one (ps_ret (pe_lstS (pa_cons pe_str (pa_cons (hp _ _) pa_nil))))).run pins s' σ H' D I ⟨h1, h2, h3⟩
  · refine ⟨Tells X.K Q, fun cls d σ' H' ls z => ?_, rfl, hc, h⟩
    have st : ∀ a : Addr, (σ'.set 1 (some (.ref a)))[1]? = some (some (.ref a)) := fun a => List.getElem?_set_self (by rw [ls]; decide)
    have lt : ∀ {x y : V}, [x, y].length ≤ sizeLine := fun {x y} => by
      show 2 ≤ sizeLine
      decide
    cases z with
    | brk h q => exact ⟨true, T.ex_Broken_Broken, fun _ a _ => ⟨.ref a, st a, rfl, rfl, _, _, _, rfl, h, rfl, lt, q⟩, fun z => Bool.noConfusion z⟩
    | num h q => exact ⟨false, T.ex_InvalidNumber_Broken, fun z => Bool.noConfusion z, fun _ => ⟨true, T.ex_InvalidNumber_InvalidNumber, fun _ a _ => ⟨.ref a, st a, rfl, rfl, _, _, _, rfl, h, rfl, lt, q⟩, fun z => Bool.noConfusion z⟩⟩
    | ind h q => exact ⟨false, T.ex_InvalidIndex_Broken, fun z => Bool.noConfusion z, fun _ => ⟨false, T.ex_InvalidIndex_InvalidNumber, fun z => Bool.noConfusion z, fun _ => ⟨true, T.ex_InvalidIndex_InvalidIndex, fun _ a _ => ⟨.ref a, st a, rfl, rfl, _, _, _, rfl, h, rfl, lt, q⟩, fun z => Bool.noConfusion z⟩⟩⟩
    | unk h q => exact ⟨false, T.ex_UnknownName_Broken, fun z => Bool.noConfusion z, fun _ => ⟨false, T.ex_UnknownName_InvalidNumber, fun z => Bool.noConfusion z, fun _ => ⟨false, T.ex_UnknownName_InvalidIndex, fun z => Bool.noConfusion z, fun _ => ⟨true, T.ex_UnknownName_UnknownName, fun _ a _ => ⟨.ref a, st a, rfl, rfl, _, _, _, rfl, h, rfl, lt, q⟩, fun z => Bool.noConfusion z⟩⟩⟩⟩
    | und q => exact ⟨false, T.ex_NothingToUndo_Broken, fun z => Bool.noConfusion z, fun _ => ⟨false, T.ex_NothingToUndo_InvalidNumber, fun z => Bool.noConfusion z, fun _ => ⟨false, T.ex_NothingToUndo_InvalidIndex, fun z => Bool.noConfusion z, fun _ => ⟨false, T.ex_NothingToUndo_UnknownName, fun z => Bool.noConfusion z, fun _ => ⟨true, T.ex_NothingToUndo_NothingToUndo, fun _ a _ => ⟨lt, q⟩, fun z => Bool.noConfusion z⟩⟩⟩⟩⟩
/-- _law_came(lambda: body), in a frame whose code object has a table -/
def tCame (T : LTabs) (t : XK → TE) : Fr0 → TE := fun K σ H Q => Tabs2 T H ∧ ∀ H1, ExtN H H1 → Tabs2 T H1 → TCame K (fun E H' Q' => t E σ H' Q') H1 Q
theorem pe_came {X : Cx} {TT : LTabs} {c PT : Addr} {nest : Bool} {k : Nat} {params : Arguments} {body : Expr} {scope : Scope} {t : XK → TE} {p lpos pos : Pos} (T : Tx X.K X.mg) (hg : Gl X "_law_came")
    (TB : TabB X.base X.mg c PT) (hcode : X.env.code = .ref c) (hmT : (PT, X.env.qual ++ "<lambda>", nest) ∈ TT) (hu : ∀ p ∈ TT, p.1 = PT → p.2 = (X.env.qual ++ "<lambda>", nest)) (hr : Room (k + 2) X.A) (L : LamP X.env.scope scope []) (hdef : defaultsOf params X.env = ([], []))
    (hbind : ∀ (q : Str) (cl : List (Str × Addr)) (pm cv ctv : Value), bindArgs (PySem.W.kla_fn "<lambda>" q params body scope cl pm cv ctv) ⟨[], []⟩ = pure [])
    (hbody : ∀ (A : Around) (outer : List Env) (s : Shared) (H : Hp) (E : XK) (f c' P' : Addr), Room k (A.deeper (lamEnv X scope s.heap.objs.size f c')) → PE (lamCxP X A outer s H E scope f c' []) body (t E)) :
    PE X (.Call (.Name "_law_came" p) [.Lambda params body scope lpos] [] pos) (tCame TT t X.K) := by
  refine ⟨fun pins s σ H Q I h => ?_⟩
  obtain ⟨hT, h⟩ := h
  obtain ⟨fd, F⟩ := T.fd_q_came
  obtain ⟨oc, od, dV, kV, doc, pm, an, cdv, ct, osl, rfl, lk, hcg, _, _⟩ := F.ex
  refine wpAny_Call_Name_kw (ld_glob I hg T.g_q_came ?_ (by decide))
  refine PySem.W.callWith_K (h₀ := X.base) I.ok.mod.kin F.kp ?_ (by rfl) (by rfl)
  show wpAny _ _ (spliced ((false, eval (.Lambda params body scope lpos) X.env) :: backTo pos (starEach [] X.env))) _ _ s
  refine Calls.spliced_cons (lam_mk2 I (TabN.of I TB) hcode hmT hu hT hdef (L.has I.ok) fun f c' P' pm' ctv H1 s' I1 eN T1 hf hfn hfr hco hts => ?_)
  refine Calls.spliced_nil ⟨I1.kIn, ?_⟩
  have rc : codeAny (model X.prog X.w) X.A (.call (.ref (ad X.K "_law_came")) ⟨[.ref f], []⟩) (CR CX0 X.stack X.prog X.w H1 s' Q E0) s' := by
    refine run_ofS (N := N_q_came) (ps := ["_law_act"]) (us := [.ref f]) (vs := [.ref f]) lk hcg sc_q_came hr I1.env0 ?_ (.cons rfl .nil) rfl fun hr' => ?_
    · exact (F.bindsN (ps := ["_law_act"]) fun _ _ _ _ _ _ us hl => match us, hl with | [_], _ => rfl) s' [.ref f] I1.kIn rfl
    · obtain ⟨t', ht', hq'⟩ := came_body (X := X) (f := f) (c' := c') (co := CodeO2 c' (X.env.qual ++ "<lambda>") P') (tl := fun E H' Q' => t E σ H' Q') T
        (fun W pn xe E p1 p2 tk hW => pe_act0 (i := 0) I1 L hf hfn hfr (hbind _ _ _ _ _) (codK2 _ _ _) tk hW hr' (fun A outer s H hr2 => hbody A outer s H E f c' P' hr2) rfl (.inl rfl)) hco (h H1 eN T1)
      exact ⟨t', ht'.nox, hq'⟩
  refine wpAny_call (codeAny_mono rc fun r s2 hq => ?_)
  cases r with
  | error e => exact (show False from hq).elim
  | ok fl =>
    cases fl with
    | ret u => exact I1.after hq
    | next => exact False.elim hq
    | brk => exact False.elim hq
    | cont => exact False.elim hq
end
end
section
/-! A store's trial of a lambda, within a lambda. -/
open PySem PySem.Spec PyProof.Rows L2 LamX
abbrev N_Store_tried : List Str := ["self", "action", "held"]
abbrev P_Store_tried : List Str := ["self", "action"]
theorem sc_Store_tried : FnScope N_Store_tried P_Store_tried (defScope s_Store_tried) := ⟨rfl, rfl, rfl, by decide +kernel, rfl, by decide +kernel, by decide +kernel⟩
/-- the lambda's own table, from what is tracked -/
theorem TabN.inner {Y : Cx} {pins : List (Addr × Obj)} {σ : L2.St} {H : Hp} {s : Shared} {c PT c' P' : Addr} {q : Str} {ps : Array Value} (I : Inv Y pins σ H s) (TB : TabB Y.base Y.mg c PT) (hc : H c' = some (CodeO2 c' q P')) (hP : H P' = some (.tbl ps)) : TabN s Y.mg c' P' := by
  obtain ⟨⟨hcd, _⟩, _, _⟩ := I.hok c' _ hc
  refine ⟨hcd, ?_, fun z => ?_⟩
  · obtain ⟨bm, ob, hbm, hne0, hneG, hneP, hbo, h1, h2, h3⟩ := TB.bm
    have n : bm ≠ P' := fun z => by
      have h0 := (I.bs bm ob hbo).2
      rw [z, hP] at h0
      cases h0
    exact ⟨bm, ob, hbm, hne0, hneG, n, I.bk _ _ hbo, h1, h2, h3⟩
  · obtain ⟨ob, es, ep, ho, _⟩ := I.ok.mod.glob
    have h0 := (I.bs _ ob ho).2
    rw [z, hP] at h0
    cases h0
/-- what a trial makes of the action's reading -/
def TTried (K : Fr0) (x : Addr) (tl : V → Hp → VK → Prop) (H1 : Hp) (Q : VK) : Prop := ∃ ds bo ss, H1 x = some (.ins (ad K "Store") ds (storeF bo ss)) ∧
  ∀ (y m : Addr) (H3 : Hp) (R : VK), H1 y = none → H1 m = none → m ≠ y → Same H1 H3 → (∃ dt fs, H3 y = some (.ins (ad K "Trial") dt fs)) → (∃ dm fs, H3 m = some (.ins (ad K "Mark") dm fs)) →
    (∀ v H4, Only [x] H3 H4 → (∃ s1, H4 x = some (.ins (ad K "Store") ds (storeF bo s1))) → (∀ H5, (∀ b o, b ≠ x → b ≠ y → H4 b = some o → H5 b = some o) → H5 x = some (.ins (ad K "Store") ds (storeF bo ss)) → Q v H5) → R v H4) → tl (.ref x) H3 R
section
variable {P : Program} {w : World} {K : Fr0} {mg : Str → Option Value} {base : Heap}
theorem tried_body {Y : Cx} {g f c2 : Addr} {cdg : Value} {co : HO} {s : Shared} {H : Hp} {Q : VK} {x : Addr} {tl : V → Hp → VK → Prop} (T : Tx Y.K Y.mg) (hr : Room 4 (Y.A.deeper (envOfC "Store.tried" (defScope s_Store_tried) s.heap.objs.size g cdg))) (hk : (tag co == 11) = true)
    (act : ∀ (p1 p2 p3 : Pos), PE (cxOf CX0 Y.prog Y.w Y.K Y.mg Y.base N_Store_tried "Store.tried" (defScope s_Store_tried) g cdg Y.A Y.stack s H E0).nox (.Call (.Name "action" p1) [.Name "held" p3] [] p2)
      (fun σZ HZ Q => σZ[1]? = some (some (.ref f)) ∧ tVar 2 σZ HZ fun v H1 => H1 c2 = some co ∧ tl v H1 Q))
    (hc : H c2 = some co) (h : TTried Y.K x tl H Q) :
    ∃ t, PSs (cxOf CX0 Y.prog Y.w Y.K Y.mg Y.base N_Store_tried "Store.tried" (defScope s_Store_tried) g cdg Y.A Y.stack s H E0).nox (defBody s_Store_tried) t ∧ t { nx := fun _ H' => Q .non H', rt := Q } (start N_Store_tried [.ref x, .ref f]) H := by
  obtain ⟨ds, bo, ss, hx, h⟩ := h
  refine ⟨_, pss_one (ps_with (i := 2) (pe_mt0 (pv 0) T.cl_Store T.me_Store_trial (ok_Store_trial T) (hr.mono (by decide)) pass0) T.me_Trial_enter T.me_Trial_exit (ok_Trial_enter T) (ok_Trial_exit T) (hr.mono (by decide)) (hr.mono (by decide))
    sc_Store_tried.nd rfl (.inl rfl) (pss_one (ps_ret (act _ _ _)))), ?_⟩
  refine ⟨.ref x, rfl, x, ds, _, rfl, hx, rfl, _, rfl, x, rfl, fun y d H1 ny S1 ey => ?_⟩
  refine ⟨y, d, _, rfl, ey, _, rfl, y, d, x, .non, ad Y.K "Store", ds, bo, ss, rfl, ey, S1 _ _ hx, rfl, fun m dm H2 nm C2 em ey2 => ?_⟩
  have nmy : m ≠ y := (ne_of_none ey nm).symm
  have nyx : y ≠ x := (ne_of_none hx ny).symm
  have nmx : m ≠ x := (ne_of_none (S1 _ _ hx) nm).symm
  have S2 : Same H H2 := Same.newc C2 S1 ny
  have nm0 : H m = none := free_of nm S1
  refine ⟨rfl, .ref x, rfl, C2 _ _ (fun z => ?_) (S1 _ _ hc), ?_⟩
  · rw [z, ny] at hc
    cases hc
  · refine h y m H2 _ ny nm0 nmy S2 ⟨_, _, ey2⟩ ⟨_, _, em⟩ fun v H4 O4 hx4 q => ?_
    obtain ⟨s1, hx4⟩ := hx4
    have ey4 := O4 y _ (by rw [List.mem_singleton]; exact nyx) ey2
    have em4 := O4 m _ (by rw [List.mem_singleton]; exact nmx) em
    refine ⟨.ref y, .non, .non, .non, rfl, y, d, x, m, dm, ds, bo, s1, ss, .non, rfl, ey4, hx4, em4, nyx, nmx, nmy, fun H5 H6 C5 C6 e6 _ => ?_⟩
    exact q H6 (fun b o n1 n2 hb => C6 b o n2 (C5 b o n1 hb)) e6
/-- s.tried(lambda x: body), in a lambda's frame -/
def tTried (TT : LTabs) (c' P' : Addr) (q q2 : Str) (to tb : TE) : Fr0 → TE := fun K σ H Q => to σ H fun v H0 => ∃ x dx fs, v = .ref x ∧ H0 x = some (.ins (ad K "Store") dx fs) ∧ fs.lookup ("tried" : Str) = none ∧ Tabs2 TT H0 ∧ H0 c' = some (CodeO2 c' q P') ∧ P' ∉ TT.map (·.1) ∧ TabS H0 P' q2 ∧
  ∀ H1, ExtN H0 H1 → Tabs2 TT H1 → TTried K x (fun v H Q => tb (σ ++ [some v]) H Q) H1 Q
theorem pe_tried {Y : Cx} {TT : LTabs} {c PT c' P' : Addr} {q : Str} {k : Nat} {o : Expr} {to tb : TE} {x : Str} {params : Arguments} {body : Expr} {scope : Scope} {lpos apos pos : Pos} {pl : Sem Bool}
    (T : Tx Y.K Y.mg) (TB : TabB Y.base Y.mg c PT) (hcode : Y.env.code = .ref c') (hone : ∀ p ∈ TT, p.2.2 = true → subQ p.2.1 = Y.env.qual ++ "<lambda>") (ho : PE Y o to) (hk4 : 4 ≤ k + 1) (hr : Room (k + 2) Y.A) (L : LamP Y.env.scope scope [x]) (dj : x ∉ Y.N) (hdef : defaultsOf params Y.env = ([], []))
    (hbind : ∀ (q : Str) (cl : List (Str × Addr)) (pm cv ctv u : Value), bindArgs (PySem.W.kla_fn "<lambda>" q params body scope cl pm cv ctv) ⟨[u], []⟩ = pure [(x, u)])
    (hbody : ∀ (A : Around) (outer : List Env) (s : Shared) (H : Hp) (f c2 : Addr), Room k (A.deeper (lamEnv Y scope s.heap.objs.size f c2)) → PE (lamCxP Y A outer s H E0 scope f c2 [x]) body tb)
    (ht : eval (.Call (.Attribute o "tried" apos) [.Lambda params body scope lpos] [] pos) Y.env = (do
      let ov ← eval o Y.env
      standAt apos.atName
      let (g, first) ← holding [ov] (getMethod ov "tried" pl)
      callWith pos g first (backTo pos (starEach [.Lambda params body scope lpos] Y.env)) (backToKw pos (keywordEach [] Y.env))) := by rfl) :
    PE Y (.Call (.Attribute o "tried" apos) [.Lambda params body scope lpos] [] pos) (tTried TT c' P' q (Y.env.qual ++ "<lambda>") to tb Y.K) := by
  refine ⟨fun pins s σ H Q I h => ?_⟩
  obtain ⟨fd, F⟩ := T.fd_Store_tried
  obtain ⟨oc, od, dV, kV, doc, pm, an, cdv, ct, osl, rfl, lk, hcg, _, _⟩ := F.ex
  refine PySem.W.methodCall_KW (pl := pl) (thn (ho.run pins s σ H _ I h) fun u s1 r => ?_) ht
  obtain ⟨v, H0, I0, rx, z, dx, fs, ez, ea, l, hT, hc, hnN, hts, q⟩ := r
  subst ez
  cases (show u = Value.ref z from rx)
  refine getmeth_ok I0 ea T.cl_Store T.me_Store_tried l ?_
  refine PySem.W.callWith_K (first := [.ref z]) (h₀ := Y.base) I0.ok.mod.kin T.me_Store_tried.kp ?_ (by rfl) (by rfl)
  show wpAny _ _ (spliced ((false, eval (.Lambda params body scope lpos) Y.env) :: backTo pos (starEach [] Y.env))) _ _ s1
  have hts2 := hts
  obtain ⟨ps0, hP0, _⟩ := hts2
  refine Calls.spliced_cons (lam_mk1 I0 (TabN.inner I0 TB hc hP0) hcode hts hnN hone hT hdef (L.has I0.ok) fun f c2 pm' ctv H1 s' I1 eN T1 hf hfn hfr hco => ?_)
  refine Calls.spliced_nil ⟨I1.kIn, ?_⟩
  have rc : codeAny (model Y.prog Y.w) Y.A (.call (.ref (am Y.K "Store" "tried")) ⟨[.ref z, .ref f], []⟩) (CR CX0 Y.stack Y.prog Y.w H1 s' Q E0) s' := by
    refine run_ofS (N := N_Store_tried) (ps := P_Store_tried) (us := [.ref z, .ref f]) (vs := [.ref z, .ref f]) lk hcg sc_Store_tried hr I1.env0 ?_ (.cons rfl (.cons rfl .nil)) rfl fun hr' => ?_
    · exact (F.bindsN (ps := P_Store_tried) fun _ _ _ _ _ _ us hl => match us, hl with | [_, _], _ => rfl) s' [.ref z, .ref f] I1.kIn rfl
    · obtain ⟨t', ht', hq'⟩ := tried_body (Y := Y) (f := f) (c2 := c2) (co := CodeO c2 (Y.env.qual ++ "<lambda>")) (tl := fun v H Q => tb (σ ++ [some v]) H Q) T (hr'.mono hk4) rfl
        (fun p1 p2 p3 => pe_act1 (pn := []) (xe := fun _ _ => False) (i := 1) (E := E0) (W := fun _ _ _ _ => False) I1 L dj hf hfn hfr (fun u => hbind _ _ _ _ _ u) (codK1 _ _) LamX.takes0 (fun _ _ _ _ _ z => z) hr' (fun A outer s H hr2 => hbody A outer s H f c2 hr2) rfl (.inl rfl) (pv 2)) hco (q H1 eN T1)
      exact ⟨t', ht'.nox, hq'⟩
  refine wpAny_call (codeAny_mono rc fun r s2 hq => ?_)
  cases r with
  | error e => exact (show False from hq).elim
  | ok fl =>
    cases fl with
    | ret u => exact I1.after hq
    | next => exact False.elim hq
    | brk => exact False.elim hq
    | cont => exact False.elim hq
end
end
section
/-! The defs that make lambdas: their code objects and tables; what stays while tables grow. -/
open PySem PySem.Spec PyProof.Rows L2 LamX
abbrev dS : He.Defn := ("_law_store_step", none)
abbrev dB : He.Defn := ("_law_book_step", none)
abbrev dI : He.Defn := ("Book", some "__setitem__")
def TTab (K : Fr0) : LTabs := [((He.cT K dS).2, ("_law_store_step" : Str) ++ ".<locals>." ++ "<lambda>", true), ((He.cT K dB).2, ("_law_book_step" : Str) ++ ".<locals>." ++ "<lambda>", false), ((He.cT K dI).2, ("Book.__setitem__" : Str) ++ ".<locals>." ++ "<lambda>", false)]
theorem mS (K : Fr0) : ((He.cT K dS).2, ("_law_store_step" : Str) ++ ".<locals>." ++ "<lambda>", true) ∈ TTab K := List.mem_cons_self ..
theorem mB (K : Fr0) : ((He.cT K dB).2, ("_law_book_step" : Str) ++ ".<locals>." ++ "<lambda>", false) ∈ TTab K := List.mem_cons_of_mem _ (List.mem_cons_self ..)
theorem mI (K : Fr0) : ((He.cT K dI).2, ("Book.__setitem__" : Str) ++ ".<locals>." ++ "<lambda>", false) ∈ TTab K := List.mem_cons_of_mem _ (List.mem_cons_of_mem _ (List.mem_cons_self ..))
structure Tt (K : Fr0) (mg : Str → Option Value) (base : Heap) : Prop where
  s : TabB base mg (He.cT K dS).1 (He.cT K dS).2
  b : TabB base mg (He.cT K dB).1 (He.cT K dB).2
  i : TabB base mg (He.cT K dI).1 (He.cT K dI).2
  n1 : (He.cT K dS).2 ≠ (He.cT K dB).2
  n2 : (He.cT K dS).2 ≠ (He.cT K dI).2
  n3 : (He.cT K dB).2 ≠ (He.cT K dI).2
section
variable {K : Fr0} {mg : Str → Option Value} {base : Heap}
theorem Tt.uS (t : Tt K mg base) : ∀ p ∈ TTab K, p.1 = (He.cT K dS).2 → p.2 = (("_law_store_step" : Str) ++ ".<locals>." ++ "<lambda>", true) := by
  intro p hp e
  simp only [TTab, List.mem_cons, List.not_mem_nil, or_false] at hp
  rcases hp with rfl | rfl | rfl
  · rfl
  · exact absurd e.symm t.n1
  · exact absurd e.symm t.n2
theorem Tt.uB (t : Tt K mg base) : ∀ p ∈ TTab K, p.1 = (He.cT K dB).2 → p.2 = (("_law_book_step" : Str) ++ ".<locals>." ++ "<lambda>", false) := by
  intro p hp e
  simp only [TTab, List.mem_cons, List.not_mem_nil, or_false] at hp
  rcases hp with rfl | rfl | rfl
  · exact absurd e t.n1
  · rfl
  · exact absurd e.symm t.n3
theorem Tt.uI (t : Tt K mg base) : ∀ p ∈ TTab K, p.1 = (He.cT K dI).2 → p.2 = (("Book.__setitem__" : Str) ++ ".<locals>." ++ "<lambda>", false) := by
  intro p hp e
  simp only [TTab, List.mem_cons, List.not_mem_nil, or_false] at hp
  rcases hp with rfl | rfl | rfl
  · exact absurd e t.n2
  · exact absurd e t.n3
  · rfl
theorem Tt.one : ∀ p ∈ TTab K, p.2.2 = true → subQ p.2.1 = (("_law_store_step" : Str) ++ ".<locals>." ++ "<lambda>") ++ ".<locals>." ++ "<lambda>" := by
  intro p hp e
  simp only [TTab, List.mem_cons, List.not_mem_nil, or_false] at hp
  rcases hp with rfl | rfl | rfl
  · rfl
  · cases e
  · cases e
end
/-- a def whose code object is known -/
theorem fnrT {P : Program} {w : World} {K : Fr0} {mg : Str → Option Value} {base : Heap} {x qual : Str} {params : Arguments} {body : List Stmt} {scope : Scope} {f : Addr} {fd : FuncData} {CX : CXT} {N ps : List Str} {k : Nat} {sp : Sp} (p : He.Defn) (hp : He.fAd K p = f)
    (F : FunD K x qual params body scope [] [] f fd)
    (hb : ∀ (kV doc pm : Value) (an : Option Addr) (cdv ct : Value) (us : List Value), us.length = ps.length → bindArgs (PySem.W.fnOf x qual params body scope .none kV doc pm an cdv ct) ⟨us, []⟩ = pure (ps.zip us))
    (S : FnScope N ps scope) (len : ∀ vs H Q E, sp vs H Q E → vs.length = ps.length)
    (hbody : ∀ (A : Around) (outer : List Env) (s : Shared) (H : Hp) (vs : List V) (Q : VK) (E : XK), Room k (A.deeper (envOfC qual scope s.heap.objs.size f (.ref (He.cT K p).1))) → sp vs H Q E →
      ∃ t, PSs (cxOf CX P w K mg base N qual scope f (.ref (He.cT K p).1) A outer s H E) body t ∧ t { nx := fun _ H' => Q .non H', rt := Q } (start N vs) H) : FnR P w K mg base CX (k + 1) f sp := by
  have F' := F
  obtain ⟨oc, od, dV, kV, doc, pm, an, cdv, ct, osl, e, lk, hcd, _, _⟩ := F'.ex
  obtain ⟨c, rfl⟩ := He.codeIn_ref hcd
  have hc : (He.cT K p).1 = c := He.codeOf_eq (by rw [hp]; exact lk) (by rw [e])
  subst e
  refine (FnOk.raw (fn_of lk hcd S len fun A outer s H vs Q E hr hsp => ?_) (F.bindsN hb) .nil).imp fun vs H Q E h => by
    rw [List.append_nil]
    exact h
  rw [← hc] at hr ⊢
  exact hbody A outer s H vs Q E hr hsp
/-! ### what stays -/
theorem ext_k {H H' : Hp} (S : ExtN H H') : ∀ b o, (kindP o || kindR o || kindB o || kindS o || tag o == 0 || tag o == 9 || tag o == 6 || tag o == 11) = true → H b = some o → H' b = some o := fun b o t h => S b o h fun ps z => by
  subst z
  cases t
section
variable {K : Fr0} {av : Addr → Prop} {H H' : Hp} {x a : Addr}
theorem sm_FA (S : Same H H') (f : FA av H) : FA av H' := f.same S
theorem ex_hp {o : HO} (S : ExtN H H') (h : H a = some o) (t : (tag o == 10) = false) : H' a = some o := S a o h fun ps z => by
  subst z
  cases t
theorem ex_T {xs : List V} (S : ExtN H H') (h : SqT K H a xs) : SqT K H' a xs := sqT_keep (fun b o t => ext_k S b o (by rw [t]; rfl)) h
theorem ex_P {v : V} {du : Duo} (S : ExtN H H') (h : PairV K H v du) : PairV K H' v du := pair_keep (fun b o t => ext_k S b o (by rw [t]; rfl)) h
theorem ex_Dp {v : V} {d : PyData} (S : ExtN H H') (h : Dp K H v d) (t : tupO d = true) : Dp K H' v d := dp_keep (fun b o t => ext_k S b o (by rw [t]; rfl)) d v t h
theorem ex_L {xs : List V} (S : ExtN H H') (h : SqL K H a xs) : SqL K H' a xs := by
  rcases h with (h | ⟨o, h⟩) | h
  · exact .inl (.inl (ext_k S _ _ rfl h))
  · exact .inl (.inr ⟨o, ext_k S _ _ rfl h⟩)
  · exact .inr h
theorem ex_St {du : Duo} {tk : Bool} {row : List Int} (S : ExtN H H') (h : StoreAt K av H x du tk row) : StoreAt K av H' x du tk row := h.keep (fun b o t => ext_k S b o (by rw [t]; simp)) fun b xs _ => ext_k S b _ rfl
theorem ex_Bk {pages : List Pg} (S : ExtN H H') (h : BookAt K H x pages) : BookAt K H' x pages := h.keep fun b o t => ext_k S b o (by rw [t]; simp)
theorem ex_En {es : List (Str × Duo)} (S : ExtN H H') (h : EntsAt K H x es) : EntsAt K H' x es := ents_keep (fun b o t => ext_k S b o (by rw [t]; rfl)) h
theorem ex_FA (S : ExtN H H') (h : FA av H) (t : ∀ b, (∃ ps, H b = some (.tbl ps)) → H' b ≠ none) : FA av H' := fun p n => h p (by
  cases e : H p with
  | none => rfl
  | some o =>
    by_cases c : ∃ ps, o = .tbl ps
    · obtain ⟨ps, rfl⟩ := c
      exact absurd n (t p ⟨ps, e⟩)
    · rw [S p o e fun ps z => c ⟨ps, z⟩] at n
      cases n)
end
/-- all but what S names and the tables stays -/
def FrN (S : List Addr) (H H' : Hp) : Prop := ∀ b o, b ∉ S → H b = some o → (∀ ps, o ≠ .tbl ps) → H' b = some o
theorem FrN.refl (S : List Addr) (H : Hp) : FrN S H H := fun _ _ _ h _ => h
theorem FrN.trans {S : List Addr} {H H1 H2 : Hp} (a : FrN S H H1) (b : FrN S H1 H2) : FrN S H H2 := fun c o n h t => b c o n (a c o n h t) t
theorem FrN.mono {S S' : List Addr} {H H1 : Hp} (a : FrN S H H1) (m : ∀ x ∈ S, x ∈ S') : FrN S' H H1 := fun c o n h t => a c o (fun z => n (m c z)) h t
theorem FrN.ext {S : List Addr} {H H1 : Hp} (a : ExtN H H1) : FrN S H H1 := fun c o _ h t => a c o h t
theorem FrN.same {S : List Addr} {H H1 : Hp} (a : Same H H1) : FrN S H H1 := fun c o _ h _ => a c o h
theorem FrN.chg {S : List Addr} {H H1 : Hp} {x : Addr} (a : Chg x H H1) (m : x ∈ S) : FrN S H H1 := fun c o n h _ => a c o (fun z => n (z ▸ m)) h
end
section
/-! A pair put into the book. -/
open PySem PySem.Spec PyProof.Rows L2 LamX
/-- a comprehension whose parts change nothing, told by the place -/
theorem LcG.idx {J : It} {n : Nat} {G : Hp → Prop} {Y : Nat → Hp → V → Hp → Prop} {g : TG} {tt : TT} {te : TE} {vs : List Nat} {σ : L2.St} {H1 : Hp} {Q : VK} (w : Walk J n G Y) (hz : n < 100000) (hG : ∀ H', Same H1 H' → G H') (h : Nat → Option V)
    (hs : ∀ (i : Nat) (x : V) (H H' : Hp) (Y2 : VK) (N : Hp → Prop), i < n → Same H1 H → Y i H x H' → (∀ y H4, h i = some y → Same H H4 → Y2 y H4) → (∀ H3, h i = none → Same H H3 → N H3) →
      g x (wipe σ vs) H' fun σ2 H2 => wipe σ2 vs = wipe σ vs ∧ tt σ2 H2 fun b H3 => if b = true then te σ2 H3 Y2 else N H3)
    (hq : ∀ D H', H1 D = none → Same H1 H' → H' D = some (.lst ((List.range n).filterMap h)) → Q (.ref D) H') : LcG J g tt te vs σ H1 Q := by
  intro D hD
  refine lc_it w (fun i H => Same H1 H ∧ H D = some (.lst ((List.range i).filterMap h))) ⟨Same.of_new hD, by rw [upd_same]; rfl⟩ (fun i H _ p => hG H p.1) (fun i x H H' hi p y => ?_) fun H p => hq D H hD p.1 p.2
  obtain ⟨p1, p2⟩ := p
  have hr : (List.range (i + 1)).filterMap h = (List.range i).filterMap h ++ (h i).toList := by
    rw [List.range_succ, List.filterMap_append]
    cases e : h i with
    | none => rw [List.filterMap_cons_none e]; rfl
    | some y => rw [List.filterMap_cons_some e]; rfl
  refine hs i x _ _ _ _ hi p1 y (fun y H4 e4 s4 => ⟨_, s4 _ _ p2, ?_, ?_, ?_⟩) (fun H3 e3 s3 => ⟨fun b o hb => s3 b o (p1 b o hb), ?_⟩)
  · have l1 := List.length_filterMap_le h (List.range i)
    rw [List.length_range] at l1
    exact Nat.lt_of_lt_of_le (show _ < 100000 by omega) (by decide)
  · intro b o hb
    rw [upd_ne (ne_of_none hb hD)]
    exact s4 b o (p1 b o hb)
  · rw [upd_same, hr, e4]
    rfl
  · rw [s3 _ _ p2, hr, e3]
    simp
/-- in its place, or at the end -/
def putP (ps : List (Str × Duo)) (t : Str) (du : Duo) : List (Str × Duo) := if (ps.any fun p => decide (p.1 = t)) = true then ps.map (fun p => if p.1 = t then (p.1, du) else p) else ps ++ [(t, du)]
theorem put_lookup (ps : List (Str × Duo)) (t : Str) (du : Duo) (s : Str) : (putP ps t du).lookup s = if s = t then some du else ps.lookup s := by
  unfold putP
  by_cases c : (ps.any fun p => decide (p.1 = t)) = true
  · rw [if_pos c]
    induction ps with
    | nil => cases c
    | cons p r ih =>
      rw [List.map_cons]
      by_cases e : p.1 = t
      · rw [if_pos e, List.lookup_cons, List.lookup_cons]
        by_cases d : s = t
        · rw [if_pos d, show (s == p.1) = true from beq_iff_eq.mpr (d.trans e.symm)]
        · rw [if_neg d, show (s == p.1) = false from beq_eq_false_iff_ne.mpr (fun z => d (z.trans e))]
          by_cases c2 : (r.any fun p => decide (p.1 = t)) = true
          · have := ih c2
            rw [if_neg d] at this
            exact this
          · have hr : r.map (fun p => if p.1 = t then (p.1, du) else p) = r := by
              conv => rhs; rw [← List.map_id r]
              refine List.map_congr_left fun q hq => ?_
              rw [if_neg fun z => c2 (List.any_eq_true.mpr ⟨q, hq, decide_eq_true z⟩)]
              rfl
            rw [hr]
      · rw [if_neg e, List.lookup_cons, List.lookup_cons]
        have c2 : (r.any fun p => decide (p.1 = t)) = true := by
          rw [List.any_cons, decide_eq_false e, Bool.false_or] at c
          exact c
        by_cases d : s = p.1
        · rw [show (s == p.1) = true from beq_iff_eq.mpr d, if_neg (fun z => e (d.symm.trans z))]
        · rw [show (s == p.1) = false from beq_eq_false_iff_ne.mpr d]
          exact ih c2
  · rw [if_neg c, List.lookup_append]
    have hn : ps.lookup t = none := by
      cases e : ps.lookup t with
      | none => rfl
      | some d => exact absurd (List.any_eq_true.mpr ⟨_, mem_of_lookup e, decide_eq_true rfl⟩) c
    by_cases d : s = t
    · subst d
      rw [hn, if_pos rfl, List.lookup_cons, beq_self_eq_true]
      rfl
    · rw [if_neg d, List.lookup_cons, show (s == t) = false from beq_eq_false_iff_ne.mpr d]
      cases ps.lookup s <;> rfl
theorem put_keys (ps : List (Str × Duo)) (t : Str) (du : Duo) : (putP ps t du).map (·.1) = if t ∈ ps.map (·.1) then ps.map (·.1) else ps.map (·.1) ++ [t] := by
  unfold putP
  have hm : ((ps.any fun p => decide (p.1 = t)) = true) ↔ t ∈ ps.map (·.1) := by
    rw [List.any_eq_true, List.mem_map]
    exact ⟨fun ⟨p, h, e⟩ => ⟨p, h, of_decide_eq_true e⟩, fun ⟨p, h, e⟩ => ⟨p, h, decide_eq_true e⟩⟩
  by_cases c : t ∈ ps.map (·.1)
  · rw [if_pos (hm.mpr c), if_pos c, List.map_map]
    refine List.map_congr_left fun p _ => ?_
    show (if p.1 = t then (p.1, du) else p).1 = p.1
    split <;> rfl
  · rw [if_neg (fun z => c (hm.mp z)), if_neg c, List.map_append]
    rfl
theorem put_mem {ps : List (Str × Duo)} {t : Str} {du : Duo} {p : Str × Duo} (h : p ∈ putP ps t du) : p ∈ ps ∨ (p.1 = t ∧ p.2 = du) := by
  unfold putP at h
  split at h
  · obtain ⟨q, hq, e⟩ := List.mem_map.mp h
    by_cases c : q.1 = t
    · rw [if_pos c] at e
      subst e
      exact .inr ⟨c, rfl⟩
    · rw [if_neg c] at e
      subst e
      exact .inl hq
  · rcases List.mem_append.mp h with z | z
    · exact .inl z
    · rw [List.mem_singleton.mp z]
      exact .inr ⟨rfl, rfl⟩
theorem by1 (b : Addr × Str) : byKey [b] = [b] := by
  unfold byKey
  exact List.mergeSort_singleton ..
theorem by2 (a b : Addr) : byKey [(a, ("b2" : Str)), (b, ("own" : Str))] = [(a, ("b2" : Str)), (b, ("own" : Str))] := by
  have h : PySem.W.dataLe false (fun z : Addr × Str => PyData.str z.2) (a, ("b2" : Str)) (b, ("own" : Str)) = true := by with_unfolding_all rfl
  unfold byKey
  simp [List.mergeSort, List.MergeSort.Internal.splitInTwo, List.merge, h]
theorem by3 (a b : Addr) : byKey [(b, ("own" : Str)), (a, ("b2" : Str))] = [(a, ("b2" : Str)), (b, ("own" : Str))] := by
  have h : PySem.W.dataLe false (fun z : Addr × Str => PyData.str z.2) (b, ("own" : Str)) (a, ("b2" : Str)) = false := by with_unfolding_all rfl
  unfold byKey
  simp [List.mergeSort, List.MergeSort.Internal.splitInTwo, List.merge, h]
/-- the entries that bear another name -/
def othersZ (bs : List Addr) (es : List (Str × Duo)) (t : Str) : List (Addr × Str) := (bs.zip es).filterMap fun z => if z.2.1 = t then none else some (z.1, z.2.1)
theorem set_sorted {K : Fr0} {H : Hp} {bs : List Addr} {ps : List (Str × Duo)} {t : Str} {du : Duo} {b0 : Addr} (ht : TagS t) (hp : Paired (EntA K H) bs (entsM ps)) (h0 : EntA K H b0 (t, du)) :
    Paired (EntA K H) ((byKey (othersZ bs (entsM ps) t ++ [(b0, t)])).map (·.1)) (entsM (putP ps t du)) ∧ Paired (fun b k => ∃ pv, SqT K H b [.str k, pv]) ((othersZ bs (entsM ps) t ++ [(b0, t)]).map (·.1)) ((othersZ bs (entsM ps) t ++ [(b0, t)]).map (·.2)) := by
  have ob : ∀ {b : Addr} {p : Str × Duo}, EntA K H b p → ∃ pv, SqT K H b [.str p.1, pv] := fun ⟨pv, h, _⟩ => ⟨pv, h⟩
  have n1 : ¬ (("b2" : Str) = ("own" : Str)) := by decide
  have n2 : ¬ (("own" : Str) = ("b2" : Str)) := by decide
  unfold entsM at hp ⊢
  rw [put_lookup, put_lookup]
  rcases ht with rfl | rfl
  · rw [if_neg n1, if_pos rfl]
    cases e1 : ps.lookup ("b2" : Str) with
    | none =>
      rw [e1] at hp
      cases e2 : ps.lookup ("own" : Str) with
      | none =>
        rw [e2] at hp
        cases hp
        exact ⟨by
            rw [show othersZ [] _ ("own" : Str) ++ [(b0, ("own" : Str))] = [(b0, ("own" : Str))] from rfl, by1]
            exact .cons h0 .nil, .cons (ob h0) .nil⟩
      | some d =>
        rw [e2] at hp
        cases hp with
        | cons x y =>
          cases y
          exact ⟨by
            rw [show othersZ [_] _ ("own" : Str) ++ [(b0, ("own" : Str))] = [(b0, ("own" : Str))] from rfl, by1]
            exact .cons h0 .nil, .cons (ob h0) .nil⟩
    | some d1 =>
      rw [e1] at hp
      cases e2 : ps.lookup ("own" : Str) with
      | none =>
        rw [e2] at hp
        cases hp with
        | cons x y =>
          cases y
          exact ⟨by
            rw [show othersZ [_] _ ("own" : Str) ++ [(b0, ("own" : Str))] = [(_, ("b2" : Str)), (b0, ("own" : Str))] from rfl, by2]
            exact .cons x (.cons h0 .nil), .cons (ob x) (.cons (ob h0) .nil)⟩
      | some d =>
        rw [e2] at hp
        cases hp with
        | cons x y =>
          cases y with
          | cons z y =>
            cases y
            exact ⟨by
              rw [show othersZ [_, _] _ ("own" : Str) ++ [(b0, ("own" : Str))] = [(_, ("b2" : Str)), (b0, ("own" : Str))] from rfl, by2]
              exact .cons x (.cons h0 .nil), .cons (ob x) (.cons (ob h0) .nil)⟩
  · rw [if_neg n2, if_pos rfl]
    cases e1 : ps.lookup ("b2" : Str) with
    | none =>
      rw [e1] at hp
      cases e2 : ps.lookup ("own" : Str) with
      | none =>
        rw [e2] at hp
        cases hp
        exact ⟨by
            rw [show othersZ [] _ ("b2" : Str) ++ [(b0, ("b2" : Str))] = [(b0, ("b2" : Str))] from rfl, by1]
            exact .cons h0 .nil, .cons (ob h0) .nil⟩
      | some d =>
        rw [e2] at hp
        cases hp with
        | cons x y =>
          cases y
          exact ⟨by
            rw [show othersZ [_] _ ("b2" : Str) ++ [(b0, ("b2" : Str))] = [(_, ("own" : Str)), (b0, ("b2" : Str))] from rfl, by3]
            exact .cons h0 (.cons x .nil), .cons (ob x) (.cons (ob h0) .nil)⟩
    | some d1 =>
      rw [e1] at hp
      cases e2 : ps.lookup ("own" : Str) with
      | none =>
        rw [e2] at hp
        cases hp with
        | cons x y =>
          cases y
          exact ⟨by
            rw [show othersZ [_] _ ("b2" : Str) ++ [(b0, ("b2" : Str))] = [(b0, ("b2" : Str))] from rfl, by1]
            exact .cons h0 .nil, .cons (ob h0) .nil⟩
      | some d =>
        rw [e2] at hp
        cases hp with
        | cons x y =>
          cases y with
          | cons z y =>
            cases y
            exact ⟨by
              rw [show othersZ [_, _] _ ("b2" : Str) ++ [(b0, ("b2" : Str))] = [(_, ("own" : Str)), (b0, ("b2" : Str))] from rfl, by3]
              exact .cons h0 (.cons z .nil), .cons (ob z) (.cons (ob h0) .nil)⟩
theorem zip_split {α β : Type} : ∀ Z : List (α × β), (Z.map (·.1)).zip (Z.map (·.2)) = Z
  | [] => rfl
  | _ :: r => by
    rw [List.map_cons, List.map_cons, List.zip_cons_cons, zip_split r]
/-- what the comprehension keeps -/
def keepH (bs : List Addr) (es : List (Str × Duo)) (t : Str) (i : Nat) : Option V := match bs[i]?, es[i]? with
  | some b, some p => if p.1 = t then none else some (.ref b)
  | _, _ => none
theorem keep_others : ∀ {bs : List Addr} {es : List (Str × Duo)} {t : Str}, bs.length = es.length → (List.range bs.length).filterMap (keepH bs es t) = (othersZ bs es t).map fun z => V.ref z.1
  | [], [], _, _ => rfl
  | [], _ :: _, _, h => by cases h
  | _ :: _, [], _, h => by cases h
  | b :: bs, p :: es, t, h => by
    have ih := keep_others (bs := bs) (es := es) (t := t) (by simpa using h)
    rw [List.length_cons, List.range_succ_eq_map]
    have e0 : keepH (b :: bs) (p :: es) t 0 = if p.1 = t then none else some (.ref b) := rfl
    have e1 : ((List.range bs.length).map Nat.succ).filterMap (keepH (b :: bs) (p :: es) t) = (List.range bs.length).filterMap (keepH bs es t) := by
      rw [List.filterMap_map]
      rfl
    show List.filterMap _ (0 :: (List.range bs.length).map Nat.succ) = ((((b, p) :: bs.zip es).filterMap fun z => if z.2.1 = t then none else some (z.1, z.2.1)).map fun z => V.ref z.1)
    rw [List.filterMap_cons, List.filterMap_cons, e0, e1, ih]
    by_cases c : p.1 = t
    · simp only [if_pos c]
      rfl
    · simp only [if_neg c]
      rfl
local macro_rules | `(tactic| lcg_sub) => `(tactic| ((with_reducible apply sm_DpA); assumption; lcg_sub))
local macro_rules | `(tactic| lcg_sub) => `(tactic| ((with_reducible apply StoreAt.same); assumption; lcg_sub))
local macro_rules | `(tactic| lcg_sub) => `(tactic| ((with_reducible apply EntsAt.same); assumption; lcg_sub))
local macro_rules | `(tactic| lcg_sub) => `(tactic| ((with_reducible apply sm_FA); assumption; lcg_sub))
local macro_rules | `(tactic| lcg_sub) => `(tactic| ((with_reducible apply BookAt.same); assumption; lcg_sub))
section
variable {P : Program} {w : World} {K : Fr0} {mg : Str → Option Value} {base : Heap}
/-- an exception of the class C that bears v in its field f; tables may have grown -/
def BearsN (K : Fr0) (C : Addr) (f : Str) (v : V) (H : Hp) (E : XK) : Prop := ∀ d H2, FrN [] H H2 → Tabs2 (TTab K) H2 → H2 d = some (.xd [(f, v)]) → E (.ref C) (some d) H2
abbrev spBSet (K : Fr0) : Sp := s3 fun s n p H Q E => ∃ x ps, ∃ pg : Pg, ∃ t du, s = .ref x ∧ n = .str t ∧ BookAt K H x (ps ++ [pg]) ∧ PgOk pg ∧ ps.length ≤ 1000 ∧ TagS t ∧ PairV K H p du ∧ Duo.ok du ∧ Tabs2 (TTab K) H ∧
  (firstBad (putP pg.1 t du) pg.2 = none → ∀ H', FrN [x] H H' → Tabs2 (TTab K) H' → BookAt K H' x (ps ++ [pg, (putP pg.1 t du, pg.2)]) → Q .non H') ∧
  ∀ n : Nat, firstBad (putP pg.1 t du) pg.2 = some n → BearsN K (ad K "Broken") "index" (.int n) H E
abbrev N_Book_setitem : List Str := ["self", "name", "pair", "others", "entries", "entry"]
abbrev P_Book_setitem : List Str := ["self", "name", "pair"]
theorem sc_Book_setitem : FnScope N_Book_setitem P_Book_setitem (defScope s_Book_setitem) := ⟨rfl, rfl, rfl, by decide +kernel, rfl, by decide +kernel, by decide +kernel⟩
theorem ok_Book_setitem (T : Tx K mg) (TT : Tt K mg base) : FnR P w K mg base (L2.CX P w) 13 (am K "Book" "__setitem__") (spBSet K) := by
  obtain ⟨fd, F⟩ := T.fd_Book_setitem
  refine fnrT dI rfl F (fun _ _ _ _ _ _ us hl => match us, hl with | [_, _, _], _ => rfl) sc_Book_setitem (fun vs H Q E h => ?_) (fun A outer s H vs Q E hr h => ?_)
  · first | exact l1 h | exact l0 h | exact l2 h | exact l3 h | exact l4 h | exact l5 h | exact l6 h
  · have hu := hu_of hr
    refine ⟨_, (pss_cons (ps_expr (pe_fn (ok_check_name T) (hr.mono (by decide)) (by rfl) T.g_check_name T.k_check_name pass0 (pa_cons (pv 1) pa_nil)))
      (pss_cons (ps_expr (pe_fn (ok_check_pair T) (hr.mono (by decide)) (by rfl) T.g_check_pair T.k_check_pair pass0 (pa_cons (pv 2) pa_nil)))
      (pss_cons (ps_setLc (i := 3) (own := [("entry", 5)]) (g := gName 5)  rfl sc_Book_setitem.nd rfl rfl (sw_true rfl rfl rfl (by decide +kernel)) (pi_tup (pe_pr (pv 0) T.cl_Book T.pr_Book_entries (ok_Book_entries T) (hr.mono (by decide)))) (blkOk_by (N := N_Book_setitem) (sc := defScope s_Book_setitem) (by decide +kernel)) (fun _ _ _ _ _ => (pg_name (i := 5) sc_Book_setitem.nd rfl (Or.inl rfl))) (fun _ _ _ _ _ => (pts_one (pt_cmpR op_ne (pe_ix (r := rIxT K) ix_tup (pv 5) pe_int (fun _ _ => rfl)) (pv 1) (nomark _)))) (fun _ _ _ _ _ => (pv 5)))
      (pss_cons (ps_set (i := 4) sc_Book_setitem.nd rfl (Or.inl rfl) (pe_callTy call_TupD (by rfl) T.f_tuple boot_tupleT (pa_cons (pe_sortKey TT.i rfl (mI K) TT.uI (by rfl) T.f_sorted (hr.mono (by decide)) (pa_cons (pe_op op_Cats (pv 3) (pe_lstS (pa_cons (pe_tupS (pa_cons (pv 1) (pa_cons (pv 2) pa_nil))) pa_nil))) pa_nil) (lamP_by (sc := defScope s_Book_setitem) (by decide +kernel)) (by decide) rfl (fun _ _ _ _ _ _ => rfl)) pa_nil)))
      (pss_cons (ps_expr (pe_fn (ok_check_wishes T) (hr.mono (by decide)) (by rfl) T.g_check_wishes T.k_check_wishes (passes_call (takes_of rfl rfl rfl rfl) (fun _ _ _ _ h => h)) (pa_cons (pv 4) (pa_cons (pe_pr (pv 0) T.cl_Book T.pr_Book_wishes (ok_Book_wishes T) (hr.mono (by decide))) pa_nil))))
      (pss_one (ps_fldS (pv 0) (pe_op op_CatTs (pe_fld (pv 0) rfl) (pe_tupS (pa_cons (pe_tupS (pa_cons (pv 4) (pa_cons (pe_pr (pv 0) T.cl_Book T.pr_Book_wishes (ok_Book_wishes T) (hr.mono (by decide))) pa_nil))) pa_nil))) rfl))))))), ?_⟩
    try dsimp only [cxOf, Cx.nox, Cx.wish]
    obtain ⟨s, n, p, rfl, x, ps, pg, t, du, rfl, rfl, hb, ok, hln, ht, hp, hok, hT, q1, q2⟩ := h
    have c0 := T.cl_Book
    have c1 := T.na_Book_states
    obtain ⟨ds, tt, ss, st, e, wd, vs, h1, h2, h3, h4, h5, h6, h7⟩ := id hb.last
    lcg_src
    rename_i H0 S0 e1 he1
    obtain ⟨bs, z1, z2⟩ := id he1
    have hbl := z2.length
    have hel : (entsM pg.1).length ≤ 2 := (ents_ok ok.ok).ln
    have hp0 := sm_P S0 hp
    refine ⟨⟨_, z1.sq⟩, ?_⟩
    refine LcG.idx (walk_tup (K := K) (a := e1) (xs := bs.map V.ref)) (by rw [List.length_map]; omega) (fun H' S => sm_T S z1.sq) (keepH bs (entsM pg.1) t) (fun i v H2 H3 Y2 N hi S2 hy hq hn => ?_) (fun D H2 nD S2 hD => ?_)
    · obtain ⟨rfl, hv⟩ := hy
      rw [List.getElem?_map] at hv
      cases eb : bs[i]? with
      | none => rw [eb] at hv; cases hv
      | some b =>
        rw [eb] at hv
        cases hv
        obtain ⟨q, hqe, pv, y1, y2⟩ := paired_get z2 eb
        have y1' := sm_T S2 y1
        have hk : keepH bs (entsM pg.1) t i = if q.1 = t then none else some (.ref b) := by
          unfold keepH
          rw [eb, hqe]
        lcg_src
        by_cases c : q.1 = t
        · rw [decide_eq_true (show V.str q.1 = V.str t by rw [c])]
          exact hn _ (by rw [hk, if_pos c]) (by kas_types)
        · rw [decide_eq_false (fun z => c (V.str.inj z))]
          lcg_src
          exact hq _ _ (by rw [hk, if_neg c]) (by kas_types)
    · rw [List.length_map, keep_others hbl] at hD
      have hol : (othersZ bs (entsM pg.1) t).length ≤ 2 := by
        have z3 := List.length_filterMap_le (fun z : Addr × (Str × Duo) => if z.2.1 = t then none else some (z.1, z.2.1)) (bs.zip (entsM pg.1))
        rw [List.length_zip, hbl, Nat.min_self] at z3
        exact Nat.le_trans z3 hel
      unfold tSortKey
      lcg_src
      rename_i b0 G1 S3 y1 l1 G2 nl S4 y2
      refine ⟨by
        rw [List.length_map]
        exact Nat.le_trans (show _ ≤ 5000 by simp only [List.length_cons, List.length_nil]; omega) (by decide), fun l2 G3 nl2 S5 y3 => ?_⟩
      refine w_nil ?_
      have S03 : Same H0 G3 := ((S2.trans S3).trans S4).trans S5
      have SH3 := S0.trans S03
      have hp3 := sm_P S03 hp0
      have hz3 : Paired (EntA K G3) bs (entsM pg.1) := Paired.mapP z2 fun b q ⟨pv, u1, u2⟩ => ⟨pv, sm_T S03 u1, sm_P S03 u2⟩
      have h03 : EntA K G3 b0 (t, du) := ⟨p, sm_T (S4.trans S5) y1, hp3⟩
      obtain ⟨w1, w2⟩ := set_sorted ht hz3 h03
      refine ⟨l2, _, _, rfl, sq_L (by rw [y3, List.map_map, List.map_append]; rfl), w2, by rw [List.length_map, List.length_append]; simp only [List.length_cons, List.length_nil]; omega, hT.same SH3, fun l3 G4 G5 eN T4 nl3 S6 y4 => ?_⟩
      rw [zip_split] at y4
      refine w_nil ?_
      refine ⟨l3, _, rfl, sq_L y4, fun e2 G6 ne2 S7 he2 => ?_⟩
      have S46 := S6.trans S7
      have en6 : EntsAt K G6 e2 (entsM (putP pg.1 t du)) := ⟨(byKey (othersZ bs (entsM pg.1) t ++ [(b0, t)])).map (·.1), by rw [List.map_map]; exact he2, Paired.mapP w1 fun b q ⟨pv, u1, u2⟩ => ⟨pv, sm_T S46 (ex_T eN u1), sm_P S46 (ex_P eN u2)⟩⟩
      have hb6 : BookAt K G6 x (ps ++ [pg]) := (ex_Bk eN (hb.same SH3)).same S46
      have T6 := T4.same S46
      have F6 : FrN [x] H G6 := ((FrN.same SH3).trans (FrN.ext eN)).trans (FrN.same S46)
      have F06 : FrN [] H G6 := ((FrN.same SH3).trans (FrN.ext eN)).trans (FrN.same S46)
      have hx6 := S46 _ _ (eN _ _ (SH3 _ _ h1) fun ps z => by cases z)
      clear y1 y2 y3 y4 hD
      have eok : EsOk (entsM (putP pg.1 t du)) := ents_ok fun q hq => by
        rcases put_mem hq with z | ⟨_, z⟩
        · exact ok.ok q z
        · rw [z]
          exact hok
      have hall : ∀ wi ∈ pg.2, wi.ok ∧ ∃ du', (entsM (putP pg.1 t du)).lookup wi.tag = some du' := fun wi hw => by
        obtain ⟨k1, du', k2⟩ := ok.ws wi hw
        refine ⟨k1, ?_⟩
        rw [ents_lookup k1.tg, put_lookup]
        by_cases c : wi.tag = t
        · exact ⟨du, if_pos c⟩
        · exact ⟨du', by rw [if_neg c]; exact k2⟩
      have hfe : firstBad (entsM (putP pg.1 t du)) pg.2 = firstBad (putP pg.1 t du) pg.2 := first_ents fun wi hw => (ok.ws wi hw).1.tg
      have hl1000 : pg.2.length ≤ 1000 := by have := ok.ln; omega
      lcg_src
      rw [hfe]
      refine ⟨fun hn G7 S8 => ?_, fun n hn d G7 nd S8 ed => ?_⟩
      · obtain ⟨ds6, tt6, ss6, st6, e6, w6, vs6, k1, k2, k3, k4, k5, k6, k7⟩ := id hb6.last
        lcg_src
        rename_i e8 vs8 v1 v2 p9 G9 S9 f9 p10 G10 S10 f10
        refine ⟨by
          rw [List.length_append, List.length_map, k3.length]
          exact Nat.le_trans (show _ ≤ 5000 by simp only [List.length_cons, List.length_nil]; omega) (by decide), ?_⟩
        lcg_src
        rename_i p11 G11 S11 f11 G12 C12 f12
        have S9' : Same G7 G11 := (S9.trans S10).trans S11
        have S6b : Same G6 G11 := S8.trans S9'
        have x11 := S6b _ _ k1
        have bk := BookAt.push (pg2 := (putP pg.1 t du, pg.2)) k1 k3 ⟨e6, w6, vs6, k4, k5, k6, k7⟩ S6b (p3 := p9) ⟨e2, e8, vs8, sm_T (S10.trans S11) f9, en6.same S6b, sm_T S9' v1, sm_DpA S9' v2⟩ f11 C12 f12
        refine q1 hn G12 ((F6.trans (FrN.same S6b)).trans (FrN.chg C12 (List.mem_singleton.mpr rfl))) ((T6.same S6b).chg C12 x11 rfl) bk
      · exact q2 n hn d G7 (F06.trans (FrN.same S8)) (T6.same S8) ed
end
end
section
/-! Data that may be compared. -/
open PySem PySem.Spec PyProof.Rows L2
def OkD (n : Nat) (d : PyData) : Prop := d.canLay0 = true ∧ d.depth ≤ n
theorem OkD.mono {n m : Nat} {d : PyData} (h : OkD n d) (l : n ≤ m) : OkD m d := ⟨h.1, Nat.le_trans h.2 l⟩
theorem OkD.int {n : Nat} (i : Int) : OkD n (.int i) := ⟨by simp only [PyData.canLay0], by simp only [PyData.depth]; omega⟩
theorem OkD.bool {n : Nat} (i : Bool) : OkD n (.bool i) := ⟨by simp only [PyData.canLay0], by simp only [PyData.depth]; omega⟩
theorem OkD.none {n : Nat} : OkD n .none := ⟨by simp only [PyData.canLay0], by simp only [PyData.depth]; omega⟩
theorem OkD.str {n : Nat} {x : Str} (h : PyData.strOk x = true) : OkD n (.str x) := ⟨by simpa only [PyData.canLay0] using h, by simp only [PyData.depth]; omega⟩
theorem okD_all {n : Nat} : ∀ {ds : List PyData}, (∀ d ∈ ds, OkD n d) → PyData.canLayAll0 ds = true ∧ PyData.depthAll ds ≤ n
  | [], _ => ⟨by simp only [PyData.canLayAll0], by simp only [PyData.depthAll]; omega⟩
  | d :: r, h => by
    obtain ⟨h1, h2⟩ := h d (List.mem_cons_self ..)
    obtain ⟨h3, h4⟩ := okD_all (ds := r) fun e he => h e (List.mem_cons_of_mem _ he)
    exact ⟨by simp only [PyData.canLayAll0, h1, h3, Bool.and_self], by simp only [PyData.depthAll]; omega⟩
theorem OkD.lst {n : Nat} {ds : List PyData} (h : ∀ d ∈ ds, OkD n d) : OkD (n + 1) (.list ds) := by
  obtain ⟨h1, h2⟩ := okD_all h
  exact ⟨by simpa only [PyData.canLay0] using h1, by simp only [PyData.depth]; omega⟩
theorem OkD.tup {n : Nat} {ds : List PyData} (h : ∀ d ∈ ds, OkD n d) : OkD (n + 1) (.tuple ds) := by
  obtain ⟨h1, h2⟩ := okD_all h
  exact ⟨by simpa only [PyData.canLay0] using h1, by simp only [PyData.depth]; omega⟩
theorem OkD.sh {n : Nat} {d : PyData} (h : OkD n d) (l : n ≤ 64 := by decide) : SeqAt.shaped d = true := by
  unfold SeqAt.shaped
  rw [h.1, decide_eq_true (Nat.le_trans h.2 l)]
  rfl
theorem okD_nil {n : Nat} : ∀ d ∈ ([] : List PyData), OkD n d := fun d h => absurd h List.not_mem_nil
theorem okD_cons {n : Nat} {d : PyData} {ds : List PyData} (h : OkD n d) (t : ∀ e ∈ ds, OkD n e) : ∀ e ∈ d :: ds, OkD n e := fun e he => by
  rcases List.mem_cons.mp he with z | z
  · rw [z]
    exact h
  · exact t e z
theorem okD_ints {n : Nat} (l : List Int) : ∀ d ∈ l.map PyData.int, OkD n d := fun d h => by
  obtain ⟨i, _, rfl⟩ := List.mem_map.mp h
  exact .int i
theorem okD_nats {n : Nat} (l : List Nat) : ∀ d ∈ l.map (fun i => PyData.int (i : Nat)), OkD n d := fun d h => by
  obtain ⟨i, _, rfl⟩ := List.mem_map.mp h
  exact .int i
theorem tag_ok {t : Str} (h : TagS t) : PyData.strOk t = true := by
  rcases h with rfl | rfl <;> decide +kernel
theorem word_ok (du : Duo) (s : Sh) (x : Int) : PyData.strOk (word du s x) = true := by
  unfold word
  split
  · decide +kernel
  · split <;> decide +kernel
theorem words_ok {n : Nat} (du : Duo) (tk : Bool) (row : List Int) : ∀ d ∈ (wordsM du tk row).map PyData.str, OkD n d := fun d h => by
  obtain ⟨w, hw, rfl⟩ := List.mem_map.mp h
  unfold wordsM at hw
  obtain ⟨i, _, rfl⟩ := List.mem_map.mp hw
  exact .str (word_ok _ _ _)
theorem wish_okD {wi : Wish} (h : TagS wi.tag) : OkD 2 wi.d := by
  have k1 : PyData.strOk ("never" : Str) = true := by decide +kernel
  have k2 : PyData.strOk ("ways" : Str) = true := by decide +kernel
  have k3 : PyData.strOk ("alone" : Str) = true := by decide +kernel
  have k4 : PyData.strOk ("notices" : Str) = true := by decide +kernel
  cases wi with
  | never t => exact .tup (okD_cons (.str k1) (okD_cons (.str (tag_ok h)) okD_nil))
  | ways t n => exact .tup (okD_cons (.str k2) (okD_cons (.str (tag_ok h)) (okD_cons (.int n) okD_nil)))
  | alone t r n => exact .tup (okD_cons (.str k3) (okD_cons (.str (tag_ok h)) (okD_cons (.tup (okD_ints r)) (okD_cons (.int n) okD_nil))))
  | notices t r n => exact .tup (okD_cons (.str k4) (okD_cons (.str (tag_ok h)) (okD_cons (.tup (okD_ints r)) (okD_cons (.int n) okD_nil))))
theorem wishes_okD {ws : List Wish} (h : ∀ wi ∈ ws, TagS wi.tag) : ∀ d ∈ ws.map Wish.d, OkD 2 d := fun d hd => by
  obtain ⟨wi, hw, rfl⟩ := List.mem_map.mp hd
  exact wish_okD (h wi hw)
theorem dps_strs {K : Fr0} {H : Hp} : ∀ l : List Str, DpAll K H (l.map V.str) (l.map PyData.str)
  | [] => .nil
  | x :: r => .cons (.str x) (dps_strs r)
theorem dps_nats {K : Fr0} {H : Hp} : ∀ l : List Nat, DpAll K H (l.map fun i => V.int (i : Nat)) (l.map fun i => PyData.int (i : Nat))
  | [] => .nil
  | x :: r => .cons (.int _) (dps_nats r)
end
section
/-! The law's reckoning of wishes. -/
open PySem PySem.Spec PyProof.Rows L2
local macro_rules | `(tactic| lcg_sub) => `(tactic| ((with_reducible apply sm_DpA); assumption; lcg_sub))
local macro_rules | `(tactic| lcg_sub) => `(tactic| ((with_reducible apply StoreAt.same); assumption; lcg_sub))
local macro_rules | `(tactic| lcg_sub) => `(tactic| ((with_reducible apply EntsAt.same); assumption; lcg_sub))
local macro_rules | `(tactic| lcg_sub) => `(tactic| ((with_reducible apply sm_FA); assumption; lcg_sub))
local macro_rules | `(tactic| lcg_sub) => `(tactic| ((with_reducible apply BookAt.same); assumption; lcg_sub))
section
variable {P : Program} {w : World} {K : Fr0} {mg : Str → Option Value} {base : Heap}
abbrev spLHolds (K : Fr0) : Sp := s2 fun d v H Q _ => ∃ du, ∃ wi : Wish, DuoV K H d du ∧ Duo.ok du ∧ Dp K H v wi.d ∧ wi.ok ∧ ∀ H', Same H H' → Q (.bl (holdsM du wi)) H'
abbrev N_q_holds : List Str := ["_law_duo_here", "_law_wish_here", "_law_most", "_law_least_here", "_law_words", "_law_notes", "_law_tops", "_law_lows", "_law_gone", "_law_many"]
abbrev P_q_holds : List Str := ["_law_duo_here", "_law_wish_here"]
theorem sc_q_holds : FnScope N_q_holds P_q_holds (defScope s_q_holds) := ⟨rfl, rfl, rfl, by decide +kernel, rfl, by decide +kernel, by decide +kernel⟩
theorem ok_q_holds (T : Tx K mg) : FnR P w K mg base CX0 4 (ad K "_law_holds") (spLHolds K) := by
  obtain ⟨fd, F⟩ := T.fd_q_holds
  refine fnr F (fun _ _ _ _ _ _ us hl => match us, hl with | [_, _], _ => rfl) sc_q_holds (fun vs H Q E h => ?_) (fun cdv A outer s H vs Q E hr h => ?_)
  · first | exact l1 h | exact l0 h | exact l2 h | exact l3 h | exact l4 h | exact l5 h | exact l6 h
  · have hu := hu_of hr
    refine ⟨_, PSs.nox (pss_cons (ps_if (pt_cmpR op_in_seq (pe_ix ix_tup (pv 1) pe_int (fun _ _ => rfl)) (pe_lstS (pa_cons pe_str (pa_cons pe_str pa_nil))) (by rfl)) (pss_cons (ps_set (i := 2) sc_q_holds.nd rfl (Or.inl rfl) (pe_ifExp (pt_cmpR op_eq (pe_ix ix_tup (pv 1) pe_int (fun _ _ => rfl)) pe_str (nomark _)) (pe_ix ix_tup (pe_ix ix_tup (pv 0) pe_int (fun _ _ => rfl)) pe_int (fun _ _ => rfl)) (pe_ix ix_tup (pv 1) pe_int (fun _ _ => rfl))))
      (pss_cons (ps_set (i := 3) sc_q_holds.nd rfl (Or.inl rfl) (pe_fn (ok_q_least T) (hr.mono (by decide)) (by rfl) T.g_q_least T.k_q_least pass0 (pa_cons (pv 0) pa_nil)))
      (pss_one (ps_ret (pe_and (pe_cmpR op_notN (pv 3) pe_non (nomark _)) (pe_one (pe_cmpR op_le (pv 3) (pv 2) (nomark _)))))))) pss_nil)
      (pss_cons (ps_asg (pe_fn (ok_q_run T) (hr.mono (by decide)) (by rfl) T.g_q_run T.k_q_run pass0 (pa_cons (pv 0) (pa_cons (pe_ix ix_tup (pv 1) pe_int (fun _ _ => rfl)) (pa_cons pe_bl pa_nil)))) (pg_tup (n := 5) rfl (pgs_cons (pg_name (i := 4) sc_q_holds.nd rfl (Or.inl rfl)) (pgs_cons (pg_name (i := 5) sc_q_holds.nd rfl (Or.inl rfl)) (pgs_cons (pg_name (i := 6) sc_q_holds.nd rfl (Or.inl rfl)) (pgs_cons (pg_name (i := 7) sc_q_holds.nd rfl (Or.inl rfl)) (pgs_cons (pg_name (i := 8) sc_q_holds.nd rfl (Or.inl rfl)) pgs_nil)))))))
      (pss_cons (ps_set (i := 9) sc_q_holds.nd rfl (Or.inl rfl) (pe_ifExp (pt_cmpR op_eq (pe_ix ix_tup (pv 1) pe_int (fun _ _ => rfl)) pe_str (nomark _)) (pe_callB call_LenL (by rfl) T.f_len boot_lenB (pa_cons (pv 5) pa_nil)) (pe_callB call_LenT (by rfl) T.f_len boot_lenB (pa_cons (pe_fn (ok_q_lonely T) (hr.mono (by decide)) (by rfl) T.g_q_lonely T.k_q_lonely pass0 (pa_cons (pv 0) (pa_cons (pv 6) (pa_cons (pv 7) pa_nil)))) pa_nil))))
      (pss_one (ps_ret (pe_cmpR op_le (pv 9) (pe_ix ix_tup (pv 1) pe_int (fun _ _ => rfl)) (nomark _))))))), ?_⟩
    try dsimp only [cxOf, Cx.nox, Cx.wish]
    obtain ⟨d, v, rfl, du, wi, hd, ok, hv, wo, q⟩ := h
    obtain ⟨b, u, lo, hh, rfl, hb, hu1, hlo, hhe⟩ := id hd.open
    cases wi with
    | never t =>
      obtain ⟨a, rfl, ha⟩ := wish_never hv
      have hq : holdsM du (.never t) = enoughM du := rfl
      rw [hq] at q
      unfold enoughM at q
      lcg_src
      cases e : leastM du with
      | none =>
        rw [e] at q
        lcg_src
        exact q _ (by kas_types)
      | some m =>
        rw [e] at q
        have e2 : optV (some m) = .int m := rfl
        rw [e2]
        lcg_src
        exact q _ (by kas_types)
    | ways t n =>
      obtain ⟨a, rfl, ha⟩ := wish_ways hv
      unfold holdsM at q
      lcg_src
      cases e : leastM du with
      | none =>
        rw [e] at q
        lcg_src
        exact q _ (by kas_types)
      | some m =>
        rw [e] at q
        have e2 : optV (some m) = .int m := rfl
        rw [e2]
        lcg_src
        exact q _ (by kas_types)
    | alone t r n =>
      obtain ⟨a, b2, rfl, ha, hb2⟩ := wish_row hv
      have hbg : ∀ x ∈ r, Big x := wo.bg
      have hln : r.length ≤ 60 := wo.ln
      have gd := runF_good ok hbg
      have hq : holdsM du (.alone t r n) = decide (((lonelyM du (runS du false r)).length : Int) ≤ n) := rfl
      rw [hq] at q
      have hl90 : r.length ≤ 90 := by omega
      lcg_src
      rename_i z2 H2 ns S2 p1 p2 e2
      rw [List.length_map, p1.length_eq]
      exact q _ (by kas_types)
    | notices t r n =>
      obtain ⟨a, b2, rfl, ha, hb2⟩ := wish_row hv
      have hbg : ∀ x ∈ r, Big x := wo.bg
      have hln : r.length ≤ 60 := wo.ln
      have hq : holdsM du (.notices t r n) = decide (((runS du false r).noted : Int) ≤ n) := rfl
      rw [hq] at q
      have hl90 : r.length ≤ 90 := by omega
      lcg_src
      rename_i z2 lw ln dt dl ns H2 S2 e1 e2 e3 e4 e5 e6 e7
      rw [List.length_map, e4]
      exact q _ (by kas_types)
/-- the law's own page: a dict of the pairs under their names -/
def PsD (K : Fr0) (H : Hp) (d : Addr) (ps : List (Str × Duo)) : Prop := ∃ kvs : List (Key × V), H d = some (.dK kvs) ∧ Paired (fun kv p => kv.1 = Sum.inr p.1 ∧ DuoV K H kv.2 p.2) kvs ps
theorem psd_get {K : Fr0} {H : Hp} : ∀ {kvs : List (Key × V)} {ps : List (Str × Duo)} {t : Str} {du : Duo}, Paired (fun kv p => kv.1 = Sum.inr p.1 ∧ DuoV K H kv.2 p.2) kvs ps → ps.lookup t = some du → ∃ v, valV kvs (Sum.inr t) = some v ∧ DuoV K H v du
  | _, _, t, du, .nil, e => by cases e
  | _, _, t, du, .cons (a := kv) (b := p) ⟨h1, h2⟩ r, e => by
    by_cases c : p.1 = t
    · rw [List.lookup_cons, show (t == p.1) = true from beq_iff_eq.mpr c.symm] at e
      cases e
      exact ⟨kv.2, valV_pos (by rw [h1, c]), h2⟩
    · rw [List.lookup_cons, show (t == p.1) = false from beq_eq_false_iff_ne.mpr (fun z => c z.symm)] at e
      obtain ⟨v, k1, k2⟩ := psd_get r e
      exact ⟨v, by rw [valV_neg (fun z => c (Sum.inr.inj (h1.symm.trans z)))]; exact k1, k2⟩
theorem PsD.same {K : Fr0} {H H' : Hp} {d : Addr} {ps : List (Str × Duo)} (S : Same H H') (h : PsD K H d ps) : PsD K H' d ps := by
  obtain ⟨kvs, h1, h2⟩ := h
  exact ⟨kvs, S _ _ h1, Paired.mapP h2 fun kv p ⟨x, y⟩ => ⟨x, sm_Dp S y⟩⟩
def badI (ps : List (Str × Duo)) (ws : List Wish) (k : Nat) : Bool := match ws[k]? with
  | some wi => badAt ps wi
  | none => false
def firstI (ps : List (Str × Duo)) (ws : List Wish) : Int := match firstBad ps ws with
  | some n => n
  | none => -1
theorem first_head (ps : List (Str × Duo)) (ws : List Wish) : ((List.range ws.length).filter (badI ps ws)).head? = firstBad ps ws := by
  rw [List.head?_filter]
  unfold firstBad
  cases e : ws.findIdx? (badAt ps) with
  | none =>
    rw [List.find?_range_eq_none]
    intro i hi
    have h := List.findIdx?_eq_none_iff.mp e ws[i] (List.getElem_mem hi)
    unfold badI
    rw [List.getElem?_eq_getElem hi]
    simp only [h]
    rfl
  | some n =>
    obtain ⟨hn, h1, h2⟩ := List.findIdx?_eq_some_iff_getElem.mp e
    rw [List.find?_range_eq_some]
    refine ⟨?_, List.mem_range.mpr hn, fun j hj => ?_⟩
    · unfold badI
      rw [List.getElem?_eq_getElem hn]
      exact h1
    · have hj2 := Nat.lt_trans hj hn
      have := h2 j hj
      unfold badI
      rw [List.getElem?_eq_getElem hj2]
      simpa using this
abbrev spLFirst (K : Fr0) : Sp := s2 fun p v H Q _ => ∃ d ps wa vs, ∃ ws : List Wish, p = .ref d ∧ PsD K H d ps ∧ (∀ p ∈ ps, Duo.ok p.2) ∧ v = .ref wa ∧ SqT K H wa vs ∧ DpAll K H vs (ws.map Wish.d) ∧ (∀ wi ∈ ws, wi.ok ∧ ∃ du, ps.lookup wi.tag = some du) ∧ ws.length ≤ 1000 ∧ ∀ H', Same H H' → Q (.int (firstI ps ws)) H'
abbrev N_q_first_bad : List Str := ["_law_pairs_here", "_law_wishes_here", "_law_bad", "_law_k"]
abbrev P_q_first_bad : List Str := ["_law_pairs_here", "_law_wishes_here"]
theorem sc_q_first_bad : FnScope N_q_first_bad P_q_first_bad (defScope s_q_first_bad) := ⟨rfl, rfl, rfl, by decide +kernel, rfl, by decide +kernel, by decide +kernel⟩
theorem ok_q_first_bad (T : Tx K mg) : FnR P w K mg base CX0 5 (ad K "_law_first_bad") (spLFirst K) := by
  obtain ⟨fd, F⟩ := T.fd_q_first_bad
  refine fnr F (fun _ _ _ _ _ _ us hl => match us, hl with | [_, _], _ => rfl) sc_q_first_bad (fun vs H Q E h => ?_) (fun cdv A outer s H vs Q E hr h => ?_)
  · first | exact l1 h | exact l0 h | exact l2 h | exact l3 h | exact l4 h | exact l5 h | exact l6 h
  · have hu := hu_of hr
    refine ⟨_, PSs.nox (pss_cons (ps_setLc (i := 2) (own := [("_law_k", 3)]) (g := gName 3)  rfl sc_q_first_bad.nd rfl rfl (sw_true rfl rfl rfl (by decide +kernel)) (pi_range1 (by rfl) T.f_range (pa_cons (pe_callB call_LenT (by rfl) T.f_len boot_lenB (pa_cons (pv 1) pa_nil)) pa_nil)) (blkOk_by (N := N_q_first_bad) (sc := defScope s_q_first_bad) (by decide +kernel)) (fun _ _ _ _ _ => (pg_name (i := 3) sc_q_first_bad.nd rfl (Or.inl rfl))) (fun _ _ _ _ _ => (pts_one (pt_not (pt_val (pe_fn (ok_q_holds T) (hr.mono (by decide)) (by rfl) T.g_q_holds T.k_q_holds pass0 (pa_cons (pe_dget hu (pv 0) (pe_ix (r := rIxT K) ix_tup (pe_ix (r := rIxT K) ix_tup (pv 1) (pv 3) (fun _ _ => rfl)) pe_int (fun _ _ => rfl)) (fun _ _ => rfl)) (pa_cons (pe_ix (r := rIxT K) ix_tup (pv 1) (pv 3) (fun _ _ => rfl)) pa_nil))))))) (fun _ _ _ _ _ => (pv 3)))
      (pss_one (ps_ret (pe_ifExp (pt_cmpR (op_neD hr.units) (pv 2) (pe_lstS pa_nil) (nomark _)) (pe_ix ix_list (pv 2) pe_int (fun _ _ => rfl)) (pe_un un_neg pe_int))))), ?_⟩
    try dsimp only [cxOf, Cx.nox, Cx.wish]
    obtain ⟨p, v, rfl, d, ps, wa, vs, ws, rfl, hd, hok, rfl, hw, hds, hws, hln, q⟩ := h
    have hvl : vs.length = ws.length := by rw [dps_len hds, List.length_map]
    obtain ⟨kvs, hkv, hpr⟩ := id hd
    lcg_src
    rw [Int.toNat_natCast, hvl]
    refine LcG.rng (by omega) (fun v => match v with
      | .int k => if badI ps ws k.toNat = true then some (.int k) else none
      | _ => none) (fun i H2 Y2 N hi S2 hq hn => ?_) (fun D H2 nD S2 hD => ?_)
    · have hwi : ws[i]? = some ws[i] := List.getElem?_eq_getElem hi
      have hv : vs[i]? = some vs[i] := List.getElem?_eq_getElem (by omega)
      obtain ⟨wi, hwi2, hwd⟩ := dps_get hds hv
      rw [hwi] at hwi2
      cases hwi2
      obtain ⟨wok, du, hdu⟩ := hws _ (List.getElem_mem hi)
      obtain ⟨dv, hdv, hdd⟩ := psd_get hpr hdu
      have dok : Duo.ok du := hok _ (mem_of_lookup hdu)
      have hkv2 := S2 _ _ hkv
      have hdd2 := sm_Dp S2 hdd
      have hwd2 := sm_Dp S2 hwd
      obtain ⟨a, xs, ex, ha, hat⟩ := wish_tag hwd2
      rw [ex] at hwd2 hv
      have hb : badI ps ws i = !(holdsM du ws[i]) := by
        unfold badI badAt
        rw [hwi]
        simp only [hdu]
      lcg_src
      refine w_ixT (sm_T S2 hw) (atI_nat hv) ?_
      lcg_src
      refine w_ixT ha hat ?_
      refine ⟨d, dv, rfl, by rw [← hdv]; exact DGet.k (k := Sum.inr ws[i].tag) hkv2, ?_⟩
      lcg_src
      refine w_ixT (sm_T S2 hw) (atI_nat hv) ?_
      lcg_src
      rename_i H3 S3
      refine w_ite (fun z => ?_) (fun z => ?_)
      · lcg_src
        refine hq _ _ ?_ S3
        show (if badI ps ws (i : Int).toNat = true then some (V.int i) else none) = _
        rw [Int.toNat_natCast, hb, if_pos z]
      · refine hn _ ?_ S3
        show (if badI ps ws (i : Int).toNat = true then some (V.int i) else none) = _
        rw [Int.toNat_natCast, hb, if_neg (by rw [z]; exact Bool.false_ne_true)]
    · have hfm : (((List.range ws.length).map fun i => V.int (i : Nat)).filterMap fun v => match v with
          | .int k => if badI ps ws k.toNat = true then some (.int k) else none
          | _ => none) = ((List.range ws.length).filter (badI ps ws)).map fun i => V.int (i : Nat) := by
        induction List.range ws.length with
        | nil => rfl
        | cons x r ih =>
          rw [List.map_cons, List.filterMap_cons, List.filter_cons]
          simp only [Int.toNat_natCast]
          by_cases c : badI ps ws x = true
          · rw [if_pos c, if_pos c, List.map_cons]
            simp only
            rw [ih]
          · rw [if_neg c, if_neg c]
            exact ih
      rw [hfm] at hD
      have hh := first_head ps ws
      cases hl : (List.range ws.length).filter (badI ps ws) with
      | nil =>
        rw [hl] at hD hh
        have hf : firstI ps ws = -1 := by
          unfold firstI
          rw [← hh]
          rfl
        rw [hf] at q
        have hdp : Dp K H2 (.ref D) (.list []) := .lst (sq_L hD) .nil
        lcg_src
        exact q _ (by kas_types)
      | cons k r =>
        rw [hl] at hD hh
        have hf : firstI ps ws = (k : Int) := by
          unfold firstI
          rw [← hh]
          rfl
        rw [hf] at q
        have hdp : Dp K H2 (.ref D) (.list ((k :: r).map fun i => PyData.int (i : Nat))) := .lst (sq_L hD) (dps_nats (k :: r))
        have shp := (OkD.lst (okD_nats (n := 0) (k :: r))).sh
        lcg_src
        rename_i p3 H3 n3 S3 e3
        refine w_ixL (v := .int k) (sm_L S3 (sq_L hD)) (atI_nat (show (List.map (fun i : Nat => V.int (i : Nat)) (k :: r))[0]? = some (V.int k) from rfl)) ?_
        exact q _ (by kas_types)
end
end
section
/-! A drawn wish; a pair put. -/
open PySem PySem.Spec PyProof.Rows L2
theorem DpAll.ints_at {K : Fr0} {H : Hp} {b : Addr} {r : List Int} (h : SqT K H b (r.map V.int)) : Dp K H (.ref b) (.tuple (r.map PyData.int)) := .tup h (DpAll.of_ints r)
local macro_rules | `(tactic| lcg_sub) => `(tactic| ((with_reducible apply sm_DpA); assumption; lcg_sub))
local macro_rules | `(tactic| lcg_sub) => `(tactic| ((with_reducible apply StoreAt.same); assumption; lcg_sub))
local macro_rules | `(tactic| lcg_sub) => `(tactic| ((with_reducible apply EntsAt.same); assumption; lcg_sub))
local macro_rules | `(tactic| lcg_sub) => `(tactic| ((with_reducible apply sm_FA); assumption; lcg_sub))
local macro_rules | `(tactic| lcg_sub) => `(tactic| ((with_reducible apply BookAt.same); assumption; lcg_sub))
section
variable {P : Program} {w : World} {K : Fr0} {mg : Str → Option Value} {base : Heap}
abbrev spLWish (K : Fr0) : Sp := s4 fun f d r t H Q _ => ∃ a du b, ∃ row : List Int, ∃ tg, f = .ref a ∧ Fl H a ∧ DuoV K H d du ∧ Duo.ok du ∧ r = .ref b ∧ SqT K H b (row.map V.int) ∧ (∀ x ∈ row, Big x) ∧ row.length ≤ 60 ∧ t = .str tg ∧ TagS tg ∧
  ∀ v H', ∀ wi : Wish, wi.tag = tg → wi.ok → Chg a H H' → Fl H' a → Dp K H' v wi.d → Q v H'
abbrev N_q_wish : List Str := ["_law_flask_here", "_law_duo_here", "_law_row", "_law_tag", "_law_kind_here", "_law_near_here", "_law_words", "_law_notes", "_law_tops", "_law_lows", "_law_gone", "_law_least_here"]
abbrev P_q_wish : List Str := ["_law_flask_here", "_law_duo_here", "_law_row", "_law_tag"]
theorem sc_q_wish : FnScope N_q_wish P_q_wish (defScope s_q_wish) := ⟨rfl, rfl, rfl, by decide +kernel, rfl, by decide +kernel, by decide +kernel⟩
theorem ok_q_wish (T : Tx K mg) : FnR P w K mg base CX0 4 (ad K "_law_wish") (spLWish K) := by
  obtain ⟨fd, F⟩ := T.fd_q_wish
  refine fnr F (fun _ _ _ _ _ _ us hl => match us, hl with | [_, _, _, _], _ => rfl) sc_q_wish (fun vs H Q E h => ?_) (fun cdv A outer s H vs Q E hr h => ?_)
  · first | exact l1 h | exact l0 h | exact l2 h | exact l3 h | exact l4 h | exact l5 h | exact l6 h
  · have hu := hu_of hr
    refine ⟨_, PSs.nox (pss_cons (ps_par (by rfl) sc_q_wish.nd (i := 4) (j := 5) rfl rfl (by decide) rfl rfl (pa_cons (pe_fn (ok_q_pour T) (hr.mono (by decide)) (by rfl) T.g_q_pour T.k_q_pour pass0 (pa_cons (pv 0) (pa_cons pe_int pa_nil))) (pa_cons (pe_fn (ok_q_pickI T) (hr.mono (by decide)) (by rfl) T.g_q_pick T.k_q_pick pass0 (pa_cons (pv 0) (pa_cons (pe_lstS (pa_cons pe_int (pa_cons pe_int (pa_cons pe_int (pa_cons (pe_un un_neg pe_int) (pa_cons pe_int pa_nil)))))) pa_nil))) pa_nil)) (by rfl))
      (pss_cons (ps_asg (pe_fn (ok_q_run T) (hr.mono (by decide)) (by rfl) T.g_q_run T.k_q_run pass0 (pa_cons (pv 1) (pa_cons (pv 2) (pa_cons pe_bl pa_nil)))) (pg_tup (n := 5) rfl (pgs_cons (pg_name (i := 6) sc_q_wish.nd rfl (Or.inl rfl)) (pgs_cons (pg_name (i := 7) sc_q_wish.nd rfl (Or.inl rfl)) (pgs_cons (pg_name (i := 8) sc_q_wish.nd rfl (Or.inl rfl)) (pgs_cons (pg_name (i := 9) sc_q_wish.nd rfl (Or.inl rfl)) (pgs_cons (pg_name (i := 10) sc_q_wish.nd rfl (Or.inl rfl)) pgs_nil)))))))
      (pss_cons (ps_if (pt_cmpR op_eq (pv 4) pe_int (nomark _)) (pss_one (ps_ret (pe_tupS (pa_cons pe_str (pa_cons (pv 3) pa_nil))))) pss_nil)
      (pss_cons (ps_if (pt_cmpR op_eq (pv 4) pe_int (nomark _)) (pss_cons (ps_set (i := 11) sc_q_wish.nd rfl (Or.inl rfl) (pe_fn (ok_q_least T) (hr.mono (by decide)) (by rfl) T.g_q_least T.k_q_least pass0 (pa_cons (pv 1) pa_nil)))
      (pss_one (ps_ret (pe_tupS (pa_cons pe_str (pa_cons (pv 3) (pa_cons (pe_callB (call_max2 rfl) (by rfl) T.f_max boot_maxB (pa_cons pe_int (pa_cons (pe_op op_add (pe_ifExp (pt_cmpR op_isN (pv 11) pe_non (nomark _)) pe_int (pv 11)) (pv 5)) pa_nil))) pa_nil))))))) pss_nil)
      (pss_cons (ps_if (pt_cmpR op_lt (pv 4) pe_int (nomark _)) (pss_one (ps_ret (pe_tupS (pa_cons pe_str (pa_cons (pv 3) (pa_cons (pv 2) (pa_cons (pe_callB (call_max2 rfl) (by rfl) T.f_max boot_maxB (pa_cons pe_int (pa_cons (pe_op op_add (pe_callB call_LenL (by rfl) T.f_len boot_lenB (pa_cons (pv 7) pa_nil)) (pv 5)) pa_nil))) pa_nil))))))) pss_nil)
      (pss_one (ps_ret (pe_tupS (pa_cons pe_str (pa_cons (pv 3) (pa_cons (pv 2) (pa_cons (pe_callB (call_max2 rfl) (by rfl) T.f_max boot_maxB (pa_cons pe_int (pa_cons (pe_op op_add (pe_callB call_LenT (by rfl) T.f_len boot_lenB (pa_cons (pe_fn (ok_q_lonely T) (hr.mono (by decide)) (by rfl) T.g_q_lonely T.k_q_lonely pass0 (pa_cons (pv 1) (pa_cons (pv 8) (pa_cons (pv 9) pa_nil)))) pa_nil)) (pv 5)) pa_nil))) pa_nil)))))))))))), ?_⟩
    try dsimp only [cxOf, Cx.nox, Cx.wish]
    obtain ⟨f, d, r, t, rfl, a, du, b, row, tg, rfl, hF, hd, ok, rfl, hr0, hbg, hln, rfl, ht, q⟩ := h
    obtain ⟨b1, u, lo, hh, rfl, hb, hu1, hlo, hhe⟩ := id hd.open
    have gd := runF_good ok hbg
    have hl90 : row.length ≤ 90 := by omega
    lcg_src
    rename_i kd G0 k0 k1 C0 F0 lp G1 nlp S1 e1 nr G2 m2 C2 F2 z lw ln dt dl ns G3 S3 f0 f1 f2 f3 f4 f5 f6
    simp only [List.mem_cons, List.not_mem_nil, or_false, V.int.injEq] at m2
    have hn : -1 ≤ nr ∧ nr ≤ 1 := by omega
    have mx : ∀ i : Int, 0 ≤ (if i > 0 then i else 0) := fun i => by
      by_cases c : i > 0
      · rw [if_pos c]
        omega
      · rw [if_neg c]
        exact Int.le_refl 0
    refine w_ite (fun c0 => ?_) (fun c0 => ?_)
    · lcg_src
      exact q _ _ (.never tg) rfl ⟨ht, Int.le_refl 0, fun x h => absurd h List.not_mem_nil, Nat.zero_le _⟩ (by kpf_close) (by lcg_sub) (.tup (by assumption) (.cons (.str _) (.cons (.str _) .nil)))
    · lcg_src
      refine w_ite (fun c1 => ?_) (fun c1 => ?_)
      · lcg_src
        cases e : leastM du with
        | none =>
          lcg_src
          exact q _ _ (.ways tg _) rfl ⟨ht, mx _, fun x h => absurd h List.not_mem_nil, Nat.zero_le _⟩ (by kpf_close) (by lcg_sub) (.tup (by assumption) (.cons (.str _) (.cons (.str _) (.cons (.int _) .nil))))
        | some m =>
          have e2 : optV (some m) = .int m := rfl
          rw [e2]
          lcg_src
          exact q _ _ (.ways tg _) rfl ⟨ht, mx _, fun x h => absurd h List.not_mem_nil, Nat.zero_le _⟩ (by kpf_close) (by lcg_sub) (.tup (by assumption) (.cons (.str _) (.cons (.str _) (.cons (.int _) .nil))))
      · lcg_src
        refine w_ite (fun c2 => ?_) (fun c2 => ?_)
        · lcg_src
          exact q _ _ (.notices tg row _) rfl ⟨ht, mx _, hbg, hln⟩ (by kpf_close) (by lcg_sub) (.tup (by assumption) (.cons (.str _) (.cons (.str _) (.cons (DpAll.ints_at (by lcg_sub)) (.cons (.int _) .nil)))))
        · lcg_src
          exact q _ _ (.alone tg row _) rfl ⟨ht, mx _, hbg, hln⟩ (by kpf_close) (by lcg_sub) (.tup (by assumption) (.cons (.str _) (.cons (.str _) (.cons (DpAll.ints_at (by lcg_sub)) (.cons (.int _) .nil)))))
abbrev N_q_put : List Str := ["_law_book", "_law_tag", "_law_thing"]
abbrev P_q_put : List Str := ["_law_book", "_law_tag", "_law_thing"]
theorem sc_q_put : FnScope N_q_put P_q_put (defScope s_q_put) := ⟨rfl, rfl, rfl, by decide +kernel, rfl, by decide +kernel, by decide +kernel⟩
theorem ok_q_put (T : Tx K mg) (TT : Tt K mg base) : FnR P w K mg base (L2.CX P w) 14 (ad K "_law_put") (spBSet K) := by
  obtain ⟨fd, F⟩ := T.fd_q_put
  refine fnr F (fun _ _ _ _ _ _ us hl => match us, hl with | [_, _, _], _ => rfl) sc_q_put (fun vs H Q E h => ?_) (fun cdv A outer s H vs Q E hr h => ?_)
  · first | exact l1 h | exact l0 h | exact l2 h | exact l3 h | exact l4 h | exact l5 h | exact l6 h
  · have hu := hu_of hr
    refine ⟨_, (pss_one (ps_asg (pv 2) (pg_sub (pv 0) (pv 1) (set_own T.ns_Book T.me_Book_setitem (ok_Book_setitem T TT) (hr.mono (by decide)) (passes_call (takes_of rfl rfl rfl rfl) (fun _ _ _ _ h => h)))))), ?_⟩
    try dsimp only [cxOf, Cx.nox, Cx.wish]
    obtain ⟨s, n, p, rfl, x, ps, pg, t, du, rfl, rfl, hb, ok, hln, ht, hp, hok, hT, q1, q2⟩ := h
    obtain ⟨ds, tt, ss, st, e, wd, vs, h1, _⟩ := id hb.last
    lcg_src
    exact ⟨x, ds, _, rfl, h1, _, _, _, rfl, x, ps, pg, t, du, rfl, rfl, hb, ok, hln, ht, hp, hok, hT, fun hn H' F T' B => q1 hn H' F T' B, q2⟩
end
end
section
/-! What the store and the book show. -/
open PySem PySem.Spec PyProof.Rows L2
/-- the law's own pages -/
def LPage (K : Fr0) (H : Hp) (a : Addr) (pg : Pg) : Prop := ∃ d w vs, SqT K H a [.ref d, .ref w] ∧ PsD K H d pg.1 ∧ SqT K H w vs ∧ DpAll K H vs (pg.2.map Wish.d)
def LPages (K : Fr0) (H : Hp) (l : Addr) (pages : List Pg) : Prop := ∃ ts : List Addr, H l = some (.lst (ts.map V.ref)) ∧ Paired (LPage K H) ts pages
theorem LPage.same {K : Fr0} {H H' : Hp} {a : Addr} {pg : Pg} (S : Same H H') (h : LPage K H a pg) : LPage K H' a pg := by
  obtain ⟨d, w, vs, h1, h2, h3, h4⟩ := h
  exact ⟨d, w, vs, sm_T S h1, h2.same S, sm_T S h3, sm_DpA S h4⟩
theorem LPages.same {K : Fr0} {H H' : Hp} {l : Addr} {pages : List Pg} (S : Same H H') (h : LPages K H l pages) : LPages K H' l pages := by
  obtain ⟨ts, h1, h2⟩ := h
  exact ⟨ts, S _ _ h1, Paired.mapP h2 fun a pg z => z.same S⟩
theorem OnS.same {K : Fr0} {av : Addr → Prop} {H H' : Hp} {x : Addr} {du : Duo} {tk : Bool} {row : List Int} (S : Same H H') (h : OnS K av H x du tk row) : OnS K av H' x du tk row := ⟨h.1.same S, h.2.1, h.2.2.1, h.2.2.2.1, h.2.2.2.2.same S⟩
def rLenDk : List V → Hp → VK → Prop := fun xs H Q => ∃ a kvs, xs = [.ref a] ∧ Rd H a (.dK kvs) ∧ Q (.int (kvs.length : Nat)) H
theorem call_LenDk {X : Cx} : CallR X (.builtin "len") rLenDk := by
  intro pins s σ H vs us Q I rv h
  obtain ⟨a, kvs, e, hd, q⟩ := h
  subst e
  obtain ⟨u, eu, rx⟩ := vals1 rv
  subst eu
  obtain rfl : u = Value.ref a := rx
  exact d_len I hd fun t s' I' => ⟨.int (kvs.length : Nat), H, I', ⟨t, rfl⟩, q⟩
local macro_rules | `(tactic| lcg_sub) => `(tactic| ((with_reducible apply sm_DpA); assumption; lcg_sub))
local macro_rules | `(tactic| lcg_sub) => `(tactic| ((with_reducible apply StoreAt.same); assumption; lcg_sub))
local macro_rules | `(tactic| lcg_sub) => `(tactic| ((with_reducible apply EntsAt.same); assumption; lcg_sub))
local macro_rules | `(tactic| lcg_sub) => `(tactic| ((with_reducible apply sm_FA); assumption; lcg_sub))
local macro_rules | `(tactic| lcg_sub) => `(tactic| ((with_reducible apply BookAt.same); assumption; lcg_sub))
local macro_rules | `(tactic| lcg_sub) => `(tactic| ((with_reducible apply LPages.same); assumption; lcg_sub))
local macro_rules | `(tactic| lcg_sub) => `(tactic| ((with_reducible apply PsD.same); assumption; lcg_sub))
local macro_rules | `(tactic| lcg_sub) => `(tactic| ((with_reducible apply TopsAt.same); assumption; lcg_sub))
local macro_rules | `(tactic| lcg_sub) => `(tactic| ((with_reducible apply OnS.same); assumption; lcg_sub))
section
variable {P : Program} {w : World} {K : Fr0} {mg : Str → Option Value} {base : Heap}
abbrev spShows (K : Fr0) : Sp := s6 fun st d r t bk pgs H Q _ => ∃ x av du rb, ∃ row : List Int, ∃ tk y, ∃ ps : List Pg, ∃ pg : Pg, ∃ l, st = .ref x ∧ OnS K av H x du tk row ∧ DuoV K H d du ∧ r = .ref rb ∧ SqT K H rb (row.map V.int) ∧ t = .bl tk ∧ bk = .ref y ∧ BookAt K H y (ps ++ [pg]) ∧ PgOk pg ∧ ps.length ≤ 1000 ∧
  pgs = .ref l ∧ LPages K H l (ps ++ [pg]) ∧ ∀ H', Same H H' → Q (.bl true) H'
abbrev N_q_shows : List Str := ["_law_store", "_law_duo_here", "_law_row", "_law_takes", "_law_book", "_law_pages", "_law_words", "_law_notes", "_law_tops", "_law_lows", "_law_gone", "_law_told", "_law_place_here", "_law_piece", "_law_low", "_law_above", "_law_pairs_here", "_law_wishes_here", "_law_wrong", "_law_tag"]
abbrev P_q_shows : List Str := ["_law_store", "_law_duo_here", "_law_row", "_law_takes", "_law_book", "_law_pages"]
theorem sc_q_shows : FnScope N_q_shows P_q_shows (defScope s_q_shows) := ⟨rfl, rfl, rfl, by decide +kernel, rfl, by decide +kernel, by decide +kernel⟩
theorem part_shL (T : Tx K mg) {f : Addr} {cdv : Value} {A : Around} {outer : List Env} {s : Shared} {HE : Hp} {E : XK} (hr : Room 12 (A.deeper (envOfC "_law_shows" (defScope s_q_shows) s.heap.objs.size f cdv)))  :
    ∃ t, PSs (cxOf CX0 P w K mg base N_q_shows "_law_shows" (defScope s_q_shows) f cdv A outer s HE E).nox (stBody (stAt (defBody s_q_shows) 3)) t ∧ ∀ (x y l rb d : Addr) (av : Addr → Prop) (du : Duo) (row : List Int) (tk : Bool) (i : Int) (lw ln dt dl : Addr) (gn : V) (told o12 o13 o14 o15 o16 o17 o18 o19 : Option V) (H : Hp) (D : Ends), OnS K av H x du tk row → DuoV K H (.ref d) du → Big i → TopsAt (fun _ => True) H dt (runS du tk row).tops → TopsAt (fun _ => True) H dl (runS du tk row).lows → (∀ H' o13 o14 o15, Same H H' → D.nx [some (.ref x), some (.ref d), some (.ref rb), some (.bl tk), some (.ref y), some (.ref l), some (.ref lw), some (.ref ln), some (.ref dt), some (.ref dl), some gn, told, some (.int i), o13, o14, o15, o16, o17, o18, o19] H') → t D [some (.ref x), some (.ref d), some (.ref rb), some (.bl tk), some (.ref y), some (.ref l), some (.ref lw), some (.ref ln), some (.ref dt), some (.ref dl), some gn, told, some (.int i), o13, o14, o15, o16, o17, o18, o19] H := by
  have hu := hu_of hr
  refine ⟨_, (pss_cons (ps_par (by rfl) sc_q_shows.nd (i := 13) (j := 14) rfl rfl (by decide) rfl rfl (pa_cons (pe_op op_fdivW (pv 12) (pe_ix ix_tup (pe_ix ix_tup (pv 1) pe_int (fun _ _ => rfl)) pe_int (fun _ _ => rfl))) (pa_cons (pe_op op_fdivW (pv 12) (pe_ix ix_tup (pe_ix ix_tup (pv 1) pe_int (fun _ _ => rfl)) pe_int (fun _ _ => rfl))) pa_nil)) (by rfl))
      (pss_cons (ps_set (i := 15) sc_q_shows.nd rfl (Or.inl rfl) (pe_cmpR op_in_seq (pv 13) (pe_dget2 hu (pv 8) (pe_fn (ok_q_lot T) (hr.mono (by decide)) (by rfl) T.g_q_lot T.k_q_lot pass0 (pa_cons (pv 13) (pa_cons (pe_ix ix_tup (pe_ix ix_tup (pv 1) pe_int (fun _ _ => rfl)) pe_int (fun _ _ => rfl)) pa_nil))) (pe_lstS pa_nil) ⟨by rfl, by rfl, by rfl, by rfl⟩) (by rfl)))
      (pss_one (ps_if (pt_cmpR (op_neD hr.units) (pe_mt (pv 0) T.cl_Store T.me_Store_holds (ok_Store_holds T) (hr.mono (by decide)) pass0 (pa_cons (pv 12) pa_nil)) (pe_tupS (pa_cons (pv 15) (pa_cons (pe_cmpR op_in_seq (pv 14) (pe_dget2 hu (pv 9) (pe_fn (ok_q_lot T) (hr.mono (by decide)) (by rfl) T.g_q_lot T.k_q_lot pass0 (pa_cons (pv 14) (pa_cons (pe_ix ix_tup (pe_ix ix_tup (pv 1) pe_int (fun _ _ => rfl)) pe_int (fun _ _ => rfl)) pa_nil))) (pe_lstS pa_nil) ⟨by rfl, by rfl, by rfl, by rfl⟩) (by rfl)) pa_nil))) (nomark _)) (pss_one (ps_ret pe_bl)) pss_nil)))), ?_⟩
  try dsimp only [cxOf, Cx.nox, Cx.wish]
  intro x y l rb d av du row tk i lw ln dt dl gn told o12 o13 o14 o15 o16 o17 o18 o19 H D on hd bi ht hl q
  obtain ⟨b1, u, lo, hh, eb, hb, hu1, hlo, hhe⟩ := id hd.open
  cases eb
  obtain ⟨hst, ok, hbr, hlr, hfa⟩ := id on
  obtain ⟨ds0, pv0, t0, as0, a0, r0, hx, _⟩ := hst.last
  have c0 := T.cl_Store
  have c1 := T.me_Store_holds
  have o1 := ok.ub
  have o2 := ok.lb
  have o3 := ok.us
  have o4 := ok.ls
  have r1 := ht.isD
  have r2 := hl.isD
  lcg_src
  rename_i p1 H1 n1 S1 e1
  have w1 : inV (.int (i / du.ub)) ((getR (runS du tk row).tops (i / du.ub % du.us)).map V.int) = isHit du (runS du tk row) i := inV_ints _ _
  have w2 : inV (.int (i / du.lb)) ((getR (runS du tk row).lows (i / du.lb % du.ls)).map V.int) = hits du (lowP du i) (runS du tk row) := inV_ints _ _
  refine tops_getD (ht.same S1) e1 (fun l2 e2 => ?_)
  lcg_src
  rename_i z G1 S2 ez p2 G2 n2 S3 e3
  rw [w1]
  refine tops_getD ((hl.same S1).same (S2.trans S3)) e3 (fun l3 e4 => ?_)
  lcg_src
  rw [w2]
  lcg_src
  rw [SeqAt.eqv_refl _ (by with_unfolding_all rfl)]
  lcg_src
  exact q _ _ _ _ (by kas_types)
theorem cut_map (row : List Int) (lo hi : Option Int) : ∃ r3 : List Int, cutV (row.map V.int) lo hi = r3.map V.int ∧ (∀ i ∈ r3, i ∈ row) ∧ r3.length ≤ row.length := by
  unfold cutV
  refine ⟨_, by rw [← List.map_drop, ← List.map_take], fun i hi => List.mem_of_mem_drop (List.mem_of_mem_take hi), ?_⟩
  rw [List.length_take, List.length_drop]
  omega
theorem psd_keys {K : Fr0} {H : Hp} : ∀ {kvs : List (Key × V)} {ps : List (Str × Duo)}, Paired (fun kv p => kv.1 = Sum.inr p.1 ∧ DuoV K H kv.2 p.2) kvs ps → kvs.map (·.1) = (ps.map (·.1)).map Sum.inr
  | _, _, .nil => rfl
  | _, _, .cons ⟨h, _⟩ r => by rw [List.map_cons, List.map_cons, List.map_cons, h, psd_keys r]
theorem two_keys : ∀ {zs : List Str}, zs.Nodup → (∀ t ∈ zs, TagS t) → zs.length ≤ 2
  | [], _, _ => by decide
  | [_], _, _ => Nat.le_succ 1
  | [_, _], _, _ => Nat.le_refl 2
  | a :: b :: c :: r, nd, tg => by
    exfalso
    simp only [List.nodup_cons, List.mem_cons, not_or] at nd
    rcases tg a (by simp) with h1 | h1 <;> rcases tg b (by simp) with h2 | h2 <;> rcases tg c (by simp) with h3 | h3
    all_goals
      subst h1
      subst h2
      subst h3
      simp at nd
theorem pg_tags {pg : Pg} (ok : PgOk pg) : ∀ t ∈ pg.1.map (·.1), TagS t := fun t h => by
  obtain ⟨p, hp, rfl⟩ := List.mem_map.mp h
  exact ok.tg p hp
theorem pg_len {pg : Pg} (ok : PgOk pg) : pg.1.length ≤ 2 := by
  have := two_keys ok.nd (pg_tags ok)
  rw [List.length_map] at this
  exact this
/-- the names of a page, in order -/
theorem names_sorted {ps : List (Str × Duo)} (nd : (ps.map (·.1)).Nodup) (tg : ∀ p ∈ ps, TagS p.1) {ys : List Str} (hp : ys.Perm (ps.map (·.1))) (hs : sortedS ys = true) : ys = (entsM ps).map (·.1) := by
  have hm : ∀ t : Str, t ∈ ys ↔ t ∈ ps.map (·.1) := fun t => hp.mem_iff
  have hl : ∀ t : Str, t ∈ ps.map (·.1) ↔ (ps.lookup t).isSome = true := fun t => by
    constructor
    · intro h
      obtain ⟨p, h1, rfl⟩ := List.mem_map.mp h
      rw [lookup_nd nd h1]
      rfl
    · intro h
      obtain ⟨d, hd⟩ := Option.isSome_iff_exists.mp h
      exact List.mem_map.mpr ⟨_, mem_of_lookup hd, rfl⟩
  have hy : ys.Nodup := hp.nodup_iff.mpr nd
  have ht : ∀ t ∈ ys, TagS t := fun t h => by
    obtain ⟨p, h1, rfl⟩ := List.mem_map.mp ((hm t).mp h)
    exact tg p h1
  have key : ∀ zs : List Str, zs.Nodup → (∀ t ∈ zs, TagS t) → sortedS zs = true → zs = [] ∨ zs = [("own" : Str)] ∨ zs = [("b2" : Str)] ∨ zs = [("b2" : Str), ("own" : Str)] := fun zs nd tg hs => by
    have n1 : ¬ (("own" : Str) = ("b2" : Str)) := by decide
    match zs, nd, tg, hs with
    | [], _, _, _ => exact .inl rfl
    | [a], _, tg, _ =>
      rcases tg a (List.mem_cons_self ..) with rfl | rfl
      · exact .inr (.inl rfl)
      · exact .inr (.inr (.inl rfl))
    | [a, b], nd, tg, hs =>
      rw [List.nodup_cons] at nd
      rcases tg a (List.mem_cons_self ..) with rfl | rfl <;> rcases tg b (List.mem_cons_of_mem _ (List.mem_cons_self ..)) with rfl | rfl
      · exact absurd (List.mem_cons_self ..) nd.1
      · exact absurd hs (by decide +kernel)
      · exact .inr (.inr (.inr rfl))
      · exact absurd (List.mem_cons_self ..) nd.1
    | a :: b :: c :: r, nd, tg, hs =>
      exfalso
      simp only [List.nodup_cons, List.mem_cons, not_or] at nd
      rcases tg a (by simp) with h1 | h1 <;> rcases tg b (by simp) with h2 | h2 <;> rcases tg c (by simp) with h3 | h3
      all_goals
        subst h1
        subst h2
        subst h3
        simp at nd
  unfold entsM
  have k1 := hl "b2"
  have k2 := hl "own"
  rw [← hm] at k1 k2
  have n2 : ¬ (("b2" : Str) = ("own" : Str)) := by decide
  have n1 : ¬ (("own" : Str) = ("b2" : Str)) := by decide
  rcases key ys hy ht hs with rfl | rfl | rfl | rfl
  all_goals
    cases e1 : ps.lookup ("b2" : Str) <;> cases e2 : ps.lookup ("own" : Str)
    all_goals
      rw [e1] at k1
      rw [e2] at k2
      simp [n1, n2] at k1 k2 ⊢
end
end
section
/-! What the book shows, behind the rows. -/
open PySem PySem.Spec PyProof.Rows L2
local macro_rules | `(tactic| lcg_sub) => `(tactic| ((with_reducible apply sm_DpA); assumption; lcg_sub))
local macro_rules | `(tactic| lcg_sub) => `(tactic| ((with_reducible apply StoreAt.same); assumption; lcg_sub))
local macro_rules | `(tactic| lcg_sub) => `(tactic| ((with_reducible apply EntsAt.same); assumption; lcg_sub))
local macro_rules | `(tactic| lcg_sub) => `(tactic| ((with_reducible apply sm_FA); assumption; lcg_sub))
local macro_rules | `(tactic| lcg_sub) => `(tactic| ((with_reducible apply BookAt.same); assumption; lcg_sub))
local macro_rules | `(tactic| lcg_sub) => `(tactic| ((with_reducible apply LPages.same); assumption; lcg_sub))
local macro_rules | `(tactic| lcg_sub) => `(tactic| ((with_reducible apply PsD.same); assumption; lcg_sub))
local macro_rules | `(tactic| lcg_sub) => `(tactic| ((with_reducible apply TopsAt.same); assumption; lcg_sub))
local macro_rules | `(tactic| lcg_sub) => `(tactic| ((with_reducible apply OnS.same); assumption; lcg_sub))
section
variable {P : Program} {w : World} {K : Fr0} {mg : Str → Option Value} {base : Heap}
theorem ents_len {pg : Pg} (ok : PgOk pg) : (entsM pg.1).length = pg.1.length := by
  obtain ⟨ps, ws⟩ := pg
  have nd : (ps.map (·.1)).Nodup := ok.nd
  have tg : ∀ p ∈ ps, TagS p.1 := ok.tg
  have ln : ps.length ≤ 2 := pg_len ok
  have n1 : (("own" : Str) == ("b2" : Str)) = false := by decide
  have n2 : (("b2" : Str) == ("own" : Str)) = false := by decide
  show (entsM ps).length = ps.length
  unfold entsM
  match ps, nd, tg, ln with
  | [], _, _, _ => rfl
  | [(t, d)], _, tg, _ =>
    rcases tg (t, d) (List.mem_cons_self ..) with h | h
    · obtain rfl : t = "own" := h
      simp [List.lookup_cons, n2]
    · obtain rfl : t = "b2" := h
      simp [List.lookup_cons, n1]
  | [(t, d), (u, e)], nd, tg, _ =>
    rcases tg (t, d) (by simp) with h | h <;> rcases tg (u, e) (by simp) with h' | h'
    · obtain rfl : t = "own" := h
      obtain rfl : u = "own" := h'
      simp at nd
    · obtain rfl : t = "own" := h
      obtain rfl : u = "b2" := h'
      simp [List.lookup_cons, n1, n2]
    · obtain rfl : t = "b2" := h
      obtain rfl : u = "own" := h'
      simp [List.lookup_cons, n1, n2]
    · obtain rfl : t = "b2" := h
      obtain rfl : u = "b2" := h'
      simp at nd
theorem part_shR (T : Tx K mg) {f : Addr} {cdv : Value} {A : Around} {outer : List Env} {s : Shared} {HE : Hp} {E : XK} (hr : Room 12 (A.deeper (envOfC "_law_shows" (defScope s_q_shows) s.heap.objs.size f cdv)))  :
    ∃ t, PSs (cxOf CX0 P w K mg base N_q_shows "_law_shows" (defScope s_q_shows) f cdv A outer s HE E).nox (List.drop 4 (defBody s_q_shows)) t ∧ ∀ (y l : Addr) (ps : List Pg) (pg : Pg) (o0 o1 o2 o3 o6 o7 o8 o9 o10 o11 o12 o13 o14 o15 o16 o17 o18 o19 : Option V) (H : Hp) (D : Ends), BookAt K H y (ps ++ [pg]) → PgOk pg → ps.length ≤ 1000 → LPages K H l (ps ++ [pg]) → (∀ H', Same H H' → D.rt (.bl true) H') → t D [o0, o1, o2, o3, some (.ref y), some (.ref l), o6, o7, o8, o9, o10, o11, o12, o13, o14, o15, o16, o17, o18, o19] H := by
  have hu := hu_of hr
  refine ⟨_, (pss_cons (ps_asg (pe_ix ix_list (pv 5) (pe_un un_neg pe_int) (fun _ _ => rfl)) (pg_tup (n := 2) rfl (pgs_cons (pg_name (i := 16) sc_q_shows.nd rfl (Or.inr rfl)) (pgs_cons (pg_name (i := 17) sc_q_shows.nd rfl (Or.inl rfl)) pgs_nil))))
      (pss_cons (ps_if (pt_cmpR (op_neD hr.units) (pe_lstS (pa_cons (pe_pr (pv 4) T.cl_Book T.pr_Book_names (ok_Book_names T) (hr.mono (by decide))) (pa_cons (pe_pr (pv 4) T.cl_Book T.pr_Book_wishes (ok_Book_wishes T) (hr.mono (by decide))) (pa_cons (pe_pr (pv 4) T.cl_Book T.pr_Book_changes (ok_Book_changes T) (hr.mono (by decide))) pa_nil)))) (pe_lstS (pa_cons (pe_callTy call_TupL (by rfl) T.f_tuple boot_tupleT (pa_cons (pe_callB (call_SrtD rfl) (by rfl) T.f_sorted boot_sortedB (pa_cons (pv 16) pa_nil)) pa_nil)) (pa_cons (pv 17) (pa_cons (pe_op op_sub (pe_callB call_LenL (by rfl) T.f_len boot_lenB (pa_cons (pv 5) pa_nil)) pe_int) pa_nil)))) (nomark _)) (pss_one (ps_ret pe_bl)) pss_nil)
      (pss_cons (ps_lockS (ps_setLc (i := 18) (own := [("_law_tag", 19)]) (g := gName 19)  rfl sc_q_shows.nd rfl rfl (sw_true rfl rfl rfl (by decide +kernel)) (pi_keys (pv 16)) (blkOk_by (N := N_q_shows) (sc := defScope s_q_shows) (by decide +kernel)) (fun _ _ _ _ _ => (pg_name (i := 19) sc_q_shows.nd rfl (Or.inl rfl))) (fun _ _ _ _ _ => (pts_one (pt_cmpR (op_neOwn T.ne_Pair T.so_Pair T.me_Pair_eq (ok_Pair_eq T) (hr.mono (by decide))) (pe_ownIx (pv 4) (pv 19) T.me_Book_getitem T.fn_Book_get (ok_Book_getitem T) (hr.mono (by decide))) (pe_fn (ok_q_pair T) (hr.mono (by decide)) (by rfl) T.g_q_pair T.k_q_pair pass0 (pa_cons (pe_dget hu (pv 16) (pv 19) (fun _ _ => rfl)) pa_nil)) (nomark _)))) (fun _ _ _ _ _ => (pv 19))))
      (pss_one (ps_ret (pe_and (pe_cmpR (op_eqD hr.units) (pv 18) (pe_lstS pa_nil) (nomark _)) (pe_and (pe_cmpR op_eq (pe_callB (call_LenOwn T.me_Book_len (ok_Book_len T) (hr.mono (by decide))) (by rfl) T.f_len boot_lenB (pa_cons (pv 4) pa_nil)) (pe_callB call_LenDk (by rfl) T.f_len boot_lenB (pa_cons (pv 16) pa_nil)) (nomark _)) (pe_one (pe_cmpR op_lt (pe_fn (ok_q_first_bad T) (hr.mono (by decide)) (by rfl) T.g_q_first_bad T.k_q_first_bad pass0 (pa_cons (pv 16) (pa_cons (pv 17) pa_nil))) pe_int (nomark _)))))))))), ?_⟩
  try dsimp only [cxOf, Cx.nox, Cx.wish]
  intro y l ps pg o0 o1 o2 o3 o6 o7 o8 o9 o10 o11 o12 o13 o14 o15 o16 o17 o18 o19 H D hbk pok hpl hlp q
  obtain ⟨dsb, tb2, ssb, stb, eb, wb, vsb, hbk1, _⟩ := id hbk.last
  obtain ⟨ts, hts, htp⟩ := id hlp
  obtain ⟨ts0, tl, ets, htp0, d2, w2, vs2, k1, k2, k3, k4⟩ := Paired.snocInv htp
  subst ets
  rw [List.map_append] at hts
  have c2 := T.cl_Book
  lcg_src
  refine w_ixL (sq_L hts) (atI_last _ _) ?_
  lcg_src
  simp only [List.set_cons_succ, List.set_cons_zero]
  rename_i z9 G9 S10 e9 w9 vs9 e10 e11 p9 G10 n10 S11 e12
  obtain ⟨kvs, kv1, kv2⟩ := id k2
  refine ⟨d2, kvs, pg.1.map (·.1), rfl, .inl ((S10.trans S11) _ _ kv1), psd_keys kv2, by rw [List.length_map]; have := pg_len pok; omega, fun ys hp hs p10 G11 n11 S12 e13 => ?_⟩
  have hys := names_sorted pok.nd pok.tg hp hs
  rw [hys] at e13
  have S912 := (S10.trans S11).trans S12
  have hts12 := S912 _ _ hts
  have k3' := sm_T S912 k3
  have k4' := sm_DpA S912 k4
  lcg_src
  rename_i p11 G12 S13 e14 p12 G13 n13 S14 e15
  have tgs : ∀ wi ∈ pg.2, TagS wi.tag := fun wi hw => (pok.ws wi hw).1.tg
  have S1113 := S13.trans S14
  have hl0 : ((ts0.map V.ref ++ [tl].map V.ref).length : Int) - 1 = (ps.length : Int) := by
    rw [List.length_append, List.length_map, htp0.length]
    simp only [List.map_cons, List.map_nil, List.length_cons, List.length_nil]
    omega
  rw [hl0] at e15
  have nms : ∀ {G : Hp}, DpAll K G (((entsM pg.1).map (·.1)).map V.str) (((entsM pg.1).map (·.1)).map PyData.str) := dps_strs _
  have okd : OkD 4 (.list [.tuple (((entsM pg.1).map (·.1)).map PyData.str), .tuple (pg.2.map Wish.d), .int ps.length]) := .lst (okD_cons ((OkD.tup fun e he => by
    obtain ⟨t, ht, rfl⟩ := List.mem_map.mp he
    obtain ⟨p, hp, rfl⟩ := List.mem_map.mp ht
    exact OkD.str (n := 2) (tag_ok (ents_mem hp).1))) (okD_cons (.tup (wishes_okD tgs)) (okD_cons (.int _) okD_nil)))
  have em : (entsM pg.1).map (fun p => V.str p.1) = ((entsM pg.1).map (·.1)).map V.str := by
    rw [List.map_map]
    rfl
  rw [em] at e9
  have S913 : Same G9 G13 := ((S11.trans S12).trans S13).trans S14
  have dp1 : Dp K G13 (.ref p9) (.list [.tuple (((entsM pg.1).map (·.1)).map PyData.str), .tuple (pg.2.map Wish.d), .int ps.length]) := .lst (sq_L (((S12.trans S13).trans S14) _ _ e12)) (.cons (.tup (sm_T S913 e9) nms) (.cons (.tup (sm_T S913 e10) (sm_DpA S913 e11)) (.cons (.int _) .nil)))
  have dp2 : Dp K G13 (.ref p12) (.list [.tuple (((entsM pg.1).map (·.1)).map PyData.str), .tuple (pg.2.map Wish.d), .int ps.length]) := .lst (sq_L e15) (.cons (.tup (sm_T S14 e14) nms) (.cons (.tup (sm_T S1113 k3') (sm_DpA S1113 k4')) (.cons (.int _) .nil)))
  refine w_neD dp1 dp2 okd.sh okd.sh ?_
  rw [SeqAt.eqv_refl _ okd.1]
  have SH13 := S912.trans S1113
  clear okd dp1 dp2 n10 n11 n13 e9 e10 e11 e12 e13 e14 e15
  have hbk13 := hbk.same SH13
  have kv1' := SH13 _ _ kv1
  have k2' := k2.same SH13
  have hbk1' := SH13 _ _ hbk1
  lcg_src
  refine ⟨d2, _, kv1', trivial, fun od Hl Cl el => ?_⟩
  have hbkl := hbk13.chg Cl kv1' rfl
  have hbl := Cl _ _ (ne_tag hbk1' kv1' rfl) hbk1'
  obtain ⟨kvs3, kv3, kv4⟩ := id k2'
  rw [kv1'] at kv3
  cases kv3
  lcg_src
  refine .inl ⟨_, el, ?_⟩
  refine LcG.keys el (by have := kv4.length; have := pg_len pok; omega) (fun _ => none) (fun i v H2 Y2 N hv S2 hq hn => ?_) (fun D2 H2 nD S2 hD => ?_)
  · rw [List.getElem?_map] at hv
    cases ek : kvs[i]? with
    | none => rw [ek] at hv; cases hv
    | some kv =>
      rw [ek] at hv
      obtain rfl : kV kv.1 = v := Option.some.inj hv
      obtain ⟨p, hpi, hk1, hk2⟩ := paired_get kv4 ek
      have hpm := List.mem_of_getElem? hpi
      have hlk := lookup_nd pok.nd hpm
      have htg := pok.tg p hpm
      have hok := pok.ok p hpm
      have hkv : kV kv.1 = .str p.1 := by
        rw [hk1]
        rfl
      rw [hkv]
      have hb2 := hbkl.same S2
      have hbi2 := S2 _ _ hbl
      have el2 := S2 _ _ el
      have hdv : DuoV K H2 kv.2 p.2 := sm_Dp S2 (cg_D Cl hk2 (duo_tupO _) kv1' rfl)
      lcg_src
      refine ⟨y, _, _, rfl, hbi2, _, _, rfl, y, ps, pg, p.1, p.2, rfl, rfl, hb2, pok, htg, hlk, fun pv hpv => ?_⟩
      obtain ⟨dv, hdv0, hdd0⟩ := psd_get kv4 hlk
      have hdd : DuoV K H2 dv p.2 := sm_Dp S2 (cg_D Cl hdd0 (duo_tupO _) kv1' rfl)
      lcg_src
      refine ⟨d2, dv, rfl, .inl ⟨kvs, Sum.inr p.1, .inr ⟨od, el2⟩, rfl, hdv0.symm⟩, ?_⟩
      lcg_src
      rename_i pv2 H3 S3 hpv2
      have hpv3 := sm_P S3 hpv
      obtain ⟨pa, pdx, pb, pc, ph, ep, j1, _⟩ := id hpv3
      obtain ⟨pa', pdx', pb', pc', ph', ep', j1', _⟩ := id hpv2
      subst ep
      subst ep'
      refine ⟨pa, _, _, pa', _, _, rfl, rfl, j1, j1', _, _, rfl, p.2, hpv3, hpv2, fun H4 S4 => ⟨true, rfl, ?_⟩⟩
      lcg_src
      exact hn _ rfl (by kas_types)
  · have hD2 : H2 D2 = some (.lst []) := by
      rw [hD]
      congr 2
      generalize kvs.map (fun kv => kV kv.1) = l
      induction l with
      | nil => rfl
      | cons x r ih => rw [List.filterMap_cons_none rfl, ih]
    have nDd : D2 ≠ d2 := (ne_of_none el nD).symm
    clear hD
    refine ⟨S2 _ _ el, fun H3 C3 e3 => ?_⟩
    have S133 : Same G13 H3 := Same.unlock kv1' Cl S2 C3 e3
    have hD3 := C3 _ _ nDd hD2
    have dpD : Dp K H3 (.ref D2) (.list []) := .lst (sq_L hD3) .nil
    have hbk3 := hbk13.same S133
    have hbi3 := S133 _ _ hbk1'
    have k23 := k2'.same S133
    have k3'' := sm_T (S1113.trans S133) k3'
    have k4'' := sm_DpA (S1113.trans S133) k4'
    lcg_src
    rename_i p4 H4 n4 S4 e4
    obtain ⟨kvs4, q1, q2⟩ := id k23
    have hel := ents_len pok
    refine ⟨y, _, _, rfl, S4 _ _ hbi3, _, rfl, y, ps, pg, rfl, hbk3.same S4, _, rfl, by rw [hel]; have := pg_len pok; omega, ?_⟩
    lcg_src
    refine ⟨d2, kvs4, rfl, .inl (S4 _ _ q1), ?_⟩
    rw [hel, q2.length]
    lcg_src
    rw [decide_eq_true (show V.int (pg.1.length : Nat) = V.int (pg.1.length : Nat) from rfl)]
    have okp := pok.ok
    have okw := pok.ws
    have okl : pg.2.length ≤ 1000 := by have := pok.ln; omega
    have fI : firstI pg.1 pg.2 = -1 := by
      unfold firstI
      rw [pok.hold]
    lcg_src
    rename_i H5 S5
    rw [fI]
    exact q _ (((SH13.trans S133).trans S4).trans S5)
end
end
section
/-! What the store and the book show: the whole. -/
open PySem PySem.Spec PyProof.Rows L2
local macro_rules | `(tactic| lcg_sub) => `(tactic| ((with_reducible apply sm_DpA); assumption; lcg_sub))
local macro_rules | `(tactic| lcg_sub) => `(tactic| ((with_reducible apply StoreAt.same); assumption; lcg_sub))
local macro_rules | `(tactic| lcg_sub) => `(tactic| ((with_reducible apply EntsAt.same); assumption; lcg_sub))
local macro_rules | `(tactic| lcg_sub) => `(tactic| ((with_reducible apply sm_FA); assumption; lcg_sub))
local macro_rules | `(tactic| lcg_sub) => `(tactic| ((with_reducible apply BookAt.same); assumption; lcg_sub))
local macro_rules | `(tactic| lcg_sub) => `(tactic| ((with_reducible apply LPages.same); assumption; lcg_sub))
local macro_rules | `(tactic| lcg_sub) => `(tactic| ((with_reducible apply PsD.same); assumption; lcg_sub))
local macro_rules | `(tactic| lcg_sub) => `(tactic| ((with_reducible apply TopsAt.same); assumption; lcg_sub))
local macro_rules | `(tactic| lcg_sub) => `(tactic| ((with_reducible apply OnS.same); assumption; lcg_sub))
section
variable {P : Program} {w : World} {K : Fr0} {mg : Str → Option Value} {base : Heap}

theorem ok_q_shows (T : Tx K mg) : FnR P w K mg base CX0 13 (ad K "_law_shows") (spShows K) := by
  obtain ⟨fd, F⟩ := T.fd_q_shows
  refine fnr F (fun _ _ _ _ _ _ us hl => match us, hl with | [_, _, _, _, _, _], _ => rfl) sc_q_shows (fun vs H Q E h => ?_) (fun cdv A outer s H vs Q E hr h => ?_)
  · first | exact l1 h | exact l0 h | exact l2 h | exact l3 h | exact l4 h | exact l5 h | exact l6 h
  · have hu := hu_of hr
    obtain ⟨tr, hrest, hrest2⟩ := part_shR (P := P) (w := w) (base := base) (f := ad K "_law_shows") (cdv := cdv) (A := A) (outer := outer) (s := s) (HE := H) (E := E) T hr
    obtain ⟨tb, hbody, tbk⟩ := part_shL (P := P) (w := w) (base := base) (f := ad K "_law_shows") (cdv := cdv) (A := A) (outer := outer) (s := s) (HE := H) (E := E) T (hr.mono (by decide))
    refine ⟨_, PSs.nox (pss_cons (ps_asg (pe_fn (ok_q_run T) (hr.mono (by decide)) (by rfl) T.g_q_run T.k_q_run pass0 (pa_cons (pv 1) (pa_cons (pv 2) (pa_cons (pv 3) pa_nil)))) (pg_tup (n := 5) rfl (pgs_cons (pg_name (i := 6) sc_q_shows.nd rfl (Or.inl rfl)) (pgs_cons (pg_name (i := 7) sc_q_shows.nd rfl (Or.inl rfl)) (pgs_cons (pg_name (i := 8) sc_q_shows.nd rfl (Or.inl rfl)) (pgs_cons (pg_name (i := 9) sc_q_shows.nd rfl (Or.inl rfl)) (pgs_cons (pg_name (i := 10) sc_q_shows.nd rfl (Or.inl rfl)) pgs_nil)))))))
      (pss_cons (ps_set (i := 11) sc_q_shows.nd rfl (Or.inl rfl) (pe_lstS (pa_cons (pe_pr (pv 0) T.cl_Store T.pr_Store_asked (ok_Store_asked T) (hr.mono (by decide))) (pa_cons (pe_pr (pv 0) T.cl_Store T.pr_Store_notices (ok_Store_notices T) (hr.mono (by decide))) (pa_cons (pe_pr (pv 0) T.cl_Store T.pr_Store_taken (ok_Store_taken T) (hr.mono (by decide))) (pa_cons (pe_pr (pv 0) T.cl_Store T.pr_Store_alone (ok_Store_alone T) (hr.mono (by decide))) pa_nil))))))
      (pss_cons (ps_if (pt_cmpR (op_neD hr.units) (pv 11) (pe_lstS (pa_cons (pe_callB call_LenT (by rfl) T.f_len boot_lenB (pa_cons (pv 2) pa_nil)) (pa_cons (pe_callB call_LenL (by rfl) T.f_len boot_lenB (pa_cons (pv 7) pa_nil)) (pa_cons (pv 10) (pa_cons (pe_fn (ok_q_lonely T) (hr.mono (by decide)) (by rfl) T.g_q_lonely T.k_q_lonely pass0 (pa_cons (pv 1) (pa_cons (pv 8) (pa_cons (pv 9) pa_nil)))) pa_nil))))) (nomark _)) (pss_one (ps_ret pe_bl)) pss_nil)
      (pss_cons (ps_for PassesOwn.never rfl (pi_tup (pe_op op_CatTs (pe_slice sl_Ts (pv 2) (po_some (pe_un un_neg pe_int)) po_none) (pe_tupS (pa_cons pe_int (pa_cons (pe_op op_mulW pe_int (pe_ix ix_tup (pe_ix ix_tup (pv 1) pe_int (fun _ _ => rfl)) pe_int (fun _ _ => rfl))) pa_nil))))) (pg_name (i := 12) sc_q_shows.nd rfl (Or.inl rfl)) hbody)
      hrest)))), ?_⟩
    try dsimp only [cxOf, Cx.nox, Cx.wish]
    obtain ⟨st, d, r, t, bk, pgs, rfl, x, av, du, rb, row, tk, y, ps, pg, l, rfl, on, hd, rfl, hrw, rfl, rfl, hbk, pok, hpl, rfl, hlp, q⟩ := h
    obtain ⟨hst, ok, hbr, hlr, hfa⟩ := id on
    obtain ⟨ds0, pv0, t0, as0, a0, r0, hx, _⟩ := hst.last
    obtain ⟨dsb, tb2, ssb, stb, eb, wb, vsb, hbk1, _⟩ := id hbk.last
    obtain ⟨b1, u, lo, hh, rfl, hb, hu1, hlo, hhe⟩ := id hd.open
    have gd := runS_good (tk := tk) ok hbr row.length (Nat.le_refl _)
    rw [List.take_length] at gd
    have o1 := ok.ub
    have o2 := ok.lb
    have o3 := ok.us
    have o4 := ok.ls
    have hl90 : row.length ≤ 90 := by omega
    have c0 := T.cl_Store
    have c2 := T.cl_Book
    have hσ : start N_q_shows [.ref x, .ref b1, .ref rb, .bl tk, .ref y, .ref l] = [some (.ref x), some (.ref b1), some (.ref rb), some (.bl tk), some (.ref y), some (.ref l), none, none, none, none, none, none, none, none, none, none, none, none, none, none] := rfl
    rw [hσ]
    lcg_src
    rename_i z1 lw ln dt dl ns G1 S1 f0 f1 f2 f3 f4 f5 f6 z2 G2 S2 f7 p3 G3 n3 S3 f8 z4 G4 ns4 S4 g1 g2 g3 p5 G5 n5 S5 g4
    rw [sortI_eq g1 g2] at g3
    rw [List.length_map, List.length_map, f3] at g4
    have okd : OkD 2 (.list [.int row.length, .int (runS du tk row).noted, .int (runS du tk row).gone, .tuple ((aloneM du (runS du tk row)).map PyData.int)]) := .lst (okD_cons (.int _) (okD_cons (.int _) (okD_cons (.int _) (okD_cons (.tup (okD_ints _)) okD_nil))))
    have S45 := S4.trans S5
    have dp1 : Dp K G5 (.ref p3) (.list [.int row.length, .int (runS du tk row).noted, .int (runS du tk row).gone, .tuple ((aloneM du (runS du tk row)).map PyData.int)]) := .lst (sq_L (S45 _ _ f8)) (.cons (.int _) (.cons (.int _) (.cons (.int _) (.cons (DpAll.ints_at (sm_T (S3.trans S45) f7)) .nil))))
    have dp2 : Dp K G5 (.ref p5) (.list [.int row.length, .int (runS du tk row).noted, .int (runS du tk row).gone, .tuple ((aloneM du (runS du tk row)).map PyData.int)]) := .lst (sq_L g4) (.cons (.int _) (.cons (.int _) (.cons (.int _) (.cons (DpAll.ints_at (sm_T S5 g3)) .nil))))
    refine w_neD dp1 dp2 okd.sh okd.sh ?_
    rw [SeqAt.eqv_refl _ okd.1]
    clear okd dp1 dp2 n3 f8 g1 g2 g3 n5 g4 f7
    have S15 := (S2.trans S3).trans S45
    have SH5 := S1.trans S15
    lcg_src
    rename_i p6 G6 S6 f8 p7 G7 S7 f9
    obtain ⟨r3, er3, hm3, hl3⟩ := cut_map row (some (-3)) none
    rw [er3] at f8 ⊢
    refine ⟨by rw [List.length_map]; exact Nat.le_trans (show _ ≤ 5000 by simp only [List.length_cons, List.length_nil]; omega) (by decide), fun p8 G8 S8 f10 => ?_⟩
    have S58 := (S6.trans S7).trans S8
    have SH8 := SH5.trans S58
    have S18 := S15.trans S58
    have eap : r3.map V.int ++ [V.int 0, V.int (5 * du.ub)] = (r3 ++ [0, 5 * du.ub]).map V.int := by
      rw [List.map_append]
      rfl
    rw [eap] at f10
    have hbig : ∀ i ∈ r3 ++ [0, 5 * du.ub], Big i := fun i hi => by
      rcases List.mem_append.mp hi with z | z
      · exact hbr i (hm3 i z)
      · simp only [List.mem_cons, List.not_mem_nil, or_false] at z
        rcases z with rfl | rfl
        · exact ⟨Int.le_refl 0, by decide⟩
        · exact ⟨by omega, by omega⟩
    refine ⟨p8, rfl, ⟨_, f10⟩, ?_⟩
    simp only [List.set_cons_succ, List.set_cons_zero]
    refine ForG.tup (K := K) (xs := (r3 ++ [0, 5 * du.ub]).map V.int) (fun i σ' H' => Same G8 H' ∧ ∃ o12 o13 o14 o15, σ' = [some (.ref x), some (.ref b1), some (.ref rb), some (.bl tk), some (.ref y), some (.ref l), some (.ref lw), some (.ref ln), some (.ref dt), some (.ref dl), some (.int (runS du tk row).gone), some (.ref p3), o12, o13, o14, o15, none, none, none, none]) ⟨Same.refl _, _, _, _, _, rfl⟩ (fun i σ' H' z => sm_T z.1 f10) (fun i v σ' H' hv hp => ?_) (fun σ' H' hp => ?_)
    · obtain ⟨S9, o12, o13, o14, o15, rfl⟩ := hp
      obtain ⟨n, rfl, hn⟩ := row_at2 hv
      have S19 := S18.trans S9
      refine w_gname ?_
      simp only [List.set_cons_succ, List.set_cons_zero]
      exact tbk x y l rb b1 av du row tk n lw ln dt dl _ _ o12 o13 o14 o15 _ _ _ _ H' _ (on.same (SH8.trans S9)) (sm_Dp (SH8.trans S9) hd) (hbig n (List.mem_of_getElem? hn)) (f5.same S19) (f6.same S19) (fun H'' o13 o14 o15 S10 => ⟨S9.trans S10, _, _, _, _, rfl⟩)
    · obtain ⟨S9, o12, o13, o14, o15, rfl⟩ := hp
      have SH9 := SH8.trans S9
      exact hrest2 y l ps pg _ _ _ _ _ _ _ _ _ _ _ _ _ _ _ _ _ _ H' _ (hbk.same SH9) pok hpl (hlp.same SH9) (fun H'' S => q H'' (SH9.trans S))
end
end
section
/-! Promises that hold where no guard stands (repr asks for it). -/
open PySem PySem.Spec PyProof.Rows L2 LamX
def FnRG (P : Program) (w : World) (K : Fr0) (mg : Str → Option Value) (base : Heap) (CX : CXT) (k : Nat) (f : Addr) (sp : Sp) : Prop :=
  ∀ (A : Around) (outer : List Env) (s : Shared) (H : Hp) (us : List Value) (vs : List V) (Q : VK) (E : XK), Room k A → A.guards = some [] → Env0 P w K mg base A outer s H → Vals vs us → sp vs H Q E →
    codeAny (model P w) A (.call (.ref f) ⟨us, []⟩) (CR CX outer P w H s Q E) s
theorem fnrTG {P : Program} {w : World} {K : Fr0} {mg : Str → Option Value} {base : Heap} {x qual : Str} {params : Arguments} {body : List Stmt} {scope : Scope} {f : Addr} {fd : FuncData} {CX : CXT} {N ps : List Str} {k : Nat} {sp : Sp} (p : He.Defn) (hp : He.fAd K p = f)
    (F : FunD K x qual params body scope [] [] f fd)
    (hb : ∀ (kV doc pm : Value) (an : Option Addr) (cdv ct : Value) (us : List Value), us.length = ps.length → bindArgs (PySem.W.fnOf x qual params body scope .none kV doc pm an cdv ct) ⟨us, []⟩ = pure (ps.zip us))
    (S : FnScope N ps scope) (len : ∀ vs H Q E, sp vs H Q E → vs.length = ps.length)
    (hbody : ∀ (A : Around) (outer : List Env) (s : Shared) (H : Hp) (vs : List V) (Q : VK) (E : XK), Room k (A.deeper (envOfC qual scope s.heap.objs.size f (.ref (He.cT K p).1))) → (A.deeper (envOfC qual scope s.heap.objs.size f (.ref (He.cT K p).1))).guards = some [] → sp vs H Q E →
      ∃ t, PSs (cxOf CX P w K mg base N qual scope f (.ref (He.cT K p).1) A outer s H E) body t ∧ t { nx := fun _ H' => Q .non H', rt := Q } (start N vs) H) : FnRG P w K mg base CX (k + 1) f sp := by
  intro A outer s H us vs Q E hr hg e0 rv h
  have F' := F
  obtain ⟨oc, od, dV, kV, doc, pm, an, cdv, ct, osl, e, lk, hcd, _, _⟩ := F'.ex
  obtain ⟨c, rfl⟩ := He.codeIn_ref hcd
  have hc : (He.cT K p).1 = c := He.codeOf_eq (by rw [hp]; exact lk) (by rw [e])
  subst e
  subst hc
  have hl := len _ _ _ _ h
  have hbt := (F.bindsN hb) s us (e0.mod.kin.keeps fun b o e => (e0.bs b o e).1) (by rw [List.append_nil, ← rv.length]; exact hl)
  rw [List.append_nil] at hbt
  exact run_ofS lk hcd S hr e0 hbt rv hl fun hr' => hbody A outer s H vs Q E hr' hg h
/-- without a table -/
theorem fnrG {P : Program} {w : World} {K : Fr0} {mg : Str → Option Value} {base : Heap} {x qual : Str} {params : Arguments} {body : List Stmt} {scope : Scope} {f : Addr} {fd : FuncData} {CX : CXT} {N ps : List Str} {k : Nat} {sp : Sp}
    (F : FunD K x qual params body scope [] [] f fd)
    (hb : ∀ (kV doc pm : Value) (an : Option Addr) (cdv ct : Value) (us : List Value), us.length = ps.length → bindArgs (PySem.W.fnOf x qual params body scope .none kV doc pm an cdv ct) ⟨us, []⟩ = pure (ps.zip us))
    (S : FnScope N ps scope) (len : ∀ vs H Q E, sp vs H Q E → vs.length = ps.length)
    (hbody : ∀ (cdv : Value) (A : Around) (outer : List Env) (s : Shared) (H : Hp) (vs : List V) (Q : VK) (E : XK), Room k (A.deeper (envOfC qual scope s.heap.objs.size f cdv)) → (A.deeper (envOfC qual scope s.heap.objs.size f cdv)).guards = some [] → sp vs H Q E →
      ∃ t, PSs (cxOf CX P w K mg base N qual scope f cdv A outer s H E) body t ∧ t { nx := fun _ H' => Q .non H', rt := Q } (start N vs) H) : FnRG P w K mg base CX (k + 1) f sp := by
  intro A outer s H us vs Q E hr hg e0 rv h
  have F' := F
  obtain ⟨oc, od, dV, kV, doc, pm, an, cdv, ct, osl, e, lk, hcd, _, _⟩ := F'.ex
  subst e
  have hl := len _ _ _ _ h
  have hbt := (F.bindsN hb) s us (e0.mod.kin.keeps fun b o e => (e0.bs b o e).1) (by rw [List.append_nil, ← rv.length]; exact hl)
  rw [List.append_nil] at hbt
  exact run_ofS lk hcd S hr e0 hbt rv hl fun hr' => hbody cdv A outer s H vs Q E hr' hg h
section
variable {X : Cx} {CX : CXT} {k : Nat} {f : Addr} {sp : Sp} {E : XK} {x : Str} {p pos : Pos} {e : Expr} {es : List Expr} {t : TA}
theorem pe_fnG (F : FnRG X.prog X.w X.K X.mg X.base CX k f sp) (hr : Room k X.A) (hgd : X.A.guards = some []) (hg : Gl X x) (hm : X.mg x = some (.ref f)) (hk : PySem.W.keepIn X.K (.ref f) = true) (hx : Passes CX X E)
    (ha : PA X (e :: es) t) (hdb : (x == ("__debug__" : Str)) = false := by decide) (he : starEach (e :: es) X.env = (false, eval e X.env) :: starEach es X.env := by rfl) (hpl : (backTo pos (starEach es X.env)).any (·.1) = false := by rfl) :
    PE X (.Call (.Name x p) (e :: es) [] pos) (tFn sp E t) := by
  constructor
  intro pins s σ H Q I h
  refine wpAny_Call_Name_kw (ld_glob I hg hm ?_ hdb)
  refine PySem.W.callWith_K (h₀ := X.base) I.ok.mod.kin hk (thn (ha.run pos pins s σ H _ I h) fun us s1 r => ?_) he hpl
  obtain ⟨vs, H1, I1, rv, q⟩ := r
  refine ⟨I1.kIn, wpAny_call (codeAny_mono (F X.A X.stack s1 H1 us vs Q E hr hgd I1.env0 rv q) fun r s' hq => ?_)⟩
  cases r with
  | error e => exact hx pins σ H1 s1 e s' I1 hq
  | ok fl =>
    cases fl with
    | ret u => exact I1.after hq
    | next => exact False.elim hq
    | brk => exact False.elim hq
    | cont => exact False.elim hq
end
end
section
/-! How a call ended: _law_came of a lambda that makes a lambda. -/
open PySem PySem.Spec PyProof.Rows L2 LamX
section
variable {P : Program} {w : World} {K : Fr0} {mg : Str → Option Value} {base : Heap}
/-- _law_came(lambda: body), the body makes a lambda itself -/
def tCameN (T : LTabs) (q : Str) (t : Addr → Addr → XK → TE) : Fr0 → TE := fun K σ H Q => Tabs2 T H ∧ ∀ H1 c' P', ExtN H H1 → Tabs2 T H1 → H1 c' = some (CodeO2 c' q P') → P' ∉ T.map (·.1) → TabS H1 P' (subQ q) → TCame K (fun E H' Q' => t c' P' E σ H' Q') H1 Q
theorem pe_cameN {X : Cx} {TT : LTabs} {c PT : Addr} {k : Nat} {params : Arguments} {body : Expr} {scope : Scope} {t : Addr → Addr → XK → TE} {p lpos pos : Pos} (T : Tx X.K X.mg) (hg : Gl X "_law_came")
    (TB : TabB X.base X.mg c PT) (hcode : X.env.code = .ref c) (hmT : (PT, X.env.qual ++ "<lambda>", true) ∈ TT) (hu : ∀ p ∈ TT, p.1 = PT → p.2 = (X.env.qual ++ "<lambda>", true)) (hr : Room (k + 2) X.A) (L : LamP X.env.scope scope []) (hdef : defaultsOf params X.env = ([], []))
    (hbind : ∀ (q : Str) (cl : List (Str × Addr)) (pm cv ctv : Value), bindArgs (PySem.W.kla_fn "<lambda>" q params body scope cl pm cv ctv) ⟨[], []⟩ = pure [])
    (hbody : ∀ (A : Around) (outer : List Env) (s : Shared) (H : Hp) (E : XK) (f c' P' : Addr), Room k (A.deeper (lamEnv X scope s.heap.objs.size f c')) → PE (lamCxP X A outer s H E scope f c' []) body (t c' P' E)) :
    PE X (.Call (.Name "_law_came" p) [.Lambda params body scope lpos] [] pos) (tCameN TT (X.env.qual ++ "<lambda>") t X.K) := by
  refine ⟨fun pins s σ H Q I h => ?_⟩
  obtain ⟨hT, h⟩ := h
  obtain ⟨fd, F⟩ := T.fd_q_came
  obtain ⟨oc, od, dV, kV, doc, pm, an, cdv, ct, osl, rfl, lk, hcg, _, _⟩ := F.ex
  refine wpAny_Call_Name_kw (ld_glob I hg T.g_q_came ?_ (by decide))
  refine PySem.W.callWith_K (h₀ := X.base) I.ok.mod.kin F.kp ?_ (by rfl) (by rfl)
  show wpAny _ _ (spliced ((false, eval (.Lambda params body scope lpos) X.env) :: backTo pos (starEach [] X.env))) _ _ s
  refine Calls.spliced_cons (lam_mk2 I (TabN.of I TB) hcode hmT hu hT hdef (L.has I.ok) fun f c' P' pm' ctv H1 s' I1 eN T1 hf hfn hfr hco hts => ?_)
  refine Calls.spliced_nil ⟨I1.kIn, ?_⟩
  have rc : codeAny (model X.prog X.w) X.A (.call (.ref (ad X.K "_law_came")) ⟨[.ref f], []⟩) (CR CX0 X.stack X.prog X.w H1 s' Q E0) s' := by
    refine run_ofS (N := N_q_came) (ps := ["_law_act"]) (us := [.ref f]) (vs := [.ref f]) lk hcg sc_q_came hr I1.env0 ?_ (.cons rfl .nil) rfl fun hr' => ?_
    · exact (F.bindsN (ps := ["_law_act"]) fun _ _ _ _ _ _ us hl => match us, hl with | [_], _ => rfl) s' [.ref f] I1.kIn rfl
    · obtain ⟨t', ht', hq'⟩ := came_body (X := X) (f := f) (c' := c') (co := CodeO2 c' (X.env.qual ++ "<lambda>") P') (tl := fun E H' Q' => t c' P' E σ H' Q') T
        (fun W pn xe E p1 p2 tk hW => pe_act0 (i := 0) I1 L hf hfn hfr (hbind _ _ _ _ _) (codK2 _ _ _) tk hW hr' (fun A outer s H hr2 => hbody A outer s H E f c' P' hr2) rfl (.inl rfl)) hco (h H1 c' P' eN T1 hco (hts rfl).1 (hts rfl).2)
      exact ⟨t', ht'.nox, hq'⟩
  refine wpAny_call (codeAny_mono rc fun r s2 hq => ?_)
  cases r with
  | error e => exact (show False from hq).elim
  | ok fl =>
    cases fl with
    | ret u => exact I1.after hq
    | next => exact False.elim hq
    | brk => exact False.elim hq
    | cont => exact False.elim hq
end
end
section
/-! A trial's asks, taken back once. -/
open PySem PySem.Spec PyProof.Rows L2
theorem words_snoc (du : Duo) (tk : Bool) (row : List Int) (x : Int) : wordsM du tk (row ++ [x]) = wordsM du tk row ++ [word du (runS du tk row) x] := by
  have h : (row ++ [x])[row.length]? = some x := by simp
  have e := words_take (du := du) (tk := tk) h
  rw [List.take_of_length_le (by simp), List.take_append_of_le_length (Nat.le_refl _), List.take_length] at e
  exact e
theorem LcG.gen2 {J : It} {n : Nat} {G : Hp → Prop} {Y : Nat → Hp → V → Hp → Prop} {g : TG} {tt : TT} {te : TE} {vs : List Nat} {σ : L2.St} {H1 : Hp} {Q : VK} (w : Walk J n G Y) (hz : n < 100000) (I : Addr → Nat → List V → Hp → Prop)
    (h0 : ∀ D H', H1 D = none → Same H1 H' → H' D = some (.lst []) → I D 0 [] H') (hG : ∀ D i ys H', I D i ys H' → G H') (hst : ∀ D i ys H H' l, H1 D = none → I D i ys H → Chg D H H' → (∃ l, H D = some (.lst l)) → H' D = some (.lst l) → I D i ys H')
    (hs : ∀ D i x ys H H' (Y2 : VK) (N : Hp → Prop), H1 D = none → i < n → ys.length = i → H D = some (.lst ys) → I D i ys H → Y i H x H' → (∀ y H4, I D (i + 1) (ys ++ [y]) H4 → H4 D = some (.lst ys) → Y2 y H4) →
      g x (wipe σ vs) H' fun σ2 H2 => wipe σ2 vs = wipe σ vs ∧ tt σ2 H2 fun b H3 => if b = true then te σ2 H3 Y2 else N H3)
    (hq : ∀ D ys H', H1 D = none → ys.length = n → I D n ys H' → H' D = some (.lst ys) → Q (.ref D) H') : LcG J g tt te vs σ H1 Q := by
  intro D hD
  refine lc_it w (fun i H => ∃ ys, ys.length = i ∧ I D i ys H ∧ H D = some (.lst ys)) ⟨[], rfl, h0 D _ hD (Same.of_new hD) upd_same, upd_same⟩ (fun i H _ p => ?_) (fun i x H H' hi p y => ?_) fun H p => ?_
  · obtain ⟨ys, _, p1, _⟩ := p
    exact hG D i ys H p1
  · obtain ⟨ys, l1, p1, p2⟩ := p
    refine hs D i x ys H H' _ _ hD hi l1 p2 p1 y fun y H4 i4 d4 => ⟨ys, d4, Nat.lt_of_lt_of_le (show ys.length < 100000 by omega) (by decide), ys ++ [y], by simp [l1], hst D _ _ _ _ _ hD i4 Chg.of ⟨_, d4⟩ upd_same, upd_same⟩
  · obtain ⟨ys, l1, p1, p2⟩ := p
    exact hq D ys H hD l1 p1 p2
section
variable {P : Program} {w : World} {K : Fr0} {mg : Str → Option Value} {base : Heap}
abbrev spTriedL (K : Fr0) : Sp := s2 fun hd so H Q _ => ∃ x av du tk row b xs, hd = .ref x ∧ so = .ref b ∧ OnS K av H x du tk row ∧ SqT K H b (xs.map V.int) ∧ (∀ y ∈ xs, Big y) ∧ xs ≠ [] ∧ row.length + xs.length ≤ 60 ∧
  ∀ z l H', Chg x H H' → StF K x H H' → SqT K H' z [.ref l, .int (row.length + xs.length - 1 : Nat)] → H' l = some (.lst (((wordsM du tk (row ++ xs)).drop row.length).map V.str)) → Q (.ref z) H'
abbrev N_q_tried : List Str := ["_law_held", "_law_some", "_law_words", "_law_place_here"]
abbrev P_q_tried : List Str := ["_law_held", "_law_some"]
theorem sc_q_tried : FnScope N_q_tried P_q_tried (defScope s_q_tried) := ⟨rfl, rfl, rfl, by decide +kernel, rfl, by decide +kernel, by decide +kernel⟩
theorem ok_q_tried (T : Tx K mg) : FnR P w K mg base CX0 8 (ad K "_law_tried") (spTriedL K) := by
  obtain ⟨fd, F⟩ := T.fd_q_tried
  refine fnr F (fun _ _ _ _ _ _ us hl => match us, hl with | [_, _], _ => rfl) sc_q_tried (fun vs H Q E h => ?_) (fun cdv A outer s H vs Q E hr h => ?_)
  · first | exact l1 h | exact l0 h | exact l2 h | exact l3 h | exact l4 h | exact l5 h | exact l6 h
  · have hu := hu_of hr
    refine ⟨_, PSs.nox (pss_cons (ps_setLc (i := 2) (own := [("_law_place_here", 3)]) (g := gName 3)  (tt := tYes) rfl sc_q_tried.nd rfl rfl (sw_true rfl rfl rfl (by decide +kernel)) (pi_tup (pv 1)) (blkOk_by (N := N_q_tried) (sc := defScope s_q_tried) (by decide +kernel)) (fun _ _ _ _ _ => (pg_name (i := 3) sc_q_tried.nd rfl (Or.inl rfl))) (fun _ _ _ _ _ => pts_nil) (fun _ _ _ _ _ => (pe_mt (pv 0) T.cl_Store T.me_Store_ask (ok_Store_ask T) (hr.mono (by decide)) passN (pa_cons (pv 3) pa_nil))))
      (pss_cons (ps_expr (pe_mt0 (pv 0) T.cl_Store T.me_Store_undo (ok_Store_undo T) (hr.mono (by decide)) passN))
      (pss_one (ps_ret (pe_tupS (pa_cons (pv 2) (pa_cons (pe_pr (pv 0) T.cl_Store T.pr_Store_asked (ok_Store_asked T) (hr.mono (by decide))) pa_nil))))))), ?_⟩
    try dsimp only [cxOf, Cx.nox, Cx.wish]
    obtain ⟨hd, so, rfl, x, av, du, tk, row, b, xs, rfl, rfl, ⟨hs, ok, hb, hl, fa⟩, hx, hbx, hne, hln, q⟩ := h
    obtain ⟨ds, pv, t, as1, a, r, h1, _⟩ := hs.last
    have c0 := T.cl_Store
    have c1 := T.me_Store_ask
    have c2 := T.me_Store_undo
    lcg_src
    refine LcG.gen2 (walk_tup (K := K) (a := b) (xs := xs.map V.int)) (by rw [List.length_map]; omega) (fun D i ys H' => Chg x H H' ∧ StF K x H H' ∧ StoreAt K (fun b => av b ∧ b ≠ D) H' x du tk (row ++ xs.take i) ∧ FA (fun b => av b ∧ b ≠ D) H' ∧ (∃ o, H' D = some o) ∧ ys = ((wordsM du tk (row ++ xs.take i)).drop row.length).map V.str)
      (fun D H' nD S e => ⟨SW.Same.chg S, StF.same S, ?_, ?_, ⟨_, e⟩, ?_⟩) (fun D i ys H' I => cg_T I.1 hx h1 rfl) (fun D i ys H2 H' l nD I C hl e => ?_) (fun D i v ys H2 H' Y2 N nD hi hlen hD I hy hq => ?_) (fun D ys H' nD hlen I hD => ?_)
    · rw [List.take_zero, List.append_nil]
      exact (hs.re (fun b xs h1 h2 => ⟨h1, ne_of_none h2 nD⟩)).same S
    · exact fun p np => ⟨fa.same S p np, fun z => by
        rw [z, e] at np
        cases np⟩
    · rw [List.take_zero, List.append_nil, List.drop_of_length_le (by rw [words_len]; exact Nat.le_refl _)]
      rfl
    · obtain ⟨i1, i2, i3, i4, i5, i6⟩ := I
      obtain ⟨dx, bo, s1, hx2⟩ : ∃ dx bo s1, H2 x = some (.ins (ad K "Store") dx (storeF bo s1)) := by
        obtain ⟨s1, h⟩ := i2 _ _ _ h1
        exact ⟨_, _, s1, h⟩
      obtain ⟨l0, hl⟩ := hl
      have nx : x ≠ D := ne_tag hx2 hl rfl
      refine ⟨fun b o n hb => C b o (ne_of_none hb nD) (i1 b o n hb), fun ds bo ss h => ?_, i3.chl C ⟨_, hl⟩ (fun b h => h.2), i4.chg C ⟨_, e⟩, ⟨_, e⟩, i6⟩
      obtain ⟨s1, h2⟩ := i2 _ _ _ h
      exact ⟨s1, C _ _ nx h2⟩
    · obtain ⟨i1, i2, i3, i4, i5, i6⟩ := I
      obtain ⟨rfl, hv⟩ := hy
      have hi2 : i < xs.length := by
        rw [List.length_map] at hi
        exact hi
      have hv2 : xs[i]? = some xs[i] := List.getElem?_eq_getElem hi2
      have ev : v = .int xs[i] := by
        rw [List.getElem?_map, hv2] at hv
        exact (Option.some.inj hv).symm
      subst ev
      obtain ⟨s1, hx2⟩ := i2 _ _ _ h1
      have et : row ++ xs.take (i + 1) = (row ++ xs.take i) ++ [xs[i]] := by
        rw [List.take_add_one, hv2, List.append_assoc]
        rfl
      have on : OnS K (fun b => av b ∧ b ≠ D) H' x du tk (row ++ xs.take i) := ⟨i3, ok, fun y hy => by
        rcases List.mem_append.mp hy with h | h
        · exact hb y h
        · exact hbx y (List.mem_of_mem_take h), by
        rw [List.length_append, List.length_take]
        omega, i4⟩
      lcg_src
      refine .inl ⟨_, rfl, hbx _ (List.getElem_mem hi2), fun H3 C3 s3 f3 t3 => ?_⟩
      · have nx : D ≠ x := fun z => by
          rw [z, hx2] at hD
          cases hD
        have hD3 := C3 _ _ nx hD
        refine hq _ _ ⟨fun b o n hb => C3 b o n (i1 b o n hb), i2.trans t3, by rw [et]; exact s3, f3, ⟨_, hD3⟩, ?_⟩ hD3
        rw [et, words_snoc, List.drop_append_of_le_length (by rw [words_len, List.length_append]; omega), List.map_append, i6]
        rfl
    · obtain ⟨i1, i2, i3, i4, i5, i6⟩ := I
      rw [List.length_map, List.take_length] at i3 i6
      obtain ⟨s1, hx2⟩ := i2 _ _ _ h1
      have hln2 : (row ++ xs).length ≤ 60 := by rw [List.length_append]; omega
      have hb2 : ∀ y ∈ row ++ xs, Big y := fun y hy => by
        rcases List.mem_append.mp hy with h | h
        · exact hb y h
        · exact hbx y h
      have hne2 : row ++ xs ≠ [] := fun z => hne (List.append_eq_nil_iff.mp z).2
      have on : OnS K (fun b => av b ∧ b ≠ D) H' x du tk (row ++ xs) := ⟨i3, ok, hb2, hln2, i4⟩
      lcg_src
      refine ⟨fun H3 _ C3 s3 f3 t3 => ?_, fun z => absurd z hne2⟩
      obtain ⟨s2, hx3⟩ := t3 _ _ _ hx2
      have nx : D ≠ x := fun z => by
        rw [z, hx2] at hD
        cases hD
      have hD3 := C3 _ _ nx hD
      have on2 : OnS K (fun b => av b ∧ b ≠ D) H3 x du tk (row ++ xs).dropLast := ⟨s3, ok, fun y hy => hb2 y (List.dropLast_subset _ hy), by rw [List.length_dropLast]; omega, f3⟩
      lcg_src
      rename_i p4 G4 S4 e4
      refine q p4 D G4 (fun b o n hb => S4 _ _ (C3 b o n (i1 b o n hb))) ((i2.trans t3).trans (StF.same S4)) ?_ (by rw [← i6]; exact S4 _ _ hD3)
      rw [List.length_dropLast, List.length_append] at e4
      exact e4
end
end
section
/-! A step of the store, part by part. -/
open PySem PySem.Spec PyProof.Rows L2 LamX
/-- how things stand before a step: the flask at a, the store at x -/
structure SIn (K : Fr0) (H : Hp) (a x d : Addr) (du : Duo) (rb : Addr) (row : List Int) (tk : Bool) : Prop where
  fl : Fl H a
  on : OnS K (fun b => b ≠ a) H x du tk row
  hd : DuoV K H (.ref d) du
  hr : SqT K H rb (row.map V.int)
  ln : row.length ≤ 40
  tb : Tabs2 (TTab K) H
theorem fa_fl {H : Hp} {a : Addr} (f : Fl H a) : FA (fun b => b ≠ a) H := fun p n e => by
  obtain ⟨x, y, z, h⟩ := f
  rw [e, h] at n
  cases n
theorem cF_On {K : Fr0} {H H' : Hp} {a x : Addr} {du : Duo} {tk : Bool} {row : List Int} (C : Chg a H H') (f : Fl H a) (f' : Fl H' a) (h : OnS K (fun b => b ≠ a) H x du tk row) : OnS K (fun b => b ≠ a) H' x du tk row := by
  obtain ⟨u, v, z, hf⟩ := f
  exact ⟨h.1.chl C ⟨_, hf⟩ (fun b h => h), h.2.1, h.2.2.1, h.2.2.2.1, fa_fl f'⟩
theorem cF_Tb {K : Fr0} {H H' : Hp} {a : Addr} (C : Chg a H H') (f : Fl H a) (t : Tabs2 (TTab K) H) : Tabs2 (TTab K) H' := by
  obtain ⟨u, v, z, hf⟩ := f
  exact t.chg C hf rfl
/-- what a step gives -/
def SOut (K : Fr0) (H : Hp) (a x : Addr) (du : Duo) (n : Nat) (tk : Bool) (Q : VK) : Prop := ∀ z rb' H', ∀ row' : List Int, FrN [a, x] H H' → Fl H' a → OnS K (fun b => b ≠ a) H' x du tk row' → row'.length ≤ n + 1 → Tabs2 (TTab K) H' →
  SqT K H' z [.bl true, .ref rb'] → SqT K H' rb' (row'.map V.int) → Q (.ref z) H'
theorem fl_at {H : Hp} {a : Addr} (f : Fl H a) : ∃ x y z, H a = some (.lst [x, y, z]) := by
  obtain ⟨x, y, z, h⟩ := f
  exact ⟨_, _, _, h⟩
theorem ex_Fl {H H' : Hp} {a : Addr} (S : ExtN H H') (f : Fl H a) : Fl H' a := by
  obtain ⟨x, y, z, h⟩ := f
  exact ⟨x, y, z, ext_k S _ _ rfl h⟩
theorem cut_last (row : List Int) : cutV (row.map V.int) none (some (-1)) = row.dropLast.map V.int := by
  by_cases h : row = []
  · subst h
    unfold cutV
    rw [List.map_nil, List.drop_nil, List.take_nil]
    rfl
  · have e := List.dropLast_concat_getLast h
    conv => lhs; rw [← e]
    rw [List.map_append]
    exact cut_init _ _
theorem eqv_nil {ds : List PyData} (h : ds ≠ []) : PyData.eqv (.tuple ds) (.tuple []) = false := by
  cases ds with
  | nil => exact absurd rfl h
  | cons x r => with_unfolding_all rfl
theorem ex_On {K : Fr0} {H H' : Hp} {a x : Addr} {du : Duo} {tk : Bool} {row : List Int} (S : ExtN H H') (f : Fl H' a) (h : OnS K (fun b => b ≠ a) H x du tk row) : OnS K (fun b => b ≠ a) H' x du tk row :=
  ⟨ex_St S h.1, h.2.1, h.2.2.1, h.2.2.2.1, fun p n e => by
    obtain ⟨l1, l2, l3, hl⟩ := fl_at f
    rw [e, hl] at n
    cases n⟩
local macro_rules | `(tactic| lcg_sub) => `(tactic| ((with_reducible apply sm_DpA); assumption; lcg_sub))
local macro_rules | `(tactic| lcg_sub) => `(tactic| ((with_reducible apply StoreAt.same); assumption; lcg_sub))
local macro_rules | `(tactic| lcg_sub) => `(tactic| ((with_reducible apply EntsAt.same); assumption; lcg_sub))
local macro_rules | `(tactic| lcg_sub) => `(tactic| ((with_reducible apply sm_FA); assumption; lcg_sub))
local macro_rules | `(tactic| lcg_sub) => `(tactic| ((with_reducible apply BookAt.same); assumption; lcg_sub))
local macro_rules | `(tactic| lcg_sub) => `(tactic| ((with_reducible apply OnS.same); assumption; lcg_sub))
section
variable {P : Program} {w : World} {K : Fr0} {mg : Str → Option Value} {base : Heap}
abbrev N_q_store_step : List Str := ["_law_flask_here", "_law_store", "_law_duo_here", "_law_row", "_law_takes", "_law_kind_here", "_law_came_here", "_law_due", "_law_odd", "_law_place_here", "_law_some", "_law_turn"]
abbrev P_q_store_step : List Str := ["_law_flask_here", "_law_store", "_law_duo_here", "_law_row", "_law_takes"]
theorem sc_q_store_step : FnScope N_q_store_step P_q_store_step (defScope s_q_store_step) := ⟨rfl, rfl, rfl, by decide +kernel, rfl, by decide +kernel, by decide +kernel⟩
theorem part_ss7 (T : Tx K mg) (TT : Tt K mg base) {f : Addr} {A : Around} {outer : List Env} {s : Shared} {HE : Hp} {E : XK} (hr : Room 20 (A.deeper (envOfC "_law_store_step" (defScope s_q_store_step) s.heap.objs.size f (.ref (He.cT K dS).1)))) (hgd : (A.deeper (envOfC "_law_store_step" (defScope s_q_store_step) s.heap.objs.size f (.ref (He.cT K dS).1))).guards = some [])  :
    ∃ t, PSs (cxOf CX0 P w K mg base N_q_store_step "_law_store_step" (defScope s_q_store_step) f (.ref (He.cT K dS).1) A outer s HE E).nox (stBody (stAt (defBody s_q_store_step) 1)) t ∧ ∀ (a x d rb : Addr) (du : Duo) (row : List Int) (tk : Bool) (kd : V) (H : Hp) (D : Ends), SIn K H a x d du rb row tk → SOut K H a x du row.length tk D.rt → t D [some (.ref a), some (.ref x), some (.ref d), some (.ref rb), some (.bl tk), some kd, none, none, none, none, none, none] H := by
  have hu := hu_of hr
  refine ⟨_, (pss_cons (ps_set (i := 6) sc_q_store_step.nd rfl (Or.inl rfl) (pe_came (k := 16) T (by rfl) TT.s rfl (mS K) TT.uS (hr.mono (by decide)) (lamP_by (sc := defScope s_q_store_step) (by decide +kernel)) rfl (fun _ _ _ _ _ => rfl) (fun _ _ _ _ _ _ _ _ hr2 => (pe_mt0 (pv 1) T.cl_Store T.me_Store_undo (ok_Store_undo T) (hr2.mono (by decide)) (passes_call (takes_of rfl rfl rfl rfl) (fun _ _ _ _ h => h))))))
      (pss_one (ps_ret (pe_tupS (pa_cons (pe_cmpR (op_eqD hr.units) (pv 6) (pe_ifExp (pt_cmpR (op_neD hr.units) (pv 3) (pe_tupS pa_nil) (nomark _)) (pe_lstS (pa_cons pe_str (pa_cons pe_non pa_nil))) (pe_lstS (pa_cons pe_str (pa_cons pe_non pa_nil)))) (nomark _)) (pa_cons (pe_slice sl_Ts (pv 3) po_none (po_some (pe_un un_neg pe_int))) pa_nil)))))), ?_⟩
  try dsimp only [cxOf, Cx.nox, Cx.wish]
  intro a x d rb du row tk kd H D I q
  obtain ⟨fl, on, hd, hrw, ln, tb⟩ := I
  obtain ⟨ds0, pv0, t0, as0, a0, r0, hx, _⟩ := on.1.last
  lcg_src
  refine ⟨tb, fun H1 eN T1 => ?_⟩
  have fl1 := ex_Fl eN fl
  have on1 := ex_On eN fl1 on
  have hx1 := ex_hp eN hx rfl
  have c0 := T.cl_Store
  have c1 := T.me_Store_undo
  unfold TCame
  lcg_src
  have big1 := on.2.2.1
  have l60 := on.2.2.2.1
  refine ⟨fun H2 hne C2 st2 fa2 _ => ⟨by decide, fun p3 H3 n3 S3 e3 => ?_⟩, fun hnil => Tells.und (fun p3 H3 n3 S3 e3 => ?_)⟩
  · have hrw3 := sm_T S3 (cg_T C2 (ex_T eN hrw) hx1 rfl)
    have dpr := DpAll.ints_at hrw3
    have shr := (OkD.tup (okD_ints (n := 0) row)).sh
    have dp3 : Dp K H3 (.ref p3) (.list [.str "gave", .none]) := .lst (sq_L e3) (.cons (.str _) (.cons .non .nil))
    have ev : PyData.eqv (.tuple (row.map PyData.int)) (.tuple []) = false := eqv_nil fun z => hne (List.map_eq_nil_iff.mp z)
    have on3 : OnS K (fun b => b ≠ a) H3 x du tk row.dropLast := ⟨st2.same S3, on.2.1, fun y hy => big1 y (List.dropLast_subset _ hy), by rw [List.length_dropLast]; omega, fa2.same S3⟩
    obtain ⟨f1, f2, f3, hfl⟩ := id fl1
    have nax : a ≠ x := ne_tag hfl hx1 rfl
    have fl3 : Fl H3 a := ⟨f1, f2, f3, S3 _ _ (C2 _ _ nax hfl)⟩
    have T3 := (T1.chg C2 hx1 rfl).same S3
    have F3 : FrN [a, x] H H3 := ((FrN.ext eN).trans (FrN.chg C2 (by simp))).trans (FrN.same S3)
    lcg_src
    rw [ev]
    lcg_src
    rename_i pz Gz Sz ez pw Gw Sw ew
    have ee : PyData.eqv (.list [.str "gave", .none]) (.list [.str "gave", .none]) = true := SeqAt.eqv_refl _ (by with_unfolding_all rfl)
    rw [ee] at ew
    rw [cut_last] at ez
    have SS : Same H3 Gw := by kas_types
    exact q pw pz Gw row.dropLast (F3.trans (FrN.same SS)) (sm_Fl SS fl3) (on3.same SS) (by rw [List.length_dropLast]; omega) (T3.same SS) ew (sm_T Sw ez)
  · subst hnil
    have hrw3 := sm_T S3 (ex_T eN hrw)
    have dpr := DpAll.ints_at hrw3
    have shr := (OkD.tup (okD_ints (n := 0) ([] : List Int))).sh
    have dp3 : Dp K H3 (.ref p3) (.list [.str "NothingToUndo", .none]) := .lst (sq_L e3) (.cons (.str _) (.cons .non .nil))
    have on3 := on1.same S3
    have fl3 := sm_Fl S3 fl1
    have T3 := T1.same S3
    have F3 : FrN [a, x] H H3 := (FrN.ext eN).trans (FrN.same S3)
    lcg_src
    rename_i pz Gz Sz ez pw Gw Sw ew
    have ee : PyData.eqv (.list [.str "NothingToUndo", .none]) (.list [.str "NothingToUndo", .none]) = true := SeqAt.eqv_refl _ (by with_unfolding_all rfl)
    rw [ee] at ew
    rw [cut_last] at ez
    have SS : Same H3 Gw := by kas_types
    exact q pw pz Gw [] (F3.trans (FrN.same SS)) (sm_Fl SS fl3) (on3.same SS) (Nat.zero_le _) (T3.same SS) ew (sm_T Sw ez)
theorem part_ss0 (T : Tx K mg) (TT : Tt K mg base) {f : Addr} {A : Around} {outer : List Env} {s : Shared} {HE : Hp} {E : XK} (hr : Room 20 (A.deeper (envOfC "_law_store_step" (defScope s_q_store_step) s.heap.objs.size f (.ref (He.cT K dS).1)))) (hgd : (A.deeper (envOfC "_law_store_step" (defScope s_q_store_step) s.heap.objs.size f (.ref (He.cT K dS).1))).guards = some [])  :
    ∃ t, PSs (cxOf CX0 P w K mg base N_q_store_step "_law_store_step" (defScope s_q_store_step) f (.ref (He.cT K dS).1) A outer s HE E).nox (List.drop 4 (defBody s_q_store_step)) t ∧ ∀ (a x d rb : Addr) (du : Duo) (row : List Int) (tk : Bool) (kd : V) (H : Hp) (D : Ends), SIn K H a x d du rb row tk → SOut K H a x du row.length tk D.rt → t D [some (.ref a), some (.ref x), some (.ref d), some (.ref rb), some (.bl tk), some kd, none, none, none, none, none, none] H := by
  have hu := hu_of hr
  refine ⟨_, (pss_cons (ps_set (i := 9) sc_q_store_step.nd rfl (Or.inr rfl) (pe_fn (ok_q_place T) (hr.mono (by decide)) (by rfl) T.g_q_place T.k_q_place pass0 (pa_cons (pv 0) (pa_cons (pv 2) pa_nil))))
      (pss_cons (ps_set (i := 7) sc_q_store_step.nd rfl (Or.inl rfl) (pe_ix ix_list (pe_ix ix_tup (pe_fn (ok_q_run T) (hr.mono (by decide)) (by rfl) T.g_q_run T.k_q_run pass0 (pa_cons (pv 2) (pa_cons (pe_op op_CatTs (pv 3) (pe_tupS (pa_cons (pv 9) pa_nil))) (pa_cons (pv 4) pa_nil)))) pe_int (fun _ _ => rfl)) (pe_un un_neg pe_int) (fun _ _ => rfl)))
      (pss_one (ps_ret (pe_tupS (pa_cons (pe_cmpR (op_eqD hr.units) (pe_came (k := 16) T (by rfl) TT.s rfl (mS K) TT.uS (hr.mono (by decide)) (lamP_by (sc := defScope s_q_store_step) (by decide +kernel)) rfl (fun _ _ _ _ _ => rfl) (fun _ _ _ _ _ _ _ _ hr2 => (pe_mt (pv 1) T.cl_Store T.me_Store_ask (ok_Store_ask T) (hr2.mono (by decide)) (passes_call (takes_of rfl rfl rfl rfl) (fun _ _ _ _ h => h)) (pa_cons (pv 9) pa_nil)))) (pe_lstS (pa_cons pe_str (pa_cons (pv 7) pa_nil))) (nomark _)) (pa_cons (pe_op op_CatTs (pv 3) (pe_tupS (pa_cons (pv 9) pa_nil))) pa_nil))))))), ?_⟩
  try dsimp only [cxOf, Cx.nox, Cx.wish]
  intro a x d rb du row tk kd H D I q
  obtain ⟨fl, on, hd, hrw, ln, tb⟩ := I
  obtain ⟨ds0, pv0, t0, as0, a0, r0, hx, _⟩ := on.1.last
  have ok := on.2.1
  have big1 := on.2.2.1
  lcg_src
  rename_i n G1 n0 n1 C1 F1 p2 G2 S2 e2
  have bn : Big n := ⟨n0, Int.le_trans n1 (by decide)⟩
  have hb2 : ∀ y ∈ row ++ [n], Big y := fun y hy => by
    rcases List.mem_append.mp hy with z | z
    · exact big1 y z
    · rw [List.mem_singleton.mp z]
      exact bn
  have hl2 : (row ++ [n]).length = row.length + 1 := by rw [List.length_append]; rfl
  have hl90 : (row ++ [n]).length ≤ 90 := by omega
  refine ⟨by rw [List.length_map]; exact Nat.le_trans (show _ ≤ 5000 by simp only [List.length_cons, List.length_nil]; omega) (by decide), fun p3 G3 S3 e3 => ?_⟩
  have e3' : SqT K G3 p3 ((row ++ [n]).map V.int) := by
    rw [List.map_append]
    exact e3
  have hd3 : DuoV K G3 (.ref d) du := sm_Dp S3 (sm_Dp S2 (cF_D C1 fl hd (duo_tupO _)))
  clear e3 hd
  lcg_src
  rename_i z1 lw ln2 dt dl ns G4 S4 f0 f1 f2 f3 f4 f5 f6
  have hwl : (wordsM du tk (row ++ [n])).map V.str = (wordsM du tk row).map V.str ++ [V.str (word du (runS du tk row) n)] := by
    rw [words_snoc, List.map_append]
    rfl
  rw [hwl] at f1
  refine w_ixL (sq_L f1) (atI_last _ _) ?_
  simp only [List.set_cons_succ, List.set_cons_zero]
  have S14 : Same G1 G4 := (S2.trans S3).trans S4
  have fl4 := sm_Fl S14 F1
  have on4 := (cF_On C1 fl F1 on).same S14
  have tb4 := (cF_Tb C1 fl tb).same S14
  have hrw4 := sm_T S14 (cF_T C1 fl hrw)
  have hx4 := S14 _ _ (cF_hp C1 fl hx rfl)
  have F04 : FrN [a, x] H G4 := (FrN.chg C1 (by simp)).trans (FrN.same S14)
  clear f0 f1 f2 f3 f4 f5 f6 hwl e3' e2 hd3
  lcg_src
  refine ⟨tb4, fun H1 eN T1 => ?_⟩
  have fl5 := ex_Fl eN fl4
  have on5 := ex_On eN fl5 on4
  have hx5 := ex_hp eN hx4 rfl
  have hrw5 := ex_T eN hrw4
  have c0 := T.cl_Store
  have c1 := T.me_Store_ask
  unfold TCame
  lcg_src
  refine .inl ⟨n, rfl, bn, fun H2 C2 st2 fa2 _ => ⟨(show 2 ≤ sizeLine by decide), fun p5 H3 n5 S5 e5 => ?_⟩⟩
  have okd : OkD 1 (.list [.str "gave", .str (word du (runS du tk row) n)]) := .lst (okD_cons (.str (by decide +kernel)) (okD_cons (.str (word_ok _ _ _)) okD_nil))
  have shd := okd.sh
  have dp5 : Dp K H3 (.ref p5) (.list [.str "gave", .str (word du (runS du tk row) n)]) := .lst (sq_L e5) (.cons (.str _) (.cons (.str _) .nil))
  have on3 : OnS K (fun b => b ≠ a) H3 x du tk (row ++ [n]) := ⟨st2.same S5, ok, hb2, by omega, fa2.same S5⟩
  obtain ⟨u1, u2, u3, hfl⟩ := id fl5
  have nax : a ≠ x := ne_tag hfl hx5 rfl
  have fl3 : Fl H3 a := ⟨u1, u2, u3, S5 _ _ (C2 _ _ nax hfl)⟩
  have T3 := (T1.chg C2 hx5 rfl).same S5
  have F3 : FrN [a, x] H H3 := ((F04.trans (FrN.ext eN)).trans (FrN.chg C2 (by simp))).trans (FrN.same S5)
  have hrw3 := sm_T S5 (cg_T C2 hrw5 hx5 rfl)
  clear e5 st2
  lcg_src
  refine ⟨by rw [List.length_map]; exact Nat.le_trans (show _ ≤ 5000 by simp only [List.length_cons, List.length_nil]; omega) (by decide), fun p6 G6 S6 e6 => ?_⟩
  lcg_src
  rename_i pw Gw Sw ew
  rw [SeqAt.eqv_refl _ okd.1] at ew
  have e6' : SqT K G6 p6 ((row ++ [n]).map V.int) := by
    rw [List.map_append]
    exact e6
  have SS : Same H3 Gw := by kas_types
  exact q pw p6 Gw (row ++ [n]) (F3.trans (FrN.same SS)) (sm_Fl SS fl3) (on3.same SS) (by omega) (T3.same SS) ew (sm_T Sw e6')
end
end
section
/-! A step of the store: asks that are none. -/
open PySem PySem.Spec PyProof.Rows L2 LamX
/-- data that may be shown behind a name -/
def OddS (d : PyData) : Prop := OkD 1 d ∧ (PyData.list [.str "InvalidNumber", d]).showable = true ∧ (PyData.list [.str "InvalidNumber", d]).hasDict = false ∧ (PyData.list [.str "InvalidNumber", d]).depth ≤ 8 ∧ (PyData.list [.str "InvalidNumber", d]).shown.length ≤ sizeLine
theorem odd_all {K : Fr0} {pt : Addr} {v : V} (m : v ∈ [V.int (-1), V.int (10 ^ Int.toNat 60 * 10 ^ Int.toNat 10), V.non, V.bl true, V.str "0", V.ref pt]) : ∃ d, OddS d ∧ ∀ G, SqT K G pt [.int 1] → Dp K G v d ∧ OddV K G v := by
  simp only [List.mem_cons, List.not_mem_nil, or_false] at m
  rcases m with rfl | rfl | rfl | rfl | rfl | rfl
  · exact ⟨.int (-1), ⟨.int _, by decide +kernel, by decide +kernel, by decide +kernel, by decide +kernel⟩, fun G h => ⟨.int _, .inr ⟨_, rfl, .inl (by decide)⟩⟩⟩
  · exact ⟨.int (10 ^ Int.toNat 60 * 10 ^ Int.toNat 10), ⟨.int _, by decide +kernel, by decide +kernel, by decide +kernel, by decide +kernel⟩, fun G h => ⟨.int _, .inr ⟨_, rfl, .inr (by decide +kernel)⟩⟩⟩
  · exact ⟨.none, ⟨.none, by decide +kernel, by decide +kernel, by decide +kernel, by decide +kernel⟩, fun G h => ⟨.non, .inl ⟨"NoneType", false, false, .base .non, by decide +kernel, (fun z => Bool.noConfusion z), rfl⟩⟩⟩
  · exact ⟨.bool true, ⟨.bool _, by decide +kernel, by decide +kernel, by decide +kernel, by decide +kernel⟩, fun G h => ⟨.bl _, .inl ⟨"bool", true, true, .base (.bl _), by decide +kernel, fun _ => by decide +kernel, rfl⟩⟩⟩
  · exact ⟨.str "0", ⟨.str (by decide +kernel), by decide +kernel, by decide +kernel, by decide +kernel, by decide +kernel⟩, fun G h => ⟨.str _, .inl ⟨"str", false, false, .base (.str _), by decide +kernel, (fun z => Bool.noConfusion z), rfl⟩⟩⟩
  · exact ⟨.tuple [.int 1], ⟨.tup (okD_cons (.int _) okD_nil), by decide +kernel, by decide +kernel, by decide +kernel, by decide +kernel⟩, fun G h => ⟨.tup h (.cons (.int _) .nil), .inl ⟨"tuple", false, false, TyX_T h, by decide +kernel, (fun z => Bool.noConfusion z), rfl⟩⟩⟩
local macro_rules | `(tactic| lcg_sub) => `(tactic| ((with_reducible apply sm_DpA); assumption; lcg_sub))
local macro_rules | `(tactic| lcg_sub) => `(tactic| ((with_reducible apply StoreAt.same); assumption; lcg_sub))
local macro_rules | `(tactic| lcg_sub) => `(tactic| ((with_reducible apply EntsAt.same); assumption; lcg_sub))
local macro_rules | `(tactic| lcg_sub) => `(tactic| ((with_reducible apply sm_FA); assumption; lcg_sub))
local macro_rules | `(tactic| lcg_sub) => `(tactic| ((with_reducible apply BookAt.same); assumption; lcg_sub))
local macro_rules | `(tactic| lcg_sub) => `(tactic| ((with_reducible apply OnS.same); assumption; lcg_sub))
section
variable {P : Program} {w : World} {K : Fr0} {mg : Str → Option Value} {base : Heap}
theorem part_ss8 (T : Tx K mg) (TT : Tt K mg base) {f : Addr} {A : Around} {outer : List Env} {s : Shared} {HE : Hp} {E : XK} (hr : Room 20 (A.deeper (envOfC "_law_store_step" (defScope s_q_store_step) s.heap.objs.size f (.ref (He.cT K dS).1)))) (hgd : (A.deeper (envOfC "_law_store_step" (defScope s_q_store_step) s.heap.objs.size f (.ref (He.cT K dS).1))).guards = some [])  :
    ∃ t, PSs (cxOf CX0 P w K mg base N_q_store_step "_law_store_step" (defScope s_q_store_step) f (.ref (He.cT K dS).1) A outer s HE E).nox (stBody (stAt (defBody s_q_store_step) 2)) t ∧ ∀ (a x d rb : Addr) (du : Duo) (row : List Int) (tk : Bool) (kd : V) (H : Hp) (D : Ends), SIn K H a x d du rb row tk → SOut K H a x du row.length tk D.rt → t D [some (.ref a), some (.ref x), some (.ref d), some (.ref rb), some (.bl tk), some kd, none, none, none, none, none, none] H := by
  have hu := hu_of hr
  refine ⟨_, (pss_cons (ps_set (i := 8) sc_q_store_step.nd rfl (Or.inr rfl) (pe_fn (ok_q_pick T) (hr.mono (by decide)) (by rfl) T.g_q_pick T.k_q_pick pass0 (pa_cons (pv 0) (pa_cons (pe_lstS (pa_cons (pe_un un_neg pe_int) (pa_cons (pe_op op_mulW (pe_op op_pow pe_int pe_int) (pe_op op_pow pe_int pe_int)) (pa_cons pe_non (pa_cons pe_bl (pa_cons pe_str (pa_cons (pe_tupS (pa_cons pe_int pa_nil)) pa_nil))))))) pa_nil))))
      (pss_one (ps_ret (pe_tupS (pa_cons (pe_cmpR op_eq (pe_callB (call_ReprD (hu65 hr) hgd) (by rfl) T.f_repr boot_reprB (pa_cons (pe_came (k := 16) T (by rfl) TT.s rfl (mS K) TT.uS (hr.mono (by decide)) (lamP_by (sc := defScope s_q_store_step) (by decide +kernel)) rfl (fun _ _ _ _ _ => rfl) (fun _ _ _ _ _ _ _ _ hr2 => (pe_mt (pv 1) T.cl_Store T.me_Store_ask (ok_Store_ask T) (hr2.mono (by decide)) (passes_call (takes_of rfl rfl rfl rfl) (fun _ _ _ _ h => h)) (pa_cons (pv 8) pa_nil)))) pa_nil)) (pe_callB (call_ReprD (hu65 hr) hgd) (by rfl) T.f_repr boot_reprB (pa_cons (pe_lstS (pa_cons pe_str (pa_cons (pv 8) pa_nil))) pa_nil)) (nomark _)) (pa_cons (pv 3) pa_nil)))))), ?_⟩
  try dsimp only [cxOf, Cx.nox, Cx.wish]
  intro a x d rb du row tk kd H D I q
  obtain ⟨fl, on, hd, hrw, ln, tb⟩ := I
  obtain ⟨ds0, pv0, t0, as0, a0, r0, hx, _⟩ := on.1.last
  have hm : CMulW (10 ^ Int.toNat 60) (10 ^ Int.toNat 10) := wide_mul (a := 200) (b := 34) (by decide +kernel) (by decide +kernel) (by decide) (by decide) (by decide)
  lcg_src
  rename_i pt Gt St et pl Gl nl Sl el v G1 mv C1 F1
  obtain ⟨dd, os, hodd⟩ := odd_all (K := K) mv
  have flt := sm_Fl (St.trans Sl) fl
  have S0 := St.trans Sl
  have et1 := cF_T C1 flt (sm_T Sl et)
  have on1 := cF_On C1 flt F1 (on.same S0)
  have tb1 := cF_Tb C1 flt (tb.same S0)
  have hrw1 := cF_T C1 flt (sm_T S0 hrw)
  have hx1 := cF_hp C1 flt (S0 _ _ hx) rfl
  have F01 : FrN [a, x] H G1 := (FrN.same S0).trans (FrN.chg C1 (by simp))
  simp only [List.set_cons_succ, List.set_cons_zero]
  refine ⟨tb1, fun H1 eN T1 => ?_⟩
  have fl5 := ex_Fl eN F1
  have on5 := ex_On eN fl5 on1
  have hx5 := ex_hp eN hx1 rfl
  have hrw5 := ex_T eN hrw1
  have et5 := ex_T eN et1
  have c0 := T.cl_Store
  have c1 := T.me_Store_ask
  unfold TCame
  lcg_src
  refine .inr ⟨(hodd H1 et5).2, fun d2 H2 n2 S2 e2 => Tells.num e2 (fun p3 H3 n3 S3 e3 => ?_)⟩
  have S23 := S2.trans S3
  have dv3 := (hodd H3 (sm_T S23 et5)).1
  have dp3 : Dp K H3 (.ref p3) (.list [.str "InvalidNumber", dd]) := .lst (sq_L e3) (.cons (.str _) (.cons dv3 .nil))
  have et3 := sm_T S23 et5
  have fl3 := sm_Fl S23 fl5
  have on3 := on5.same S23
  have T3 := T1.same S23
  have hrw3 := sm_T S23 hrw5
  have F3 : FrN [a, x] H H3 := (F01.trans (FrN.ext eN)).trans (FrN.same S23)
  lcg_src
  refine ⟨p3, _, rfl, dp3, os.2.1, os.2.2.1, os.2.2.2.1, os.2.2.2.2, ?_⟩
  lcg_src
  rename_i p4 H4 n4 S4 e4
  have dp4 : Dp K H4 (.ref p4) (.list [.str "InvalidNumber", dd]) := .lst (sq_L e4) (.cons (.str _) (.cons (hodd H4 (sm_T S4 et3)).1 .nil))
  refine ⟨p4, _, rfl, dp4, os.2.1, os.2.2.1, os.2.2.2.1, os.2.2.2.2, ?_⟩
  lcg_src
  rename_i pw Gw Sw ew
  have ed : decide (V.str (PyData.list [.str "InvalidNumber", dd]).shown = V.str (PyData.list [.str "InvalidNumber", dd]).shown) = true := decide_eq_true rfl
  rw [ed] at ew
  have SS := S4.trans Sw
  exact q pw rb Gw row (F3.trans (FrN.same SS)) (sm_Fl SS fl3) (on3.same SS) (by omega) (T3.same SS) ew (sm_T SS hrw3)
end
end
section
/-! A step of the store: a trial. -/
open PySem PySem.Spec PyProof.Rows L2 LamX
/-- the scope of the lambda that is handed to a call -/
def lamScS : Stmt → Scope
  | .Assign _ (.Call _ [.Lambda _ _ sc _] _ _) _ => sc
  | _ => defScope s_q_tried
abbrev scT : Scope := lamScS (stAt (stBody (stAt (defBody s_q_store_step) 3)) 2)
abbrev qS : Str := ("_law_store_step" : Str) ++ ".<locals>." ++ "<lambda>"
local macro_rules | `(tactic| lcg_sub) => `(tactic| ((with_reducible apply sm_DpA); assumption; lcg_sub))
local macro_rules | `(tactic| lcg_sub) => `(tactic| ((with_reducible apply StoreAt.same); assumption; lcg_sub))
local macro_rules | `(tactic| lcg_sub) => `(tactic| ((with_reducible apply EntsAt.same); assumption; lcg_sub))
local macro_rules | `(tactic| lcg_sub) => `(tactic| ((with_reducible apply sm_FA); assumption; lcg_sub))
local macro_rules | `(tactic| lcg_sub) => `(tactic| ((with_reducible apply BookAt.same); assumption; lcg_sub))
local macro_rules | `(tactic| lcg_sub) => `(tactic| ((with_reducible apply OnS.same); assumption; lcg_sub))
section
variable {P : Program} {w : World} {K : Fr0} {mg : Str → Option Value} {base : Heap}
theorem part_ss9 (T : Tx K mg) (TT : Tt K mg base) {f : Addr} {A : Around} {outer : List Env} {s : Shared} {HE : Hp} {E : XK} (hr : Room 20 (A.deeper (envOfC "_law_store_step" (defScope s_q_store_step) s.heap.objs.size f (.ref (He.cT K dS).1)))) (hgd : (A.deeper (envOfC "_law_store_step" (defScope s_q_store_step) s.heap.objs.size f (.ref (He.cT K dS).1))).guards = some [])  :
    ∃ t, PSs (cxOf CX0 P w K mg base N_q_store_step "_law_store_step" (defScope s_q_store_step) f (.ref (He.cT K dS).1) A outer s HE E).nox (stBody (stAt (defBody s_q_store_step) 3)) t ∧ ∀ (a x d rb : Addr) (du : Duo) (row : List Int) (tk : Bool) (kd : V) (H : Hp) (D : Ends), SIn K H a x d du rb row tk → SOut K H a x du row.length tk D.rt → t D [some (.ref a), some (.ref x), some (.ref d), some (.ref rb), some (.bl tk), some kd, none, none, none, none, none, none] H := by
  have hu := hu_of hr
  refine ⟨_, (pss_cons (ps_set (i := 10) sc_q_store_step.nd rfl (Or.inr rfl) (pe_callTy call_TupL (by rfl) T.f_tuple boot_tupleT (pa_cons (pe_lc (own := [("_law_turn", 11)]) (g := gName 11)  (tt := tYes) rfl sc_q_store_step.nd (pi_range1 (by rfl) T.f_range (pa_cons pe_int pa_nil)) (blkOk_by (N := N_q_store_step) (sc := defScope s_q_store_step) (by decide +kernel)) (fun _ _ _ _ _ => (pg_name (i := 11) sc_q_store_step.nd rfl (Or.inl rfl))) (fun _ _ _ _ _ => pts_nil) (fun _ _ _ _ _ => (pe_fn (ok_q_place T) (hr.mono (by decide)) (by rfl) T.g_q_place T.k_q_place pass0 (pa_cons (pv 0) (pa_cons (pv 2) pa_nil))))) pa_nil)))
      (pss_cons (ps_set (i := 7) sc_q_store_step.nd rfl (Or.inl rfl) (pe_slice sl_Ls (pe_ix ix_tup (pe_fn (ok_q_run T) (hr.mono (by decide)) (by rfl) T.g_q_run T.k_q_run pass0 (pa_cons (pv 2) (pa_cons (pe_op op_CatTs (pv 3) (pv 10)) (pa_cons (pv 4) pa_nil)))) pe_int (fun _ _ => rfl)) (po_some (pe_callB call_LenT (by rfl) T.f_len boot_lenB (pa_cons (pv 3) pa_nil))) po_none))
      (pss_cons (ps_set (i := 6) sc_q_store_step.nd rfl (Or.inl rfl) (pe_cameN (k := 15) (t := fun c' P' _ => tTried (TTab K) c' P' qS (subQ qS) (tVar 1) (tFn (spTriedL K) E0 (tCons (tVar 12) (tCons (tVar 10) tNil))) K) T (by rfl) TT.s rfl (mS K) TT.uS (hr.mono (by decide)) (lamP_by (sc := defScope s_q_store_step) (by decide +kernel)) rfl (fun _ _ _ _ _ => rfl) (fun _ _ _ _ _ f' c' P' hr2 => pe_tried (k := 9) T TT.s rfl Tt.one (pv 1) (by decide) (hr2.mono (by decide)) (lamP_by (sc := scT) (by decide +kernel)) (show ("_law_held" : Str) ∉ N_q_store_step ++ [] by decide +kernel) rfl (fun _ _ _ _ _ _ => rfl) (fun _ _ _ _ _ _ hr3 => pe_fn (ok_q_tried T) (hr3.mono (by decide)) (by rfl) T.g_q_tried T.k_q_tried passes0 (pa_cons (pv 12) (pa_cons (pv 10) pa_nil))))))
      (pss_one (ps_ret (pe_tupS (pa_cons (pe_cmpR (op_eqD hr.units) (pv 6) (pe_lstS (pa_cons pe_str (pa_cons (pe_tupS (pa_cons (pv 7) (pa_cons (pe_op op_add (pe_callB call_LenT (by rfl) T.f_len boot_lenB (pa_cons (pv 3) pa_nil)) pe_int) pa_nil))) pa_nil))) (nomark _)) (pa_cons (pv 3) pa_nil)))))))), ?_⟩
  try dsimp only [cxOf, Cx.nox, Cx.wish]
  intro a x d rb du row tk kd H D I q
  obtain ⟨fl, on, hd, hrw, ln, tb⟩ := I
  obtain ⟨ds0, pv0, t0, as0, a0, r0, hx, _⟩ := on.1.last
  have ok := on.2.1
  have big1 := on.2.2.1
  lcg_src
  obtain ⟨u1, u2, u3, hfl⟩ := id fl
  refine LcG.gen (J := Itr 0 (Int.toNat 3)) (n := Int.toNat 3) walk_range (by decide) (fun D i ys H' => Chg a H H' ∧ Fl H' a ∧ ∃ ns : List Int, ys = ns.map V.int ∧ ∀ n ∈ ns, Big n) (fun D H' nD S _ => ⟨SW.Same.chg S, sm_Fl S fl, [], rfl, fun n h => absurd h List.not_mem_nil⟩) (fun _ _ _ _ _ => True.intro) (fun D i ys H2 H3 nD I C => ?_) (fun D i v ys H2 H3 Y2 N nD hi hl hD I hy hq => ?_) (fun D ys H2 nD hl I hD => ?_)
  · obtain ⟨i1, ⟨v1, v2, v3, i2⟩, i3⟩ := I
    exact ⟨fun b o n h => C b o (ne_of_none h nD) (i1 b o n h), ⟨v1, v2, v3, C _ _ (ne_of_none hfl nD) i2⟩, i3⟩
  · obtain ⟨rfl, ev⟩ := hy
    obtain ⟨i1, i2, ns, rfl, i4⟩ := I
    have hd3 : DuoV K H3 (.ref d) du := cF_D i1 fl hd (duo_tupO _)
    have nDa : D ≠ a := (ne_of_none hfl nD).symm
    rw [show v = _ from ev]
    lcg_src
    rename_i n G n0 n1 C1 F1
    refine hq _ _ ⟨i1.trans C1, F1, ns ++ [n], by rw [List.map_append]; rfl, fun m hm => ?_⟩ (C1 _ _ nDa hD)
    rcases List.mem_append.mp hm with z | z
    · exact i4 m z
    · rw [List.mem_singleton.mp z]
      exact ⟨n0, Int.le_trans n1 (by decide)⟩
  · obtain ⟨C1, F1, ns, rfl, hns⟩ := I
    have hn3 : ns.length = 3 := by
      rw [List.length_map] at hl
      exact hl
    have on1 := cF_On C1 fl F1 on
    have tb1 := cF_Tb C1 fl tb
    have hrw1 := cF_T C1 fl hrw
    have hx1 := cF_hp C1 fl hx rfl
    have hd1 : DuoV K H2 (.ref d) du := cF_D C1 fl hd (duo_tupO _)
    have F01 : FrN [a, x] H H2 := FrN.chg C1 (by simp)
    have hb2 : ∀ y ∈ row ++ ns, Big y := fun y hy => by
      rcases List.mem_append.mp hy with z | z
      · exact big1 y z
      · exact hns y z
    have hl2 : (row ++ ns).length = row.length + 3 := by rw [List.length_append, hn3]
    have hl90 : (row ++ ns).length ≤ 90 := by omega
    clear hd hfl C1
    lcg_src
    rename_i ps2 G2 S2 e2
    refine ⟨by rw [List.length_map, List.length_map]; exact Nat.le_trans (show _ ≤ 5000 by omega) (by decide), fun p3 G3 S3 e3 => ?_⟩
    rw [← List.map_append] at e3
    have S23 := S2.trans S3
    have hd3 := sm_Dp S23 hd1
    simp only [List.set_cons_succ, List.set_cons_zero]
    lcg_src
    rename_i z1 lw ln2 dt dl ns2 G4 S4 f0 f1 f2 f3 f4 f5 f6 pd G5 n5 S5 f7
    rw [List.length_map, cut_drop, ← List.map_drop] at f7
    have S25 : Same H2 G5 := (S23.trans S4).trans S5
    have on5 := on1.same S25
    have fl5 := sm_Fl S25 F1
    have tb5 := tb1.same S25
    have hrw5 := sm_T S25 hrw1
    have hx5 := S25 _ _ hx1
    have et5 := sm_T ((S3.trans S4).trans S5) e2
    have F05 : FrN [a, x] H G5 := F01.trans (FrN.same S25)
    clear f0 f1 f2 f3 f4 f5 f6 e3 hd3
    refine ⟨tb5, fun H1 c' P' eN T1 hc' hP' hts => ?_⟩
    unfold TCame tTried
    refine (show tVar 1 _ _ _ from w_var rfl ?_)
    have fl6 := ex_Fl eN fl5
    have on6 := ex_On eN fl6 on5
    have hx6 := ex_hp eN hx5 rfl
    have hrw6 := ex_T eN hrw5
    have et6 := ex_T eN et5
    have f76 := ex_hp eN f7 rfl
    refine ⟨x, _, _, rfl, hx6, rfl, T1, hc', hP', hts, fun H7 eN2 T7 => ?_⟩
    have fl7 := ex_Fl eN2 fl6
    have on7 := ex_On eN2 fl7 on6
    have hx7 := ex_hp eN2 hx6 rfl
    have hrw7 := ex_T eN2 hrw6
    have et7 := ex_T eN2 et6
    have f77 := ex_hp eN2 f76 rfl
    have F07 : FrN [a, x] H H7 := (F05.trans (FrN.ext eN)).trans (FrN.ext eN2)
    refine ⟨_, _, _, hx7, fun y m H3 R ny nm nmy S7 hy hm hR => ?_⟩
    have on3 := on7.same S7
    have et3 := sm_T S7 et7
    have nnil : ns ≠ [] := fun z => by
      rw [z] at hn3
      cases hn3
    refine (show tCons (tVar 12) (tCons (tVar 10) tNil) _ _ _ from ?_)
    lcg_src
    rename_i z l H4 C4 stf e4 e5
    have ei : ((row.length + ns.length - 1 : Nat) : Int) = (((row.map V.int).length : Nat) : Int) + 2 := by
      rw [List.length_map, hn3]
      omega
    rw [ei] at e4
    have hx3 := S7 _ _ hx7
    obtain ⟨s1, hx4⟩ := stf _ _ _ hx3
    obtain ⟨dt2, fs2, hy2⟩ := hy
    have nyx : y ≠ x := (ne_of_none hx7 ny).symm
    have hy4 := C4 _ _ nyx hy2
    refine hR _ H4 (fun b o n h => C4 b o (fun e => n (e ▸ List.mem_singleton.mpr rfl)) h) ⟨s1, hx4⟩ fun H5 k5 h5 => ⟨(show 2 ≤ sizeLine by decide), fun p5 H6 n6 S6 e6 => ?_⟩
    have S75 : Same H7 H5 := fun b o hb => by
      by_cases c : b = x
      · subst c
        rw [hx7] at hb
        cases hb
        exact h5
      · exact k5 b o c (ne_of_none hb ny) (C4 b o c (S7 b o hb))
    have el5 := k5 _ _ (ne_tag e5 hx4 rfl) (ne_of e5 hy4 fun z => by cases z) e5
    have ez5 : SqT K H5 z [V.ref l, V.int ((((row.map V.int).length : Nat) : Int) + 2)] := by
      rcases e4 with (h | ⟨o, h⟩) | h
      · exact .inl (.inl (k5 _ _ (ne_tag h hx4 rfl) (ne_of h hy4 fun z => by cases z) h))
      · exact .inl (.inr ⟨o, k5 _ _ (ne_tag h hx4 rfl) (ne_of h hy4 fun z => by cases z) h⟩)
      · exact .inr h
    have S76 := S75.trans S6
    have okw : OkD 1 (.list (((wordsM du tk (row ++ ns)).drop row.length).map PyData.str)) := .lst fun e he => by
      obtain ⟨t, ht, rfl⟩ := List.mem_map.mp he
      exact words_ok (n := 0) du tk (row ++ ns) _ (List.mem_map.mpr ⟨t, List.mem_of_mem_drop ht, rfl⟩)
    have okd : OkD 3 (.list [.str "gave", .tuple [.list (((wordsM du tk (row ++ ns)).drop row.length).map PyData.str), .int ((((row.map V.int).length : Nat) : Int) + 2)]]) := .lst (okD_cons (.str (by decide +kernel)) (okD_cons (.tup (okD_cons okw (okD_cons (.int _) okD_nil))) okD_nil))
    have shd := okd.sh
    have dpl : Dp K H6 (.ref l) (.list (((wordsM du tk (row ++ ns)).drop row.length).map PyData.str)) := .lst (sq_L (S6 _ _ el5)) (dps_strs _)
    have dpd : Dp K H6 (.ref pd) (.list (((wordsM du tk (row ++ ns)).drop row.length).map PyData.str)) := .lst (sq_L (S76 _ _ f77)) (dps_strs _)
    have dp6 : Dp K H6 (.ref p5) (.list [.str "gave", .tuple [.list (((wordsM du tk (row ++ ns)).drop row.length).map PyData.str), .int ((((row.map V.int).length : Nat) : Int) + 2)]]) := .lst (sq_L e6) (.cons (.str _) (.cons (.tup (sm_T S6 ez5) (.cons dpl (.cons (.int _) .nil))) .nil))
    have on9 := on7.same S76
    have fl9 := sm_Fl S76 fl7
    have T9 := T7.same S76
    have hrw9 := sm_T S76 hrw7
    have F9 : FrN [a, x] H H6 := F07.trans (FrN.same S76)
    clear e6 el5 ez5 e5 e4 hR k5 h5
    lcg_src
    rename_i pw Gw Sw ew
    rw [SeqAt.eqv_refl _ okd.1] at ew
    have SS : Same H6 Gw := by kas_types
    exact q pw rb Gw row (F9.trans (FrN.same SS)) (sm_Fl SS fl9) (on9.same SS) (by omega) (T9.same SS) ew (sm_T SS hrw9)
abbrev spSStep (K : Fr0) : Sp := s5 fun f st d r t H Q _ => ∃ a x d0 du rb, ∃ row : List Int, ∃ tk, f = .ref a ∧ st = .ref x ∧ d = .ref d0 ∧ r = .ref rb ∧ t = .bl tk ∧ SIn K H a x d0 du rb row tk ∧ SOut K H a x du row.length tk Q

theorem ok_q_store_step (T : Tx K mg) (TT : Tt K mg base) : FnRG P w K mg base CX0 21 (ad K "_law_store_step") (spSStep K) := by
  obtain ⟨fd, F⟩ := T.fd_q_store_step
  refine fnrTG dS rfl F (fun _ _ _ _ _ _ us hl => match us, hl with | [_, _, _, _, _], _ => rfl) sc_q_store_step (fun vs H Q E h => ?_) (fun A outer s H vs Q E hr hgd h => ?_)
  · first | exact l1 h | exact l0 h | exact l2 h | exact l3 h | exact l4 h | exact l5 h | exact l6 h
  · have hu := hu_of hr
    obtain ⟨t7, h7, k7⟩ := part_ss7 (P := P) (w := w) (f := ad K "_law_store_step") (A := A) (outer := outer) (s := s) (HE := H) (E := E) T TT hr hgd
    obtain ⟨t8, h8, k8⟩ := part_ss8 (P := P) (w := w) (f := ad K "_law_store_step") (A := A) (outer := outer) (s := s) (HE := H) (E := E) T TT hr hgd
    obtain ⟨t9, h9, k9⟩ := part_ss9 (P := P) (w := w) (f := ad K "_law_store_step") (A := A) (outer := outer) (s := s) (HE := H) (E := E) T TT hr hgd
    obtain ⟨t0, h0, k0⟩ := part_ss0 (P := P) (w := w) (f := ad K "_law_store_step") (A := A) (outer := outer) (s := s) (HE := H) (E := E) T TT hr hgd
    refine ⟨_, PSs.nox (pss_cons (ps_set (i := 5) sc_q_store_step.nd rfl (Or.inl rfl) (pe_fn (ok_q_pour T) (hr.mono (by decide)) (by rfl) T.g_q_pour T.k_q_pour pass0 (pa_cons (pv 0) (pa_cons pe_int pa_nil))))
      (pss_cons (ps_if (pt_cmpR op_eq (pv 5) pe_int (nomark _)) h7 pss_nil)
      (pss_cons (ps_if (pt_cmpR op_eq (pv 5) pe_int (nomark _)) h8 pss_nil)
      (pss_cons (ps_if (pt_cmpR op_eq (pv 5) pe_int (nomark _)) h9 pss_nil)
      h0)))), ?_⟩
    try dsimp only [cxOf, Cx.nox, Cx.wish]
    obtain ⟨fl0, st0, d1, r1, tt, rfl, a, x, d0, du, rb, row, tk, rfl, rfl, rfl, rfl, rfl, I, q⟩ := h
    have fl := I.fl
    have hσ : start N_q_store_step [.ref a, .ref x, .ref d0, .ref rb, .bl tk] = [some (.ref a), some (.ref x), some (.ref d0), some (.ref rb), some (.bl tk), none, none, none, none, none, none, none] := rfl
    rw [hσ]
    lcg_src
    rename_i r H1 r0 r1 C1 F1
    simp only [List.set_cons_succ, List.set_cons_zero]
    obtain ⟨u1, u2, u3, hfl⟩ := id fl
    have F01 : FrN [a, x] H H1 := FrN.chg C1 (by simp)
    have I1 : SIn K H1 a x d0 du rb row tk := ⟨F1, cF_On C1 fl F1 I.on, cF_D C1 fl I.hd (duo_tupO _), cF_T C1 fl I.hr, I.ln, cF_Tb C1 fl I.tb⟩
    have q1 : SOut K H1 a x du row.length tk Q := fun z rb' H' row' F => q z rb' H' row' (F01.trans F)
    refine w_ite (fun c7 => ?_) (fun c7 => ?_)
    · exact k7 a x d0 rb du row tk _ H1 _ I1 q1
    · lcg_src
      refine w_ite (fun c8 => ?_) (fun c8 => ?_)
      · exact k8 a x d0 rb du row tk _ H1 _ I1 q1
      · lcg_src
        refine w_ite (fun c9 => ?_) (fun c9 => ?_)
        · exact k9 a x d0 rb du row tk _ H1 _ I1 q1
        · lcg_src
          exact k0 a x d0 rb du row tk _ H1 _ I1 q1
end
end
section
/-! list(d.items()); dict(list of pairs). -/
open PySem PySem.Spec PyProof.Rows L2
def rDictP (K : Fr0) : List V → Hp → VK → Prop := fun xs H Q => ∃ (a : Addr) (ps : List Addr) (kvs : List (Key × V)), xs = [.ref a] ∧ SqL K H a (ps.map V.ref) ∧ Paired (fun p kv => SqT K H p [kV kv.1, kv.2]) ps kvs ∧ New H (.dK (mergeK [] kvs)) Q
theorem call_DictP {X : Cx} (hc : X.calm = true) : CallR X (.type "dict") (rDictP X.K) := callImp (call_dictP hc) fun _ _ _ ⟨a, ps, kvs, e, h, hp, q⟩ => ⟨a, ps, kvs, e, h, hp, q.go⟩
end
section
/-! The defs, part I: a pair near by. -/
open PySem PySem.Spec PyProof.Rows L2
section
variable {P : Program} {w : World} {K : Fr0} {mg : Str → Option Value} {base : Heap}
abbrev spNear (K : Fr0) : Sp := s2 fun f d H Q _ => ∃ a du, f = .ref a ∧ Fl H a ∧ DuoV K H d du ∧ Duo.ok du ∧ du.lw ≤ 900 ∧ ∀ v du2 H', Duo.ok du2 → Chg a H H' → Fl H' a → DuoV K H' v du2 → Q v H'
abbrev N_q_near : List Str := ["_law_flask_here", "_law_duo_here", "_law_kind_here", "_law_upper", "_law_lower", "_law_hears_here"]
abbrev P_q_near : List Str := ["_law_flask_here", "_law_duo_here"]
theorem sc_q_near : FnScope N_q_near P_q_near (defScope s_q_near) := ⟨rfl, rfl, rfl, by decide +kernel, rfl, by decide +kernel, by decide +kernel⟩
theorem ok_q_near (T : Tx K mg) : FnR P w K mg base CX0 4 (ad K "_law_near") (spNear K) := by
  obtain ⟨fd, F⟩ := T.fd_q_near
  refine fnr F (fun _ _ _ _ _ _ us hl => match us, hl with | [_, _], _ => rfl) sc_q_near (fun vs H Q E h => ?_) (fun cdv A outer s H vs Q E hr h => ?_)
  · first | exact l1 h | exact l0 h | exact l2 h | exact l3 h | exact l4 h | exact l5 h | exact l6 h
  · have hu := hu_of hr
    refine ⟨_, PSs.nox (pss_cons (ps_asg (pe_tupS (pa_cons (pe_fn (ok_q_pour T) (hr.mono (by decide)) (by rfl) T.g_q_pour T.k_q_pour pass0 (pa_cons (pv 0) (pa_cons pe_int pa_nil))) (pa_cons (pv 1) pa_nil))) (pg_tup (n := 2) rfl (pgs_cons (pg_name (i := 2) sc_q_near.nd rfl (Or.inl rfl)) (pgs_cons (pg_tup (n := 3) rfl (pgs_cons (pg_name (i := 3) sc_q_near.nd rfl (Or.inl rfl)) (pgs_cons (pg_name (i := 4) sc_q_near.nd rfl (Or.inl rfl)) (pgs_cons (pg_name (i := 5) sc_q_near.nd rfl (Or.inl rfl)) pgs_nil)))) pgs_nil))))
      (pss_cons (ps_if (pt_cmpR op_eq (pv 2) pe_int (nomark _)) (pss_one (ps_ret (pv 1))) pss_nil)
      (pss_cons (ps_if (pt_cmpR op_eq (pv 2) pe_int (nomark _)) (pss_one (ps_ret (pe_tupS (pa_cons (pv 3) (pa_cons (pv 4) (pa_cons (pe_fn (ok_q_hears T) (hr.mono (by decide)) (by rfl) T.g_q_hears T.k_q_hears pass0 (pa_cons (pv 0) pa_nil)) pa_nil)))))) pss_nil)
      (pss_cons (ps_if (pt_cmpR op_eq (pv 2) pe_int (nomark _)) (pss_one (ps_ret (pe_tupS (pa_cons (pv 3) (pa_cons (pe_tupS (pa_cons (pe_ix ix_tup (pv 4) pe_int (fun _ _ => rfl)) (pa_cons (pe_callB (call_max2 rfl) (by rfl) T.f_max boot_maxB (pa_cons pe_int (pa_cons (pe_op op_add (pe_ix ix_tup (pv 4) pe_int (fun _ _ => rfl)) (pe_fn (ok_q_pickI T) (hr.mono (by decide)) (by rfl) T.g_q_pick T.k_q_pick pass0 (pa_cons (pv 0) (pa_cons (pe_lstS (pa_cons (pe_un un_neg pe_int) (pa_cons pe_int (pa_cons pe_int pa_nil)))) pa_nil)))) pa_nil))) (pa_cons (pe_ix ix_tup (pv 4) pe_int (fun _ _ => rfl)) pa_nil)))) (pa_cons (pv 5) pa_nil)))))) pss_nil)
      (pss_one (ps_ret (pe_tupS (pa_cons (pe_tupS (pa_cons pe_int (pa_cons (pe_ix ix_tup (pv 3) pe_int (fun _ _ => rfl)) (pa_cons (pe_ix ix_tup (pv 3) pe_int (fun _ _ => rfl)) pa_nil)))) (pa_cons (pv 4) (pa_cons (pv 5) pa_nil)))))))))), ?_⟩
    try dsimp only [cxOf, Cx.nox, Cx.wish]
    obtain ⟨f, d, rfl, a, du, rfl, hF, hd, ok, hw, q⟩ := h
    obtain ⟨b, u, l, hv, rfl, hb, hu1, hl, hh⟩ := hd.open
    lcg_src
    rename_i r0 G0 r00 r01 C0 F0 p1 G1 S1 e1
    refine w_ite (fun h0 => ?_) (fun h0 => ?_)
    · lcg_src
      exact q _ du _ ok (by kpf_close) (by lcg_sub) (by lcg_sub)
    · lcg_src
      refine w_ite (fun h1 => ?_) (fun h1 => ?_)
      · lcg_src
        rename_i v he G2 ho C2 F2 hd2 t3 G3 S3 e3
        exact q _ { du with he := he } _ ⟨ok.us, ok.uw, ok.ub, ok.ls, ok.lw, ok.lb, ok.dv, ho⟩ (by kpf_close) (by lcg_sub) (DuoV.of (by lcg_sub) (by lcg_sub) (by lcg_sub) (by lcg_sub))
      · lcg_src
        refine w_ite (fun h2 => ?_) (fun h2 => ?_)
        · lcg_src
          rename_i l2 G2 n2 S2 e2 k G3 m3 C3 F3 t4 G4 S4 e4 t5 G5 S5 e5
          simp only [List.mem_cons, List.not_mem_nil, or_false, V.int.injEq] at m3
          have ow := ok.lw
          have hb2 : 0 < (if du.lw + k > 1 then du.lw + k else 1) ∧ (if du.lw + k > 1 then du.lw + k else 1) ≤ 1000 := by
            split <;> omega
          exact q _ { du with lw := if du.lw + k > 1 then du.lw + k else 1 } _ ⟨ok.us, ok.uw, ok.ub, ok.ls, hb2, ok.lb, ok.dv, ok.he⟩ (by kpf_close) (by lcg_sub) (DuoV.of (by lcg_sub) (by lcg_sub) (by lcg_sub) (by lcg_sub))
        · lcg_src
          rename_i t4 G4 S4 e4 t5 G5 S5 e5
          exact q _ { du with us := 1 } _ ⟨(show (0 : Int) < 1 ∧ (1 : Int) ≤ 1000 by decide), ok.uw, ok.ub, ok.ls, ok.lw, ok.lb, ok.dv, ok.he⟩ (by kpf_close) (by lcg_sub) (DuoV.of (by lcg_sub) (by lcg_sub) (by lcg_sub) (by lcg_sub))
end
end
section
/-! A step of the book, part by part. -/
open PySem PySem.Spec PyProof.Rows L2 LamX
/-- how things stand before a step of the book: the flask at a, the book at y, the law's pages at l -/
structure BIn (K : Fr0) (H : Hp) (a y d l : Addr) (du : Duo) (rb : Addr) (row : List Int) (ps : List Pg) (pg : Pg) (m : Nat) : Prop where
  fl : Fl H a
  bk : BookAt K H y (ps ++ [pg])
  ok : PgOk pg
  oks : ∀ p ∈ ps, PgOk p
  pl : ps.length ≤ 900
  wl : ∀ p ∈ ps ++ [pg], p.2.length ≤ m
  ml : m ≤ 40
  lp : LPages K H l (ps ++ [pg])
  la : l ≠ a
  hd : DuoV K H (.ref d) du
  dok : Duo.ok du
  dw : du.lw ≤ 900
  hr : SqT K H rb (row.map V.int)
  rbg : ∀ x ∈ row, Big x
  rln : row.length ≤ 60
  tb : Tabs2 (TTab K) H
/-- what a step of the book gives -/
def BOut (K : Fr0) (H : Hp) (a y : Addr) (n m : Nat) (Q : VK) : Prop := ∀ z l' H', ∀ ps' : List Pg, ∀ pg' : Pg, FrN [a, y] H H' → Fl H' a → BookAt K H' y (ps' ++ [pg']) → (∀ p ∈ ps' ++ [pg'], PgOk p) → ps'.length ≤ n + 1 → (∀ p ∈ ps' ++ [pg'], p.2.length ≤ m + 1) →
  LPages K H' l' (ps' ++ [pg']) → l' ≠ a → Tabs2 (TTab K) H' → SqT K H' z [.bl true, .ref l'] → Q (.ref z) H'
theorem LPages.keep {K : Fr0} {H H' : Hp} {l : Addr} {pages : List Pg} (k : ∀ b o, (kindP o || tag o == 2) = true → H b = some o → H' b = some o) (kl : ∀ xs, H l = some (.lst xs) → H' l = some (.lst xs)) (h : LPages K H l pages) : LPages K H' l pages := by
  obtain ⟨ts, h1, h2⟩ := h
  have kp : ∀ b o, kindP o = true → H b = some o → H' b = some o := fun b o t => k b o (by rw [t]; rfl)
  refine ⟨ts, kl _ h1, Paired.mapP h2 fun a pg ⟨d, w, vs, k1, ⟨kvs, k2, k3⟩, k4, k5⟩ => ⟨d, w, vs, sqT_keep kp k1, ⟨kvs, k _ _ rfl k2, Paired.mapP k3 fun kv p ⟨x, y⟩ => ⟨x, dp_keep kp _ _ (duo_tupO _) y⟩⟩, sqT_keep kp k4, dps_keep kp _ _ (wishes_tupO _) k5⟩⟩
theorem ex_LP {K : Fr0} {H H' : Hp} {l : Addr} {pages : List Pg} (S : ExtN H H') (h : LPages K H l pages) : LPages K H' l pages :=
  h.keep (fun b o t e => S b o e fun ps z => by
    subst z
    cases t) fun xs e => ext_k S _ _ rfl e
/-- the book itself changes -/
theorem cB_LP {K : Fr0} {H H' : Hp} {y l ds t : Addr} {pages : List Pg} (C : Chg y H H') (hy : H y = some (.ins (ad K "Book") ds [("states", .ref t)])) (h : LPages K H l pages) : LPages K H' l pages :=
  h.keep (fun b o t e => C b o (ne_of e hy fun z => by
    subst z
    cases t) e) fun xs e => C _ _ (ne_tag e hy rfl) e
/-- the flask changes -/
theorem cF_LP {K : Fr0} {H H' : Hp} {a l : Addr} {pages : List Pg} (C : Chg a H H') (f : Fl H a) (n : l ≠ a) (h : LPages K H l pages) : LPages K H' l pages := by
  obtain ⟨u, v, z, hf⟩ := f
  exact h.keep (fun b o t e => C b o (ne_of e hf fun z => by
    subst z
    cases t) e) fun xs e => C _ _ n e
theorem PsD.keep {K : Fr0} {H H' : Hp} {d : Addr} {ps : List (Str × Duo)} (k : ∀ b o, (kindP o || tag o == 2) = true → H b = some o → H' b = some o) (h : PsD K H d ps) : PsD K H' d ps := by
  obtain ⟨kvs, k2, k3⟩ := h
  exact ⟨kvs, k _ _ rfl k2, Paired.mapP k3 fun kv p ⟨x, y⟩ => ⟨x, dp_keep (fun b o t => k b o (by rw [t]; rfl)) _ _ (duo_tupO _) y⟩⟩
/-- of kinds that a change elsewhere leaves -/
abbrev KpP (H H' : Hp) : Prop := ∀ b o, (kindP o || tag o == 2) = true → H b = some o → H' b = some o
theorem ex_k2 {H H' : Hp} (S : ExtN H H') : KpP H H' := fun b o t e => S b o e fun ps z => by
  subst z
  cases t
theorem cF_k2 {H H' : Hp} {a : Addr} (C : Chg a H H') (f : Fl H a) : KpP H H' := fun b o t e => by
  obtain ⟨u, v, z, hf⟩ := f
  exact C b o (ne_of e hf fun z => by
    subst z
    cases t) e
theorem cB_k2 {K : Fr0} {H H' : Hp} {y ds t : Addr} (C : Chg y H H') (hy : H y = some (.ins (ad K "Book") ds [("states", .ref t)])) : KpP H H' := fun b o t e => C b o (ne_of e hy fun z => by
    subst z
    cases t) e
theorem fB_k2 {K : Fr0} {H H' : Hp} {y ds t : Addr} (C : FrN [y] H H') (hy : H y = some (.ins (ad K "Book") ds [("states", .ref t)])) : KpP H H' := fun b o t e => C b o (fun m => ne_of e hy (fun z => by
    subst z
    cases t) (List.mem_singleton.mp m)) e fun ps z => by
    subst z
    cases t
theorem fB_LP {K : Fr0} {H H' : Hp} {y l ds t : Addr} {pages : List Pg} (C : FrN [y] H H') (hy : H y = some (.ins (ad K "Book") ds [("states", .ref t)])) (h : LPages K H l pages) : LPages K H' l pages :=
  h.keep (fB_k2 C hy) fun xs e => C _ _ (fun m => ne_tag e hy rfl (List.mem_singleton.mp m)) e fun _ z => by cases z
theorem kp_T {K : Fr0} {H H' : Hp} {a : Addr} {xs : List V} (k : KpP H H') (h : SqT K H a xs) : SqT K H' a xs := sqT_keep (fun b o t => k b o (by rw [t]; rfl)) h
theorem kp_Ws {K : Fr0} {H H' : Hp} {vs : List V} {ws : List Wish} (k : KpP H H') (h : DpAll K H vs (ws.map Wish.d)) : DpAll K H' vs (ws.map Wish.d) := dps_keep (fun b o t => k b o (by rw [t]; rfl)) _ _ (wishes_tupO _) h
theorem kp_W {K : Fr0} {H H' : Hp} {v : V} {wi : Wish} (k : KpP H H') (h : Dp K H v wi.d) : Dp K H' v wi.d := dp_keep (fun b o t => k b o (by rw [t]; rfl)) _ _ (wish_tupO _) h
theorem kp_D {K : Fr0} {H H' : Hp} {v : V} {du : Duo} (k : KpP H H') (h : DuoV K H v du) : DuoV K H' v du := dp_keep (fun b o t => k b o (by rw [t]; rfl)) _ _ (duo_tupO _) h
local macro_rules | `(tactic| lcg_sub) => `(tactic| ((with_reducible apply sm_DpA); assumption; lcg_sub))
local macro_rules | `(tactic| lcg_sub) => `(tactic| ((with_reducible apply StoreAt.same); assumption; lcg_sub))
local macro_rules | `(tactic| lcg_sub) => `(tactic| ((with_reducible apply EntsAt.same); assumption; lcg_sub))
local macro_rules | `(tactic| lcg_sub) => `(tactic| ((with_reducible apply sm_FA); assumption; lcg_sub))
local macro_rules | `(tactic| lcg_sub) => `(tactic| ((with_reducible apply BookAt.same); assumption; lcg_sub))
local macro_rules | `(tactic| lcg_sub) => `(tactic| ((with_reducible apply LPages.same); assumption; lcg_sub))
local macro_rules | `(tactic| lcg_sub) => `(tactic| ((with_reducible apply PsD.same); assumption; lcg_sub))
section
variable {P : Program} {w : World} {K : Fr0} {mg : Str → Option Value} {base : Heap}
abbrev N_q_book_step : List Str := ["_law_flask_here", "_law_book", "_law_duo_here", "_law_row", "_law_pages", "_law_kind_here", "_law_pairs_here", "_law_wishes_here", "_law_later", "_law_bad", "_law_came_here", "_law_rest", "_law_at", "_law_fresh", "_law_tag", "_law_wish_here"]
abbrev P_q_book_step : List Str := ["_law_flask_here", "_law_book", "_law_duo_here", "_law_row", "_law_pages"]
theorem sc_q_book_step : FnScope N_q_book_step P_q_book_step (defScope s_q_book_step) := ⟨rfl, rfl, rfl, by decide +kernel, rfl, by decide +kernel, by decide +kernel⟩
theorem part_bsC (T : Tx K mg) (TT : Tt K mg base) {f : Addr} {A : Around} {outer : List Env} {s : Shared} {HE : Hp} {E : XK} (hr : Room 20 (A.deeper (envOfC "_law_book_step" (defScope s_q_book_step) s.heap.objs.size f (.ref (He.cT K dB).1)))) (hgd : (A.deeper (envOfC "_law_book_step" (defScope s_q_book_step) s.heap.objs.size f (.ref (He.cT K dB).1))).guards = some [])  :
    ∃ t, PSs (cxOf CX0 P w K mg base N_q_book_step "_law_book_step" (defScope s_q_book_step) f (.ref (He.cT K dB).1) A outer s HE E).nox (stBody (stAt (defBody s_q_book_step) 4)) t ∧ ∀ (a y d l rb : Addr) (du : Duo) (row : List Int) (ps : List Pg) (pg : Pg) (m : Nat) (kd o6 o7 o14 : Option V) (H : Hp) (D : Ends), BIn K H a y d l du rb row ps pg m → BOut K H a y ps.length m D.rt → t D [some (.ref a), some (.ref y), some (.ref d), some (.ref rb), some (.ref l), kd, o6, o7, none, none, none, none, none, none, o14, none] H := by
  have hu := hu_of hr
  refine ⟨_, (pss_cons (ps_set (i := 10) sc_q_book_step.nd rfl (Or.inl rfl) (pe_came (k := 16) T (by rfl) TT.b rfl (mB K) TT.uB (hr.mono (by decide)) (lamP_by (sc := defScope s_q_book_step) (by decide +kernel)) rfl (fun _ _ _ _ _ => rfl) (fun _ _ _ _ _ _ _ _ hr2 => (pe_mt0 (pv 1) T.cl_Book T.me_Book_undo (ok_Book_undo T) (hr2.mono (by decide)) (passes_call (takes_of rfl rfl rfl rfl) (fun _ _ _ _ h => h))))))
      (pss_one (ps_ret (pe_tupS (pa_cons (pe_cmpR (op_eqD hr.units) (pv 10) (pe_ifExp (pt_cmpR op_gt (pe_callB call_LenL (by rfl) T.f_len boot_lenB (pa_cons (pv 4) pa_nil)) pe_int (nomark _)) (pe_lstS (pa_cons pe_str (pa_cons pe_non pa_nil))) (pe_lstS (pa_cons pe_str (pa_cons pe_non pa_nil)))) (nomark _)) (pa_cons (pe_slice sl_Ls (pv 4) po_none (po_some (pe_callB (call_max2 rfl) (by rfl) T.f_max boot_maxB (pa_cons pe_int (pa_cons (pe_op op_sub (pe_callB call_LenL (by rfl) T.f_len boot_lenB (pa_cons (pv 4) pa_nil)) pe_int) pa_nil))))) pa_nil)))))), ?_⟩
  try dsimp only [cxOf, Cx.nox, Cx.wish]
  intro a y d l rb du row ps pg m kd o6 o7 o14 H D I q
  obtain ⟨ds0, t0, ss0, st0, e0, w0, v0, hy, _⟩ := id I.bk.last
  have tb := I.tb
  lcg_src
  refine ⟨tb, fun H1 eN T1 => ?_⟩
  have fl1 := ex_Fl eN I.fl
  have bk1 := ex_Bk eN I.bk
  have hy1 := ex_hp eN hy rfl
  have pl1 : ps.length ≤ 1000 := by have := I.pl; omega
  have c0 := T.cl_Book
  have c1 := T.me_Book_undo
  unfold TCame
  lcg_src
  have lp1 := ex_LP eN I.lp
  obtain ⟨u1, u2, u3, hfl⟩ := id fl1
  have nay : a ≠ y := ne_tag hfl hy1 rfl
  refine ⟨fun H2 hne C2 bk2 => ⟨(show 2 ≤ sizeLine by decide), fun p3 H3 n3 S3 e3 => ?_⟩, fun hnil => Tells.und (fun p3 H3 n3 S3 e3 => ?_)⟩
  · have fl3 : Fl H3 a := ⟨u1, u2, u3, S3 _ _ (C2 _ _ nay hfl)⟩
    have T3 := (T1.chg C2 hy1 rfl).same S3
    have F3 : FrN [a, y] H H3 := ((FrN.ext eN).trans (FrN.chg C2 (by simp))).trans (FrN.same S3)
    have bk3 := bk2.same S3
    obtain ⟨ts, hts, htp⟩ := (cB_LP C2 hy1 lp1).same S3
    have dp3 : Dp K H3 (.ref p3) (.list [.str "gave", .none]) := .lst (sq_L e3) (.cons (.str _) (.cons .non .nil))
    have hlt := htp.length
    clear e3
    have hpos : 0 < ps.length := List.length_pos_iff.mpr hne
    have hl1 : (ts.map V.ref).length = ps.length + 1 := by rw [List.length_map, hlt, List.length_append]; rfl
    lcg_src
    rw [decide_eq_true (show (1 : Int) < ((ts.map V.ref).length : Nat) by rw [hl1]; omega)]
    lcg_src
    rename_i p6 G6 n6 S6 e6 pw Gw Sw ew
    rw [SeqAt.eqv_refl _ (by with_unfolding_all rfl)] at ew
    have ek : (if (((ts.map V.ref).length : Nat) : Int) - 1 > 1 then (((ts.map V.ref).length : Nat) : Int) - 1 else 1) = ((ps.length : Nat) : Int) := by
      rw [hl1]
      split <;> omega
    rw [ek, cut_take, ← List.map_take] at e6
    obtain ⟨ts0, tl, ets, htp0, _⟩ := Paired.snocInv htp
    have etk : ts.take ps.length = ts0 := by
      rw [ets, ← htp0.length]
      simp
    rw [etk] at e6
    have SS : Same H3 Gw := by kas_types
    have S36 : Same H3 G6 := by kas_types
    obtain ⟨qs, qg, eq⟩ : ∃ qs qg, ps = qs ++ [qg] := ⟨_, _, (List.dropLast_concat_getLast hne).symm⟩
    have lpw : LPages K Gw p6 ps := ⟨ts0, Sw _ _ e6, Paired.mapP htp0 fun b g z => z.same SS⟩
    have hlu : p6 ≠ a := fun z => by
      obtain ⟨v1, v2, v3, hf⟩ := fl3
      have := S36 _ _ hf
      rw [← z, e6] at this
      cases ts0 with
      | nil => cases this
      | cons x r =>
        rw [List.map_cons] at this
        cases (List.cons.inj (HO.lst.inj (Option.some.inj this))).1
    refine q pw p6 Gw qs qg (F3.trans (FrN.same SS)) (sm_Fl SS fl3) (by rw [← eq]; exact bk3.same SS) (fun p hp => I.oks p (by rw [eq]; exact hp)) (by rw [eq, List.length_append]; simp only [List.length_cons, List.length_nil]; omega) ?_ (by rw [← eq]; exact lpw) hlu (T3.same SS) ew
    intro p hp
    have := I.wl p (List.mem_append_left _ (by rw [eq]; exact hp))
    omega
  · subst hnil
    have fl3 := sm_Fl S3 fl1
    have T3 := T1.same S3
    have F3 : FrN [a, y] H H3 := (FrN.ext eN).trans (FrN.same S3)
    have bk3 := bk1.same S3
    obtain ⟨ts, hts, htp⟩ := lp1.same S3
    have dp3 : Dp K H3 (.ref p3) (.list [.str "NothingToUndo", .none]) := .lst (sq_L e3) (.cons (.str _) (.cons .non .nil))
    have hlt := htp.length
    clear e3
    have hl1 : (ts.map V.ref).length = 1 := by rw [List.length_map, hlt]; rfl
    lcg_src
    rw [decide_eq_false (show ¬ (1 : Int) < ((ts.map V.ref).length : Nat) by rw [hl1]; omega)]
    lcg_src
    rename_i p6 G6 n6 S6 e6 pw Gw Sw ew
    rw [SeqAt.eqv_refl _ (by with_unfolding_all rfl)] at ew
    have ek : (if (((ts.map V.ref).length : Nat) : Int) - 1 > 1 then (((ts.map V.ref).length : Nat) : Int) - 1 else 1) = ((1 : Nat) : Int) := by
      rw [hl1]
      rfl
    rw [ek, cut_take, List.take_of_length_le (by rw [hl1]; exact Nat.le_refl _)] at e6
    have SS : Same H3 Gw := by kas_types
    have S36 : Same H3 G6 := by kas_types
    have lpw : LPages K Gw p6 ([] ++ [pg]) := ⟨ts, Sw _ _ e6, Paired.mapP htp fun b g z => z.same SS⟩
    have hlu : p6 ≠ a := fun z => by
      obtain ⟨v1, v2, v3, hf⟩ := fl3
      have := S36 _ _ hf
      rw [← z, e6] at this
      cases ts with
      | nil => cases this
      | cons x r =>
        rw [List.map_cons] at this
        cases (List.cons.inj (HO.lst.inj (Option.some.inj this))).1
    refine q pw p6 Gw [] pg (F3.trans (FrN.same SS)) (sm_Fl SS fl3) (bk3.same SS) (fun p hp => ?_) (Nat.zero_le _) (fun p hp => ?_) lpw hlu (T3.same SS) ew
    · rw [List.mem_singleton.mp hp]
      exact I.ok
    · have := I.wl p hp
      omega
end
end
section
/-! What stays so of a page: a wish left out, a wish added, a pair put. -/
open PySem PySem.Spec PyProof.Rows L2
theorem pg_lift {pg : Pg} (ok : PgOk pg) (k : Nat) : PgOk (pg.1, pg.2.take k ++ pg.2.drop (k + 1)) := by
  have hm : ∀ wi ∈ pg.2.take k ++ pg.2.drop (k + 1), wi ∈ pg.2 := fun wi h => by
    rcases List.mem_append.mp h with z | z
    · exact List.mem_of_mem_take z
    · exact List.mem_of_mem_drop z
  refine ⟨ok.nd, ok.tg, ok.ok, fun wi h => ok.ws wi (hm wi h), ?_, ?_⟩
  · have := ok.ln
    show (pg.2.take k ++ pg.2.drop (k + 1)).length ≤ 60
    rw [List.length_append, List.length_take, List.length_drop]
    omega
  · exact List.findIdx?_eq_none_iff.mpr fun wi h => List.findIdx?_eq_none_iff.mp ok.hold wi (hm wi h)
theorem pg_wish {pg : Pg} {wi : Wish} {du : Duo} (ok : PgOk pg) (wok : wi.ok) (hd : pg.1.lookup wi.tag = some du) (hh : holdsM du wi = true) (hl : pg.2.length < 60) : PgOk (pg.1, pg.2 ++ [wi]) := by
  refine ⟨ok.nd, ok.tg, ok.ok, fun w h => ?_, ?_, ?_⟩
  · rcases List.mem_append.mp h with z | z
    · exact ok.ws w z
    · rw [List.mem_singleton.mp z]
      exact ⟨wok, du, hd⟩
  · show (pg.2 ++ [wi]).length ≤ 60
    rw [List.length_append]
    exact hl
  · show firstBad pg.1 (pg.2 ++ [wi]) = none
    rw [first_snoc ok.hold, if_neg]
    unfold badAt
    rw [hd]
    simp only [hh]
    decide
theorem pg_put {pg : Pg} {t : Str} {du : Duo} (ok : PgOk pg) (ht : TagS t) (hok : Duo.ok du) (hf : firstBad (putP pg.1 t du) pg.2 = none) : PgOk (putP pg.1 t du, pg.2) := by
  refine ⟨?_, fun p h => ?_, fun p h => ?_, fun wi h => ?_, ok.ln, hf⟩
  · show ((putP pg.1 t du).map (·.1)).Nodup
    rw [put_keys]
    by_cases c : t ∈ pg.1.map (·.1)
    · rw [if_pos c]
      exact ok.nd
    · rw [if_neg c]
      refine List.nodup_append.mpr ⟨ok.nd, by simp, fun a ha b hb e => ?_⟩
      rw [List.mem_singleton.mp hb] at e
      exact c (e ▸ ha)
  · rcases put_mem h with z | ⟨z, _⟩
    · exact ok.tg p z
    · rw [z]
      exact ht
  · rcases put_mem h with z | ⟨_, z⟩
    · exact ok.ok p z
    · rw [z]
      exact hok
  · obtain ⟨h1, du', h2⟩ := ok.ws wi h
    refine ⟨h1, ?_⟩
    show ∃ du', (putP pg.1 t du).lookup wi.tag = some du'
    rw [put_lookup]
    by_cases c : wi.tag = t
    · exact ⟨du, if_pos c⟩
    · exact ⟨du', by rw [if_neg c]; exact h2⟩
theorem put_ws {pg : Pg} {t : Str} {du : Duo} (ok : PgOk pg) : ∀ wi ∈ pg.2, wi.ok ∧ ∃ du', (putP pg.1 t du).lookup wi.tag = some du' := fun wi h => by
  obtain ⟨h1, du', h2⟩ := ok.ws wi h
  refine ⟨h1, ?_⟩
  rw [put_lookup]
  by_cases c : wi.tag = t
  · exact ⟨du, if_pos c⟩
  · exact ⟨du', by rw [if_neg c]; exact h2⟩
theorem put_oks {pg : Pg} {t : Str} {du : Duo} (ok : PgOk pg) (hok : Duo.ok du) : ∀ p ∈ putP pg.1 t du, Duo.ok p.2 := fun p h => by
  rcases put_mem h with z | ⟨_, z⟩
  · exact ok.ok p z
  · rw [z]
    exact hok
end
section
/-! The law's dict of a page, a pair put. -/
open PySem PySem.Spec PyProof.Rows L2
theorem merge_put {kvs : List (Key × V)} {k : Key} {v : V} (nd : (kvs.map (·.1)).Nodup) : mergeK [] (kvs ++ [(k, v)]) = putK kvs k v := by
  have e : mergeK [] (kvs ++ [(k, v)]) = putK (mergeK [] kvs) k v := by
    unfold mergeK
    rw [List.foldl_append]
    rfl
  rw [e, merge_nd kvs [] nd (fun _ _ => rfl), List.nil_append]
theorem psd_put {K : Fr0} {H : Hp} {kvs : List (Key × V)} {ps : List (Str × Duo)} {t : Str} {v : V} {du : Duo} (h : Paired (fun kv p => kv.1 = Sum.inr p.1 ∧ DuoV K H kv.2 p.2) kvs ps) (hv : DuoV K H v du) :
    Paired (fun kv p => kv.1 = Sum.inr p.1 ∧ DuoV K H kv.2 p.2) (putK kvs (Sum.inr t) v) (putP ps t du) := by
  have e : (kvs.any fun kv => decide (kv.1 = (Sum.inr t : Key))) = ps.any fun p => decide (p.1 = t) := by
    induction h with
    | nil => rfl
    | cons a r ih =>
      rw [List.any_cons, List.any_cons, ih]
      congr 1
      rw [a.1]
      exact decide_eq_decide.mpr ⟨fun z => Sum.inr.inj z, fun z => congrArg Sum.inr z⟩
  unfold putK putP
  rw [e]
  by_cases c : (ps.any fun p => decide (p.1 = t)) = true
  · rw [if_pos c, if_pos c]
    clear e c
    induction h with
    | nil => exact .nil
    | @cons kv p kvs ps a r ih =>
      refine .cons ?_ ih
      obtain ⟨h1, h2⟩ := a
      dsimp only
      by_cases d : p.1 = t
      · rw [if_pos (show kv.1 = (Sum.inr t : Key) by rw [h1, d]), if_pos d]
        exact ⟨h1, hv⟩
      · rw [if_neg (fun z => d (Sum.inr.inj (h1.symm.trans z))), if_neg d]
        exact ⟨h1, h2⟩
  · rw [if_neg c, if_neg c]
    clear e c
    induction h with
    | nil => exact .cons ⟨rfl, hv⟩ .nil
    | cons a r ih => exact .cons a ih
end
section
/-! The law's pages, one more. -/
open PySem PySem.Spec PyProof.Rows L2
theorem LPages.push {K : Fr0} {H H4 : Hp} {l2 b d w : Addr} {vs : List V} {ts : List Addr} {pages : List Pg} {pg : Pg} (htp : Paired (LPage K H) ts pages) (S : Same H H4) (hb : SqT K H4 b [.ref d, .ref w]) (hd : PsD K H4 d pg.1) (hw : SqT K H4 w vs) (hds : DpAll K H4 vs (pg.2.map Wish.d))
    (hl : H4 l2 = some (.lst (ts.map V.ref ++ [V.ref b]))) : LPages K H4 l2 (pages ++ [pg]) := by
  refine ⟨ts ++ [b], by rw [List.map_append]; exact hl, Paired.snoc ⟨d, w, vs, hb, hd, hw, hds⟩ (Paired.mapP htp fun a p z => z.same S)⟩
/-- a list of references is not the flask -/
theorem refs_ne {H : Hp} {a l : Addr} {ts : List Addr} (f : Fl H a) (h : H l = some (.lst (ts.map V.ref))) : l ≠ a := fun z => by
  obtain ⟨v1, v2, v3, hf⟩ := f
  rw [z, hf] at h
  cases ts with
  | nil => cases h
  | cons x r =>
    rw [List.map_cons] at h
    cases (List.cons.inj (HO.lst.inj (Option.some.inj h))).1
theorem all3 {Q : Pg → Prop} {ps : List Pg} {pg pg2 : Pg} (h1 : ∀ p ∈ ps, Q p) (h2 : Q pg) (h3 : Q pg2) : ∀ p ∈ (ps ++ [pg]) ++ [pg2], Q p := fun p h => by
  rcases List.mem_append.mp h with z | z
  · rcases List.mem_append.mp z with z | z
    · exact h1 p z
    · exact List.mem_singleton.mp z ▸ h2
  · exact List.mem_singleton.mp z ▸ h3
theorem all2 {Q : Pg → Prop} {ps : List Pg} {pg : Pg} (h1 : ∀ p ∈ ps, Q p) (h2 : Q pg) : ∀ p ∈ ps ++ [pg], Q p := fun p h => by
  rcases List.mem_append.mp h with z | z
  · exact h1 p z
  · exact List.mem_singleton.mp z ▸ h2
theorem two_ok : ∀ {x y : V}, [x, y].length ≤ sizeLine := fun {_ _} => (show 2 ≤ sizeLine by decide)
end
section
/-! A step of the book: a wish lifted. -/
open PySem PySem.Spec PyProof.Rows L2 LamX
local macro_rules | `(tactic| lcg_sub) => `(tactic| ((with_reducible apply sm_DpA); assumption; lcg_sub))
local macro_rules | `(tactic| lcg_sub) => `(tactic| ((with_reducible apply StoreAt.same); assumption; lcg_sub))
local macro_rules | `(tactic| lcg_sub) => `(tactic| ((with_reducible apply EntsAt.same); assumption; lcg_sub))
local macro_rules | `(tactic| lcg_sub) => `(tactic| ((with_reducible apply sm_FA); assumption; lcg_sub))
local macro_rules | `(tactic| lcg_sub) => `(tactic| ((with_reducible apply BookAt.same); assumption; lcg_sub))
local macro_rules | `(tactic| lcg_sub) => `(tactic| ((with_reducible apply LPages.same); assumption; lcg_sub))
local macro_rules | `(tactic| lcg_sub) => `(tactic| ((with_reducible apply PsD.same); assumption; lcg_sub))
section
variable {P : Program} {w : World} {K : Fr0} {mg : Str → Option Value} {base : Heap}
theorem part_bsB (T : Tx K mg) (TT : Tt K mg base) {f : Addr} {A : Around} {outer : List Env} {s : Shared} {HE : Hp} {E : XK} (hr : Room 20 (A.deeper (envOfC "_law_book_step" (defScope s_q_book_step) s.heap.objs.size f (.ref (He.cT K dB).1)))) (hgd : (A.deeper (envOfC "_law_book_step" (defScope s_q_book_step) s.heap.objs.size f (.ref (He.cT K dB).1))).guards = some [])  :
    ∃ t, PSs (cxOf CX0 P w K mg base N_q_book_step "_law_book_step" (defScope s_q_book_step) f (.ref (He.cT K dB).1) A outer s HE E).nox (stBody (stAt (defBody s_q_book_step) 3)) t ∧ ∀ (a y d l rb d2 w2 : Addr) (vs2 : List V) (du : Duo) (row : List Int) (ps : List Pg) (pg : Pg) (m : Nat) (kd o14 : Option V) (H : Hp) (D : Ends), BIn K H a y d l du rb row ps pg m → PsD K H d2 pg.1 → SqT K H w2 vs2 → DpAll K H vs2 (pg.2.map Wish.d) → BOut K H a y ps.length m D.rt → t D [some (.ref a), some (.ref y), some (.ref d), some (.ref rb), some (.ref l), kd, some (.ref d2), some (.ref w2), none, none, none, none, none, none, o14, none] H := by
  have hu := hu_of hr
  refine ⟨_, (pss_cons (ps_set (i := 12) sc_q_book_step.nd rfl (Or.inr rfl) (pe_fn (ok_q_pour T) (hr.mono (by decide)) (by rfl) T.g_q_pour T.k_q_pour pass0 (pa_cons (pv 0) (pa_cons (pe_op op_add (pe_callB call_LenT (by rfl) T.f_len boot_lenB (pa_cons (pv 7) pa_nil)) pe_int) pa_nil))))
      (pss_cons (ps_set (i := 10) sc_q_book_step.nd rfl (Or.inl rfl) (pe_came (k := 16) T (by rfl) TT.b rfl (mB K) TT.uB (hr.mono (by decide)) (lamP_by (sc := defScope s_q_book_step) (by decide +kernel)) rfl (fun _ _ _ _ _ => rfl) (fun _ _ _ _ _ _ _ _ hr2 => (pe_mt (pv 1) T.cl_Book T.me_Book_lift (ok_Book_lift T) (hr2.mono (by decide)) (passes_call (takes_of rfl rfl rfl rfl) (fun _ _ _ _ h => h)) (pa_cons (pv 12) pa_nil)))))
      (pss_cons (ps_set (i := 11) sc_q_book_step.nd rfl (Or.inl rfl) (pe_op op_CatTs (pe_slice sl_Ts (pv 7) po_none (po_some (pv 12))) (pe_slice sl_Ts (pv 7) (po_some (pe_op op_add (pv 12) pe_int)) po_none)))
      (pss_cons (ps_if (pt_cmpR op_eq (pv 12) (pe_callB call_LenT (by rfl) T.f_len boot_lenB (pa_cons (pv 7) pa_nil)) (nomark _)) (pss_one (ps_ret (pe_tupS (pa_cons (pe_cmpR (op_eqD hr.units) (pv 10) (pe_lstS (pa_cons pe_str (pa_cons (pv 12) pa_nil))) (nomark _)) (pa_cons (pv 4) pa_nil))))) pss_nil)
      (pss_one (ps_ret (pe_tupS (pa_cons (pe_cmpR (op_eqD hr.units) (pv 10) (pe_lstS (pa_cons pe_str (pa_cons pe_non pa_nil))) (nomark _)) (pa_cons (pe_op op_Cats (pv 4) (pe_lstS (pa_cons (pe_tupS (pa_cons (pv 6) (pa_cons (pv 11) pa_nil))) pa_nil))) pa_nil))))))))), ?_⟩
  try dsimp only [cxOf, Cx.nox, Cx.wish]
  intro a y d l rb d2 w2 vs2 du row ps pg m kd o14 H D I hps hw hds q
  obtain ⟨ds0, t0, ss0, st0, e0, w0, v0, hy, _⟩ := id I.bk.last
  have fl := I.fl
  have hvl : vs2.length = pg.2.length := by rw [dps_len hds, List.length_map]
  have wl40 : pg.2.length ≤ 40 := by
    have := I.wl pg (List.mem_append_right _ (List.mem_singleton.mpr rfl))
    have := I.ml
    omega
  lcg_src
  rename_i r G1 r0 r1 C1 F1
  obtain ⟨k, rfl⟩ := Int.eq_ofNat_of_zero_le r0
  rw [hvl] at r1
  obtain ⟨u1, u2, u3, hfl⟩ := id fl
  have nay : a ≠ y := ne_tag hfl hy rfl
  have bk1 := I.bk.chg C1 hfl rfl
  have tb1 := cF_Tb C1 fl I.tb
  have lp1 := cF_LP C1 fl I.la I.lp
  have k1 := cF_k2 C1 fl
  have hw1 := kp_T k1 hw
  have hds1 := kp_Ws k1 hds
  have hps1 := hps.keep k1
  have hy1 := cF_hp C1 fl hy rfl
  simp only [List.set_cons_succ, List.set_cons_zero]
  refine ⟨tb1, fun H1 eN T1 => ?_⟩
  have fl1 := ex_Fl eN F1
  have bk2 := ex_Bk eN bk1
  have hy2 := ex_hp eN hy1 rfl
  have lp2 := ex_LP eN lp1
  have k2 := ex_k2 eN
  have hw2 := kp_T k2 hw1
  have hds2 := kp_Ws k2 hds1
  have hps2 := hps1.keep k2
  have pl1 : ps.length ≤ 1000 := by have := I.pl; omega
  have wl1 : pg.2.length ≤ 1000 := by omega
  have F01 : FrN [a, y] H H1 := (FrN.chg C1 (by simp)).trans (FrN.ext eN)
  have c0 := T.cl_Book
  have c1 := T.me_Book_lift
  have hds' := hds2
  unfold TCame
  clear hds2 hds1 hds hps1 hps hw1 hw lp1
  obtain ⟨f1, f2, f3, hfl1⟩ := id fl1
  lcg_src
  refine ⟨fun H2 hlt C2 bk3 => ⟨(show 2 ≤ sizeLine by decide), fun p3 H3 n3 S3 e3 => ?_⟩, fun hge d0 H2 n2 S2 e2 => Tells.ind e2 (fun p3 H3 n3 S3 e3 => ?_)⟩
  · have fl3 : Fl H3 a := ⟨f1, f2, f3, S3 _ _ (C2 _ _ nay hfl1)⟩
    have T3 := (T1.chg C2 hy2 rfl).same S3
    have F3 : FrN [a, y] H H3 := (F01.trans (FrN.chg C2 (by simp))).trans (FrN.same S3)
    have bk4 := bk3.same S3
    obtain ⟨ts, hts, htp⟩ := (cB_LP C2 hy2 lp2).same S3
    have k3 := cB_k2 C2 hy2
    have hw3 := sm_T S3 (kp_T k3 hw2)
    have hds3 := sm_DpA S3 (kp_Ws k3 hds')
    have hps3 := (hps2.keep k3).same S3
    have dp3 : Dp K H3 (.ref p3) (.list [.str "gave", .none]) := .lst (sq_L e3) (.cons (.str _) (.cons .non .nil))
    clear e3 hds' hps2 hw2 hy1
    lcg_src
    rename_i p4 G4 S4 f4 p5 G5 S5 f5
    rw [show ((k : Int) + 1) = ((k + 1 : Nat) : Int) from rfl] at *
    rw [cut_take] at f4
    rw [cut_drop] at f5
    rw [cut_take, cut_drop]
    refine ⟨by
      rw [List.length_take, List.length_drop, hvl]
      exact Nat.le_trans (show _ ≤ 5000 by omega) (by decide), fun p6 G6 S6 f6 => ?_⟩
    lcg_src
    rw [hvl, decide_eq_false (show ¬ V.int (k : Int) = V.int ((pg.2.length : Nat) : Int) from fun z => by
      have := V.int.inj z
      omega)]
    have S36 : Same H3 G6 := (S4.trans S5).trans S6
    clear f4 f5
    lcg_src
    rename_i p7 G7 n7 S7 e7 p8 G8 S8 e8 p9 G9 n9 S9 e9
    have hlt2 : ts.length = ps.length + 1 := by
      rw [htp.length, List.length_append]
      rfl
    refine ⟨by
      rw [List.length_map, hlt2]
      exact Nat.le_trans (show _ ≤ 5000 by simp only [List.length_cons, List.length_nil]; omega) (by decide), fun p10 G10 n10 S10 e10 => ?_⟩
    refine w_nil ?_
    lcg_src
    rename_i pw Gw Sw ew
    rw [SeqAt.eqv_refl _ (by with_unfolding_all rfl)] at ew
    have S610 : Same G6 G10 := ((S7.trans S8).trans S9).trans S10
    have S310 := S36.trans S610
    have SS : Same H3 Gw := S310.trans Sw
    have lpw : LPages K Gw p10 (ps ++ [pg] ++ [(pg.1, pg.2.take k ++ pg.2.drop (k + 1))]) := (LPages.push (pg := (pg.1, pg.2.take k ++ pg.2.drop (k + 1))) htp S310 (sm_T (S9.trans S10) e8) (hps3.same S310) (sm_T S610 f6) (by
      show DpAll K G10 _ ((pg.2.take k ++ pg.2.drop (k + 1)).map Wish.d)
      rw [List.map_append, List.map_take, List.map_drop]
      exact dps_app (dps_take k (sm_DpA S310 hds3)) (dps_drop (k + 1) (sm_DpA S310 hds3))) e10).same Sw
    have la : p10 ≠ a := by
      obtain ⟨ts1, h1, _⟩ := id lpw
      exact refs_ne (sm_Fl SS fl3) h1
    have wm := fun p hp => I.wl p (List.mem_append_left _ hp)
    refine q pw p10 Gw (ps ++ [pg]) _ (F3.trans (FrN.same SS)) (sm_Fl SS fl3) (by rw [List.append_assoc]; exact bk4.same SS) (all3 I.oks I.ok (pg_lift I.ok k)) (by rw [List.length_append]; exact Nat.le_refl _) (all3 (fun p hp => by have := wm p hp; omega) ?_ ?_) lpw la (T3.same SS) ew
    · have := I.wl pg (List.mem_append_right _ (List.mem_singleton.mpr rfl))
      omega
    · have := I.wl pg (List.mem_append_right _ (List.mem_singleton.mpr rfl))
      show (pg.2.take k ++ pg.2.drop (k + 1)).length ≤ _
      rw [List.length_append, List.length_take, List.length_drop]
      omega
  · have S12 := S2.trans S3
    have fl3 := sm_Fl S12 fl1
    have T3 := T1.same S12
    have F3 : FrN [a, y] H H3 := F01.trans (FrN.same S12)
    have bk4 := bk2.same S12
    have lp3 := lp2.same S12
    have hw3 := sm_T S12 hw2
    have dp3 : Dp K H3 (.ref p3) (.list [.str "InvalidIndex", .int k]) := .lst (sq_L e3) (.cons (.str _) (.cons (.int _) .nil))
    clear e3 e2 hds' hps2 hw2 hy1
    lcg_src
    rename_i p4 G4 S4 f4 p5 G5 S5 f5
    have lv : ∀ lo hi, (cutV vs2 lo hi).length ≤ 40 := fun lo hi => by
      unfold cutV
      rw [List.length_take, List.length_drop]
      omega
    refine ⟨by
      have := lv none (some (k : Int))
      have := lv (some ((k : Int) + 1)) none
      exact Nat.le_trans (show _ ≤ 5000 by omega) (by decide), fun p6 G6 S6 f6 => ?_⟩
    clear f4 f5 f6
    lcg_src
    rw [hvl, decide_eq_true (show V.int (k : Int) = V.int ((pg.2.length : Nat) : Int) from congrArg V.int (by omega))]
    have okd : OkD 1 (.list [.str "InvalidIndex", .int k]) := .lst (okD_cons (.str (by decide +kernel)) (okD_cons (.int _) okD_nil))
    have shd := okd.sh
    lcg_src
    rename_i pw Gw Sw ew
    rw [SeqAt.eqv_refl _ okd.1] at ew
    have SS : Same H3 Gw := by kas_types
    exact q pw l Gw ps pg (F3.trans (FrN.same SS)) (sm_Fl SS fl3) (bk4.same SS) (all2 I.oks I.ok) (Nat.le_succ _) (fun p hp => Nat.le_succ_of_le (I.wl p hp)) (lp3.same SS) I.la (T3.same SS) ew
end
end
section
/-! A step of the book: a pair put. -/
open PySem PySem.Spec PyProof.Rows L2 LamX
local macro_rules | `(tactic| lcg_sub) => `(tactic| ((with_reducible apply sm_DpA); assumption; lcg_sub))
local macro_rules | `(tactic| lcg_sub) => `(tactic| ((with_reducible apply StoreAt.same); assumption; lcg_sub))
local macro_rules | `(tactic| lcg_sub) => `(tactic| ((with_reducible apply EntsAt.same); assumption; lcg_sub))
local macro_rules | `(tactic| lcg_sub) => `(tactic| ((with_reducible apply sm_FA); assumption; lcg_sub))
local macro_rules | `(tactic| lcg_sub) => `(tactic| ((with_reducible apply BookAt.same); assumption; lcg_sub))
local macro_rules | `(tactic| lcg_sub) => `(tactic| ((with_reducible apply LPages.same); assumption; lcg_sub))
local macro_rules | `(tactic| lcg_sub) => `(tactic| ((with_reducible apply PsD.same); assumption; lcg_sub))
section
variable {P : Program} {w : World} {K : Fr0} {mg : Str → Option Value} {base : Heap}
theorem part_bsA (T : Tx K mg) (TT : Tt K mg base) {f : Addr} {A : Around} {outer : List Env} {s : Shared} {HE : Hp} {E : XK} (hr : Room 20 (A.deeper (envOfC "_law_book_step" (defScope s_q_book_step) s.heap.objs.size f (.ref (He.cT K dB).1)))) (hgd : (A.deeper (envOfC "_law_book_step" (defScope s_q_book_step) s.heap.objs.size f (.ref (He.cT K dB).1))).guards = some [])  :
    ∃ t, PSs (cxOf CX0 P w K mg base N_q_book_step "_law_book_step" (defScope s_q_book_step) f (.ref (He.cT K dB).1) A outer s HE E).nox (stBody (stAt (defBody s_q_book_step) 2)) t ∧ ∀ (a y d l rb d2 w2 : Addr) (vs2 : List V) (du : Duo) (row : List Int) (ps : List Pg) (pg : Pg) (m : Nat) (kd : Option V) (tg : Str) (H : Hp) (D : Ends), TagS tg → BIn K H a y d l du rb row ps pg m → PsD K H d2 pg.1 → SqT K H w2 vs2 → DpAll K H vs2 (pg.2.map Wish.d) → BOut K H a y ps.length m D.rt → t D [some (.ref a), some (.ref y), some (.ref d), some (.ref rb), some (.ref l), kd, some (.ref d2), some (.ref w2), none, none, none, none, none, none, some (.str tg), none] H := by
  have hu := hu_of hr
  refine ⟨_, (pss_cons (ps_set (i := 13) sc_q_book_step.nd rfl (Or.inr rfl) (pe_fn (ok_q_near T) (hr.mono (by decide)) (by rfl) T.g_q_near T.k_q_near pass0 (pa_cons (pv 0) (pa_cons (pv 2) pa_nil))))
      (pss_cons (ps_set (i := 8) sc_q_book_step.nd rfl (Or.inl rfl) (pe_callTy (call_DictP rfl) (by rfl) T.f_dict boot_dictT (pa_cons (pe_op op_Cats (LiI.pe_listItems rfl (pv 6) (by rfl) T.f_list boot_listT) (pe_lstS (pa_cons (pe_tupS (pa_cons (pv 14) (pa_cons (pv 13) pa_nil))) pa_nil))) pa_nil)))
      (pss_cons (ps_par (by rfl) sc_q_book_step.nd (i := 9) (j := 10) rfl rfl (by decide) rfl rfl (pa_cons (pe_fn (ok_q_first_bad T) (hr.mono (by decide)) (by rfl) T.g_q_first_bad T.k_q_first_bad pass0 (pa_cons (pv 8) (pa_cons (pv 7) pa_nil))) (pa_cons (pe_came (k := 16) T (by rfl) TT.b rfl (mB K) TT.uB (hr.mono (by decide)) (lamP_by (sc := defScope s_q_book_step) (by decide +kernel)) rfl (fun _ _ _ _ _ => rfl) (fun _ _ _ _ _ _ _ _ hr2 => (pe_fn ((fun T => ok_q_put T TT) T) (hr2.mono (by decide)) (by rfl) T.g_q_put T.k_q_put (passes_call (takes_of rfl rfl rfl rfl) (fun _ _ _ _ h => h)) (pa_cons (pv 1) (pa_cons (pv 14) (pa_cons (pe_fn (ok_q_pair T) (hr2.mono (by decide)) (by rfl) T.g_q_pair T.k_q_pair pass0 (pa_cons (pv 13) pa_nil)) pa_nil)))))) pa_nil)) (by rfl))
      (pss_cons (ps_if (pt_cmpR op_ge (pv 9) pe_int (nomark _)) (pss_one (ps_ret (pe_tupS (pa_cons (pe_cmpR (op_eqD hr.units) (pv 10) (pe_lstS (pa_cons pe_str (pa_cons (pv 9) pa_nil))) (nomark _)) (pa_cons (pv 4) pa_nil))))) pss_nil)
      (pss_one (ps_ret (pe_tupS (pa_cons (pe_cmpR (op_eqD hr.units) (pv 10) (pe_lstS (pa_cons pe_str (pa_cons pe_non pa_nil))) (nomark _)) (pa_cons (pe_op op_Cats (pv 4) (pe_lstS (pa_cons (pe_tupS (pa_cons (pv 8) (pa_cons (pv 7) pa_nil))) pa_nil))) pa_nil))))))))), ?_⟩
  try dsimp only [cxOf, Cx.nox, Cx.wish]
  intro a y d l rb d2 w2 vs2 du row ps pg m kd tg H D ht I hps hw hds q
  obtain ⟨ds0, t0, ss0, st0, e0, w0, v0, hy, _⟩ := id I.bk.last
  have fl := I.fl
  have hvl : vs2.length = pg.2.length := by rw [dps_len hds, List.length_map]
  have wl40 : pg.2.length ≤ 40 := by
    have := I.wl pg (List.mem_append_right _ (List.mem_singleton.mpr rfl))
    have := I.ml
    omega
  have dw := I.dw
  have hd := I.hd
  have dok := I.dok
  lcg_src
  rename_i fv du2 G1 ok2 C1 F1 hd2
  obtain ⟨u1, u2, u3, hfl⟩ := id fl
  have nay : a ≠ y := ne_tag hfl hy rfl
  have bk1 := I.bk.chg C1 hfl rfl
  have tb1 := cF_Tb C1 fl I.tb
  have lp1 := cF_LP C1 fl I.la I.lp
  have k1 := cF_k2 C1 fl
  have hw1 := kp_T k1 hw
  have hds1 := kp_Ws k1 hds
  have hps1 := hps.keep k1
  have hy1 := cF_hp C1 fl hy rfl
  simp only [List.set_cons_succ, List.set_cons_zero]
  obtain ⟨kvs, hkv, hkp⟩ := id hps1
  refine (show LiI.tListItems (tVar 6) _ _ _ from w_var rfl ⟨d2, kvs, rfl, hkv, fun G2 p2 ts S2 n2 nts npt e2 hts => ?_⟩)
  have S2' : Same G1 G2 := S2
  have hkl : kvs.length ≤ 2 := by
    rw [hkp.length]
    exact pg_len I.ok
  clear hd
  lcg_src
  rename_i p3 G3 S3 e3 p4 G4 n4 S4 e4
  refine ⟨by
    rw [List.length_map, hts.length]
    exact Nat.le_trans (show _ ≤ 5000 by simp only [List.length_cons, List.length_nil]; omega) (by decide), fun p5 G5 n5 S5 e5 => ?_⟩
  refine w_nil ?_
  have S25 := (S3.trans S4).trans S5
  have S15 := S2'.trans S25
  have nd : (kvs.map (·.1)).Nodup := by
    rw [psd_keys hkp]
    exact List.pairwise_map.mpr (I.ok.nd.imp fun n z => n (Sum.inr.inj z))
  refine ⟨p5, ts ++ [p3], kvs ++ [(Sum.inr tg, fv)], rfl, sq_L (by rw [e5, List.map_append]; rfl), Paired.snoc (R := fun (p : Addr) (kv : Key × V) => SqT K G5 p [kV kv.1, kv.2]) (sm_T (S4.trans S5) e3) (Paired.mapP hts fun t q z => .inl (.inl (S25 _ _ z))), fun d6 G6 n6 S6 e6 => ?_⟩
  rw [merge_put nd] at e6
  have S16 := S15.trans S6
  have hpsL : PsD K G6 d6 (putP pg.1 tg du2) := ⟨_, e6, psd_put (Paired.mapP hkp fun kv p ⟨x, y⟩ => ⟨x, sm_Dp S16 y⟩) (sm_Dp S16 hd2)⟩
  have hokL := put_oks (t := tg) I.ok ok2
  have hwsL := put_ws (t := tg) (du := du2) I.ok
  have wl1 : pg.2.length ≤ 1000 := by omega
  have hw6 := sm_T S16 hw1
  have hds6 := sm_DpA S16 hds1
  have hd6 := sm_Dp S16 hd2
  have bk6 := bk1.same S16
  have tb6 := tb1.same S16
  have lp6 := lp1.same S16
  have fl6 := sm_Fl S16 F1
  have hy6 := S16 _ _ hy1
  have F06 : FrN [a, y] H G6 := (FrN.chg C1 (by simp)).trans (FrN.same S16)
  clear hts e2 e3 e4 e5 e6 n2 nts npt hkv hkp hps1 hps hd2 hds hds1 hw hw1 lp1
  try simp only [List.set_cons_succ, List.set_cons_zero]
  lcg_src
  rename_i G7 S7
  refine ⟨tb6.same S7, fun H1 eN T1 => ?_⟩
  have fl1 := ex_Fl eN (sm_Fl S7 fl6)
  have bk2 := ex_Bk eN (bk6.same S7)
  have hy2 := ex_hp eN (S7 _ _ hy6) rfl
  have lp2 := ex_LP eN (lp6.same S7)
  have k2 := ex_k2 eN
  have hw2 := kp_T k2 (sm_T S7 hw6)
  have hds2 := kp_Ws k2 (sm_DpA S7 hds6)
  have hps2 := (hpsL.same S7).keep k2
  have hd8 := kp_D k2 (sm_Dp S7 hd6)
  have pl1 : ps.length ≤ 1000 := by have := I.pl; omega
  have F01 : FrN [a, y] H H1 := (F06.trans (FrN.same S7)).trans (FrN.ext eN)
  have pok := I.ok
  unfold TCame
  clear hds6 hw6 hpsL hd6 lp6
  lcg_src
  rename_i pv H8 S8 hpv
  obtain ⟨f1, f2, f3, hfl1⟩ := id fl1
  have hy8 := S8 _ _ hy2
  have F08 : FrN [a, y] H H8 := F01.trans (FrN.same S8)
  have nA : a ∉ [y] := fun m => nay (List.mem_singleton.mp m)
  refine ⟨T1.same S8, fun hn H2 F2 T2 bk3 => ⟨(show 2 ≤ sizeLine by decide), fun p3 H3 n3 S3 e3 => ?_⟩, fun n hn d0 H2 F2 T2 e2 => Tells.brk e2 (fun p3 H3 n3 S3 e3 => ?_)⟩
  · have fl3 : Fl H3 a := ⟨f1, f2, f3, S3 _ _ (F2 _ _ nA (S8 _ _ hfl1) fun _ z => by cases z)⟩
    have T3 := T2.same S3
    have F3 : FrN [a, y] H H3 := (F08.trans (F2.mono fun b m => List.mem_cons_of_mem _ m)).trans (FrN.same S3)
    have bk4 := bk3.same S3
    obtain ⟨ts2, hts, htp⟩ := (fB_LP F2 hy8 (lp2.same S8)).same S3
    have k3 := fB_k2 F2 hy8
    have hw3 := sm_T S3 (kp_T k3 (sm_T S8 hw2))
    have hds3 := sm_DpA S3 (kp_Ws k3 (sm_DpA S8 hds2))
    have hps3 := ((hps2.same S8).keep k3).same S3
    have dp3 : Dp K H3 (.ref p3) (.list [.str "gave", .none]) := .lst (sq_L e3) (.cons (.str _) (.cons .non .nil))
    have hfI : firstI (putP pg.1 tg du2) pg.2 = -1 := by
      unfold firstI
      rw [hn]
    rw [hfI]
    clear e3 hds2 hps2 hw2 bk3 hpv hd8
    refine w_nil ?_
    lcg_src
    rename_i p7 G7 n7 S7 e7 p8 G8 S8 e8 p9 G9 n9 S9 e9
    have hlt2 : ts2.length = ps.length + 1 := by
      rw [htp.length, List.length_append]
      rfl
    refine ⟨by
      rw [List.length_map, hlt2]
      exact Nat.le_trans (show _ ≤ 5000 by simp only [List.length_cons, List.length_nil]; omega) (by decide), fun p10 G10 n10 S10 e10 => ?_⟩
    refine w_nil ?_
    lcg_src
    rename_i pw Gw Sw ew
    rw [SeqAt.eqv_refl _ (by with_unfolding_all rfl)] at ew
    have S310 : Same H3 G10 := ((S7.trans S8).trans S9).trans S10
    have SS : Same H3 Gw := S310.trans Sw
    have lpw : LPages K Gw p10 (ps ++ [pg] ++ [(putP pg.1 tg du2, pg.2)]) := (LPages.push (pg := (putP pg.1 tg du2, pg.2)) htp S310 (sm_T (S9.trans S10) e8) (hps3.same S310) (sm_T S310 hw3) (sm_DpA S310 hds3) e10).same Sw
    have la : p10 ≠ a := by
      obtain ⟨ts1, h1, _⟩ := id lpw
      exact refs_ne (sm_Fl SS fl3) h1
    have wm := fun p hp => I.wl p (List.mem_append_left _ hp)
    have wg := I.wl pg (List.mem_append_right _ (List.mem_singleton.mpr rfl))
    exact q pw p10 Gw (ps ++ [pg]) _ (F3.trans (FrN.same SS)) (sm_Fl SS fl3) (by rw [List.append_assoc]; exact bk4.same SS) (all3 I.oks I.ok (pg_put I.ok ht ok2 hn)) (by rw [List.length_append]; exact Nat.le_refl _) (all3 (fun p hp => by have := wm p hp; omega) (by omega) (show pg.2.length ≤ _ by omega)) lpw la (T3.same SS) ew
  · have F2' : FrN [y] H8 H2 := F2.mono fun b m => absurd m List.not_mem_nil
    have fl3 : Fl H3 a := ⟨f1, f2, f3, S3 _ _ (F2 _ _ List.not_mem_nil (S8 _ _ hfl1) fun _ z => by cases z)⟩
    have T3 := T2.same S3
    have F3 : FrN [a, y] H H3 := (F08.trans (F2.mono fun b m => absurd m List.not_mem_nil)).trans (FrN.same S3)
    have bk4 : BookAt K H3 y (ps ++ [pg]) := ((bk2.same S8).keep fun b o t e => F2 b o List.not_mem_nil e fun ps z => by
      subst z
      cases t).same S3
    have lp3 := (fB_LP F2' hy8 (lp2.same S8)).same S3
    have dp3 : Dp K H3 (.ref p3) (.list [.str "Broken", .int n]) := .lst (sq_L e3) (.cons (.str _) (.cons (.int _) .nil))
    have hfI : firstI (putP pg.1 tg du2) pg.2 = (n : Int) := by
      unfold firstI
      rw [hn]
    rw [hfI]
    clear e3 e2 hds2 hps2 hw2 hpv hd8
    have okd : OkD 1 (.list [.str "Broken", .int n]) := .lst (okD_cons (.str (by decide +kernel)) (okD_cons (.int _) okD_nil))
    have shd := okd.sh
    refine w_nil ?_
    lcg_src
    rename_i p7 G7 n7 S7 e7 pw Gw Sw ew
    rw [SeqAt.eqv_refl _ okd.1] at ew
    have SS : Same H3 Gw := by kas_types
    exact q pw l Gw ps pg (F3.trans (FrN.same SS)) (sm_Fl SS fl3) (bk4.same SS) (all2 I.oks I.ok) (Nat.le_succ _) (fun p hp => Nat.le_succ_of_le (I.wl p hp)) (lp3.same SS) I.la (T3.same SS) ew
end
end
section
/-! A step of the book: a wish made. -/
open PySem PySem.Spec PyProof.Rows L2 LamX
theorem psd_none {K : Fr0} {H : Hp} : ∀ {kvs : List (Key × V)} {ps : List (Str × Duo)} {t : Str}, Paired (fun kv p => kv.1 = Sum.inr p.1 ∧ DuoV K H kv.2 p.2) kvs ps → ps.lookup t = none → valV kvs (Sum.inr t) = none
  | _, _, t, .nil, e => rfl
  | _, _, t, .cons (a := kv) (b := p) ⟨h1, h2⟩ r, e => by
    by_cases c : p.1 = t
    · rw [List.lookup_cons, show (t == p.1) = true from beq_iff_eq.mpr c.symm] at e
      cases e
    · rw [List.lookup_cons, show (t == p.1) = false from beq_eq_false_iff_ne.mpr (fun z => c z.symm)] at e
      rw [valV_neg (fun z => c (Sum.inr.inj (h1.symm.trans z)))]
      exact psd_none r e
local macro_rules | `(tactic| lcg_sub) => `(tactic| ((with_reducible apply sm_DpA); assumption; lcg_sub))
local macro_rules | `(tactic| lcg_sub) => `(tactic| ((with_reducible apply StoreAt.same); assumption; lcg_sub))
local macro_rules | `(tactic| lcg_sub) => `(tactic| ((with_reducible apply EntsAt.same); assumption; lcg_sub))
local macro_rules | `(tactic| lcg_sub) => `(tactic| ((with_reducible apply sm_FA); assumption; lcg_sub))
local macro_rules | `(tactic| lcg_sub) => `(tactic| ((with_reducible apply BookAt.same); assumption; lcg_sub))
local macro_rules | `(tactic| lcg_sub) => `(tactic| ((with_reducible apply LPages.same); assumption; lcg_sub))
local macro_rules | `(tactic| lcg_sub) => `(tactic| ((with_reducible apply PsD.same); assumption; lcg_sub))
section
variable {P : Program} {w : World} {K : Fr0} {mg : Str → Option Value} {base : Heap}
theorem part_bsD (T : Tx K mg) (TT : Tt K mg base) {f : Addr} {A : Around} {outer : List Env} {s : Shared} {HE : Hp} {E : XK} (hr : Room 20 (A.deeper (envOfC "_law_book_step" (defScope s_q_book_step) s.heap.objs.size f (.ref (He.cT K dB).1)))) (hgd : (A.deeper (envOfC "_law_book_step" (defScope s_q_book_step) s.heap.objs.size f (.ref (He.cT K dB).1))).guards = some [])  :
    ∃ t, PSs (cxOf CX0 P w K mg base N_q_book_step "_law_book_step" (defScope s_q_book_step) f (.ref (He.cT K dB).1) A outer s HE E).nox (List.drop 5 (defBody s_q_book_step)) t ∧ ∀ (a y d l rb d2 w2 : Addr) (vs2 : List V) (du : Duo) (row : List Int) (ps : List Pg) (pg : Pg) (m : Nat) (kd : Option V) (tg : Str) (H : Hp) (D : Ends), TagS tg → BIn K H a y d l du rb row ps pg m → PsD K H d2 pg.1 → SqT K H w2 vs2 → DpAll K H vs2 (pg.2.map Wish.d) → BOut K H a y ps.length m D.rt → t D [some (.ref a), some (.ref y), some (.ref d), some (.ref rb), some (.ref l), kd, some (.ref d2), some (.ref w2), none, none, none, none, none, none, some (.str tg), none] H := by
  have hu := hu_of hr
  refine ⟨_, (pss_cons (ps_set (i := 15) sc_q_book_step.nd rfl (Or.inr rfl) (pe_fn (ok_q_wish T) (hr.mono (by decide)) (by rfl) T.g_q_wish T.k_q_wish pass0 (pa_cons (pv 0) (pa_cons (pe_dget2 hu (pv 6) (pv 14) (pv 2) ⟨by rfl, by rfl, by rfl, by rfl⟩) (pa_cons (pv 3) (pa_cons (pv 14) pa_nil))))))
      (pss_cons (ps_set (i := 10) sc_q_book_step.nd rfl (Or.inl rfl) (pe_came (k := 16) T (by rfl) TT.b rfl (mB K) TT.uB (hr.mono (by decide)) (lamP_by (sc := defScope s_q_book_step) (by decide +kernel)) rfl (fun _ _ _ _ _ => rfl) (fun _ _ _ _ _ _ _ _ hr2 => (pe_mt (pv 1) T.cl_Book T.me_Book_wish (ok_Book_wish T) (hr2.mono (by decide)) (passes_call (takes_of rfl rfl rfl rfl) (fun _ _ _ _ h => h)) (pa_cons (pv 15) pa_nil)))))
      (pss_cons (ps_if (pt_cmp (pc_dnotin hu (pv 14) (pv 6))) (pss_one (ps_ret (pe_tupS (pa_cons (pe_cmpR (op_eqD hr.units) (pv 10) (pe_lstS (pa_cons pe_str (pa_cons (pv 14) pa_nil))) (nomark _)) (pa_cons (pv 4) pa_nil))))) pss_nil)
      (pss_cons (ps_if (pt_not (pt_val (pe_fn (ok_q_holds T) (hr.mono (by decide)) (by rfl) T.g_q_holds T.k_q_holds pass0 (pa_cons (pe_dget hu (pv 6) (pv 14) (fun _ _ => rfl)) (pa_cons (pv 15) pa_nil))))) (pss_one (ps_ret (pe_tupS (pa_cons (pe_cmpR (op_eqD hr.units) (pv 10) (pe_lstS (pa_cons pe_str (pa_cons (pe_callB call_LenT (by rfl) T.f_len boot_lenB (pa_cons (pv 7) pa_nil)) pa_nil))) (nomark _)) (pa_cons (pv 4) pa_nil))))) pss_nil)
      (pss_one (ps_ret (pe_tupS (pa_cons (pe_cmpR (op_eqD hr.units) (pv 10) (pe_lstS (pa_cons pe_str (pa_cons pe_non pa_nil))) (nomark _)) (pa_cons (pe_op op_Cats (pv 4) (pe_lstS (pa_cons (pe_tupS (pa_cons (pv 6) (pa_cons (pe_op op_CatTs (pv 7) (pe_tupS (pa_cons (pv 15) pa_nil))) pa_nil))) pa_nil))) pa_nil))))))))), ?_⟩
  try dsimp only [cxOf, Cx.nox, Cx.wish]
  intro a y d l rb d2 w2 vs2 du row ps pg m kd tg H D ht I hps hw hds q
  obtain ⟨ds0, t0, ss0, st0, e0, w0, v0, hy, _⟩ := id I.bk.last
  have fl := I.fl
  have hvl : vs2.length = pg.2.length := by rw [dps_len hds, List.length_map]
  have wl40 : pg.2.length ≤ 40 := by
    have := I.wl pg (List.mem_append_right _ (List.mem_singleton.mpr rfl))
    have := I.ml
    omega
  have dw := I.dw
  have hd := I.hd
  have dok := I.dok
  obtain ⟨kvs, hkv, hkp⟩ := id hps
  have hg : ∃ v, (∃ o, DGet H d2 (.str tg) o ∧ o.getD (.ref d) = v) ∧ DuoV K H v ((pg.1.lookup tg).getD du) := by
    cases e : pg.1.lookup tg with
    | some dd =>
      obtain ⟨v, h1, h2⟩ := psd_get hkp e
      exact ⟨v, ⟨_, DGet.k (k := Sum.inr tg) hkv, by rw [show valV kvs (Sum.inr tg) = some v from h1]; rfl⟩, h2⟩
    | none => exact ⟨.ref d, ⟨_, DGet.k (k := Sum.inr tg) hkv, by rw [psd_none hkp e]; rfl⟩, hd⟩
  have hok : Duo.ok ((pg.1.lookup tg).getD du) := by
    cases e : pg.1.lookup tg with
    | some dd => exact I.ok.ok _ (mem_of_lookup e)
    | none => exact dok
  obtain ⟨dv, ⟨oo, hdg, rfl⟩, hdv⟩ := hg
  have hr0 := I.hr
  have hbg := I.rbg
  have hln := I.rln
  lcg_src
  refine ⟨oo, hdg, ?_⟩
  lcg_src
  rename_i wv G1 wi etag wok C1 F1 hwd
  subst etag
  obtain ⟨u1, u2, u3, hfl⟩ := id fl
  have nay : a ≠ y := ne_tag hfl hy rfl
  have bk1 := I.bk.chg C1 hfl rfl
  have tb1 := cF_Tb C1 fl I.tb
  have lp1 := cF_LP C1 fl I.la I.lp
  have k1 := cF_k2 C1 fl
  have hw1 := kp_T k1 hw
  have hds1 := kp_Ws k1 hds
  have hps1 := hps.keep k1
  have hy1 := cF_hp C1 fl hy rfl
  simp only [List.set_cons_succ, List.set_cons_zero]
  refine ⟨tb1, fun H1 eN T1 => ?_⟩
  have fl1 := ex_Fl eN F1
  have bk2 := ex_Bk eN bk1
  have hy2 := ex_hp eN hy1 rfl
  have lp2 := ex_LP eN lp1
  have k2 := ex_k2 eN
  have hw2 := kp_T k2 hw1
  have hds2 := kp_Ws k2 hds1
  have hps2 := hps1.keep k2
  have hwd2 := kp_W k2 hwd
  have pl1 : ps.length ≤ 1000 := by have := I.pl; omega
  have wl1 : pg.2.length ≤ 1000 := by omega
  have F01 : FrN [a, y] H H1 := (FrN.chg C1 (by simp)).trans (FrN.ext eN)
  have pok := I.ok
  have c0 := T.cl_Book
  have c1 := T.me_Book_wish
  obtain ⟨f1, f2, f3, hfl1⟩ := id fl1
  unfold TCame
  clear hds1 hds hps1 hps hw1 hw lp1 hdg hdv hok hkv hkp hwd hr0 hd bk1 tb1 F1
  lcg_src
  refine ⟨fun hn d0 H2 n2 S2 e2 => Tells.unk e2 (fun p3 H3 n3 S3 e3 => ?_), fun dd hdd hh H2 C2 bk3 => ⟨(show 2 ≤ sizeLine by decide), fun p3 H3 n3 S3 e3 => ?_⟩, fun dd hdd hh d0 H2 n2 S2 e2 => Tells.brk e2 (fun p3 H3 n3 S3 e3 => ?_)⟩
  · have S12 := S2.trans S3
    have fl3 := sm_Fl S12 fl1
    have T3 := T1.same S12
    have F3 : FrN [a, y] H H3 := F01.trans (FrN.same S12)
    have bk4 := bk2.same S12
    have lp3 := lp2.same S12
    obtain ⟨kv3, hkv3, hkp3⟩ := hps2.same S12
    have dp3 : Dp K H3 (.ref p3) (.list [.str "UnknownName", .str wi.tag]) := .lst (sq_L e3) (.cons (.str _) (.cons (.str _) .nil))
    clear e3 e2 hds2 hps2 hw2 hwd2
    lcg_src
    refine ⟨d2, _, rfl, DGet.k (k := Sum.inr wi.tag) hkv3, ?_⟩
    rw [psd_none hkp3 hn]
    have okd : OkD 1 (.list [.str "UnknownName", .str wi.tag]) := .lst (okD_cons (.str (by decide +kernel)) (okD_cons (.str (tag_ok ht)) okD_nil))
    have shd := okd.sh
    lcg_src
    rename_i pw Gw Sw ew
    rw [SeqAt.eqv_refl _ okd.1] at ew
    have SS : Same H3 Gw := by kas_types
    exact q pw l Gw ps pg (F3.trans (FrN.same SS)) (sm_Fl SS fl3) (bk4.same SS) (all2 I.oks I.ok) (Nat.le_succ _) (fun p hp => Nat.le_succ_of_le (I.wl p hp)) (lp3.same SS) I.la (T3.same SS) ew
  · have fl3 : Fl H3 a := ⟨f1, f2, f3, S3 _ _ (C2 _ _ nay hfl1)⟩
    have T3 := (T1.chg C2 hy2 rfl).same S3
    have F3 : FrN [a, y] H H3 := (F01.trans (FrN.chg C2 (by simp))).trans (FrN.same S3)
    have bk4 := bk3.same S3
    obtain ⟨ts, hts, htp⟩ := (cB_LP C2 hy2 lp2).same S3
    have k3 := cB_k2 C2 hy2
    have hw3 := sm_T S3 (kp_T k3 hw2)
    have hds3 := sm_DpA S3 (kp_Ws k3 hds2)
    have hps3 := (hps2.keep k3).same S3
    have hwd3 := sm_Dp S3 (kp_W k3 hwd2)
    obtain ⟨kv3, hkv3, hkp3⟩ := id hps3
    obtain ⟨v, hv1, hv2⟩ := psd_get hkp3 hdd
    have dp3 : Dp K H3 (.ref p3) (.list [.str "gave", .none]) := .lst (sq_L e3) (.cons (.str _) (.cons .non .nil))
    have dok2 : Duo.ok dd := I.ok.ok _ (mem_of_lookup hdd)
    clear e3 hds2 hps2 hw2 hwd2
    lcg_src
    refine ⟨d2, _, rfl, DGet.k (k := Sum.inr wi.tag) hkv3, ?_⟩
    rw [hv1]
    lcg_src
    refine ⟨d2, v, rfl, by rw [← hv1]; exact DGet.k (k := Sum.inr wi.tag) hkv3, ?_⟩
    lcg_src
    rename_i G4 S4
    rw [hh]
    lcg_src
    rename_i p5 G5 n5 S5 e5 p6 G6 S6 e6
    refine ⟨by
      rw [hvl]
      exact Nat.le_trans (show _ ≤ 5000 by simp only [List.length_cons, List.length_nil]; omega) (by decide), fun p7 G7 S7 e7 => ?_⟩
    have S37 : Same H3 G7 := ((S4.trans S5).trans S6).trans S7
    clear e5 e6
    lcg_src
    rename_i p8 G8 S8 e8 p9 G9 n9 S9 e9
    have hlt2 : ts.length = ps.length + 1 := by
      rw [htp.length, List.length_append]
      rfl
    refine ⟨by
      rw [List.length_map, hlt2]
      exact Nat.le_trans (show _ ≤ 5000 by simp only [List.length_cons, List.length_nil]; omega) (by decide), fun p10 G10 n10 S10 e10 => ?_⟩
    refine w_nil ?_
    lcg_src
    rename_i pw Gw Sw ew
    rw [SeqAt.eqv_refl _ (by with_unfolding_all rfl)] at ew
    have S710 : Same G7 G10 := (S8.trans S9).trans S10
    have S310 := S37.trans S710
    have SS : Same H3 Gw := S310.trans Sw
    have lpw : LPages K Gw p10 (ps ++ [pg] ++ [(pg.1, pg.2 ++ [wi])]) := (LPages.push (pg := (pg.1, pg.2 ++ [wi])) htp S310 (sm_T (S9.trans S10) e8) (hps3.same S310) (sm_T S710 e7) (by
      show DpAll K G10 _ ((pg.2 ++ [wi]).map Wish.d)
      rw [List.map_append]
      exact dps_app (sm_DpA S310 hds3) (.cons (sm_Dp S310 hwd3) .nil)) e10).same Sw
    have la : p10 ≠ a := by
      obtain ⟨ts1, h1, _⟩ := id lpw
      exact refs_ne (sm_Fl SS fl3) h1
    have wm := fun p hp => I.wl p (List.mem_append_left _ hp)
    have wg := I.wl pg (List.mem_append_right _ (List.mem_singleton.mpr rfl))
    refine q pw p10 Gw (ps ++ [pg]) _ (F3.trans (FrN.same SS)) (sm_Fl SS fl3) (by rw [List.append_assoc]; exact bk4.same SS) (all3 I.oks I.ok (pg_wish I.ok wok hdd hh (by omega))) (by rw [List.length_append]; exact Nat.le_refl _) (all3 (fun p hp => by have := wm p hp; omega) (by omega) ?_) lpw la (T3.same SS) ew
    show (pg.2 ++ [wi]).length ≤ _
    rw [List.length_append]
    simp only [List.length_cons, List.length_nil]
    omega
  · have S12 := S2.trans S3
    have fl3 := sm_Fl S12 fl1
    have T3 := T1.same S12
    have F3 : FrN [a, y] H H3 := F01.trans (FrN.same S12)
    have bk4 := bk2.same S12
    have lp3 := lp2.same S12
    have hw3 := sm_T S12 hw2
    have hwd3 := sm_Dp S12 hwd2
    obtain ⟨kv3, hkv3, hkp3⟩ := hps2.same S12
    obtain ⟨v, hv1, hv2⟩ := psd_get hkp3 hdd
    rw [← hvl] at e3
    have dp3 : Dp K H3 (.ref p3) (.list [.str "Broken", .int vs2.length]) := .lst (sq_L e3) (.cons (.str _) (.cons (.int _) .nil))
    have dok2 : Duo.ok dd := I.ok.ok _ (mem_of_lookup hdd)
    clear e3 e2 hds2 hps2 hw2 hwd2
    lcg_src
    refine ⟨d2, _, rfl, DGet.k (k := Sum.inr wi.tag) hkv3, ?_⟩
    rw [hv1]
    lcg_src
    refine ⟨d2, v, rfl, by rw [← hv1]; exact DGet.k (k := Sum.inr wi.tag) hkv3, ?_⟩
    have okd : OkD 1 (.list [.str "Broken", .int vs2.length]) := .lst (okD_cons (.str (by decide +kernel)) (okD_cons (.int _) okD_nil))
    have shd := okd.sh
    lcg_src
    rename_i G4 S4
    rw [hh]
    lcg_src
    rename_i p5 G5 n5 S5 e5 pw Gw Sw ew
    rw [SeqAt.eqv_refl _ okd.1] at ew
    have SS : Same H3 Gw := by kas_types
    exact q pw l Gw ps pg (F3.trans (FrN.same SS)) (sm_Fl SS fl3) (bk4.same SS) (all2 I.oks I.ok) (Nat.le_succ _) (fun p hp => Nat.le_succ_of_le (I.wl p hp)) (lp3.same SS) I.la (T3.same SS) ew
end
end
section
/-! A step of the book: the whole. -/
open PySem PySem.Spec PyProof.Rows L2 LamX
theorem BIn.same {K : Fr0} {H H' : Hp} {a y d l : Addr} {du : Duo} {rb : Addr} {row : List Int} {ps : List Pg} {pg : Pg} {m : Nat} (S : Same H H') (I : BIn K H a y d l du rb row ps pg m) : BIn K H' a y d l du rb row ps pg m :=
  ⟨sm_Fl S I.fl, I.bk.same S, I.ok, I.oks, I.pl, I.wl, I.ml, I.lp.same S, I.la, sm_Dp S I.hd, I.dok, I.dw, sm_T S I.hr, I.rbg, I.rln, I.tb.same S⟩
theorem BIn.chg {K : Fr0} {H H' : Hp} {a y d l : Addr} {du : Duo} {rb : Addr} {row : List Int} {ps : List Pg} {pg : Pg} {m : Nat} (C : Chg a H H') (F : Fl H' a) (I : BIn K H a y d l du rb row ps pg m) : BIn K H' a y d l du rb row ps pg m := by
  have fl := I.fl
  obtain ⟨u1, u2, u3, hfl⟩ := id fl
  exact ⟨F, I.bk.chg C hfl rfl, I.ok, I.oks, I.pl, I.wl, I.ml, cF_LP C fl I.la I.lp, I.la, kp_D (cF_k2 C fl) I.hd, I.dok, I.dw, kp_T (cF_k2 C fl) I.hr, I.rbg, I.rln, cF_Tb C fl I.tb⟩
local macro_rules | `(tactic| lcg_sub) => `(tactic| ((with_reducible apply sm_DpA); assumption; lcg_sub))
local macro_rules | `(tactic| lcg_sub) => `(tactic| ((with_reducible apply StoreAt.same); assumption; lcg_sub))
local macro_rules | `(tactic| lcg_sub) => `(tactic| ((with_reducible apply EntsAt.same); assumption; lcg_sub))
local macro_rules | `(tactic| lcg_sub) => `(tactic| ((with_reducible apply sm_FA); assumption; lcg_sub))
local macro_rules | `(tactic| lcg_sub) => `(tactic| ((with_reducible apply BookAt.same); assumption; lcg_sub))
local macro_rules | `(tactic| lcg_sub) => `(tactic| ((with_reducible apply LPages.same); assumption; lcg_sub))
local macro_rules | `(tactic| lcg_sub) => `(tactic| ((with_reducible apply PsD.same); assumption; lcg_sub))
section
variable {P : Program} {w : World} {K : Fr0} {mg : Str → Option Value} {base : Heap}
abbrev spBStep (K : Fr0) : Sp := s5 fun f b d r l H Q _ => ∃ a y d0 l0 du rb, ∃ row : List Int, ∃ ps : List Pg, ∃ pg : Pg, ∃ m, f = .ref a ∧ b = .ref y ∧ d = .ref d0 ∧ r = .ref rb ∧ l = .ref l0 ∧ BIn K H a y d0 l0 du rb row ps pg m ∧ BOut K H a y ps.length m Q

theorem ok_q_book_step (T : Tx K mg) (TT : Tt K mg base) : FnRG P w K mg base CX0 21 (ad K "_law_book_step") (spBStep K) := by
  obtain ⟨fd, F⟩ := T.fd_q_book_step
  refine fnrTG dB rfl F (fun _ _ _ _ _ _ us hl => match us, hl with | [_, _, _, _, _], _ => rfl) sc_q_book_step (fun vs H Q E h => ?_) (fun A outer s H vs Q E hr hgd h => ?_)
  · first | exact l1 h | exact l0 h | exact l2 h | exact l3 h | exact l4 h | exact l5 h | exact l6 h
  · have hu := hu_of hr
    obtain ⟨tA, hA, kA⟩ := part_bsA (P := P) (w := w) (f := ad K "_law_book_step") (A := A) (outer := outer) (s := s) (HE := H) (E := E) T TT hr hgd
    obtain ⟨tB, hB, kB⟩ := part_bsB (P := P) (w := w) (f := ad K "_law_book_step") (A := A) (outer := outer) (s := s) (HE := H) (E := E) T TT hr hgd
    obtain ⟨tC, hC, kC⟩ := part_bsC (P := P) (w := w) (f := ad K "_law_book_step") (A := A) (outer := outer) (s := s) (HE := H) (E := E) T TT hr hgd
    obtain ⟨tD, hD, kD⟩ := part_bsD (P := P) (w := w) (f := ad K "_law_book_step") (A := A) (outer := outer) (s := s) (HE := H) (E := E) T TT hr hgd
    refine ⟨_, PSs.nox (pss_cons (ps_asg (pe_tupS (pa_cons (pe_fn (ok_q_pour T) (hr.mono (by decide)) (by rfl) T.g_q_pour T.k_q_pour pass0 (pa_cons (pv 0) (pa_cons pe_int pa_nil))) (pa_cons (pe_fn (ok_q_pick T) (hr.mono (by decide)) (by rfl) T.g_q_pick T.k_q_pick pass0 (pa_cons (pv 0) (pa_cons (pe_lstS (pa_cons pe_str (pa_cons pe_str pa_nil))) pa_nil))) pa_nil))) (pg_tup (n := 2) rfl (pgs_cons (pg_name (i := 5) sc_q_book_step.nd rfl (Or.inl rfl)) (pgs_cons (pg_name (i := 14) sc_q_book_step.nd rfl (Or.inr rfl)) pgs_nil))))
      (pss_cons (ps_asg (pe_ix ix_list (pv 4) (pe_un un_neg pe_int) (fun _ _ => rfl)) (pg_tup (n := 2) rfl (pgs_cons (pg_name (i := 6) sc_q_book_step.nd rfl (Or.inl rfl)) (pgs_cons (pg_name (i := 7) sc_q_book_step.nd rfl (Or.inl rfl)) pgs_nil))))
      (pss_cons (ps_if (pt_cmpR op_lt (pv 5) pe_int (nomark _)) hA pss_nil)
      (pss_cons (ps_if (pt_cmpR op_eq (pv 5) pe_int (nomark _)) hB pss_nil)
      (pss_cons (ps_if (pt_cmpR op_eq (pv 5) pe_int (nomark _)) hC pss_nil)
      hD))))), ?_⟩
    try dsimp only [cxOf, Cx.nox, Cx.wish]
    obtain ⟨f0, b0, d1, r1, l1, rfl, a, y, d0, l0, du, rb, row, ps, pg, m, rfl, rfl, rfl, rfl, rfl, I, q⟩ := h
    have fl := I.fl
    have hσ : start N_q_book_step [.ref a, .ref y, .ref d0, .ref rb, .ref l0] = [some (.ref a), some (.ref y), some (.ref d0), some (.ref rb), some (.ref l0), none, none, none, none, none, none, none, none, none, none, none] := rfl
    rw [hσ]
    lcg_src
    rename_i kr G1 r0 r1 C1 F1 pl G2 n2 S2 e2 tv G3 mv C3 F3 pt G4 S4 e4
    have ht : ∃ tg, tv = .str tg ∧ TagS tg := by
      simp only [List.mem_cons, List.not_mem_nil, or_false] at mv
      rcases mv with rfl | rfl
      · exact ⟨_, rfl, .inl rfl⟩
      · exact ⟨_, rfl, .inr rfl⟩
    obtain ⟨tg, rfl, htg⟩ := ht
    have F2 := sm_Fl S2 F1
    have I4 := (((I.chg C1 F1).same S2).chg C3 F3).same S4
    have F04 : FrN [a, y] H G4 := (((FrN.chg C1 (by simp)).trans (FrN.same S2)).trans (FrN.chg C3 (by simp))).trans (FrN.same S4)
    have q4 : BOut K G4 a y ps.length m Q := fun z l' H' ps' pg' F => q z l' H' ps' pg' (F04.trans F)
    obtain ⟨ts, hts, htp⟩ := id I4.lp
    obtain ⟨ts0, tl, ets, htp0, d2, w2, vs2, b1, b2, b3, b4⟩ := Paired.snocInv htp
    subst ets
    rw [List.map_append] at hts
    refine w_ixL (sq_L hts) (atI_last _ _) ?_
    simp only [List.set_cons_succ, List.set_cons_zero]
    lcg_src
    refine w_ite (fun c => ?_) (fun c => ?_)
    · exact kA a y d0 l0 rb d2 w2 vs2 du row ps pg m _ tg G4 _ htg I4 b2 b3 b4 q4
    · lcg_src
      refine w_ite (fun c => ?_) (fun c => ?_)
      · exact kB a y d0 l0 rb d2 w2 vs2 du row ps pg m _ _ G4 _ I4 b2 b3 b4 q4
      · lcg_src
        refine w_ite (fun c => ?_) (fun c => ?_)
        · exact kC a y d0 l0 rb du row ps pg m _ _ _ _ G4 _ I4 q4
        · lcg_src
          exact kD a y d0 l0 rb d2 w2 vs2 du row ps pg m _ tg G4 _ htg I4 b2 b3 b4 q4
end
end
section
/-! A whole session: its parts. -/
open PySem PySem.Spec PyProof.Rows L2 LamX
/-- how things stand behind a turn -/
structure RIn (K : Fr0) (H : Hp) (a x y d l : Addr) (du : Duo) (tk : Bool) (rb : Addr) (row : List Int) (ps : List Pg) (pg : Pg) (i : Nat) : Prop where
  s : SIn K H a x d du rb row tk
  b : BIn K H a y d l du rb row ps pg i
  rl : row.length ≤ i
  pl : ps.length ≤ i
  il : i ≤ 20
theorem RIn.same {K : Fr0} {H H' : Hp} {a x y d l : Addr} {du : Duo} {tk : Bool} {rb : Addr} {row : List Int} {ps : List Pg} {pg : Pg} {i : Nat} (S : Same H H') (I : RIn K H a x y d l du tk rb row ps pg i) : RIn K H' a x y d l du tk rb row ps pg i :=
  ⟨⟨sm_Fl S I.s.fl, I.s.on.same S, sm_Dp S I.s.hd, sm_T S I.s.hr, I.s.ln, I.s.tb.same S⟩, I.b.same S, I.rl, I.pl, I.il⟩
theorem RIn.chg {K : Fr0} {H H' : Hp} {a x y d l : Addr} {du : Duo} {tk : Bool} {rb : Addr} {row : List Int} {ps : List Pg} {pg : Pg} {i : Nat} (C : Chg a H H') (F : Fl H' a) (I : RIn K H a x y d l du tk rb row ps pg i) : RIn K H' a x y d l du tk rb row ps pg i :=
  ⟨⟨F, cF_On C I.s.fl F I.s.on, cF_D C I.s.fl I.s.hd (duo_tupO _), cF_T C I.s.fl I.s.hr, I.s.ln, cF_Tb C I.s.fl I.s.tb⟩, I.b.chg C F, I.rl, I.pl, I.il⟩
/-- the store changed, and the flask -/
theorem RIn.store {K : Fr0} {H H' : Hp} {a x y d l : Addr} {du : Duo} {tk : Bool} {rb rb' : Addr} {row row' : List Int} {ps : List Pg} {pg : Pg} {i j : Nat} (I : RIn K H a x y d l du tk rb row ps pg i) (ij : i ≤ j) (jl : j ≤ 20) (F : FrN [a, x] H H') (f : Fl H' a) (on : OnS K (fun b => b ≠ a) H' x du tk row')
    (ln : row'.length ≤ j) (tb : Tabs2 (TTab K) H') (hr : SqT K H' rb' (row'.map V.int)) : RIn K H' a x y d l du tk rb' row' ps pg j := by
  obtain ⟨dx, pv, t0, as0, a0, r0, hx, _⟩ := I.s.on.1.last
  obtain ⟨f1, f2, f3, hfl⟩ := id I.s.fl
  have k : ∀ b o, (kindB o || tag o == 2) = true → H b = some o → H' b = some o := fun b o t e => F b o (fun m => by
    rcases List.mem_cons.mp m with z | z
    · exact ne_of e hfl (fun z2 => by subst z2; cases t) z
    · exact ne_of e hx (fun z2 => by subst z2; cases t) (List.mem_singleton.mp z)) e fun ps z => by
    subst z
    cases t
  have k2 : KpP H H' := fun b o t e => k b o (by
    rcases Bool.or_eq_true_iff.mp t with z | z
    · unfold kindB
      rw [z]
      rfl
    · rw [z, Bool.or_true]) e
  have lx : l ≠ x := by
    obtain ⟨ts, h1, _⟩ := id I.b.lp
    exact ne_tag h1 hx rfl
  have lp := I.b.lp.keep k2 fun xs e => F _ _ (fun m => by
    rcases List.mem_cons.mp m with z | z
    · exact I.b.la z
    · exact lx (List.mem_singleton.mp z)) e fun ps z => by cases z
  have bk := I.b.bk.keep fun b o t e => k b o (by rw [t]; rfl) e
  have hd := kp_D k2 I.s.hd
  exact ⟨⟨f, on, hd, hr, by omega, tb⟩, ⟨f, bk, I.b.ok, I.b.oks, I.b.pl, fun p hp => Nat.le_trans (I.b.wl p hp) ij, by omega, lp, I.b.la, hd, I.b.dok, I.b.dw, hr, on.2.2.1, by omega, tb⟩, ln, by have := I.pl; omega, jl⟩
/-- the book changed, and the flask -/
theorem RIn.book {K : Fr0} {H H' : Hp} {a x y d l l' : Addr} {du : Duo} {tk : Bool} {rb : Addr} {row : List Int} {ps ps' : List Pg} {pg pg' : Pg} {i j : Nat} (I : RIn K H a x y d l du tk rb row ps pg i) (ij : i ≤ j) (jl : j ≤ 20) (F : FrN [a, y] H H') (f : Fl H' a) (bk : BookAt K H' y (ps' ++ [pg'])) (oks : ∀ p ∈ ps' ++ [pg'], PgOk p)
    (pl : ps'.length ≤ j) (wl : ∀ p ∈ ps' ++ [pg'], p.2.length ≤ j) (lp : LPages K H' l' (ps' ++ [pg'])) (la : l' ≠ a) (tb : Tabs2 (TTab K) H') : RIn K H' a x y d l' du tk rb row ps' pg' j := by
  obtain ⟨dx, t0, ss0, st0, e0, w0, v0, hy, _⟩ := I.b.bk.last
  obtain ⟨f1, f2, f3, hfl⟩ := id I.s.fl
  have k : ∀ b o, kindS o = true → H b = some o → H' b = some o := fun b o t e => F b o (fun m => by
    rcases List.mem_cons.mp m with z | z
    · exact ne_of e hfl (fun z2 => by subst z2; cases t) z
    · exact ne_of e hy (fun z2 => by subst z2; cases t) (List.mem_singleton.mp z)) e fun ps z => by
    subst z
    cases t
  have kp : ∀ b o, kindP o = true → H b = some o → H' b = some o := fun b o t e => k b o (by
    unfold kindS
    rw [kp_r t]
    rfl) e
  have st : StoreAt K (fun b => b ≠ a) H' x du tk row := I.s.on.1.keep k fun b xs hb e => F b _ (fun m => by
    rcases List.mem_cons.mp m with z | z
    · exact hb z
    · exact ne_tag e hy rfl (List.mem_singleton.mp z)) e fun ps z => by cases z
  have hd : DuoV K H' (.ref d) du := dp_keep kp _ _ (duo_tupO _) I.s.hd
  have hr := sqT_keep kp I.s.hr
  have il := I.rl
  exact ⟨⟨f, ⟨st, I.s.on.2.1, I.s.on.2.2.1, I.s.on.2.2.2.1, fa_fl f⟩, hd, hr, I.s.ln, tb⟩, ⟨f, bk, oks _ (List.mem_append_right _ (List.mem_singleton.mpr rfl)), fun p hp => oks _ (List.mem_append_left _ hp), by omega, wl, by omega, lp, la, hd, I.b.dok, I.b.dw, hr, I.b.rbg, I.b.rln, tb⟩, by omega, pl, jl⟩
/-- on the way back: the store stands at rs, the book at qs; the law's own row and pages at row, ps -/
structure Md (K : Fr0) (H : Hp) (a x y d l : Addr) (du : Duo) (tk : Bool) (rb : Addr) (rs row : List Int) (qs ps : List Pg) (i : Nat) : Prop where
  fl : Fl H a
  on : OnS K (fun b => b ≠ a) H x du tk rs
  hd : DuoV K H (.ref d) du
  hr : SqT K H rb (row.map V.int)
  bk : BookAt K H y qs
  oks : ∀ p ∈ qs, PgOk p
  wl : ∀ p ∈ qs, p.2.length ≤ i
  lp : LPages K H l ps
  la : l ≠ a
  tb : Tabs2 (TTab K) H
  dok : Duo.ok du
  dw : du.lw ≤ 900
  rl : row.length ≤ i
  pl : ps.length ≤ i + 1
  il : i ≤ 20
section
variable {K : Fr0} {H H' : Hp} {a x y d l : Addr} {du : Duo} {tk : Bool} {rb : Addr} {rs rs' row : List Int} {qs qs' ps : List Pg} {i : Nat}
theorem RIn.md {pg : Pg} (I : RIn K H a x y d l du tk rb row ps pg i) : Md K H a x y d l du tk rb row row (ps ++ [pg]) (ps ++ [pg]) i :=
  ⟨I.s.fl, I.s.on, I.s.hd, I.s.hr, I.b.bk, all2 I.b.oks I.b.ok, I.b.wl, I.b.lp, I.b.la, I.s.tb, I.b.dok, I.b.dw, I.rl, by rw [List.length_append]; exact Nat.succ_le_succ I.pl, I.il⟩
theorem Md.rin {pg : Pg} (M : Md K H a x y d l du tk rb row row (ps ++ [pg]) (ps ++ [pg]) i) : RIn K H a x y d l du tk rb row ps pg i := by
  have h1 := M.rl
  have h2 := M.pl
  have h3 := M.il
  rw [List.length_append] at h2
  simp only [List.length_cons, List.length_nil] at h2
  exact ⟨⟨M.fl, M.on, M.hd, M.hr, by omega, M.tb⟩, ⟨M.fl, M.bk, M.oks _ (List.mem_append_right _ (List.mem_singleton.mpr rfl)), fun p hp => M.oks _ (List.mem_append_left _ hp), by omega, M.wl, by omega, M.lp, M.la, M.hd, M.dok, M.dw, M.hr, M.on.2.2.1, by omega, M.tb⟩, M.rl, by omega, M.il⟩
theorem Md.same (S : Same H H') (M : Md K H a x y d l du tk rb rs row qs ps i) : Md K H' a x y d l du tk rb rs row qs ps i :=
  ⟨sm_Fl S M.fl, M.on.same S, sm_Dp S M.hd, sm_T S M.hr, M.bk.same S, M.oks, M.wl, M.lp.same S, M.la, M.tb.same S, M.dok, M.dw, M.rl, M.pl, M.il⟩
theorem Md.store (M : Md K H a x y d l du tk rb rs row qs ps i) (F : FrN [a, x] H H') (f : Fl H' a) (on : OnS K (fun b => b ≠ a) H' x du tk rs') (tb : Tabs2 (TTab K) H') : Md K H' a x y d l du tk rb rs' row qs ps i := by
  obtain ⟨dx, pv, t0, as0, a0, r0, hx, _⟩ := M.on.1.last
  obtain ⟨f1, f2, f3, hfl⟩ := id M.fl
  have k : ∀ b o, (kindB o || tag o == 2) = true → H b = some o → H' b = some o := fun b o t e => F b o (fun m => by
    rcases List.mem_cons.mp m with z | z
    · exact ne_of e hfl (fun z2 => by subst z2; cases t) z
    · exact ne_of e hx (fun z2 => by subst z2; cases t) (List.mem_singleton.mp z)) e fun ps z => by
    subst z
    cases t
  have k2 : KpP H H' := fun b o t e => k b o (by
    rcases Bool.or_eq_true_iff.mp t with z | z
    · unfold kindB
      rw [z]
      rfl
    · rw [z, Bool.or_true]) e
  have lx : l ≠ x := by
    obtain ⟨ts, h1, _⟩ := id M.lp
    exact ne_tag h1 hx rfl
  have lp := M.lp.keep k2 fun xs e => F _ _ (fun m => by
    rcases List.mem_cons.mp m with z | z
    · exact M.la z
    · exact lx (List.mem_singleton.mp z)) e fun ps z => by cases z
  exact ⟨f, on, kp_D k2 M.hd, kp_T k2 M.hr, M.bk.keep (fun b o t e => k b o (by rw [t]; rfl) e), M.oks, M.wl, lp, M.la, tb, M.dok, M.dw, M.rl, M.pl, M.il⟩
theorem Md.book (ne : qs ≠ []) (M : Md K H a x y d l du tk rb rs row qs ps i) (F : FrN [a, y] H H') (f : Fl H' a) (bk : BookAt K H' y qs') (oks : ∀ p ∈ qs', PgOk p) (wl : ∀ p ∈ qs', p.2.length ≤ i) (tb : Tabs2 (TTab K) H') : Md K H' a x y d l du tk rb rs row qs' ps i := by
  obtain ⟨q0, qg, rfl⟩ : ∃ q0 qg, qs = q0 ++ [qg] := ⟨_, _, (List.dropLast_concat_getLast ne).symm⟩
  obtain ⟨dx, t0, ss0, st0, e0, w0, v0, hy, _⟩ := M.bk.last
  obtain ⟨f1, f2, f3, hfl⟩ := id M.fl
  have k : ∀ b o, (kindS o || tag o == 2) = true → H b = some o → H' b = some o := fun b o t e => F b o (fun m => by
    rcases List.mem_cons.mp m with z | z
    · exact ne_of e hfl (fun z2 => by subst z2; cases t) z
    · exact ne_of e hy (fun z2 => by subst z2; cases t) (List.mem_singleton.mp z)) e fun ps z => by
    subst z
    cases t
  have k2 : KpP H H' := fun b o t e => k b o (by
    rcases Bool.or_eq_true_iff.mp t with z | z
    · unfold kindS
      rw [kp_r z]
      rfl
    · rw [z, Bool.or_true]) e
  have ly : l ≠ y := by
    obtain ⟨ts, h1, _⟩ := id M.lp
    exact ne_tag h1 hy rfl
  have st : StoreAt K (fun b => b ≠ a) H' x du tk rs := M.on.1.keep (fun b o t e => k b o (by rw [t]; rfl) e) fun b xs hb e => F b _ (fun m => by
    rcases List.mem_cons.mp m with z | z
    · exact hb z
    · exact ne_tag e hy rfl (List.mem_singleton.mp z)) e fun ps z => by cases z
  have lp := M.lp.keep k2 fun xs e => F _ _ (fun m => by
    rcases List.mem_cons.mp m with z | z
    · exact M.la z
    · exact ly (List.mem_singleton.mp z)) e fun ps z => by cases z
  exact ⟨f, ⟨st, M.on.2.1, M.on.2.2.1, M.on.2.2.2.1, fa_fl f⟩, kp_D k2 M.hd, kp_T k2 M.hr, bk, oks, wl, lp, M.la, tb, M.dok, M.dw, M.rl, M.pl, M.il⟩
end
local macro_rules | `(tactic| lcg_sub) => `(tactic| ((with_reducible apply sm_DpA); assumption; lcg_sub))
local macro_rules | `(tactic| lcg_sub) => `(tactic| ((with_reducible apply StoreAt.same); assumption; lcg_sub))
local macro_rules | `(tactic| lcg_sub) => `(tactic| ((with_reducible apply EntsAt.same); assumption; lcg_sub))
local macro_rules | `(tactic| lcg_sub) => `(tactic| ((with_reducible apply sm_FA); assumption; lcg_sub))
local macro_rules | `(tactic| lcg_sub) => `(tactic| ((with_reducible apply BookAt.same); assumption; lcg_sub))
local macro_rules | `(tactic| lcg_sub) => `(tactic| ((with_reducible apply LPages.same); assumption; lcg_sub))
local macro_rules | `(tactic| lcg_sub) => `(tactic| ((with_reducible apply OnS.same); assumption; lcg_sub))
section
variable {P : Program} {w : World} {K : Fr0} {mg : Str → Option Value} {base : Heap}
abbrev N_q_right : List Str := ["_law_flask_here", "_law_duo_here", "_law_takes", "_law_store", "_law_book", "_law_row", "_law_pages", "_law_turn", "_law_fine", "_law_kept", "_law_words", "_law_place_here"]
abbrev P_q_right : List Str := ["_law_flask_here"]
theorem sc_q_right : FnScope N_q_right P_q_right (defScope s_q_right) := ⟨rfl, rfl, rfl, by decide +kernel, rfl, by decide +kernel, by decide +kernel⟩
theorem part_rt1 (T : Tx K mg) {f : Addr} {cdv : Value} {A : Around} {outer : List Env} {s : Shared} {HE : Hp} {E : XK} (hr : Room 22 (A.deeper (envOfC "_law_right" (defScope s_q_right) s.heap.objs.size f cdv)))  (TT : Tt K mg base) (hgd : (A.deeper (envOfC "_law_right" (defScope s_q_right) s.heap.objs.size f cdv)).guards = some []) :
    ∃ t, PSs (cxOf CX0 P w K mg base N_q_right "_law_right" (defScope s_q_right) f cdv A outer s HE E).nox (stBody (stAt (defBody s_q_right) 2)) t ∧ ∀ (a x y d l rb : Addr) (du : Duo) (tk : Bool) (row : List Int) (ps : List Pg) (pg : Pg) (i : Nat) (o7 o8 : Option V) (H : Hp) (D : Ends), i < 16 → RIn K H a x y d l du tk rb row ps pg i → (∀ l' rb' row' ps' pg' o8' H', FrN [a, x, y] H H' → RIn K H' a x y d l' du tk rb' row' ps' pg' (i + 1) → D.nx [some (.ref a), some (.ref d), some (.bl tk), some (.ref x), some (.ref y), some (.ref rb'), some (.ref l'), o7, o8', none, none, none] H') → t D [some (.ref a), some (.ref d), some (.bl tk), some (.ref x), some (.ref y), some (.ref rb), some (.ref l), o7, o8, none, none, none] H := by
  have hu := hu_of hr
  refine ⟨_, (pss_cons (ps_if (pt_cmpR op_lt (pe_fn (ok_q_pour T) (hr.mono (by decide)) (by rfl) T.g_q_pour T.k_q_pour pass0 (pa_cons (pv 0) (pa_cons pe_int pa_nil))) pe_int (nomark _)) (pss_one (ps_asg (pe_fnG (ok_q_store_step T TT) (hr.mono (by decide)) hgd (by rfl) T.g_q_store_step T.k_q_store_step pass0 (pa_cons (pv 0) (pa_cons (pv 3) (pa_cons (pv 1) (pa_cons (pv 5) (pa_cons (pv 2) pa_nil)))))) (pg_tup (n := 2) rfl (pgs_cons (pg_name (i := 8) sc_q_right.nd rfl (Or.inl rfl)) (pgs_cons (pg_name (i := 5) sc_q_right.nd rfl (Or.inl rfl)) pgs_nil))))) (pss_one (ps_asg (pe_fnG (ok_q_book_step T TT) (hr.mono (by decide)) hgd (by rfl) T.g_q_book_step T.k_q_book_step pass0 (pa_cons (pv 0) (pa_cons (pv 4) (pa_cons (pv 1) (pa_cons (pv 5) (pa_cons (pv 6) pa_nil)))))) (pg_tup (n := 2) rfl (pgs_cons (pg_name (i := 8) sc_q_right.nd rfl (Or.inl rfl)) (pgs_cons (pg_name (i := 6) sc_q_right.nd rfl (Or.inl rfl)) pgs_nil))))))
      (pss_one (ps_if (PW.pt (pw_or (pt_not (pt_val (pv 8))) (pw_or1 (pt_not (pt_val (pe_fn (ok_q_shows T) (hr.mono (by decide)) (by rfl) T.g_q_shows T.k_q_shows pass0 (pa_cons (pv 3) (pa_cons (pv 1) (pa_cons (pv 5) (pa_cons (pv 2) (pa_cons (pv 4) (pa_cons (pv 6) pa_nil)))))))))))) (pss_one (ps_ret pe_bl)) pss_nil))), ?_⟩
  try dsimp only [cxOf, Cx.nox, Cx.wish]
  intro a x y d l rb du tk row ps pg i o7 o8 H D hi I q
  have fl := I.s.fl
  lcg_src
  rename_i r G1 r0 r1 C1 F1
  have I1 := I.chg C1 F1
  refine w_ite (fun c => ?_) (fun c => ?_)
  · have IS := I1.s
    lcg_src
    intro z rb' H2 row' F2 f2 on2 ln2 tb2 ez er
    have I2 : RIn K H2 a x y d l du tk rb' row' ps pg (i + 1) := I1.store (by omega) (by omega) F2 f2 on2 (by have := I1.rl; omega) tb2 er
    have hd2 := I2.s.hd
    have bk2 := I2.b.bk
    have ok2 := I2.b.ok
    have pl2 : ps.length ≤ 1000 := by have := I2.pl; have := I2.il; omega
    have lp2 := I2.b.lp
    lcg_src
    rename_i H3 S3
    exact q l rb' row' ps pg _ H3 ((FrN.chg C1 (by simp)).trans ((F2.mono (by simp)).trans (FrN.same S3))) (I2.same S3)
  · have IB := I1.b
    lcg_src
    intro z l' H2 ps' pg' F2 f2 bk2 oks2 pl2 wl2 lp2 la2 tb2 ez
    have I2 : RIn K H2 a x y d l' du tk rb row ps' pg' (i + 1) := I1.book (by omega) (by omega) F2 f2 bk2 oks2 (by have := I1.pl; omega) wl2 lp2 la2 tb2
    have hd2 := I2.s.hd
    have on2 := I2.s.on
    have hr2 := I2.s.hr
    have ok2 := I2.b.ok
    have pl3 : ps'.length ≤ 1000 := by have := I2.pl; have := I2.il; omega
    lcg_src
    rename_i H3 S3
    exact q l' rb row ps' pg' _ H3 ((FrN.chg C1 (by simp)).trans ((F2.mono (by simp)).trans (FrN.same S3))) (I2.same S3)
end
end
section
/-! A whole session: the way back. -/
open PySem PySem.Spec PyProof.Rows L2 LamX
theorem paired_take {α β : Type} {R : α → β → Prop} : ∀ {l : List α} {m : List β} (k : Nat), Paired R l m → Paired R (l.take k) (m.take k)
  | _, _, 0, _ => by rw [List.take_zero, List.take_zero]; exact .nil
  | _, _, k + 1, .nil => .nil
  | _, _, k + 1, .cons a r => .cons a (paired_take k r)
local macro_rules | `(tactic| lcg_sub) => `(tactic| ((with_reducible apply sm_DpA); assumption; lcg_sub))
local macro_rules | `(tactic| lcg_sub) => `(tactic| ((with_reducible apply StoreAt.same); assumption; lcg_sub))
local macro_rules | `(tactic| lcg_sub) => `(tactic| ((with_reducible apply EntsAt.same); assumption; lcg_sub))
local macro_rules | `(tactic| lcg_sub) => `(tactic| ((with_reducible apply sm_FA); assumption; lcg_sub))
local macro_rules | `(tactic| lcg_sub) => `(tactic| ((with_reducible apply BookAt.same); assumption; lcg_sub))
local macro_rules | `(tactic| lcg_sub) => `(tactic| ((with_reducible apply LPages.same); assumption; lcg_sub))
local macro_rules | `(tactic| lcg_sub) => `(tactic| ((with_reducible apply OnS.same); assumption; lcg_sub))
section
variable {P : Program} {w : World} {K : Fr0} {mg : Str → Option Value} {base : Heap}
theorem part_rt2c (T : Tx K mg) {f : Addr} {cdv : Value} {A : Around} {outer : List Env} {s : Shared} {HE : Hp} {E : XK} (hr : Room 22 (A.deeper (envOfC "_law_right" (defScope s_q_right) s.heap.objs.size f cdv)))  :
    ∃ t, PSs (cxOf CX0 P w K mg base N_q_right "_law_right" (defScope s_q_right) f cdv A outer s HE E).nox (List.drop 3 (stBody (stAt (defBody s_q_right) 4))) t ∧ ∀ (a x y d l rb : Addr) (du : Duo) (tk : Bool) (row : List Int) (ps : List Pg) (pg : Pg) (i : Nat) (o7 o8 o9 o10 : Option V) (H : Hp) (D : Ends), RIn K H a x y d l du tk rb row ps pg i → (∀ H', Same H H' → D.nx [some (.ref a), some (.ref d), some (.bl tk), some (.ref x), some (.ref y), some (.ref rb), some (.ref l), o7, o8, o9, o10, none] H') → t D [some (.ref a), some (.ref d), some (.bl tk), some (.ref x), some (.ref y), some (.ref rb), some (.ref l), o7, o8, o9, o10, none] H := by
  have hu := hu_of hr
  refine ⟨_, (pss_one (ps_if (pt_not (pt_val (pe_fn (ok_q_shows T) (hr.mono (by decide)) (by rfl) T.g_q_shows T.k_q_shows pass0 (pa_cons (pv 3) (pa_cons (pv 1) (pa_cons (pv 5) (pa_cons (pv 2) (pa_cons (pv 4) (pa_cons (pv 6) pa_nil))))))))) (pss_one (ps_ret pe_bl)) pss_nil)), ?_⟩
  try dsimp only [cxOf, Cx.nox, Cx.wish]
  intro a x y d l rb du tk row ps pg i o7 o8 o9 o10 H D I q
  have on2 := I.s.on
  have hd2 := I.s.hd
  have hr2 := I.s.hr
  have bk2 := I.b.bk
  have ok2 := I.b.ok
  have pl2 : ps.length ≤ 1000 := by have := I.pl; have := I.il; omega
  have lp2 := I.b.lp
  lcg_src
  rename_i H3 S3
  exact q H3 S3
theorem part_rt2b (T : Tx K mg) {f : Addr} {cdv : Value} {A : Around} {outer : List Env} {s : Shared} {HE : Hp} {E : XK} (hr : Room 22 (A.deeper (envOfC "_law_right" (defScope s_q_right) s.heap.objs.size f cdv)))  :
    ∃ t, PSs (cxOf CX0 P w K mg base N_q_right "_law_right" (defScope s_q_right) f cdv A outer s HE E).nox (List.drop 2 (stBody (stAt (defBody s_q_right) 4))) t ∧ ∀ (a x y d l rb : Addr) (du : Duo) (tk : Bool) (row : List Int) (ps : List Pg) (i : Nat) (o7 o8 o9 o10 : Option V) (H : Hp) (D : Ends), ps ≠ [] → Md K H a x y d l du tk rb row.dropLast row (ps.take (max 1 (ps.length - 1))) ps i → (∀ l' rb' ps' pg' H', FrN [a, x, y] H H' → RIn K H' a x y d l' du tk rb' row.dropLast ps' pg' i → D.nx [some (.ref a), some (.ref d), some (.bl tk), some (.ref x), some (.ref y), some (.ref rb'), some (.ref l'), o7, o8, o9, o10, none] H') → t D [some (.ref a), some (.ref d), some (.bl tk), some (.ref x), some (.ref y), some (.ref rb), some (.ref l), o7, o8, o9, o10, none] H := by
  have hu := hu_of hr
  obtain ⟨t3, h3, k3⟩ := part_rt2c (P := P) (w := w) (base := base) (f := f) (cdv := cdv) (A := A) (outer := outer) (s := s) (HE := HE) (E := E) T hr
  refine ⟨_, (pss_cons (ps_par (by rfl) sc_q_right.nd (i := 5) (j := 6) rfl rfl (by decide) rfl rfl (pa_cons (pe_slice sl_Ts (pv 5) po_none (po_some (pe_un un_neg pe_int))) (pa_cons (pe_slice sl_Ls (pv 6) po_none (po_some (pe_callB (call_max2 rfl) (by rfl) T.f_max boot_maxB (pa_cons pe_int (pa_cons (pe_op op_sub (pe_callB call_LenL (by rfl) T.f_len boot_lenB (pa_cons (pv 6) pa_nil)) pe_int) pa_nil))))) pa_nil)) (by rfl))
      h3), ?_⟩
  try dsimp only [cxOf, Cx.nox, Cx.wish]
  intro a x y d l rb du tk row ps i o7 o8 o9 o10 H D hne M q
  obtain ⟨ts, hts, htp⟩ := id M.lp
  have hrw := M.hr
  have hlt := htp.length
  have hpos : 0 < ps.length := List.length_pos_iff.mpr hne
  lcg_src
  rename_i p4 G4 S4 e4 p5 G5 n5 S5 e5
  have hl1 : (ts.map V.ref).length = ps.length := by rw [List.length_map, hlt]
  have ek : (if (((ts.map V.ref).length : Nat) : Int) - 1 > 1 then (((ts.map V.ref).length : Nat) : Int) - 1 else 1) = ((max 1 (ps.length - 1) : Nat) : Int) := by
    rw [hl1]
    split <;> omega
  rw [ek, cut_take, ← List.map_take] at e5
  rw [cut_last] at e4
  have S45 := S4.trans S5
  have M5 := M.same S45
  obtain ⟨q0, qg, eq⟩ : ∃ q0 qg, ps.take (max 1 (ps.length - 1)) = q0 ++ [qg] := ⟨_, _, (List.dropLast_concat_getLast (fun z => by
    have := congrArg List.length z
    rw [List.length_take] at this
    simp only [List.length_nil] at this
    omega)).symm⟩
  have lp5 : LPages K G5 p5 (ps.take (max 1 (ps.length - 1))) := ⟨ts.take (max 1 (ps.length - 1)), e5, paired_take _ (Paired.mapP htp fun b g z => z.same S45)⟩
  have la : p5 ≠ a := refs_ne M5.fl e5
  have ln : (ps.take (max 1 (ps.length - 1))).length ≤ i + 1 := Nat.le_trans (List.length_take_le' ..) M.pl
  have M6 : Md K G5 a x y d p5 du tk p4 row.dropLast row.dropLast (q0 ++ [qg]) (q0 ++ [qg]) i := by
    rw [← eq]
    exact { M5 with hr := sm_T S5 e4, lp := lp5, la := la, rl := by have := M.rl; rw [List.length_dropLast]; omega, pl := ln }
  refine k3 a x y d p5 p4 du tk row.dropLast q0 qg i o7 o8 o9 o10 G5 _ M6.rin fun H6 S6 => ?_
  exact q p5 p4 q0 qg H6 (FrN.same (S45.trans S6)) (M6.rin.same S6)
theorem part_rt2a (T : Tx K mg) {f : Addr} {cdv : Value} {A : Around} {outer : List Env} {s : Shared} {HE : Hp} {E : XK} (hr : Room 22 (A.deeper (envOfC "_law_right" (defScope s_q_right) s.heap.objs.size f cdv)))  :
    ∃ t, PSs (cxOf CX0 P w K mg base N_q_right "_law_right" (defScope s_q_right) f cdv A outer s HE E).nox (List.drop 1 (stBody (stAt (defBody s_q_right) 4))) t ∧ ∀ (a x y d l rb : Addr) (du : Duo) (tk : Bool) (row : List Int) (ps : List Pg) (pg : Pg) (i : Nat) (o7 o8 o9 o10 : Option V) (H : Hp) (D : Ends), Md K H a x y d l du tk rb row.dropLast row (ps ++ [pg]) (ps ++ [pg]) i → (∀ l' rb' ps' pg' H', FrN [a, x, y] H H' → RIn K H' a x y d l' du tk rb' row.dropLast ps' pg' i → D.nx [some (.ref a), some (.ref d), some (.bl tk), some (.ref x), some (.ref y), some (.ref rb'), some (.ref l'), o7, o8, o9, o10, none] H') → t D [some (.ref a), some (.ref d), some (.bl tk), some (.ref x), some (.ref y), some (.ref rb), some (.ref l), o7, o8, o9, o10, none] H := by
  have hu := hu_of hr
  obtain ⟨t2, h2, k2⟩ := part_rt2b (P := P) (w := w) (base := base) (f := f) (cdv := cdv) (A := A) (outer := outer) (s := s) (HE := HE) (E := E) T hr
  refine ⟨_, (pss_cons (ps_if (pt_cmpR op_gt (pe_callB call_LenL (by rfl) T.f_len boot_lenB (pa_cons (pv 6) pa_nil)) pe_int (nomark _)) (pss_one (ps_expr (pe_mt0 (pv 4) T.cl_Book T.me_Book_undo (ok_Book_undo T) (hr.mono (by decide)) passN))) pss_nil)
      h2), ?_⟩
  try dsimp only [cxOf, Cx.nox, Cx.wish]
  intro a x y d l rb du tk row ps pg i o7 o8 o9 o10 H D M q
  obtain ⟨ts, hts, htp⟩ := id M.lp
  have hlt := htp.length
  have bk := M.bk
  obtain ⟨ds0, t0, ss0, st0, e0, w0, v0, hy, _⟩ := id bk.last
  have c0 := T.cl_Book
  have c1 := T.me_Book_undo
  have hpl : (ps ++ [pg]).length = ps.length + 1 := List.length_append
  have pl1 : ps.length ≤ 1000 := by have := M.pl; have := M.il; omega
  lcg_src
  rw [List.length_map, hlt, hpl]
  refine w_ite (fun c => ?_) (fun c => ?_)
  · have hne : ps ≠ [] := fun z => by
      have := of_decide_eq_true c
      rw [z] at this
      exact absurd this (by decide)
    lcg_src
    refine ⟨fun H2 _ C2 bk2 => ?_, fun z => absurd z hne⟩
    have nay : a ≠ y := by
      obtain ⟨f1, f2, f3, hfl⟩ := id M.fl
      exact ne_tag hfl hy rfl
    have fl2 : Fl H2 a := by
      obtain ⟨f1, f2, f3, hfl⟩ := id M.fl
      exact ⟨f1, f2, f3, C2 _ _ nay hfl⟩
    have ek : (ps ++ [pg]).take (max 1 ((ps ++ [pg]).length - 1)) = ps := by
      have := List.length_pos_iff.mpr hne
      rw [hpl, show max 1 (ps.length + 1 - 1) = ps.length by omega]
      simp
    have M2 : Md K H2 a x y d l du tk rb row.dropLast row ((ps ++ [pg]).take (max 1 ((ps ++ [pg]).length - 1))) (ps ++ [pg]) i := by
      rw [ek]
      exact M.book (by simp) (FrN.chg C2 (by simp)) fl2 bk2 (fun p hp => M.oks p (List.mem_append_left _ hp)) (fun p hp => M.wl p (List.mem_append_left _ hp)) (M.tb.chg C2 hy rfl)
    exact k2 a x y d l rb du tk row _ i o7 o8 o9 o10 H2 _ (by simp) M2 fun l' rb' ps' pg' H' F => q l' rb' ps' pg' H' ((FrN.chg C2 (by simp)).trans F)
  · have hnil : ps = [] := by
      have := of_decide_eq_false c
      cases ps with
      | nil => rfl
      | cons z r => simp at this; omega
    lcg_src
    subst hnil
    exact k2 a x y d l rb du tk row [pg] i o7 o8 o9 o10 H _ (by simp) M q
theorem part_rt2 (T : Tx K mg) {f : Addr} {cdv : Value} {A : Around} {outer : List Env} {s : Shared} {HE : Hp} {E : XK} (hr : Room 22 (A.deeper (envOfC "_law_right" (defScope s_q_right) s.heap.objs.size f cdv)))  :
    ∃ t, PSs (cxOf CX0 P w K mg base N_q_right "_law_right" (defScope s_q_right) f cdv A outer s HE E).nox (stBody (stAt (defBody s_q_right) 4)) t ∧ ∀ (a x y d l rb : Addr) (du : Duo) (tk : Bool) (row : List Int) (ps : List Pg) (pg : Pg) (i : Nat) (o7 o8 o9 o10 : Option V) (H : Hp) (D : Ends), RIn K H a x y d l du tk rb row ps pg i → (∀ l' rb' ps' pg' H', FrN [a, x, y] H H' → RIn K H' a x y d l' du tk rb' row.dropLast ps' pg' i → D.nx [some (.ref a), some (.ref d), some (.bl tk), some (.ref x), some (.ref y), some (.ref rb'), some (.ref l'), o7, o8, o9, o10, none] H') → t D [some (.ref a), some (.ref d), some (.bl tk), some (.ref x), some (.ref y), some (.ref rb), some (.ref l), o7, o8, o9, o10, none] H := by
  have hu := hu_of hr
  obtain ⟨t2, h2, k2⟩ := part_rt2a (P := P) (w := w) (base := base) (f := f) (cdv := cdv) (A := A) (outer := outer) (s := s) (HE := HE) (E := E) T hr
  refine ⟨_, (pss_cons (ps_if (pt_cmpR (op_neD hr.units) (pv 5) (pe_tupS pa_nil) (nomark _)) (pss_one (ps_expr (pe_mt0 (pv 3) T.cl_Store T.me_Store_undo (ok_Store_undo T) (hr.mono (by decide)) passN))) pss_nil)
      h2), ?_⟩
  try dsimp only [cxOf, Cx.nox, Cx.wish]
  intro a x y d l rb du tk row ps pg i o7 o8 o9 o10 H D I q
  have on := I.s.on
  have hrw := I.s.hr
  have dpr := DpAll.ints_at hrw
  have shr := (OkD.tup (okD_ints (n := 0) row)).sh
  obtain ⟨ds0, pv0, t0, as0, a0, r0, hx, _⟩ := id on.1.last
  have c0 := T.cl_Store
  have c1 := T.me_Store_undo
  by_cases hrow : row = []
  · subst hrow
    lcg_src
    rename_i p1 G1 S1 e1
    exact k2 a x y d l rb du tk [] ps pg i o7 o8 o9 o10 G1 _ (I.md.same S1) fun l' rb' ps' pg' H' F => q l' rb' ps' pg' H' ((FrN.same S1).trans F)
  · have ev : PyData.eqv (.tuple (row.map PyData.int)) (.tuple []) = false := eqv_nil fun z => hrow (List.map_eq_nil_iff.mp z)
    lcg_src
    rw [ev]
    rename_i p1 G1 S1 e1
    have M1 := I.md.same S1
    have on1 := M1.on
    have hx1 := S1 _ _ hx
    lcg_src
    refine ⟨fun H2 _ C2 st2 fa2 _ => ?_, fun z => absurd z hrow⟩
    obtain ⟨f1, f2, f3, hfl⟩ := id M1.fl
    have nax : a ≠ x := ne_tag hfl hx1 rfl
    have fl2 : Fl H2 a := ⟨f1, f2, f3, C2 _ _ nax hfl⟩
    have big := on.2.2.1
    have l60 := on.2.2.2.1
    have M2 := M1.store (FrN.chg C2 (by simp)) fl2 ⟨st2, on.2.1, fun y hy => big y (List.dropLast_subset _ hy), by rw [List.length_dropLast]; omega, fa2⟩ (M1.tb.chg C2 hx1 rfl)
    exact k2 a x y d l rb du tk row ps pg i o7 o8 o9 o10 H2 _ M2 fun l' rb' ps' pg' H' F => q l' rb' ps' pg' H' (((FrN.same S1).trans (FrN.chg C2 (by simp))).trans F)
end
end
section
/-! A whole session: asked again; the whole. -/
open PySem PySem.Spec PyProof.Rows L2 LamX
theorem words_strs {ws : List Str} {H : Hp} {a l : Addr} (f : Fl H a) (h : H l = some (.lst (ws.map V.str))) : l ≠ a := fun z => by
  obtain ⟨v1, v2, v3, hf⟩ := f
  rw [z, hf] at h
  cases ws with
  | nil => cases h
  | cons x r =>
    rw [List.map_cons] at h
    cases (List.cons.inj (HO.lst.inj (Option.some.inj h))).1
theorem take_less {α : Type} {l : List α} {n : Nat} (h : n ≤ l.length) : (l.take n).dropLast = l.take (n - 1) := by
  rw [List.dropLast_eq_take, List.length_take, List.take_take]
  congr 1
  omega
def isB : V → Bool
  | .bl _ => true
  | _ => false
local macro_rules | `(tactic| lcg_sub) => `(tactic| ((with_reducible apply sm_DpA); assumption; lcg_sub))
local macro_rules | `(tactic| lcg_sub) => `(tactic| ((with_reducible apply StoreAt.same); assumption; lcg_sub))
local macro_rules | `(tactic| lcg_sub) => `(tactic| ((with_reducible apply EntsAt.same); assumption; lcg_sub))
local macro_rules | `(tactic| lcg_sub) => `(tactic| ((with_reducible apply sm_FA); assumption; lcg_sub))
local macro_rules | `(tactic| lcg_sub) => `(tactic| ((with_reducible apply BookAt.same); assumption; lcg_sub))
local macro_rules | `(tactic| lcg_sub) => `(tactic| ((with_reducible apply LPages.same); assumption; lcg_sub))
local macro_rules | `(tactic| lcg_sub) => `(tactic| ((with_reducible apply OnS.same); assumption; lcg_sub))
section
variable {P : Program} {w : World} {K : Fr0} {mg : Str → Option Value} {base : Heap}
abbrev spPickB (K : Fr0) : Sp := s2 fun f t H Q _ => ∃ a l xs, f = .ref a ∧ t = .ref l ∧ SqL K H l xs ∧ l ≠ a ∧ 0 < xs.length ∧ xs.length < 1000 ∧ xs.all isB = true ∧ Fl H a ∧ ∀ tk H', Chg a H H' → Fl H' a → Q (.bl tk) H'
theorem ok_q_pickB (T : Tx K mg) : FnR P w K mg base CX0 2 (ad K "_law_pick") (spPickB K) := (ok_q_pick T).imp fun vs H Q E h => by
  obtain ⟨f, t, rfl, a, l, xs, rfl, rfl, h1, h2, h3, h4, h5, h6, q⟩ := h
  refine ⟨_, _, rfl, a, l, xs, rfl, rfl, h1, h2, h3, h4, h6, fun v H' hv C F => ?_⟩
  have hi := List.all_eq_true.mp h5 v hv
  cases v <;> first | (exact q _ _ C F) | (exact absurd hi (by decide)) | (exact absurd hi Bool.false_ne_true)
theorem part_rt3 (T : Tx K mg) {f : Addr} {cdv : Value} {A : Around} {outer : List Env} {s : Shared} {HE : Hp} {E : XK} (hr : Room 22 (A.deeper (envOfC "_law_right" (defScope s_q_right) s.heap.objs.size f cdv)))  :
    ∃ t, PSs (cxOf CX0 P w K mg base N_q_right "_law_right" (defScope s_q_right) f cdv A outer s HE E).nox (List.drop 5 (defBody s_q_right)) t ∧ ∀ (a x y d rk lw : Addr) (du : Duo) (tk : Bool) (row : List Int) (o5 o6 o7 o8 : Option V) (H : Hp) (D : Ends), Fl H a → OnS K (fun b => b ≠ a) H x du tk [] → SqT K H rk (row.map V.int) → (∀ n ∈ row, Big n) → row.length ≤ 60 → H lw = some (.lst ((wordsM du tk row).map V.str)) → Tabs2 (TTab K) H → (∀ H', FrN [x] H H' → Tabs2 (TTab K) H' → D.rt (.bl true) H') → t D [some (.ref a), some (.ref d), some (.bl tk), some (.ref x), some (.ref y), o5, o6, o7, o8, some (.ref rk), some (.ref lw), none] H := by
  have hu := hu_of hr
  refine ⟨_, (pss_one (ps_ret (pe_cmpR (op_eqD hr.units) (pe_lc (own := [("_law_place_here", 11)]) (g := gName 11)  (tt := tYes) rfl sc_q_right.nd (pi_tup (pv 9)) (blkOk_by (N := N_q_right) (sc := defScope s_q_right) (by decide +kernel)) (fun _ _ _ _ _ => (pg_name (i := 11) sc_q_right.nd rfl (Or.inl rfl))) (fun _ _ _ _ _ => pts_nil) (fun _ _ _ _ _ => (pe_mt (pv 3) T.cl_Store T.me_Store_ask (ok_Store_ask T) (hr.mono (by decide)) passN (pa_cons (pv 11) pa_nil)))) (pv 10) (nomark _)))), ?_⟩
  try dsimp only [cxOf, Cx.nox, Cx.wish]
  intro a x y d rk lw du tk row o5 o6 o7 o8 H D fl on hrk big ln hlw tb q
  obtain ⟨hs, ok, hb, hl, fa⟩ := id on
  obtain ⟨ds, pv, t, as1, a1, r1, h1, _⟩ := id hs.last
  have c0 := T.cl_Store
  have c1 := T.me_Store_ask
  lcg_src
  refine LcG.gen2 (walk_tup (K := K) (a := rk) (xs := row.map V.int)) (by rw [List.length_map]; omega) (fun D i ys H' => Chg x H H' ∧ StF K x H H' ∧ StoreAt K (fun b => b ≠ a ∧ b ≠ D) H' x du tk (row.take i) ∧ FA (fun b => b ≠ a ∧ b ≠ D) H' ∧ (∃ o, H' D = some o) ∧ ys = (wordsM du tk (row.take i)).map V.str)
    (fun D H' nD S e => ⟨SW.Same.chg S, StF.same S, ?_, ?_, ⟨_, e⟩, ?_⟩) (fun D i ys H' I => cg_T I.1 hrk h1 rfl) (fun D i ys H2 H' l nD I C hl e => ?_) (fun D i v ys H2 H' Y2 N nD hi hlen hD I hy hq => ?_) (fun D2 ys H' nD hlen I hD => ?_)
  · rw [List.take_zero]
    exact (hs.re (fun b xs h1 h2 => ⟨h1, ne_of_none h2 nD⟩)).same S
  · exact fun p np => ⟨fa.same S p np, fun z => by
      rw [z, e] at np
      cases np⟩
  · rw [List.take_zero]
    rfl
  · obtain ⟨i1, i2, i3, i4, i5, i6⟩ := I
    obtain ⟨dx, bo, s1, hx2⟩ : ∃ dx bo s1, H2 x = some (.ins (ad K "Store") dx (storeF bo s1)) := by
      obtain ⟨s1, h⟩ := i2 _ _ _ h1
      exact ⟨_, _, s1, h⟩
    obtain ⟨l0, hl⟩ := hl
    have nx : x ≠ D := ne_tag hx2 hl rfl
    refine ⟨fun b o n hb => C b o (ne_of_none hb nD) (i1 b o n hb), fun ds bo ss h => ?_, i3.chl C ⟨_, hl⟩ (fun b h => h.2), i4.chg C ⟨_, e⟩, ⟨_, e⟩, i6⟩
    obtain ⟨s1, h2⟩ := i2 _ _ _ h
    exact ⟨s1, C _ _ nx h2⟩
  · obtain ⟨i1, i2, i3, i4, i5, i6⟩ := I
    obtain ⟨rfl, hv⟩ := hy
    have hi2 : i < row.length := by
      rw [List.length_map] at hi
      exact hi
    have hv2 : row[i]? = some row[i] := List.getElem?_eq_getElem hi2
    have ev : v = .int row[i] := by
      rw [List.getElem?_map, hv2] at hv
      exact (Option.some.inj hv).symm
    subst ev
    obtain ⟨s1, hx2⟩ := i2 _ _ _ h1
    have et : row.take (i + 1) = row.take i ++ [row[i]] := by
      rw [List.take_add_one, hv2]
      rfl
    have on2 : OnS K (fun b => b ≠ a ∧ b ≠ D) H' x du tk (row.take i) := ⟨i3, ok, fun y hy => big y (List.mem_of_mem_take hy), by
      rw [List.length_take]
      omega, i4⟩
    lcg_src
    refine .inl ⟨_, rfl, big _ (List.getElem_mem hi2), fun H3 C3 s3 f3 t3 => ?_⟩
    have nx : D ≠ x := fun z => by
      rw [z, hx2] at hD
      cases hD
    have hD3 := C3 _ _ nx hD
    refine hq _ _ ⟨fun b o n hb => C3 b o n (i1 b o n hb), i2.trans t3, by rw [et]; exact s3, f3, ⟨_, hD3⟩, ?_⟩ hD3
    rw [et, words_snoc, List.map_append, i6]
    rfl
  · obtain ⟨i1, i2, i3, i4, i5, i6⟩ := I
    rw [List.length_map, List.take_length] at i6
    subst i6
    have hlw2 := i1 _ _ (ne_tag hlw h1 rfl) hlw
    have okw : OkD 1 (.list ((wordsM du tk row).map PyData.str)) := .lst (words_ok du tk row)
    have shw := okw.sh
    have dp1 : Dp K H' (.ref D2) (.list ((wordsM du tk row).map PyData.str)) := .lst (sq_L hD) (dps_strs _)
    have dp2 : Dp K H' (.ref lw) (.list ((wordsM du tk row).map PyData.str)) := .lst (sq_L hlw2) (dps_strs _)
    lcg_src
    rw [SeqAt.eqv_refl _ okw.1]
    exact q _ (FrN.chg i1 (by simp)) (tb.chg i1 h1 rfl)
abbrev spRight (K : Fr0) : Sp := s1 fun f H Q _ => ∃ a, f = .ref a ∧ Fl H a ∧ Tabs2 (TTab K) H ∧ ∀ H', FrN [a] H H' → Tabs2 (TTab K) H' → Q (.bl true) H'

theorem ok_q_right (T : Tx K mg) (TT : Tt K mg base) : FnRG P w K mg base CX0 23 (ad K "_law_right") (spRight K) := by
  obtain ⟨fd, F⟩ := T.fd_q_right
  refine fnrG F (fun _ _ _ _ _ _ us hl => match us, hl with | [_], _ => rfl) sc_q_right (fun vs H Q E h => ?_) (fun cdv A outer s H vs Q E hr hgd h => ?_)
  · first | exact l1 h | exact l0 h | exact l2 h | exact l3 h | exact l4 h | exact l5 h | exact l6 h
  · have hu := hu_of hr
    obtain ⟨t1, h1, k1⟩ := part_rt1 (P := P) (w := w) (base := base) (f := ad K "_law_right") (cdv := cdv) (A := A) (outer := outer) (s := s) (HE := H) (E := E) T hr TT hgd
    obtain ⟨t2, h2, k2⟩ := part_rt2 (P := P) (w := w) (base := base) (f := ad K "_law_right") (cdv := cdv) (A := A) (outer := outer) (s := s) (HE := H) (E := E) T hr
    obtain ⟨t3, h3, k3⟩ := part_rt3 (P := P) (w := w) (base := base) (f := ad K "_law_right") (cdv := cdv) (A := A) (outer := outer) (s := s) (HE := H) (E := E) T hr
    refine ⟨_, PSs.nox (pss_cons (ps_par (by rfl) sc_q_right.nd (i := 1) (j := 2) rfl rfl (by decide) rfl rfl (pa_cons (pe_fn (ok_q_duo T) (hr.mono (by decide)) (by rfl) T.g_q_duo T.k_q_duo pass0 (pa_cons (pv 0) pa_nil)) (pa_cons (pe_fn (ok_q_pickB T) (hr.mono (by decide)) (by rfl) T.g_q_pick T.k_q_pick pass0 (pa_cons (pv 0) (pa_cons (pe_lstS (pa_cons pe_bl (pa_cons pe_bl pa_nil))) pa_nil))) pa_nil)) (by rfl))
      (pss_cons (ps_asg (pe_tupS (pa_cons (pe_mkS T.mk_Store (ok_Store_init T) (hr.mono (by decide)) (by rfl) T.g_Store (pa_cons (pe_fn (ok_q_pair T) (hr.mono (by decide)) (by rfl) T.g_q_pair T.k_q_pair pass0 (pa_cons (pv 1) pa_nil)) (pa_cons (pv 2) pa_nil))) (pa_cons (pe_mkS0 T.mk_Book (ok_Book_init T) (hr.mono (by decide)) (by rfl) T.g_Book) (pa_cons (pe_tupS pa_nil) (pa_cons (pe_lstS (pa_cons (pe_tupS (pa_cons pe_dicS (pa_cons (pe_tupS pa_nil) pa_nil))) pa_nil)) pa_nil))))) (pg_tup (n := 4) rfl (pgs_cons (pg_name (i := 3) sc_q_right.nd rfl (Or.inr rfl)) (pgs_cons (pg_name (i := 4) sc_q_right.nd rfl (Or.inl rfl)) (pgs_cons (pg_name (i := 5) sc_q_right.nd rfl (Or.inl rfl)) (pgs_cons (pg_name (i := 6) sc_q_right.nd rfl (Or.inl rfl)) pgs_nil))))))
      (pss_cons (ps_for PassesOwn.never rfl (pi_range1 (by rfl) T.f_range (pa_cons pe_int pa_nil)) (pg_name (i := 7) sc_q_right.nd rfl (Or.inl rfl)) h1)
      (pss_cons (ps_par (by rfl) sc_q_right.nd (i := 9) (j := 10) rfl rfl (by decide) rfl rfl (pa_cons (pv 5) (pa_cons (pe_ix ix_tup (pe_fn (ok_q_run T) (hr.mono (by decide)) (by rfl) T.g_q_run T.k_q_run pass0 (pa_cons (pv 1) (pa_cons (pv 5) (pa_cons (pv 2) pa_nil)))) pe_int (fun _ _ => rfl)) pa_nil)) (by rfl))
      (pss_cons (ps_for PassesOwn.never rfl (pi_range1 (by rfl) T.f_range (pa_cons (pe_callB (call_max2 rfl) (by rfl) T.f_max boot_maxB (pa_cons (pe_callB call_LenT (by rfl) T.f_len boot_lenB (pa_cons (pv 5) pa_nil)) (pa_cons (pe_op op_sub (pe_callB call_LenL (by rfl) T.f_len boot_lenB (pa_cons (pv 6) pa_nil)) pe_int) pa_nil))) pa_nil)) (pg_name (i := 7) sc_q_right.nd rfl (Or.inl rfl)) h2)
      h3))))), ?_⟩
    try dsimp only [cxOf, Cx.nox, Cx.wish]
    obtain ⟨f0, rfl, a, rfl, fl, tb, q⟩ := h
    have hσ : start N_q_right [.ref a] = [some (.ref a), none, none, none, none, none, none, none, none, none, none, none] := rfl
    rw [hσ]
    lcg_src
    rename_i v1 du G13 ok lw5 C13 F13 hd13 p6 G12 n12 S12 e12 tk G11 C11 F11 pv G10 S10 hpv x dx G9 nx ndx ndd S9 ex G8 C8 st8 y dy G7 ny ndy ndd2 S7 ey G6 C6 bk6 rb G5 S5 e5 kd G4 n4 S4 e4 w0 G3 S3 e3 pg0 G2 S2 e2 l G1 n1 S1 e1 pz G0 S0 e0
    obtain ⟨d, u, lo, hh, rfl, _⟩ := id hd13.open
    have S108 : Same G10 G8 := Same.newc C8 S9 nx
    have S86 : Same G8 G6 := Same.newc C6 S7 ny
    have S30 := (S2.trans S1).trans S0
    have S60 := ((S5.trans S4).trans S3).trans S30
    have S80 := S86.trans S60
    have S110 := (S10.trans S108).trans S80
    have fl12 := sm_Fl S12 F13
    have F0 := sm_Fl S110 F11
    have hd0 : DuoV K G0 (.ref d) du := sm_Dp S110 (cF_D C11 fl12 (sm_Dp S12 hd13) (duo_tupO _))
    have tb0 : Tabs2 (TTab K) G0 := (cF_Tb C11 fl12 ((cF_Tb C13 fl tb).same S12)).same S110
    have lp0 : LPages K G0 l ([] ++ [([], [])]) := ⟨[pg0], S0 _ _ e1, .cons ⟨kd, w0, [], sm_T (S1.trans S0) e2, ⟨[], (S3.trans S30) _ _ e4, .nil⟩, sm_T S30 e3, .nil⟩ .nil⟩
    have la : l ≠ a := by
      obtain ⟨ts1, h1, _⟩ := id lp0
      exact refs_ne F0 h1
    have on0 : OnS K (fun b => b ≠ a) G0 x du tk [] := ⟨(st8 _).same S80, ok, fun y hy => absurd hy List.not_mem_nil, Nat.zero_le _, fa_fl F0⟩
    have rb0 : SqT K G0 rb (([] : List Int).map V.int) := sm_T ((S4.trans S3).trans S30) e5
    have pok : PgOk ([], []) := ⟨List.nodup_nil, fun p h => absurd h List.not_mem_nil, fun p h => absurd h List.not_mem_nil, fun p h => absurd h List.not_mem_nil, Nat.zero_le _, rfl⟩
    have I0 : RIn K G0 a x y d l du tk rb [] [] ([], []) 0 := ⟨⟨F0, on0, hd0, rb0, Nat.zero_le _, tb0⟩, ⟨F0, bk6.same S60, pok, fun p h => absurd h List.not_mem_nil, Nat.zero_le _, fun p h => by
      rw [List.mem_singleton.mp h]
      exact Nat.le_refl _, Nat.zero_le _, lp0, la, hd0, ok, by omega, rb0, fun y hy => absurd hy List.not_mem_nil, Nat.zero_le _, tb0⟩, Nat.le_refl _, Nat.le_refl _, Nat.zero_le _⟩
    have FH : FrN [a] H G10 := (((FrN.chg C13 (by simp)).trans (FrN.same S12)).trans (FrN.chg C11 (by simp))).trans (FrN.same S10)
    have back : ∀ H', FrN [a, x, y] G0 H' → FrN [a] H H' := fun H' F b o nb hb ht => by
      have h10 := FH b o nb hb ht
      have h8 := S108 _ _ h10
      refine F b o (fun m => ?_) (S80 _ _ h8) ht
      rcases List.mem_cons.mp m with z | m
      · exact nb (z ▸ List.mem_singleton.mpr rfl)
      · rcases List.mem_cons.mp m with z | m
        · exact ne_of_none h10 nx z
        · exact ne_of_none h8 ny (List.mem_singleton.mp m)
    simp only [List.set_cons_succ, List.set_cons_zero]
    clear e0 e1 e2 e3 e4 e5 ex ey C6 C8 bk6 st8 S0 S1 S2 S3 S4 S5 S7 S9 hpv C11 C13 e12
    refine ForG.rng (fun i σ' H' => ∃ rb row ps pg l o7 o8, σ' = [some (.ref a), some (.ref d), some (.bl tk), some (.ref x), some (.ref y), some (.ref rb), some (.ref l), o7, o8, none, none, none] ∧ RIn K H' a x y d l du tk rb row ps pg i ∧ FrN [a, x, y] G0 H') ⟨rb, [], [], ([], []), l, _, _, rfl, I0, FrN.refl _ _⟩ (fun i σ' H' hi hp => ?_) (fun σ' H' hp => ?_)
    · obtain ⟨rb1, row1, ps1, pg1, l1, o7, o8, rfl, I, F⟩ := hp
      refine w_gname ?_
      simp only [List.set_cons_succ, List.set_cons_zero]
      exact k1 a x y d l1 rb1 du tk row1 ps1 pg1 i _ o8 H' _ hi I fun l' rb' row' ps' pg' o8' H2 F2 I2 => ⟨rb', row', ps', pg', l', _, o8', rfl, I2, F.trans F2⟩
    · obtain ⟨rb1, row, ps, pg, l1, o7, o8, rfl, I', F⟩ := hp
      have I : RIn K H' a x y d l1 du tk rb1 row ps pg 16 := I'
      have hd1 := I.s.hd
      have hr1 := I.s.hr
      have big := I.s.on.2.2.1
      have rl := I.rl
      have l90 : row.length ≤ 90 := by omega
      obtain ⟨ts, hts, htp⟩ := id I.b.lp
      have hlt : (ts.map V.ref).length = ps.length + 1 := by
        rw [List.length_map, htp.length, List.length_append]
        rfl
      lcg_src
      rename_i z1 lw ln dt dl ns G4 S4 f0 f1 f2 f3 f4 f5 f6
      rw [hlt, List.length_map]
      have hpl := I.pl
      have hle : row.length ≤ (if ((ps.length + 1 : Nat) : Int) - 1 > (row.length : Int) then ((ps.length + 1 : Nat) : Int) - 1 else (row.length : Int)).toNat := by split <;> omega
      refine ⟨Int.lt_of_le_of_lt (b := 40) (by split <;> omega) (by decide), ?_⟩
      generalize (if ((ps.length + 1 : Nat) : Int) - 1 > (row.length : Int) then ((ps.length + 1 : Nat) : Int) - 1 else (row.length : Int)).toNat = m at hle ⊢
      simp only [List.set_cons_succ, List.set_cons_zero]
      have I4 := I.same S4
      have hr4 := I4.s.hr
      obtain ⟨dsx, pvx, tx, asx, ax, rx, hx4, _⟩ := id I4.s.on.1.last
      obtain ⟨dsy, ty, ssy, sty, ey, wy, vy, hy4, _⟩ := id I4.b.bk.last
      obtain ⟨g1, g2, g3, hfl4⟩ := id I4.s.fl
      clear f0 f2 f3 f4 f5 f6
      refine ForG.rng (fun j σ' H2 => ∃ rb2 ps2 pg2 l2 o7, σ' = [some (.ref a), some (.ref d), some (.bl tk), some (.ref x), some (.ref y), some (.ref rb2), some (.ref l2), o7, o8, some (.ref rb1), some (.ref lw), none] ∧ RIn K H2 a x y d l2 du tk rb2 (row.take (row.length - j)) ps2 pg2 16 ∧ FrN [a, x, y] G4 H2) ⟨rb1, ps, pg, l1, o7, rfl, by rw [Nat.sub_zero, List.take_length]; exact I4, FrN.refl _ _⟩ (fun j σ' H2 hj hp => ?_) (fun σ' H2 hp => ?_)
      · obtain ⟨rb2, ps2, pg2, l2, o7, rfl, J, F2⟩ := hp
        refine w_gname ?_
        simp only [List.set_cons_succ, List.set_cons_zero]
        refine k2 a x y d l2 rb2 du tk _ ps2 pg2 16 _ o8 _ _ H2 _ J fun l' rb' ps' pg' H3 F3 J3 => ⟨rb', ps', pg', l', _, rfl, ?_, F2.trans F3⟩
        rw [take_less (Nat.sub_le _ _), Nat.sub_sub] at J3
        exact J3
      · obtain ⟨rb2, ps2, pg2, l2, o7, rfl, J, F2⟩ := hp
        have e0 : row.length - m = 0 := by omega
        rw [e0, List.take_zero] at J
        have kk : ∀ b o, kindP o = true → G4 b = some o → H2 b = some o := fun b o t e => F2 b o (fun m => by
          rcases List.mem_cons.mp m with z | m
          · exact ne_of e hfl4 (fun z2 => by subst z2; cases t) z
          · rcases List.mem_cons.mp m with z | m
            · exact ne_of e hx4 (fun z2 => by subst z2; cases t) z
            · exact ne_of e hy4 (fun z2 => by subst z2; cases t) (List.mem_singleton.mp m)) e fun _ z => by
          subst z
          cases t
        have hlw : H2 lw = some (.lst ((wordsM du tk row).map V.str)) := F2 lw _ (fun m => by
          rcases List.mem_cons.mp m with z | m
          · exact words_strs I4.s.fl f1 z
          · rcases List.mem_cons.mp m with z | m
            · exact ne_tag f1 hx4 rfl z
            · exact ne_tag f1 hy4 rfl (List.mem_singleton.mp m)) f1 fun _ z => by cases z
        exact k3 a x y d rb1 lw du tk row _ _ _ o8 H2 _ J.s.fl J.s.on (sqT_keep kk hr4) big (by omega) hlw J.s.tb fun H3 F3 T3 => q H3 (back H3 ((F.trans (FrN.same S4)).trans (F2.trans (F3.mono fun b m => by rw [List.mem_singleton.mp m]; simp)))) T3
end
end
section
/-! The end: the law is called where no guard stands, with the script and the tables tracked. -/
open PySem PySem.Spec PyProof.Rows L2 LamX
abbrev scrO (vs : List Value) : Obj := { cls := .type "list", data := .seq vs.toArray }
abbrev tab0 : Obj := { cls := .none, data := .fields #[] }
/-- what is tracked at the law's call: its tables, and the script unless K holds it -/
def seed (K : Fr0) (ts : List Addr) (sa : Addr) (vs : List Value) (ns : List Int) : Hp := fun b =>
  if b ∈ ts then some (.tbl #[]) else if b = sa ∧ K.lookup sa = none then some (.frz (scrO vs) (.lst (ns.map V.int))) else none
structure Below (K : Fr0) (ts : List Addr) (sa : Addr) (vs : List Value) (h : Heap) : Prop where
  kin : K.In h
  tab : ∀ b ∈ ts, h.get? b = some tab0
  out : ∀ b ∈ ts, K.lookup b = none
  scr : h.get? sa = some (scrO vs)
section
variable {P : Program} {w : World} {K : Fr0} {mg mb : Str → Option Value} {sa b : Addr} {ts : List Addr} {vs : List Value} {ns : List Int} {u : HO} {o : Obj} {h : Heap}
theorem seed_cases (e : seed K ts sa vs ns b = some u) : (b ∈ ts ∧ u = .tbl #[]) ∨ (b = sa ∧ K.lookup sa = none ∧ u = .frz (scrO vs) (.lst (ns.map V.int))) := by
  unfold seed at e
  by_cases m : b ∈ ts
  · rw [if_pos m] at e
    exact .inl ⟨m, (Option.some.inj e).symm⟩
  · rw [if_neg m] at e
    by_cases c : b = sa ∧ K.lookup sa = none
    · rw [if_pos c] at e
      exact .inr ⟨c.1, c.2, (Option.some.inj e).symm⟩
    · rw [if_neg c] at e
      cases e
theorem seed_tab (m : b ∈ ts) : seed K ts sa vs ns b = some (.tbl #[]) := if_pos m
theorem Below.off (B : Below K ts sa vs h) (e : h.get? b = some o) (n1 : o ≠ tab0) (n2 : o ≠ scrO vs) : seed K ts sa vs ns b = none := by
  cases q : seed K ts sa vs ns b with
  | none => rfl
  | some u =>
    exfalso
    rcases seed_cases q with ⟨m, _⟩ | ⟨m, _⟩
    · have := B.tab b m
      rw [e] at this
      exact n1 (Option.some.inj this)
    · have := B.scr
      rw [← m, e] at this
      exact n2 (Option.some.inj this)
theorem Below.offK (B : Below K ts sa vs h) (e : K.lookup b = some o) : seed K ts sa vs ns b = none := by
  cases q : seed K ts sa vs ns b with
  | none => rfl
  | some u =>
    exfalso
    rcases seed_cases q with ⟨m, _⟩ | ⟨m, c, _⟩
    · have := B.out b m
      rw [e] at this
      cases this
    · rw [← m, e] at c
      cases c
theorem Below.apart (B : Below K ts sa vs h) : sa ∉ ts := fun m => by
  have := (B.tab sa m).symm.trans B.scr
  have := congrArg Obj.data (Option.some.inj this)
  cases this
theorem Below.ok (B : Below K ts sa vs h) (hi : IntsAre vs ns) (hl : ns.length ≤ sizeLine) : HOk P w (seed K ts sa vs ns) h := fun b u e => by
  rcases seed_cases e with ⟨m, rfl⟩ | ⟨rfl, _, rfl⟩
  · exact B.tab b m
  · refine ⟨B.scr, ?_, vs, _, vals_ints hi, B.scr⟩
    rw [List.length_map]
    exact hl
theorem Below.script (B : Below K ts sa vs h) (hi : IntsAre vs ns) (hl : ns.length ≤ sizeLine) : SqL K (seed K ts sa vs ns) sa (ns.map V.int) := by
  cases c : K.lookup sa with
  | none =>
    refine .inl (.inr ⟨scrO vs, ?_⟩)
    unfold seed
    rw [if_neg B.apart, if_pos ⟨rfl, c⟩]
  | some o =>
    have e := B.kin sa o c
    rw [B.scr] at e
    cases e
    have rv := vals_ints hi
    refine .inr ⟨_, vs.toArray, _, c, rfl, rfl, rfl, ?_, by simpa using rv⟩
    rw [List.size_toArray, hi.length]
    exact hl
/-- a dict of the heap stays where it is when what is tracked is hidden -/
theorem Below.names (B : Below K ts sa vs h) {m : Str → Option Value} (n : h.Ns b m) : (hidT h (seed K ts sa vs ns)).Ns b m := by
  obtain ⟨o, es, ep, e, d, r⟩ := n
  refine ⟨o, es, ep, hidT_get e (B.off e (fun z => ?_) fun z => ?_), d, r⟩
  all_goals
    rw [z] at d
    cases d
theorem Below.inK (B : Below K ts sa vs h) : K.In (hidT h (seed K ts sa vs ns)) := fun b o e => hidT_get (B.kin b o e) (B.offK e)
theorem Below.module (B : Below K ts sa vs h) {p : Addr} (m : p ∈ ts) (g : h.Ns mainGlobals mg) (x : ∃ (bm : Addr) (ob : Obj), mg "__builtins__" = some (.ref bm) ∧ bm ≠ builtinsNs ∧ h.get? bm = some ob ∧ ob.cls = .type "module" ∧ ob.dict = some builtinsNs ∧ ob.data = .plain) : (hidT h (seed K ts sa vs ns)).BuiltinsAt mg p := by
  obtain ⟨bm, ob, e1, e2, e3, e4, e5, e6⟩ := x
  have n1 : bm ≠ mainGlobals := fun z => by
    obtain ⟨og, es, ep, q, d, _⟩ := g
    rw [← z, e3] at q
    obtain rfl := Option.some.inj q
    rw [e6] at d
    cases d
  have n2 : bm ≠ p := fun z => by
    have q := B.tab p m
    rw [← z, e3] at q
    obtain rfl := Option.some.inj q
    cases e4
  have e7 : (hidT h (seed K ts sa vs ns)).get? bm = some ob := hidT_get e3 (B.off e3 (fun z => by subst z; cases e6) fun z => by subst z; cases e6)
  exact ⟨bm, ob, e1, e2, n1, n2, e7, e4, e5, e6⟩
theorem Below.glob (B : Below K ts sa vs h) {p : Addr} (m : p ∈ ts) (g : h.Ns mainGlobals mg) : mainGlobals ≠ p := fun z => by
  obtain ⟨og, es, ep, q, d, _⟩ := g
  have t := B.tab p m
  rw [← z, q] at t
  obtain rfl := Option.some.inj t
  cases d
/-- the call of the law -/
theorem end_call {k : Nat} {fa : Addr} {cs : List (Addr × Addr)} {sp : Sp} {st : Shared} (B : Below K (cs.map (·.2)) sa vs st.heap) (g : st.heap.Ns mainGlobals mg) (gb : st.heap.Ns builtinsNs mb) (hbb : ∀ x : Str, x ≠ "__name__" → mb x = bootBuiltins x) (lim : st.heap.NoLimit) (hg : st.gens = #[])
    (hd : ∀ p ∈ cs, PySem.W.codeHdIn K p.1 p.2 = true) (bm : ∃ (bm : Addr) (ob : Obj), mg "__builtins__" = some (.ref bm) ∧ bm ≠ builtinsNs ∧ st.heap.get? bm = some ob ∧ ob.cls = .type "module" ∧ ob.dict = some builtinsNs ∧ ob.data = .plain) (hi : IntsAre vs ns) (hl : ns.length ≤ sizeLine) (hr : Room k callerA)
    (F : ∀ base : Heap, K.In base → base.Ns mainGlobals mg → (∀ p ∈ cs, TabB base mg p.1 p.2) → FnRG P w K mg base CX0 k fa sp)
    (hsp : ∀ H : Hp, (∀ p ∈ cs, H p.2 = some (.tbl #[])) → SqL K H sa (ns.map V.int) → sp [.ref sa] H (fun v _ => v = .bl true) E0) :
    codeAny (model P w) callerA (.call (.ref fa) ⟨[.ref sa], []⟩) (fun r s' => r = .ok (.ret (.bool true)) ∧ OldK st.heap s'.heap ∧ s'.os = st.os ∧ AllBare s'.gens) st := by
  have mem : ∀ p ∈ cs, p.2 ∈ cs.map (·.2) := fun p hp => List.mem_map_of_mem hp
  have ok : HOk P w (seed K (cs.map (·.2)) sa vs ns) st.heap := B.ok hi hl
  have scr := B.script hi hl
  have tb : ∀ p ∈ cs, TabB (hidT st.heap (seed K (cs.map (·.2)) sa vs ns)) mg p.1 p.2 := fun p hp => ⟨PySem.W.codeHd_of_K B.inK (hd p hp), B.module (mem p hp) g bm, B.glob (mem p hp) g⟩
  have e0 : Env0 P w K mg (hidT st.heap (seed K (cs.map (·.2)) sa vs ns)) callerA [] st (seed K (cs.map (·.2)) sa vs ns) := by
    obtain ⟨mc, l1, l2⟩ := lim
    refine { frames := rfl, mod := ⟨B.inK, B.names g, ⟨mb, B.names gb, hbb⟩, ⟨mc, B.names l1, l2⟩⟩, bs := fun _ _ => of_hidT, bsz := Nat.le_of_eq (hidT_size _ _), funs := trivial, frf := fun b m => absurd m List.not_mem_nil, hok := ok, bare := .of_eq hg }
  have run := F _ B.inK (B.names g) tb callerA [] st _ [.ref sa] [.ref sa] (fun v _ => v = .bl true) E0 hr rfl e0 (.cons rfl .nil) (hsp _ (fun p hp => seed_tab (mem p hp)) scr)
  refine codeAny_mono run fun r s' z => ?_
  match r, z with
  | .error e, z => exact False.elim z
  | .ok .next, z => exact False.elim z
  | .ok .brk, z => exact False.elim z
  | .ok .cont, z => exact False.elim z
  | .ok (.ret u), z =>
    obtain ⟨v, H', os, bare, un, ok', rel, rfl⟩ := z
    obtain rfl : u = Value.bool true := rel
    have stay : ∀ b o, b ∉ cs.map (·.2) → st.heap.get? b = some o → s'.heap.get? b = some o := fun b o nb e => by
      cases q : seed K (cs.map (·.2)) sa vs ns b with
      | none => exact un.keep b o e q (fun m => absurd m List.not_mem_nil) List.not_mem_nil
      | some u =>
        rcases seed_cases q with ⟨m, _⟩ | ⟨_, _, c⟩
        · exact absurd m nb
        · subst c
          have a1 := (ok b _ q).1
          have a2 := (ok' b _ (un.frzs b _ _ q)).1
          rw [e] at a1
          rw [a2, a1]
    have grow : ∀ b ∈ cs.map (·.2), ∃ more : Array Value, s'.heap.get? b = some { cls := .none, data := .fields more } := fun b m => by
      obtain ⟨more, e⟩ := un.tbls b #[] (seed_tab m)
      exact ⟨_, ok' b _ e⟩
    refine ⟨rfl, ⟨fun b o e => ?_, fun b o e => ?_⟩, os, bare⟩
    all_goals by_cases m : b ∈ cs.map (·.2)
    · obtain ⟨more, hm⟩ := grow b m
      have t := B.tab b m
      rw [e] at t
      obtain rfl := Option.some.inj t
      obtain ⟨p, hp, rfl⟩ := List.mem_map.mp m
      refine .inr (.inl ⟨((PySem.W.codeHd_of_K B.kin (hd p hp)).tab (B.tab _ m)).isCodeTable, rfl, #[], more, rfl, ?_⟩)
      rw [hm, Array.empty_append]
    · exact .inl (stay b o m e)
    · obtain ⟨more, hm⟩ := grow b m
      exact ⟨_, hm⟩
    · exact ⟨o, stay b o m e⟩
end
end
section
/-! The law's promise at the end, and what the head tells. -/
open PySem PySem.Spec PyProof.Rows L2 LamX
/-- what the head tells of a part of the heap -/
structure Said (h : Heap) (K : Fr0) : Prop where
  a0 : (fl0.all fun f => f K) = true
  a1 : (fl1.all fun f => f K) = true
  a2 : (fl2.all fun f => f K) = true
  a3 : (fl3.all fun f => f K) = true
  a4 : (fl4.all fun f => f K) = true
  a5 : (fl5.all fun f => f K) = true
  a6 : (fl6.all fun f => f K) = true
  dk : (dfns.all fun d => d.ok K) = true
  dv : (dfns.map fun d => d.ob K) = dfns.map Dfn.val
  ne : tabNe K = true
  hd : ∀ p ∈ lamD, PySem.W.codeHdIn K (He.cT K p).1 (He.cT K p).2 = true
  out : ∀ p ∈ lamD, K.lookup (He.cT K p).2 = none
  tab : ∀ p ∈ lamD, h.get? (He.cT K p).2 = some tab0
theorem band {a b : Bool} (h : (a && b) = true) : a = true ∧ b = true := Bool.and_eq_true_iff.mp h
theorem said_of {h : Heap} (e : obW h.get? = valW) : Said h (partW h.get?) := by
  have e1 := congrArg (fun z : AlW => z.1.1) e
  have e4 := congrArg (fun z : AlW => z.1.2) e
  have e3 := congrArg (fun z : AlW => z.2.1) e
  have e2 := congrArg (fun z : AlW => z.2.2) e
  unfold obW obA at e1 e4
  unfold obW obB at e2 e3
  obtain ⟨x3, dkA⟩ := band e1
  obtain ⟨x2, a3⟩ := band x3
  obtain ⟨x1, a2⟩ := band x2
  obtain ⟨a0, a1⟩ := band x1
  obtain ⟨x6, y⟩ := band e3
  obtain ⟨x5, a6⟩ := band x6
  obtain ⟨a4, a5⟩ := band x5
  obtain ⟨y1, ne⟩ := band y
  obtain ⟨dkB, tb⟩ := band y1
  have dj : dfns = dfA ++ dfB := (List.take_append_drop 42 dfns).symm
  have dk : (dfns.all fun d => d.ok (partW h.get?)) = true := by
    rw [dj, List.all_append, dkA, dkB]
    rfl
  have dv : (dfns.map fun d => d.ob (partW h.get?)) = dfns.map Dfn.val := by
    rw [dj, List.map_append, List.map_append]
    exact congr (congrArg _ e4) e2
  have key : ∀ p ∈ lamD, PySem.W.codeHdIn (partW h.get?) (He.cT (partW h.get?) p).1 (He.cT (partW h.get?) p).2 = true ∧ ∃ o, h.get? (He.cT (partW h.get?) p).2 = some o ∧ He.emptyTab o = true := fun p hp => by
    obtain ⟨z1, z2⟩ := band (List.all_eq_true.mp tb p hp)
    refine ⟨z1, ?_⟩
    cases q : h.get? (He.cT (partW h.get?) p).2 with
    | some o =>
      rw [q] at z2
      exact ⟨o, rfl, z2⟩
    | none =>
      rw [q] at z2
      cases z2
  refine ⟨a0, a1, a2, a3, a4, a5, a6, dk, dv, ne, fun p hp => (key p hp).1, fun p hp => ?_, fun p hp => ?_⟩
  · obtain ⟨_, o, q, z⟩ := key p hp
    exact He.frT_none q z
  · obtain ⟨_, o, q, z⟩ := key p hp
    rw [q, He.emptyTab_eq z]
def hkW : PySem.W.Hook where
  α := AlW
  obs s := obW s.heap.get?
  val _ := valW
  says _ h := ∃ K : Fr0, K.In h ∧ Said h K
  of _ _ e := ⟨_, He.frT_in, said_of e⟩
  keeps _ _ _ x k := by
    obtain ⟨K, hK, c⟩ := x
    exact ⟨K, PySem.W.Frag.In.keeps hK k, { c with tab := fun p hp => k _ _ (c.tab p hp) }⟩
theorem Said.tx {h : Heap} {K : Fr0} {mg : Str → Option Value} (c : Said h K) (i : K.In h) (g : h.Ns mainGlobals mg) : Tx K mg := ⟨⟨h, i, g⟩, c.a0, c.a1, c.a2, c.a3, c.a4, c.a5, c.a6, c.dk, c.dv⟩
abbrev csK (K : Fr0) : List (Addr × Addr) := lamD.map (He.cT K)
theorem Said.tt {h base : Heap} {K : Fr0} {mg : Str → Option Value} (c : Said h K) (t : ∀ p ∈ csK K, TabB base mg p.1 p.2) : Tt K mg base := by
  obtain ⟨n1, n⟩ := band c.ne
  obtain ⟨n2, n3⟩ := band n
  exact ⟨t _ (by simp [csK, lamD]), t _ (by simp [csK, lamD]), t _ (by simp [csK, lamD]), of_decide_eq_true n1, of_decide_eq_true n2, of_decide_eq_true n3⟩
theorem tabs_new {K : Fr0} {H : Hp} (t : ∀ p ∈ csK K, H p.2 = some (.tbl #[])) : Tabs2 (TTab K) H := by
  intro p hp
  have key : ∀ {c : Addr × Addr} {q : Str} {b : Bool} {N : List Addr}, c ∈ csK K → TabS2 N H c.2 q b := fun m => ⟨#[], t _ m, trivial, fun pos cv e => by cases e⟩
  simp only [TTab, List.mem_cons, List.not_mem_nil, or_false] at hp
  rcases hp with rfl | rfl | rfl
  · exact key (c := He.cT K dS) (by simp [csK, lamD])
  · exact key (c := He.cT K dB) (by simp [csK, lamD])
  · exact key (c := He.cT K dI) (by simp [csK, lamD])
abbrev spLaw (K : Fr0) : Sp := s1 fun s H Q _ => ∃ a, ∃ ns : List Int, s = .ref a ∧ SqL K H a (ns.map V.int) ∧ ns.length ≤ 63 ∧ Tabs2 (TTab K) H ∧ ∀ H', Q (.bl true) H'
end
section
/-! The flask made of the script. -/
open PySem PySem.Spec PyProof.Rows L2
section
variable {P : Program} {w : World} {K : Fr0} {mg : Str → Option Value} {base : Heap}
abbrev spFlask (K : Fr0) : Sp := s2 fun s k H Q _ => ∃ a, ∃ ns : List Int, ∃ j : Nat, s = .ref a ∧ k = .int j ∧ j < 3 ∧ SqL K H a (ns.map V.int) ∧ ns.length ≤ 63 ∧ ∀ p H', H p = none → Same H H' → Fl H' p → Q (.ref p) H'
abbrev N_q_flask : List Str := ["_law_script", "_law_k", "_law_own", "_law_mixed", "_law_entry_here"]
abbrev P_q_flask : List Str := ["_law_script", "_law_k"]
theorem sc_q_flask : FnScope N_q_flask P_q_flask (defScope s_q_flask) := ⟨rfl, rfl, rfl, by decide +kernel, rfl, by decide +kernel, by decide +kernel⟩
theorem ok_q_flask (T : Tx K mg) : FnR P w K mg base CX0 1 (ad K "_law_flask") (spFlask K) := by
  obtain ⟨fd, F⟩ := T.fd_q_flask
  refine fnr F (fun _ _ _ _ _ _ us hl => match us, hl with | [_, _], _ => rfl) sc_q_flask (fun vs H Q E h => ?_) (fun cdv A outer s H vs Q E hr h => ?_)
  · first | exact l1 h | exact l0 h | exact l2 h | exact l3 h | exact l4 h | exact l5 h | exact l6 h
  · have hu := hu_of hr
    refine ⟨_, PSs.nox (pss_cons (ps_set (i := 2) sc_q_flask.nd rfl (Or.inl rfl) (pe_ifExp (pt_cmpR op_lt (pv 1) (pe_callB call_LenL (by rfl) T.f_len boot_lenB (pa_cons (pv 0) pa_nil)) (nomark _)) (pe_callTy call_Int1 (by rfl) T.f_int boot_intT (pa_cons (pe_ix ix_list (pv 0) (pv 1) (fun _ _ => rfl)) pa_nil)) (pe_op op_add (pe_op op_mul pe_int (pv 1)) pe_int)))
      (pss_cons (ps_set (i := 3) sc_q_flask.nd rfl (Or.inl rfl) (pe_op op_add pe_int (pe_op op_mul pe_int (pv 1))))
      (pss_cons (ps_for PassesOwn.never rfl (pi_list (pe_slice sl_Ls (pv 0) po_none (po_some pe_int))) (pg_name (i := 4) sc_q_flask.nd rfl (Or.inl rfl)) (pss_one (ps_set (i := 3) sc_q_flask.nd rfl (Or.inl rfl) (pe_op op_mod (pe_callTy call_Int1 (by rfl) T.f_int boot_intT (pa_cons (pe_op op_add (pe_op op_mul (pv 3) pe_int) (pe_callTy call_Int1 (by rfl) T.f_int boot_intT (pa_cons (pv 4) pa_nil))) pa_nil)) pe_int))))
      (pss_one (ps_ret (pe_lstS (pa_cons (pe_op op_mod (pe_callTy call_Int1 (by rfl) T.f_int boot_intT (pa_cons (pe_op op_add (pv 3) (pe_op op_mul (pv 2) pe_int)) pa_nil)) pe_int) (pa_cons pe_int (pa_cons (pe_ifExp (PW.pt (pw_or (pt_cmpR op_lt (pv 2) pe_int (nomark _)) (pw_or1 (pt_cmpR op_ge (pv 2) (pe_op op_pow pe_int pe_int) (nomark _))))) (pe_callB call_abs (by rfl) T.f_abs boot_absB (pa_cons (pv 2) pa_nil)) pe_int) pa_nil))))))))), ?_⟩
    try dsimp only [cxOf, Cx.nox, Cx.wish]
    obtain ⟨s, k, rfl, a, ns, j, rfl, rfl, hj, hs, hn, q⟩ := h
    lcg_src
    rw [List.length_map]
    refine w_ite (fun h1 => ?_) (fun h1 => ?_)
    · have hj2 : j < ns.length := by
        have := of_decide_eq_true h1
        omega
      lcg_src
      refine w_ixL hs (atI_nat (j := j) (by rw [List.getElem?_map, List.getElem?_eq_getElem hj2]; rfl)) ?_
      lcg_src
      rename_i l G1 n1 S1 e1
      refine ForG.list (K := K) (fun _ σ' H' => Same G1 H' ∧ ∃ (own m : Int) (o4 : Option V), σ' = [some (.ref a), some (.int j), some (.int own), some (.int m), o4]) ⟨Same.refl _, _, _, _, rfl⟩ (fun _ _ H' z => sq_L (z.1 _ _ e1)) (fun i x σ' H' hx hp => ?_) (fun σ' H' hp => ?_)
      · obtain ⟨S2, own, m, o4, rfl⟩ := hp
        have hm : x ∈ ns.map V.int := by
          have h1 := List.mem_of_getElem? hx
          unfold cutV at h1
          exact List.mem_of_mem_drop (List.mem_of_mem_take h1)
        obtain ⟨n, hn2, rfl⟩ := List.mem_map.mp hm
        lcg_src
        rfl
      · obtain ⟨S2, own, m, o4, rfl⟩ := hp
        lcg_src
        refine w_ite (fun c1 => ?_) (fun c1 => ?_)
        · lcg_src
          rename_i p G3 n3 S3 e3
          exact q _ _ (free_of n3 (S1.trans S2)) (S1.trans (S2.trans S3)) ⟨_, _, _, e3⟩
        · lcg_src
          refine w_ite (fun c2 => ?_) (fun c2 => ?_)
          · lcg_src
            rename_i p G3 n3 S3 e3
            exact q _ _ (free_of n3 (S1.trans S2)) (S1.trans (S2.trans S3)) ⟨_, _, _, e3⟩
          · lcg_src
            rename_i p G3 n3 S3 e3
            exact q _ _ (free_of n3 (S1.trans S2)) (S1.trans (S2.trans S3)) ⟨_, _, _, e3⟩
    · lcg_src
      rename_i l G1 n1 S1 e1
      refine ForG.list (K := K) (fun _ σ' H' => Same G1 H' ∧ ∃ (own m : Int) (o4 : Option V), σ' = [some (.ref a), some (.int j), some (.int own), some (.int m), o4]) ⟨Same.refl _, _, _, _, rfl⟩ (fun _ _ H' z => sq_L (z.1 _ _ e1)) (fun i x σ' H' hx hp => ?_) (fun σ' H' hp => ?_)
      · obtain ⟨S2, own, m, o4, rfl⟩ := hp
        have hm : x ∈ ns.map V.int := by
          have h1 := List.mem_of_getElem? hx
          unfold cutV at h1
          exact List.mem_of_mem_drop (List.mem_of_mem_take h1)
        obtain ⟨n, hn2, rfl⟩ := List.mem_map.mp hm
        lcg_src
        rfl
      · obtain ⟨S2, own, m, o4, rfl⟩ := hp
        lcg_src
        refine w_ite (fun c1 => ?_) (fun c1 => ?_)
        · lcg_src
          rename_i p G3 n3 S3 e3
          exact q _ _ (free_of n3 (S1.trans S2)) (S1.trans (S2.trans S3)) ⟨_, _, _, e3⟩
        · lcg_src
          refine w_ite (fun c2 => ?_) (fun c2 => ?_)
          · lcg_src
            rename_i p G3 n3 S3 e3
            exact q _ _ (free_of n3 (S1.trans S2)) (S1.trans (S2.trans S3)) ⟨_, _, _, e3⟩
          · lcg_src
            rename_i p G3 n3 S3 e3
            exact q _ _ (free_of n3 (S1.trans S2)) (S1.trans (S2.trans S3)) ⟨_, _, _, e3⟩
end
end
section
/-! The law. -/
open PySem PySem.Spec PyProof.Rows L2 LamX
local macro_rules | `(tactic| lcg_sub) => `(tactic| ((with_reducible apply sm_DpA); assumption; lcg_sub))
local macro_rules | `(tactic| lcg_sub) => `(tactic| ((with_reducible apply StoreAt.same); assumption; lcg_sub))
local macro_rules | `(tactic| lcg_sub) => `(tactic| ((with_reducible apply EntsAt.same); assumption; lcg_sub))
local macro_rules | `(tactic| lcg_sub) => `(tactic| ((with_reducible apply sm_FA); assumption; lcg_sub))
local macro_rules | `(tactic| lcg_sub) => `(tactic| ((with_reducible apply BookAt.same); assumption; lcg_sub))
section
variable {P : Program} {w : World} {K : Fr0} {mg : Str → Option Value} {base : Heap}
abbrev N_law : List Str := ["_law_script", "_law_k"]
abbrev P_law : List Str := ["_law_script"]
theorem sc_law : FnScope N_law P_law (defScope s_law) := ⟨rfl, rfl, rfl, by decide +kernel, rfl, by decide +kernel, by decide +kernel⟩

theorem ok_law (T : Tx K mg) (TT : Tt K mg base) : FnRG P w K mg base CX0 24 (ad K "law") (spLaw K) := by
  obtain ⟨fd, F⟩ := T.fd_law
  refine fnrG F (fun _ _ _ _ _ _ us hl => match us, hl with | [_], _ => rfl) sc_law (fun vs H Q E h => ?_) (fun cdv A outer s H vs Q E hr hgd h => ?_)
  · first | exact l1 h | exact l0 h | exact l2 h | exact l3 h | exact l4 h | exact l5 h | exact l6 h
  · have hu := hu_of hr
    refine ⟨_, PSs.nox (pss_one (ps_ret (pe_callB (cr_all rfl) (by rfl) T.f_all boot_allB (pa_cons (pe_lc (own := [("_law_k", 1)]) (g := gName 1)  (tt := tYes) rfl sc_law.nd (pi_range1 (by rfl) T.f_range (pa_cons (pe_callB (call_max2 rfl) (by rfl) T.f_max boot_maxB (pa_cons pe_int (pa_cons (pe_callB (call_min2 rfl) (by rfl) T.f_min boot_minB (pa_cons (pe_callB call_LenL (by rfl) T.f_len boot_lenB (pa_cons (pv 0) pa_nil)) (pa_cons pe_int pa_nil))) pa_nil))) pa_nil)) (blkOk_by (N := N_law) (sc := defScope s_law) (by decide +kernel)) (fun _ _ _ _ _ => (pg_name (i := 1) sc_law.nd rfl (Or.inl rfl))) (fun _ _ _ _ _ => pts_nil) (fun _ _ _ _ _ => (pe_fnG (ok_q_right T TT) (hr.mono (by decide)) hgd (by rfl) T.g_q_right T.k_q_right pass0 (pa_cons (pe_fn (ok_q_flask T) (hr.mono (by decide)) (by rfl) T.g_q_flask T.k_q_flask pass0 (pa_cons (pv 0) (pa_cons (pv 1) pa_nil))) pa_nil)))) pa_nil)))), ?_⟩
    try dsimp only [cxOf, Cx.nox, Cx.wish]
    obtain ⟨s0, rfl, a, ns, rfl, hs, hn, tb, q⟩ := h
    have hσ : start N_law [.ref a] = [some (.ref a), none] := rfl
    rw [hσ]
    lcg_src
    generalize hm : (if (if 3 < (((ns.map V.int).length : Nat) : Int) then (3 : Int) else (((ns.map V.int).length : Nat) : Int)) > 2 then (if 3 < (((ns.map V.int).length : Nat) : Int) then (3 : Int) else (((ns.map V.int).length : Nat) : Int)) else 2).toNat = m
    have hm3 : m ≤ 3 := by
      rw [← hm]
      generalize (((ns.map V.int).length : Nat) : Int) = z
      have e : (if (if 3 < z then (3 : Int) else z) > 2 then (if 3 < z then (3 : Int) else z) else 2) ≤ 3 := by
        by_cases c : 3 < z
        · simp [c]
        · simp only [if_neg c]
          split <;> omega
      omega
    clear hm
    refine LcG.gen2 (J := Itr 0 m) (n := m) walk_range (by omega) (fun D i ys H' => ExtN H H' ∧ Tabs2 (TTab K) H' ∧ ys = List.replicate i (V.bl true)) (fun D H' nD S e => ⟨fun b o h _ => S b o h, tb.same S, rfl⟩) (fun _ _ _ _ _ => True.intro) (fun D i ys H2 H' l nD I C hl e => ?_) (fun D i v ys H2 H' Y2 N nD hi hlen hD I hy hq => ?_) (fun D ys H' nD hlen I hD => ?_)
    · obtain ⟨i1, i2, i3⟩ := I
      obtain ⟨l0, hl⟩ := hl
      exact ⟨fun b o h t => C b o (ne_of_none h nD) (i1 b o h t), i2.chg C hl rfl, i3⟩
    · obtain ⟨rfl, ev⟩ := hy
      obtain ⟨i1, i2, rfl⟩ := I
      have hs2 := ex_L i1 hs
      have hj : i < 3 := by omega
      rw [show v = .int ((i : Nat) : Int) from by rw [ev]; exact congrArg V.int (Int.zero_add _)]
      lcg_src
      rename_i p G1 np S1 F1
      refine ⟨i2.same S1, fun H4 F4 T4 => hq _ H4 ⟨fun b o h t => ?_, T4, by rw [List.replicate_succ']⟩ ?_⟩
      · have hb := i1 b o h t
        exact F4 b o (fun m => ne_of_none hb np (List.mem_singleton.mp m)) (S1 _ _ hb) t
      · exact F4 D _ (fun m => ne_of_none hD np (List.mem_singleton.mp m)) (S1 _ _ hD) fun _ z => by cases z
    · obtain ⟨i1, i2, rfl⟩ := I
      lcg_src
      refine ⟨D, List.replicate m true, rfl, sq_L (by rw [hD, List.map_replicate]), ?_⟩
      have e : (List.replicate m true).all id = true := List.all_eq_true.mpr fun b hb => List.eq_of_mem_replicate hb
      rw [e]
      exact q _
end
end
end SW
open PySem PySem.W PySem.Calls PyProof.Rows
theorem PySem.Challenge.cw_shelfwithin_k97_whole_sessions_of_stores_holds : PySem.Challenge.rw_shelfwithin_k97_whole_sessions_of_stores.Holds := by
  w_on; o_law
  refine HandSHeadRun.head_any (r := SW.RR) (q := SW.qv) (H := SW.hkW) (ob := fun s => SW.obW (HandSHeadRun.getT s)) (M := 12000) (loose := SW.names) (d := HandSHeadRun.topDef SW.RR.prog 83) (kwd := []) (fun s => ?ho) (by kernel_rfl) (fun s => by kernel_rfl) (fun w => SW.run0 w) (by kernel_rfl) (by kernel_rfl) (by kernel_rfl) (by rfl) (by first | assumption | decide +kernel) (by decide +kernel) ⟨rfl, rfl, rfl, rfl, rfl, by decide +kernel⟩ ?hw ?hc
  case ho =>
    have e : HandSHeadRun.getT s = s.abs.heap.get? := funext (HandSHeadRun.getT_eq s)
    show SW.obW (HandSHeadRun.getT s) = SW.obW s.abs.heap.get?
    rw [e]
  case hw => w_witness2
  case hc =>
    refine Att.attach_callB (l := PySem.Challenge.rw_shelfwithin_k97_whole_sessions_of_stores) (n := 63) rfl (by kernel_rfl) fun w s₀ s₁ mg mb fa o pm cd doc a vs ns G Y ho hd hcd hmg0 hobj hints hlen hbits hg => ?_
    obtain ⟨K, KX, c⟩ := Y
    have hmg : mg ("law" : PySem.Str) = some (.ref fa) := by
      have e : (HandSHeadRun.topDef SW.RR.prog 83).name = ("law" : PySem.Str) := by kernel_rfl
      rw [← e]
      exact hmg0
    have T := c.tx KX G.T.g
    have e := hmg.symm.trans T.g_law
    cases e
    have key : ∀ b, b ∈ (SW.csK K).map (·.2) → ∃ p ∈ SW.lamD, (He.cT K p).2 = b := fun b hb => by
      obtain ⟨q, hq, rfl⟩ := List.mem_map.mp hb
      obtain ⟨p, hp, rfl⟩ := List.mem_map.mp hq
      exact ⟨p, hp, rfl⟩
    have B : SW.Below K ((SW.csK K).map (·.2)) a vs s₁.heap := ⟨KX, fun b hb => by
      obtain ⟨p, hp, rfl⟩ := key b hb
      exact c.tab p hp, fun b hb => by
      obtain ⟨p, hp, rfl⟩ := key b hb
      exact c.out p hp, hobj⟩
    refine SW.end_call (k := 24) (sp := SW.spLaw K) B G.T.g G.T.b G.T.builtins G.T.nolimit hg (fun p hp => ?_) G.T.bmain hints (Nat.le_trans hlen (by decide)) ⟨rfl, by decide, by decide⟩ (fun base i g tb => SW.ok_law ⟨⟨base, i, g⟩, T.a0, T.a1, T.a2, T.a3, T.a4, T.a5, T.a6, T.dk, T.dv⟩ (c.tt tb)) (fun H hH hS => ⟨_, rfl, a, ns, rfl, hS, hlen, SW.tabs_new hH, fun _ => rfl⟩)
    obtain ⟨q, hq, rfl⟩ := List.mem_map.mp hp
    exact c.hd q hq
