import PyProof.Rows.All
import Wide.All
import OpenK.AllK
import Wide.FinOn
import KE.KStateDown
import KE.KWithOwn
import KE.KLam
import PyProof.CodeObj
import PyProof.CodeObjX
import HandS.ForMost
import HandS.Exc
import HandS.TryOnly
import HandS.ExcOwn
import HandS.WordsExc
import HandS.TryMany
import HandS.Hot
import HandS.HotCalls
import HandS.Lambda
import HandS.Nested
import HandS.DictComp
import HandS.Flow
import HandS.Wide
import HandS.Defaults
import HandS.IsInst
import HandS.RaiseOp
import HandS.RaiseMore
import HandS.TupAny
import HandS.ListEq
import HandS.DeepEq
import HandS.Property
import HandS.More
import HandS.Conv
import HandS.ExcIs
import HandS.ExcInit
import HandS.ExcField
import HandS.Sort
import HandS.SortOrd
import HandS.Head0
import HandS.Head1
import HandS.Head2
import HandS.HeadEnd
import HandS.HeadHook1
import HandS.HeadHook2
import HandS.HeadHook3
import HandS.HeadHook4
import HandS.HeadWalk
import KE.KExcInit
import KE.KExcPX
import HandS.ExcCtx
import HandS.ExcInitHot
import HandS.CallSlots
import HandS.Finally
import KE.GoesMore
import HandS.Iter
import HandS.SetFor
import KE.KExcIs
import HandS.Style
import HandS.Zip
import HandS.Proxy
import HandS.WordsDict
import PyProof.ReprLen
import HandS.EndTab
import PySem.Challenge.RW_purepowers_k63_whole_book_trials
-- Xtop
set_option Elab.async false
set_option linter.all false
set_option maxRecDepth 100000
set_option maxHeartbeats 4000000
namespace G
open PySem PySem.Spec PyProof.Rows L2
/-- the i-th statement of the program's top -/
def top (i : Nat) : Stmt := PySem.Challenge.pw_purepowers_k63_whole_book_trials.main.body.getD i (.Pass ⟨0, 0, 0, 0⟩)
abbrev s_InvalidName_init : Stmt := inClass (top 3) 0
abbrev s_InvalidNumber_init : Stmt := inClass (top 4) 0
abbrev s_InvalidWish_init : Stmt := inClass (top 5) 0
abbrev s_InvalidIndex_init : Stmt := inClass (top 6) 0
abbrev s_UnknownName_init : Stmt := inClass (top 8) 0
abbrev s_Broken_init : Stmt := inClass (top 10) 0
abbrev s_InUse_init : Stmt := inClass (top 11) 0
abbrev s_is_integer : Stmt := top 16
abbrev s_is_between : Stmt := top 17
abbrev s_is_name : Stmt := top 18
abbrev s_power_of : Stmt := top 19
abbrev s_common_divisor : Stmt := top 20
abbrev s_floor_root : Stmt := top 21
abbrev s_is_power : Stmt := top 22
abbrev s_prime_divisors : Stmt := top 23
abbrev s_is_number : Stmt := top 26
abbrev s_check_number : Stmt := top 27
abbrev s_lowest : Stmt := top 28
abbrev s_raised : Stmt := top 29
abbrev s_whole_root : Stmt := top 30
abbrev s_base_and_exponent : Stmt := top 31
abbrev s_base_for : Stmt := top 32
abbrev s_root_for : Stmt := top 33
abbrev s_four_for : Stmt := top 34
abbrev s_primes_for : Stmt := top 37
abbrev s_own_kind : Stmt := top 38
abbrev s_kind_of : Stmt := top 39
abbrev s_odd_part : Stmt := top 41
abbrev s_shared : Stmt := top 42
abbrev s_is_split_by_four : Stmt := top 43
abbrev s_does_split : Stmt := top 44
abbrev s_is_always : Stmt := top 45
abbrev s_begins_with_word : Stmt := top 48
abbrev s_is_wish : Stmt := top 49
abbrev s_names_in : Stmt := top 50
abbrev s_holds : Stmt := top 51
abbrev s_Kept_init : Stmt := inClass (top 52) 0
abbrev s_Trial_init : Stmt := inClass (top 53) 0
abbrev s_Trial_enter : Stmt := inClass (top 53) 1
abbrev s_Trial_exit : Stmt := inClass (top 53) 2
abbrev s_Book_init : Stmt := inClass (top 54) 0
abbrev s_Book_names : Stmt := inClass (top 54) 1
abbrev s_Book_wishes : Stmt := inClass (top 54) 2
abbrev s_Book_changes : Stmt := inClass (top 54) 3
abbrev s_Book_become : Stmt := inClass (top 54) 4
abbrev s_Book_check_known : Stmt := inClass (top 54) 5
abbrev s_Book_setitem : Stmt := inClass (top 54) 6
abbrev s_Book_getitem : Stmt := inClass (top 54) 7
abbrev s_Book_contains : Stmt := inClass (top 54) 9
abbrev s_Book_len : Stmt := inClass (top 54) 10
abbrev s_Book_drop : Stmt := inClass (top 54) 11
abbrev s_Book_wish : Stmt := inClass (top 54) 12
abbrev s_Book_lift : Stmt := inClass (top 54) 13
abbrev s_Book_undo : Stmt := inClass (top 54) 14
abbrev s_Book_trial : Stmt := inClass (top 54) 17
abbrev s_Book_tried : Stmt := inClass (top 54) 18
abbrev s__law_jug : Stmt := top 56
abbrev s__law_pull : Stmt := top 57
abbrev s__law_one_of : Stmt := top 58
abbrev s__law_common : Stmt := top 59
abbrev s__law_power : Stmt := top 60
abbrev s__law_pair : Stmt := top 61
abbrev s__law_small : Stmt := top 62
abbrev s__law_plan : Stmt := top 63
abbrev s__law_is_four : Stmt := top 64
abbrev s__law_splits : Stmt := top 65
abbrev s__law_is_always : Stmt := top 66
abbrev s__law_some_n : Stmt := top 67
abbrev s__law_kind : Stmt := top 68
abbrev s__law_answer : Stmt := top 69
abbrev s__law_new_wish : Stmt := top 70
abbrev s__law_broken : Stmt := top 71
abbrev s__law_named : Stmt := top 72
abbrev s__law_behind : Stmt := top 73
abbrev s__law_new_deed : Stmt := top 74
abbrev s__law_done : Stmt := top 75
abbrev s__law_book_is : Stmt := top 76
abbrev s__law_slip : Stmt := top 77
abbrev s__law_heard : Stmt := top 78
abbrev s__law_turn : Stmt := top 79
abbrev s__law_tried : Stmt := top 80
abbrev s__law_inside : Stmt := top 81
abbrev s__law_right : Stmt := top 82
abbrev s_law : Stmt := top 83
end G
-- Xa
set_option Elab.async false
set_option linter.all false
set_option maxRecDepth 100000
set_option maxHeartbeats 4000000
/-! own exception classes over any of three bases, whose __init__ stores one attribute: made, raised where nothing is handled -/
namespace G
open PySem PySem.Spec PyProof.Rows L2 Builtin.ObjectAttr

structure OxC (K : PySem.W.Frag) (newId : String) (bmB : List Value) (C : Addr) : Prop where
  cls : PySem.W.excInitIn K C bmB newId = true
  over : PySem.W.excOver K C bmB = true
  hd : PySem.W.hasDictIn K C = true
  sa : PySem.W.findIn K (.ref C) "__setattr__" = some (some (.builtin "object.__setattr__"))
  exC : PySem.W.subIn K (.ref C) (.type "BaseException") = some true
  tyC : PySem.W.typeIn K (.ref C) = some (.type "type")
  kC : PySem.W.keepIn K (.ref C) = true

section
variable {X : Cx} {pins : List (Addr × Obj)} {σ : L2.St} {H : Hp} {s : Shared} {a C dx : Addr} {f : Str} {y : V} {u : Value} {fs : List (Str × V)} {Q : Unit → Shared → Prop} {E : Value → Shared → Prop} {A : Around} {B newId initId : String} {bmB : List Value}
theorem xst_new (SF : StoreFacts B bmB "object.__setattr__" "object") (T : OxC X.K newId bmB C) (I : Inv X pins σ H s) (e : H a = some (exo a C none)) (hno : PySem.W.findIn X.K (.ref C) f = some none) (ry : RelV y u)
    (h : ∀ dx s', H dx = none → dx ≠ a → Inv X pins σ (upd (upd H dx (exd dx [(f, y)])) a (exo a C (some dx))) s' → Q () s') : wpAny (model X.prog X.w) A (setAttr (.ref a) f u) Q E s := by
  obtain ⟨t1, ho⟩ := exo_at I.hok e
  have KI := I.kIn
  obtain ⟨cd, hcd, hcd'⟩ := PySem.W.any_some T.hd
  obtain ⟨hp, g, d, t, os⟩ := s
  have tk : PySem.W.takerIn X.K C f = some none := by
    unfold PySem.W.takerIn
    rw [hno]
    rfl
  have has : a < hp.objs.size := Heap.lt_size ho
  have hnd : H hp.objs.size = none := I.hok.fresh (Nat.le_refl _)
  have nsz : hp.objs.size ≠ a := Nat.ne_of_gt has
  refine PySem.W.set_plain KI (ox := PySem.W.excObj C t1 none .none) (od := none) ⟨ho, rfl, rfl, trivial⟩ T.sa ?_
  refine PySem.W.osa_openX (od := none) (s := ⟨hp, g, d, t + 1, os⟩) SF KI ⟨ho, rfl, rfl, trivial⟩ T.over tk fun b => ?_
  refine wpAny_bind (wpAny_pure (wpAny_bind (PySem.W.instanceDict_exc (t := t1) (c2 := .none) ho (PySem.W.looks_clsIn KI hcd) hcd' ?_)))
  show wpAny _ _ (storeInDict hp.objs.size (.str f t) f u) _ _ _
  have hns : ((hp.push (PySem.W.dictOf [] 0)).update a fun o => { o with dict := some hp.objs.size }).Ns hp.objs.size (fun _ => none) :=
    ⟨_, #[], _, (Heap.get?_update_ne _ _ _ _ nsz).trans (Heap.get?_push_size hp rfl), rfl, fun e he => absurd he (by simp), fun _ => rfl⟩
  refine PySem.HandSPX.store_in_new hns fun h' tk' hn hs => ?_
  have hx : h'.get? a = some (PySem.W.excObj C t1 (some hp.objs.size) .none) := by
    refine (hs.2 a (Ne.symm nsz)).trans ?_
    exact Heap.get?_update_self _ (Heap.get?_push_of_some _ ho) rfl
  have k : ∀ b o, b ≠ a → hp.get? b = some o → h'.get? b = some o := fun b o hb q =>
    (hs.2 b (Nat.ne_of_lt (Heap.lt_size q))).trans ((Heap.get?_update_ne _ _ _ _ hb).trans (Heap.get?_push_of_some _ q))
  have nd : ∀ {b : Addr} {o : Obj}, hp.get? b = some o → b ≠ hp.objs.size := fun {b o} q => Nat.ne_of_lt (Heap.lt_size q)
  have na : ∀ {b : Addr}, H b = none → b ≠ a := fun {b} n z => by
    rw [z, e] at n
    cases n
  have U : Un X.fs [] H (upd (upd H hp.objs.size (exd hp.objs.size [(f, y)])) a (exo a C (some hp.objs.size))) hp h' :=
    { keep := fun b o q n _ _ => k b o (na n) q
      slot := fun b o q n _ _ => ⟨o.slots, k b o (na n) q⟩
      free := fun b o q n _ => by
        rw [upd_ne (na n), upd_ne (nd q)]
        exact n
      there := fun b o q _ => by
        by_cases hb : b = a
        · rw [hb]
          exact ⟨_, hx⟩
        · exact ⟨o, k b o hb q⟩
      tups := fun b xs q => by
        rw [upd_ne (at_ne e q exo_tup), upd_ne (ne_of_none q hnd)]
        exact q
      frzs := fun b o v q => by
        rw [upd_ne (at_ne e q exo_frz), upd_ne (ne_of_none q hnd)]
        exact q
      tbls := fun b ps q => ⟨#[], by
        rw [upd_ne (at_ne e q exo_tbl), upd_ne (ne_of_none q hnd), q]
        simp⟩ }
  refine h hp.objs.size _ hnd nsz (I.un (h' := h') (t' := tk') U fun b o q => ?_)
  by_cases hb : b = a
  · rw [hb, upd_same] at q
    cases q
    rw [hb]
    exact exo_ok hx
  · rw [upd_ne hb] at q
    by_cases hd : b = hp.objs.size
    · rw [hd, upd_same] at q
      cases q
      rw [hd]
      exact exd_ok hn (relO_put (fs := []) ry fun g => True.intro)
    · rw [upd_ne hd] at q
      refine (I.hok b o q).stay (fun c v hc z => ?_) (fun c hc => ?_) fun c xs hc => ?_
      · refine k c v ?_ z
        rcases hc with hc | hc
        · rw [hc]
          exact hb
        · exact at_ne e hc exo_own
      · rw [upd_ne (at_ne e hc exo_own), upd_ne (ne_of_none hc hnd)]
        exact hc
      · rw [upd_ne (at_ne e hc exo_tup), upd_ne (ne_of_none hc hnd)]
        exact hc
end

/-! ### the reading: self.f = e in such an __init__ -/
def tXst (K : PySem.W.Frag) (newId : String) (bmB : List Value) (f : Str) (to te : TE) : TS := fun D σ H => te σ H fun y H1 => to σ H1 fun x H2 => ∃ a C : Addr, x = .ref a ∧ OxC K newId bmB C ∧ PySem.W.findIn K (.ref C) f = some none ∧
  H2 a = some (exo a C none) ∧ ∀ dx, H2 dx = none → dx ≠ a → D.nx σ (upd (upd H2 dx (exd dx [(f, y)])) a (exo a C (some dx)))
section
variable {X : Cx} {o e : Expr} {es : List Expr} {to te : TE} {ta : TA} {f : Str} {p p' p1 p2 pos : Pos} {B newId initId : String} {bmB : List Value}
theorem ps_xst (SF : StoreFacts B bmB "object.__setattr__" "object") (ho : PE X o to) (he : PE X e te) (hs : swapsWith e (some (.Attribute o f p')) pos.line X.env = pure false := by rfl) :
    PS X (.Assign [.Attribute o f p'] e pos) (tXst X.K newId bmB f to te) := by
  refine ⟨fun pins s σ H D I h => ?_⟩
  refine plainObj_wpAny_Assign_Attribute (thn (he.run pins s σ H _ I h) fun v s1 ⟨y, H1, I1, r1, q1⟩ => thn (ho.run pins s1 σ H1 _ I1 q1) fun u s2 ⟨x, H2, I2, r2, a, C, ex, T, hno, ea, q⟩ => ?_) hs
  subst ex
  obtain rfl : u = Value.ref a := r2
  exact xst_new SF T I2 ea hno r1 fun dx s' n ne J => ⟨σ, _, J, q dx n ne⟩
/-- C(e, ..), raised where nothing is handled: the wish of L2N -/
theorem pmk_ox {CX : CXT} {x : Str} {C fI : Addr} {k : Nat} {fd : FuncData} {ps : List Str} {sp : Sp} (FB : ExcBaseFacts B newId initId bmB) (T : OxC X.K newId bmB C) (iC : PySem.W.findIn X.K (.ref C) "__init__" = some (some (.ref fI))) (tI : PySem.W.typeIn X.K (.ref fI) = some (.type "function"))
    (F1 : FnOk X.prog X.w X.K X.mg X.base CX k fI fd ps sp) (hr : Room (k + 1) X.A) (hb : Binds X.K fd ps []) (hx : Passes CX X (fun _ _ _ => False)) (hg : Gl X x) (hm : X.mg x = some (.ref C)) (ha : PA X (e :: es) ta)
    (hdb : (x == ("__debug__" : Str)) = false := by decide) (he : starEach (e :: es) X.env = (false, eval e X.env) :: starEach es X.env := by rfl) (hpl : (backTo pos (starEach es X.env)).any (·.1) = false := by rfl) :
    L2N.PMk X (.Call (.Name x p) (e :: es) [] pos) (tMkO C sp [] ta) := by
  intro pins s σ H Q I h
  obtain ⟨nm, q, N, bs, bm, hdct, sn, sub, ab, col, dd, k0, k1, k2, k3, k5, hC, hbm⟩ := PySem.W.excInit_of I.kIn T.cls
  refine wpAny_Call_Name_kw (ld_glob I hg hm ?_ hdb)
  refine PySem.W.callWith_K (h₀ := X.base) I.ok.mod.kin T.kC (thn (ha.run pos pins s σ H _ I h) fun us s1 hh => ?_) he hpl
  obtain ⟨vs, H1, I1, r1, hz, q1⟩ := hh
  refine ⟨I1.kIn, ?_⟩
  show wpAny _ _ (call (.ref C) us) _ _ _
  obtain ⟨nm, q, N, bs, bm, hdct, sn, sub, ab, col, dd, k0, k1, k2, k3, k5, hC, hbm⟩ := PySem.W.excInit_of I1.kIn T.cls
  obtain ⟨hp, g, dr, tk, os⟩ := s1
  have hsz : hp.objs.size ≤ hp.objs.size + 1 := Nat.le_succ _
  have hn : H1 (hp.objs.size + 1) = none := I1.hok.fresh hsz
  have hq := q1 (hp.objs.size + 1) hn
  rw [List.append_nil] at hq
  have kk : ∀ b o, hp.get? b = some o → ((hp.push (PySem.W.kdv_tup us)).push (PySem.HandSPX.excO C hp.objs.size)).get? b = some o := fun b o e => Heap.get?_push_of_some _ (Heap.get?_push_of_some _ e)
  have hget : ((hp.push (PySem.W.kdv_tup us)).push (PySem.HandSPX.excO C hp.objs.size)).get? (hp.objs.size + 1) = some (PySem.HandSPX.excO C hp.objs.size) := by heap_get
  have I2 := I1.laid (t' := tk) (a := hp.objs.size + 1) (o := exo (hp.objs.size + 1) C none) (h' := (hp.push (PySem.W.kdv_tup us)).push (PySem.HandSPX.excO C hp.objs.size)) kk hsz (exo_ok hget)
  have r2 : Vals (V.ref (hp.objs.size + 1) :: vs) (Value.ref (hp.objs.size + 1) :: us) := .cons rfl r1
  have hl : (Value.ref (hp.objs.size + 1) :: us ++ []).length = ps.length := by
    have e := r2.length
    rw [F1.len _ _ _ _ hq] at e
    rw [List.append_nil]
    exact e.symm
  have hus : us.length ≤ sizeLine := by
    rw [← Paired.length r1, sizeLine_eq]
    omega
  have b2 := hb _ (Value.ref (hp.objs.size + 1) :: us) I2.kIn hl
  rw [List.append_nil] at b2
  refine wpAny_call (PySem.HandSPX.call_own FB hbm hC (PySem.W.looks_findIn I1.kIn iC) (fun self => PySem.W.bind_fn I1.kIn self tI) hus
    (codeAny_mono (F1.run _ X.stack _ _ ⟨Value.ref (hp.objs.size + 1) :: us, []⟩ (Value.ref (hp.objs.size + 1) :: us) _ _ (fun _ _ _ => False) (hr.make C us []) (I2.env0.make C us []) b2 r2 hq) fun r s' hq' => ?_))
  cases r with
  | error er => exact hx pins σ _ _ er s' I2 hq'
  | ok fl =>
    cases fl with
    | ret u =>
      obtain ⟨v, H2, os2, bare2, un2, hok2, rv, ev, d, fs, ea, ed, hd1, q2⟩ := hq'
      subst ev
      obtain ⟨h2, g2, d2, t2, os'⟩ := s'
      obtain ⟨t0, G, J, kG, ge, hoe, na⟩ := mk_end0 (d2 := d2) (t2 := t2) I1 hsz kk un2 hok2 os2 bare2 ea ed hd1
      refine ⟨rv, hp.objs.size + 1, _, _, ⟨G, g2, d2, t2, os'⟩, _, .ref C, some d, rfl, J, kG, ge, hoe, ⟨rfl, rfl, fun vs hv => ?_⟩, rfl, rfl, na, rfl, bare2, raises_own T.exC T.tyC, q2⟩
      cases hv
      rfl
    | next => exact False.elim hq'
    | brk => exact False.elim hq'
    | cont => exact False.elim hq'
end
/-- an __init__ that stores its one argument under the name f -/
def spXi (C : Addr) (f : Str) : Sp := fun vs H Q _ => ∃ (a : Addr) (v : V), vs = [.ref a, v] ∧ H a = some (exo a C none) ∧ ∀ dx, H dx = none → dx ≠ a → Q .non (upd (upd H dx (exd dx [(f, v)])) a (exo a C (some dx)))
/-- C(e) for such a class -/
theorem tMkO_xi {C : Addr} {f : Str} {ta : TA} {σ : L2.St} {H : Hp} {Q : XK} (h : ta σ H fun vs H1 => ∃ v, vs = [v] ∧ ∀ d, H1 d = none → Q (.ref C) (some d) (upd H1 d (.xd [(f, v)])))
    (mono : ∀ R R' : List V → Hp → Prop, (∀ vs H1, R vs H1 → R' vs H1) → ta σ H R → ta σ H R') : tMkO C (spXi C f) [] ta σ H Q := by
  refine mono _ _ (fun vs H1 q => ?_) h
  obtain ⟨v, rfl, q⟩ := q
  refine ⟨by show 1 ≤ 1000; decide, fun a ha => ⟨a, v, rfl, upd_same, fun dx hdx ne => ⟨rfl, dx, [(f, v)], upd_same, by rw [upd_ne ne, upd_same], ?_, ?_⟩⟩⟩
  · rw [upd_ne ne] at hdx
    exact hdx
  · have e : upd (del (upd (upd (upd H1 a (exo a C none)) dx (exd dx [(f, v)])) a (exo a C (some dx))) a) dx (.xd [(f, v)]) = upd H1 dx (.xd [(f, v)]) := by
      funext b
      by_cases hb : b = dx
      · rw [hb, upd_same, upd_same]
      · rw [upd_ne hb, upd_ne hb]
        by_cases hba : b = a
        · rw [hba, del_same, ha]
        · rw [del_ne hba, upd_ne hba, upd_ne hb, upd_ne hba]
    rw [e]
    rw [upd_ne ne] at hdx
    exact q dx hdx
end G
-- Xb
set_option Elab.async false
set_option linter.all false
set_option maxRecDepth 100000
set_option maxHeartbeats 4000000
/-! lambdas as values: their code objects (known by their one object), the tables of code objects, the making of one -/
namespace G
open PySem PySem.Spec PyProof.Rows L2 LamX NdefX
/-! ### code objects and tables -/
def CodeZ (o : Obj) (c : Addr) (q : Str) (P : Addr) : Prop := ∀ h : Heap, h.get? c = some o → h.CodeRec (.ref c) q ∧ PySem.W.CodeHd h c P
/-- the code object of the name q at c, its table at P -/
def CodeK (H : Hp) (c : Addr) (q : Str) (P : Addr) : Prop := ∃ o, H c = some (.frz o (.own 0)) ∧ CodeZ o c q P
theorem CodeK.at_ {X : Cx} {pins : List (Addr × Obj)} {σ : L2.St} {H : Hp} {s : Shared} {c P : Addr} {q : Str} (k : CodeK H c q P) (I : Inv X pins σ H s) : s.heap.CodeRec (.ref c) q ∧ PySem.W.CodeHd s.heap c P := by
  obtain ⟨o, h1, h2⟩ := k
  obtain ⟨e, _⟩ := I.hok c _ h1
  exact h2 _ e
theorem codeZ_of {h : Heap} {o : Obj} {c P : Addr} {q : Str} (e : h.get? c = some o) (r : h.CodeRec (.ref c) q) (d : PySem.W.CodeHd h c P) : CodeZ o c q P := by
  intro h' e'
  obtain ⟨c2, oc, vs, t, e2, hoc, hd, hv⟩ := r
  cases e2
  rw [e] at hoc
  cases hoc
  refine ⟨⟨_, _, vs, t, rfl, e', hd, hv⟩, ?_⟩
  obtain ⟨o1, vs1, file, tf, flags, tg, inF, text, tt, e1, r1⟩ := d
  rw [e] at e1
  cases e1
  exact ⟨_, vs1, file, tf, flags, tg, inF, text, tt, e', r1⟩
/-- the table at P: each code object that it tells bears the name q, and φ of its own table -/
def Tab1 (H : Hp) (P : Addr) (q : Str) (φ : Addr → Prop) : Prop :=
  ∃ ps : Array Value, H P = some (.tbl ps) ∧ TriplesOk ps.toList ∧ ∀ (pos : Pos) (cv : Value), codeAmong pos ps.toList = some cv → ∃ c P', cv = .ref c ∧ CodeK H c q P' ∧ φ P'
theorem Tab1.nil {H : Hp} {P : Addr} {q : Str} {φ : Addr → Prop} (h : H P = some (.tbl #[])) : Tab1 H P q φ := ⟨#[], h, True.intro, fun pos cv hc => by
  have z : codeAmong pos [] = some cv := hc
  simp [codeAmong] at z⟩
/-- what the tables and the code objects are stays -/
def Ext0 (H H' : Hp) : Prop := (∀ c o, H c = some (.frz o (.own 0)) → H' c = some (.frz o (.own 0))) ∧ ∀ P ps, H P = some (.tbl ps) → H' P = some (.tbl ps)
theorem CodeK.ext {H H' : Hp} {c P : Addr} {q : Str} (k : CodeK H c q P) (e : ∀ c o, H c = some (.frz o (.own 0)) → H' c = some (.frz o (.own 0))) : CodeK H' c q P := by
  obtain ⟨o, h1, h2⟩ := k
  exact ⟨o, e _ _ h1, h2⟩
theorem Tab1.ext {H H' : Hp} {P : Addr} {q : Str} {φ ψ : Addr → Prop} (t : Tab1 H P q φ) (e : ∀ c o, H c = some (.frz o (.own 0)) → H' c = some (.frz o (.own 0))) (hP : H' P = H P) (hφ : ∀ P', φ P' → ψ P') : Tab1 H' P q ψ := by
  obtain ⟨ps, h1, h2, h3⟩ := t
  refine ⟨ps, by rw [hP, h1], h2, fun pos cv hc => ?_⟩
  obtain ⟨c, P', e1, e2, e3⟩ := h3 pos cv hc
  exact ⟨c, P', e1, e2.ext e, hφ _ e3⟩
/-- the tables: of _law_turn at PT, of _law_tried at PR, of the lambdas within the latter -/
structure TInv (PT PR : Addr) (q1 q2 q3 : Str) (H : Hp) : Prop where
  t : Tab1 H PT q1 fun P => P ≠ PT ∧ P ≠ PR
  r : Tab1 H PR q2 fun P => P ≠ PT ∧ P ≠ PR ∧ Tab1 H P q3 fun _ => True
theorem TInv.ext {PT PR : Addr} {q1 q2 q3 : Str} {H H' : Hp} (T : TInv PT PR q1 q2 q3 H) (e : Ext0 H H') : TInv PT PR q1 q2 q3 H' := by
  have hp : ∀ {P q φ}, Tab1 H P q φ → H' P = H P := fun {P q φ} ⟨ps, h, _⟩ => by rw [h, e.2 _ _ h]
  exact ⟨T.t.ext e.1 (hp T.t) fun _ z => z, T.r.ext e.1 (hp T.r) fun P ⟨a, b, c⟩ => ⟨a, b, c.ext e.1 (hp c) fun _ z => z⟩⟩
/-! ### a table grows -/
section
variable {H : Hp} {P c' P' : Addr} {o : Obj} {ps more : Array Value}
/-- the heap behind: the table at P longer, the code object and its own table new -/
abbrev grown (H : Hp) (P c' P' : Addr) (o : Obj) (ps : Array Value) : Hp := upd (upd (upd H P (.tbl ps)) P' (.tbl #[])) c' (.frz o (.own 0))
theorem grown_at (hP : H P = some (.tbl ps)) (nC : H c' = none) (nT : H P' = none) (ne : P' ≠ c') :
    grown H P c' P' o more P = some (.tbl more) ∧ grown H P c' P' o more P' = some (.tbl #[]) ∧ grown H P c' P' o more c' = some (.frz o (.own 0)) ∧ ∀ b, b ≠ P → b ≠ P' → b ≠ c' → grown H P c' P' o more b = H b := by
  refine ⟨?_, ?_, upd_same, fun b h1 h2 h3 => ?_⟩ <;> unfold grown
  · rw [upd_ne (ne_of_none hP nC), upd_ne (ne_of_none hP nT), upd_same]
  · rw [upd_ne ne, upd_same]
  · rw [upd_ne h3, upd_ne h2, upd_ne h1]
theorem grown_keep (hP : H P = some (.tbl ps)) (nC : H c' = none) (nT : H P' = none) (ne : P' ≠ c') {b : Addr} {u : HO} (e : H b = some u) (n : ∀ q, u ≠ .tbl q) : grown H P c' P' o more b = some u := by
  rw [(grown_at hP nC nT ne).2.2.2 b (fun z => by rw [z, hP] at e; exact n ps (Option.some.inj e).symm) (ne_of_none e nT) (ne_of_none e nC)]
  exact e
theorem grown_tab {Q : Addr} {q : Str} {φ ψ : Addr → Prop} (hP : H P = some (.tbl ps)) (nC : H c' = none) (nT : H P' = none) (ne : P' ≠ c') (t : Tab1 H Q q φ) (hQ : Q ≠ P) (hφ : ∀ P', φ P' → ψ P') : Tab1 (grown H P c' P' o more) Q q ψ := by
  obtain ⟨qs, h1, h2, h3⟩ := id t
  refine t.ext (fun c o e => grown_keep hP nC nT ne e (fun q z => by cases z)) ?_ hφ
  rw [(grown_at hP nC nT ne).2.2.2 Q hQ (ne_of_none h1 nT) (ne_of_none h1 nC)]
theorem grown_own {q : Str} {φ ψ : Addr → Prop} {pos : Pos} (hP : H P = some (.tbl ps)) (nC : H c' = none) (nT : H P' = none) (ne : P' ≠ c') (t : Tab1 H P q φ) (z : CodeZ o c' q P') (hφ : ∀ P', φ P' → ψ P') (h' : ψ P') :
    Tab1 (grown H P c' P' o (ps ++ #[rawInt pos.line, rawInt pos.col, .ref c'])) P q ψ := by
  obtain ⟨ps', h1, h2, h3⟩ := id t
  rw [hP] at h1
  cases h1
  have eL : (ps ++ #[rawInt pos.line, rawInt pos.col, .ref c']).toList = ps.toList ++ [rawInt pos.line, rawInt pos.col, .ref c'] := by simp
  refine ⟨_, (grown_at hP nC nT ne).1, by rw [eL]; exact PySem.TriplesOk_snoc _ _ _ _ h2, fun p' cv hcv => ?_⟩
  rw [eL] at hcv
  rcases among_app _ h2 hcv with y | y
  · obtain ⟨c, P2, e1, e2, e3⟩ := h3 p' cv y
    exact ⟨c, P2, e1, e2.ext fun c o e => grown_keep hP nC nT ne e (fun q z => by cases z), hφ _ e3⟩
  · exact ⟨c', P', y, ⟨o, upd_same, z⟩, h'⟩
end
section
variable {X : Cx} {pins : List (Addr × Obj)} {σ : L2.St} {H : Hp} {s : Shared}
theorem inv_grown {P c' P' : Addr} {o : Obj} {ps more : Array Value} {h' : Heap} {t' : Nat} (I : Inv X pins σ H s) (hP : H P = some (.tbl ps)) (k : ∀ b o, b ≠ P → s.heap.get? b = some o → h'.get? b = some o)
    (hm : h'.get? P = some { cls := .none, data := .fields (ps ++ more) }) (hc : s.heap.objs.size ≤ c') (hT : s.heap.objs.size ≤ P') (ne : P' ≠ c') (ho : h'.get? c' = some o) (hn : h'.get? P' = some { cls := .none, data := .fields #[] }) :
    Inv X pins σ (grown H P c' P' o (ps ++ more)) { s with heap := h', toks := t' } := by
  have nC : H c' = none := I.hok.fresh hc
  have nT : H P' = none := I.hok.fresh hT
  obtain ⟨a1, a2, a3, a4⟩ := grown_at (o := o) (more := ps ++ more) hP nC nT ne
  have nP : ∀ b u, H b = some u → (∀ q, u ≠ .tbl q) → b ≠ P := fun b u e q z => by
    rw [z, hP] at e
    exact q ps (Option.some.inj e).symm
  have nN : ∀ b, H b = none → b ≠ P := fun b e z => by
    rw [z, hP] at e
    cases e
  have lt' : ∀ b o, s.heap.get? b = some o → b ≠ c' ∧ b ≠ P' := fun b o e => by
    have q := Heap.lt_size e
    exact ⟨fun z => by rw [z] at q; exact Nat.lt_irrefl _ (Nat.lt_of_lt_of_le q hc), fun z => by rw [z] at q; exact Nat.lt_irrefl _ (Nat.lt_of_lt_of_le q hT)⟩
  have kp : ∀ b u, H b = some u → (∀ q, u ≠ .tbl q) → grown H P c' P' o (ps ++ more) b = some u := fun b u e n => grown_keep hP nC nT ne e n
  refine I.step (g' := s.gens) (d' := s.drawn) (ch := []) (fun b hb => absurd hb (by simp)) (fun b o _ _ _ e n => k b o (nN b n) e) (fun b o _ _ _ e n => ⟨o.slots, k b o (nN b n) e⟩)
    (fun b o _ e n => by rw [a4 b (nN b n) (lt' b o e).2 (lt' b o e).1]; exact n) (fun b o _ e => ?_) (fun b xs e => kp b _ e (fun q z => by cases z)) (fun b o u e => kp b _ e (fun q z => by cases z)) (fun b qs e => ?_) (fun m hn => ?_) (fun b u e => ?_) I.bare
  · by_cases hb : b = P
    · rw [hb]
      exact ⟨_, hm⟩
    · exact ⟨o, k b o hb e⟩
  · by_cases hb : b = P
    · rw [hb, hP] at e
      cases e
      rw [hb, a1]
      exact ⟨more, rfl⟩
    · rw [a4 b hb (ne_of_none e nT) (ne_of_none e nC), e]
      exact ⟨#[], by simp⟩
  · obtain ⟨ob, es, ep, ho, r⟩ := hn
    exact ⟨ob, es, ep, k _ ob (nN _ I.free) ho, r⟩
  · by_cases hb : b = c'
    · rw [hb, a3] at e
      cases e
      rw [hb]
      exact ⟨ho, _, ho⟩
    · by_cases hb2 : b = P'
      · rw [hb2, a2] at e
        cases e
        rw [hb2]
        exact hn
      · by_cases hb3 : b = P
        · rw [hb3, a1] at e
          cases e
          rw [hb3]
          exact hm
        · rw [a4 b hb3 hb2 hb] at e
          refine (I.hok b u e).stay (fun d v hd q => k d v ?_ q) (fun d q => kp d _ q (fun q z => by cases z)) fun d xs q => kp d _ q (fun q z => by cases z)
          rcases hd with z | z
          · rw [z]
            exact hb3
          · exact nP d _ z (fun q z => by cases z)
end
/-! ### the making of a lambda -/
section
variable {M : Model} {A : Around} {E : Value → Shared → Prop} {s : Shared} {name qual : Str} {params : Arguments} {body : Expr} {scope : Scope} {env : Env} {c P : Addr} {ps : Array Value} {pos : Pos} {firstLine : Nat} {mg : Str → Option Value}
  {clos : List (Str × Addr)} {Q : Value → Shared → Prop}
theorem makeTailX (hcl : closureFor scope env = pure clos) (hge0 : env.globals = mainGlobals) (hg : s.heap.Ns mainGlobals mg) (hcode : env.code = .ref c) (C : PySem.W.CodeHd s.heap c P) (hP : s.heap.get? P = some (PySem.W.tabObj ps)) (ht : TriplesOk ps.toList)
    (hnf : codeAmong pos ps.toList = none) (hgP : mainGlobals ≠ P) (hb : s.heap.BuiltinsAt mg P)
    (h : ∀ c' P' ctv h' tk, Heap.ExtBut P s.heap h' → s.heap.objs.size ≤ c' → c' < h'.objs.size → s.heap.objs.size ≤ P' → h'.CodeRec (.ref c') qual → PySem.W.CodeHd h' c' P' → h'.get? P' = some (PySem.W.tabObj #[]) → h'.get? P = some (PySem.W.tabObj (ps ++ #[rawInt pos.line, rawInt pos.col, .ref c'])) →
      Q (.ref h'.objs.size) { s with heap := h'.push (PySem.W.kla_obj name qual params body scope clos ((mg "__name__").getD .none) c' ctv), toks := tk }) :
    wpAny M A (makeTail name qual params (.expr body) scope env .none .none none pos firstLine) Q E s := by
  obtain ⟨bm, ob, hbm, hne0, _, hneP, hbo, hcls, hdict, hdata⟩ := hb
  unfold makeTail
  rw [hcl, hge0]
  refine wpAny_bind (wpAny_pure ?_)
  cases clos with
  | nil =>
    simp only [List.isEmpty_nil, if_true]
    refine wpAny_bind (wpAny_pure ?_)
    refine wpAny_bind (wpAny_functionCodeX hcode (C.code hP ht) (C.tab hP) hnf fun c' h' tk hx hge hlt _ hrec htb ⟨P', hP1, hP2, hP3⟩ => ?_)
    have hg' := hg.extBut hx hgP
    refine wpAny_bind (wpAny_builtinsFor hg' hbm hne0 (hx _ _ hneP hbo) hcls hdict hdata ?_)
    refine wpAny_bind (wpAny_nsGet hg' ?_)
    exact wpAny_bind (wpAny_pure (wpAny_newObj_type (h c' P' .none h' tk hx hge hlt hP1 hrec (PySem.W.CodeHd.of hP2 hP3) hP3.2 htb.2) (by size_fits)))
  | cons q r =>
    simp only [List.isEmpty_cons, Bool.false_eq_true, if_false]
    refine wpAny_bind (wpAny_newTextTuple ?_)
    refine wpAny_bind (wpAny_functionCodeX hcode ((C.keeps fun b o e => Heap.get?_push_of_some _ e).code (Heap.get?_push_of_some _ hP) ht) ((C.keeps fun b o e => Heap.get?_push_of_some _ e).tab (Heap.get?_push_of_some _ hP)) hnf fun c' h' tk hx hge hlt _ hrec htb ⟨P', hP1, hP2, hP3⟩ => ?_)
    have hg' := (hg.push _).extBut hx hgP
    have hx' : Heap.ExtBut P s.heap h' := fun b o hb' e => hx b o hb' (Heap.get?_push_of_some _ e)
    have hs1 : ∀ n : Nat, ∀ oT : Obj, (s.heap.push oT).objs.size ≤ n → s.heap.objs.size ≤ n := fun n oT q => by rw [Heap.size_push] at q; omega
    have hge' : s.heap.objs.size ≤ c' := hs1 _ _ hge
    refine wpAny_bind (wpAny_builtinsFor hg' hbm hne0 (hx' _ _ hneP hbo) hcls hdict hdata ?_)
    refine wpAny_bind (wpAny_nsGet hg' ?_)
    exact wpAny_bind (wpAny_pure (wpAny_newObj_type (h c' P' _ h' tk hx' hge' hlt (hs1 _ _ hP1) hrec (PySem.W.CodeHd.of hP2 hP3) hP3.2 htb.2) (by size_fits)))
end
abbrev LamO (qual : Str) (params : Arguments) (body : Expr) (scope : Scope) (cl : List (Str × Addr)) (pm : Value) (c' : Addr) (ctv : Value) : Obj := PySem.W.kla_obj "<lambda>" qual params body scope cl pm c' ctv
/-- what the maker's table, at P, is for the maker's code object c -/
structure Mak (X : Cx) (H : Hp) (s : Shared) (c P : Addr) (q : Str) (φ : Addr → Prop) : Prop where
  code : PySem.W.CodeHd s.heap c P
  tab : Tab1 H P q φ
theorem BltAt.of {X : Cx} {pins : List (Addr × Obj)} {σ : L2.St} {H : Hp} {s : Shared} {P P0 : Addr} {ps : Array Value} (I : Inv X pins σ H s) (b : X.base.BuiltinsAt X.mg P0) (hP : H P = some (.tbl ps)) : s.heap.BuiltinsAt X.mg P ∧ mainGlobals ≠ P := by
  obtain ⟨bm, o, h1, h2, h3, h4, h5, h6⟩ := b
  obtain ⟨k1, k2⟩ := I.bs _ _ h5
  refine ⟨⟨bm, o, h1, h2, h3, fun z => ?_, k1, h6⟩, fun z => ?_⟩
  · rw [z, hP] at k2
    cases k2
  · obtain ⟨og, es, ep, e, _⟩ := I.mod.glob
    obtain ⟨_, k⟩ := I.bs _ _ e
    rw [z, hP] at k
    cases k
section
variable {X : Cx} {pins : List (Addr × Obj)} {σ : L2.St} {H : Hp} {s : Shared}
/-- a lambda is made: its code object is new (the tables grow), or found in the table -/
theorem lam_mk {c P P0 : Addr} {φ : Addr → Prop} {params : Arguments} {body : Expr} {scope : Scope} {pos : Pos} {E : Value → Shared → Prop} {Q : Value → Shared → Prop} (I : Inv X pins σ H s) (hb : X.base.BuiltinsAt X.mg P0) (hcode : X.env.code = .ref c)
    (hC : PySem.W.CodeHd s.heap c P) (hT : Tab1 H P (X.env.qual ++ "<lambda>") φ) (hdef : defaultsOf params X.env = ([], [])) (hfree : ∀ y ∈ scope.names, y.2 = .free → ∃ c, X.env.cells.lookup y.1 = some c)
    (h : ∀ (f c' P' : Addr) (pm ctv : Value) (H1 : Hp) (s' : Shared), Inv X pins σ H1 s' →
      ((H1 = H ∧ φ P' ∧ CodeK H c' (X.env.qual ++ "<lambda>") P') ∨ ∃ o ps, H P = some (.tbl ps) ∧ H c' = none ∧ H P' = none ∧ P' ≠ c' ∧ CodeZ o c' (X.env.qual ++ "<lambda>") P' ∧ H1 = grown H P c' P' o (ps ++ #[rawInt pos.line, rawInt pos.col, .ref c'])) →
      s'.heap.get? f = some (LamO (X.env.qual ++ "<lambda>") params body scope (cloFrom X.env.cells scope.names []) pm c' ctv) → H1 f = none → f ∉ frs X.stack → Q (.ref f) s') :
    wpAny (model X.prog X.w) X.A (eval (.Lambda params body scope pos) X.env) Q E s := by
  obtain ⟨ps, hP, ht, ha⟩ := id hT
  obtain ⟨bP, gP⟩ := BltAt.of I hb hP
  refine PySem.W.kla_eval hdef ?_
  have hP' : s.heap.get? P = some { cls := .none, data := .fields ps } := I.hok P _ hP
  have nofr : ∀ f, s.heap.objs.size ≤ f → f ∉ frs X.stack := fun f hf z => by
    rcases List.mem_cons.mp (I.stkSub _ z) with e | e
    · have h1 := I.lt
      rw [← e] at h1
      exact Nat.lt_irrefl _ (Nat.lt_of_lt_of_le h1 hf)
    · exact I.nofs hf e
  cases hc : codeAmong pos ps.toList with
  | none =>
    rw [makeFunction_eq]
    simp only [List.zip_nil_right, List.filterMap_nil, List.isEmpty_nil, if_true, pure_bind]
    refine makeTailX (mg := X.mg) (c := c) (P := P) (ps := ps) (closure_ok hfree) I.ok.glob (I.mod.glob.keeps I.bk) hcode hC hP' ht hc gP bP fun c' P' ctv h' tk hx hge hlt hgP' hrec hhd hP0 htb => ?_
    have hsz : s.heap.objs.size ≤ h'.objs.size := Nat.le_trans hge (Nat.le_of_lt hlt)
    have nC : H c' = none := I.hok.fresh hge
    have nT : H P' = none := I.hok.fresh hgP'
    obtain ⟨oc, vs, _, _, _, _, _, _, _, hoc, hcls, _⟩ := id hhd
    have ne : P' ≠ c' := fun z => by
      rw [z, hoc] at hP0
      rw [Option.some.inj hP0] at hcls
      cases hcls
    have I1 := inv_grown (t' := tk) (o := oc) (more := #[rawInt pos.line, rawInt pos.col, .ref c']) (h' := h'.push (LamO (X.env.qual ++ "<lambda>") params body scope (cloFrom X.env.cells scope.names []) ((X.mg "__name__").getD .none) c' ctv)) I hP
      (fun b o hb e => Heap.get?_push_of_some _ (hx b o hb e)) (Heap.get?_push_of_some _ htb) hge hgP' ne (Heap.get?_push_of_some _ hoc) (Heap.get?_push_of_some _ hP0)
    refine h h'.objs.size c' P' ((X.mg "__name__").getD .none) ctv _ _ I1 (.inr ⟨oc, ps, hP, nC, nT, ne, codeZ_of hoc hrec hhd, rfl⟩) (Heap.get?_push_size _ rfl) ?_ (nofr _ hsz)
    have n1 : h'.objs.size ≠ c' := Nat.ne_of_gt hlt
    have n2 : h'.objs.size ≠ P := Nat.ne_of_gt (Nat.lt_of_lt_of_le (Heap.lt_size hP') hsz)
    have n3 : h'.objs.size ≠ P' := Nat.ne_of_gt (Heap.lt_size hP0)
    rw [(grown_at hP nC nT ne).2.2.2 _ n2 n3 n1]
    exact I.hok.fresh hsz
  | some cv =>
    obtain ⟨c', P', e, hco, hf⟩ := ha pos cv hc
    subst e
    refine PySem.W.kla_makeFunctionHit (mg := X.mg) (c := c) (P := P) (ps := ps) (closure_ok hfree) I.ok.glob (I.mod.glob.keeps I.bk) hcode hC hP' ht hc bP fun ctv h' tk hx hsz => ?_
    have I1 : Inv X pins σ H { s with heap := h'.push (LamO (X.env.qual ++ "<lambda>") params body scope (cloFrom X.env.cells scope.names []) ((X.mg "__name__").getD .none) c' ctv), toks := tk } := I.kept fun b o e => Heap.get?_push_of_some _ (hx b o e)
    exact h h'.objs.size c' P' ((X.mg "__name__").getD .none) ctv H _ I1 (.inl ⟨rfl, hf, hco⟩) (Heap.get?_push_size _ rfl) (I.hok.fresh hsz) (nofr _ hsz)
end
/-- all but the tables stays -/
theorem grown_extN {H : Hp} {P c' P' : Addr} {o : Obj} {ps more : Array Value} (hP : H P = some (.tbl ps)) (nC : H c' = none) (nT : H P' = none) (ne : P' ≠ c') : ExtN H (grown H P c' P' o more) := fun b u e n => grown_keep hP nC nT ne e n
end G
-- Xc
set_option Elab.async false
set_option linter.all false
set_option maxRecDepth 100000
set_option maxHeartbeats 4000000
/-! lambdas as values: the calling of one -/
namespace G
open PySem PySem.Spec PyProof.Rows L2 LamX NdefX
/-- the words of a lambda -/
structure Lm where
  qual : Str
  params : Arguments
  body : Expr
  scope : Scope
abbrev Lm.nf (l : Lm) (cl : List (Str × Addr)) (c : Addr) : NF := ⟨"<lambda>", l.qual, l.params, [], l.scope, cl, c⟩
/-- a lambda's object at f: its cells hold ws -/
structure LamAt (s : Shared) (H : Hp) (stack : List Env) (f c P : Addr) (l : Lm) (cl : List (Str × Addr)) (fr : List Str) (ws : List (Option V)) : Prop where
  obj : ∃ pm ctv, s.heap.get? f = some (LamO l.qual l.params l.body l.scope cl pm c ctv)
  nn : H f = none
  nf : f ∉ frs stack
  code : CodeK H c l.qual P
  cells : CellsAt cl fr ws s.heap H
  cnf : ∀ y a, cl.lookup y = some a → a ∉ frs stack
theorem LamAt.later {Z : Cx} {pins : List (Addr × Obj)} {σ : L2.St} {H : Hp} {s : Shared} {f c P : Addr} {l : Lm} {cl : List (Str × Addr)} {fr : List Str} {ws : List (Option V)} (L : LamAt Z.s_0 Z.H_0 Z.outer f c P l cl fr ws) (hex : Z.ex = []) (I : Inv Z pins σ H s) :
    LamAt s H Z.stack f c P l cl fr ws := by
  have old : ∀ a o, Z.s_0.heap.get? a = some o → a ∉ frs Z.outer → a ∉ frs Z.stack := fun a o e n z => by
    rcases List.mem_cons.mp (I.stkSub a z) with e1 | e1
    · have h1 := I.ok.above
      rw [← e1] at h1
      exact Nat.lt_irrefl _ (Nat.lt_of_lt_of_le (Heap.lt_size e) h1)
    · exact n e1
  have nx : ∀ a : Addr, a ∉ Z.ex := fun a z => by
    rw [hex] at z
    cases z
  obtain ⟨pm, ctv, ho⟩ := L.obj
  refine ⟨⟨pm, ctv, I.base.keep f _ ho L.nn L.nf (nx f)⟩, I.base.free f _ ho L.nn (nx f), old f _ ho L.nf, L.code.ext fun c o e => I.base.frzs c o _ e, ?_, fun y a e => ?_⟩
  · exact L.cells.later (fun y c e => L.cnf y c e) (fun y c _ => nx c) I
  · obtain ⟨_, v, o, ho, _⟩ := L.cells.all y a e
    exact old a o ho (L.cnf y a e)
section
variable {CX : CXT} {P : Program} {w : World} {K : PySem.W.Frag} {mg : Str → Option Value} {base : Heap} {N ps fr : List Str} {l : Lm} {cl : List (Str × Addr)} {f c PP : Addr} {k : Nat}
/-- a lambda called, its body's promise told of the very state -/
theorem lam_run {A : Around} {outer : List Env} {s : Shared} {H : Hp} {us : List Value} {vs : List V} {ws : List (Option V)} {Q : VK} {E : XK} (L : LamAt s H outer f c PP l cl fr ws) (S : NScope N ps fr l.scope) (hb : ∀ (pm ctv : Value), bindArgs (PySem.W.kla_fn "<lambda>" l.qual l.params l.body l.scope cl pm (.ref c) ctv) ⟨us, []⟩ = pure (ps.zip us))
    (hr : Room (k + 1) A) (e0 : Env0 P w K mg base A outer s H) (r : Vals vs us) (hl : vs.length = ps.length)
    (hbody : Room k (A.deeper (envF (l.nf cl c) f s.heap.objs.size)) → ∃ t, PE (ncx CX P w K mg base N (l.nf cl c) f A outer s H E) l.body t ∧ t (startF N vs ws) H Q) :
    codeAny (model P w) A (.call (.ref f) ⟨us, []⟩) (CR CX outer P w H s Q E) s := by
  have lim : s.heap.NoLimit := e0.mod.nolimit.keeps fun b o e => (e0.bs b o e).1
  obtain ⟨pm, ctv, ho⟩ := L.obj
  have rec_ : s.heap.CodeRec (.ref c) l.qual := by
    obtain ⟨o, h1, h2⟩ := L.code
    obtain ⟨e, _⟩ := e0.hok c _ h1
    exact (h2 _ e).1
  refine PySem.W.kla_callFunE hr.depth ho rfl S.co S.gen rfl rec_ ?_
  rw [hb pm ctv]
  refine wpAny_pure (wpAny_newFunctionEnv S.nocell (fun ⟨n, _⟩ hy => S.par n (List.of_mem_zip hy).1) (fun h₁ hns hsb => ⟨lim.fresh _ hsb, ?_⟩) S.kind)
  show codeAny _ _ (.expr l.body (envF (l.nf cl c) f s.heap.objs.size)) _ _
  have kp : ∀ b o, s.heap.get? b = some o → h₁.get? b = some o := fun b o e => hsb.extBut b o (Nat.ne_of_lt (Heap.lt_size e)) (Heap.get?_push_of_some _ e)
  obtain ⟨t, ht, hq⟩ := hbody (hr.deeper _)
  have I : Inv (ncx CX P w K mg base N (l.nf cl c) f A outer s H E) [] (startF N vs ws) H { s with heap := h₁, toks := s.toks + (ps.zip us).length } := inv_startN S hr.hd e0 hl r L.cells hns kp
  refine PySem.W.kla_codeExpr (wpAny_mono (ht.run [] _ _ H Q I hq) (fun v s' hq => ?_) fun e s' hq => hq)
  obtain ⟨w', H', J', rv, q⟩ := hq
  exact ⟨w', H', J'.os, J'.bare, J'.base, J'.hok, rv, q⟩
end
section
variable {X : Cx} {pins : List (Addr × Obj)} {σ : L2.St} {H : Hp} {s : Shared}
/-- the cells of a def's own frame are no callers' frames -/
theorem cells_nofs (I : Inv X pins σ H s) (hfn : X.fn = fun _ => true) : ∀ y a, X.env.cells.lookup y = some a → a ∉ X.fs := fun y a e z => by
  obtain ⟨_, o, ho, _⟩ := I.ok.funs.mem z
  exact Nat.lt_irrefl _ (Nat.lt_of_lt_of_le (Heap.lt_size ho) (I.ok.cab y a (by rw [hfn]) e))
/-- just made -/
theorem LamAt.made {params : Arguments} {body : Expr} {scope : Scope} {fr : List Str} {js : List Nat} {pm ctv : Value} {f c P : Addr} (I : Inv X pins σ H s) (hcn : ∀ y a, X.env.cells.lookup y = some a → a ∉ X.fs) (ho : s.heap.get? f = some (LamO (X.env.qual ++ "<lambda>") params body scope (cloFrom X.env.cells scope.names []) pm c ctv)) (hn : H f = none) (hf : f ∉ frs X.stack)
    (hk : CodeK H c (X.env.qual ++ "<lambda>") P) (cp : Caps X (cloFrom X.env.cells scope.names []) fr js) : LamAt s H X.stack f c P ⟨X.env.qual ++ "<lambda>", params, body, scope⟩ (cloFrom X.env.cells scope.names []) fr (js.map (slotAt σ)) := by
  refine ⟨⟨pm, ctv, ho⟩, hn, hf, hk, cells_of I cp, fun y a e z => ?_⟩
  rcases List.mem_cons.mp (I.stkSub a z) with e1 | e1
  · exact I.cne y a (cp.sub y a e) e1
  · exact hcn y a (cp.sub y a e) e1
/-- a local slot that holds a lambda, called: a(), the callee's frame entered at Z.s_0 -/
theorem pe_lam0 {Z : Cx} {CX : CXT} {f c PP : Addr} {l : Lm} {cl : List (Str × Addr)} {N fr : List Str} {ws : List (Option V)} {k i : Nat} {a : Str} {E : XK} {tb : TE} {p1 p2 : Pos} (hex : Z.ex = []) (L : LamAt Z.s_0 Z.H_0 Z.outer f c PP l cl fr ws) (S : NScope N [] fr l.scope)
    (hb : ∀ (pm ctv : Value), bindArgs (PySem.W.kla_fn "<lambda>" l.qual l.params l.body l.scope cl pm (.ref c) ctv) ⟨[], []⟩ = pure [])
    (hr : Room (k + 1) Z.A) (hx : Passes CX Z E) (hN : Z.N[i]? = some a) (hv : Vis Z.env.scope a)
    (hbody : ∀ (s : Shared) (H : Hp), LamAt s H Z.stack f c PP l cl fr ws → Room k (Z.A.deeper (envF (l.nf cl c) f s.heap.objs.size)) → PE (ncx CX Z.prog Z.w Z.K Z.mg Z.base N (l.nf cl c) f Z.A Z.stack s H E) l.body tb)
    (hd : (a == ("__debug__" : Str)) = false := by decide) (hcd : (a == ("__classdict__" : Str)) = false := by decide) :
    PE Z (.Call (.Name a p1) [] [] p2) (fun σ H Q => σ[i]? = some (some (.ref f)) ∧ tb (startF N [] ws) H Q) := by
  refine ⟨fun pins s σ H Q I h => ?_⟩
  obtain ⟨hs, h⟩ := h
  refine wpAny_Call_Name_kw (thn ((pe_var (pos := p1) (i := i) hN hv hd hcd).run pins s σ H (fun v H1 => v = .ref f ∧ H1 = H) I ⟨.ref f, hs, rfl, rfl⟩) fun u s1 ⟨v, H1, I1, r1, q1⟩ => ?_)
  obtain ⟨ev, eH⟩ := q1
  subst ev
  rw [eH] at I1
  obtain rfl : u = Value.ref f := r1
  have L1 := L.later hex I1
  obtain ⟨pm, ctv, ho⟩ := id L1.obj
  refine PySem.W.callWith_F0 ⟨_, _, _, _, ho⟩ ?_
  refine wpAny_call (codeAny_mono (lam_run (Q := Q) (us := []) (vs := []) L1 S hb hr I1.env0 .nil rfl fun hr' => ⟨tb, hbody s1 H L1 hr', h⟩) fun r s' hq => ?_)
  cases r with
  | error e => exact hx pins σ H s1 e s' I1 hq
  | ok fl =>
    cases fl with
    | ret u => exact I1.after hq
    | next => exact False.elim hq
    | brk => exact False.elim hq
    | cont => exact False.elim hq
/-- a(e, ..) -/
theorem pe_lamN {Z : Cx} {CX : CXT} {f c PP : Addr} {l : Lm} {cl : List (Str × Addr)} {N ps fr : List Str} {ws : List (Option V)} {k i : Nat} {a : Str} {E : XK} {tb : TE} {ta : TA} {e : Expr} {es : List Expr} {p1 p2 : Pos} (hex : Z.ex = []) (L : LamAt Z.s_0 Z.H_0 Z.outer f c PP l cl fr ws) (S : NScope N ps fr l.scope)
    (hb : ∀ (pm ctv : Value) (us : List Value), us.length = ps.length → bindArgs (PySem.W.kla_fn "<lambda>" l.qual l.params l.body l.scope cl pm (.ref c) ctv) ⟨us, []⟩ = pure (ps.zip us))
    (hr : Room (k + 1) Z.A) (hx : Passes CX Z E) (hN : Z.N[i]? = some a) (hv : Vis Z.env.scope a) (ha : PA Z (e :: es) ta)
    (hbody : ∀ (s : Shared) (H : Hp), LamAt s H Z.stack f c PP l cl fr ws → Room k (Z.A.deeper (envF (l.nf cl c) f s.heap.objs.size)) → PE (ncx CX Z.prog Z.w Z.K Z.mg Z.base N (l.nf cl c) f Z.A Z.stack s H E) l.body tb)
    (hd : (a == ("__debug__" : Str)) = false := by decide) (hcd : (a == ("__classdict__" : Str)) = false := by decide)
    (he : starEach (e :: es) Z.env = (false, eval e Z.env) :: starEach es Z.env := by rfl) (hpl : (backTo p2 (starEach es Z.env)).any (·.1) = false := by rfl) :
    PE Z (.Call (.Name a p1) (e :: es) [] p2) (fun σ H Q => σ[i]? = some (some (.ref f)) ∧ ta σ H fun vs H1 => vs.length = ps.length ∧ tb (startF N vs ws) H1 Q) := by
  refine ⟨fun pins s σ H Q I h => ?_⟩
  obtain ⟨hs, h⟩ := h
  refine wpAny_Call_Name_kw (thn ((pe_var (pos := p1) (i := i) hN hv hd hcd).run pins s σ H (fun v H1 => v = .ref f ∧ H1 = H) I ⟨.ref f, hs, rfl, rfl⟩) fun u s1 ⟨v, H1, I1, r1, q1⟩ => ?_)
  obtain ⟨ev, eH⟩ := q1
  subst ev
  rw [eH] at I1
  obtain rfl : u = Value.ref f := r1
  obtain ⟨pm, ctv, ho⟩ := (L.later hex I1).obj
  refine PySem.W.callWith_F (first := []) ⟨_, _, _, _, ho⟩ (thn (ha.run p2 pins s1 σ H _ I1 h) fun us s2 ⟨vs, H2, I2, r, hl, q⟩ => ?_) he hpl
  have L2' := L.later hex I2
  obtain ⟨pm, ctv, ho⟩ := id L2'.obj
  refine ⟨⟨_, _, _, _, ho⟩, ?_⟩
  show wpAny _ _ (call (.ref f) us) _ _ _
  refine wpAny_call (codeAny_mono (lam_run (Q := Q) (us := us) (vs := vs) L2' S (fun pm ctv => hb pm ctv us (by rw [← r.length]; exact hl)) hr I2.env0 r hl fun hr' => ⟨tb, hbody s2 H2 L2' hr', q⟩) fun r s' hq => ?_)
  cases r with
  | error e => exact hx pins σ H2 s2 e s' I2 hq
  | ok fl =>
    cases fl with
    | ret u => exact I2.after hq
    | next => exact False.elim hq
    | brk => exact False.elim hq
    | cont => exact False.elim hq
end
end G
-- Xd
set_option Elab.async false
set_option linter.all false
set_option maxRecDepth 100000
set_option maxHeartbeats 4000000
/-! with e as n: body, for an own class; the body may raise (exceptions whose context is None), __exit__ returns None -/
namespace G
open PySem PySem.Spec PyProof.Rows L2 LamX NdefX
section
variable {K : PySem.W.Frag} {prog : Program} {w : World} {A : Around} {E : Value → Shared → Prop} {s : Shared} {env : Env} {x C fe fx : Addr} {ox : Obj} {od : Option Obj} {pos : Pos}
/-- __exit__ called for the exception, then on it goes -/
def kwRest (env : Env) (fx x e : Value) : Sem Flow := do
  let r ← withItem.marked e (.call fx ⟨[x] ++ [← typeOf e, e, ← tracebackOf e], []⟩)
  let r ← pure r
  let swallow ← match r with
    | .none => pure false
    | .bool b => pure b
    | _ => do pure ((← withItem.marked e (.call (.type "bool") ⟨[r], []⟩)) == .bool true)
  if swallow then rule "with.exit-swallows"; setFlight e none; pure .next else PySem.passOn "with" e env
abbrev KwRaised (prog : Program) (w : World) (A : Around) (E : Value → Shared → Prop) (env : Env) (fx x : Value) (Q : Flow → Shared → Prop) (e : Value) (s : Shared) : Prop :=
  wpAny (model prog w) A (noteFrame e env) (fun _ s1 => wpAny (model prog w) A (setFlight e none) (fun _ s2 => wpAny (model prog w) A (kwRest env fx x e) Q E s2) E s1) E s
theorem kw_coreX {b : Value → Sem Unit} {bdy : Sem Flow} {Q : Flow → Shared → Prop} (X : K.In s.heap) (I : PySem.W.InstAt s.heap x ox C od) (he : PySem.W.findIn K (.ref C) "__enter__" = some (some (.ref fe))) (hfe : PySem.W.isFn K (.ref fe) = true) (hx : PySem.W.findIn K (.ref C) "__exit__" = some (some (.ref fx))) (hfx : PySem.W.isFn K (.ref fx) = true)
    (all : wpAny (model prog w) A (call (.ref fe) [.ref x]) (fun v s1 => wpAny (model prog w) A (b v) (fun _ s2 => wpAny (model prog w) A bdy (fun f s3 => wpAny (model prog w) A (call (.ref fx) [.ref x, .none, .none, .none]) (fun _ s4 => Q f s4) E s3) (KwRaised prog w A E env (.ref fx) (.ref x) Q) s2) (fun _ _ => False) s1) E s) :
    wpAny (model prog w) A (withItem false pos env (pure (.ref x)) (some b) bdy) Q E s :=
  by
  obtain ⟨cd, along, le⟩ := PySem.W.kw_along he
  obtain ⟨cd2, along2, lx⟩ := PySem.W.kw_along hx
  obtain rfl : cd = cd2 := Option.some.inj (along.symm.trans along2)
  obtain ⟨hp, gs, dr, tk, op⟩ := s
  have enter_ : PySem.W.Looks (model prog w) hp (specialOnItsLine (.ref x) "__enter__") (some (.ref fe), cd.mro) := PySem.W.kw_special X I along le
  have exit_ : PySem.W.Looks (model prog w) hp (specialOnItsLine (.ref x) "__exit__") (some (.ref fx), cd.mro) := PySem.W.kw_special X I along lx
  have bindE : PySem.W.Looks (model prog w) hp (bindSpecial (.ref fe) (.ref x)) (.ref fe, [.ref x]) := PySem.W.bind_fn X _ (eq_of_beq hfe)
  have bindX : PySem.W.Looks (model prog w) hp (bindSpecial (.ref fx) (.ref x)) (.ref fx, [.ref x]) := PySem.W.bind_fn X _ (eq_of_beq hfx)
  have goE : PySem.W.Looks (model prog w) hp (aMethodOfAnotherBuiltinTypeStops (.ref fe) cd.mro) () := PySem.W.Looks.of_pure rfl
  have goX : PySem.W.Looks (model prog w) hp (aMethodOfAnotherBuiltinTypeStops (.ref fx) cd.mro) () := PySem.W.Looks.of_pure rfl
  unfold withItem
  refine wpAny_bind (wpAny_pure (wpAny_bind (wpAny_standAt ?_)))
  simp only [if_false, Bool.false_eq_true]
  kw_lk
  refine wpAny_mono all ?_ (fun _ _ y => y)
  intro v s1 all1
  kw_lk
  refine wpAny_attempt (PySem.W.kw_held (wpAny_bind (m := b v) (wpAny_mono all1 ?_ fun _ _ y => y.elim)))
  intro _ s2 all2
  refine wpAny_mono all2 ?_ ?_
  · intro f s3 all3
    kw_lk
    refine wpAny_mono all3 ?_ (fun _ _ y => y)
    intro _ s4 done_
    kw_lk
    exact done_
  · intro e s3 raised
    exact wpAny_bind (wpAny_mono raised (fun _ s4 r1 => wpAny_bind (wpAny_mono r1 (fun _ s5 r2 => wpAny_bind (wpAny_standAt (wpAny_holding r2))) fun _ _ y => y)) fun _ _ y => y)
end

open L2H in
/-- what is wished of an exception of the body -/
def wWith (spXH : Sp) (x : V) (Wout : WX) : WX := fun cls d σ H => (∃ cv : V, RelV cv cls) ∧ ∀ c e t : V, spXH [x, c, e, t] H (fun r H' => r = .non ∧ Wout cls d σ H') fun _ _ _ => False
def tWithN (C : Addr) (spE spX spXH : Sp) (tc : TE) (i : Nat) (tb : WX → TS) (Wout : WX) : TS := fun D σ H => tc σ H fun x H1 => ∃ a dx fs, x = .ref a ∧ H1 a = some (.ins C dx fs) ∧
  spE [x] H1 (fun v H2 => tb (wWith spXH x Wout) { nx := fun σ' H' => spX [x, .non, .non, .non] H' (fun _ H'' => D.nx σ' H'') fun _ _ _ => False, rt := fun v H' => spX [x, .non, .non, .non] H' (fun _ H'' => D.rt v H'') fun _ _ _ => False } (σ.set i (some v)) H2) fun _ _ _ => False
section
variable {X : Cx} {C fe fx : Addr} {fdE fdX : FuncData} {psE psX : List Str} {spE spX spXH : Sp} {k i : Nat} {y : Str} {e : Expr} {body : List Stmt} {tc : TE} {tb : WX → TS} {py pos : Pos}
/-- a heap without two objects -/
theorem sans_two (h : Heap) (e t : Addr) : ∃ G : Heap, ∀ b o, G.get? b = some o ↔ h.get? b = some o ∧ b ≠ e ∧ b ≠ t := by
  obtain ⟨G, yes, no⟩ := restrict h fun b => decide (b ≠ e ∧ b ≠ t)
  refine ⟨G, fun b o => ?_⟩
  by_cases c : b ≠ e ∧ b ≠ t
  · rw [yes b (decide_eq_true c)]
    exact ⟨fun z => ⟨z, c⟩, fun z => z.1⟩
  · rw [no b (decide_eq_false c)]
    exact ⟨(fun z => nomatch z), fun z => absurd z.2 c⟩
open L2H L2N in
/-- the exception at e, its traceback's entry at t: on it goes out of the with -/
theorem goes_on {pins : List (Addr × Obj)} {D : Ends} {sI s6 : Shared} {Wo : WX} {B : Heap} {e t : Addr} {oe ot : Obj} {ve vt : Array Value} {σ : L2.St} {H HI : Hp} {cls : Value} {d : Option Addr} (hs : X.stack = X.env :: X.outer) (hf : X.env.frame = some X.env.locals) (hex : X.ex = []) (tk : L2N.Takes X Wo)
    (J : Inv X pins σ HI sI) (nb : ∀ b o, sI.heap.get? b = some o → b ∉ frs X.stack → B.get? b = some o) (be : B.get? e = none) (bt : B.get? t = none) (fe : e ∉ frs X.stack) (ft : t ∉ frs X.stack)
    (hz : Zn cls d oe) (de : oe.data = .fields ve) (e1 : ve[1]? = some (.ref t)) (te : t ≠ e) (dt : ot.data = .fields vt) (t3 : vt[3]? = some .none) (I6 : Inv X ((e, oe) :: (t, ot) :: pins) σ H s6) (q : Wo cls d σ H) :
    wpAny (model X.prog X.w) X.A (PySem.passOn "with" (.ref e) X.env) (SP X pins D) X.xe s6 := by
  obtain ⟨ge, he, _⟩ := I6.pin (e, oe) (List.mem_append_right _ (List.mem_cons_self ..))
  obtain ⟨gt, ht, _⟩ := I6.pin (t, ot) (List.mem_append_right _ (List.mem_cons_of_mem _ (List.mem_cons_self ..)))
  have I0 : Inv X pins σ H s6 := I6.pins_of fun p hp => I6.pin p (List.mem_append_right _ (List.mem_cons_of_mem _ (List.mem_cons_of_mem _ hp)))
  have away : ∀ b o, sI.heap.get? b = some o → b ≠ e ∧ b ≠ t := by
    intro b o z
    by_cases c : b ∈ frs X.stack
    · exact ⟨fun y => fe (y ▸ c), fun y => ft (y ▸ c)⟩
    · have inB := nb b o z c
      constructor <;> intro y <;> subst y
      · cases be.symm.trans inB
      · cases bt.symm.trans inB
  have away0 : ∀ b o, X.s_0.heap.get? b = some o → b ≠ e ∧ b ≠ t := fun b o z => (J.base.there b o z (hex ▸ List.not_mem_nil)).elim fun o2 z2 => away b o2 z2
  obtain ⟨G, hG⟩ := sans_two s6.heap e t
  have J6 : Inv X pins σ H { s6 with heap := G } := I0.less (fun b o z => ((hG b o).mp z).1) (fun b o n1 n2 z => (hG b o).mpr ⟨z, n1, n2⟩) ⟨oe, ve, ge, de⟩ ⟨ot, vt, gt, dt⟩ he ht away0 fun p hp => away _ _ (J.pin p hp).1
  have base_ : ∀ b o, (PySem.W.hideAll G (frs X.stack)).get? b = some o → s6.heap.get? b = some o ∧ b ≠ e ∧ b ≠ t := fun b o z => (hG b o).mp (PySem.W.of_hideAll _ z)
  have gone : ∀ b, ¬ (b ≠ e ∧ b ≠ t) → (PySem.W.hideAll G (frs X.stack)).get? b = none := fun b n => by
    match y : (PySem.W.hideAll G (frs X.stack)).get? b with
    | none => rfl
    | some o => exact absurd (base_ b o y).2 n
  have fly : HandSPX.FlyingZ (PySem.W.hideAll G (frs X.stack)) X.stack e (Zn cls d) s6.heap :=
    ⟨fun b o z => (base_ b o z).1, gone e (fun y => y.1 rfl), funFrames_none I0.stack fun b hb => PySem.W.hideAll_none _ hb, oe, ve, t, ot, vt, ge, hz, de, e1, gone t (fun y => y.2 rfl), te, gt, dt, t3⟩
  rw [hs] at fly
  have up6 : Heap.UpToSlots G s6.heap := Heap.UpToSlots.of_keeps fun b o z => ((hG b o).mp z).1
  have out : wpAny (model X.prog X.w) X.A (setFlight (.ref e) X.env.frame) (fun _ s7 => wpAny (model X.prog X.w) X.A (throw (.ref e) : Sem Flow) (SP X pins D) X.xe s7) X.xe s6 := by
    rw [hf]
    exact HandSPX.setFlight_upZ fly fun h7 held up7 => wpAny_throw (tk _ _ ⟨e, _, _, pins, σ, H, cls, d, rfl, J6, fun b o z nz => PySem.W.hideAll_get _ z nz, up6.trans up7, .inr (.inr (hs ▸ held)), he, rfl, I0.bare, q⟩)
  unfold PySem.passOn
  refine wpAny_bind (wpAny_field ge de e1 ?_)
  rw [if_neg (by simp)]
  first
    | exact wpAny_bind (wpAny_pure (wpAny_bind out))
    | exact wpAny_bind out
open L2H L2N in
/-- the exception of a with's body: noted, __exit__ called for it, on it goes -/
theorem with_exc {pins : List (Addr × Obj)} {D : Ends} {u : Value} {s' : Shared} {Wo : WX} {x : Addr} {xe : Value → Shared → Prop} (hs : X.stack = X.env :: X.outer) (hf : X.env.frame = some X.env.locals) (hex : X.ex = []) (ok : X.Ok) (tk : L2N.Takes X Wo)
    (Fx : FnH X.prog X.w X.K X.mg X.base C8.CX0 k fx fdX psX spXH) (hr : RoomH k X.A) (hb : L2.Binds X.K fdX psX [])
    (xx : L2N.XE (X.tr (X.pn ++ pins) xe) (wWith spXH (.ref x) Wo) u s') :
    KwRaised X.prog X.w X.A X.xe X.env (.ref fx) (.ref x) (SP X pins D) u s' := by
  obtain ⟨e, B, sI, _, σ', H', cls, d, rfl, It, nb, up, sky, noH, os, ag, ⟨cv, rcv⟩, ask⟩ := xx
  have J : Inv X pins σ' H' sI := It.ofTry ok
  refine Sky.land (A := X.A) Zn.steady (by rw [ok.frames, hs]) hf (hs ▸ sky) fun h3 fl up3 => ?_
  have J3 : Inv X pins σ' H' { s' with heap := h3 } := J.landed nb fl.1 (up.trans up3) os ag
  obtain ⟨_, be, ff, oe, ve, t, ot, vt, ge, hz, de, e1, bt, te, gt, dt, t3⟩ := id fl
  rw [← hs] at ff
  have noT : H' t = none := (J.inGround nb).gone bt
  have noFrame : ∀ {b : Addr} {o : Obj} {fv : Array Value}, h3.get? b = some o → o.data = .fields fv → b ∉ frs X.stack := fun {b o fv} z dd y => by
    obtain ⟨_, o2, z2, n⟩ := ff.mem y
    rw [z] at z2
    exact n _ (Option.some.inj z2 ▸ dd)
  have pinned : ∀ {b : Addr} {o : Obj} {fv : Array Value}, h3.get? b = some o → H' b = none → o.data = .fields fv → h3.get? b = some o ∧ H' b = none ∧ b ≠ X.env.locals ∧ b ∉ X.fs ∧ ∀ v, o.data ≠ .cell v := fun {b o fv} z n dd => by
    have nf := noFrame z dd
    refine ⟨z, n, fun y => nf ?_, fun y => nf ?_, fun v y => ?_⟩
    · rw [y, hs]
      exact List.mem_filterMap.mpr ⟨_, List.mem_cons_self .., hf⟩
    · obtain ⟨e2, m, y2⟩ := List.mem_filterMap.mp y
      rw [hs]
      exact List.mem_filterMap.mpr ⟨e2, List.mem_cons_of_mem _ m, y2⟩
    · cases dd.symm.trans y
  have Pe := pinned ge noH de
  have J4 : Inv X ((t, ot) :: pins) σ' H' { s' with heap := h3 } := J3.pins_of fun p hp => by
    rcases List.mem_cons.mp hp with y | y
    · rw [y]
      exact pinned gt noT dt
    · exact J3.pin p (List.mem_append_right _ y)
  have S : Inv (X.suite e ((e, oe) :: (X.pn ++ ((t, ot) :: pins)))) [] σ' H' { s' with heap := h3 } := J4.suite ge de noH Pe.2.2.1 Pe.2.2.2.1
  -- the call of __exit__
  unfold kwRest
  refine wpAny_bind (wpAny_typeOf_ref ge (wpAny_bind ?_))
  have sz : 1 < vt.size := by
    have := (Array.getElem?_eq_some_iff.mp t3).1
    omega
  have trace : ∀ {Q : Value → Shared → Prop}, (∀ (v : V) (z : Value), RelV v z → Q z { s' with heap := h3 }) → wpAny (model X.prog X.w) X.A (tracebackOf (.ref e)) Q X.xe { s' with heap := h3 } := fun {Q} hq => by
    unfold tracebackOf
    refine wpAny_bind (wpAny_field ge de e1 ?_)
    dsimp only
    refine wpAny_bind (wpAny_field gt dt (Array.getElem?_eq_getElem sz) ?_)
    split
    · exact wpAny_pure (hq .non _ rfl)
    · exact wpAny_pure (hq (.ref t) _ rfl)
  refine trace fun tv tu rt => ?_
  unfold withItem.marked
  have hpin : PinOk X.stack H' { s' with heap := h3 } (e, oe) := ⟨ge, noH, noFrame ge de, Pe.2.2.2.2⟩
  have vals : Vals [V.ref x, cv, .ref e, tv] [Value.ref x, oe.cls, .ref e, tu] := .cons rfl (.cons (hz.1 ▸ rcv) (.cons rfl (.cons rt .nil)))
  have wish := ask cv (.ref e) tv
  have args_ := hb { s' with heap := h3 } [Value.ref x, oe.cls, .ref e, tu] S.kIn (by rw [List.append_nil, ← vals.length]; exact Fx.len _ _ _ _ wish)
  rw [List.append_nil] at args_
  have call_ := Fx.run (X.A.mark (some (.ref e))) X.stack _ H' ⟨[Value.ref x, oe.cls, .ref e, tu], []⟩ _ _ _ (fun _ _ _ => False) (e, oe) ⟨hr.dp, hr.un⟩ ⟨rfl, ve, de, hz.2.2 ve de⟩ hpin S.env0 args_ vals wish
  refine wpAny_bind (wpAny_bind (wpAny_run (codeAny_mono call_ fun r s6 hq => ?_) (fun y => ref_ne_byPass e (Option.some.inj y))))
  match r, hq with
  | .error _, z => exact False.elim z
  | .ok .next, z => exact False.elim z
  | .ok .brk, z => exact False.elim z
  | .ok .cont, z => exact False.elim z
  | .ok (.ret w6), hq =>
    obtain ⟨_, H6, S6, r6, rfl, q6⟩ := S.after hq
    obtain rfl : w6 = Value.none := r6
    have I6 : Inv X ((e, oe) :: (t, ot) :: pins) σ' H6 s6 := by
      refine ⟨ok, S6.os, S6.bare, S6.base, S6.loc, S6.cell, S6.free, S6.freeC, fun p hp => S6.pin p ?_, S6.hok, S6.len⟩
      rw [List.append_nil]
      rcases List.mem_append.mp hp with y | y
      · exact List.mem_cons_of_mem _ (List.mem_append_left _ y)
      · rcases List.mem_cons.mp y with y | y
        · rw [y]
          exact List.mem_cons_self ..
        · exact List.mem_cons_of_mem _ (List.mem_append_right _ y)
    exact wpAny_pure (wpAny_bind (wpAny_pure (wpAny_bind (wpAny_pure (goes_on hs hf hex tk J nb be bt (noFrame ge de) (noFrame gt dt) hz de e1 te dt t3 I6 q6)))))
open L2H L2N in
theorem ps_withN {Wo : WX} (hs : X.stack = X.env :: X.outer) (hf : X.env.frame = some X.env.locals) (hex : X.ex = []) (hN : X.N.Nodup) (hi : X.N[i]? = some y) (hy : Loc X.env.scope y) (tk : L2N.Takes X Wo)
    (hE : PySem.W.findIn X.K (.ref C) "__enter__" = some (some (.ref fe))) (hfe : PySem.W.isFn X.K (.ref fe) = true) (hX : PySem.W.findIn X.K (.ref C) "__exit__" = some (some (.ref fx))) (hfx : PySem.W.isFn X.K (.ref fx) = true)
    (Fe : FnOk X.prog X.w X.K X.mg X.base C8.CX0 k fe fdE psE spE) (hbE : L2.Binds X.K fdE psE []) (Fx : FnOk X.prog X.w X.K X.mg X.base C8.CX0 k fx fdX psX spX) (FxH : FnH X.prog X.w X.K X.mg X.base C8.CX0 k fx fdX psX spXH) (hbX : L2.Binds X.K fdX psX []) (hr : Room k X.A)
    (hc : PE X e tc) (hb : ∀ (W : WX) (pn : List (Addr × Obj)) (xe : Value → Shared → Prop), L2N.Takes (X.tr pn xe) W → PassesOwn (model X.prog X.w) X.A X.env xe → PSs (X.tr pn xe) body (tb W))
    (hfn : X.fn y = true ∨ X.env.scope.names.lookup y = some .local := by first | exact .inl rfl | exact .inr rfl | assumption) :
    PS X (.With [⟨e, some (.Name y py)⟩] body pos) (tWithN C spE spX spXH tc i tb Wo) := by
  refine ⟨fun pins s σ H D I h => ?_⟩
  have ok := I.ok
  refine PySem.W.kw_execN (wpAny_mono (hc.run pins s σ H _ I h) (fun u s1 ⟨v, H1, I1, r1, a, dx, fs, ev, ea, q⟩ => ?_) fun _ _ z => z)
  subst ev
  obtain rfl : u = Value.ref a := r1
  obtain ⟨mA, O, _⟩ := ins_get I1.hok ea
  obtain ⟨od, J, _⟩ := O.look
  refine kw_coreX I1.kIn J hE hfe hX hfx ?_
  refine wpAny_mono (run_fn (X := X.nox) (us := [.ref a]) (vs := [.ref a]) (ds := []) (dvs := []) Fe hr hbE .nil C8.pass0 (I1.wish _) (.cons rfl .nil) q) (fun u2 s2 ⟨v2, H2, I2, r2, q2⟩ => ?_) fun _ _ z => False.elim z
  refine wpAny_mono ((pg_name (X := X.nox) (pos := py) hN hi hy hfn).run pins s2 σ H2 v2 u2 _ I2 r2 q2) (fun _ s3 ⟨σ3, H3, I3, q3⟩ => ?_) fun _ _ z => False.elim z
  refine wpAny_mono ((hb (wWith spXH (.ref a) Wo) (X.pn ++ pins) (fun e' s₁ => KwRaised X.prog X.w X.A X.xe X.env (.ref fx) (.ref a) (SP X pins D) e' s₁) (fun u' s' xx => ?_) PassesOwn.looking).run [] s3 σ3 H3 _ (I3.unwish.toTry _) q3) (fun f s4 hsp => ?_) fun e' s' hq => hq
  · exact with_exc hs hf hex ok tk FxH (roomH_of hr) hbX xx
  · have out : ∀ {σ4 : L2.St} {H4 : Hp} {Q : Hp → Prop} {Q2 : Shared → Prop}, Inv (X.tr (X.pn ++ pins) (fun e' s₁ => KwRaised X.prog X.w X.A X.xe X.env (.ref fx) (.ref a) (SP X pins D) e' s₁)) [] σ4 H4 s4 → spX [.ref a, .non, .non, .non] H4 (fun _ H'' => Q H'') (fun _ _ _ => False) →
        (∀ H5 s5, Inv X pins σ4 H5 s5 → Q H5 → Q2 s5) → wpAny (model X.prog X.w) X.A (call (.ref fx) [.ref a, .none, .none, .none]) (fun _ s₅ => Q2 s₅) X.xe s4 := fun {σ4 H4 Q Q2} I4 hq k2 => by
      refine wpAny_mono (run_fn (X := X.nox) (us := [.ref a, .none, .none, .none]) (vs := [.ref a, .non, .non, .non]) (ds := []) (dvs := []) Fx hr hbX .nil C8.pass0 ((I4.ofTry ok).wish _) (.cons rfl (.cons rfl (.cons rfl (.cons rfl .nil)))) hq) (fun u5 s5 ⟨v5, H5, I5, r5, q5⟩ => k2 H5 s5 I5.unwish q5) fun _ _ z => False.elim z
    cases f with
    | next =>
      obtain ⟨σ4, H4, I4, q4⟩ := hsp
      exact out I4 q4 fun H5 s5 I5 q5 => ⟨σ4, H5, I5, q5⟩
    | ret u4 =>
      obtain ⟨v4, σ4, H4, I4, r4, q4⟩ := hsp
      exact out I4 q4 fun H5 s5 I5 q5 => ⟨v4, σ4, H5, I5, r4, q5⟩
    | brk =>
      obtain ⟨_, _, _, q4⟩ := hsp
      exact False.elim q4
    | cont =>
      obtain ⟨_, _, _, q4⟩ := hsp
      exact False.elim q4
end
end G
-- Xe
set_option Elab.async false
set_option linter.all false
set_option maxRecDepth 100000
set_option maxHeartbeats 4000000
/-! try: body / except (A, B, C) as n: suite / except D: suite -/
namespace G
open PySem PySem.Spec PyProof.Rows L2 LamX NdefX
theorem fl_keeps {B : Heap} {l : List Env} {a : Addr} {Z : Obj → Prop} {h h' : Heap} (f : HandSPX.FlyingZ B l a Z h) (k : ∀ b o, h.get? b = some o → h'.get? b = some o) : HandSPX.FlyingZ B l a Z h' := by
  obtain ⟨f1, f2, f3, oe, vs, T, oT, ts, he, hz, hd, h1, hn, hne, hT, hdT, h3⟩ := f
  exact ⟨fun b o q => k b o (f1 b o q), f2, f3.of_keeps fun b o q _ => ⟨o, k b o q, rfl⟩, oe, vs, T, oT, ts, k _ _ he, hz, hd, h1, hn, hne, k _ _ hT, hdT, h3⟩
/-- the end of an except clause with a name at the slot i -/
abbrev goneD (i : Nat) (D : Ends) : Ends := { nx := fun σ' H' => D.nx (σ'.set i none) H', rt := D.rt, bk := fun σ' H' => D.bk (σ'.set i none) H', ct := fun σ' H' => D.ct (σ'.set i none) H' }
def wHeard (K : PySem.W.Frag) (c1 c2 c3 c4 : Value) (i : Nat) (ts ts2 : Addr → Value → Option Addr → TS) (D : Ends) : WX := fun cls d σ H =>
  ∃ b, PySem.W.exmAny K cls [c1, c2, c3] = some b ∧ (b = true → ∀ a, H a = none → ts a cls d (goneD i D) (σ.set i (some (.ref a))) H) ∧ (b = false → PySem.W.exmOne K cls c4 = some true ∧ ∀ a, H a = none → ts2 a cls d D σ H)
section
variable {X : Cx} {x1 x2 x3 x4 n : Str} {c1 c2 c3 c4 : Value} {i kk : Nat} {body suite suite2 : List Stmt} {b₀ b₁ : Stmt} {p1 p2 p3 p4 tp pos1 pos2 pos : Pos} {tb : WX → TS} {ts ts2 : Addr → Value → Option Addr → TS}
open L2N in
/-- a caught exception's suite may begin at h4 -/
theorem suite_at {pins : List (Addr × Obj)} {σ : L2.St} {H : Hp} {sI s' : Shared} {h4 B : Heap} {a : Addr} {cls : Value} {d : Option Addr} (hs : X.stack = X.env :: X.outer) (hf : X.env.frame = some X.env.locals) (J : Inv X pins σ H sI) (nb : ∀ b o, sI.heap.get? b = some o → b ∉ frs X.stack → B.get? b = some o)
    (up : sI.heap.UpToSlots h4) (os : s'.os = sI.os) (ag : AllBare s'.gens) (na : H a = none) (fl : HandSPX.FlyingZ B (X.env :: X.outer) a (Zn cls d) h4) :
    ∃ oe, h4.get? a = some oe ∧ Zn cls d oe ∧ (∃ vs, oe.data = .fields vs) ∧ Inv (X.suite a ((a, oe) :: (X.pn ++ pins))) [] σ H { s' with heap := h4 } := by
  obtain ⟨oe, fv, get_, z, dt⟩ := fl.there
  have away : a ∉ frs (X.env :: X.outer) := fun y => by
    obtain ⟨_, o2, z2, n⟩ := fl.2.2.1.mem y
    exact n _ ((Option.some.inj (z2.symm.trans get_)) ▸ dt)
  refine ⟨oe, get_, z, ⟨fv, dt⟩, (Inv.landed (s' := { s' with heap := h4 }) J nb fl.1 up os ag).suite get_ dt na (fun y => away ?_) fun y => away ?_⟩
  · exact List.mem_filterMap.mpr ⟨X.env, List.mem_cons_self .., y ▸ hf⟩
  · obtain ⟨e2, m, y2⟩ := List.mem_filterMap.mp y
    exact List.mem_filterMap.mpr ⟨e2, List.mem_cons_of_mem _ m, y2⟩
open L2N in
theorem ps_try_heard (hs : X.stack = X.env :: X.outer) (hf : X.env.frame = some X.env.locals) (hN : X.N.Nodup) (hi : X.N[i]? = some n) (hln : X.env.kindOf n = some .local) (n1 : Names X x1 c1) (n2 : Names X x2 c2) (n3 : Names X x3 c3) (n4 : Names X x4 c4)
    (hb : ∀ (W : WX) (pn : List (Addr × Obj)) (xe : Value → Shared → Prop), L2N.Takes (X.tr pn xe) W → PassesOwn (model X.prog X.w) X.A X.env xe → PSs (X.tr pn xe) body (tb W))
    (hsu : ∀ (a : Addr) (oe : Obj) (cls : Value) (d : Option Addr) (pn : List (Addr × Obj)), Zn cls d oe → (∃ vs, oe.data = .fields vs) → PSs (X.suite a ((a, oe) :: pn)) (b₀ :: suite) (ts a cls d))
    (hsu2 : ∀ (a : Addr) (oe : Obj) (cls : Value) (d : Option Addr) (pn : List (Addr × Obj)), Zn cls d oe → (∃ vs, oe.data = .fields vs) → PSs (X.suite a ((a, oe) :: pn)) (b₁ :: suite2) (ts2 a cls d)) :
    PS X (.Try body [.ExceptHandler (some (.Tuple [.Name x1 p1, .Name x2 p2, .Name x3 p3] kk tp)) (some n) (b₀ :: suite) pos1, .ExceptHandler (some (.Name x4 p4)) none (b₁ :: suite2) pos2] [] [] pos) (fun D σ H => tb (wHeard X.K c1 c2 c3 c4 i ts ts2 D) D σ H) := by
  refine ⟨fun pins s σ H D I h => wpAny_Try_except (wpAny_mono ((hb (wHeard X.K c1 c2 c3 c4 i ts ts2 D) (X.pn ++ pins) (fun e s₁ => wpAny (model X.prog X.w) X.A (noteFrame e X.env) (fun _ s₂ => wpAny (model X.prog X.w) X.A (setFlight e none) (fun _ s₃ =>
    wpAny (model X.prog X.w) X.A (handleBy e X.env [.ExceptHandler (some (.Tuple [.Name x1 p1, .Name x2 p2, .Name x3 p3] kk tp)) (some n) (b₀ :: suite) pos1, .ExceptHandler (some (.Name x4 p4)) none (b₁ :: suite2) pos2]) (SP X pins D) X.xe s₃) X.xe s₂) X.xe s₁) (fun u s' xx => ?_) PassesOwn.looking).run [] s σ H D (I.toTry _) h) (fun fl s1 w => ?_) fun _ _ w => w)⟩
  · -- it is caught
    obtain ⟨a, B, sI, _, σ', H', cls, d, rfl, It, nb, up, sky, na, os, ag, yes, which, first_, second_⟩ := xx
    have J : Inv X pins σ' H' sI := It.ofTry I.ok
    have enter := fun {h4 : Heap} (u4 : s'.heap.UpToSlots h4) (fl : HandSPX.FlyingZ B (X.env :: X.outer) a (Zn cls d) h4) => suite_at hs hf J nb (up.trans u4) os ag na fl
    refine Sky.land (A := X.A) Zn.steady (by rw [I.ok.frames, hs]) hf (hs ▸ sky) fun h3 fl3 up3 => ?_
    obtain ⟨o3, g3, z3, _, S3⟩ := enter up3 fl3
    -- the names of the classes, read at any later heap
    have name_ : ∀ {x : Str} {c : Value} {np : Pos} {h4 : Heap} {Q E : Value → Shared → Prop}, Names X x c → (∀ b o, h3.get? b = some o → h4.get? b = some o) → Q c { s' with heap := h4 } → wpAny (model X.prog X.w) (X.A.mark (some (.ref a))) (eval (.Name x np) X.env) Q E { s' with heap := h4 } := by
      intro x c np h4 Q E nm keep q
      have S4 : Inv (X.suite a ((a, o3) :: (X.pn ++ pins))) [] σ' H' { s' with heap := h4 } := S3.kept (t' := s'.toks) (h' := h4) keep
      obtain ⟨gl, dbg, own⟩ := nm
      rcases own with m | ⟨m, bv, nn⟩
      · exact ld_glob (X := X.suite a ((a, o3) :: (X.pn ++ pins))) S4 gl m q dbg
      · exact ld_blt (X := X.suite a ((a, o3) :: (X.pn ++ pins))) S4 gl m bv q nn dbg
    have typ : ∀ h4 : Heap, (∀ b o, h3.get? b = some o → h4.get? b = some o) → PySem.W.Looks (model X.prog X.w) h4 (typeOf (.ref a)) cls := fun h4 keep A' Q' E' s4 k4 q => wpAny_typeOf_ref (k4 _ _ (keep _ _ g3)) (by rw [z3.1]; exact q)
    have grew : ∀ b o, h3.get? b = some o → (h3.push { cls := .type "tuple", data := .seq #[c1, c2, c3] }).get? b = some o := fun _ _ e => Heap.get?_push_of_some _ e
    refine wpAny_handleBy_cons (codeAny_handlers_test ?_) (fun e => nomatch e)
    refine wpAny_Tuple (wpAny_items_cons (name_ n1 (fun _ _ e => e) (wpAny_items_cons (name_ n2 (fun _ _ e => e) (wpAny_items_cons (name_ n3 (fun _ _ e => e) (wpAny_items_nil ⟨(by size_fits), ?_⟩)))))))
    refine (PySem.W.exm_tup3 (M := model X.prog X.w) (S3.kIn.keeps grew) (typ _ grew) (Heap.get?_push_size h3 rfl) which).here ?_
    have upG : s'.heap.UpToSlots (h3.push { cls := .type "tuple", data := .seq #[c1, c2, c3] }) := up3.trans (Heap.UpToSlots.of_keeps grew)
    match yes, which with
    | true, _ =>
      refine codeAny_handlers_suite_as (HandSPX.lands_againZ (s := { s' with heap := h3.push { cls := .type "tuple", data := .seq #[c1, c2, c3] } }) (fl_keeps fl3 grew) fun h4 fl4 up4 => ?_)
      obtain ⟨o4, _, z4, f4, S4⟩ := enter (upG.trans up4) fl4
      refine store_ok (v := .ref a) (X := X.suite a ((a, o4) :: (X.pn ++ pins))) S4 hN hi (show Loc X.env.scope n from .inl hln) rfl (fun s5 S5 => wpAny_mono ((hsu a o4 cls d (X.pn ++ pins) z4 f4).run [] s5 _ H' _ S5 (first_ rfl a na)) (fun fl s6 w => ?_) fun _ _ y => y.elim) (.inr hln)
      have forget : ∀ {σ6 : L2.St} {H6 : Hp} {R : Shared → Prop}, Inv (X.suite a ((a, o4) :: (X.pn ++ pins))) [] σ6 H6 s6 → (∀ s7, Inv X pins (σ6.set i none) H6 s7 → R s7) → wpAny (model X.prog X.w) X.A (do bindName X.env n .none; unbindBehindTheSuite X.env n pos1) (fun _ s7 => R s7) X.xe s6 := fun S6 r => gone_ok (S6.unsuite I.ok) hN hi hln r
      match fl, w with
      | .next, ⟨_, _, S6, q⟩ => exact forget S6 fun _ J7 => ⟨_, _, J7, q⟩
      | .brk, ⟨_, _, S6, q⟩ => exact forget S6 fun _ J7 => ⟨_, _, J7, q⟩
      | .cont, ⟨_, _, S6, q⟩ => exact forget S6 fun _ J7 => ⟨_, _, J7, q⟩
      | .ret _, ⟨_, _, _, S6, rv, q⟩ => exact forget S6 fun _ J7 => ⟨_, _, _, J7, rv, q⟩
    | false, _ =>
      obtain ⟨key_, ask⟩ := second_ rfl
      show wpAny _ X.A (handleBy (.ref a) X.env [.ExceptHandler (some (.Name x4 p4)) none (b₁ :: suite2) pos2]) _ _ _
      refine wpAny_handleBy_cons (codeAny_handlers_test (name_ n4 grew ((PySem.W.exm_one (M := model X.prog X.w) (S3.kIn.keeps grew) (typ _ grew) key_).here ?_))) (fun e => nomatch e)
      refine codeAny_handlers_suite (HandSPX.lands_againZ (s := { s' with heap := h3.push { cls := .type "tuple", data := .seq #[c1, c2, c3] } }) (fl_keeps fl3 grew) fun h4 fl4 up4 => ?_)
      obtain ⟨o4, _, z4, f4, S4⟩ := enter (upG.trans up4) fl4
      refine wpAny_mono ((hsu2 a o4 cls d (X.pn ++ pins) z4 f4).run [] _ _ H' _ S4 (ask a na)) (fun fl s6 w => ?_) fun _ _ y => y.elim
      match fl, w with
      | .next, ⟨_, _, S6, q⟩ => exact ⟨_, _, S6.unsuite I.ok, q⟩
      | .brk, ⟨_, _, S6, q⟩ => exact ⟨_, _, S6.unsuite I.ok, q⟩
      | .cont, ⟨_, _, S6, q⟩ => exact ⟨_, _, S6.unsuite I.ok, q⟩
      | .ret _, ⟨_, _, _, S6, rv, q⟩ => exact ⟨_, _, _, S6.unsuite I.ok, rv, q⟩
  · match fl, w with
    | .next, ⟨_, _, J, q⟩ => exact wpAny_execs_nil ⟨_, _, J.ofTry I.ok, q⟩
    | .brk, ⟨_, _, J, q⟩ => exact ⟨_, _, J.ofTry I.ok, q⟩
    | .cont, ⟨_, _, J, q⟩ => exact ⟨_, _, J.ofTry I.ok, q⟩
    | .ret _, ⟨_, _, _, J, rv, q⟩ => exact ⟨_, _, _, J.ofTry I.ok, rv, q⟩
end
/-! ### x(lambda: body), x a def that calls it -/
/-- how the tables lie behind the making of a lambda -/
def Grew (H : Hp) (P : Addr) (q : Str) (φ : Addr → Prop) (pos : Pos) (c' P' : Addr) (H1 : Hp) : Prop :=
  (H1 = H ∧ φ P' ∧ CodeK H c' q P') ∨ ∃ o ps, H P = some (.tbl ps) ∧ H c' = none ∧ H P' = none ∧ P' ≠ c' ∧ CodeZ o c' q P' ∧ H1 = grown H P c' P' o (ps ++ #[rawInt pos.line, rawInt pos.col, .ref c'])
theorem Grew.code {H H1 : Hp} {P c' P' : Addr} {q : Str} {φ : Addr → Prop} {pos : Pos} (g : Grew H P q φ pos c' P' H1) : CodeK H1 c' q P' := by
  rcases g with ⟨e, _, k⟩ | ⟨o, ps, _, _, _, _, z, e⟩
  · rw [e]
    exact k
  · rw [e]
    exact ⟨o, upd_same, z⟩
theorem Grew.ext {H H1 : Hp} {P c' P' : Addr} {q : Str} {φ : Addr → Prop} {pos : Pos} (g : Grew H P q φ pos c' P' H1) : ExtN H H1 := by
  rcases g with ⟨e, _, k⟩ | ⟨o, ps, h1, h2, h3, h4, z, e⟩
  · rw [e]
    exact ExtN.refl H
  · rw [e]
    exact grown_extN h1 h2 h3 h4
theorem passes_callL {X : Cx} {W : WX} {E : XK} (tk : L2N.Takes X W) (hW : ∀ cls d σ H, σ.length = X.N.length → E cls d H → W cls d σ H) : Passes (L2N.CX X.prog X.w) X E :=
  fun _ σ _ _ e s' I c => tk e s' (L2N.XE.of_call I (fun cls d H' h => hW cls d σ H' I.len h) c)
/-- the def at g calls what it got (its parameter a) within a try that lets nothing out -/
def HearTo (X : Cx) (k : Nat) (Ng : List Str) (x : Str) (sg : Scope) (g : Addr) (cdg : Value) (bg : List Stmt) (a : Str) (TT : (XK → Hp → VK → Prop) → Hp → VK → Prop) : Prop :=
  ∀ (f : Addr) (s : Shared) (H : Hp) (Q : VK) (tl : XK → Hp → VK → Prop), Room k (X.A.deeper (envOfC x sg s.heap.objs.size g cdg)) →
    (∀ (W : WX) (pn : List (Addr × Obj)) (xe : Value → Shared → Prop) (E : XK) (p1 p2 : Pos), L2N.Takes ((cxOf C8.CX0 X.prog X.w X.K X.mg X.base Ng x sg g cdg X.A X.stack s H C8.E0).tr pn xe) W → (∀ cls d σ' H', σ'.length = Ng.length → E cls d H' → W cls d σ' H') →
      PE ((cxOf C8.CX0 X.prog X.w X.K X.mg X.base Ng x sg g cdg X.A X.stack s H C8.E0).tr pn xe) (.Call (.Name a p1) [] [] p2) (fun σZ HZ Q => σZ[0]? = some (some (.ref f)) ∧ tl E HZ Q)) →
    TT tl H Q → ∃ t, PSs (cxOf C8.CX0 X.prog X.w X.K X.mg X.base Ng x sg g cdg X.A X.stack s H C8.E0).nox bg t ∧ t { nx := fun _ H' => Q .non H', rt := Q } (L2.start Ng [.ref f]) H
def tHeard (P : Addr) (q : Str) (φ : Addr → Prop) (pos : Pos) (st : L2.St → L2.St) (TT : (XK → Hp → VK → Prop) → Hp → VK → Prop) (t : Addr → XK → TE) : TE := fun σ H Q => Tab1 H P q φ ∧ ∀ c' P' H1, Grew H P q φ pos c' P' H1 → TT (fun E H' Q' => t P' E (st σ) H' Q') H1 Q
section
variable {X : Cx}
theorem pe_heard {TT : (XK → Hp → VK → Prop) → Hp → VK → Prop} {x a : Str} {g c P P0 : Addr} {k : Nat} {st : Stmt} {fd : FuncData} {Ng N fr : List Str} {js : List Nat} {φ : Addr → Prop}
    {params : Arguments} {body : Expr} {scope : Scope} {t : Addr → XK → TE} {p lpos pos : Pos} (hg : Gl X x) (hm : X.mg x = some (.ref g)) (F : Fun X.K x x st g fd) (hb : L2.Binds X.K fd [a] []) (Sg : FnScope Ng [a] (defScope st)) (hNg : Ng[0]? = some a) (hva : Vis (defScope st) a)
    (hG : ∀ cdv, HearTo X (k + 1) Ng x (defScope st) g cdv (defBody st) a TT) (hB : X.base.BuiltinsAt X.mg P0) (hcode : X.env.code = .ref c) (hC : PySem.W.CodeHd X.base c P) (hfn : X.fn = fun _ => true) (S : NScope N [] fr scope) (nd : ndefB X.env.scope scope fr = true) (hjs : js.map (fun j => X.N[j]?) = fr.map some)
    (hr : Room (k + 2) X.A) (hgd : X.A.guards = some []) (hdef : defaultsOf params X.env = ([], []))
    (none_ : ∀ (q : Str) (cl : List (Str × Addr)) (pm cv ctv : Value), bindArgs (PySem.W.kla_fn "<lambda>" q params body scope cl pm cv ctv) ⟨[], []⟩ = pure [])
    (hbody : ∀ (A : Around) (outer : List Env) (s : Shared) (H : Hp) (E : XK) (f c' P' : Addr) (cl : List (Str × Addr)) (ws : List (Option V)), Room k (A.deeper (envF ((⟨X.env.qual ++ "<lambda>", params, body, scope⟩ : Lm).nf cl c') f s.heap.objs.size)) → A.guards = some [] → LamAt s H outer f c' P' ⟨X.env.qual ++ "<lambda>", params, body, scope⟩ cl fr ws →
      PE (ncx (L2N.CX X.prog X.w) X.prog X.w X.K X.mg X.base N ((⟨X.env.qual ++ "<lambda>", params, body, scope⟩ : Lm).nf cl c') f A outer s H E) body (t P' E))
    (d1 : (x == ("__debug__" : Str)) = false := by decide) (d2 : (a == ("__debug__" : Str)) = false := by decide) (d3 : (a == ("__classdict__" : Str)) = false := by decide) :
    PE X (.Call (.Name x p) [.Lambda params body scope lpos] [] pos) (tHeard P (X.env.qual ++ "<lambda>") φ lpos (fun σ => startF N [] (js.map (slotAt σ))) TT t) := by
  obtain ⟨⟨k1, k2, k3, k4, k5, k6, cdv, k8, k9, efd, look, code⟩, kept⟩ := F
  subst efd
  refine ⟨fun pins s σ H Q I ⟨tab, ask⟩ => wpAny_Call_Name_kw (ld_glob I hg hm (PySem.W.callWith_K (h₀ := X.base) I.ok.mod.kin kept (Calls.spliced_cons (x := eval (.Lambda params body scope lpos) X.env) ?_) (by rfl) (by rfl)) d1)⟩
  have free_ := ndef_free nd
  refine lam_mk I hB hcode (hC.keeps I.bk) tab hdef (fun y hy e => (free_ y hy e).elim (fun z => I.ok.has _ (.inl z)) fun z => I.ok.has _ (.inr z)) fun f c' P' pm' ctv H1 s' I1 gr made new_ nofr => Calls.spliced_nil ⟨I1.kIn, ?_⟩
  have lam := LamAt.made (js := js) I1 (cells_nofs I1 hfn) made new_ nofr (Grew.code (φ := φ) gr) (Caps.made I1.ok free_ (ndef_fr nd) hjs)
  refine wpAny_call (codeAny_mono (run_ofS (CX := C8.CX0) (Q := Q) (E := C8.E0) (N := Ng) (ps := [a]) (us := [.ref f]) (vs := [.ref f]) look code Sg hr I1.env0 (hb s' [.ref f] I1.kIn rfl) (.cons rfl .nil) rfl fun hr' => ?_) fun r s2 z => ?_)
  · obtain ⟨t', h1, h2⟩ := hG cdv f s' H1 Q (fun E H' Q' => t P' E (startF N [] (js.map (slotAt σ))) H' Q') hr' (fun W pn xe E p1 p2 tk hW => pe_lam0 (i := 0) rfl lam S (fun pm ctv => none_ _ _ _ _ _) hr' (passes_callL tk hW) hNg hva (fun s2 H2 L2' hr2 => hbody _ _ s2 H2 E f c' P' _ _ hr2 hgd L2') d2 d3) (ask c' P' H1 gr)
    exact ⟨t', h1.nox, h2⟩
  · match r, z with
    | .ok (.ret _), z => exact I1.after z
    | .error _, z => exact False.elim z
    | .ok .next, z => exact False.elim z
    | .ok .brk, z => exact False.elim z
    | .ok .cont, z => exact False.elim z
end
end G
-- Xf
set_option Elab.async false
set_option linter.all false
set_option maxRecDepth 100000
set_option maxHeartbeats 4000000
/-! o.m(lambda n: body), o.m(a=lambda n: body): m a method that calls it -/
namespace G
open PySem PySem.Spec PyProof.Rows L2 LamX NdefX
/-- the method at g calls what it got (its parameter a, the second) with one argument, the name y -/
def TriedTo (X : Cx) (k : Nat) (Ng : List Str) (qg : Str) (sg : Scope) (g : Addr) (cdg : Value) (bg : List Stmt) (a y : Str) (TT : (V → XK → Hp → VK → Prop) → V → Hp → VK → XK → Prop) : Prop :=
  ∀ (f : Addr) (s : Shared) (H : Hp) (b : V) (Q : VK) (E : XK) (tl : V → XK → Hp → VK → Prop), Room k (X.A.deeper (envOfC qg sg s.heap.objs.size g cdg)) →
    (∀ (W : WX) (pn : List (Addr × Obj)) (xe : Value → Shared → Prop) (E' : XK) (te : TE) (p1 p2 pe : Pos), PE ((cxOf (L2N.CX X.prog X.w) X.prog X.w X.K X.mg X.base Ng qg sg g cdg X.A X.stack s H E).tr pn xe) (.Name y pe) te → L2N.Takes ((cxOf (L2N.CX X.prog X.w) X.prog X.w X.K X.mg X.base Ng qg sg g cdg X.A X.stack s H E).tr pn xe) W → (∀ cls d σ' H', E' cls d H' → W cls d σ' H') →
      PE ((cxOf (L2N.CX X.prog X.w) X.prog X.w X.K X.mg X.base Ng qg sg g cdg X.A X.stack s H E).tr pn xe) (.Call (.Name a p1) [.Name y pe] [] p2) (fun σZ HZ Q => σZ[1]? = some (some (.ref f)) ∧ te σZ HZ fun x H1 => [x].length = 1 ∧ tl x E' H1 Q)) →
    TT tl b H Q E → ∃ t, PSs (cxOf (L2N.CX X.prog X.w) X.prog X.w X.K X.mg X.base Ng qg sg g cdg X.A X.stack s H E) bg t ∧ t { nx := fun _ H' => Q .non H', rt := Q } (L2.start Ng [b, .ref f]) H
def tTried (C : Addr) (m : Str) (P : Addr) (q : Str) (φ : Addr → Prop) (pos : Pos) (to : TE) (st : L2.St → V → L2.St) (TT : (V → XK → Hp → VK → Prop) → V → Hp → VK → XK → Prop) (t : XK → TE) (E : XK) : TE := fun σ H Q => to σ H fun x H0 => ∃ b dx fs, x = .ref b ∧ H0 b = some (.ins C dx fs) ∧ fs.lookup m = none ∧
  Tab1 H0 P q φ ∧ ∀ c' P' H1, Grew H0 P q φ pos c' P' H1 → TT (fun x E' H' Q' => t E' (st σ x) H' Q') x H1 Q E
section
variable {X : Cx}
theorem LamAt.hd {Z : Cx} {pins : List (Addr × Obj)} {σ : L2.St} {H : Hp} {s : Shared} {f c P : Addr} {l : Lm} {cl : List (Str × Addr)} {fr : List Str} {ws : List (Option V)} (L : LamAt Z.s_0 Z.H_0 Z.outer f c P l cl fr ws) (I : Inv Z pins σ H s) : PySem.W.CodeHd s.heap c P :=
  ((L.code.ext fun c o e => I.base.frzs c o _ e : CodeK H c l.qual P).at_ I).2
theorem tried_run {TT : (V → XK → Hp → VK → Prop) → V → Hp → VK → XK → Prop} {x a y qg : Str} {g c P P0 b : Addr} {k : Nat} {pg : Arguments} {bg : List Stmt} {sg : Scope} {dV kV doc pm cdv ct oc : Value} {an od : Option Addr} {osl : Array (Option Value)} {Ng N fr : List Str} {js : List Nat} {φ : Addr → Prop} {sf : Str} {n1 : Str}
    {params : Arguments} {body : Expr} {scope : Scope} {t : XK → TE} {lpos : Pos} {pins : List (Addr × Obj)} {σ : L2.St} {H : Hp} {s : Shared} {E : XK} {Q : VK} {R : Value → Shared → Prop}
    (lk : X.K.lookup g = some ⟨oc, od, .func (PySem.W.fnOf x qg pg bg sg dV kV doc pm an cdv ct), osl⟩) (hcg : PySem.W.codeIn X.K cdv qg = true) (Sg : FnScope Ng [sf, a] sg) (hNg : Ng[1]? = some a) (hva : Vis sg a)
    (hG : TriedTo X (k + 1) Ng qg sg g cdv bg a y TT) (hB : X.base.BuiltinsAt X.mg P0) (hcode : X.env.code = .ref c) (hC : ∀ pins σ H s, Inv X pins σ H s → PySem.W.CodeHd s.heap c P) (hcn : ∀ y a, X.env.cells.lookup y = some a → a ∉ X.fs) (S : NScope N [n1] fr scope) (nd : ndefB X.env.scope scope fr = true) (hjs : js.map (fun j => X.N[j]?) = fr.map some)
    (hr : Room (k + 2) X.A) (hgd : X.A.guards = some []) (hdef : defaultsOf params X.env = ([], [])) (hx : Passes (L2N.CX X.prog X.w) X E)
    (hbind : ∀ (q : Str) (cl : List (Str × Addr)) (pm cv ctv : Value) (us : List Value), us.length = 1 → bindArgs (PySem.W.kla_fn "<lambda>" q params body scope cl pm cv ctv) ⟨us, []⟩ = pure ([n1].zip us))
    (hbody : ∀ (A : Around) (outer : List Env) (s : Shared) (H : Hp) (E : XK) (f c' P' : Addr) (cl : List (Str × Addr)) (ws : List (Option V)), Room k (A.deeper (envF ((⟨X.env.qual ++ "<lambda>", params, body, scope⟩ : Lm).nf cl c') f s.heap.objs.size)) → A.guards = some [] → LamAt s H outer f c' P' ⟨X.env.qual ++ "<lambda>", params, body, scope⟩ cl fr ws →
      PE (ncx (L2N.CX X.prog X.w) X.prog X.w X.K X.mg X.base N ((⟨X.env.qual ++ "<lambda>", params, body, scope⟩ : Lm).nf cl c') f A outer s H E) body (t E))
    (I : Inv X pins σ H s) (hT : Tab1 H P (X.env.qual ++ "<lambda>") φ) (h : ∀ c' P' H1, Grew H P (X.env.qual ++ "<lambda>") φ lpos c' P' H1 → TT (fun x E' H' Q' => t E' (startF N [x] (js.map (slotAt σ))) H' Q') (.ref b) H1 Q E)
    (hR : ∀ (f : Addr) (s1 : Shared), X.K.In s1.heap → (∀ args, BindsTo s1 (PySem.W.fnOf x qg pg bg sg dV kV doc pm an cdv ct) args ([sf, a].zip [.ref b, .ref f]) → wpAny (model X.prog X.w) X.A (call (.ref g) args.pos args.kw) (EP X pins σ Q) X.xe s1) → R (.ref f) s1)
    (hd : (a == ("__debug__" : Str)) = false := by decide) (hcd : (a == ("__classdict__" : Str)) = false := by decide) :
    wpAny (model X.prog X.w) X.A (eval (.Lambda params body scope lpos) X.env) R X.xe s := by
  have hfree := ndef_free nd
  have hhas : ∀ y ∈ scope.names, y.2 = .free → ∃ c, X.env.cells.lookup y.1 = some c := fun y hy e => (hfree y hy e).elim (fun z => I.ok.has _ (.inl z)) fun z => I.ok.has _ (.inr z)
  refine lam_mk I hB hcode (hC _ _ _ _ I) hT hdef hhas fun f c' P' pm' ctv H1 s' I1 gr hf hfn' hfr => hR f s' I1.kIn fun args hbs => ?_
  have L1 := LamAt.made (js := js) I1 hcn hf hfn' hfr (Grew.code (φ := φ) gr) (Caps.made I1.ok hfree (ndef_fr nd) hjs)
  have rc : codeAny (model X.prog X.w) X.A (.call (.ref g) args) (CR (L2N.CX X.prog X.w) X.stack X.prog X.w H1 s' Q E) s' := by
    refine run_ofS (N := Ng) (ps := [sf, a]) (us := [.ref b, .ref f]) (vs := [.ref b, .ref f]) lk hcg Sg hr I1.env0 hbs (.cons rfl (.cons rfl .nil)) rfl fun hr' => ?_
    refine hG f s' H1 (.ref b) Q E (fun x E' H' Q' => t E' (startF N [x] (js.map (slotAt σ))) H' Q') hr' (fun W pn xe E' te p1 p2 pe he tk hW => ?_) (h c' P' H1 gr)
    refine ⟨fun pins2 s2 σ2 H2 Q2 I2 h2 => ?_⟩
    refine (pe_lamN (ps := [n1]) (ws := js.map (slotAt σ)) (E := E') (tb := t E') (i := 1) rfl L1 S (fun pm ctv us hl => hbind _ _ _ _ _ us hl) hr' (L2N.passes_call tk hW) hNg hva (pa_cons he pa_nil) (fun s2 H2 L2' hr2 => hbody _ _ s2 H2 E' f c' P' _ _ hr2 hgd L2') hd hcd).run pins2 s2 σ2 H2 Q2 I2 ⟨h2.1, h2.2⟩
  refine wpAny_call (codeAny_mono rc fun r s2 hq => ?_)
  cases r with
  | error e => exact hx pins σ H1 s' e s2 I1 hq
  | ok fl =>
    cases fl with
    | ret u => exact I1.after hq
    | next => exact False.elim hq
    | brk => exact False.elim hq
    | cont => exact False.elim hq

theorem pe_tried {TT : (V → XK → Hp → VK → Prop) → V → Hp → VK → XK → Prop} {x a y qg m : Str} {g c C P P0 : Addr} {k : Nat} {pg : Arguments} {bg : List Stmt} {sg : Scope} {dV kV doc pm cdv ct oc : Value} {an od : Option Addr} {osl : Array (Option Value)} {Ng N fr : List Str} {js : List Nat} {φ : Addr → Prop} {sf n1 : Str}
    {params : Arguments} {body o : Expr} {scope : Scope} {t : XK → TE} {lpos apos pos kpos : Pos} {E : XK} {to : TE} {pl : Sem Bool}
    (ho : PE X o to) (hcl : Cls X.K C) (hm : Meth X.K C m g)
    (lk : X.K.lookup g = some ⟨oc, od, .func (PySem.W.fnOf x qg pg bg sg dV kV doc pm an cdv ct), osl⟩) (hcg : PySem.W.codeIn X.K cdv qg = true) (hb : L2.Binds X.K (PySem.W.fnOf x qg pg bg sg dV kV doc pm an cdv ct) [sf, a] []) (Sg : FnScope Ng [sf, a] sg) (hNg : Ng[1]? = some a) (hva : Vis sg a)
    (hG : TriedTo X (k + 1) Ng qg sg g cdv bg a y TT) (hB : X.base.BuiltinsAt X.mg P0) (hcode : X.env.code = .ref c) (hC : ∀ pins σ H s, Inv X pins σ H s → PySem.W.CodeHd s.heap c P) (hcn : ∀ y a, X.env.cells.lookup y = some a → a ∉ X.fs) (S : NScope N [n1] fr scope) (nd : ndefB X.env.scope scope fr = true) (hjs : js.map (fun j => X.N[j]?) = fr.map some)
    (hr : Room (k + 2) X.A) (hgd : X.A.guards = some []) (hdef : defaultsOf params X.env = ([], [])) (hx : Passes (L2N.CX X.prog X.w) X E)
    (hbind : ∀ (q : Str) (cl : List (Str × Addr)) (pm cv ctv : Value) (us : List Value), us.length = 1 → bindArgs (PySem.W.kla_fn "<lambda>" q params body scope cl pm cv ctv) ⟨us, []⟩ = pure ([n1].zip us))
    (hbody : ∀ (A : Around) (outer : List Env) (s : Shared) (H : Hp) (E : XK) (f c' P' : Addr) (cl : List (Str × Addr)) (ws : List (Option V)), Room k (A.deeper (envF ((⟨X.env.qual ++ "<lambda>", params, body, scope⟩ : Lm).nf cl c') f s.heap.objs.size)) → A.guards = some [] → LamAt s H outer f c' P' ⟨X.env.qual ++ "<lambda>", params, body, scope⟩ cl fr ws →
      PE (ncx (L2N.CX X.prog X.w) X.prog X.w X.K X.mg X.base N ((⟨X.env.qual ++ "<lambda>", params, body, scope⟩ : Lm).nf cl c') f A outer s H E) body (t E))
    (hd : (a == ("__debug__" : Str)) = false := by decide) (hcd : (a == ("__classdict__" : Str)) = false := by decide)
    (ht : eval (.Call (.Attribute o m apos) [.Lambda params body scope lpos] [] pos) X.env = (do
      let ov ← eval o X.env
      standAt apos.atName
      let (f, first) ← holding [ov] (getMethod ov m pl)
      callWith pos f first (backTo pos (starEach [.Lambda params body scope lpos] X.env)) (backToKw pos (keywordEach [] X.env))) := by rfl) :
    PE X (.Call (.Attribute o m apos) [.Lambda params body scope lpos] [] pos) (tTried C m P (X.env.qual ++ "<lambda>") φ lpos to (fun σ x => startF N [x] (js.map (slotAt σ))) TT t E) := by
  refine ⟨fun pins s σ H Q I h => ?_⟩
  refine PySem.W.methodCall_KW (pl := pl) (thn (ho.run pins s σ H _ I h) fun u s1 ⟨x, H1, I1, rx, b, dx, fs, ex, ea, l, hT, q⟩ => ?_) ht
  subst ex
  obtain rfl : u = Value.ref b := rx
  refine getmeth_ok I1 ea hcl hm l ?_
  refine PySem.W.callWith_K (first := [.ref b]) (h₀ := X.base) I.ok.mod.kin hm.kp ?_ (by rfl) (by rfl)
  show wpAny _ _ (spliced ((false, eval (.Lambda params body scope lpos) X.env) :: backTo pos (starEach [] X.env))) _ _ s1
  refine Calls.spliced_cons (tried_run lk hcg Sg hNg hva hG hB hcode hC hcn S nd hjs hr hgd hdef hx hbind hbody I1 hT q (fun f s2 hk hc => ?_) hd hcd)
  refine Calls.spliced_nil ⟨hk, ?_⟩
  exact hc ⟨[.ref b, .ref f], []⟩ (hb s2 [.ref b, .ref f] hk rfl)
theorem pe_triedK {TT : (V → XK → Hp → VK → Prop) → V → Hp → VK → XK → Prop} {x a y qg m : Str} {g c C P P0 : Addr} {k : Nat} {pg : Arguments} {bg : List Stmt} {sg : Scope} {dV kV doc pm cdv ct oc : Value} {an od : Option Addr} {osl : Array (Option Value)} {Ng N fr : List Str} {js : List Nat} {φ : Addr → Prop} {sf n1 : Str}
    {params : Arguments} {body o : Expr} {scope : Scope} {t : XK → TE} {lpos apos pos kpos : Pos} {E : XK} {to : TE} {pl : Sem Bool}
    (ho : PE X o to) (hcl : Cls X.K C) (hm : Meth X.K C m g)
    (lk : X.K.lookup g = some ⟨oc, od, .func (PySem.W.fnOf x qg pg bg sg dV kV doc pm an cdv ct), osl⟩) (hcg : PySem.W.codeIn X.K cdv qg = true) (hb : ∀ (s : Shared) (u v : Value), X.K.In s.heap → BindsTo s (PySem.W.fnOf x qg pg bg sg dV kV doc pm an cdv ct) ⟨[u], [(a, v)]⟩ ([sf, a].zip [u, v])) (Sg : FnScope Ng [sf, a] sg) (hNg : Ng[1]? = some a) (hva : Vis sg a)
    (hG : TriedTo X (k + 1) Ng qg sg g cdv bg a y TT) (hB : X.base.BuiltinsAt X.mg P0) (hcode : X.env.code = .ref c) (hC : ∀ pins σ H s, Inv X pins σ H s → PySem.W.CodeHd s.heap c P) (hcn : ∀ y a, X.env.cells.lookup y = some a → a ∉ X.fs) (S : NScope N [n1] fr scope) (nd : ndefB X.env.scope scope fr = true) (hjs : js.map (fun j => X.N[j]?) = fr.map some)
    (hr : Room (k + 2) X.A) (hgd : X.A.guards = some []) (hdef : defaultsOf params X.env = ([], [])) (hx : Passes (L2N.CX X.prog X.w) X E)
    (hbind : ∀ (q : Str) (cl : List (Str × Addr)) (pm cv ctv : Value) (us : List Value), us.length = 1 → bindArgs (PySem.W.kla_fn "<lambda>" q params body scope cl pm cv ctv) ⟨us, []⟩ = pure ([n1].zip us))
    (hbody : ∀ (A : Around) (outer : List Env) (s : Shared) (H : Hp) (E : XK) (f c' P' : Addr) (cl : List (Str × Addr)) (ws : List (Option V)), Room k (A.deeper (envF ((⟨X.env.qual ++ "<lambda>", params, body, scope⟩ : Lm).nf cl c') f s.heap.objs.size)) → A.guards = some [] → LamAt s H outer f c' P' ⟨X.env.qual ++ "<lambda>", params, body, scope⟩ cl fr ws →
      PE (ncx (L2N.CX X.prog X.w) X.prog X.w X.K X.mg X.base N ((⟨X.env.qual ++ "<lambda>", params, body, scope⟩ : Lm).nf cl c') f A outer s H E) body (t E))
    (hd : (a == ("__debug__" : Str)) = false := by decide) (hcd : (a == ("__classdict__" : Str)) = false := by decide)
    (ht : eval (.Call (.Attribute o m apos) [] [⟨some a, .Lambda params body scope lpos, kpos⟩] pos) X.env = (do
      let ov ← eval o X.env
      standAt apos.atName
      let (f, first) ← holding [ov] (getMethod ov m pl)
      callWith pos f first (backTo pos (starEach [] X.env)) (backToKw pos (keywordEach [⟨some a, .Lambda params body scope lpos, kpos⟩] X.env))) := by rfl) :
    PE X (.Call (.Attribute o m apos) [] [⟨some a, .Lambda params body scope lpos, kpos⟩] pos) (tTried C m P (X.env.qual ++ "<lambda>") φ lpos to (fun σ x => startF N [x] (js.map (slotAt σ))) TT t E) := by
  refine ⟨fun pins s σ H Q I h => ?_⟩
  refine PySem.W.methodCall_KW (pl := pl) (thn (ho.run pins s σ H _ I h) fun u s1 ⟨x, H1, I1, rx, b, dx, fs, ex, ea, l, hT, q⟩ => ?_) ht
  subst ex
  obtain rfl : u = Value.ref b := rx
  refine getmeth_ok I1 ea hcl hm l ?_
  refine PySem.W.callWith_KW0 (first := [.ref b]) (h₀ := X.base) I.ok.mod.kin hm.kp (by rfl) ?_ (by rfl)
  show wpAny _ _ (evalAll ((do let v ← eval (.Lambda params body scope lpos) X.env; standAt pos; pure v) :: [])) _ _ s1
  refine wpAny_evalAll_cons (wpAny_bind (tried_run lk hcg Sg hNg hva hG hB hcode hC hcn S nd hjs hr hgd hdef hx hbind hbody I1 hT q (fun f s2 hk hc => ?_) hd hcd))
  refine wpAny_bind (wpAny_standAt (wpAny_pure (wpAny_evalAll_nil ⟨hk, ?_⟩)))
  exact hc ⟨[.ref b], [(a, .ref f)]⟩ (hb s2 (.ref b) (.ref f) hk)
end
end G
-- Xg
set_option Elab.async false
set_option linter.all false
set_option maxRecDepth 100000
set_option maxHeartbeats 4000000
/-! defs that show containers (repr): no repr is under way; containers' protocols of an own class -/
namespace G
open PySem PySem.Spec PyProof.Rows L2 LamX NdefX
/-- no repr is under way -/
abbrev Gd (A : Around) : Prop := A.guards = some []
theorem Gd.deeper {A : Around} (h : Gd A) (env : Env) : Gd (A.deeper env) := h
/-- what a def promises where no repr is under way -/
structure FnG (P : Program) (w : World) (K : PySem.W.Frag) (mg : Str → Option Value) (base : Heap) (CX : CXT) (k : Nat) (f : Addr) (fd : FuncData) (ps : List Str) (sp : Sp) : Prop where
  len : ∀ vs H Q E, sp vs H Q E → vs.length = ps.length
  run : ∀ (A : Around) (outer : List Env) (s : Shared) (H : Hp) (args : Args) (us : List Value) (vs : List V) (Q : VK) (E : XK), Room k A → Gd A → Env0 P w K mg base A outer s H → BindsTo s fd args (ps.zip us) → Vals vs us → sp vs H Q E →
    codeAny (model P w) A (.call (.ref f) args) (CR CX outer P w H s Q E) s
theorem FnG.mono {P : Program} {w : World} {K : PySem.W.Frag} {mg : Str → Option Value} {base : Heap} {CX : CXT} {j k : Nat} {f : Addr} {fd : FuncData} {ps : List Str} {sp : Sp} (F : FnG P w K mg base CX j f fd ps sp) (h : j ≤ k) : FnG P w K mg base CX k f fd ps sp :=
  ⟨F.len, fun A outer s H args us vs Q E hr => F.run A outer s H args us vs Q E (hr.mono h)⟩
theorem FnG.of {P : Program} {w : World} {K : PySem.W.Frag} {mg : Str → Option Value} {base : Heap} {CX : CXT} {k : Nat} {f : Addr} {fd : FuncData} {ps : List Str} {sp : Sp} (F : FnOk P w K mg base CX k f fd ps sp) : FnG P w K mg base CX k f fd ps sp :=
  ⟨F.len, fun A outer s H args us vs Q E hr _ => F.run A outer s H args us vs Q E hr⟩
/-- THE RULE for such a def -/
theorem fnG_of {CX : CXT} {P : Program} {w : World} {K : PySem.W.Frag} {mg : Str → Option Value} {base : Heap} {k : Nat} {x qual : Str} {st : Stmt} {f : Addr} {fd : FuncData} {N ps : List Str} {sp : Sp} (F : Fun K x qual st f fd) (S : FnScope N ps (defScope st)) (len : ∀ vs H Q E, sp vs H Q E → vs.length = ps.length)
    (hbody : ∀ (cdv : Value) (A : Around) (outer : List Env) (s : Shared) (H : Hp) (vs : List V) (Q : VK) (E : XK), Room k (A.deeper (envOfC qual (defScope st) s.heap.objs.size f cdv)) → Gd (A.deeper (envOfC qual (defScope st) s.heap.objs.size f cdv)) → PySem.W.codeIn K cdv qual = true → sp vs H Q E →
      ∃ t, PSs (cxOf CX P w K mg base N qual (defScope st) f cdv A outer s H E) (defBody st) t ∧ t { nx := fun _ H' => Q .non H', rt := Q } (L2.start N vs) H) : FnG P w K mg base CX (k + 1) f fd ps sp := by
  obtain ⟨oc, od, kV, doc, pm, an, cdv, ct, osl, rfl, lk, hcd⟩ := F.ex
  exact ⟨len, fun A outer s H args us vs Q E hr hg e0 hb r hsp => run_ofS lk hcd S hr e0 hb r (len _ _ _ _ hsp) fun hr' => hbody cdv A outer s H vs Q E hr' (hg.deeper _) hcd hsp⟩
/-- .. that lets nothing out -/
theorem fnG_of0 {P : Program} {w : World} {K : PySem.W.Frag} {mg : Str → Option Value} {base : Heap} {k : Nat} {x qual : Str} {st : Stmt} {f : Addr} {fd : FuncData} {N ps : List Str} {sp : Sp} (F : Fun K x qual st f fd) (S : FnScope N ps (defScope st)) (len : ∀ vs H Q E, sp vs H Q E → vs.length = ps.length)
    (hbody : ∀ (cdv : Value) (A : Around) (outer : List Env) (s : Shared) (H : Hp) (vs : List V) (Q : VK) (E : XK), Room k (A.deeper (envOfC qual (defScope st) s.heap.objs.size f cdv)) → Gd (A.deeper (envOfC qual (defScope st) s.heap.objs.size f cdv)) → PySem.W.codeIn K cdv qual = true → sp vs H Q E →
      ∃ t, PSs (cxOf CX0 P w K mg base N qual (defScope st) f cdv A outer s H E).nox (defBody st) t ∧ t { nx := fun _ H' => Q .non H', rt := Q } (L2.start N vs) H) : FnG P w K mg base CX0 (k + 1) f fd ps sp :=
  fnG_of F S len fun cdv A outer s H vs Q E hr hg hcd hsp => let ⟨t, h, q⟩ := hbody cdv A outer s H vs Q E hr hg hcd hsp; ⟨t, h.nox, q⟩
section
variable {X : Cx} {CX : CXT} {k : Nat} {f C : Addr} {fd : FuncData} {ps : List Str} {sp : Sp} {E : XK} {x m : Str} {p pos : Pos} {e : Expr} {es : List Expr} {t : TA} {pins : List (Addr × Obj)} {σ : L2.St} {H : Hp} {s : Shared}
theorem pe_callG (F : FnG X.prog X.w X.K X.mg X.base CX k f fd ps sp) (hr : Room k X.A) (hgd : Gd X.A) (hg : Gl X x) (hm : X.mg x = some (.ref f)) (hk : PySem.W.keepIn X.K (.ref f) = true) (hb : Binds X.K fd ps []) (hx : Passes CX X E)
    (ha : PA X (e :: es) t) (hdb : (x == ("__debug__" : Str)) = false := by decide) (he : starEach (e :: es) X.env = (false, eval e X.env) :: starEach es X.env := by rfl) (hpl : (backTo pos (starEach es X.env)).any (·.1) = false := by rfl) :
    PE X (.Call (.Name x p) (e :: es) [] pos) (tCall sp [] E t) := by
  refine ⟨fun pins s σ H Q I h => ?_⟩
  refine wpAny_Call_Name_kw (ld_glob I hg hm ?_ hdb)
  refine PySem.W.callWith_K (h₀ := X.base) I.ok.mod.kin hk (thn (ha.run pos pins s σ H _ I h) fun us s1 ⟨vs, H1, I1, r, q⟩ => ⟨I1.kIn, ?_⟩) he hpl
  show wpAny _ _ (call (.ref f) us) _ _ _
  have q : sp (vs ++ []) H1 Q E := q
  rw [List.append_nil] at q
  have hl : us.length = ps.length := by rw [← r.length]; exact F.len _ _ _ _ q
  have b := hb s1 us I1.kIn (by rw [List.append_nil]; exact hl)
  rw [List.append_nil] at b
  refine wpAny_call (codeAny_mono (F.run X.A X.stack s1 H1 ⟨us, []⟩ us vs Q E hr hgd I1.env0 b r q) fun r s' hq => ?_)
  cases r with
  | error e => exact hx pins σ H1 s1 e s' I1 hq
  | ok fl =>
    cases fl with
    | ret u => exact I1.after hq
    | next => exact False.elim hq
    | brk => exact False.elim hq
    | cont => exact False.elim hq
/-- a def run from another place of the same frames -/
theorem run_fnA {A' : Around} {us : List Value} {vs : List V} {Q : VK} {E' : Value → Shared → Prop} (F : FnOk X.prog X.w X.K X.mg X.base CX k f fd ps sp) (hr : Room k A') (hfr : A'.frames = X.A.frames) (hb : Binds X.K fd ps []) (I : Inv X pins σ H s) (r : Vals vs us) (h : sp vs H Q E)
    (hx : ∀ e s', CX X.stack H s E e s' → E' e s') : wpAny (model X.prog X.w) A' (call (.ref f) us) (EP X pins σ Q) E' s := by
  have hl : us.length = ps.length := by rw [← r.length]; exact F.len _ _ _ _ h
  have b := hb s us I.kIn (by rw [List.append_nil]; exact hl)
  rw [List.append_nil] at b
  have e0 : Env0 X.prog X.w X.K X.mg X.base A' X.stack s H := by
    have e := I.env0
    exact ⟨by rw [hfr]; exact e.frames, e.mod, e.bs, e.bsz, e.funs, e.frf, e.hok, e.bare⟩
  refine wpAny_call (codeAny_mono (F.run A' X.stack s H ⟨us, []⟩ us vs Q E hr e0 b r h) fun r s' hq => ?_)
  cases r with
  | error e => exact hx e s' hq
  | ok fl =>
    cases fl with
    | ret u => exact I.after hq
    | next => exact False.elim hq
    | brk => exact False.elim hq
    | cont => exact False.elim hq
end
/-! ### repr of data -/
def rRepr (K : PySem.W.Frag) : List V → Hp → VK → Prop := fun xs H Q => ∃ x d, xs = [x] ∧ Dp K H x d ∧ d.showable = true ∧ d.hasDict = false ∧ d.shown.length ≤ sizeLine ∧ d.depth ≤ 40 ∧ Q (.str d.shown) H
section
variable {X : Cx}
theorem call_repr (hg : Gd X.A) (hu : X.A.units + 64 < cLine) : CallR X (.builtin "repr") (rRepr X.K) := by
  intro pins s σ H xs us Q I r h
  obtain ⟨x, d, rfl, hd, h1, h2, h3, h4, q⟩ := h
  obtain ⟨u, rfl, ru⟩ := vals1 r
  obtain ⟨as, rd⟩ := Dp.reads I d x u hd ru
  cases hd with
  | non =>
    cases ru
    exact PySem.P.repr_of_none ⟨.str _, H, I.tok _, ⟨_, by rw [PyData.shown_none]⟩, q⟩
  | bl b =>
    cases ru
    exact PySem.P.repr_of_bool ⟨.str _, H, I.tok _, ⟨_, by rw [PyData.shown_bool]⟩, q⟩
  | int i =>
    obtain ⟨t, rfl⟩ := ru
    have hz : i.natAbs.log2 < 1920 := by
      simp only [PyData.showable] at h1
      exact of_decide_eq_true h1
    exact PySem.P.repr_of_int hz ⟨.str _, H, I.tok _, ⟨_, by rw [PyData.shown_int]⟩, q⟩
  | str z =>
    obtain ⟨t, rfl⟩ := ru
    rw [PyData.shown_str] at h3
    exact PySem.P.repr_of_str ⟨.str _, H, I.tok _, ⟨_, by rw [PyData.shown_str]⟩, q⟩ h3
  | lst hl ha =>
    cases ru
    exact repr_of_reads' rd h1 (PyData.noDict_hsm h2) hg (by omega) (fun _ _ e => e) (fun h' u tk hk => ⟨.str _, H, I.kept hk, ⟨u, rfl⟩, q⟩) h3
  | tup hl ha =>
    cases ru
    exact repr_of_reads' rd h1 (PyData.noDict_hsm h2) hg (by omega) (fun _ _ e => e) (fun h' u tk hk => ⟨.str _, H, I.kept hk, ⟨u, rfl⟩, q⟩) h3
end

/-! ### containers' protocols of an own class -/
structure Book0 (K : PySem.W.Frag) (C fc fg fs fl : Addr) : Prop where
  cl : Cls K C
  con : PySem.W.findIn K (.ref C) "__contains__" = some (some (.ref fc))
  conF : PySem.W.isFn K (.ref fc) = true
  get : PySem.W.findIn K (.ref C) "__getitem__" = some (some (.ref fg))
  getF : PySem.W.isFn K (.ref fg) = true
  getN : PySem.W.fnIn K fg = true
  set : PySem.W.findIn K (.ref C) "__setitem__" = some (some (.ref fs))
  setF : PySem.W.isFn K (.ref fs) = true
  len : PySem.W.findIn K (.ref C) "__len__" = some (some (.ref fl))
  lenF : PySem.W.isFn K (.ref fl) = true
  noB : PySem.W.findIn K (.ref C) "__bool__" = some none
  noS : PySem.W.noSeq K C = true
section
variable {X : Cx} {k : Nat} {C fc fg fs fl : Addr} {fd : FuncData} {ps : List Str} {sp : Sp} {CX : CXT} {E : XK}
theorem inst_look {pins : List (Addr × Obj)} {σ : L2.St} {H : Hp} {s : Shared} {b dx : Addr} {as : List (Str × V)} (I : Inv X pins σ H s) (e : H b = some (.ins C dx as)) : ∃ od, PySem.W.InstAt s.heap b (PySem.W.instObj C dx) C (some od) := by
  obtain ⟨mA, O, _⟩ := ins_get I.hok e
  obtain ⟨od, J, _⟩ := O.look
  exact ⟨od, J⟩
/-- name not in self -/
def rNotInO (C : Addr) (sp : Sp) (E : XK) : R2 := fun x y H Q => ∃ b dx as, y = .ref b ∧ H b = some (.ins C dx as) ∧ sp [y, x] H (fun r H' => ∃ c, r = .bl c ∧ Q (.bl (!c)) H') E
theorem op_notInO (T : Book0 X.K C fc fg fs fl) (F : FnOk X.prog X.w X.K X.mg X.base CX k fc fd ps sp) (hr : Room k X.A) (hb : Binds X.K fd ps []) (hx : Passes CX X E) : OpR X (compareOp .NotIn) (rNotInO C sp E) := by
  intro pins s σ H x y v u Q I rx ry h
  obtain ⟨b, dx, as, rfl, e, q⟩ := h
  cases ry
  obtain ⟨od, J⟩ := inst_look I e
  obtain ⟨m, hF⟩ := I.fr
  refine PySem.W.notIn_K hF I.ok.mod.kin J T.con T.conF ?_
  refine wpAny_mono (run_fnA (us := [.ref b, v]) (vs := [.ref b, x]) F hr rfl hb I (.cons rfl (.cons rx .nil)) q fun e s' hq => hx pins σ H s e s' I hq) (fun r s1 ⟨z, H1, I1, rz, c, ez, q1⟩ => ?_) fun _ _ z => z
  subst ez
  cases rz
  exact wpAny_truthy_bool ⟨.bl (!c), H1, I1, rfl, q1⟩
/-- o[i] -/
def tItemO (C : Addr) (sp : Sp) (E : XK) (to ti : TE) : TE := fun σ H Q => to σ H fun y H1 => ti σ H1 fun x H2 => ∃ b dx as, y = .ref b ∧ H2 b = some (.ins C dx as) ∧ sp [y, x] H2 Q E
theorem pe_itemO {o i : Expr} {to ti : TE} {pos : Pos} (T : Book0 X.K C fc fg fs fl) (F : FnOk X.prog X.w X.K X.mg X.base CX k fg fd ps sp) (hr : Room (k + 1) X.A) (hb : Binds X.K fd ps []) (hx : Passes CX X E) (ho : PE X o to) (hi : PE X i ti)
    (hsl : ∀ x v, subscripted i true (.ref x) v = runValue (.builtin "lifetime.subscript" ⟨[.ref x, v], []⟩) := by intros; with_unfolding_all rfl) : PE X (.Subscript o i pos) (tItemO C sp E to ti) := by
  refine ⟨fun pins s σ H Q I h => ?_⟩
  refine PyProof.Rows.Subscript_ (thn (ho.run pins s σ H _ I h) fun u s1 ⟨y, H1, I1, ry, q1⟩ => thn (hi.run pins s1 σ H1 _ I1 q1) fun v s2 ⟨x, H2, I2, rx, b, dx, as, ey, e, q2⟩ => ?_)
  subst ey
  obtain rfl : u = Value.ref b := ry
  obtain ⟨od, J⟩ := inst_look I2 e
  obtain ⟨m, hF⟩ := I2.fr
  exact PySem.W.sub_K hF I2.ok.mod.kin J T.get T.getN T.getF (run_fnA (us := [.ref b, v]) (vs := [.ref b, x]) F hr.in1 rfl hb I2 (.cons rfl (.cons rx .nil)) q2 fun e s' hq => hx pins σ H2 s2 e s' I2 hq) (hsl b v)
/-- o[i] = v -/
def rSetO (C : Addr) (sp : Sp) (E : XK) : TSet := fun o i v H Q => ∃ b dx as, o = .ref b ∧ H b = some (.ins C dx as) ∧ sp [o, i, v] H (fun _ H' => Q H') E
theorem set_own (T : Book0 X.K C fc fg fs fl) (F : FnOk X.prog X.w X.K X.mg X.base CX k fs fd ps sp) (hr : Room k X.A) (hb : Binds X.K fd ps []) (hx : Passes CX X E) : PSet X (rSetO C sp E) := by
  intro pins s σ H o i v ov iv u Q I ro ri rv h
  obtain ⟨b, dx, as, rfl, e, q⟩ := h
  cases ro
  obtain ⟨od, J⟩ := inst_look I e
  unfold setItem sequenceKey
  refine wpAny_holding (wpAny_bind (wpAny_bind (J.type.here ?_)))
  refine wpAny_bind ((PySem.W.anyM_none I.kIn T.noS).here ?_)
  rw [if_pos (show (!false) = true from rfl)]
  refine wpAny_pure (wpAny_bind (PySem.W.special_fn I.kIn J T.set (beq_iff_eq.mp T.setF) ?_))
  refine wpAny_mono (run_fnA (us := [.ref b, iv, u]) (vs := [.ref b, i, v]) F hr rfl hb I (.cons rfl (.cons ri (.cons rv .nil))) q fun e s' hq => hx pins σ H s e s' I hq) (fun r s1 ⟨z, H1, I1, rz, q1⟩ => ?_) fun _ _ z => z
  exact wpAny_pure ⟨H1, I1, q1⟩
/-- len(o) -/
def rLenO (C : Addr) (sp : Sp) : List V → Hp → VK → Prop := fun xs H Q => ∃ b dx as, xs = [.ref b] ∧ H b = some (.ins C dx as) ∧ sp [.ref b] H (fun r H' => ∃ n : Nat, r = .int n ∧ n < 2 ^ 62 ∧ Q (.int n) H') fun _ _ _ => False
theorem call_lenO (T : Book0 X.K C fc fg fs fl) (F : FnOk X.prog X.w X.K X.mg X.base C8.CX0 k fl fd ps sp) (hr : Room (k + 1) X.A) (hb : Binds X.K fd ps []) : CallR X (.builtin "len") (rLenO C sp) := by
  intro pins s σ H xs us Q I r h
  obtain ⟨b, dx, as, rfl, e, q⟩ := h
  obtain ⟨u, rfl, ru⟩ := vals1 r
  obtain rfl : u = Value.ref b := ru
  obtain ⟨od, J⟩ := inst_look I e
  obtain ⟨m, hF⟩ := I.fr
  refine PySem.W.len_K hF I.ok.mod.kin J T.len T.lenF (wpAny_mono (run_fnA (us := [.ref b]) (vs := [.ref b]) F hr.in1 rfl hb I (.cons rfl .nil) q fun e s' hq => hq.elim) (fun r s1 ⟨z, H1, I1, rz, n, ez, hn, q1⟩ => ?_) fun _ _ z => z)
  subst ez
  obtain ⟨t, rfl⟩ := rz
  exact ⟨⟨by omega, by omega⟩, .int n, H1, I1.tok _, ⟨_, rfl⟩, q1⟩
/-- bool(o), by len -/
def rBoolO (C : Addr) (sp : Sp) : List V → Hp → VK → Prop := fun xs H Q => ∃ b dx as, xs = [.ref b] ∧ H b = some (.ins C dx as) ∧ sp [.ref b] H (fun r H' => ∃ n : Nat, r = .int n ∧ n < 2 ^ 62 ∧ Q (.bl (decide (n ≠ 0))) H') fun _ _ _ => False

/-- bool(v), by v's truth -/
theorem bool_by {prog : Program} {w : World} {A : Around} {E : Value → Shared → Prop} {s : Shared} {v : Value} {Q : Value → Shared → Prop} (h : wpAny (model prog w) A.in1.in1 (truthy v) (fun r s' => Q (.bool r) s') E s) : wpAny (model prog w) A (call (.type "bool") [v]) Q E s := by
  obtain ⟨c, tl, hmro⟩ := F.called_bool.mro
  have hmade := F.called_bool.made
  have hsub := F.called_bool.sub
  refine wpAny_call (codeAny_of_tree ?_)
  show wpAny _ _ (callAny (.type "bool") _) _ _ _
  refine wpAny_pure ⟨Code.quiet_builtin _ (by decide +kernel), codeAny_builtin F.entry_type_call ?_⟩
  rw [Around.under_plain (weight_type_call_type "bool" [v] []) (units_type_call_type "bool" [v] [])]
  have h1 := F.called_bool.notType
  have h2 := F.called_bool.canCreate
  repeat (any_goals (first | assumption | wp_step))
  have nb : wpAny (model prog w) A.in1.in1 (Builtin.«bool.__new__» ⟨[.type "bool", v], []⟩) (fun fin s' => ∃ r, fin = .done (.ret (.bool r)) ∧ Q (.bool r) s') E s := by
    have f1 := F.conv_sub_bool
    obtain ⟨hp, g, d, tk, os⟩ := s
    repeat (any_goals (first | assumption | (with_reducible refine wpAny_bind (wpAny_mono h (fun r s' q => ?_) fun _ _ z => z)) | wp_step))
    exact ⟨_, rfl, q⟩
  refine codeAny_mono (codeAny_call_builtin (R := fun r s' => match r with | .ok (.ret u) => ∃ b, u = .bool b ∧ Q (.bool b) s' | .ok _ => False | .error e => E e s') F.called_bool.plain F.entry_bool_new (wpAny_of_eq (F.newCall_bool_1 v) (wpAny_mono nb (fun fin s' hq => by obtain ⟨r, rfl, q⟩ := hq; exact ⟨r, rfl, q⟩) fun e s' z => z))) fun r s₁ hr => ?_
  cases r with
  | error e => exact hr
  | ok fl =>
    cases fl with
    | ret obj =>
      obtain ⟨b, rfl, hq⟩ := hr
      have hli := F.called_bool.init.lookup
      have hbi := F.called_bool.init.bind (.bool b)
      have hT : s₁.TypeIs (.bool b) "bool" := rfl
      repeat (any_goals (first | assumption | wp_step))
      refine codeAny_mono (codeAny_call_builtin (R := fun r s' => r = .ok (.ret .none) ∧ Q (.bool b) s') F.called_bool.init.plain F.entry_object_init (F.called_bool.init.check _ _ _ _ _ _ _ _ hT (F.args_object_init_2 _ v) ((object_init_meets hli hmade F.newNe_bool) prog w A.in1 (fun r s' => r = .ok (.ret .none) ∧ Q (.bool b) s') s₁ ⟨hT, rfl, hq⟩))) fun r₂ s₂ hr₂ => ?_
      obtain ⟨rfl, hq⟩ := hr₂
      repeat (any_goals (first | assumption | wp_step))
    | _ => exact hr.elim
theorem call_boolO (T : Book0 X.K C fc fg fs fl) (F : FnOk X.prog X.w X.K X.mg X.base C8.CX0 k fl fd ps sp) (hr : Room (k + 3) X.A) (hb : Binds X.K fd ps []) : CallR X (.type "bool") (rBoolO C sp) := by
  intro pins s σ H xs us Q I r h
  obtain ⟨b, dx, as, rfl, e, q⟩ := h
  obtain ⟨u, rfl, ru⟩ := vals1 r
  obtain rfl : u = Value.ref b := ru
  obtain ⟨od, J⟩ := inst_look I e
  refine bool_by ?_
  have key : wpAny (model X.prog X.w) X.A.in1.in1 (runValue (.builtin "len" ⟨[.ref b], []⟩)) (fun r s' => ∃ (n : Nat) (t : Tok), r = .int n t ∧ EP X pins σ Q (.bool (decide (n ≠ 0))) s') X.xe s := by
    refine wpAny_runValue (codeAny_builtin entry_len ?_)
    rw [Around.under_plainId plain_len _]
    unfold Builtin.«len»
    refine wpAny_bind (m := oneArg "len" _) (wpAny_pure ?_)
    refine wpAny_bind (m := callSpecial? (.ref b) (Str.ofString "__len__")) (PySem.W.special_fn I.kIn J T.len (beq_iff_eq.mp T.lenF) (wpAny_mono (run_fnA (us := [.ref b]) (vs := [.ref b]) F hr.in1.in1.in1 rfl hb I (.cons rfl .nil) q fun e s' hq => hq.elim) (fun r s1 ⟨z, H1, I1, rz, n, ez, hn, q1⟩ => ?_) fun _ _ z => z))
    subst ez
    obtain ⟨t, rfl⟩ := rz
    refine wpAny_bind (wpAny_holding (wpAny_pure ?_))
    refine wpAny_bind (wpAny_letGo ?_)
    show wpAny _ _ (if ((n : Nat) : Int) < 0 then _ else _) _ _ _
    rw [if_neg (by omega)]
    show wpAny _ _ (if ((n : Nat) : Int) ≥ 2 ^ 63 then _ else _) _ _ _
    rw [if_neg (by omega)]
    exact wpAny_bind (wpAny_mkInt (wpAny_pure ⟨n, _, rfl, .bl (decide (n ≠ 0)), H1, I1.tok _, rfl, q1⟩))
  have hsp : ∀ {Q' : Option Value → Shared → Prop}, Q' (some (.ref fl)) s → wpAny (model X.prog X.w) X.A.in1.in1 (specialOf (.ref b) "__len__") Q' X.xe s := fun q => by
    unfold specialOf
    exact wpAny_bind (J.type.here ((PySem.W.looks_findIn I.kIn T.len).here q))
  have hno : ∀ {Q' : Option Value → Shared → Prop}, Q' none s → wpAny (model X.prog X.w) X.A.in1.in1 (callSpecial? (.ref b) "__bool__") Q' X.xe s := fun q => by
    unfold callSpecial? specialOf
    exact wpAny_bind (wpAny_bind (J.type.here ((PySem.W.looks_findIn I.kIn T.noB).here (wpAny_pure q))))
  unfold truthy
  first
    | refine wpAny_bind (hno ?_)
    | refine wpAny_bind (wpAny_pure (wpAny_bind (hno ?_)))
  first
    | refine wpAny_bind (hsp ?_)
    | refine wpAny_bind (wpAny_pure (wpAny_bind (hsp ?_)))
  have fin : ∀ (r : Value) (s' : Shared), (∃ (n : Nat) (t : Tok), r = .int n t ∧ EP X pins σ Q (.bool (decide (n ≠ 0))) s') → ∃ (n : Nat) (t : Tok), r = .int n t ∧ EP X pins σ Q (.bool (((n : Nat) : Int) != 0)) s' := fun r s' ⟨n, t, e, z⟩ => ⟨n, t, e, by
    have e2 : (((n : Nat) : Int) != 0) = decide (n ≠ 0) := by
      cases n with
      | zero => rfl
      | succ m =>
        rw [decide_eq_true (Nat.succ_ne_zero m)]
        exact bne_iff_ne.mpr (by omega)
    rw [e2]
    exact z⟩
  first
    | exact wpAny_bind (wpAny_mono key (fun r s' h' => by obtain ⟨n, t, rfl, hq⟩ := fin r s' h'; exact wpAny_pure hq) fun _ _ e => e)
    | exact wpAny_bind (wpAny_pure (wpAny_bind (wpAny_mono key (fun r s' h' => by obtain ⟨n, t, rfl, hq⟩ := fin r s' h'; exact wpAny_pure hq) fun _ _ e => e)))
end
end G
-- Xh
set_option Elab.async false
set_option linter.all false
set_option maxRecDepth 100000
set_option maxHeartbeats 4000000
/-! enumerate(a tuple); an own exception without arguments; == of an own instance with itself -/
namespace PySem
open Sem (wp)
open AutoSeq1 (wpAny_loadPart')
theorem G_meets_enumerate_newT (l : Addr) (items : Array Value) (n : Nat) (dct : Option Addr) (sl : Array (Option Value)) :
    Meets (Builtin.«enumerate.__new__» ⟨[.type "enumerate", .ref l], []⟩) (fun _ R s => s.heap.get? l = some { cls := .type "tuple", dict := dct, data := .seq items n, slots := sl } ∧
      R (.ok (.ret (.ref (s.heap.push { cls := .type "tuple_iterator", data := .fields #[.ref l, .int 0 0] }).objs.size)))
        { s with heap := (s.heap.push { cls := .type "tuple_iterator", data := .fields #[.ref l, .int 0 0] }).push { cls := .type "enumerate", data := .fields #[.none, .bool false, .ref s.heap.objs.size, rawInt 0, .none, .none] } }) :=
  .of_wp fun prog w A R s h => by
    obtain ⟨hp, g, d, tk, os⟩ := s; obtain ⟨hl, h⟩ := h
    have hsub := sub_enumerate
    have hL : Heap.IsTuple (Shared.heap ⟨hp, g, d, tk, os⟩) l items := ⟨_, hl, rfl, n, rfl⟩
    wp_walk using wpAny_loadPart' hl
    refine wpAny_stack_any fun st => wpAny_pure ?_
    split
    · rename_i c _ _ _ _ _
      cases (c == Value.type "enumerate")
      · wp_walk using wpAny_loadPart' hl, wpAny_pyIter_tuple hL
        exact ⟨_, rfl, h⟩
      · wp_walk using wpAny_loadPart' hl, wpAny_pyIter_tuple hL
        exact ⟨_, rfl, h⟩
    · wp_walk using wpAny_loadPart' hl, wpAny_pyIter_tuple hL
      exact ⟨_, rfl, h⟩
theorem G_call_enumerate_tuple {prog : Program} {w : World} {A : Around} {E : Value → Shared → Prop} {s : Shared} {l : Addr} {items : Array Value} {Q : Value → Shared → Prop} (hL : s.heap.IsTuple l items)
    (h : ∀ h', IsEnum h' (s.heap.objs.size + 1) s.heap.objs.size 0 .none → h'.IsTupleIter s.heap.objs.size l 0 → h'.objs.size = s.heap.objs.size + 2 →
      (∀ b o, s.heap.get? b = some o → h'.get? b = some o) → Q (.ref (s.heap.objs.size + 1)) { s with heap := h' }) :
    wpAny (model prog w) A (call (.type "enumerate") [.ref l]) Q E s := by
  obtain ⟨⟨c, dct, dt, sl⟩, hl, hc, n, hd⟩ := hL
  replace hc : c = .type "tuple" := hc
  replace hd : dt = .seq items n := hd
  subst hc hd
  refine callType_new F.called_enumerate (by decide) (F.typeCall_enumerate_1 _) (F.newCall_enumerate_1 _) (fun obj => F.args_object_init_2 obj _) F.entry_enumerate_new
    (G_meets_enumerate_newT l items n dct sl) ⟨hl, ?_⟩
  have hz : (s.heap.push { cls := .type "tuple_iterator", data := .fields #[.ref l, .int 0 0] }).objs.size = s.heap.objs.size + 1 := Heap.size_push ..
  show _ ∧ _
  rw [hz]
  have he : IsEnum ((s.heap.push { cls := .type "tuple_iterator", data := .fields #[.ref l, .int 0 0] }).push
      { cls := .type "enumerate", data := .fields #[.none, .bool false, .ref s.heap.objs.size, rawInt 0, .none, .none] }) (s.heap.objs.size + 1) s.heap.objs.size 0 .none := by
    have := Heap.get?_push_size (s.heap.push { cls := .type "tuple_iterator", data := .fields #[.ref l, .int 0 0] })
      (o := { cls := .type "enumerate", data := .fields #[.none, .bool false, .ref s.heap.objs.size, rawInt 0, .none, .none] }) rfl
    rw [hz] at this; exact this
  refine ⟨⟨_, he, rfl⟩, h _ he ⟨_, Heap.get?_push_of_some _ (Heap.get?_push_size _ rfl), rfl, rfl⟩ (by rw [Heap.size_push, hz]) fun b o x => Heap.get?_push_of_some _ (Heap.get?_push_of_some _ x)⟩
end PySem
namespace G
open PySem PySem.Spec PyProof.Rows L2 LamX NdefX
/-- the tuple at a, each item in a new pair -/
def IteT (K : PySem.W.Frag) (a : Addr) : It :=
  ⟨fun i H => ∃ (xs : List V) (x : V), SqT K H a xs ∧ xs[i]? = some x, fun i H v H' => ∃ T x, v = .ref T ∧ H T = none ∧ H' = upd H T (.tup [.int (i : Nat), x]) ∧ ∀ xs, SqT K H a xs → xs[i]? = some x, fun i H => ∃ xs : List V, SqT K H a xs ∧ xs.length ≤ i⟩
theorem turn_enumT {P : Program} {w : World} {K : PySem.W.Frag} {elts : List Expr} {kk : Nat} {tpos : Pos} (a e it : Addr) :
    Turn P w K (.Tuple elts kk tpos) (IteT K a) [e, it] e (fun i h => (∃ old, IsEnum h e it ((i : Nat) : Int) old) ∧ h.IsTupleIter it a i ∧ e ≠ it ∧ a ≠ it ∧ a ≠ e) where
  mem := by simp
  obj := fun i h st b hb => by
    obtain ⟨⟨old, he⟩, ⟨o, ho, hc, hd⟩, _⟩ := st
    have e' : b = e ∨ b = it := by simpa using hb
    rcases e' with z | z
    · rw [z]; exact ⟨_, he, fun v q => nomatch q⟩
    · rw [z]; exact ⟨o, ho, fun v q => by rw [hd] at q; cases q⟩
  keep := fun i h h' st k => let ⟨⟨old, he⟩, hi, hne⟩ := st; ⟨⟨old, k e (by simp) _ he⟩, hi.at fun o q => k it (by simp) o q, hne⟩
  item := by
    intro X hP hw hK hc i pins s σ H E I hf st hg
    subst hP hw hK
    obtain ⟨⟨old, he⟩, hit, hne, hai, hae⟩ := st
    obtain ⟨xs, x, hq, hx⟩ := hg
    obtain ⟨its, rv, p, hz⟩ := I.tuple hq
    obtain ⟨u, hu, ru⟩ := rv.get hx
    have hel : e < s.heap.objs.size := Heap.lt_size he
    have hil : it < s.heap.objs.size := by obtain ⟨_, q, _⟩ := hit; exact Heap.lt_size q
    have D := Draws.tuple (prog := X.prog) (w := X.w) (A := X.A.in1) (I.ok.hd hc) it a hai its.toArray
    have hi : i < its.toArray.size := by
      simp only [List.size_toArray]
      exact (List.getElem?_eq_some_iff.mp hu).1
    refine wpAny_pyNext_enum_itemD D he ⟨hit, (show Heap.IsTuple s.heap a its.toArray from p)⟩ hi hne (by simp [hne, Ne.symm hae]) fun y h' tk hy ho hst' hT hsz hk => ?_
    have hyu : y = u := by
      have hy' : its[i]? = some y := by simpa using hy
      rw [hu] at hy'
      exact (Option.some.inj hy').symm
    subst hyu
    refine ⟨_, rfl, wpAny_letOwnedTupleGo_enum (s := { s with heap := h', toks := tk + 1 }) ho fun h'' he' sb => ?_⟩
    have hT2 : h''.get? s.heap.objs.size = some { cls := .type "tuple", data := .seq #[.int i tk, y] } := (sb.2 _ (Nat.ne_of_gt hel)).trans hT
    have new : ObjOk X.prog X.w (upd H s.heap.objs.size (.tup [.int (i : Nat), x])) h'' s.heap.objs.size (.tup [.int (i : Nat), x]) :=
      ⟨by show 2 ≤ sizeLine; decide, [.int i tk, y], .cons ⟨_, rfl⟩ (.cons ru .nil), ⟨_, hT2, rfl, _, rfl⟩⟩
    have I1 : Inv X pins σ (upd H s.heap.objs.size (.tup [.int (i : Nat), x])) { s with heap := h'', toks := tk + 1 } :=
      I.turnedNew (ch := [e, it]) (fun b ob hb q => (sb.2 b (fun z => hb (by simp [z]))).trans (hk b ob (fun z => hb (by simp [z])) (fun z => hb (by simp [z])) q)) hf (Nat.le_refl _) new
    refine ⟨.ref s.heap.objs.size, _, I1, rfl, ⟨_, x, rfl, I.hok.fresh (Nat.le_refl _), rfl, fun ys hy => by rw [I.tuple_inj hy hq]; exact hx⟩, ⟨⟨y, ?_⟩, hst'.1.at fun o q => (sb.2 it (Ne.symm hne)).trans q, hne, hai, hae⟩, fun b hb => ?_⟩
    · have e1 : ((i + 1 : Nat) : Int) = (i : Int) + 1 := by omega
      rw [e1]; exact he'
    · have hb' : b < s.heap.objs.size := by
        have e' : b = e ∨ b = it := by simpa using hb
        rcases e' with z | z
        · rw [z]; exact hel
        · rw [z]; exact hil
      rw [upd_ne (Nat.ne_of_lt hb')]
      exact (hf b hb).1
  done := by
    intro X hP hw hK hc i pins s σ H E I hf st hg
    subst hP hw hK
    obtain ⟨⟨old, he⟩, hit, hne, hai, hae⟩ := st
    obtain ⟨xs, hq, hx⟩ := hg
    obtain ⟨its, rv, p, hz⟩ := I.tuple hq
    obtain ⟨f0, f1, f2, f3, f4, f5⟩ := hf it (by simp)
    have hl := rv.length
    have hT : s.TypeIs (.ref e) "enumerate" := ⟨_, he, rfl⟩
    unfold pyNext
    refine wpAny_bind (wpAny_attempt (wpAny_callSpecial?_slot (name := Str.ofString "__next__") hT F.slot_enumerate_next
      (wpAny_call_entry F.slot_enumerate_next hT F.entry_enumerate_next ?_ (F.args_enumerate_next_1 _))))
    show wpAny _ _ (field (.ref e) 2 >>= _) _ _ _
    refine wpAny_bind (wpAny_field he rfl (x := .ref it) rfl ?_)
    refine wpAny_bind (wpAny_nextOf_tuple_end (A := X.A.in1) (I.ok.hd hc) hit (show Heap.IsTuple s.heap a its.toArray from p) (by simp; omega) fun h' x he' hx' => ?_)
    obtain ⟨o, ho, hcl⟩ := hx'
    refine wpAny_bind (wpAny_isInstance (T := "StopIteration") (b := true) ⟨o, ho, hcl⟩ isSubtype_stop ?_)
    exact wpAny_pure ⟨rfl, I.turned (t' := s.toks) (fun b o hb q => he' b o hb q) f0 f1 f3 f4 f5⟩
  self := fun A i s Q E st h => let ⟨⟨_, he⟩, _⟩ := st; wpAny_pyIter_enum he h
def iEnumT (K : PySem.W.Frag) (ta : TA) : TI := fun σ H R => ta σ H fun vs H1 => ∃ a xs, vs = [.ref a] ∧ SqT K H1 a xs ∧ R (IteT K a) H1
theorem pi_enumT {X : Cx} {e : Expr} {ta : TA} {p pos tpos : Pos} {elts : List Expr} {kk : Nat} (hg : Gl X "enumerate") (hm : X.mg "enumerate" = none) (ha : PA X [e] ta) (hs : starEach [e] X.env = [(false, eval e X.env)] := by rfl) :
    PI X (.Tuple elts kk tpos) (.Call (.Name "enumerate" p) [e] [] pos) (iEnumT X.K ta) := by
  refine ⟨fun pins s σ H R I h => ?_⟩
  refine Call_ (ld_blt I hg hm boot_enumerate (PyProof.Rows.callWith_type1 (thn (ha.run pos pins s σ H _ I h) fun us s1 ⟨vs, H1, I1, r1, q1⟩ => ?_) hs rfl))
  obtain ⟨a, xs, ex, hq, q⟩ := q1
  subst ex
  cases r1 with
  | cons r rr =>
    cases rr
    cases r
    obtain ⟨its, rv, p', hz⟩ := I1.tuple hq
    refine G_call_enumerate_tuple (show Heap.IsTuple s1.heap a its.toArray from p') fun h' he hit hsz hk => wpAny_pyIter_enum he ?_
    have I2 : Inv X pins σ H1 { s1 with heap := h' } := I1.kept (t' := s1.toks) hk
    have al : a < s1.heap.objs.size := p'.lt
    refine ⟨s1.heap.objs.size + 1, [s1.heap.objs.size + 1, s1.heap.objs.size], _, _, H1, rfl, I2, turn_enumT a (s1.heap.objs.size + 1) s1.heap.objs.size, ⟨⟨.none, he⟩, hit, Nat.succ_ne_self _, Nat.ne_of_lt al, Nat.ne_of_lt (Nat.lt_succ_of_lt al)⟩, fun b hb => ?_, q⟩
    have e' : b = s1.heap.objs.size + 1 ∨ b = s1.heap.objs.size := by simpa using hb
    have hle : s1.heap.objs.size ≤ b := by
      rcases e' with z | z
      · rw [z]; exact Nat.le_add_right _ _
      · rw [z]; exact Nat.le_refl _
    exact I1.fpOk hle (I1.hok.fresh hle)
end G
-- Xi
set_option Elab.async false
set_option linter.all false
set_option maxRecDepth 100000
set_option maxHeartbeats 4000000
/-! comparisons with empty containers; an own instance with itself; exceptions without arguments; d[k] that is not there -/
namespace G
open PySem PySem.Spec PyProof.Rows L2 LamX NdefX
theorem bne_of_ne {a b : Nat} (h : a ≠ b) : (a != b) = true := bne_iff_ne.mpr h
section
variable {X : Cx}
/-- xs == ys, xs != ys: one of the two lists (tuples) is empty -/
def rEqE (K : PySem.W.Frag) (neg : Bool) : R2 := fun x y H Q => ∃ a b xs ys, x = .ref a ∧ y = .ref b ∧ ((SqL K H a xs ∧ SqL K H b ys) ∨ (SqT K H a xs ∧ SqT K H b ys)) ∧ (xs = [] ∨ ys = []) ∧ Q (.bl (decide (xs = ys) != neg)) H
theorem dec_nil {α : Type} [DecidableEq α] {xs ys : List α} {k : Bool} (h : xs = [] ∨ ys = []) (hk : k = (xs.length == ys.length)) : k = decide (xs = ys) := by
  rw [hk]
  rcases h with e | e <;> subst e
  · cases ys <;> simp
  · cases xs <;> simp
theorem op_eqE (hu : X.A.units < cLine) : OpR X (compareOp .Eq) (rEqE X.K false) := by
  intro pins s σ H x y v u Q I rx ry h
  obtain ⟨a, b, xs, ys, rfl, rfl, hq, he, q⟩ := h
  obtain rfl : v = Value.ref a := rx
  obtain rfl : u = Value.ref b := ry
  rcases hq with ⟨h1, h2⟩ | ⟨h1, h2⟩
  · obtain ⟨i1, r1, p1, _⟩ := I.list h1
    obtain ⟨i2, r2, p2, _⟩ := I.list h2
    by_cases hl : i1.length = i2.length
    · refine SeqAt.eq_listAt (e := fun _ => true) p1.isList p2.isList (by simpa using hl) hu (fun j h1 h2 => ?_) (fin_bl I q ?_)
      · simp only [List.size_toArray] at h1 h2
        rcases he with e | e <;> subst e
        · cases r1
          simp at h1
        · cases r2
          simp at h2
      · have e := dec_nil (k := true) he (by rw [r1.length, r2.length, hl]; simp)
        rw [← e]
        simp
    · refine SeqAt.eq_list_lengthsAt p1.isList p2.isList (bne_of_ne (by simpa using hl)) hu (fin_bl I q ?_)
      have e := dec_nil (k := false) he (by rw [r1.length, r2.length]; exact (beq_eq_false_iff_ne.mpr hl).symm)
      rw [← e]
      rfl
  · obtain ⟨i1, r1, p1, _⟩ := I.tuple h1
    obtain ⟨i2, r2, p2, _⟩ := I.tuple h2
    refine SeqAt.eq_tupleAt (e := fun _ => true) p1 p2 hu (fun j h1 h2 => ?_) (fin_bl I q ?_)
    · simp only [List.size_toArray] at h1 h2
      rcases he with e | e <;> subst e
      · cases r1
        simp at h1
      · cases r2
        simp at h2
    · have e := dec_nil (k := (xs.length == ys.length)) he rfl
      rw [← e, r1.length, r2.length]
      simp
theorem op_neE (hu : X.A.units < cLine) : OpR X (compareOp .NotEq) (fun x y H Q => ∃ a b xs ys, x = .ref a ∧ y = .ref b ∧ (SqL X.K H a xs ∧ SqL X.K H b ys) ∧ (xs = [] ∨ ys = []) ∧ Q (.bl (!decide (xs = ys))) H) := by
  intro pins s σ H x y v u Q I rx ry h
  obtain ⟨a, b, xs, ys, rfl, rfl, ⟨h1, h2⟩, he, q⟩ := h
  obtain rfl : v = Value.ref a := rx
  obtain rfl : u = Value.ref b := ry
  obtain ⟨i1, r1, p1, _⟩ := I.list h1
  obtain ⟨i2, r2, p2, _⟩ := I.list h2
  by_cases hl : i1.length = i2.length
  · refine SeqAt.RcNeAt.lists (e := fun _ => true) p1.isList p2.isList (by simpa using hl) hu (fun j h1 h2 => ?_) X.prog X.w _ _ (fin_bl I q ?_)
    · simp only [List.size_toArray] at h1 h2
      rcases he with e | e <;> subst e
      · cases r1
        simp at h1
      · cases r2
        simp at h2
    · have e := dec_nil (k := true) he (by rw [r1.length, r2.length, hl]; simp)
      rw [← e]
      simp
  · refine SeqAt.RcNeAt.lists_lengths p1.isList p2.isList (bne_of_ne (by simpa using hl)) hu X.prog X.w _ _ (fin_bl I q ?_)
    have e := dec_nil (k := false) he (by rw [r1.length, r2.length]; exact (beq_eq_false_iff_ne.mpr hl).symm)
    rw [← e]
    rfl
/-- d != e, one of the two dicts empty -/
theorem op_neDE (hu : X.A.units < cLine) : OpR X (compareOp .NotEq) (fun x y H Q => ∃ a b kvs, x = .ref a ∧ y = .ref b ∧ Rd H a (.dK kvs) ∧ H b = some (.dK []) ∧ Q (.bl (!kvs.isEmpty)) H) := by
  intro pins s σ H x y v u Q I rx ry h
  obtain ⟨a, b, kvs, rfl, rfl, ea, eb, q⟩ := h
  obtain rfl : v = Value.ref a := rx
  obtain rfl : u = Value.ref b := ry
  obtain ⟨_, ya, va, ra, da⟩ := (show ObjOk X.prog X.w H s.heap a (.dK kvs) from ea.ok I.hok)
  obtain ⟨_, yb, vb, rb, db⟩ := (show ObjOk X.prog X.w H s.heap b (.dK []) from I.hok b _ eb)
  have hvb : vb = [] := by
    cases rb
    rfl
  subst hvb
  have hits : va.length = ([] : List (Key × Value)).length → PySem.W.KeqHitsP X.prog X.w X.A.in1 s [] va true := fun e => by
    have z : va = [] := List.length_eq_zero_iff.mp e
    rw [z]
    exact .nil
  have hfin : EP X pins σ Q (.bool (!(va.length == ([] : List (Key × Value)).length && true))) s := fin_bl I q (by
    have := ra.length
    cases kvs <;> cases va <;> simp at this ⊢)
  show wpAny _ _ (richCompare .NotEq (.ref a) (.ref b)) _ _ _
  refine wpAny_richCompare_same_room (op := .NotEq) da.typeIs db.typeIs PySem.F.slot_dict_ne (wpAny_call_entry PySem.F.slot_dict_ne da.typeIs PySem.F.entry_dict_ne ?_ (PySem.F.args_dict_ne_2 _ _)) hu
  show wpAny _ _ (Builtin.Dict.dictSlotArgs "__ne__" ⟨[.ref a, .ref b], []⟩ >>= _) _ _ s
  refine wpAny_bind ?_
  unfold Builtin.Dict.dictSlotArgs
  refine wpAny_bind (wpAny_notOrdered_dict da.typeIs ?_)
  show wpAny _ _ (pure (Value.ref a, Value.ref b)) _ _ s
  refine wpAny_pure ?_
  refine wpAny_bind (wpAny_isInstance (T := "dict") db.typeIs PySem.F.sub_dict_dict ?_)
  simp only [Bool.not_true, Bool.false_eq_true, if_false]
  refine wpAny_bind (wpAny_pure (wpAny_bind (wpAny_pure ?_)))
  refine wpAny_bind (PySem.W.samePairsP ya yb da db hits ?_)
  have e : ((va.length == ([] : List (Key × Value)).length && true) == false) = !(va.length == ([] : List (Key × Value)).length && true) := by cases (va.length == ([] : List (Key × Value)).length && true) <;> rfl
  refine wpAny_pure ⟨_, rfl, ?_, ?_⟩
  · exact fun x => nomatch x
  · rw [e]
    exact hfin
end
/-! ### an own instance == itself -/
/-- K tells that the class at C has neither __eq__ nor __ne__ -/
def cmpIn (K : PySem.W.Frag) (C : Addr) : Bool := match K.lookup C with
  | some ⟨.type "type", _, .cls cd, sl⟩ => (match cd.mro, sl.toList with
    | [.ref C', .type "object"], [_, _, _, _, some (.builtin n), _] => C' == C && n == "object.__new__" && !cd.hasDel && PySem.W.nsOkIn K cd.ns && PySem.W.nsIn K cd.ns "__eq__" == some none && PySem.W.nsIn K cd.ns "__ne__" == some none
    | _, _ => false)
  | _ => false
theorem cmpInst_in {K : PySem.W.Frag} {h : Heap} {x C dx : Addr} (X : K.In h) (e : cmpIn K C = true) (hx : h.get? x = some (PySem.W.instObj C dx)) : h.CmpInst x C [.type "object"] := by
  unfold cmpIn at e
  split at e
  · rename_i dd cd sl ho
    split at e
    · rename_i C' k0 k1 k2 k3 n k5 hm hs
      simp only [Bool.and_eq_true, beq_iff_eq, Bool.not_eq_true'] at e
      obtain ⟨⟨⟨⟨⟨rfl, rfl⟩, hdel⟩, hok⟩, h1⟩, h2⟩ := e
      obtain ⟨nm, bs, mro, ns, qn, hd, sn, sub, ab, col, del⟩ := cd
      dsimp only at hm hdel hok h1 h2
      subst hm hdel
      have hsl : sl = #[k0, k1, k2, k3, some (.builtin "object.__new__"), k5] := by
        obtain ⟨l⟩ := sl
        simp only at hs
        rw [hs]
      subst hsl
      exact ⟨_, nm, qn, ns, bs, hd, sn, sub, ab, col, dd, k0, k1, k2, k3, k5, "object.__new__", _, hx, rfl, X _ _ ho, .of_isNs (PySem.W.isNs_of_in X hok), PySem.W.nsMap_none_of_in X hok h1, PySem.W.nsMap_none_of_in X hok h2⟩
    · cases e
  · cases e
section
variable {X : Cx}
theorem op_eqSelf {C : Addr} (hu : X.A.units < cLine) (e : cmpIn X.K C = true) : OpR X (compareOp .Eq) (fun x y H Q => ∃ a dx as, x = .ref a ∧ y = .ref a ∧ H a = some (.ins C dx as) ∧ Q (.bl true) H) := by
  intro pins s σ H x y v u Q I rx ry h
  obtain ⟨a, dx, as, rfl, rfl, ea, q⟩ := h
  obtain rfl : v = Value.ref a := rx
  obtain rfl : u = Value.ref a := ry
  obtain ⟨mA, O, _⟩ := ins_get I.hok ea
  obtain ⟨hp, g, d, tk, os⟩ := s
  exact compareOp_eq_same F.cmp_object (cmpInst_in I.kIn e O.obj) hu (fin_bl I q rfl)
/-! ### exceptions -/
/-- X() -/
theorem pmk_own0 {x : Str} {p pos : Pos} {C : Addr} {bmB : List Value} {B newId initId : String} (F : ExcBaseFacts B newId initId bmB) (q : PySem.W.excIn X.K C bmB newId = true) (gC : X.mg x = some (.ref C)) (kC : PySem.W.keepIn X.K (.ref C) = true) (r : Raises X (.ref C)) (hg : Gl X x)
    (hdb : (x == ("__debug__" : Str)) = false := by decide) : L2N.PMk X (.Call (.Name x p) [] [] pos) (fun _ H Q => Q (.ref C) none H) := by
  intro pins s σ H Q I h
  refine wpAny_Call_Name_kw (ld_glob I hg gC ?_ hdb)
  refine PySem.W.callWith_K0 (first := []) I.kIn kC ?_
  show wpAny _ _ (call (.ref C) []) _ _ _
  obtain ⟨bm, N, nm, qn, bs, hdct, sn, sub, ab, col, dd, k0, k1, k2, k3, k5, mN, hC, hN, hni, T⟩ := exc_obj I.kIn q
  exact wpAny_call_exc_subT F T hC hN hni (fun h' e hm => L2N.mk_of I hm r h (I.hok.gone hm.new)) (by show 0 ≤ sizeLine; rw [sizeLine_eq]; omega)
/-- d[k]: not there -/
theorem pe_dgetXN {W : WX} {o i : Expr} {td ty : TE} {pos : Pos} (hc : X.calm = true) (hu : X.A.units + 1 < cLine) (tk : L2N.Takes X W) (ho : PE X o td) (hi : PE X i ty) (hs : NoSl i) : PE X (.Subscript o i pos) (tDGetX W td ty) := by
  refine ⟨fun pins s σ H Q I h => ?_⟩
  refine subD_of PySem.F.slot_dict_getitem.lookup hs (thn (ho.run pins s σ H _ I h) fun u s1 ⟨x, H1, I1, rx, q1⟩ => thn (hi.run pins s1 σ H1 _ I1 q1) fun iv s2 ⟨y, H2, I2, ry, a, ov, ex, g, qs, qn⟩ => ?_)
  subst ex
  obtain rfl : u = Value.ref a := rx
  refine ⟨dict_typeIs I2 g, ?_⟩
  cases ov with
  | some v => exact d_getItem hu I2 g ry fun w' s3 I3 rw' => ⟨v, H2, I3, rw', qs v rfl⟩
  | none => exact d_missing hu (I2.ok.hd hc) I2 g ry fun h' e t' ne => L2N.takes_newN (t' := t') tk I2 ne (qn rfl)
end
end G
-- Xj
set_option Elab.async false
set_option linter.all false
set_option maxRecDepth 100000
set_option maxHeartbeats 4000000
/-! within an except suite: a def called with the exception itself; isinstance of it, its attributes; a, b = x, y -/
namespace G
open PySem PySem.Spec PyProof.Rows L2 LamX NdefX L2H
/-! ### a def called with the exception itself -/
/-- the exception that is handled: its class, its dict's attribute -/
structure ExAt (p : Addr × Obj) (cls : Value) (d : Option Addr) : Prop where
  z : L2N.Zn cls d p.2
  f : ∃ vs, p.2.data = .fields vs
/-- how a body's walk ends, told to the caller -/
theorem ends_tell {Z : Cx} {P : Program} {w : World} {outer : List Env} {s s' : Shared} {H : Hp} {Q : VK} {fl : Flow} (hp : Z.prog = P) (hw : Z.w = w) (ho : Z.outer = outer) (hs : Z.s_0 = s) (hh : Z.H_0 = H) (hx : Z.ex = []) (q : SP Z [] { nx := fun _ H' => Q .non H', rt := Q } fl s') :
    CR C8.CX0 outer P w H s Q C8.E0 (.ok (match fl with
      | .ret u => .ret u
      | .next => .ret .none
      | z => z)) s' := by
  subst hp hw ho hs hh
  have done_ : ∀ {σ' : L2.St} {H' : Hp}, Inv Z [] σ' H' s' → s'.os = Z.s_0.os ∧ AllBare s'.gens ∧ Un (frs Z.outer) [] Z.H_0 H' Z.s_0.heap s'.heap ∧ HOk Z.prog Z.w H' s'.heap := fun {σ' H'} J => ⟨J.os, J.bare, by have b := J.base; rw [hx] at b; exact b, J.hok⟩
  match fl, q with
  | .ret u, ⟨v, _, H', J, rv, z⟩ =>
    obtain ⟨z1, z2, z3, z4⟩ := done_ J
    exact ⟨v, H', z1, z2, z3, z4, rv, z⟩
  | .next, ⟨_, H', J, z⟩ =>
    obtain ⟨z1, z2, z3, z4⟩ := done_ J
    exact ⟨.non, H', z1, z2, z3, z4, rfl, z⟩
  | .brk, ⟨_, _, _, z⟩ => exact z.elim
  | .cont, ⟨_, _, _, z⟩ => exact z.elim
/-- as run_ofS, while the exception p is handled -/
theorem run_ofSH {CX : CXT} {P : Program} {w : World} {K : PySem.W.Frag} {mg : Str → Option Value} {base : Heap} {k : Nat} {x q : Str} {st : Stmt} {f : Addr} {fd : FuncData} {N ps : List Str} (F : Fun K x q st f fd) (S : FnScope N ps (defScope st))
    {A : Around} {outer : List Env} {s : Shared} {H : Hp} {args : Args} {us : List Value} {vs : List V} {Q : VK} {E : XK} {p : Addr × Obj} (hr : RoomH (k + 1) A) (hpin : PinOk outer H s p) (e0 : Env0 P w K mg base A outer s H) (hb : BindsTo s fd args (ps.zip us)) (r : Vals vs us) (hl : vs.length = ps.length)
    (hbody : ∀ cdv : Value, RoomH k (A.deeper (envOfC q (defScope st) s.heap.objs.size f cdv)) → ∃ t, PSs (cxH CX P w K mg base N q (defScope st) f cdv A outer s H E p) (defBody st) t ∧ t { nx := fun _ H' => Q .non H', rt := Q } (L2.start N vs) H) :
    codeAny (model P w) A (.call (.ref f) args) (CR CX outer P w H s Q E) s := by
  obtain ⟨⟨k1, k2, k3, k4, k5, k6, cdv, k8, k9, efd, look, code⟩, _⟩ := F
  subst efd
  have old := fun b o e => (e0.bs b o e).1
  have here_ := e0.mod.kin.keeps old
  refine codeAny_call_function hr.depth (here_ _ _ look) rfl S.co S.gen rfl (PySem.W.codeRec_of here_ code) (hb _ _ _ _ (wpAny_newFunctionEnv_cells S.kind ?_ fun env ee s1 z => ?_))
  · rintro ⟨n, v⟩ hm
    exact (S.par n (List.of_mem_zip hm).1).imp id fun y => ⟨y, PySem.W.cellsFrom_some _ _ _ (.inl y)⟩
  · subst ee
    obtain ⟨t, tw, ask⟩ := hbody cdv (hr.deeper _)
    refine ⟨(e0.mod.nolimit.keeps old).keeps z.toInCall.keep, codeAny_func (wpAny_mono (tw.run [] s1 _ H _ (inv_startH S hpin e0 hl r z) ask) (fun fl s' w' => ?_) fun _ _ w' => w')⟩
    have e := ends_tell rfl rfl rfl rfl rfl rfl w'
    cases fl <;> first | exact e | exact e.elim
section
variable {X : Cx}
/-- f(e, ..) in an except suite, f's promise told of the exception p; tl: what it then asks -/
theorem pe_callSH {CX : CXT} {x qx : Str} {g : Addr} {k : Nat} {st : Stmt} {fd : FuncData} {N ps : List Str} {p : Addr × Obj} {E : XK} {e : Expr} {es : List Expr} {ta : TA} {tl : List V → Hp → VK → Prop} {np pos : Pos} (F : Fun X.K x qx st g fd) (S : FnScope N ps (defScope st)) (hb : Binds X.K fd ps [])
    (hr : RoomH (k + 1) X.A) (hp : p ∈ X.pn) (hg : Gl X x) (hm : X.mg x = some (.ref g)) (hx : Passes CX X E) (ha : PA X (e :: es) ta)
    (hbody : ∀ (cdv : Value) (s : Shared) (H : Hp) (vs : List V) (Q : VK), RoomH k (X.A.deeper (envOfC qx (defScope st) s.heap.objs.size g cdv)) → vs.length = ps.length → tl vs H Q →
      ∃ t, PSs (cxH CX X.prog X.w X.K X.mg X.base N qx (defScope st) g cdv X.A X.stack s H E p) (defBody st) t ∧ t { nx := fun _ H' => Q .non H', rt := Q } (L2.start N vs) H)
    (nd : (x == ("__debug__" : Str)) = false := by decide) (sp1 : starEach (e :: es) X.env = (false, eval e X.env) :: starEach es X.env := by rfl) (sp2 : (backTo pos (starEach es X.env)).any (·.1) = false := by rfl) :
    PE X (.Call (.Name x np) (e :: es) [] pos) (fun σ H Q => ta σ H fun vs H1 => vs.length = ps.length ∧ tl vs H1 Q) := by
  refine ⟨fun pins s σ H Q I h => wpAny_Call_Name_kw (ld_glob I hg hm (PySem.W.callWith_K (h₀ := X.base) I.ok.mod.kin F.kp (thn (ha.run pos pins s σ H _ I h) fun us s1 ⟨vs, H1, I1, r, hl, q⟩ => ⟨I1.kIn, ?_⟩) sp1 sp2) nd)⟩
  have hu : us.length = ps.length := r.length.symm.trans hl
  have bound := hb s1 us I1.kIn (by rw [List.append_nil, hu])
  rw [List.append_nil] at bound
  obtain ⟨g1, g2, g3, g4, g5⟩ := I1.pin p (List.mem_append_left _ hp)
  have pin : PinOk X.stack H1 s1 p := ⟨g1, g2, fun y => (List.mem_cons.mp (I1.stkSub p.1 y)).elim g3 g4, g5⟩
  show wpAny _ _ (call (.ref g) us) _ _ _
  refine wpAny_call (codeAny_mono (run_ofSH (Q := Q) (E := E) F S hr pin I1.env0 bound r hl fun cdv hr' => hbody cdv s1 H1 vs Q hr' hl q) fun out s' z => ?_)
  match out, z with
  | .error e', z => exact hx pins σ H1 s1 e' s' I1 z
  | .ok (.ret u), z => exact I1.after z
  | .ok .next, z => exact z.elim
  | .ok .brk, z => exact z.elim
  | .ok .cont, z => exact z.elim
/-! ### isinstance, attributes -/
/-- isinstance(e, c), e the exception at p -/
def rIsP (K : PySem.W.Frag) (D a : Addr) (d : Option Addr) : List V → Hp → VK → Prop := fun xs H Q => ∃ (c : V) (cv : Value) (b : Bool), xs = [.ref a, c] ∧ (∀ u, RelV c u → u = cv) ∧ PySem.W.kitOne K (.ref D) cv = some b ∧ (d = none ∨ ∃ dx fs, d = some dx ∧ H dx = some (.xd fs)) ∧ Q (.bl b) H
theorem inst_exc {D : Addr} {d : Option Addr} {p : Addr × Obj} {pins : List (Addr × Obj)} {σ : L2.St} {H : Hp} {s : Shared} (ex : ExAt p (.ref D) d) (hp : p ∈ X.pn) (I : Inv X pins σ H s) (hd : d = none ∨ ∃ dx fs, d = some dx ∧ H dx = some (.xd fs)) : ∃ od, PySem.W.InstAt s.heap p.1 p.2 D od := by
  obtain ⟨hget, _⟩ := I.pin p (List.mem_append_left _ hp)
  obtain ⟨vs, hv⟩ := ex.f
  have hn : PySem.W.notCls p.2 = true := by unfold PySem.W.notCls; rw [hv] <;> rfl
  rcases hd with e | ⟨dx, fs, e, ea⟩
  · refine ⟨none, hget, ex.z.1, hn, ?_⟩
    rw [ex.z.2.1, e]
    trivial
  · obtain ⟨mA, hns, _⟩ := (show ObjOk X.prog X.w H s.heap dx (.xd fs) from I.hok dx _ ea)
    obtain ⟨od, ho, _⟩ := lookIn_ns hns
    refine ⟨some od, hget, ex.z.1, hn, ?_⟩
    rw [ex.z.2.1, e]
    exact ho
theorem call_isP {D : Addr} {d : Option Addr} {p : Addr × Obj} (C : ExcC X.K D) (ex : ExAt p (.ref D) d) (hp : p ∈ X.pn) : CallR X (.builtin "isinstance") (rIsP X.K D p.1 d) := by
  intro pins s σ H xs us Q I r h
  obtain ⟨c, cv, b, rfl, hcv, e, hd, q⟩ := h
  cases r with
  | cons rx rr =>
    cases rr with
    | cons rt rr =>
      cases rr
      cases rx
      have ec := hcv _ rt
      subst ec
      obtain ⟨od, J⟩ := inst_exc ex hp I hd
      have some_ : (PySem.W.clsIn X.K D).isSome = true := by
        obtain ⟨cd, hcd, _⟩ := PySem.W.any_some C.hd
        rw [hcd]
        rfl
      exact PySem.W.kia_one (PySem.W.kitx_exc some_ C.hg C.hk C.hs C.ha C.hn C.ht C.hm) I.kIn J e (fun z => nomatch z) fun tk => ⟨.bl b, H, I.kept (t' := tk) fun _ _ z => z, rfl, q⟩
/-- e.n -/
theorem pe_xfP {C : Addr} {cls : Value} {d : Option Addr} {p : Addr × Obj} {e : Expr} {te : TE} {pos : Pos} {n : Str} (T : XfC X.K C) (hno : PySem.W.findIn X.K (.ref C) n = some none)
    (ex : ExAt p cls d) (hp : p ∈ X.pn) (he : PE X e te) (hb : attributeBase e n X.env (eval e X.env) = eval e X.env := by rfl) : PE X (.Attribute e n pos) (tXf p.1 cls d C n te) := by
  refine ⟨fun pins s σ H Q I h => attr_of hb (thn (he.run pins s σ H _ I h) ?_)⟩
  rintro u s1 ⟨_, H1, I1, hu, rfl, rfl, dd, fs, v, rfl, at_, look, q⟩
  obtain rfl : u = Value.ref p.1 := hu
  obtain ⟨mm, isNs, rel⟩ := (show ObjOk X.prog X.w H1 s1.heap dd (.xd fs) from I1.hok dd _ at_)
  obtain ⟨od, z1, z2⟩ := lookIn_ns isNs
  have rn := rel n
  rw [look] at rn
  obtain ⟨y, ey, ry⟩ := RelO.some_of rn
  obtain ⟨us, eus⟩ := ex.f
  have inst : PySem.W.InstAt s1.heap p.1 p.2 C (some od) := by
    refine ⟨(I1.pin p (List.mem_append_left _ hp)).1, ex.z.1, ?_, by rw [ex.z.2.1]; exact z1⟩
    unfold PySem.W.notCls
    rw [eus] <;> rfl
  have found := PySem.W.findObj_own (od := od) T.hdC hno rfl ((z2 n).trans (congrArg some ey))
  exact HandSPX.exc_get I1.kIn inst T.ga T.gg T.exC found (handed_of ry) ⟨v, H1, I1.tok _, ry, q⟩
end
/-! ### a, b = x, y while an exception is handled -/
section
variable {prog : Program} {w : World} {A : Around} {E : Value → Shared → Prop} {s : Shared}
open HotX PyProof.Rows in
/-- a tuple's iterator at its end, while an exception is handled: StopIteration is made with that context, and kept within -/
theorem tup_end_hot {it t hx : Addr} {i : Nat} {items : Array Value} {Q : Option Value → Shared → Prop} (hot : HotAt A hx s.heap) (ne : hx ≠ it) (isI : IsTupIter s.heap it t i) (isT : IsTup s.heap t items) (past : items[i]? = none)
    (h : ∀ h2, Heap.ExtBut it s.heap h2 → Q none { s with heap := h2 }) : wpAny (model prog w) A (pyNext (.ref it)) Q E s := by
  obtain ⟨oi, getI, _, dataI⟩ := id isI
  obtain ⟨ot, getT, _, _, dataT⟩ := isT
  obtain ⟨hd, oh, hv, getH, dataH, ctxH⟩ := hot
  have notNone : ¬ ((Value.ref t == Value.none) = true) := Bool.false_ne_true
  have othH : ∀ f, (s.heap.update it f).get? hx = some oh := fun f => (Heap.get?_update_other s.heap f (Ne.symm ne)).trans getH
  unfold pyNext
  refine wpAny_bind (wpAny_attempt (wpAny_callSpecial?_slot (name := Str.ofString "__next__") isI.typeIs slot_tupleiter_next (wpAny_call_entry slot_tupleiter_next isI.typeIs entry_tupleiter_next ?_ (args_tupleiter_next _))))
  refine wpAny_bind (m := field (.ref it) 0) (wpAny_field getI dataI (x := .ref t) rfl ?_)
  show wpAny _ _ (if (Value.ref t == Value.none) = true then _ else field (.ref it) 1 >>= _) _ _ _
  rw [if_neg notNone]
  refine wpAny_bind (wpAny_field getI dataI (x := .int i 0) rfl (wpAny_bind (m := seqItems? (.ref t)) (wpAny_seqItems getT dataT ?_)))
  simp only [past, Int.toNat_natCast]
  refine wpAny_bind (wpAny_rule (wpAny_bind (wpAny_setField getI dataI (by simp) (wpAny_bind (m := newExc (.type "StopIteration") []) ?_))))
  unfold newExc newTuple
  have stay : ∀ (o1 o2 : Obj) (f : Obj → Obj) {b : Addr} {o : Obj}, b ≠ it → s.heap.get? b = some o → (((s.heap.update it f).push o1).push o2).get? b = some o := fun o1 o2 f {b o} nb e =>
    Heap.get?_push_of_some o2 (Heap.get?_push_of_some o1 ((Heap.get?_update_other s.heap f (Ne.symm nb)).trans e))
  refine wpAny_bind (wpAny_newObj_type (wpAny_bind (m := firstArgMember (.type "StopIteration") []) (wpAny_of_eq (a := Value.none) (by first | rfl | (unfold firstArgMember; rfl)) (wpAny_newObj_type ?_ (by size_fits)))) (by size_fits))
  refine raiseNew_hot (x1 := hx) ⟨hd, oh, hv, stay _ _ _ ne getH, dataH, ctxH⟩ (Nat.ne_of_lt (Heap.lt_size (Heap.get?_push_of_some _ (othH _)))) (Heap.get?_push_size _ rfl) rfl (by first | (simp; done) | (simp; omega)) ?_
  refine wpAny_bind (wpAny_isInstance (T := "StopIteration") (b := true) ⟨_, Heap.get?_update_self _ (Heap.get?_push_size _ rfl) rfl, rfl⟩ isSubtype_stop (wpAny_pure (h _ fun b o nb e => ?_)))
  rw [Heap.get?_update_other _ _ (Nat.ne_of_gt (Heap.lt_size (Heap.get?_push_of_some _ ((Heap.get?_update_other s.heap _ (Ne.symm nb)).trans e))))]
  exact stay _ _ _ nb e
open HotX PyProof.Rows in
/-- all items of a tuple, while an exception is handled -/
theorem tup_items_hot {t hx : Addr} {items : Array Value} {Q : List Value → Shared → Prop} (hot : HotAt A hx s.heap) (isT : IsTup s.heap t items)
    (h : ∀ h2, Heap.ExtBut s.heap.objs.size s.heap h2 → Q items.toList { s with heap := h2 }) : wpAny (model prog w) A (unpackItems (.ref t) items.size none) Q E s := by
  have tOld : t ≠ s.heap.objs.size := let ⟨_, e, _⟩ := isT; Nat.ne_of_lt (Heap.lt_size e)
  obtain ⟨hd, oh, hv, getH, dataH, ctxH⟩ := hot
  have hOld : hx ≠ s.heap.objs.size := Nat.ne_of_lt (Heap.lt_size getH)
  have whole : List.take items.size (List.drop 0 items.toList) = items.toList := List.take_of_length_le (by simp)
  unfold unpackItems
  refine wpAny_bind (m := notIterableAtAll (.ref t)) ?_
  unfold notIterableAtAll
  refine wpAny_bind (wpAny_specialOf isT.typeIs slot_tuple_iter.lookup (wpAny_pure ?_))
  rw [if_neg Bool.false_ne_true]
  refine wpAny_bind (wpAny_holding (iter_tuple isT (wpAny_bind (wpAny_holding (draw_tuple tOld items.size 0 _ _ ⟨_, Heap.get?_push_size _ rfl, rfl, rfl⟩ (isT.push _) (by omega) fun h1 itAt x1 => ?_)))))
  rw [whole, if_neg (by simp)]
  have next_ := x1.extBut
  refine wpAny_bind (wpAny_holding (tup_end_hot (hx := hx) ⟨hd, oh, hv, next_ hx oh hOld (Heap.get?_push_of_some _ getH), dataH, ctxH⟩ hOld itAt ((isT.push _).extBut next_ tOld) (by simp) fun h2 x2 => ?_))
  rw [if_neg (by simp)]
  exact wpAny_pure (h h2 fun b o nb e => x2 b o nb (next_ b o nb (Heap.get?_push_of_some _ e)))
end
/-- a, b = x, y for two locals -/
theorem ps_parH {X : Cx} {i j : Nat} {x y : Str} {a b : Expr} {ta : TA} {px py pt : Pos} {kt k2 pt2 pos} (hc : HotC X) (hN : X.N.Nodup) (hi : X.N[i]? = some x) (hj : X.N[j]? = some y) (hij : i ≠ j)
    (lx : X.env.scope.names.lookup x = some .local) (ly : X.env.scope.names.lookup y = some .local) (ha : PA X [a, b] ta) (sw : swappedStores [.Tuple [.Name x px, .Name y py] kt pt] (.Tuple [a, b] k2 pt2) X.env = pure (some [x, y]))
    (so : swapsWithSole [.Tuple [.Name x px, .Name y py] kt pt] (.Tuple [a, b] k2 pt2) pos.line X.env = pure false := by rfl) : PS X (.Assign [.Tuple [.Name x px, .Name y py] kt pt] (.Tuple [a, b] k2 pt2) pos) (tPar i j ta) := by
  refine ⟨fun pins s σ H D I h => ?_⟩
  rw [exec_Assign_arm, so]
  refine wpAny_bind (wpAny_standAt (wpAny_bind (wpAny_pure ?_)))
  rw [if_neg Bool.false_ne_true]
  refine wpAny_bind (Tuple_ (thn (ha.run _ pins s σ H _ I h) ?_))
  rintro us s1 ⟨_, H1, I1, rs, v, w, rfl, ask⟩
  obtain ⟨u, rs2⟩ : ∃ u, ∃ z, us = [u, z] ∧ RelV v u ∧ RelV w z := by
    match us, rs with
    | [_, _], .cons r1 (.cons r2 .nil) => exact ⟨_, _, rfl, r1, r2⟩
  obtain ⟨z, rfl, rv, rw_⟩ := rs2
  refine wpAny_newObj_type ?_ (show 2 ≤ sizeLine by decide)
  have J1 := I1.kept (t' := s1.toks) (h' := s1.heap.push { cls := .type "tuple", data := .seq #[u, z] }) fun _ _ e => Heap.get?_push_of_some _ e
  obtain ⟨hx, hot⟩ := hc.at J1
  rw [sw]
  refine wpAny_bind (wpAny_pure (wpAny_bind (wpAny_rule (wpAny_bind (m := unpackItems (.ref s1.heap.objs.size) 2 none) (tup_items_hot (items := #[u, z]) hot (IsTup.new s1.heap _) fun h2 x2 => ?_)))))
  have J2 := J1.kept (h' := h2) (t' := s1.toks) fun q _ e => x2 q _ (Nat.ne_of_lt (Heap.lt_size e)) e
  refine wpAny_bind (m := assignInOrder [fun v => bindName X.env y v, fun v => bindName X.env x v] [z, u]) (assignInOrder_cons (wpAny_bindName (store_ok J2 hN hj (.inl ly) rw_ (fun s2 J3 => assignInOrder_cons (wpAny_bindName (store_ok J3 hN hi (.inl lx) rv (fun s3 J4 => assignInOrder_nil (wpAny_pure ?_)) (.inr lx)))) (.inr ly))))
  have ord := List.set_comm (some w) (some v) (l := σ) (Ne.symm hij)
  rw [ord] at J4
  exact ⟨_, H1, J4, ask⟩
end G
-- Xk
set_option Elab.async false
set_option linter.all false
set_option maxRecDepth 100000
set_option maxHeartbeats 4000000
/-! small rules: o.f as a target, count of bools; heaps: what stays but for some addresses -/
namespace G
open PySem PySem.Spec PyProof.Rows L2 LamX NdefX
section
variable {X : Cx}
def gFld (K : PySem.W.Frag) (ta : TE) (f : Str) : TG := fun v σ H Q => ta σ H fun x H1 => ∃ a C dx fs, x = .ref a ∧ H1 a = some (.ins C dx fs) ∧ Cls K C ∧ NoAttr K C f ∧ fs.length < 1000 ∧ Q σ (upd H1 a (.ins C dx (putF f v fs)))
theorem pg_fld {o : Expr} {ta : TE} {f : Str} {pos : Pos} (ha : PE X o ta) : PG X (.Attribute o f pos) (gFld X.K ta f) := by
  refine ⟨fun pins s σ H v u Q I rv h => ?_⟩
  rw [arm_assign_Attribute]
  refine wpAny_bind (wpAny_holding (thn (ha.run pins s σ H _ I h) fun ov s1 ⟨x, H1, I1, rx, a, C, dx, fs, ex, ea, c, n, l, q⟩ => ?_))
  subst ex
  obtain rfl : ov = Value.ref a := rx
  first
  | exact wpAny_bind (wpAny_standAt (wpAny_bind (wpAny_holding (setattr_ok I1 ea c n l rv fun s3 I3 => wpAny_pure ⟨σ, _, I3, q⟩))))
  | exact wpAny_bind (wpAny_standAt (wpAny_holding (setattr_ok I1 ea c n l rv fun s3 I3 => ⟨σ, _, I3, q⟩)))
  | exact wpAny_bind (wpAny_standAt (wpAny_bind (wpAny_holding (setattr_ok I1 ea c n l rv fun s3 I3 => wpAny_release ⟨σ, _, I3, q⟩))))
/-! ### xs.count(True) of bools -/
def rCntB (K : PySem.W.Frag) : V → List V → Hp → VK → Prop := fun x vs H Q => ∃ (p : Addr) (bs : List Bool), x = .ref p ∧ vs = [.bl true] ∧ SqL K H p (bs.map V.bl) ∧ Q (.int (bs.countP id : Nat)) H
def isTrueV : Value → Bool
  | .bool b => b
  | _ => false
theorem count_vals : ∀ {bs : List Bool} {its : List Value}, Vals (bs.map V.bl) its → its.countP isTrueV = bs.countP id ∧ ∀ y ∈ its, ∃ b, y = .bool b
  | [], _, .nil => ⟨rfl, fun y h => by cases h⟩
  | b :: bs, _, .cons r t => by
    obtain ⟨h1, h2⟩ := count_vals t
    obtain rfl := (show _ = Value.bool b from r)
    refine ⟨?_, fun y h => ?_⟩
    · rw [List.countP_cons, List.countP_cons, h1]
      rfl
    · rcases List.mem_cons.mp h with e | h
      · exact ⟨b, e⟩
      · exact h2 y h
theorem mt_cntB : MtR X "list.count" (rCntB X.K) := by
  intro pins s σ H x xs v us Q I rx rxs h
  obtain ⟨p, bs, rfl, rfl, hs, q⟩ := h
  cases rx
  obtain ⟨u, rfl, ru⟩ := rxs.one
  obtain rfl : u = Value.bool true := ru
  obtain ⟨its, rv, ⟨⟨cls, dd, data, sl⟩, n, ho, hc, hdn, hd⟩, hlen⟩ := I.list hs
  simp only at hc hd
  subst hc hd
  obtain ⟨ec, hb⟩ := count_vals rv
  refine call_meets PySem.F.slot_list_count ⟨_, ho, rfl⟩ PySem.F.entry_list_count (PySem.F.args_list_count_2 _ _)
    (SeqAt.list_countAt p its.toArray n dd sl (.bool true) isTrueV) ⟨ho, fun y hy => ?_, ?_⟩
  · obtain ⟨b, rfl⟩ := hb y (by simpa using hy)
    have e := SeqAt.EqAt.bool_bool (A := X.A.in1) (s := s) b true
    have e2 : (b == true) = isTrueV (.bool b) := by cases b <;> rfl
    rw [e2] at e
    exact e
  · refine ⟨.int (bs.countP id : Nat), H, I.tok _, ⟨s.toks, ?_⟩, q⟩
    show Value.int ((its.toArray.toList.countP isTrueV : Nat) : Int) s.toks = Value.int ((bs.countP id : Nat) : Int) s.toks
    rw [show its.toArray.toList.countP isTrueV = bs.countP id from ec]
end
/-! ### heaps -/
/-- what was tracked is as it was, but for what stands at M -/
def Ex (M : List Addr) (H H' : Hp) : Prop := ∀ a o, a ∉ M → H a = some o → H' a = some o
theorem Ex.refl (M : List Addr) (H : Hp) : Ex M H H := fun _ _ _ h => h
theorem Ex.trans {M : List Addr} {H H1 H2 : Hp} (a : Ex M H H1) (b : Ex M H1 H2) : Ex M H H2 := fun c o n h => b c o n (a c o n h)
theorem Ex.mono {M M' : List Addr} {H H' : Hp} (e : Ex M H H') (h : ∀ a ∈ M, a ∈ M') : Ex M' H H' := fun a o n q => e a o (fun z => n (h a z)) q
theorem Ex.sub {M : List Addr} {H H' : Hp} (e : Ex [] H H') : Ex M H H' := e.mono fun _ z => absurd z (by simp)
theorem Ex.new {M : List Addr} {H H' : Hp} {p : Addr} {o : HO} (e : Ex M H H') (h : H' p = none) : Ex M H (upd H' p o) := fun a u n q => by
  have q' := e a u n q
  rw [upd_ne (ne_of_none q' h)]
  exact q'
theorem Ex.new0 {M : List Addr} {H : Hp} {p : Addr} {o : HO} (h : H p = none) : Ex M H (upd H p o) := (Ex.refl M H).new h
theorem Ex.put {M : List Addr} {H H' : Hp} {p : Addr} {o : HO} (e : Ex M H H') (h : p ∈ M) : Ex M H (upd H' p o) := fun a u n q => by
  rw [upd_ne fun z => n (by rw [z]; exact h)]
  exact e a u n q
/-- an object that was not there may change -/
theorem Ex.mut {M : List Addr} {H H' : Hp} {p : Addr} {o : HO} (e : Ex M H H') (h : H p = none) : Ex M H (upd H' p o) := fun a u n q => by
  rw [upd_ne (ne_of_none q h)]
  exact e a u n q
theorem Ex.none_back {M : List Addr} {H H' : Hp} {p : Addr} (e : Ex M H H') (n : p ∉ M) (h : H' p = none) : H p = none := by
  cases q : H p with
  | none => rfl
  | some o =>
    rw [e p o n q] at h
    cases h
/-- .. without what was new -/
theorem Ex.cut {M N : List Addr} {H H' : Hp} (e : Ex (M ++ N) H H') (h : ∀ a ∈ N, H a = none) : Ex M H H' := fun a o n q => e a o (fun z => by
  rcases List.mem_append.mp z with z | z
  · exact n z
  · rw [h a z] at q
    cases q) q
end G
-- Mth
set_option Elab.async false
set_option linter.all false
set_option maxRecDepth 100000
set_option maxHeartbeats 4000000
/-! the mathematics: products of powers of 2, 3, 5, 7 and their roots -/
namespace M
/-! ### a prime by its residues -/
def Pr (p : Nat) : Prop := 2 ≤ p ∧ ∀ m n : Nat, m % p ≠ 0 → n % p ≠ 0 → (m * n) % p ≠ 0
theorem pr_of {p : Nat} (hp : 2 ≤ p) (h : ∀ a, a < p → ∀ b, b < p → a ≠ 0 → b ≠ 0 → a * b % p ≠ 0) : Pr p := ⟨hp, fun m n hm hn => by
  rw [Nat.mul_mod]
  exact h _ (Nat.mod_lt _ (by omega)) _ (Nat.mod_lt _ (by omega)) hm hn⟩
theorem pr2 : Pr 2 := pr_of (by decide) (by decide)
theorem pr3 : Pr 3 := pr_of (by decide) (by decide)
theorem pr5 : Pr 5 := pr_of (by decide) (by decide)
theorem pr7 : Pr 7 := pr_of (by decide) (by decide)
theorem Pr.pow {p : Nat} (h : Pr p) {m : Nat} (hm : m % p ≠ 0) : ∀ k, (m ^ k) % p ≠ 0
  | 0 => by
    have := h.1
    rw [Nat.pow_zero, Nat.mod_eq_of_lt (by omega)]
    decide
  | k + 1 => by
    rw [Nat.pow_succ]
    exact h.2 _ _ (h.pow hm k) hm
theorem split {p : Nat} (hp : 2 ≤ p) : ∀ n, 0 < n → ∃ a m, n = p ^ a * m ∧ m % p ≠ 0 := by
  intro n
  induction n using Nat.strongRecOn with
  | _ n ih =>
    intro hn
    by_cases h : n % p = 0
    · have hd : n = p * (n / p) := (Nat.mul_div_cancel' (Nat.dvd_of_mod_eq_zero h)).symm
      have hlt : n / p < n := Nat.div_lt_self hn (by omega)
      have hpos : 0 < n / p := by
        rcases Nat.eq_zero_or_pos (n / p) with z | z
        · rw [z] at hd
          omega
        · exact z
      obtain ⟨a, m, e, hm⟩ := ih _ hlt hpos
      refine ⟨a + 1, m, ?_, hm⟩
      rw [hd, e, Nat.pow_succ, Nat.mul_comm (p ^ a) p, Nat.mul_assoc]
    · exact ⟨0, n, by simp, h⟩
theorem uniq {p : Nat} (hp : 2 ≤ p) : ∀ a b m n : Nat, p ^ a * m = p ^ b * n → m % p ≠ 0 → n % p ≠ 0 → a = b ∧ m = n
  | 0, 0, m, n, e, _, _ => ⟨rfl, by simpa using e⟩
  | 0, b + 1, m, n, e, hm, _ => by
    exfalso
    apply hm
    rw [Nat.pow_zero, Nat.one_mul, Nat.pow_succ, Nat.mul_comm (p ^ b) p, Nat.mul_assoc] at e
    rw [e]
    exact Nat.mul_mod_right _ _
  | a + 1, 0, m, n, e, _, hn => by
    exfalso
    apply hn
    rw [Nat.pow_zero, Nat.one_mul, Nat.pow_succ, Nat.mul_comm (p ^ a) p, Nat.mul_assoc] at e
    rw [← e]
    exact Nat.mul_mod_right _ _
  | a + 1, b + 1, m, n, e, hm, hn => by
    rw [Nat.pow_succ, Nat.pow_succ, Nat.mul_comm (p ^ a) p, Nat.mul_comm (p ^ b) p, Nat.mul_assoc, Nat.mul_assoc] at e
    obtain ⟨h1, h2⟩ := uniq hp a b m n (Nat.eq_of_mul_eq_mul_left (by omega) e) hm hn
    exact ⟨by rw [h1], h2⟩
theorem pow_exp {p : Nat} (h : Pr p) {a m k r : Nat} (hk : 1 ≤ k) (e : r ^ k = p ^ a * m) (hm : m % p ≠ 0) : k ∣ a := by
  have hp := h.1
  have hr : 0 < r := by
    rcases Nat.eq_zero_or_pos r with z | z
    · rw [z, Nat.zero_pow hk] at e
      have h1 : 0 < p ^ a := Nat.pow_pos (by omega)
      rcases Nat.mul_eq_zero.mp e.symm with h2 | h2
      · omega
      · rw [h2] at hm
        simp at hm
    · exact z
  obtain ⟨b, n, e2, hn⟩ := split hp r hr
  rw [e2, Nat.mul_pow, ← Nat.pow_mul] at e
  obtain ⟨h1, _⟩ := uniq hp _ _ _ _ e (h.pow hn k) hm
  exact ⟨b, by rw [← h1, Nat.mul_comm]⟩
/-! ### products of four powers -/
def N (a b c d : Nat) : Nat := 2 ^ a * 3 ^ b * 5 ^ c * 7 ^ d
theorem N_pow (a b c d k : Nat) : N a b c d ^ k = N (a * k) (b * k) (c * k) (d * k) := by
  unfold N
  rw [Nat.mul_pow, Nat.mul_pow, Nat.mul_pow, ← Nat.pow_mul, ← Nat.pow_mul, ← Nat.pow_mul, ← Nat.pow_mul]
theorem N_iff {a b c d k : Nat} (hk : 1 ≤ k) : (∃ r, r ^ k = N a b c d) ↔ k ∣ a ∧ k ∣ b ∧ k ∣ c ∧ k ∣ d := by
  constructor
  · rintro ⟨r, e⟩
    unfold N at e
    refine ⟨?_, ?_, ?_, ?_⟩
    · refine pow_exp (p := 2) (m := 3 ^ b * (5 ^ c * 7 ^ d)) pr2 hk (by rw [e]; ac_rfl) (pr2.2 _ _ (pr2.pow (by decide) b) (pr2.2 _ _ (pr2.pow (by decide) c) (pr2.pow (by decide) d)))
    · refine pow_exp (p := 3) (m := 2 ^ a * (5 ^ c * 7 ^ d)) pr3 hk (by rw [e]; ac_rfl) (pr3.2 _ _ (pr3.pow (by decide) a) (pr3.2 _ _ (pr3.pow (by decide) c) (pr3.pow (by decide) d)))
    · refine pow_exp (p := 5) (m := 2 ^ a * (3 ^ b * 7 ^ d)) pr5 hk (by rw [e]; ac_rfl) (pr5.2 _ _ (pr5.pow (by decide) a) (pr5.2 _ _ (pr5.pow (by decide) b) (pr5.pow (by decide) d)))
    · refine pow_exp (p := 7) (m := 2 ^ a * (3 ^ b * 5 ^ c)) pr7 hk (by rw [e]; ac_rfl) (pr7.2 _ _ (pr7.pow (by decide) a) (pr7.2 _ _ (pr7.pow (by decide) b) (pr7.pow (by decide) c)))
  · rintro ⟨⟨a', rfl⟩, ⟨b', rfl⟩, ⟨c', rfl⟩, ⟨d', rfl⟩⟩
    refine ⟨N a' b' c' d', ?_⟩
    rw [N_pow, Nat.mul_comm a', Nat.mul_comm b', Nat.mul_comm c', Nat.mul_comm d']
theorem N_pos (a b c d : Nat) : 0 < N a b c d := by
  unfold N
  have h1 : 0 < 2 ^ a := Nat.pow_pos (by decide)
  have h2 : 0 < 3 ^ b := Nat.pow_pos (by decide)
  have h3 : 0 < 5 ^ c := Nat.pow_pos (by decide)
  have h4 : 0 < 7 ^ d := Nat.pow_pos (by decide)
  exact Nat.mul_pos (Nat.mul_pos (Nat.mul_pos h1 h2) h3) h4
theorem N_mono {a b c d a' b' c' d' : Nat} (h1 : a ≤ a') (h2 : b ≤ b') (h3 : c ≤ c') (h4 : d ≤ d') : N a b c d ≤ N a' b' c' d' := by
  unfold N
  exact Nat.mul_le_mul (Nat.mul_le_mul (Nat.mul_le_mul (Nat.pow_le_pow_right (by decide) h1) (Nat.pow_le_pow_right (by decide) h2)) (Nat.pow_le_pow_right (by decide) h3)) (Nat.pow_le_pow_right (by decide) h4)
theorem two_le (k p : Nat) (h : 2 ≤ p) : 2 ^ k ≤ p ^ k := Nat.pow_le_pow_left h k
theorem N_ge {a b c d k : Nat} (h : k ≤ a ∨ k ≤ b ∨ k ≤ c ∨ k ≤ d) : 2 ^ k ≤ N a b c d := by
  rcases h with h | h | h | h
  · have e : N k 0 0 0 = 2 ^ k := by simp [N]
    rw [← e]
    exact N_mono h (Nat.zero_le _) (Nat.zero_le _) (Nat.zero_le _)
  · have e : 2 ^ k ≤ N 0 k 0 0 := by
      simp only [N, Nat.pow_zero, Nat.one_mul, Nat.mul_one]
      exact two_le k 3 (by decide)
    exact Nat.le_trans e (N_mono (Nat.zero_le _) h (Nat.zero_le _) (Nat.zero_le _))
  · have e : 2 ^ k ≤ N 0 0 k 0 := by
      simp only [N, Nat.pow_zero, Nat.one_mul, Nat.mul_one]
      exact two_le k 5 (by decide)
    exact Nat.le_trans e (N_mono (Nat.zero_le _) (Nat.zero_le _) h (Nat.zero_le _))
  · have e : 2 ^ k ≤ N 0 0 0 k := by
      simp only [N, Nat.pow_zero, Nat.one_mul, Nat.mul_one]
      exact two_le k 7 (by decide)
    exact Nat.le_trans e (N_mono (Nat.zero_le _) (Nat.zero_le _) (Nat.zero_le _) h)
/-! ### rows of exponents -/
structure Row where
  e0 : Int
  e1 : Int
  e2 : Int
  e3 : Int
  deriving DecidableEq
namespace Row
def top (r : Row) : Nat := N r.e0.toNat r.e1.toNat r.e2.toNat r.e3.toNat
def bot (r : Row) : Nat := N (-r.e0).toNat (-r.e1).toNat (-r.e2).toNat (-r.e3).toNat
def g (r : Row) : Nat := Nat.gcd (Nat.gcd (Nat.gcd (Nat.gcd 0 r.e0.natAbs) r.e1.natAbs) r.e2.natAbs) r.e3.natAbs
theorem dvd_g {k : Nat} {r : Row} : k ∣ r.g ↔ k ∣ r.e0.natAbs ∧ k ∣ r.e1.natAbs ∧ k ∣ r.e2.natAbs ∧ k ∣ r.e3.natAbs := by
  unfold g
  rw [Nat.dvd_gcd_iff, Nat.dvd_gcd_iff, Nat.dvd_gcd_iff, Nat.dvd_gcd_iff]
  constructor
  · rintro ⟨⟨⟨⟨_, h0⟩, h1⟩, h2⟩, h3⟩
    exact ⟨h0, h1, h2, h3⟩
  · rintro ⟨h0, h1, h2, h3⟩
    exact ⟨⟨⟨⟨Nat.dvd_zero k, h0⟩, h1⟩, h2⟩, h3⟩
theorem dvd_both {k : Nat} {e : Int} : k ∣ e.natAbs ↔ k ∣ e.toNat ∧ k ∣ (-e).toNat := by
  rcases Int.le_total 0 e with h | h
  · have h1 : (-e).toNat = 0 := by omega
    have h2 : e.toNat = e.natAbs := by omega
    rw [h1, h2]
    exact ⟨fun z => ⟨z, Nat.dvd_zero k⟩, fun z => z.1⟩
  · have h1 : e.toNat = 0 := by omega
    have h2 : (-e).toNat = e.natAbs := by omega
    rw [h1, h2]
    exact ⟨fun z => ⟨Nat.dvd_zero k, z⟩, fun z => z.2⟩
theorem both_pow {k : Nat} {r : Row} (hk : 1 ≤ k) : ((∃ x, x ^ k = r.top) ∧ ∃ y, y ^ k = r.bot) ↔ k ∣ r.g := by
  unfold top bot
  rw [N_iff hk, N_iff hk, dvd_g, dvd_both, dvd_both (e := r.e1), dvd_both (e := r.e2), dvd_both (e := r.e3)]
  constructor
  · rintro ⟨⟨a, b, c, d⟩, a', b', c', d'⟩
    exact ⟨⟨a, a'⟩, ⟨b, b'⟩, ⟨c, c'⟩, d, d'⟩
  · rintro ⟨⟨a, a'⟩, ⟨b, b'⟩, ⟨c, c'⟩, d, d'⟩
    exact ⟨⟨a, b, c, d⟩, a', b', c', d'⟩
theorem top_pos (r : Row) : 0 < r.top := N_pos ..
theorem bot_pos (r : Row) : 0 < r.bot := N_pos ..
theorem two_pow_g {r : Row} (h : r.g ≠ 0) : 2 ^ r.g ≤ max r.top r.bot := by
  obtain ⟨h0, h1, h2, h3⟩ := dvd_g.mp (Nat.dvd_refl r.g)
  have nz : ¬ (r.e0.natAbs = 0 ∧ r.e1.natAbs = 0 ∧ r.e2.natAbs = 0 ∧ r.e3.natAbs = 0) := fun ⟨a, b, c, d⟩ => by
    apply h
    unfold g
    rw [a, b, c, d]
    rfl
  have le : r.g ≤ r.e0.toNat ∨ r.g ≤ (-r.e0).toNat ∨ r.g ≤ r.e1.toNat ∨ r.g ≤ (-r.e1).toNat ∨ r.g ≤ r.e2.toNat ∨ r.g ≤ (-r.e2).toNat ∨ r.g ≤ r.e3.toNat ∨ r.g ≤ (-r.e3).toNat := by
    have key : ∀ e : Int, e.natAbs ≠ 0 → r.g ∣ e.natAbs → r.g ≤ e.toNat ∨ r.g ≤ (-e).toNat := fun e ne hd => by
      have := Nat.le_of_dvd (by omega) hd
      omega
    by_cases a : r.e0.natAbs = 0
    · by_cases b : r.e1.natAbs = 0
      · by_cases c : r.e2.natAbs = 0
        · have d : r.e3.natAbs ≠ 0 := fun d => nz ⟨a, b, c, d⟩
          have := key _ d h3
          omega
        · have := key _ c h2
          omega
      · have := key _ b h1
        omega
    · have := key _ a h0
      omega
  have up : 2 ^ r.g ≤ r.top ∨ 2 ^ r.g ≤ r.bot := by
    unfold top bot
    rcases le with h | h | h | h | h | h | h | h
    · exact .inl (N_ge (.inl h))
    · exact .inr (N_ge (.inl h))
    · exact .inl (N_ge (.inr (.inl h)))
    · exact .inr (N_ge (.inr (.inl h)))
    · exact .inl (N_ge (.inr (.inr (.inl h))))
    · exact .inr (N_ge (.inr (.inr (.inl h))))
    · exact .inl (N_ge (.inr (.inr (.inr h))))
    · exact .inr (N_ge (.inr (.inr (.inr h))))
  omega
theorem g_zero {r : Row} : r.g = 0 ↔ r.top = 1 ∧ r.bot = 1 := by
  constructor
  · intro h
    have hz : ∀ k, k ∣ r.g := fun k => by
      rw [h]
      exact Nat.dvd_zero k
    have z : ∀ e : Int, (∀ k, k ∣ e.natAbs) → e = 0 := fun e hk => by
      by_cases hn : e.natAbs = 0
      · omega
      · have := Nat.le_of_dvd (by omega) (hk (e.natAbs + 1))
        omega
    have e0 := z r.e0 fun k => (dvd_g.mp (hz k)).1
    have e1 := z r.e1 fun k => (dvd_g.mp (hz k)).2.1
    have e2 := z r.e2 fun k => (dvd_g.mp (hz k)).2.2.1
    have e3 := z r.e3 fun k => (dvd_g.mp (hz k)).2.2.2
    unfold top bot
    rw [e0, e1, e2, e3]
    decide
  · rintro ⟨h1, h2⟩
    by_cases h : r.g = 0
    · exact h
    · have h3 := two_pow_g h
      rw [h1, h2] at h3
      have h4 : r.g < 2 ^ r.g := Nat.lt_two_pow_self
      have h5 : max 1 1 = 1 := rfl
      omega
theorem cop1 {p : Nat} (e : Int) : Nat.Coprime (p ^ e.toNat) (p ^ (-e).toNat) := by
  rcases Int.le_total 0 e with h | h
  · have h1 : (-e).toNat = 0 := by omega
    rw [h1, Nat.pow_zero]
    exact Nat.coprime_one_right _
  · have h1 : e.toNat = 0 := by omega
    rw [h1, Nat.pow_zero]
    exact Nat.coprime_one_left _
theorem coprime (r : Row) : Nat.Coprime r.top r.bot := by
  unfold top bot N
  have c : ∀ {a b : Nat} (x y : Nat), Nat.Coprime a b → Nat.Coprime (a ^ x) (b ^ y) := fun x y h => Nat.Coprime.pow x y h
  refine Nat.Coprime.mul_left (Nat.Coprime.mul_left (Nat.Coprime.mul_left ?_ ?_) ?_) ?_
  · exact Nat.Coprime.mul_right (Nat.Coprime.mul_right (Nat.Coprime.mul_right (cop1 _) (c _ _ (by decide))) (c _ _ (by decide))) (c _ _ (by decide))
  · exact Nat.Coprime.mul_right (Nat.Coprime.mul_right (Nat.Coprime.mul_right (c _ _ (by decide)) (cop1 _)) (c _ _ (by decide))) (c _ _ (by decide))
  · exact Nat.Coprime.mul_right (Nat.Coprime.mul_right (Nat.Coprime.mul_right (c _ _ (by decide)) (c _ _ (by decide))) (cop1 _)) (c _ _ (by decide))
  · exact Nat.Coprime.mul_right (Nat.Coprime.mul_right (Nat.Coprime.mul_right (c _ _ (by decide)) (c _ _ (by decide))) (c _ _ (by decide))) (cop1 _)
/-- a quarter of it -/
def quart (r : Row) : Row := { r with e0 := r.e0 - 2 }
theorem N_succ (a b c d : Nat) : N (a + 1) b c d = 2 * N a b c d := by
  unfold N
  rw [Nat.pow_succ]
  ac_rfl
theorem quart_by (r : Row) : ∃ k, (k = 1 ∨ k = 2 ∨ k = 4) ∧ r.top = k * r.quart.top ∧ 4 * r.bot = k * r.quart.bot := by
  unfold top bot quart
  dsimp only
  by_cases h1 : 2 ≤ r.e0
  · refine ⟨4, .inr (.inr rfl), ?_, ?_⟩
    · have e : r.e0.toNat = (r.e0 - 2).toNat + 1 + 1 := by omega
      rw [e, N_succ, N_succ, ← Nat.mul_assoc]
    · have e : (-r.e0).toNat = (-(r.e0 - 2)).toNat := by omega
      rw [e]
  · by_cases h2 : r.e0 = 1
    · refine ⟨2, .inr (.inl rfl), ?_, ?_⟩
      · have e : r.e0.toNat = (r.e0 - 2).toNat + 1 := by omega
        rw [e, N_succ]
      · have e : (-(r.e0 - 2)).toNat = (-r.e0).toNat + 1 := by omega
        rw [e, N_succ, ← Nat.mul_assoc]
    · refine ⟨1, .inl rfl, ?_, ?_⟩
      · have e : r.e0.toNat = (r.e0 - 2).toNat := by omega
        rw [e, Nat.one_mul]
      · have e : (-(r.e0 - 2)).toNat = (-r.e0).toNat + 1 + 1 := by omega
        rw [e, N_succ, N_succ, Nat.one_mul, ← Nat.mul_assoc]
theorem quart_gcd (r : Row) : ∃ k, (k = 1 ∨ k = 2 ∨ k = 4) ∧ Nat.gcd r.top (4 * r.bot) = k ∧ r.top / k = r.quart.top ∧ 4 * r.bot / k = r.quart.bot := by
  obtain ⟨k, hk, e1, e2⟩ := quart_by r
  have hp : 0 < k := by omega
  refine ⟨k, hk, ?_, ?_, ?_⟩
  · rw [e1, e2, Nat.gcd_mul_left]
    have := r.quart.coprime
    unfold Nat.Coprime at this
    rw [this, Nat.mul_one]
  · rw [e1, Nat.mul_div_cancel_left _ hp]
  · rw [e2, Nat.mul_div_cancel_left _ hp]
/-- four times a fourth power -/
def four (r : Row) : Bool := decide ((r.e0 - 2) % 4 = 0) && decide (r.e1 % 4 = 0) && decide (r.e2 % 4 = 0) && decide (r.e3 % 4 = 0)
theorem dvd4 {e : Int} : 4 ∣ e.natAbs ↔ e % 4 = 0 := by omega
theorem four_iff {r : Row} : r.four = true ↔ r.quart.g % 4 = 0 := by
  have h : r.quart.g % 4 = 0 ↔ 4 ∣ r.quart.g := (Nat.dvd_iff_mod_eq_zero).symm
  rw [h, dvd_g, dvd4, dvd4, dvd4, dvd4]
  unfold four quart
  simp [Bool.and_eq_true, and_assoc]
/-- what the law draws -/
def Ok (r : Row) : Prop := (-12 ≤ r.e0 ∧ r.e0 ≤ 18) ∧ (-12 ≤ r.e1 ∧ r.e1 ≤ 12) ∧ (-12 ≤ r.e2 ∧ r.e2 ≤ 12) ∧ -12 ≤ r.e3 ∧ r.e3 ≤ 12
theorem Ok.top {r : Row} (h : r.Ok) : r.top ≤ 10 ^ 30 := by
  obtain ⟨⟨_, h0⟩, ⟨_, h1⟩, ⟨_, h2⟩, _, h3⟩ := h
  exact Nat.le_trans (N_mono (a' := 18) (b' := 12) (c' := 12) (d' := 12) (by omega) (by omega) (by omega) (by omega)) (by decide)
theorem Ok.bot {r : Row} (h : r.Ok) : r.bot ≤ 10 ^ 30 := by
  obtain ⟨⟨h0, _⟩, ⟨h1, _⟩, ⟨h2, _⟩, h3, _⟩ := h
  exact Nat.le_trans (N_mono (a' := 18) (b' := 12) (c' := 12) (d' := 12) (by omega) (by omega) (by omega) (by omega)) (by decide)
theorem Ok.g {r : Row} (h : r.Ok) : r.g ≤ 18 := by
  by_cases hz : r.g = 0
  · omega
  · obtain ⟨h0, h1, h2, h3⟩ := dvd_g.mp (Nat.dvd_refl r.g)
    obtain ⟨⟨a0, b0⟩, ⟨a1, b1⟩, ⟨a2, b2⟩, a3, b3⟩ := h
    by_cases c0 : r.e0.natAbs = 0
    · by_cases c1 : r.e1.natAbs = 0
      · by_cases c2 : r.e2.natAbs = 0
        · by_cases c3 : r.e3.natAbs = 0
          · exfalso
            apply hz
            unfold Row.g
            rw [c0, c1, c2, c3]
            rfl
          · have := Nat.le_of_dvd (by omega) h3
            omega
        · have := Nat.le_of_dvd (by omega) h2
          omega
      · have := Nat.le_of_dvd (by omega) h1
        omega
    · have := Nat.le_of_dvd (by omega) h0
      omega
end Row
/-! ### odd parts -/
def OddOf (n r : Nat) : Prop := r % 2 ≠ 0 ∧ ∃ k, n = 2 ^ k * r
theorem OddOf.uniq {n r r' : Nat} (h : OddOf n r) (h' : OddOf n r') : r = r' := by
  obtain ⟨a, k, e⟩ := h
  obtain ⟨a', k', e'⟩ := h'
  exact (M.uniq (p := 2) (by decide) k k' r r' (e.symm.trans e') a a').2
def halve (n : Nat) : Nat := if n % 2 = 0 then n / 2 else n
def halves : Nat → Nat → Nat
  | 0, n => n
  | i + 1, n => halve (halves i n)
theorem halves_by (n : Nat) : ∀ i, ∃ k, n = 2 ^ k * halves i n ∧ ((halves i n) % 2 ≠ 0 ∨ k = i)
  | 0 => ⟨0, by simp [halves], .inr rfl⟩
  | i + 1 => by
    obtain ⟨k, e, h⟩ := halves_by n i
    show ∃ k, n = 2 ^ k * halve (halves i n) ∧ ((halve (halves i n)) % 2 ≠ 0 ∨ k = i + 1)
    unfold halve
    by_cases hz : halves i n % 2 = 0
    · rw [if_pos hz]
      rcases h with h | h
      · exact absurd hz h
      · refine ⟨k + 1, ?_, .inr (by rw [h])⟩
        have e2 : halves i n = 2 * (halves i n / 2) := by omega
        rw [Nat.pow_succ, Nat.mul_assoc, ← e2]
        exact e
    · rw [if_neg hz]
      exact ⟨k, e, .inl hz⟩
theorem halves_odd {n i : Nat} (hp : 0 < n) (h : n < 2 ^ i) : OddOf n (halves i n) := by
  obtain ⟨k, e, o⟩ := halves_by n i
  rcases o with o | o
  · exact ⟨o, k, e⟩
  · exfalso
    rw [o] at e
    have h1 : 0 < halves i n := by
      rcases Nat.eq_zero_or_pos (halves i n) with z | z
      · rw [z] at e
        omega
      · exact z
    have h2 : 2 ^ i ≤ 2 ^ i * halves i n := Nat.le_mul_of_pos_right _ h1
    omega
/-- the part that counts for a sign -/
def part (sg : Int) (n : Nat) : Nat := if sg < 0 then halves 100 n else n
def splits (sg : Int) (r : Row) (n : Nat) : Bool := decide (1 < Nat.gcd (part sg n) r.g) || (decide (n % 4 = 0) && (decide (sg < 0) && r.four))
def always (sg : Int) (r : Row) : Bool := if 0 < sg then decide (r.g = 1) else (decide (r.g = 1 ∨ r.g = 2 ∨ r.g = 4 ∨ r.g = 8 ∨ r.g = 16)) && !r.four
theorem odd18 : ∀ g : Nat, g < 19 → 0 < g → (halves 100 g = 1 ↔ (g = 1 ∨ g = 2 ∨ g = 4 ∨ g = 8 ∨ g = 16)) := by decide
/-! ### primes -/
def ps11 : List Nat := [2, 3, 5, 7, 11, 13, 17, 19, 23, 29, 31]
def primes (g : Nat) : List Nat := ps11.filter fun p => decide (g % p = 0)
def primesOf (sg : Int) (g : Nat) : List Nat := ps11.filter fun p => decide (g % p = 0) && (decide (0 < sg) || decide (2 < p))
/-- the inner loop, the outer loop of prime_divisors, by turns -/
def strip : Nat → Nat → Nat → Option Nat
  | 0, _, _ => none
  | m + 1, l, s => if l % s = 0 then strip m (l / s) s else some l
def pdRun : Nat → List Nat → Nat → Nat → Option (List Nat)
  | 0, _, _, _ => none
  | m + 1, found, l, s => if s * s ≤ l then (if l % s = 0 then (match strip 20 l s with | some l' => pdRun m (found ++ [s]) l' (s + 1) | none => none) else pdRun m found l (s + 1)) else some (found ++ if 1 < l then [l] else [])
theorem pd18 : ∀ n : Nat, n < 19 → 0 < n → pdRun 10 [] n 2 = some (primes n) := by decide
theorem primes_pos {sg : Int} {g : Nat} (h : 0 < sg) : primesOf sg g = primes g := by
  unfold primesOf primes
  simp [h]
theorem primes_two {sg : Int} {g : Nat} : primesOf sg g = (primes g).filter fun p => decide (0 < sg) || decide (2 < p) := by
  unfold primesOf primes
  rw [List.filter_filter]
  congr 1
  funext p
  exact Bool.and_comm _ _
/-! ### roots by powers -/
theorem pow_lt_of {a b k : Nat} (hk : 1 ≤ k) (h : a ^ k < b ^ k) : a < b := by
  rcases Nat.lt_or_ge a b with z | z
  · exact z
  · have := Nat.pow_le_pow_left z k
    omega
/-- a root between two neighbours tells whether there is a whole one -/
theorem root_dec {v r k : Nat} (hk : 1 ≤ k) (h1 : r ^ k ≤ v) (h2 : v < (r + 1) ^ k) : (∃ x, x ^ k = v) ↔ r ^ k = v := by
  constructor
  · rintro ⟨x, e⟩
    have a : x < r + 1 := pow_lt_of hk (by omega)
    have b : r ≤ x := by
      rcases Nat.lt_or_ge x r with z | z
      · have c : x + 1 ≤ r := z
        have d := Nat.pow_lt_pow_left z (show k ≠ 0 by omega)
        omega
      · exact z
    have c : x = r := by omega
    rw [← c]
    exact e
  · intro e
    exact ⟨r, e⟩
theorem pow_lt2 {a b : Nat} (h : 2 ^ a < 2 ^ b) : a < b := by
  rcases Nat.lt_or_ge a b with z | z
  · exact z
  · have := Nat.pow_le_pow_right (show 0 < 2 by decide) z
    omega
end M
-- Xl
set_option Elab.async false
set_option linter.all false
set_option maxRecDepth 100000
set_option maxHeartbeats 4000000
/-! defs by their names: what they promise (Can), how they are called -/
namespace G
open PySem PySem.Spec PyProof.Rows L2 LamX NdefX
/-- a def of the text by its global name -/
def Df (K : PySem.W.Frag) (mg : Str → Option Value) (x : Str) (st : Stmt) : Prop := ∃ f fd, mg x = some (.ref f) ∧ Fun K x x st f fd
/-- what the def x promises -/
def Can (P : Program) (w : World) (K : PySem.W.Frag) (mg : Str → Option Value) (base : Heap) (CX : CXT) (k : Nat) (x : Str) (ps : List Str) (sp : Sp) : Prop :=
  ∃ f fd, mg x = some (.ref f) ∧ PySem.W.keepIn K (.ref f) = true ∧ FnOk P w K mg base CX k f fd ps sp ∧ Binds K fd ps []
/-- .. where no repr is under way -/
def CanG (P : Program) (w : World) (K : PySem.W.Frag) (mg : Str → Option Value) (base : Heap) (CX : CXT) (k : Nat) (x : Str) (ps : List Str) (sp : Sp) : Prop :=
  ∃ f fd, mg x = some (.ref f) ∧ PySem.W.keepIn K (.ref f) = true ∧ FnG P w K mg base CX k f fd ps sp ∧ Binds K fd ps []
section
variable {P : Program} {w : World} {K : PySem.W.Frag} {mg : Str → Option Value} {base : Heap} {x : Str} {st : Stmt} {N ps : List Str} {k : Nat} {sp : Sp}
theorem can0 (D : Df K mg x st) (S : FnScope N ps (defScope st)) (hb : ∀ {f fd}, Fun K x x st f fd → Binds K fd ps []) (len : ∀ vs H Q E, sp vs H Q E → vs.length = ps.length)
    (hbody : ∀ (f : Addr) (cdv : Value) (A : Around) (outer : List Env) (s : Shared) (H : Hp) (vs : List V) (Q : VK) (E : XK), Room k (A.deeper (envOfC x (defScope st) s.heap.objs.size f cdv)) → sp vs H Q E →
      ∃ t, PSs (cxOf CX0 P w K mg base N x (defScope st) f cdv A outer s H E).nox (defBody st) t ∧ t { nx := fun _ H' => Q .non H', rt := Q } (L2.start N vs) H) : Can P w K mg base CX0 (k + 1) x ps sp := by
  obtain ⟨f, fd, hm, F⟩ := D
  exact ⟨f, fd, hm, F.kp, F.ok S len (hbody f), hb F⟩
theorem canX (D : Df K mg x st) (S : FnScope N ps (defScope st)) (hb : ∀ {f fd}, Fun K x x st f fd → Binds K fd ps []) (len : ∀ vs H Q E, sp vs H Q E → vs.length = ps.length)
    (hbody : ∀ (f : Addr) (cdv : Value) (A : Around) (outer : List Env) (s : Shared) (H : Hp) (vs : List V) (Q : VK) (E : XK), Room k (A.deeper (envOfC x (defScope st) s.heap.objs.size f cdv)) → sp vs H Q E →
      ∃ t, PSs (cxOf (L2N.CX P w) P w K mg base N x (defScope st) f cdv A outer s H E) (defBody st) t ∧ t { nx := fun _ H' => Q .non H', rt := Q } (L2.start N vs) H) : Can P w K mg base (L2N.CX P w) (k + 1) x ps sp := by
  obtain ⟨f, fd, hm, F⟩ := D
  obtain ⟨oc, od, kV, doc, pm, an, cdv, ct, osl, rfl, lk, hcd⟩ := F.ex
  exact ⟨f, _, hm, F.kp, fn_of lk hcd S len fun A outer s H vs Q E hr hsp => hbody f cdv A outer s H vs Q E hr hsp, hb F⟩
theorem canG0 (D : Df K mg x st) (S : FnScope N ps (defScope st)) (hb : ∀ {f fd}, Fun K x x st f fd → Binds K fd ps []) (len : ∀ vs H Q E, sp vs H Q E → vs.length = ps.length)
    (hbody : ∀ (f : Addr) (cdv : Value) (A : Around) (outer : List Env) (s : Shared) (H : Hp) (vs : List V) (Q : VK) (E : XK), Room k (A.deeper (envOfC x (defScope st) s.heap.objs.size f cdv)) → Gd (A.deeper (envOfC x (defScope st) s.heap.objs.size f cdv)) → PySem.W.codeIn K cdv x = true → sp vs H Q E →
      ∃ t, PSs (cxOf CX0 P w K mg base N x (defScope st) f cdv A outer s H E).nox (defBody st) t ∧ t { nx := fun _ H' => Q .non H', rt := Q } (L2.start N vs) H) : CanG P w K mg base CX0 (k + 1) x ps sp := by
  obtain ⟨f, fd, hm, F⟩ := D
  exact ⟨f, fd, hm, F.kp, fnG_of0 F S len (hbody f), hb F⟩
theorem canGX (D : Df K mg x st) (S : FnScope N ps (defScope st)) (hb : ∀ {f fd}, Fun K x x st f fd → Binds K fd ps []) (len : ∀ vs H Q E, sp vs H Q E → vs.length = ps.length)
    (hbody : ∀ (f : Addr) (cdv : Value) (A : Around) (outer : List Env) (s : Shared) (H : Hp) (vs : List V) (Q : VK) (E : XK), Room k (A.deeper (envOfC x (defScope st) s.heap.objs.size f cdv)) → Gd (A.deeper (envOfC x (defScope st) s.heap.objs.size f cdv)) → PySem.W.codeIn K cdv x = true → sp vs H Q E →
      ∃ t, PSs (cxOf (L2N.CX P w) P w K mg base N x (defScope st) f cdv A outer s H E) (defBody st) t ∧ t { nx := fun _ H' => Q .non H', rt := Q } (L2.start N vs) H) : CanG P w K mg base (L2N.CX P w) (k + 1) x ps sp := by
  obtain ⟨f, fd, hm, F⟩ := D
  exact ⟨f, fd, hm, F.kp, fnG_of F S len (hbody f), hb F⟩
theorem Can.g {CX : CXT} (c : Can P w K mg base CX k x ps sp) : CanG P w K mg base CX k x ps sp := by
  obtain ⟨f, fd, hm, hk, F, b⟩ := c
  exact ⟨f, fd, hm, hk, FnG.of F, b⟩
end
section
variable {X : Cx} {CX : CXT} {k : Nat} {ps : List Str} {sp : Sp} {E : XK} {x m : Str} {p pos : Pos} {e : Expr} {es : List Expr} {t : TA} {C : Addr} {o : Expr} {ta : TE}
theorem pe_can (Gc : Can X.prog X.w X.K X.mg X.base CX k x ps sp) (hr : Room k X.A) (hg : Gl X x) (hx : Passes CX X E) (ha : PA X (e :: es) t) (hdb : (x == ("__debug__" : Str)) = false := by decide)
    (he : starEach (e :: es) X.env = (false, eval e X.env) :: starEach es X.env := by rfl) (hpl : (backTo pos (starEach es X.env)).any (·.1) = false := by rfl) : PE X (.Call (.Name x p) (e :: es) [] pos) (tCall sp [] E t) := by
  obtain ⟨f, fd, hm, hk, F, b⟩ := Gc
  exact pe_call F hr hg hm hk b .nil hx ha hdb he hpl
theorem pe_can0 (Gc : Can X.prog X.w X.K X.mg X.base CX k x ps sp) (hr : Room k X.A) (hg : Gl X x) (hx : Passes CX X E) (hdb : (x == ("__debug__" : Str)) = false := by decide) : PE X (.Call (.Name x p) [] [] pos) (tCall sp [] E tNil) := by
  obtain ⟨f, fd, hm, hk, F, b⟩ := Gc
  exact pe_call0 F hr hg hm hk b .nil hx hdb
theorem pe_canG (Gc : CanG X.prog X.w X.K X.mg X.base CX k x ps sp) (hr : Room k X.A) (hgd : Gd X.A) (hg : Gl X x) (hx : Passes CX X E) (ha : PA X (e :: es) t) (hdb : (x == ("__debug__" : Str)) = false := by decide)
    (he : starEach (e :: es) X.env = (false, eval e X.env) :: starEach es X.env := by rfl) (hpl : (backTo pos (starEach es X.env)).any (·.1) = false := by rfl) : PE X (.Call (.Name x p) (e :: es) [] pos) (tCall sp [] E t) := by
  obtain ⟨f, fd, hm, hk, F, b⟩ := Gc
  exact pe_callG F hr hgd hg hm hk b hx ha hdb he hpl
/-- constants of the module -/
theorem pe_gI {n : Int} (hg : Gl X x) (h : ∃ t, X.mg x = some (.int n t)) (hd : (x == ("__debug__" : Str)) = false := by decide) : PE X (.Name x p) (tC (.int n)) := by
  obtain ⟨t, h⟩ := h
  exact pe_glob hg h ⟨t, rfl⟩ hd
theorem pe_gS {z : Str} (hg : Gl X x) (h : ∃ t, X.mg x = some (.str z t)) (hd : (x == ("__debug__" : Str)) = false := by decide) : PE X (.Name x p) (tC (.str z)) := by
  obtain ⟨t, h⟩ := h
  exact pe_glob hg h ⟨t, rfl⟩ hd
end
/-! ### methods -/
def Dm (K : PySem.W.Frag) (C : Addr) (m qual : Str) (st : Stmt) : Prop := ∃ f fd, Meth K C m f ∧ Fun K m qual st f fd
def CanM (P : Program) (w : World) (K : PySem.W.Frag) (mg : Str → Option Value) (base : Heap) (CX : CXT) (k : Nat) (C : Addr) (m : Str) (ps : List Str) (sp : Sp) : Prop :=
  ∃ f fd, Meth K C m f ∧ FnOk P w K mg base CX k f fd ps sp ∧ Binds K fd ps []
section
variable {P : Program} {w : World} {K : PySem.W.Frag} {mg : Str → Option Value} {base : Heap} {m qual : Str} {C : Addr} {st : Stmt} {N ps : List Str} {k : Nat} {sp : Sp}
theorem canM0 (D : Dm K C m qual st) (S : FnScope N ps (defScope st)) (hb : ∀ {f fd}, Fun K m qual st f fd → Binds K fd ps []) (len : ∀ vs H Q E, sp vs H Q E → vs.length = ps.length)
    (hbody : ∀ (f : Addr) (cdv : Value) (A : Around) (outer : List Env) (s : Shared) (H : Hp) (vs : List V) (Q : VK) (E : XK), Room k (A.deeper (envOfC qual (defScope st) s.heap.objs.size f cdv)) → sp vs H Q E →
      ∃ t, PSs (cxOf CX0 P w K mg base N qual (defScope st) f cdv A outer s H E).nox (defBody st) t ∧ t { nx := fun _ H' => Q .non H', rt := Q } (L2.start N vs) H) : CanM P w K mg base CX0 (k + 1) C m ps sp := by
  obtain ⟨f, fd, hm, F⟩ := D
  exact ⟨f, fd, hm, F.ok S len (hbody f), hb F⟩
theorem canMX (D : Dm K C m qual st) (S : FnScope N ps (defScope st)) (hb : ∀ {f fd}, Fun K m qual st f fd → Binds K fd ps []) (len : ∀ vs H Q E, sp vs H Q E → vs.length = ps.length)
    (hbody : ∀ (f : Addr) (cdv : Value) (A : Around) (outer : List Env) (s : Shared) (H : Hp) (vs : List V) (Q : VK) (E : XK), Room k (A.deeper (envOfC qual (defScope st) s.heap.objs.size f cdv)) → sp vs H Q E →
      ∃ t, PSs (cxOf (L2N.CX P w) P w K mg base N qual (defScope st) f cdv A outer s H E) (defBody st) t ∧ t { nx := fun _ H' => Q .non H', rt := Q } (L2.start N vs) H) : CanM P w K mg base (L2N.CX P w) (k + 1) C m ps sp := by
  obtain ⟨f, fd, hm, F⟩ := D
  obtain ⟨oc, od, kV, doc, pm, an, cdv, ct, osl, rfl, lk, hcd⟩ := F.ex
  exact ⟨f, _, hm, fn_of lk hcd S len fun A outer s H vs Q E hr hsp => hbody f cdv A outer s H vs Q E hr hsp, hb F⟩
end
section
variable {X : Cx} {CX : CXT} {k : Nat} {ps : List Str} {sp : Sp} {E : XK} {m : Str} {pos apos : Pos} {e : Expr} {es : List Expr} {t : TA} {C : Addr} {o : Expr} {ta : TE} {pl : Sem Bool}
theorem pe_canM (he : PE X o ta) (c : Cls X.K C) (Gc : CanM X.prog X.w X.K X.mg X.base CX k C m ps sp) (hr : Room k X.A) (hx : Passes CX X E) (ha : PA X (e :: es) t)
    (hst : starEach (e :: es) X.env = (false, eval e X.env) :: starEach es X.env := by rfl) (hpl : (backTo pos (starEach es X.env)).any (·.1) = false := by rfl)
    (ht : eval (.Call (.Attribute o m apos) (e :: es) [] pos) X.env = (do
      let ov ← eval o X.env
      standAt apos.atName
      let (f, first) ← holding [ov] (getMethod ov m pl)
      callWith pos f first (backTo pos (starEach (e :: es) X.env)) (backToKw pos (keywordEach [] X.env))) := by rfl) : PE X (.Call (.Attribute o m apos) (e :: es) [] pos) (tMeth C m sp [] E ta t) := by
  obtain ⟨f, fd, hm, F, b⟩ := Gc
  exact pe_meth he c hm F hr b .nil hx ha hst hpl ht
theorem pe_canM0 (he : PE X o ta) (c : Cls X.K C) (Gc : CanM X.prog X.w X.K X.mg X.base CX k C m ps sp) (hr : Room k X.A) (hx : Passes CX X E)
    (ht : eval (.Call (.Attribute o m apos) [] [] pos) X.env = (do
      let ov ← eval o X.env
      standAt apos.atName
      let (f, first) ← holding [ov] (getMethod ov m pl)
      callWith pos f first (backTo pos (starEach [] X.env)) (backToKw pos (keywordEach [] X.env))) := by rfl) : PE X (.Call (.Attribute o m apos) [] [] pos) (tMeth C m sp [] E ta tNil) := by
  obtain ⟨f, fd, hm, F, b⟩ := Gc
  exact pe_meth0 he c hm F hr b .nil hx ht
end
/-! ### the text's facts, the part without classes -/
structure Tx (K : PySem.W.Frag) (mg : Str → Option Value) : Prop where
  d_is_integer : Df K mg "is_integer" s_is_integer
  d_is_between : Df K mg "is_between" s_is_between
  d_is_name : Df K mg "is_name" s_is_name
  d_power_of : Df K mg "power_of" s_power_of
  d_common_divisor : Df K mg "common_divisor" s_common_divisor
  d_floor_root : Df K mg "floor_root" s_floor_root
  d_is_power : Df K mg "is_power" s_is_power
  d_prime_divisors : Df K mg "prime_divisors" s_prime_divisors
  d_is_number : Df K mg "is_number" s_is_number
  d_check_number : Df K mg "check_number" s_check_number
  d_lowest : Df K mg "lowest" s_lowest
  d_raised : Df K mg "raised" s_raised
  d_whole_root : Df K mg "whole_root" s_whole_root
  d_base_and_exponent : Df K mg "base_and_exponent" s_base_and_exponent
  d_base_for : Df K mg "base_for" s_base_for
  d_root_for : Df K mg "root_for" s_root_for
  d_four_for : Df K mg "four_for" s_four_for
  d_primes_for : Df K mg "primes_for" s_primes_for
  d_own_kind : Df K mg "own_kind" s_own_kind
  d_kind_of : Df K mg "kind_of" s_kind_of
  d_odd_part : Df K mg "odd_part" s_odd_part
  d_shared : Df K mg "shared" s_shared
  d_is_split_by_four : Df K mg "is_split_by_four" s_is_split_by_four
  d_does_split : Df K mg "does_split" s_does_split
  d_is_always : Df K mg "is_always" s_is_always
  d_begins_with_word : Df K mg "begins_with_word" s_begins_with_word
  d_is_wish : Df K mg "is_wish" s_is_wish
  d_names_in : Df K mg "names_in" s_names_in
  d_holds : Df K mg "holds" s_holds
  d__law_jug : Df K mg "_law_jug" s__law_jug
  d__law_pull : Df K mg "_law_pull" s__law_pull
  d__law_one_of : Df K mg "_law_one_of" s__law_one_of
  d__law_common : Df K mg "_law_common" s__law_common
  d__law_power : Df K mg "_law_power" s__law_power
  d__law_pair : Df K mg "_law_pair" s__law_pair
  d__law_small : Df K mg "_law_small" s__law_small
  d__law_plan : Df K mg "_law_plan" s__law_plan
  d__law_is_four : Df K mg "_law_is_four" s__law_is_four
  d__law_splits : Df K mg "_law_splits" s__law_splits
  d__law_is_always : Df K mg "_law_is_always" s__law_is_always
  d__law_some_n : Df K mg "_law_some_n" s__law_some_n
  d__law_kind : Df K mg "_law_kind" s__law_kind
  d__law_answer : Df K mg "_law_answer" s__law_answer
  d__law_new_wish : Df K mg "_law_new_wish" s__law_new_wish
  d__law_broken : Df K mg "_law_broken" s__law_broken
  d__law_named : Df K mg "_law_named" s__law_named
  d__law_behind : Df K mg "_law_behind" s__law_behind
  d__law_new_deed : Df K mg "_law_new_deed" s__law_new_deed
  d__law_done : Df K mg "_law_done" s__law_done
  d__law_book_is : Df K mg "_law_book_is" s__law_book_is
  d__law_slip : Df K mg "_law_slip" s__law_slip
  d__law_heard : Df K mg "_law_heard" s__law_heard
  d__law_turn : Df K mg "_law_turn" s__law_turn
  d__law_tried : Df K mg "_law_tried" s__law_tried
  d__law_inside : Df K mg "_law_inside" s__law_inside
  d__law_right : Df K mg "_law_right" s__law_right
  d_law : Df K mg "law" s_law
  m_abs : mg "abs" = none
  m_all : mg "all" = none
  m_bool : mg "bool" = none
  m_dict : mg "dict" = none
  m_enumerate : mg "enumerate" = none
  m_int : mg "int" = none
  m_isinstance : mg "isinstance" = none
  m_len : mg "len" = none
  m_list : mg "list" = none
  m_max : mg "max" = none
  m_min : mg "min" = none
  m_range : mg "range" = none
  m_repr : mg "repr" = none
  m_sorted : mg "sorted" = none
  m_str : mg "str" = none
  m_tuple : mg "tuple" = none
  m_zip : mg "zip" = none
  m_ValueError : mg "ValueError" = none
  m_LookupError : mg "LookupError" = none
  m_ArithmeticError : mg "ArithmeticError" = none
  m_KeyError : mg "KeyError" = none
  g_LETTERS : ∃ t, mg "LETTERS" = some (.str "abcdefghijklmnopqrstuvwxyz" t)
  g_MOST_LETTERS : ∃ t, mg "MOST_LETTERS" = some (.int 8 t)
  g_MOST_SIZE : ∃ t, mg "MOST_SIZE" = some (.int (10 ^ 30) t)
  g_ALL : ∃ t, mg "ALL" = some (.str "all" t)
/-- a while by a statement and a measure; a turn: ⟨_, fun _ _ z => z, ?_⟩, at its end ⟨_, (less), (the statement), rfl⟩ -/
theorem while_of {c : TT} {tb : TS} {D : Ends} {σ : L2.St} {H : Hp} (Pv : L2.St → Hp → Prop) (μ : L2.St → Hp → Nat) (h0 : Pv σ H)
    (hs : ∀ σ H, Pv σ H → c σ H fun b H1 => if b = true then ∃ N : L2.St → Hp → Prop, (∀ σ' H', N σ' H' → ∃ m', m' < μ σ H ∧ Pv σ' H' ∧ μ σ' H' = m') ∧ tb { D with nx := N, ct := N, bk := D.nx } σ H1 else D.nx σ H1) : tWhile c tb D σ H := by
  refine ⟨fun m σ H => Pv σ H ∧ μ σ H = m, ⟨_, h0, rfl⟩, fun m σ H ⟨h, e⟩ => ?_⟩
  subst e
  exact hs σ H h
theorem mwN {a b : Nat} (ha : a < 2 ^ 400) (hb : b < 2 ^ 400) : CMulW (a : Int) (b : Int) :=
  wide_mul (a := 400) (b := 400) (by rw [Int.natAbs_natCast]; exact ha) (by rw [Int.natAbs_natCast]; exact hb) (by decide) (by decide) (by decide)
theorem intEq {i j : Int} (h : decide (V.int i = V.int j) = true) : i = j := by
  have z := of_decide_eq_true h
  injection z
theorem intNe {i j : Int} (h : ¬ decide (V.int i = V.int j) = true) : i ≠ j := fun z => h (decide_eq_true (by rw [z]))
theorem dT {p : Prop} [Decidable p] (h : decide p = true) : p := of_decide_eq_true h
theorem dF {p : Prop} [Decidable p] (h : ¬ decide p = true) : ¬ p := fun z => h (decide_eq_true z)
theorem strNe {i j : Str} (h : ¬ decide (V.str i = V.str j) = true) : i ≠ j := fun z => h (decide_eq_true (by rw [z]))
theorem strEq {i j : Str} (h : decide (V.str i = V.str j) = true) : i = j := by
  have z := of_decide_eq_true h
  injection z
/-- a comprehension over a text's signs -/
theorem lc_str {x : Str} {g : TG} {tt : TT} {te : TE} {vs : List Nat} {σ : L2.St} {H1 : Hp} {D : Addr} {Qd : Hp → Prop} (Pv : Nat → Hp → Prop) (h0 : Pv 0 (upd H1 D (.lst [])))
    (hs : ∀ i c H, x.cps[i]? = some c → Pv i H → g (.str ⟨#[c]⟩) (wipe σ vs) H fun σ2 H2 => wipe σ2 vs = wipe σ vs ∧ tt σ2 H2 fun b H3 =>
      if b = true then te σ2 H3 fun y H4 => ∃ acc, H4 D = some (.lst acc) ∧ acc.length < sizeLine ∧ Pv (i + 1) (upd H4 D (.lst (acc ++ [y]))) else Pv (i + 1) H3) (hd : ∀ H, Pv x.cps.size H → Qd H) :
    ∃ W : Nat → Nat → Hp → Prop, (∃ m, W 0 m (upd H1 D (.lst []))) ∧ ∀ i m H, W i m H →
      ((Its x).stop i H ∧ Qd H) ∨ ((Its x).go i H ∧ ∃ Nx : Hp → Prop, (∀ H', Nx H' → ∃ m', m' < m ∧ W (i + 1) m' H') ∧ ∀ v H', (Its x).yld i H v H' → g v (wipe σ vs) H' fun σ2 H2 => wipe σ2 vs = wipe σ vs ∧ tt σ2 H2 fun b H3 =>
        if b = true then te σ2 H3 fun y H4 => ∃ acc, H4 D = some (.lst acc) ∧ acc.length < sizeLine ∧ Nx (upd H4 D (.lst (acc ++ [y]))) else Nx H3) := by
  refine ⟨fun i m H => Pv i H ∧ i ≤ x.cps.size ∧ m = x.cps.size - i, ⟨_, h0, Nat.zero_le _, rfl⟩, fun i m H ⟨hp, hi, hm⟩ => ?_⟩
  rcases Nat.lt_or_ge i x.cps.size with h | h
  · refine .inr ⟨h, Pv (i + 1), fun H' z => ⟨x.cps.size - (i + 1), by omega, z, h, rfl⟩, fun v H' ⟨e, c, hc, ev⟩ => ?_⟩
    subst e ev
    exact hs i c H' hc hp
  · obtain rfl : i = x.cps.size := by omega
    exact .inl ⟨Nat.le_refl _, hd H hp⟩
end G
-- Wa
set_option Elab.async false
set_option linter.all false
set_option maxRecDepth 100000
set_option maxHeartbeats 4000000
/-! walks: kinds -/
namespace G
open PySem PySem.Spec PyProof.Rows L2 LamX NdefX
local macro_rules | `(tactic| walk_at "g") => `(tactic| repeat (first | refine ⟨_, rfl, ?_⟩ | refine ⟨_, _, rfl, ?_⟩ | refine ⟨_, _, _, rfl, ?_⟩ | refine ⟨_, _, rfl, rfl, ?_⟩ | refine ⟨rfl, ?_⟩))
section
variable {P : Program} {w : World} {K : PySem.W.Frag} {mg : Str → Option Value} {base : Heap}
theorem sc_is_integer : FnScope ["value"] ["value"] (defScope s_is_integer) :=
  ⟨rfl, rfl, rfl, by decide +kernel, rfl, by decide +kernel, by decide +kernel⟩
theorem b_is_integer {K : PySem.W.Frag} {x q : Str} {f : Addr} {fd : FuncData} (F : Fun K x q s_is_integer f fd) : Binds K fd ["value"] [] := F.binds (fun _ _ _ _ _ _ us hl => match us, hl with | [_], _ => rfl)
def spIsInt : Sp := fun vs H Q _ => ∃ i : Int, vs = [.int i] ∧ Q (.bl true) H
theorem w_is_integer (T : Tx K mg) : Can P w K mg base CX0 1 "is_integer" ["value"] spIsInt :=
  can0 T.d_is_integer sc_is_integer b_is_integer (fun vs H Q E ⟨i, e, _⟩ => by rw [e]; rfl) fun f cdv A outer s H vs Q E hr ⟨i, ev, q⟩ => by
  subst ev
  refine ⟨_, (pss_one (ps_ret (pe_and (pe_callB call_isi (by rfl) T.m_isinstance (by decide +kernel) (pa_cons (pv 0) (pa_cons (pe_bltn (v := .ty "int") (by rfl) T.m_int (by decide +kernel) rfl) pa_nil))) (pe_one (pe_not (pe_callB call_isi (by rfl) T.m_isinstance (by decide +kernel) (pa_cons (pv 0) (pa_cons (pe_bltn (v := .ty "bool") (by rfl) T.m_bool (by decide +kernel) rfl) pa_nil)))))))), ?_⟩
  refine ⟨_, rfl, _, _, _, _, true, rfl, .ty _, .base (.int _), kit_ty (by decide +kernel), true, rfl, iteT ?_⟩
  refine ⟨_, rfl, _, _, _, _, false, rfl, .ty _, .base (.int _), kit_ty (by decide +kernel), false, rfl, ?_⟩
  exact q
theorem sc_is_between : FnScope ["value", "low", "high"] ["value", "low", "high"] (defScope s_is_between) :=
  ⟨rfl, rfl, rfl, by decide +kernel, rfl, by decide +kernel, by decide +kernel⟩
theorem b_is_between {K : PySem.W.Frag} {x q : Str} {f : Addr} {fd : FuncData} (F : Fun K x q s_is_between f fd) : Binds K fd ["value", "low", "high"] [] := F.binds (fun _ _ _ _ _ _ us hl => match us, hl with | [_, _, _], _ => rfl)
def spBetween : Sp := fun vs H Q _ => ∃ v l h : Int, vs = [.int v, .int l, .int h] ∧ Q (.bl (decide (l ≤ v ∧ v ≤ h))) H
theorem w_is_between (T : Tx K mg) : Can P w K mg base CX0 2 "is_between" ["value", "low", "high"] spBetween :=
  can0 T.d_is_between sc_is_between b_is_between (fun vs H Q E ⟨i, j, k, e, _⟩ => by rw [e]; rfl) fun f cdv A outer s H vs Q E hr ⟨v, l, h, ev, q⟩ => by
  subst ev
  have c_is_integer := w_is_integer (P := P) (w := w) (base := base) T
  refine ⟨_, (pss_one (ps_ret (pe_and (pe_can c_is_integer (hr.mono (by decide)) (by rfl) pass0 (pa_cons (pv 0) pa_nil)) (pe_one (pe_chain op_le op_le (pv 1) (pv 0) (pv 2)))))), ?_⟩
  walk_at "g"
  refine ite2 (fun c => ?_) fun c => ?_
  · walk_at "g"
    show Q (.bl (decide (v ≤ h))) H
    rw [show decide (v ≤ h) = decide (l ≤ v ∧ v ≤ h) by simp [of_decide_eq_true c]]
    exact q
  · rw [show decide (l ≤ v ∧ v ≤ h) = false by simp at c; simp; intro z; omega] at q
    exact q
theorem sc_power_of : FnScope ["base", "many", "found", "turn"] ["base", "many"] (defScope s_power_of) :=
  ⟨rfl, rfl, rfl, by decide +kernel, rfl, by decide +kernel, by decide +kernel⟩
theorem b_power_of {K : PySem.W.Frag} {x q : Str} {f : Addr} {fd : FuncData} (F : Fun K x q s_power_of f fd) : Binds K fd ["base", "many"] [] := F.binds (fun _ _ _ _ _ _ us hl => match us, hl with | [_, _], _ => rfl)
def spPow : Sp := fun vs H Q _ => ∃ b m : Nat, vs = [.int b, .int m] ∧ b < 2 ^ 200 ∧ m ≤ 1000 ∧ Q (.int ((b ^ m : Nat) : Int)) H
theorem pow_bits {b i : Nat} (hb : b < 2 ^ 200) (hi : i ≤ 1000) : (((b ^ i : Nat) : Int)).natAbs < 2 ^ 200001 := by
  have h1 : b ^ i ≤ (2 ^ 200) ^ i := Nat.pow_le_pow_left (Nat.le_of_lt hb) i
  rw [← Nat.pow_mul] at h1
  have h2 : (2 : Nat) ^ (200 * i) ≤ 2 ^ 200000 := Nat.pow_le_pow_right (by decide) (by omega)
  have h3 : (2 : Nat) ^ 200000 < 2 ^ 200001 := Nat.pow_lt_pow_right (by decide) (by decide)
  rw [Int.natAbs_natCast]
  exact Nat.lt_of_le_of_lt (Nat.le_trans h1 h2) h3
theorem w_power_of (T : Tx K mg) : Can P w K mg base CX0 1 "power_of" ["base", "many"] spPow :=
  can0 T.d_power_of sc_power_of b_power_of (fun vs H Q E ⟨i, j, e, _⟩ => by rw [e]; rfl) fun f cdv A outer s H vs Q E hr ⟨b, m, ev, hb, hm, q⟩ => by
  subst ev
  refine ⟨_, (pss_cons (ps_set (i := 2) sc_power_of.nd rfl (Or.inl rfl) pe_int)
    (pss_cons (ps_for PassesOwn.never (by rfl) (pi_range1 (by rfl) T.m_range (pa_cons (pv 1) pa_nil)) (pg_name (i := 3) sc_power_of.nd rfl (Or.inl rfl)) (pss_one (ps_set (i := 2) sc_power_of.nd rfl (Or.inl rfl) (pe_op op_mulW (pv 2) (pv 0)))))
    (pss_one (ps_ret (pv 2))))), ?_⟩
  refine ⟨_, rfl, m, rfl, by omega, by omega, for_range (n := m) (fun i σ H' => H' = H ∧ ∃ t, σ = [some (.int b), some (.int m), some (.int ((b ^ i : Nat) : Int)), t]) ⟨rfl, none, rfl⟩ ?_ ?_⟩
  · rintro i σ H' hi ⟨rfl, t, rfl⟩
    walk_at "g"
    refine ⟨wide_mul (pow_bits hb (by omega)) (show (b : Int).natAbs < 2 ^ 200 by rw [Int.natAbs_natCast]; exact hb) (by decide) (by decide) (by decide), ?_⟩
    exact ⟨rfl, _, by rw [Nat.pow_succ, Int.natCast_mul]; rfl⟩
  · rintro σ H' ⟨rfl, t, rfl⟩
    walk_at "g"
    exact q
theorem sc_common_divisor : FnScope ["one", "other"] ["one", "other"] (defScope s_common_divisor) :=
  ⟨rfl, rfl, rfl, by decide +kernel, rfl, by decide +kernel, by decide +kernel⟩
theorem b_common_divisor {K : PySem.W.Frag} {x q : Str} {f : Addr} {fd : FuncData} (F : Fun K x q s_common_divisor f fd) : Binds K fd ["one", "other"] [] := F.binds (fun _ _ _ _ _ _ us hl => match us, hl with | [_, _], _ => rfl)
def spGcd : Sp := fun vs H Q _ => ∃ a b : Nat, vs = [.int a, .int b] ∧ Q (.int ((Nat.gcd a b : Nat) : Int)) H
theorem w_common_divisor (T : Tx K mg) : Can P w K mg base CX0 1 "common_divisor" ["one", "other"] spGcd :=
  can0 T.d_common_divisor sc_common_divisor b_common_divisor (fun vs H Q E ⟨i, j, e, _⟩ => by rw [e]; rfl) fun f cdv A outer s H vs Q E hr ⟨a, b, ev, q⟩ => by
  subst ev
  refine ⟨_, (pss_cons (ps_while PassesOwn.never (pt_cmpR op_ne (pv 1) pe_int (nomark _)) (pss_one (ps_par (i := 0) (j := 1) (by rfl) sc_common_divisor.nd rfl rfl (by decide) rfl rfl (pa_cons (pv 1) (pa_cons (pe_op op_mod (pv 0) (pv 1)) pa_nil)) (by rfl))))
    (pss_one (ps_ret (pv 0)))), ?_⟩
  refine while_of (fun σ H' => H' = H ∧ ∃ x y : Nat, σ = [some (.int x), some (.int y)] ∧ Nat.gcd x y = Nat.gcd a b) (fun σ _ => match σ with | [_, some (.int y)] => y.toNat | _ => 0) ⟨rfl, a, b, rfl, rfl⟩ ?_
  rintro σ H' ⟨rfl, x, y, rfl, hg⟩
  walk_at "g"
  refine ite2 (fun c => ?_) fun c => ?_
  · have hy : 0 < y := by
      rcases Nat.eq_zero_or_pos y with e | e
      · subst e
        exact absurd c (by decide)
      · exact e
    refine ⟨_, fun _ _ z => z, ?_⟩
    walk_at "g"
    refine ⟨by show (0 : Int) < y; omega, ?_⟩
    refine ⟨_, _, rfl, _, ?_, ⟨rfl, y, x % y, by rw [Int.natCast_emod]; rfl, ?_⟩, rfl⟩
    rotate_left
    · rw [Nat.gcd_comm y, ← Nat.gcd_rec, Nat.gcd_comm]
      exact hg
    · show ((x : Int) % (y : Int)).toNat < (y : Int).toNat
      have := Int.emod_lt_of_pos (x : Int) (show (0 : Int) < y by omega)
      have := Int.emod_nonneg (x : Int) (show (y : Int) ≠ 0 by omega)
      omega
  · have hy : y = 0 := by
      rcases Nat.eq_zero_or_pos y with e | e
      · exact e
      · exfalso
        apply c
        show (!decide (V.int (y : Int) = V.int 0)) = true
        rw [decide_eq_false (fun z => by injection z with z; omega)]
        rfl
    subst hy
    rw [Nat.gcd_zero_right] at hg
    walk_at "g"
    rw [← hg] at q
    exact q
theorem sc_floor_root : FnScope ["value", "power", "low", "high", "middle"] ["value", "power"] (defScope s_floor_root) :=
  ⟨rfl, rfl, rfl, by decide +kernel, rfl, by decide +kernel, by decide +kernel⟩
theorem b_floor_root {K : PySem.W.Frag} {x q : Str} {f : Addr} {fd : FuncData} (F : Fun K x q s_floor_root f fd) : Binds K fd ["value", "power"] [] := F.binds (fun _ _ _ _ _ _ us hl => match us, hl with | [_, _], _ => rfl)
def spFloor : Sp := fun vs H Q _ => ∃ v p : Nat, vs = [.int v, .int p] ∧ v < 2 ^ 120 ∧ 1 ≤ p ∧ p ≤ 1000 ∧ ∀ (r : Nat) (H' : Hp), Ex [] H H' → r ^ p ≤ v → v < (r + 1) ^ p → Q (.int r) H'
theorem le_pow_self {l p : Nat} (hp : 1 ≤ p) : l ≤ l ^ p := by
  rcases Nat.eq_zero_or_pos l with e | e
  · subst e
    exact Nat.zero_le _
  · calc l = l ^ 1 := (Nat.pow_one l).symm
      _ ≤ l ^ p := Nat.pow_le_pow_right e hp
theorem w_floor_root (T : Tx K mg) : Can P w K mg base CX0 2 "floor_root" ["value", "power"] spFloor :=
  can0 T.d_floor_root sc_floor_root b_floor_root (fun vs H Q E ⟨i, j, e, _⟩ => by rw [e]; rfl) fun f cdv A outer s H vs Q E hr ⟨v, p, ev, hv, hp, hp2, q⟩ => by
  subst ev
  have c_power_of := w_power_of (P := P) (w := w) (base := base) T
  refine ⟨_, (pss_cons (ps_asg (pe_tup (pa_cons pe_int (pa_cons pe_int pa_nil))) (pg_tup (by rfl) (pgs_cons (pg_name (i := 2) sc_floor_root.nd rfl (Or.inl rfl)) (pgs_cons (pg_name (i := 3) sc_floor_root.nd rfl (Or.inl rfl)) pgs_nil))))
    (pss_cons (ps_while PassesOwn.never (pt_cmpR op_le (pe_can c_power_of (hr.mono (by decide)) (by rfl) pass0 (pa_cons (pv 3) (pa_cons (pv 1) pa_nil))) (pv 0) (nomark _)) (pss_one (ps_par (i := 2) (j := 3) (by rfl) sc_floor_root.nd rfl rfl (by decide) rfl rfl (pa_cons (pv 3) (pa_cons (pe_op op_mulW pe_int (pv 3)) pa_nil)) (by rfl))))
    (pss_cons (ps_while PassesOwn.never (pt_cmpR op_gt (pe_op op_sub (pv 3) (pv 2)) pe_int (nomark _)) (pss_cons (ps_set (i := 4) sc_floor_root.nd rfl (Or.inl rfl) (pe_op op_fdiv (pe_op op_add (pv 2) (pv 3)) pe_int))
    (pss_one (ps_if (pt_cmpR op_le (pe_can c_power_of (hr.mono (by decide)) (by rfl) pass0 (pa_cons (pv 4) (pa_cons (pv 1) pa_nil))) (pv 0) (nomark _)) (pss_one (ps_set (i := 2) sc_floor_root.nd rfl (Or.inl rfl) (pv 4))) (pss_one (ps_set (i := 3) sc_floor_root.nd rfl (Or.inl rfl) (pv 4)))))))
    (pss_one (ps_ret (pv 2)))))), ?_⟩
  refine ⟨by show 2 ≤ sizeLine; decide, fun tp ntp => ?_⟩
  refine ⟨_, _, rfl, SqT.of upd_same, rfl, ?_⟩
  walk_at "g"
  have hmul : (2 : Nat) ^ 121 = 2 * 2 ^ 120 := rfl
  have hbig : (2 : Nat) ^ 121 < 2 ^ 200 := by decide
  have h0p : (0 : Nat) ^ p = 0 := Nat.zero_pow (by omega)
  refine while_of (fun σ H' => Ex [] H H' ∧ ∃ (l h : Nat) (t : Option V), σ = [some (.int v), some (.int p), some (.int l), some (.int h), t] ∧ l ^ p ≤ v ∧ l < h ∧ (h = 1 ∨ h = 2 * l)) (fun σ _ => match σ with | [_, _, some (.int l), _, _] => v + 1 - l.toNat | _ => 0) ⟨Ex.new0 ntp, 0, 1, none, rfl, by omega, by decide, .inl rfl⟩ ?_
  rintro σ H' ⟨hx, l, h, t, rfl, h1, h2, h3⟩
  have hl : l ≤ v := Nat.le_trans (le_pow_self hp) h1
  walk_at "g"
  refine ⟨by omega, hp2, ?_⟩
  walk_at "g"
  refine ite2 (fun c => ?_) fun c => ?_
  · have c : ((h ^ p : Nat) : Int) ≤ (v : Int) := of_decide_eq_true c
    have c' : h ^ p ≤ v := by omega
    have hh : h ≤ v := Nat.le_trans (le_pow_self hp) c'
    refine ⟨_, fun _ _ z => z, ?_⟩
    walk_at "g"
    refine ⟨wide_mul (a := 3) (b := 200) (by decide) (show (h : Int).natAbs < 2 ^ 200 by rw [Int.natAbs_natCast]; omega) (by decide) (by decide) (by decide), ?_⟩
    walk_at "g"
    refine ⟨_, ?_, ⟨hx, h, 2 * h, t, by rw [show ((2 * h : Nat) : Int) = 2 * (h : Int) by omega]; rfl, c', by omega, .inr rfl⟩, rfl⟩
    show v + 1 - ((h : Int)).toNat < v + 1 - ((l : Int)).toNat
    omega
  · have c : ¬ ((h ^ p : Nat) : Int) ≤ (v : Int) := fun z => c (decide_eq_true z)
    have c' : v < h ^ p := by omega
    refine while_of (fun σ H'' => H'' = H' ∧ ∃ (l h : Nat) (t : Option V), σ = [some (.int v), some (.int p), some (.int l), some (.int h), t] ∧ l ^ p ≤ v ∧ v < h ^ p ∧ l < h ∧ h ≤ 2 ^ 121) (fun σ _ => match σ with | [_, _, some (.int l), some (.int h), _] => h.toNat - l.toNat | _ => 0) ⟨rfl, l, h, t, rfl, h1, c', h2, by omega⟩ ?_
    clear h1 h2 h3 hl c c'
    rintro σ H'' ⟨rfl, l, h, t, rfl, h1, h2, h3, h4⟩
    walk_at "g"
    refine ite2 (fun c => ?_) fun c => ?_
    · have c : (1 : Int) < (h : Int) - (l : Int) := of_decide_eq_true c
      refine ⟨_, fun _ _ z => z, ?_⟩
      walk_at "g"
      refine ⟨⟨by decide, by decide⟩, ?_⟩
      walk_at "g"
      refine ⟨show (l + h) / 2 < 2 ^ 200 by omega, hp2, ?_⟩
      walk_at "g"
      refine ite2 (fun d => ?_) fun d => ?_
      · have d : (((((l + h) / 2) ^ p : Nat)) : Int) ≤ (v : Int) := of_decide_eq_true d
        walk_at "g"
        refine ⟨_, ?_, ⟨rfl, (l + h) / 2, h, _, by rw [show (((l + h) / 2 : Nat) : Int) = ((l : Int) + (h : Int)) / 2 by omega]; rfl, by omega, h2, by omega, h4⟩, rfl⟩
        show (h : Int).toNat - (((l : Int) + (h : Int)) / 2).toNat < (h : Int).toNat - (l : Int).toNat
        omega
      · have d : ¬ (((((l + h) / 2) ^ p : Nat)) : Int) ≤ (v : Int) := fun z => d (decide_eq_true z)
        walk_at "g"
        refine ⟨_, ?_, ⟨rfl, l, (l + h) / 2, _, by rw [show (((l + h) / 2 : Nat) : Int) = ((l : Int) + (h : Int)) / 2 by omega]; rfl, h1, by omega, by omega, by omega⟩, rfl⟩
        show (((l : Int) + (h : Int)) / 2).toNat - (l : Int).toNat < (h : Int).toNat - (l : Int).toNat
        omega
    · have c : ¬ (1 : Int) < (h : Int) - (l : Int) := fun z => c (decide_eq_true z)
      walk_at "g"
      exact q l _ hx h1 (by rw [show l + 1 = h by omega]; exact h2)
theorem sc_is_power : FnScope ["value", "power"] ["value", "power"] (defScope s_is_power) :=
  ⟨rfl, rfl, rfl, by decide +kernel, rfl, by decide +kernel, by decide +kernel⟩
theorem b_is_power {K : PySem.W.Frag} {x q : Str} {f : Addr} {fd : FuncData} (F : Fun K x q s_is_power f fd) : Binds K fd ["value", "power"] [] := F.binds (fun _ _ _ _ _ _ us hl => match us, hl with | [_, _], _ => rfl)
def spIsPower : Sp := fun vs H Q _ => ∃ v p : Nat, vs = [.int v, .int p] ∧ v < 2 ^ 120 ∧ 1 ≤ p ∧ p ≤ 1000 ∧ ∀ (b : Bool) (H' : Hp), Ex [] H H' → (b = true ↔ ∃ x, x ^ p = v) → Q (.bl b) H'
theorem root_small {r p v : Nat} (hp : 1 ≤ p) (h : r ^ p ≤ v) (hv : v < 2 ^ 120) : r < 2 ^ 200 := by
  have h1 := Nat.le_trans (le_pow_self hp) h
  have : (2 : Nat) ^ 120 < 2 ^ 200 := by decide
  omega
theorem w_is_power (T : Tx K mg) : Can P w K mg base CX0 3 "is_power" ["value", "power"] spIsPower :=
  can0 T.d_is_power sc_is_power b_is_power (fun vs H Q E ⟨i, j, e, _⟩ => by rw [e]; rfl) fun f cdv A outer s H vs Q E hr ⟨v, p, ev, hv, hp, hp2, q⟩ => by
  subst ev
  have c_power_of := w_power_of (P := P) (w := w) (base := base) T
  have c_floor_root := w_floor_root (P := P) (w := w) (base := base) T
  refine ⟨_, (pss_one (ps_ret (pe_cmpR op_eq (pe_can c_power_of (hr.mono (by decide)) (by rfl) pass0 (pa_cons (pe_can c_floor_root (hr.mono (by decide)) (by rfl) pass0 (pa_cons (pv 0) (pa_cons (pv 1) pa_nil))) (pa_cons (pv 1) pa_nil))) (pv 0) (nomark _)))), ?_⟩
  walk_at "g"
  refine ⟨hv, hp, hp2, fun r H' hx h1 h2 => ?_⟩
  walk_at "g"
  refine ⟨root_small hp h1 hv, hp2, ?_⟩
  walk_at "g"
  refine q _ _ hx ?_
  rw [M.root_dec hp h1 h2, decide_eq_true_iff]
  constructor
  · intro z
    injection z with z
    omega
  · intro z
    rw [z]
theorem sc_prime_divisors : FnScope ["value", "found", "left", "step"] ["value"] (defScope s_prime_divisors) :=
  ⟨rfl, rfl, rfl, by decide +kernel, rfl, by decide +kernel, by decide +kernel⟩
theorem b_prime_divisors {K : PySem.W.Frag} {x q : Str} {f : Addr} {fd : FuncData} (F : Fun K x q s_prime_divisors f fd) : Binds K fd ["value"] [] := F.binds (fun _ _ _ _ _ _ us hl => match us, hl with | [_], _ => rfl)
def intsN (l : List Nat) : List V := l.map fun k => V.int (k : Nat)
def spPrimes : Sp := fun vs H Q _ => ∃ n : Nat, vs = [.int n] ∧ 1 ≤ n ∧ n ≤ 18 ∧ ∀ p H', Ex [] H H' → H p = none → H' p = some (.lst (intsN (M.primes n))) → Q (.ref p) H'
theorem w_prime_divisors (T : Tx K mg) : Can P w K mg base CX0 1 "prime_divisors" ["value"] spPrimes :=
  can0 T.d_prime_divisors sc_prime_divisors b_prime_divisors (fun vs H Q E ⟨i, e, _⟩ => by rw [e]; rfl) fun f cdv A outer s H vs Q E hr ⟨n, ev, hn, hn2, q⟩ => by
  subst ev
  refine ⟨_, (pss_cons (ps_par3 (i := 1) (j := 2) (l := 3) (by rfl) sc_prime_divisors.nd rfl rfl rfl (by decide) (by decide) (by decide) rfl rfl rfl (pa_cons (pe_lst pa_nil) (pa_cons (pv 0) (pa_cons pe_int pa_nil))) (by rfl))
    (pss_cons (ps_while PassesOwn.never (pt_cmpR op_le (pe_op op_mulW (pv 3) (pv 3)) (pv 2) (nomark _)) (pss_cons (ps_if (pt_cmpR op_eq (pe_op op_mod (pv 2) (pv 3)) pe_int (nomark _)) (pss_cons (ps_expr (pe_bm PySem.F.plainAttrs_list PySem.F.slot_list_append PySem.F.type_list_append mt_append (pv 1) (pa_cons (pv 3) pa_nil)))
    (pss_one (ps_while PassesOwn.never (pt_cmpR op_eq (pe_op op_mod (pv 2) (pv 3)) pe_int (nomark _)) (pss_one (ps_set (i := 2) sc_prime_divisors.nd rfl (Or.inl rfl) (pe_op op_fdiv (pv 2) (pv 3))))))) pss_nil)
    (pss_one (ps_aug (i := 3) sc_prime_divisors.nd rfl (Or.inl rfl) pe_int ip_add))))
    (pss_one (ps_ret (pe_op op_cat (pv 1) (pe_ifExp (pt_cmpR op_gt (pv 2) pe_int (nomark _)) (pe_lst (pa_cons (pv 2) pa_nil)) (pe_lst pa_nil))))))), ?_⟩
  refine ⟨by show 0 ≤ sizeLine; decide, fun fp nfp => ?_⟩
  walk_at "g"
  refine while_of (fun σ H' => Ex [] H H' ∧ ∃ (m : Nat) (fs : List Nat) (l s : Nat), σ = [some (.int n), some (.ref fp), some (.int l), some (.int s)] ∧ H' fp = some (.lst (intsN fs)) ∧ fs.length < s ∧ 1 ≤ l ∧ l ≤ 18 ∧ 2 ≤ s ∧ s ≤ 5 ∧ M.pdRun m fs l s = some (M.primes n))
    (fun σ _ => match σ with | [_, _, _, some (.int s)] => 20 - s.toNat | _ => 0) ⟨Ex.new0 nfp, 10, [], n, 2, rfl, upd_same, by decide, hn, hn2, by decide, by decide, M.pd18 n (by omega) (by omega)⟩ ?_
  rintro σ H' ⟨hx, m, fs, l, s, rfl, hf, hlen, h1, h18, h2, h5, hrun⟩
  cases m with
  | zero => cases hrun
  | succ m =>
  unfold M.pdRun at hrun
  walk_at "g"
  have hbig : 18 < 2 ^ 400 := by decide
  refine ⟨mwN (by omega) (by omega), ?_⟩
  walk_at "g"
  refine ite2 (fun c => ?_) fun c => ?_
  · have c : (s : Int) * s ≤ l := dT c
    have c' : s * s ≤ l := by exact_mod_cast c
    rw [if_pos c'] at hrun
    have hs4 : s ≤ 4 := by
      rcases Nat.lt_or_ge s 5 with z | z
      · omega
      · have := Nat.mul_le_mul z z
        omega
    refine ⟨_, fun _ _ z => z, ?_⟩
    walk_at "g"
    refine ⟨by show (0 : Int) < s; omega, ?_⟩
    walk_at "g"
    refine ite2 (fun d => ?_) fun d => ?_
    · have d' : l % s = 0 := by have := intEq d; omega
      rw [if_pos d'] at hrun
      cases hst : M.strip 20 l s with
      | none => rw [hst] at hrun; cases hrun
      | some lf =>
      rw [hst] at hrun
      walk_at "g"
      refine ⟨.inl ⟨rfl, _, SqL.of hf⟩, ?_⟩
      walk_at "g"
      refine ⟨_, _, _, rfl, rfl, hf, small1000 (by rw [intsN, List.length_map]; omega), ?_⟩
      have hf2 : intsN fs ++ [V.int (s : Int)] = intsN (fs ++ [s]) := by simp [intsN]
      rw [hf2]
      refine while_of (fun σ H'' => H'' = upd H' fp (.lst (intsN (fs ++ [s]))) ∧ ∃ (k l' : Nat), σ = [some (.int n), some (.ref fp), some (.int l'), some (.int s)] ∧ M.strip k l' s = some lf ∧ 1 ≤ l' ∧ l' ≤ 18)
        (fun σ _ => match σ with | [_, _, some (.int l), _] => l.toNat | _ => 0) ⟨rfl, 20, l, rfl, hst, h1, h18⟩ ?_
      rintro σ H'' ⟨rfl, k, l', rfl, hk, g1, g18⟩
      cases k with
      | zero => cases hk
      | succ k =>
      unfold M.strip at hk
      walk_at "g"
      refine ⟨by show (0 : Int) < s; omega, ?_⟩
      walk_at "g"
      refine ite2 (fun e => ?_) fun e => ?_
      · have e' : l' % s = 0 := by have := intEq e; omega
        rw [if_pos e'] at hk
        refine ⟨_, fun _ _ z => z, ?_⟩
        walk_at "g"
        refine ⟨⟨by omega, by omega⟩, ?_⟩
        have hd := Nat.div_mul_cancel (Nat.dvd_of_mod_eq_zero e')
        have hq : l' / s < l' := Nat.div_lt_self (by omega) (by omega)
        have hq1 : 1 ≤ l' / s := by
          rcases Nat.eq_zero_or_pos (l' / s) with z | z
          · rw [z] at hd
            omega
          · exact z
        refine ⟨_, ?_, ⟨rfl, k, l' / s, by rw [Int.natCast_ediv]; rfl, hk, hq1, by omega⟩, rfl⟩
        show ((l' : Int) / (s : Int)).toNat < (l' : Int).toNat
        rw [← Int.natCast_ediv]
        omega
      · have e' : l' % s ≠ 0 := by have := intNe e; omega
        rw [if_neg e'] at hk
        obtain rfl := Option.some.inj hk
        walk_at "g"
        refine ⟨_, ?_, ⟨hx.mut nfp, m, fs ++ [s], l', s + 1, rfl, upd_same, by simp; omega, g1, g18, by omega, by omega, hrun⟩, rfl⟩
        show 20 - ((s : Int) + 1).toNat < 20 - (s : Int).toNat
        omega
    · have d' : l % s ≠ 0 := by have := intNe d; omega
      rw [if_neg d'] at hrun
      walk_at "g"
      refine ⟨_, ?_, ⟨hx, m, fs, l, s + 1, rfl, hf, by omega, h1, h18, by omega, by omega, hrun⟩, rfl⟩
      show 20 - ((s : Int) + 1).toNat < 20 - (s : Int).toNat
      omega
  · have c : ¬ (s : Int) * s ≤ l := dF c
    have c' : ¬ s * s ≤ l := fun z => c (by exact_mod_cast z)
    rw [if_neg c'] at hrun
    have hr2 := Option.some.inj hrun
    walk_at "g"
    refine ite2 (fun d => ?_) fun d => ?_
    · have d : (1 : Int) < (l : Int) := dT d
      rw [if_pos (show 1 < l by omega)] at hr2
      walk_at "g"
      refine ⟨by show 1 ≤ sizeLine; decide, fun gp ngp => ?_⟩
      refine ⟨_, _, _, _, rfl, rfl, (Ex.new0 (M := []) ngp) _ _ (by simp) hf, upd_same, ?_, fun rp nrp => ?_⟩
      · rw [intsN, List.length_map]
        exact Nat.le_of_lt (small1000 (by show fs.length + 1 ≤ 1000; omega))
      · refine q rp _ ((hx.new ngp).new nrp) (((hx.new ngp)).none_back (by simp) nrp) ?_
        rw [upd_same, ← hr2]
        simp [intsN]
    · have d : ¬ (1 : Int) < (l : Int) := dF d
      rw [if_neg (show ¬ 1 < l by omega)] at hr2
      walk_at "g"
      refine ⟨by show 0 ≤ sizeLine; decide, fun gp ngp => ?_⟩
      refine ⟨_, _, _, _, rfl, rfl, (Ex.new0 (M := []) ngp) _ _ (by simp) hf, upd_same, ?_, fun rp nrp => ?_⟩
      · rw [intsN, List.length_map]
        exact Nat.le_of_lt (small1000 (by show fs.length + 0 ≤ 1000; omega))
      · refine q rp _ ((hx.new ngp).new nrp) (((hx.new ngp)).none_back (by simp) nrp) ?_
        rw [upd_same, ← hr2]
        simp [intsN]
end
end G
-- Wb
set_option pp.maxSteps 800
set_option Elab.async false
set_option linter.all false
set_option maxRecDepth 100000
set_option maxHeartbeats 800000
namespace G
open PySem PySem.Spec PyProof.Rows L2 LamX NdefX
local macro_rules | `(tactic| walk_at "g") => `(tactic| repeat (first | refine ⟨_, rfl, ?_⟩ | refine ⟨_, _, rfl, ?_⟩ | refine ⟨_, _, _, rfl, ?_⟩ | refine ⟨_, _, rfl, rfl, ?_⟩ | refine ⟨rfl, ?_⟩))
local macro_rules | `(tactic| walk_at "w") => `(tactic| repeat (first | refine ⟨_, rfl, ?_⟩ | refine ⟨_, _, rfl, ?_⟩ | refine ⟨_, _, _, rfl, ?_⟩ | refine ⟨_, _, rfl, rfl, ?_⟩ | refine ⟨rfl, ?_⟩ | refine Or.inl ⟨_, rfl, ?_⟩ | refine ⟨_, _, rfl, .inr ⟨_, SqT.of (by assumption), rfl⟩, ?_⟩ | refine ⟨_, _, rfl, .inl ⟨_, SqL.of (by assumption), rfl⟩, ?_⟩ | refine ⟨_, _, _, _, rfl, rfl, SqT.of (by assumption), (by rfl), ?_⟩ | refine ⟨_, _, _, _, rfl, rfl, SqL.of (by assumption), (by rfl), ?_⟩ | refine ⟨_, _, _, _, rfl, rfl, SqL.of upd_same, (by rfl), ?_⟩ | refine ⟨_, _, _, _, rfl, rfl, (by assumption), (by rfl), ?_⟩ | refine ⟨_, _, _, _, rfl, rfl, upd_same, (by rfl), ?_⟩))
section
variable {P : Program} {w : World} {K : PySem.W.Frag} {mg : Str → Option Value} {base : Heap}
theorem sc_is_name : FnScope ["value", "sign"] ["value"] (defScope s_is_name) :=
  ⟨rfl, rfl, rfl, by decide +kernel, rfl, by decide +kernel, by decide +kernel⟩
theorem b_is_name {K : PySem.W.Frag} {x q : Str} {f : Addr} {fd : FuncData} (F : Fun K x q s_is_name f fd) : Binds K fd ["value"] [] := F.binds (fun _ _ _ _ _ _ us hl => match us, hl with | [_], _ => rfl)
def NameOk (z : Str) : Prop := 1 ≤ z.length ∧ z.length ≤ 8 ∧ ∀ c ∈ z.cps.toList, c ∈ ("abcdefghijklmnopqrstuvwxyz" : Str).cps.toList
def spName : Sp := fun vs H Q _ => ∃ z : Str, vs = [.str z] ∧ NameOk z ∧ ∀ H', Ex [] H H' → Q (.bl true) H'
theorem w_is_name (T : Tx K mg) : Can P w K mg base CX0 1 "is_name" ["value"] spName :=
  can0 T.d_is_name sc_is_name b_is_name (fun vs H Q E ⟨i, e, _⟩ => by rw [e]; rfl) fun f cdv A outer s H vs Q E hr ⟨z, ev, ⟨h1, h8, hz⟩, q⟩ => by
  subst ev
  refine ⟨_, (pss_one (ps_ret (pe_and (pe_callB call_isi (by rfl) T.m_isinstance (by decide +kernel) (pa_cons (pv 0) (pa_cons (pe_bltn (v := .ty "str") (by rfl) T.m_str (by decide +kernel) rfl) pa_nil))) (pe_and (pe_chain op_le op_le pe_int (pe_callB call_len (by rfl) T.m_len (by decide +kernel) (pa_cons (pv 0) pa_nil)) (pe_gI (by rfl) T.g_MOST_LETTERS)) (pe_one (pe_callB (cr_all rfl) (by rfl) T.m_all (by decide +kernel) (pa_cons (pe_lc (own := [("sign", 1)]) (g := gName 1) (by rfl) sc_is_name.nd (pi_str (pv 0)) (blkOk_by (own := [("sign", 1)]) (N := ["value", "sign"]) (sc := defScope s_is_name) (by decide +kernel)) (fun _ _ _ _ _ => (pg_name (i := 1) sc_is_name.nd rfl (Or.inl rfl))) (fun _ _ _ _ _ => pts_nil) (fun _ _ _ _ _ => (pe_cmpR op_in_sign (pv 1) (pe_gS (by rfl) T.g_LETTERS) (by rfl)))) pa_nil))))))), ?_⟩
  have hb : sizeLine ≥ 1000 := by decide
  refine ⟨_, rfl, _, _, _, _, true, rfl, .ty _, .base (.str _), kit_ty (by decide +kernel), true, rfl, ?_⟩
  walk_at "g"
  refine ⟨_, z.length, rfl, ⟨by omega, rfl⟩, ?_⟩
  walk_at "g"
  refine ite2 (fun c => ?_) fun c => absurd (decide_eq_true (by omega)) c
  walk_at "g"
  refine ite2 (fun c => ?_) fun c => absurd (decide_eq_true (by omega)) c
  walk_at "g"
  refine fun D nD => lc_str (fun i H' => Ex [] H H' ∧ H' D = some (.lst (List.replicate i (.bl true)))) ⟨Ex.new0 nD, upd_same⟩ (fun i c H' hc ⟨hx, hd⟩ => ?_) fun H' ⟨hx, hd⟩ => ?_
  · walk_at "g"
    have hm : c ∈ z.cps.toList := Array.mem_toList_iff.mpr (Array.mem_of_getElem? hc)
    have hl : i < z.length := (Array.getElem?_eq_some_iff.mp hc).1
    refine ⟨_, hd, by rw [List.length_replicate]; omega, hx.mut nD, ?_⟩
    rw [upd_same, decide_eq_true (hz c hm), List.replicate_succ']
  · walk_at "g"
    refine ⟨_, List.replicate z.cps.size true, rfl, SqL.of (by rw [hd, List.map_replicate]), ?_⟩
    rw [show (List.replicate z.cps.size true).all id = true by simp]
    exact q _ hx
/-! ### numbers -/
/-- a number of the book: a pair (top, bottom) -/
def Num (H : Hp) (a : Addr) (sg : Int) (r : M.Row) : Prop := H a = some (.tup [.int (sg * (r.top : Nat)), .int (r.bot : Nat)]) ∧ (sg = 1 ∨ sg = -1) ∧ r.Ok
theorem Num.ex {Ms : List Addr} {H H' : Hp} {a : Addr} {sg : Int} {r : M.Row} (h : Num H a sg r) (x : Ex Ms H H') (n : a ∉ Ms) : Num H' a sg r := ⟨x _ _ n h.1, h.2⟩
theorem e30 : (10 : Nat) ^ 30 < 2 ^ 100 := by decide
theorem sc_is_number : FnScope ["value"] ["value"] (defScope s_is_number) :=
  ⟨rfl, rfl, rfl, by decide +kernel, rfl, by decide +kernel, by decide +kernel⟩
theorem b_is_number {K : PySem.W.Frag} {x q : Str} {f : Addr} {fd : FuncData} (F : Fun K x q s_is_number f fd) : Binds K fd ["value"] [] := F.binds (fun _ _ _ _ _ _ us hl => match us, hl with | [_], _ => rfl)
def spNumber : Sp := fun vs H Q _ => ∃ a sg r, vs = [.ref a] ∧ Num H a sg r ∧ Q (.bl true) H
theorem w_is_number (T : Tx K mg) : Can P w K mg base CX0 3 "is_number" ["value"] spNumber :=
  can0 T.d_is_number sc_is_number b_is_number (fun vs H Q E ⟨i, _, _, e, _⟩ => by rw [e]; rfl) fun f cdv A outer s H vs Q E hr ⟨a, sg, r, ev, ⟨ha, hsg, ok⟩, q⟩ => by
  subst ev
  have c_is_between := w_is_between (P := P) (w := w) (base := base) T
  have c_common_divisor := w_common_divisor (P := P) (w := w) (base := base) T
  refine ⟨_, (pss_cons (ps_if (PW.pt (pw_or (pt_not (pt_val (pe_callB call_isi (by rfl) T.m_isinstance (by decide +kernel) (pa_cons (pv 0) (pa_cons (pe_bltn (v := .ty "tuple") (by rfl) T.m_tuple (by decide +kernel) rfl) pa_nil))))) (pw_or1 (pt_cmpR op_ne (pe_callB call_len (by rfl) T.m_len (by decide +kernel) (pa_cons (pv 0) pa_nil)) pe_int (nomark _))))) (pss_one (ps_ret pe_bl)) pss_nil)
    (pss_cons (ps_if (PW.pt (pw_or (pt_not (pt_val (pe_can c_is_between (hr.mono (by decide)) (by rfl) pass0 (pa_cons (pe_ix ix_tup (pv 0) pe_int (fun _ _ => rfl)) (pa_cons (pe_un un_neg (pe_gI (by rfl) T.g_MOST_SIZE)) (pa_cons (pe_gI (by rfl) T.g_MOST_SIZE) pa_nil)))))) (pw_or (pt_cmpR op_eq (pe_ix ix_tup (pv 0) pe_int (fun _ _ => rfl)) pe_int (nomark _)) (pw_or1 (pt_not (pt_val (pe_can c_is_between (hr.mono (by decide)) (by rfl) pass0 (pa_cons (pe_ix ix_tup (pv 0) pe_int (fun _ _ => rfl)) (pa_cons pe_int (pa_cons (pe_gI (by rfl) T.g_MOST_SIZE) pa_nil)))))))))) (pss_one (ps_ret pe_bl)) pss_nil)
    (pss_one (ps_ret (pe_cmpR op_eq (pe_can c_common_divisor (hr.mono (by decide)) (by rfl) pass0 (pa_cons (pe_callB call_abs (by rfl) T.m_abs (by decide +kernel) (pa_cons (pe_ix ix_tup (pv 0) pe_int (fun _ _ => rfl)) pa_nil)) (pa_cons (pe_ix ix_tup (pv 0) pe_int (fun _ _ => rfl)) pa_nil))) pe_int (nomark _)))))), ?_⟩
  have ht := ok.top
  have hb := ok.bot
  have hp := M.Row.top_pos r
  have hbp := M.Row.bot_pos r
  have hs : -(10 ^ 30 : Int) ≤ sg * (r.top : Nat) ∧ sg * (r.top : Nat) ≤ 10 ^ 30 ∧ sg * (r.top : Nat) ≠ 0 ∧ (if sg * (r.top : Nat) < 0 then -(sg * (r.top : Nat)) else sg * (r.top : Nat)) = ((r.top : Nat) : Int) := by
    have ht' : ((r.top : Nat) : Int) ≤ 10 ^ 30 := by exact_mod_cast ht
    rcases hsg with e | e <;> subst e
    · refine ⟨by omega, by omega, by omega, ?_⟩
      rw [if_neg (by omega)]
      omega
    · refine ⟨by omega, by omega, by omega, ?_⟩
      rw [if_pos (by omega)]
      omega
  refine ⟨_, rfl, _, _, _, _, true, rfl, .ty _, .base (.tup ha), kit_ty (by decide +kernel), true, rfl, ?_⟩
  walk_at "w"
  refine iteNS ⟨hs.1, hs.2.1⟩ ?_
  walk_at "w"
  refine ite2 (fun c => absurd (intEq c) hs.2.2.1) fun _ => ?_
  walk_at "w"
  have hb' : ((r.bot : Nat) : Int) ≤ 10 ^ 30 := by exact_mod_cast hb
  refine iteNS ⟨by omega, hb'⟩ ?_
  walk_at "w"
  refine ⟨r.top, r.bot, by rw [hs.2.2.2]; rfl, ?_⟩
  walk_at "w"
  rw [show Nat.gcd r.top r.bot = 1 from M.Row.coprime r]
  exact q
theorem sc_check_number : FnScope ["value"] ["value"] (defScope s_check_number) :=
  ⟨rfl, rfl, rfl, by decide +kernel, rfl, by decide +kernel, by decide +kernel⟩
theorem b_check_number {K : PySem.W.Frag} {x q : Str} {f : Addr} {fd : FuncData} (F : Fun K x q s_check_number f fd) : Binds K fd ["value"] [] := F.binds (fun _ _ _ _ _ _ us hl => match us, hl with | [_], _ => rfl)
theorem w_check_number (T : Tx K mg) : Can P w K mg base CX0 4 "check_number" ["value"] (fun vs H Q _ => ∃ a sg r, vs = [.ref a] ∧ Num H a sg r ∧ Q .non H) :=
  can0 T.d_check_number sc_check_number b_check_number (fun vs H Q E ⟨i, _, _, e, _⟩ => by rw [e]; rfl) fun f cdv A outer s H vs Q E hr ⟨a, sg, r, ev, hn, q⟩ => by
  subst ev
  have c_is_number := w_is_number (P := P) (w := w) (base := base) T
  refine ⟨_, (pss_one (ps_if (pt_not (pt_val (pe_can c_is_number (hr.mono (by decide)) (by rfl) pass0 (pa_cons (pv 0) pa_nil)))) (pss_one (ps_never)) pss_nil)), ?_⟩
  refine ⟨_, rfl, _, _, _, rfl, hn, true, rfl, ?_⟩
  exact q
theorem sc_lowest : FnScope ["top", "bottom", "common"] ["top", "bottom"] (defScope s_lowest) :=
  ⟨rfl, rfl, rfl, by decide +kernel, rfl, by decide +kernel, by decide +kernel⟩
theorem b_lowest {K : PySem.W.Frag} {x q : Str} {f : Addr} {fd : FuncData} (F : Fun K x q s_lowest f fd) : Binds K fd ["top", "bottom"] [] := F.binds (fun _ _ _ _ _ _ us hl => match us, hl with | [_, _], _ => rfl)
/-- of -n[0], 4 * n[1] -/
def spLowest : Sp := fun vs H Q _ => ∃ r : M.Row, vs = [.int (r.top : Nat), .int ((4 * r.bot : Nat) : Int)] ∧ ∀ p H', Ex [] H H' → H p = none → H' p = some (.tup [.int (r.quart.top : Nat), .int (r.quart.bot : Nat)]) → Q (.ref p) H'
theorem w_lowest (T : Tx K mg) : Can P w K mg base CX0 2 "lowest" ["top", "bottom"] spLowest :=
  can0 T.d_lowest sc_lowest b_lowest (fun vs H Q E ⟨i, e, _⟩ => by rw [e]; rfl) fun f cdv A outer s H vs Q E hr ⟨r, ev, q⟩ => by
  subst ev
  have c_common_divisor := w_common_divisor (P := P) (w := w) (base := base) T
  refine ⟨_, (pss_cons (ps_set (i := 2) sc_lowest.nd rfl (Or.inl rfl) (pe_can c_common_divisor (hr.mono (by decide)) (by rfl) pass0 (pa_cons (pe_callB call_abs (by rfl) T.m_abs (by decide +kernel) (pa_cons (pv 0) pa_nil)) (pa_cons (pv 1) pa_nil))))
    (pss_one (ps_ret (pe_tup (pa_cons (pe_op op_fdiv (pv 0) (pv 2)) (pa_cons (pe_op op_fdiv (pv 1) (pv 2)) pa_nil)))))), ?_⟩
  walk_at "w"
  obtain ⟨k, hk, e, e1, e2⟩ := M.Row.quart_gcd r
  rw [e]
  walk_at "w"
  refine ⟨⟨by rcases hk with z | z | z <;> subst z <;> decide, by rcases hk with z | z | z <;> subst z <;> decide⟩, ?_⟩
  walk_at "w"
  refine ⟨⟨by rcases hk with z | z | z <;> subst z <;> decide, by rcases hk with z | z | z <;> subst z <;> decide⟩, ?_⟩
  walk_at "w"
  refine ⟨by show 2 ≤ sizeLine; decide, fun p np => q p _ (Ex.new0 np) np ?_⟩
  rw [upd_same, ← e1, ← e2, Int.natCast_ediv, Int.natCast_ediv]
theorem sc_raised : FnScope ["number", "power"] ["number", "power"] (defScope s_raised) :=
  ⟨rfl, rfl, rfl, by decide +kernel, rfl, by decide +kernel, by decide +kernel⟩
theorem b_raised {K : PySem.W.Frag} {x q : Str} {f : Addr} {fd : FuncData} (F : Fun K x q s_raised f fd) : Binds K fd ["number", "power"] [] := F.binds (fun _ _ _ _ _ _ us hl => match us, hl with | [_, _], _ => rfl)
def spRaised : Sp := fun vs H Q _ => ∃ (a : Addr) (x y m : Nat), vs = [.ref a, .int m] ∧ H a = some (.tup [.int x, .int y]) ∧ x < 2 ^ 200 ∧ y < 2 ^ 200 ∧ m ≤ 1000 ∧ ∀ p H' (x y : Int), Ex [] H H' → H p = none → H' p = some (.tup [.int x, .int y]) → Q (.ref p) H'
theorem w_raised (T : Tx K mg) : Can P w K mg base CX0 2 "raised" ["number", "power"] spRaised :=
  can0 T.d_raised sc_raised b_raised (fun vs H Q E ⟨_, _, _, _, e, _⟩ => by rw [e]; rfl) fun f cdv A outer s H vs Q E hr ⟨a, x, y, m, ev, ha, hx, hy, hm, q⟩ => by
  subst ev
  have c_power_of := w_power_of (P := P) (w := w) (base := base) T
  refine ⟨_, (pss_one (ps_ret (pe_tup (pa_cons (pe_can c_power_of (hr.mono (by decide)) (by rfl) pass0 (pa_cons (pe_ix ix_tup (pv 0) pe_int (fun _ _ => rfl)) (pa_cons (pv 1) pa_nil))) (pa_cons (pe_can c_power_of (hr.mono (by decide)) (by rfl) pass0 (pa_cons (pe_ix ix_tup (pv 0) pe_int (fun _ _ => rfl)) (pa_cons (pv 1) pa_nil))) pa_nil))))), ?_⟩
  walk_at "w"
  refine ⟨hx, hm, ?_⟩
  walk_at "w"
  refine ⟨hy, hm, ?_⟩
  walk_at "w"
  exact ⟨by show 2 ≤ sizeLine; decide, fun p np => q p _ _ _ (Ex.new0 np) np upd_same⟩
theorem sc_whole_root : FnScope ["value", "power", "low", "high", "middle"] ["value", "power"] (defScope s_whole_root) :=
  ⟨rfl, rfl, rfl, by decide +kernel, rfl, by decide +kernel, by decide +kernel⟩
theorem b_whole_root {K : PySem.W.Frag} {x q : Str} {f : Addr} {fd : FuncData} (F : Fun K x q s_whole_root f fd) : Binds K fd ["value", "power"] [] := F.binds (fun _ _ _ _ _ _ us hl => match us, hl with | [_, _], _ => rfl)
def spRoot : Sp := fun vs H Q _ => ∃ v p x : Nat, vs = [.int v, .int p] ∧ v < 2 ^ 120 ∧ 1 ≤ v ∧ 1 ≤ p ∧ p ≤ 1000 ∧ x ^ p = v ∧ ∀ H', Ex [] H H' → Q (.int x) H'
theorem w_whole_root (T : Tx K mg) : Can P w K mg base CX0 2 "whole_root" ["value", "power"] spRoot :=
  can0 T.d_whole_root sc_whole_root b_whole_root (fun vs H Q E ⟨i, j, _, e, _⟩ => by rw [e]; rfl) fun f cdv A outer s H vs Q E hr ⟨v, p, x, ev, hv, hv1, hp, hp2, hxp, q⟩ => by
  subst ev
  have c_power_of := w_power_of (P := P) (w := w) (base := base) T
  refine ⟨_, (pss_cons (ps_asg (pe_tup (pa_cons pe_int (pa_cons pe_int pa_nil))) (pg_tup (by rfl) (pgs_cons (pg_name (i := 2) sc_whole_root.nd rfl (Or.inl rfl)) (pgs_cons (pg_name (i := 3) sc_whole_root.nd rfl (Or.inl rfl)) pgs_nil))))
    (pss_cons (ps_while PassesOwn.never (pt_cmpR op_lt (pe_can c_power_of (hr.mono (by decide)) (by rfl) pass0 (pa_cons (pv 3) (pa_cons (pv 1) pa_nil))) (pv 0) (nomark _)) (pss_one (ps_set (i := 3) sc_whole_root.nd rfl (Or.inl rfl) (pe_op op_mulW pe_int (pv 3)))))
    (pss_cons (ps_while PassesOwn.never (pt_cmpR op_lt (pv 2) (pv 3) (nomark _)) (pss_cons (ps_set (i := 4) sc_whole_root.nd rfl (Or.inl rfl) (pe_op op_fdiv (pe_op op_add (pv 2) (pv 3)) pe_int))
    (pss_one (ps_if (pt_cmpR op_lt (pe_can c_power_of (hr.mono (by decide)) (by rfl) pass0 (pa_cons (pv 4) (pa_cons (pv 1) pa_nil))) (pv 0) (nomark _)) (pss_one (ps_set (i := 2) sc_whole_root.nd rfl (Or.inl rfl) (pe_op op_add (pv 4) pe_int))) (pss_one (ps_set (i := 3) sc_whole_root.nd rfl (Or.inl rfl) (pv 4)))))))
    (pss_one (ps_ret (pv 2)))))), ?_⟩
  have hbig : (2 : Nat) ^ 122 < 2 ^ 200 := by decide
  have hmul : (2 : Nat) ^ 121 = 2 * 2 ^ 120 := rfl
  have hxv : x ≤ v := by rw [← hxp]; exact le_pow_self hp
  refine ⟨by show 2 ≤ sizeLine; decide, fun tp ntp => ?_⟩
  refine ⟨_, _, rfl, SqT.of upd_same, rfl, ?_⟩
  walk_at "g"
  have lt_iff : ∀ h : Nat, h ^ p < v ↔ h < x := fun h => ⟨fun z => M.pow_lt_of hp (by omega), fun z => by rw [← hxp]; exact Nat.pow_lt_pow_left z (by omega)⟩
  refine while_of (fun σ H' => Ex [] H H' ∧ ∃ (h : Nat) (t : Option V), σ = [some (.int v), some (.int p), some (.int 0), some (.int h), t] ∧ 1 ≤ h ∧ h ≤ 2 * x) (fun σ _ => match σ with | [_, _, _, some (.int h), _] => 2 * x - h.toNat | _ => 0) ⟨Ex.new0 ntp, 1, none, rfl, by decide, ?_⟩ ?_
  · rcases Nat.eq_zero_or_pos x with z | z
    · subst z
      rw [Nat.zero_pow (by omega)] at hxp
      omega
    · omega
  rintro σ H' ⟨hx, h, t, rfl, h1, h2⟩
  walk_at "g"
  refine ⟨by omega, hp2, ?_⟩
  walk_at "g"
  refine ite2 (fun c => ?_) fun c => ?_
  · have c : ((h ^ p : Nat) : Int) < (v : Int) := dT c
    have c' : h < x := (lt_iff h).mp (by omega)
    refine ⟨_, fun _ _ z => z, ?_⟩
    walk_at "g"
    have h400 : (2 : Nat) ^ 121 < 2 ^ 400 := by decide
    refine ⟨mwN (a := 2) (by decide) (show h < 2 ^ 400 by omega), ?_⟩
    refine ⟨_, ?_, ⟨hx, 2 * h, t, by rw [show ((2 * h : Nat) : Int) = 2 * (h : Int) by omega]; rfl, by omega, by omega⟩, rfl⟩
    show 2 * x - (2 * (h : Int)).toNat < 2 * x - (h : Int).toNat
    omega
  · have c : ¬ ((h ^ p : Nat) : Int) < (v : Int) := dF c
    have c' : x ≤ h := Nat.le_of_not_lt fun z => c (by have := (lt_iff h).mpr z; omega)
    refine while_of (fun σ H'' => Ex [] H H'' ∧ ∃ (l h : Nat) (t : Option V), σ = [some (.int v), some (.int p), some (.int l), some (.int h), t] ∧ l ≤ x ∧ x ≤ h ∧ h ≤ 2 ^ 121) (fun σ _ => match σ with | [_, _, some (.int l), some (.int h), _] => h.toNat - l.toNat | _ => 0) ⟨hx, 0, h, t, rfl, by omega, c', by omega⟩ ?_
    clear c c' h1 h2 hx
    rintro σ H'' ⟨hx, l, h, t, rfl, h1, h2, h3⟩
    walk_at "g"
    refine ite2 (fun c => ?_) fun c => ?_
    · have c : (l : Int) < (h : Int) := dT c
      refine ⟨_, fun _ _ z => z, ?_⟩
      walk_at "g"
      refine ⟨⟨by decide, by decide⟩, ?_⟩
      walk_at "g"
      refine ⟨show (l + h) / 2 < 2 ^ 200 by omega, hp2, ?_⟩
      walk_at "g"
      refine ite2 (fun d => ?_) fun d => ?_
      · have d : (((((l + h) / 2) ^ p : Nat)) : Int) < (v : Int) := dT d
        have d' : (l + h) / 2 < x := (lt_iff _).mp (by omega)
        walk_at "g"
        refine ⟨_, ?_, ⟨hx, (l + h) / 2 + 1, h, _, by rw [show (((l + h) / 2 + 1 : Nat) : Int) = ((l : Int) + (h : Int)) / 2 + 1 by omega]; rfl, by omega, h2, h3⟩, rfl⟩
        show (h : Int).toNat - (((l : Int) + (h : Int)) / 2 + 1).toNat < (h : Int).toNat - (l : Int).toNat
        omega
      · have d : ¬ (((((l + h) / 2) ^ p : Nat)) : Int) < (v : Int) := dF d
        have d' : x ≤ (l + h) / 2 := Nat.le_of_not_lt fun z => d (by have := (lt_iff _).mpr z; omega)
        walk_at "g"
        refine ⟨_, ?_, ⟨hx, l, (l + h) / 2, _, by rw [show (((l + h) / 2 : Nat) : Int) = ((l : Int) + (h : Int)) / 2 by omega]; rfl, h1, d', by omega⟩, rfl⟩
        show (((l : Int) + (h : Int)) / 2).toNat - (l : Int).toNat < (h : Int).toNat - (l : Int).toNat
        omega
    · have c : ¬ (l : Int) < (h : Int) := dF c
      walk_at "g"
      obtain rfl : l = x := by omega
      exact q _ hx
end
end G
-- Wc
set_option pp.maxSteps 800
set_option Elab.async false
set_option linter.all false
set_option maxRecDepth 100000
set_option maxHeartbeats 800000
namespace G
open PySem PySem.Spec PyProof.Rows L2 LamX NdefX
local macro_rules | `(tactic| walk_at "g") => `(tactic| repeat (first | refine ⟨_, rfl, ?_⟩ | refine ⟨_, _, rfl, ?_⟩ | refine ⟨_, _, _, rfl, ?_⟩ | refine ⟨_, _, rfl, rfl, ?_⟩ | refine ⟨rfl, ?_⟩))
local macro_rules | `(tactic| walk_at "w") => `(tactic| repeat (first | refine ⟨_, rfl, ?_⟩ | refine ⟨_, _, rfl, ?_⟩ | refine ⟨_, _, _, rfl, ?_⟩ | refine ⟨_, _, rfl, rfl, ?_⟩ | refine ⟨rfl, ?_⟩ | refine Or.inl ⟨_, rfl, ?_⟩ | refine ⟨_, _, rfl, .inr ⟨_, SqT.of (by assumption), rfl⟩, ?_⟩ | refine ⟨_, _, rfl, .inl ⟨_, SqL.of (by assumption), rfl⟩, ?_⟩ | refine ⟨_, _, _, _, rfl, rfl, SqT.of (by assumption), (by rfl), ?_⟩ | refine ⟨_, _, _, _, rfl, rfl, SqL.of (by assumption), (by rfl), ?_⟩ | refine ⟨_, _, _, _, rfl, rfl, SqL.of upd_same, (by rfl), ?_⟩ | refine ⟨_, _, _, _, rfl, rfl, (by assumption), (by rfl), ?_⟩ | refine ⟨_, _, _, _, rfl, rfl, upd_same, (by rfl), ?_⟩))
section
variable {P : Program} {w : World} {K : PySem.W.Frag} {mg : Str → Option Value} {base : Heap}
theorem sc_base_and_exponent : FnScope ["top", "bottom", "power", "bound"] ["top", "bottom"] (defScope s_base_and_exponent) :=
  ⟨rfl, rfl, rfl, by decide +kernel, rfl, by decide +kernel, by decide +kernel⟩
theorem b_base_and_exponent {K : PySem.W.Frag} {x q : Str} {f : Addr} {fd : FuncData} (F : Fun K x q s_base_and_exponent f fd) : Binds K fd ["top", "bottom"] [] := F.binds (fun _ _ _ _ _ _ us hl => match us, hl with | [_, _], _ => rfl)
def BaseQ (H : Hp) (r : M.Row) (Q : VK) : Prop := ∀ (p q : Addr) (x y : Nat) (H' : Hp), Ex [] H H' → H p = none → H' p = some (.tup [.ref q, .int (r.g : Nat)]) → H' q = some (.tup [.int x, .int y]) → x < 2 ^ 200 → y < 2 ^ 200 → Q (.ref p) H'
def spBase : Sp := fun vs H Q _ => ∃ r : M.Row, vs = [.int (r.top : Nat), .int (r.bot : Nat)] ∧ r.top < 2 ^ 110 ∧ r.bot < 2 ^ 110 ∧ BaseQ H r Q
theorem g_lt {r : M.Row} (ht : r.top < 2 ^ 110) (hb : r.bot < 2 ^ 110) : r.g < 110 := by
  rcases Nat.eq_zero_or_pos r.g with z | z
  · omega
  · have h := M.Row.two_pow_g (r := r) (by omega)
    have h2 : 2 ^ r.g < 2 ^ 110 := Nat.lt_of_le_of_lt h (Nat.max_lt.mpr ⟨ht, hb⟩)
    exact M.pow_lt2 h2
theorem key_root {r : M.Row} {p : Nat} (hg0 : r.g ≠ 0) (hgp : r.g ≤ p) : ((∃ x, x ^ p = r.top) ∧ ∃ x, x ^ p = r.bot) ↔ p = r.g := by
  have h1 : 1 ≤ p := by omega
  rw [M.Row.both_pow h1]
  constructor
  · intro z
    have := Nat.le_of_dvd (by omega) z
    omega
  · intro z
    rw [z]
    exact Nat.dvd_refl _
theorem w_base_and_exponent (T : Tx K mg) : Can P w K mg base CX0 4 "base_and_exponent" ["top", "bottom"] spBase :=
  can0 T.d_base_and_exponent sc_base_and_exponent b_base_and_exponent (fun vs H Q E ⟨i, e, _⟩ => by rw [e]; rfl) fun f cdv A outer s H vs Q E hr ⟨r, ev, ht, hb, q⟩ => by
  subst ev
  have c_is_power := w_is_power (P := P) (w := w) (base := base) T
  have c_whole_root := w_whole_root (P := P) (w := w) (base := base) T
  refine ⟨_, (pss_cons (ps_if (PW.pt (pw_and (pt_cmpR op_eq (pv 0) pe_int (nomark _)) (pw_and1 (pt_cmpR op_eq (pv 1) pe_int (nomark _))))) (pss_one (ps_ret (pe_tup (pa_cons (pe_tup (pa_cons pe_int (pa_cons pe_int pa_nil))) (pa_cons pe_int pa_nil))))) pss_nil)
    (pss_cons (ps_asg (pe_tup (pa_cons pe_int (pa_cons pe_int pa_nil))) (pg_tup (by rfl) (pgs_cons (pg_name (i := 2) sc_base_and_exponent.nd rfl (Or.inl rfl)) (pgs_cons (pg_name (i := 3) sc_base_and_exponent.nd rfl (Or.inl rfl)) pgs_nil))))
    (pss_cons (ps_while PassesOwn.never (pt_cmpR op_le (pv 3) (pe_callB (call_max2 rfl) (by rfl) T.m_max (by decide +kernel) (pa_cons (pv 0) (pa_cons (pv 1) pa_nil))) (nomark _)) (pss_one (ps_par (i := 2) (j := 3) (by rfl) sc_base_and_exponent.nd rfl rfl (by decide) rfl rfl (pa_cons (pe_op op_add (pv 2) pe_int) (pa_cons (pe_op op_mulW pe_int (pv 3)) pa_nil)) (by rfl))))
    (pss_cons (ps_while PassesOwn.never (PW.pt (pw_or (pt_not (pt_val (pe_can c_is_power (hr.mono (by decide)) (by rfl) pass0 (pa_cons (pv 0) (pa_cons (pv 2) pa_nil))))) (pw_or1 (pt_not (pt_val (pe_can c_is_power (hr.mono (by decide)) (by rfl) pass0 (pa_cons (pv 1) (pa_cons (pv 2) pa_nil)))))))) (pss_one (ps_aug (i := 2) sc_base_and_exponent.nd rfl (Or.inl rfl) pe_int ip_sub)))
    (pss_one (ps_ret (pe_tup (pa_cons (pe_tup (pa_cons (pe_can c_whole_root (hr.mono (by decide)) (by rfl) pass0 (pa_cons (pv 0) (pa_cons (pv 2) pa_nil))) (pa_cons (pe_can c_whole_root (hr.mono (by decide)) (by rfl) pass0 (pa_cons (pv 1) (pa_cons (pv 2) pa_nil))) pa_nil))) (pa_cons (pv 2) pa_nil))))))))), ?_⟩
  have h2 : 2 ≤ sizeLine := by decide
  have htp := M.Row.top_pos r
  have hbp := M.Row.bot_pos r
  have hg := g_lt ht hb
  have h120 : (2 : Nat) ^ 110 < 2 ^ 120 := by decide
  have h200 : (2 : Nat) ^ 110 < 2 ^ 200 := by decide
  by_cases h1 : r.top = 1 ∧ r.bot = 1
  · have hg0 : r.g = 0 := M.Row.g_zero.mpr h1
    walk_at "g"
    refine ite2 (fun _ => ?_) fun c => absurd (decide_eq_true (by rw [h1.1]; rfl)) c
    walk_at "g"
    refine ite2 (fun _ => ?_) fun c => absurd (decide_eq_true (by rw [h1.2]; rfl)) c
    refine ⟨h2, fun t1 n1 => ⟨h2, fun t2 n2 => ?_⟩⟩
    refine q t2 t1 1 1 _ ((Ex.new0 n1).new n2) ((Ex.new0 (M := []) n1).none_back (by simp) n2) (by rw [upd_same, hg0]; rfl) ?_ (by decide) (by decide)
    rw [upd_ne (ne_of_none upd_same n2), upd_same]
    rfl
  · have hg0 : r.g ≠ 0 := fun z => h1 (M.Row.g_zero.mp z)
    have hmx : 2 ^ r.g ≤ max r.top r.bot := M.Row.two_pow_g hg0
    have hmx2 : max r.top r.bot < 2 ^ 110 := Nat.max_lt.mpr ⟨ht, hb⟩
    generalize hmm : max r.top r.bot = mx at hmx hmx2
    have hmi : (if ((r.bot : Nat) : Int) > ((r.top : Nat) : Int) then ((r.bot : Nat) : Int) else ((r.top : Nat) : Int)) = ((mx : Nat) : Int) := by
      rw [← hmm]
      split <;> omega
    walk_at "g"
    refine ite2 (fun c1 => ⟨_, rfl, rfl, _, rfl, ite2 (fun c2 => absurd ⟨by have := intEq c1; omega, by have := intEq c2; omega⟩ h1) fun c2 => ?_⟩) fun c1 => ?_
    all_goals
      refine ⟨h2, fun tp ntp => ?_⟩
      refine ⟨_, _, rfl, SqT.of upd_same, rfl, ?_⟩
      walk_at "g"
      refine while_of (fun σ H' => Ex [] H H' ∧ ∃ p : Nat, σ = [some (.int (r.top : Nat)), some (.int (r.bot : Nat)), some (.int p), some (.int ((2 ^ (p + 1) : Nat) : Int))] ∧ 1 ≤ p ∧ p ≤ 111) (fun σ _ => match σ with | [_, _, some (.int p), _] => 200 - p.toNat | _ => 0) ⟨Ex.new0 ntp, 1, rfl, by decide, by decide⟩ ?_
      rintro σ H' ⟨hx, p, rfl, p1, p2⟩
      walk_at "g"
      refine ite2 (fun c => ?_) fun c => ?_
      · have c := dT c
        have c : ((2 ^ (p + 1) : Nat) : Int) ≤ ((mx : Nat) : Int) := by rw [← hmi]; exact c
        have c' : 2 ^ (p + 1) < 2 ^ 110 := by omega
        have hp110 : p + 1 < 110 := M.pow_lt2 c'
        have h400 : (2 : Nat) ^ 110 < 2 ^ 400 := by decide
        refine ⟨_, fun _ _ z => z, ?_⟩
        walk_at "g"
        refine ⟨mwN (a := 2) (by decide) (show 2 ^ (p + 1) < 2 ^ 400 by omega), ?_⟩
        walk_at "g"
        refine ⟨_, ?_, ⟨hx, p + 1, by rw [show ((2 ^ (p + 1 + 1) : Nat) : Int) = 2 * ((2 ^ (p + 1) : Nat) : Int) by rw [Nat.pow_succ 2 (p + 1)]; omega]; rfl, by omega, by omega⟩, rfl⟩
        show 200 - ((p : Int) + 1).toNat < 200 - (p : Int).toNat
        omega
      · have c := dF c
        have c : ¬ ((2 ^ (p + 1) : Nat) : Int) ≤ ((mx : Nat) : Int) := by rw [← hmi]; exact c
        have hgp : r.g ≤ p := Nat.le_of_lt_succ (M.pow_lt2 (b := p + 1) (by omega))
        refine while_of (fun σ H' => Ex [] H H' ∧ ∃ (p : Nat) (t : Option V), σ = [some (.int (r.top : Nat)), some (.int (r.bot : Nat)), some (.int p), t] ∧ r.g ≤ p ∧ p ≤ 111) (fun σ _ => match σ with | [_, _, some (.int p), _] => p.toNat | _ => 0) ⟨hx, p, _, rfl, hgp, by omega⟩ ?_
        clear hgp c p1 p2 hx
        rintro σ H' ⟨hx, p, t, rfl, hgp, p2⟩
        have hp1 : 1 ≤ p := by omega
        have hp2 : p ≤ 1000 := by omega
        have hA : r.top < 2 ^ 120 := by omega
        have hB : r.bot < 2 ^ 120 := by omega
        have key := key_root hg0 hgp
        have stop : p = r.g → ∀ H1, Ex [] H H1 → tRet (tTup (tCons (tTup (tCons (tCall spRoot [] E0 (tCons (tVar 0) (tCons (tVar 2) tNil))) (tCons (tCall spRoot [] E0 (tCons (tVar 1) (tCons (tVar 2) tNil))) tNil))) (tCons (tVar 2) tNil))) { nx := fun x H' => Q V.non H', rt := Q } [some (.int (r.top : Nat)), some (.int (r.bot : Nat)), some (.int p), t] H1 := by
          intro hpg H1 hx1
          obtain ⟨⟨x, ex⟩, y, ey⟩ := (M.Row.both_pow (r := r) (show 1 ≤ p by omega)).mpr (by rw [hpg]; exact Nat.dvd_refl _)
          walk_at "g"
          refine ⟨_, _, x, rfl, hA, htp, hp1, hp2, ex, fun H2 hx2 => ?_⟩
          walk_at "g"
          refine ⟨_, _, y, rfl, hB, hbp, hp1, hp2, ey, fun H3 hx3 => ?_⟩
          walk_at "g"
          refine ⟨h2, fun t1 n1 => ?_⟩
          walk_at "g"
          refine ⟨h2, fun t2 n2 => ?_⟩
          have hx4 : Ex [] H (upd H3 t1 (.tup [.int x, .int y])) := ((hx1.trans hx2).trans hx3).new n1
          have hxl := le_pow_self (l := x) (p := p) (by omega)
          have hyl := le_pow_self (l := y) (p := p) (by omega)
          refine q t2 t1 x y _ (hx4.new n2) (hx4.none_back (by simp) n2) (by rw [upd_same, ← hpg]) ?_ (by clear key; omega) (by clear key; omega)
          rw [upd_ne (ne_of_none upd_same n2), upd_same]
        walk_at "g"
        refine ⟨by omega, hp1, hp2, fun b1 H1 hx1 e1 => ?_⟩
        cases b1 with
        | false =>
          have hne : p ≠ r.g := fun z => by
            have := e1.mpr (key.mpr z).1
            cases this
          walk_at "g"
          refine ⟨_, fun _ _ z => z, ?_⟩
          walk_at "g"
          refine ⟨_, ?_, ⟨hx.trans hx1, p - 1, t, by rw [show ((p - 1 : Nat) : Int) = (p : Int) - 1 by clear key e1; omega]; rfl, by clear key e1; omega, by clear key e1; omega⟩, rfl⟩
          show ((p : Int) - 1).toNat < (p : Int).toNat
          clear key e1
          omega
        | true =>
          walk_at "g"
          refine ⟨by omega, hp1, hp2, fun b2 H2 hx2 e2 => ?_⟩
          cases b2 with
          | false =>
            have hne : p ≠ r.g := fun z => by
              have := e2.mpr (key.mpr z).2
              cases this
            walk_at "g"
            refine ⟨_, fun _ _ z => z, ?_⟩
            walk_at "g"
            refine ⟨_, ?_, ⟨(hx.trans hx1).trans hx2, p - 1, t, by rw [show ((p - 1 : Nat) : Int) = (p : Int) - 1 by clear key e1 e2; omega]; rfl, by clear key e1 e2; omega, by clear key e1 e2; omega⟩, rfl⟩
            show ((p : Int) - 1).toNat < (p : Int).toNat
            clear key e1 e2
            omega
          | true => exact ⟨_, rfl, stop (key.mp ⟨e1.mp rfl, e2.mp rfl⟩) _ ((hx.trans hx1).trans hx2)⟩
theorem abs_sg {sg : Int} {n : Nat} (h : sg = 1 ∨ sg = -1) (hn : 0 < n) : (if sg * (n : Int) < 0 then -(sg * (n : Int)) else sg * (n : Int)) = (n : Int) := by
  rcases h with e | e <;> subst e
  · rw [if_neg (by omega)]
    omega
  · rw [if_pos (by omega)]
    omega
theorem sc_base_for : FnScope ["number"] ["number"] (defScope s_base_for) :=
  ⟨rfl, rfl, rfl, by decide +kernel, rfl, by decide +kernel, by decide +kernel⟩
theorem b_base_for {K : PySem.W.Frag} {x q : Str} {f : Addr} {fd : FuncData} (F : Fun K x q s_base_for f fd) : Binds K fd ["number"] [] := F.binds (fun _ _ _ _ _ _ us hl => match us, hl with | [_], _ => rfl)
def spBaseFor : Sp := fun vs H Q _ => ∃ (a : Addr) (sg : Int) (r : M.Row), vs = [.ref a] ∧ H a = some (.tup [.int (sg * (r.top : Nat)), .int (r.bot : Nat)]) ∧ (sg = 1 ∨ sg = -1) ∧ r.top < 2 ^ 110 ∧ r.bot < 2 ^ 110 ∧ BaseQ H r Q
theorem w_base_for (T : Tx K mg) : Can P w K mg base CX0 5 "base_for" ["number"] spBaseFor :=
  can0 T.d_base_for sc_base_for b_base_for (fun vs H Q E ⟨i, _, _, e, _⟩ => by rw [e]; rfl) fun f cdv A outer s H vs Q E hr ⟨a, sg, r, ev, ha, hsg, ht, hb, q⟩ => by
  subst ev
  have c_base_and_exponent := w_base_and_exponent (P := P) (w := w) (base := base) T
  refine ⟨_, (pss_one (ps_ret (pe_can c_base_and_exponent (hr.mono (by decide)) (by rfl) pass0 (pa_cons (pe_callB call_abs (by rfl) T.m_abs (by decide +kernel) (pa_cons (pe_ix ix_tup (pv 0) pe_int (fun _ _ => rfl)) pa_nil)) (pa_cons (pe_ix ix_tup (pv 0) pe_int (fun _ _ => rfl)) pa_nil))))), ?_⟩
  walk_at "w"
  refine ⟨r, ?_, ht, hb, q⟩
  rw [abs_sg hsg (M.Row.top_pos r)]
  rfl
theorem sc_root_for : FnScope ["number", "n", "base", "power", "found"] ["number", "n"] (defScope s_root_for) :=
  ⟨rfl, rfl, rfl, by decide +kernel, rfl, by decide +kernel, by decide +kernel⟩
theorem b_root_for {K : PySem.W.Frag} {x q : Str} {f : Addr} {fd : FuncData} (F : Fun K x q s_root_for f fd) : Binds K fd ["number", "n"] [] := F.binds (fun _ _ _ _ _ _ us hl => match us, hl with | [_, _], _ => rfl)
def spRootFor : Sp := fun vs H Q _ => ∃ (a : Addr) (r : M.Row), vs = [.ref a, .int 4] ∧ H a = some (.tup [.int (r.top : Nat), .int (r.bot : Nat)]) ∧ r.top < 2 ^ 110 ∧ r.bot < 2 ^ 110 ∧
  (r.g % 4 ≠ 0 → ∀ H', Ex [] H H' → Q .non H') ∧ (r.g % 4 = 0 → ∀ p H', Ex [] H H' → Q (.ref p) H')
theorem w_root_for (T : Tx K mg) : Can P w K mg base CX0 6 "root_for" ["number", "n"] spRootFor :=
  can0 T.d_root_for sc_root_for b_root_for (fun vs H Q E ⟨i, _, e, _⟩ => by rw [e]; rfl) fun f cdv A outer s H vs Q E hr ⟨a, r, ev, ha, ht, hb, q1, q2⟩ => by
  subst ev
  have c_base_for := w_base_for (P := P) (w := w) (base := base) T
  have c_raised := w_raised (P := P) (w := w) (base := base) T
  have hg := g_lt ht hb
  have htp := M.Row.top_pos r
  refine ⟨_, (pss_cons (ps_asg (pe_can c_base_for (hr.mono (by decide)) (by rfl) pass0 (pa_cons (pv 0) pa_nil)) (pg_tup (by rfl) (pgs_cons (pg_name (i := 2) sc_root_for.nd rfl (Or.inl rfl)) (pgs_cons (pg_name (i := 3) sc_root_for.nd rfl (Or.inl rfl)) pgs_nil))))
    (pss_cons (ps_if (PW.pt (pw_or (pt_cmpR op_ne (pe_op op_mod (pv 3) (pv 1)) pe_int (nomark _)) (pw_or1 (PW.pt (pw_and (pt_cmpR op_lt (pe_ix ix_tup (pv 0) pe_int (fun _ _ => rfl)) pe_int (nomark _)) (pw_and1 (pt_cmpR op_eq (pe_op op_mod (pv 1) pe_int) pe_int (nomark _)))))))) (pss_one (ps_ret pe_non)) pss_nil)
    (pss_cons (ps_set (i := 4) sc_root_for.nd rfl (Or.inl rfl) (pe_can c_raised (hr.mono (by decide)) (by rfl) pass0 (pa_cons (pv 2) (pa_cons (pe_op op_fdiv (pv 3) (pv 1)) pa_nil))))
    (pss_one (ps_ret (pe_ifExp (pt_cmpR op_gt (pe_ix ix_tup (pv 0) pe_int (fun _ _ => rfl)) pe_int (nomark _)) (pv 4) (pe_tup (pa_cons (pe_un un_neg (pe_ix ix_tup (pv 4) pe_int (fun _ _ => rfl))) (pa_cons (pe_ix ix_tup (pv 4) pe_int (fun _ _ => rfl)) pa_nil))))))))), ?_⟩
  walk_at "w"
  refine ⟨_, 1, r, rfl, by rw [Int.one_mul]; exact ha, .inl rfl, ht, hb, fun p q x y H1 hx np hp hq hx2 hy2 => ?_⟩
  have ha1 := hx _ _ (by simp) ha
  refine ⟨_, _, rfl, SqT.of hp, rfl, ?_⟩
  walk_at "w"
  refine ⟨by show (0 : Int) < 4; decide, ?_⟩
  walk_at "w"
  refine ite2 (fun c => ?_) fun c => ?_
  · refine q1 (fun z => ?_) _ hx
    have c : (!decide (V.int (((r.g : Nat) : Int) % 4) = V.int 0)) = true := c
    rw [show ((r.g : Nat) : Int) % 4 = 0 by omega] at c
    cases c
  · have hg4 : r.g % 4 = 0 := by
      rcases Nat.eq_zero_or_pos (r.g % 4) with z | z
      · exact z
      · exfalso
        refine c ?_
        show (!decide (V.int (((r.g : Nat) : Int) % 4) = V.int 0)) = true
        rw [decide_eq_false (fun y => by injection y with y; omega)]
        rfl
    walk_at "w"
    refine ⟨⟨by decide, by decide⟩, ?_⟩
    walk_at "w"
    refine ⟨q, x, y, r.g / 4, rfl, hq, hx2, hy2, by omega, fun p2 H2 x2 y2 hx2 np2 hp2 => ?_⟩
    have ha2 := hx2 _ _ (by simp) ha1
    walk_at "w"
    refine ite2 (fun _ => ?_) fun c => absurd (decide_eq_true (by omega)) c
    walk_at "w"
    exact q2 hg4 _ _ (hx.trans hx2)
theorem sc_four_for : FnScope ["number"] ["number"] (defScope s_four_for) :=
  ⟨rfl, rfl, rfl, by decide +kernel, rfl, by decide +kernel, by decide +kernel⟩
theorem b_four_for {K : PySem.W.Frag} {x q : Str} {f : Addr} {fd : FuncData} (F : Fun K x q s_four_for f fd) : Binds K fd ["number"] [] := F.binds (fun _ _ _ _ _ _ us hl => match us, hl with | [_], _ => rfl)
def spFour : Sp := fun vs H Q _ => ∃ (a : Addr) (sg : Int) (r : M.Row), vs = [.ref a] ∧ Num H a sg r ∧ (¬ (sg = -1 ∧ r.four = true) → ∀ H', Ex [] H H' → Q .non H') ∧ (sg = -1 ∧ r.four = true → ∀ p H', Ex [] H H' → Q (.ref p) H')
theorem w_four_for (T : Tx K mg) : Can P w K mg base CX0 7 "four_for" ["number"] spFour :=
  can0 T.d_four_for sc_four_for b_four_for (fun vs H Q E ⟨i, _, _, e, _⟩ => by rw [e]; rfl) fun f cdv A outer s H vs Q E hr ⟨a, sg, r, ev, ⟨ha, hsg, ok⟩, q1, q2⟩ => by
  subst ev
  have c_lowest := w_lowest (P := P) (w := w) (base := base) T
  have c_root_for := w_root_for (P := P) (w := w) (base := base) T
  have ht := ok.top
  have hb := ok.bot
  have htp := M.Row.top_pos r
  refine ⟨_, (pss_one (ps_ret (pe_ifExp (pt_cmpR op_lt (pe_ix ix_tup (pv 0) pe_int (fun _ _ => rfl)) pe_int (nomark _)) (pe_can c_root_for (hr.mono (by decide)) (by rfl) pass0 (pa_cons (pe_can c_lowest (hr.mono (by decide)) (by rfl) pass0 (pa_cons (pe_un un_neg (pe_ix ix_tup (pv 0) pe_int (fun _ _ => rfl))) (pa_cons (pe_op op_mulW pe_int (pe_ix ix_tup (pv 0) pe_int (fun _ _ => rfl))) pa_nil))) (pa_cons pe_int pa_nil))) pe_non))), ?_⟩
  walk_at "w"
  rcases hsg with e | e <;> subst e
  · refine ite2 (fun c => absurd (dT c) (by omega)) fun _ => q1 (fun z => absurd z.1 (by decide)) _ (Ex.refl _ _)
  · refine ite2 (fun _ => ?_) fun c => absurd (decide_eq_true (by omega)) c
    walk_at "w"
    have h400 : (10 : Nat) ^ 30 < 2 ^ 400 := by decide
    refine ⟨mwN (a := 4) (by decide) (show r.bot < 2 ^ 400 by omega), ?_⟩
    refine ⟨r, ?_, fun p H1 hx np hp => ?_⟩
    · show [V.int (-(-1 * (r.top : Int))), V.int (4 * (r.bot : Int))] = _
      rw [show -(-1 * (r.top : Int)) = (r.top : Int) by omega, show ((4 * r.bot : Nat) : Int) = 4 * (r.bot : Int) by omega]
    · obtain ⟨k, hk, _, e1, e2⟩ := M.Row.quart_gcd r
      have l1 : r.quart.top ≤ r.top := by rw [← e1]; exact Nat.div_le_self _ _
      have l2 : r.quart.bot ≤ 4 * r.bot := by rw [← e2]; exact Nat.div_le_self _ _
      have h110 : 4 * 10 ^ 30 < 2 ^ 110 := by decide
      refine ⟨_, r.quart, rfl, hp, by omega, by omega, fun z H2 hx2 => ?_, fun z p2 H2 hx2 => ?_⟩
      · exact q1 (fun y => z (M.Row.four_iff.mp y.2)) _ (hx.trans hx2)
      · exact q2 ⟨rfl, M.Row.four_iff.mpr z⟩ _ _ (hx.trans hx2)
end
end G
-- Wd
set_option pp.maxSteps 800
set_option Elab.async false
set_option linter.all false
set_option maxRecDepth 100000
set_option maxHeartbeats 800000
namespace G
open PySem PySem.Spec PyProof.Rows L2 LamX NdefX
local macro_rules | `(tactic| walk_at "g") => `(tactic| repeat (first | refine ⟨_, rfl, ?_⟩ | refine ⟨_, _, rfl, ?_⟩ | refine ⟨_, _, _, rfl, ?_⟩ | refine ⟨_, _, rfl, rfl, ?_⟩ | refine ⟨rfl, ?_⟩))
local macro_rules | `(tactic| walk_at "w") => `(tactic| repeat (first | refine ⟨_, rfl, ?_⟩ | refine ⟨_, _, rfl, ?_⟩ | refine ⟨_, _, _, rfl, ?_⟩ | refine ⟨_, _, rfl, rfl, ?_⟩ | refine ⟨rfl, ?_⟩ | refine Or.inl ⟨_, rfl, ?_⟩ | refine ⟨_, _, rfl, .inr ⟨_, SqT.of (by assumption), rfl⟩, ?_⟩ | refine ⟨_, _, rfl, .inl ⟨_, SqL.of (by assumption), rfl⟩, ?_⟩ | refine ⟨_, _, _, _, rfl, rfl, SqT.of (by assumption), (by rfl), ?_⟩ | refine ⟨_, _, _, _, rfl, rfl, SqL.of (by assumption), (by rfl), ?_⟩ | refine ⟨_, _, _, _, rfl, rfl, SqL.of upd_same, (by rfl), ?_⟩ | refine ⟨_, _, _, _, rfl, rfl, (by assumption), (by rfl), ?_⟩ | refine ⟨_, _, _, _, rfl, rfl, upd_same, (by rfl), ?_⟩))
section
variable {P : Program} {w : World} {K : PySem.W.Frag} {mg : Str → Option Value} {base : Heap}
theorem sc_primes_for : FnScope ["sign", "n", "prime"] ["sign", "n"] (defScope s_primes_for) :=
  ⟨rfl, rfl, rfl, by decide +kernel, rfl, by decide +kernel, by decide +kernel⟩
theorem b_primes_for {K : PySem.W.Frag} {x q : Str} {f : Addr} {fd : FuncData} (F : Fun K x q s_primes_for f fd) : Binds K fd ["sign", "n"] [] := F.binds (fun _ _ _ _ _ _ us hl => match us, hl with | [_, _], _ => rfl)
def spPrimesFor : Sp := fun vs H Q _ => ∃ (sg : Int) (n : Nat), vs = [.int sg, .int n] ∧ 1 ≤ n ∧ n ≤ 18 ∧ ∀ p H', Ex [] H H' → H p = none → H' p = some (.lst (intsN (M.primesOf sg n))) → Q (.ref p) H'
theorem intsN_get {l : List Nat} {i : Nat} {x : V} (h : (intsN l)[i]? = some x) : ∃ k, l[i]? = some k ∧ x = .int (k : Nat) := by
  rw [intsN, List.getElem?_map] at h
  cases e : l[i]? with
  | none => rw [e] at h; cases h
  | some k => rw [e] at h; exact ⟨k, rfl, (Option.some.inj h).symm⟩
theorem filter_len {l : List Nat} {f : Nat → Bool} : (l.filter f).length ≤ l.length := List.length_filter_le _ _
theorem take_filter {l : List Nat} {f : Nat → Bool} {i k : Nat} (h : l[i]? = some k) : (l.take (i + 1)).filter f = (l.take i).filter f ++ if f k = true then [k] else [] := by
  rw [List.take_add_one, h, List.filter_append]
  congr 1
  simp only [Option.toList_some, List.filter_cons, List.filter_nil]
theorem primes_len (n : Nat) : (M.primes n).length ≤ 11 := filter_len (l := M.ps11)
theorem w_primes_for (T : Tx K mg) : Can P w K mg base CX0 2 "primes_for" ["sign", "n"] spPrimesFor :=
  can0 T.d_primes_for sc_primes_for b_primes_for (fun vs H Q E ⟨i, _, e, _⟩ => by rw [e]; rfl) fun f cdv A outer s H vs Q E hr ⟨sg, n, ev, hn, hn2, q⟩ => by
  subst ev
  have c_prime_divisors := w_prime_divisors (P := P) (w := w) (base := base) T
  refine ⟨_, (pss_one (ps_ret (pe_lc (own := [("prime", 2)]) (g := gName 2) (by rfl) sc_primes_for.nd (pi_list (pe_can c_prime_divisors (hr.mono (by decide)) (by rfl) pass0 (pa_cons (pv 1) pa_nil))) (blkOk_by (own := [("prime", 2)]) (N := ["sign", "n", "prime"]) (sc := defScope s_primes_for) (by decide +kernel)) (fun _ _ _ _ _ => (pg_name (i := 2) sc_primes_for.nd rfl (Or.inl rfl))) (fun _ _ _ _ _ => (pts_one (PW.pt (pw_or (pt_cmpR op_gt (pv 0) pe_int (nomark _)) (pw_or1 (pt_cmpR op_gt (pv 2) pe_int (nomark _))))))) (fun _ _ _ _ _ => (pv 2))))), ?_⟩
  walk_at "w"
  refine ⟨hn, hn2, fun p H1 hx np hp => ?_⟩
  have h1000 : 1000 ≤ sizeLine := by decide
  refine ⟨_, rfl, ⟨_, SqL.of hp⟩, fun D nD => lc_list (xs := intsN (M.primes n)) (fun i H' => Ex [] H1 H' ∧ H' D = some (.lst (intsN (((M.primes n).take i).filter fun p => decide (0 < sg) || decide (2 < p))))) ⟨Ex.new0 nD, upd_same⟩ (fun i H' _ h => SqL.of (h.1 _ _ (by simp) hp)) (fun i x H' hi ⟨hx1, hd⟩ => ?_) fun H' ⟨hx1, hd⟩ => ?_⟩
  · obtain ⟨k, hk, rfl⟩ := intsN_get hi
    have hlen : ((M.primes n).take i).length ≤ 11 := Nat.le_trans (List.length_take_le' ..) (primes_len n)
    have hlen2 := Nat.le_trans (filter_len (f := fun p => decide (0 < sg) || decide (2 < p))) hlen
    have hs : (intsN (((M.primes n).take i).filter fun p => decide (0 < sg) || decide (2 < p))).length < sizeLine := by
      rw [intsN, List.length_map]
      omega
    have yes : (decide (0 < sg) || decide (2 < k)) = true → H' D = some (.lst (intsN (((M.primes n).take i).filter fun p => decide (0 < sg) || decide (2 < p)))) ∧ (intsN (((M.primes n).take i).filter fun p => decide (0 < sg) || decide (2 < p))).length < sizeLine ∧ Ex [] H1 (upd H' D (.lst (intsN (((M.primes n).take i).filter fun p => decide (0 < sg) || decide (2 < p)) ++ [V.int (k : Nat)]))) ∧
        upd H' D (.lst (intsN (((M.primes n).take i).filter fun p => decide (0 < sg) || decide (2 < p)) ++ [V.int (k : Nat)])) D = some (.lst (intsN (((M.primes n).take (i + 1)).filter fun p => decide (0 < sg) || decide (2 < p)))) := fun z =>
      ⟨hd, hs, hx1.mut nD, by rw [upd_same, take_filter hk, if_pos z]; simp [intsN]⟩
    walk_at "w"
    refine ite2 (fun c => ?_) fun c => ?_
    · exact ⟨_, rfl, _, yes (by rw [c]; rfl)⟩
    · walk_at "w"
      refine ite2 (fun d => ?_) fun d => ?_
      · have d := dT d
        exact ⟨_, rfl, _, yes (by rw [decide_eq_true (show 2 < k by omega)]; exact Bool.or_true _)⟩
      · have d := dF d
        have c := dF c
        refine ⟨hx1, ?_⟩
        rw [hd, take_filter hk, if_neg (by rw [decide_eq_false c, decide_eq_false (show ¬ 2 < k by omega)]; decide), List.append_nil]
  · refine q _ _ (hx.trans hx1) (hx.none_back (by simp) nD) ?_
    rw [hd, M.primes_two]
    rw [show (intsN (M.primes n)).length = (M.primes n).length by rw [intsN, List.length_map], List.take_length]
theorem sc_own_kind : FnScope ["number", "sign", "power", "primes"] ["number"] (defScope s_own_kind) :=
  ⟨rfl, rfl, rfl, by decide +kernel, rfl, by decide +kernel, by decide +kernel⟩
theorem b_own_kind {K : PySem.W.Frag} {x q : Str} {f : Addr} {fd : FuncData} (F : Fun K x q s_own_kind f fd) : Binds K fd ["number"] [] := F.binds (fun _ _ _ _ _ _ us hl => match us, hl with | [_], _ => rfl)
def KindAt (H : Hp) (p : Addr) (sg : Int) (r : M.Row) : Prop := ∃ q, H p = some (.tup [.int sg, q, .bl (decide (sg = -1 ∧ r.four = true))]) ∧ ((r.g = 0 ∧ q = .str "all") ∨ (r.g ≠ 0 ∧ ∃ b, q = .ref b ∧ H b = some (.tup (intsN (M.primesOf sg r.g)))))
theorem KindAt.ex {Ms : List Addr} {H H' : Hp} {p : Addr} {sg : Int} {r : M.Row} (h : KindAt H p sg r) (x : Ex [] H H') : KindAt H' p sg r := by
  obtain ⟨q, h1, h2⟩ := h
  refine ⟨q, x _ _ (by simp) h1, ?_⟩
  rcases h2 with h2 | ⟨h2, b, h3, h4⟩
  · exact .inl h2
  · exact .inr ⟨h2, b, h3, x _ _ (by simp) h4⟩
def spKind : Sp := fun vs H Q _ => ∃ (a : Addr) (sg : Int) (r : M.Row), vs = [.ref a] ∧ Num H a sg r ∧ ∀ p H', Ex [] H H' → H p = none → KindAt H' p sg r → Q (.ref p) H'
theorem row110 {r : M.Row} (ok : r.Ok) : r.top < 2 ^ 110 ∧ r.bot < 2 ^ 110 := by
  have ht := ok.top
  have hb := ok.bot
  have h110 : 4 * 10 ^ 30 < 2 ^ 110 := by decide
  exact ⟨by omega, by omega⟩
theorem w_own_kind (T : Tx K mg) : Can P w K mg base CX0 8 "own_kind" ["number"] spKind :=
  can0 T.d_own_kind sc_own_kind b_own_kind (fun vs H Q E ⟨i, _, _, e, _⟩ => by rw [e]; rfl) fun f cdv A outer s H vs Q E hr ⟨a, sg, r, ev, hn, q⟩ => by
  subst ev
  have c_base_for := w_base_for (P := P) (w := w) (base := base) T
  have c_primes_for := w_primes_for (P := P) (w := w) (base := base) T
  have c_four_for := w_four_for (P := P) (w := w) (base := base) T
  refine ⟨_, (pss_cons (ps_par (i := 1) (j := 2) (by rfl) sc_own_kind.nd rfl rfl (by decide) rfl rfl (pa_cons (pe_ifExp (pt_cmpR op_gt (pe_ix ix_tup (pv 0) pe_int (fun _ _ => rfl)) pe_int (nomark _)) pe_int (pe_un un_neg pe_int)) (pa_cons (pe_ix ix_tup (pe_can c_base_for (hr.mono (by decide)) (by rfl) pass0 (pa_cons (pv 0) pa_nil)) pe_int (fun _ _ => rfl)) pa_nil)) (by rfl))
    (pss_cons (ps_set (i := 3) sc_own_kind.nd rfl (Or.inl rfl) (pe_ifExp (pt_cmpR op_eq (pv 2) pe_int (nomark _)) (pe_gS (by rfl) T.g_ALL) (pe_callTy call_tuple_of (by rfl) T.m_tuple (by decide +kernel) (pa_cons (pe_can c_primes_for (hr.mono (by decide)) (by rfl) pass0 (pa_cons (pv 1) (pa_cons (pv 2) pa_nil))) pa_nil))))
    (pss_one (ps_ret (pe_tup (pa_cons (pv 1) (pa_cons (pv 3) (pa_cons (pe_cmpR op_notN (pe_can c_four_for (hr.mono (by decide)) (by rfl) pass0 (pa_cons (pv 0) pa_nil)) pe_non (nomark _)) pa_nil)))))))), ?_⟩
  have ha := hn.1
  have hsg := hn.2.1
  have htp := M.Row.top_pos r
  have h3 : 3 ≤ sizeLine := by decide
  have fin : ∀ (qv : V) (H1 : Hp) (t : Option V), Ex [] H H1 → ((r.g = 0 ∧ qv = .str "all") ∨ (r.g ≠ 0 ∧ ∃ b, qv = .ref b ∧ H1 b = some (.tup (intsN (M.primesOf sg r.g))))) →
      tRet (tTup (tCons (tVar 1) (tCons (tVar 3) (tCons (tOp (fun x y H Q => y = V.non ∧ Q (.bl (!decide (x = .non))) H) (tCall spFour [] E0 (tCons (tVar 0) tNil)) (tC .non)) tNil)))) { nx := fun x H' => Q V.non H', rt := Q } [some (.ref a), some (.int sg), t, some qv] H1 := fun qv H1 t hx hq => by
    walk_at "w"
    have last : ∀ b : Bool, b = decide (sg = -1 ∧ r.four = true) → ∀ H2, Ex [] H1 H2 → ∀ p, H2 p = none → Q (.ref p) (upd H2 p (.tup [.int sg, qv, .bl b])) := fun b eb H2 hx2 p np => by
      refine q p _ ((hx.trans hx2).new np) ((hx.trans hx2).none_back (by simp) np) ⟨qv, by rw [upd_same, eb], ?_⟩
      rcases hq with hq | ⟨hq, b, hb, hb2⟩
      · exact .inl hq
      · exact .inr ⟨hq, b, hb, (hx2.new np) _ _ (by simp) hb2⟩
    refine ⟨_, sg, r, rfl, hn.ex hx (by simp), fun c H2 hx2 => ?_, fun c p2 H2 hx2 => ?_⟩
    · walk_at "w"
      exact ⟨h3, last _ (by rw [decide_eq_false c]; rfl) _ hx2⟩
    · walk_at "w"
      exact ⟨h3, last _ (by rw [decide_eq_true c]; rfl) _ hx2⟩
  have rest : ∀ (H1 : Hp), Ex [] H H1 → tSeq (tAsg (tIf (tTest (tOp rEq (tVar 2) (tC (.int 0)))) (tC (.str "all")) (tCB (fun xs H Q => ∃ p ys, xs = [.ref p] ∧ ((SqL K H p ys ∧ ∀ l, H l = none → Q (.ref l) (upd H l (.tup ys))) ∨ (SqT K H p ys ∧ Q (.ref p) H))) (tCons (tCall spPrimesFor [] E0 (tCons (tVar 1) (tCons (tVar 2) tNil))) tNil))) (gName 3))
      (tRet (tTup (tCons (tVar 1) (tCons (tVar 3) (tCons (tOp (fun x y H Q => y = V.non ∧ Q (.bl (!decide (x = .non))) H) (tCall spFour [] E0 (tCons (tVar 0) tNil)) (tC .non)) tNil))))) { nx := fun x H' => Q V.non H', rt := Q } [some (.ref a), some (.int sg), some (.int (r.g : Nat)), none] H1 := fun H1 hx => by
    walk_at "w"
    refine ite2 (fun c => ?_) fun c => ?_
    · refine fin _ _ _ hx (.inl ⟨by have := intEq c; omega, rfl⟩)
    · have hg : r.g ≠ 0 := by have := intNe c; omega
      walk_at "w"
      refine ⟨by omega, hn.2.2.g, fun p2 H2 hx2 np2 hp2 => ?_⟩
      refine ⟨_, _, rfl, .inl ⟨SqL.of hp2, fun l nl => ?_⟩⟩
      exact fin _ _ _ ((hx.trans hx2).new nl) (.inr ⟨hg, l, rfl, upd_same⟩)
  have hb := row110 hn.2.2
  have next : (if 0 < sg * (r.top : Nat) then (1 : Int) else -1) = sg := by
    rcases hsg with e | e <;> subst e
    · rw [if_pos (by omega)]
    · rw [if_neg (by omega)]
  walk_at "w"
  refine ite2 (fun c => ?_) fun c => ?_
  · rw [if_pos (dT c)] at next
    subst next
    walk_at "w"
    refine ⟨_, 1, r, rfl, ha, hsg, hb.1, hb.2, fun p q x y H1 hx np hp hq _ _ => ?_⟩
    refine ⟨_, _, _, _, rfl, rfl, SqT.of hp, rfl, ?_⟩
    refine ⟨_, _, rfl, ?_⟩
    exact rest H1 hx
  · rw [if_neg (dF c)] at next
    subst next
    walk_at "w"
    refine ⟨_, -1, r, rfl, ha, hsg, hb.1, hb.2, fun p q x y H1 hx np hp hq _ _ => ?_⟩
    refine ⟨_, _, _, _, rfl, rfl, SqT.of hp, rfl, ?_⟩
    refine ⟨_, _, rfl, ?_⟩
    exact rest H1 hx
theorem sc_kind_of : FnScope ["number"] ["number"] (defScope s_kind_of) :=
  ⟨rfl, rfl, rfl, by decide +kernel, rfl, by decide +kernel, by decide +kernel⟩
theorem b_kind_of {K : PySem.W.Frag} {x q : Str} {f : Addr} {fd : FuncData} (F : Fun K x q s_kind_of f fd) : Binds K fd ["number"] [] := F.binds (fun _ _ _ _ _ _ us hl => match us, hl with | [_], _ => rfl)
theorem w_kind_of (T : Tx K mg) : Can P w K mg base CX0 9 "kind_of" ["number"] spKind :=
  can0 T.d_kind_of sc_kind_of b_kind_of (fun vs H Q E ⟨i, _, _, e, _⟩ => by rw [e]; rfl) fun f cdv A outer s H vs Q E hr ⟨a, sg, r, ev, hn, q⟩ => by
  subst ev
  have c_check_number := w_check_number (P := P) (w := w) (base := base) T
  have c_own_kind := w_own_kind (P := P) (w := w) (base := base) T
  refine ⟨_, (pss_cons (ps_expr (pe_can c_check_number (hr.mono (by decide)) (by rfl) pass0 (pa_cons (pv 0) pa_nil)))
    (pss_one (ps_ret (pe_can c_own_kind (hr.mono (by decide)) (by rfl) pass0 (pa_cons (pv 0) pa_nil))))), ?_⟩
  exact ⟨_, rfl, _, _, _, rfl, hn, _, rfl, _, _, _, rfl, hn, q⟩
theorem sc_odd_part : FnScope ["value"] ["value"] (defScope s_odd_part) :=
  ⟨rfl, rfl, rfl, by decide +kernel, rfl, by decide +kernel, by decide +kernel⟩
theorem b_odd_part {K : PySem.W.Frag} {x q : Str} {f : Addr} {fd : FuncData} (F : Fun K x q s_odd_part f fd) : Binds K fd ["value"] [] := F.binds (fun _ _ _ _ _ _ us hl => match us, hl with | [_], _ => rfl)
def spOdd : Sp := fun vs H Q _ => ∃ n : Nat, vs = [.int n] ∧ 1 ≤ n ∧ ∀ r, M.OddOf n r → Q (.int r) H
theorem w_odd_part (T : Tx K mg) : Can P w K mg base CX0 1 "odd_part" ["value"] spOdd :=
  can0 T.d_odd_part sc_odd_part b_odd_part (fun vs H Q E ⟨i, e, _⟩ => by rw [e]; rfl) fun f cdv A outer s H vs Q E hr ⟨n, ev, hn, q⟩ => by
  subst ev
  refine ⟨_, (pss_cons (ps_while PassesOwn.never (pt_cmpR op_eq (pe_op op_mod (pv 0) pe_int) pe_int (nomark _)) (pss_one (ps_set (i := 0) sc_odd_part.nd rfl (Or.inl rfl) (pe_op op_fdiv (pv 0) pe_int))))
    (pss_one (ps_ret (pv 0)))), ?_⟩
  refine while_of (fun σ H' => H' = H ∧ ∃ l k : Nat, σ = [some (.int l)] ∧ n = 2 ^ k * l ∧ 1 ≤ l) (fun σ _ => match σ with | [some (.int l)] => l.toNat | _ => 0) ⟨rfl, n, 0, rfl, by omega, hn⟩ ?_
  rintro σ H' ⟨rfl, l, k, rfl, hk, h1⟩
  walk_at "w"
  refine ⟨by show (0 : Int) < 2; decide, ?_⟩
  walk_at "w"
  refine ite2 (fun c => ?_) fun c => ?_
  · have c : l % 2 = 0 := by have := intEq c; omega
    refine ⟨_, fun _ _ z => z, ?_⟩
    walk_at "w"
    refine ⟨⟨by decide, by decide⟩, ?_⟩
    refine ⟨_, ?_, ⟨rfl, l / 2, k + 1, by rw [Int.natCast_ediv]; rfl, ?_, by omega⟩, rfl⟩
    · show ((l : Int) / 2).toNat < (l : Int).toNat
      omega
    · rw [hk, Nat.pow_succ, Nat.mul_assoc, show 2 * (l / 2) = l by omega]
  · have c : l % 2 ≠ 0 := by have := intNe c; omega
    walk_at "w"
    exact q l ⟨c, k, hk⟩
theorem sc_shared : FnScope ["number", "n"] ["number", "n"] (defScope s_shared) :=
  ⟨rfl, rfl, rfl, by decide +kernel, rfl, by decide +kernel, by decide +kernel⟩
theorem b_shared {K : PySem.W.Frag} {x q : Str} {f : Addr} {fd : FuncData} (F : Fun K x q s_shared f fd) : Binds K fd ["number", "n"] [] := F.binds (fun _ _ _ _ _ _ us hl => match us, hl with | [_, _], _ => rfl)
def spShared : Sp := fun vs H Q _ => ∃ (a : Addr) (sg : Int) (r : M.Row) (n : Nat), vs = [.ref a, .int n] ∧ Num H a sg r ∧ 1 ≤ n ∧ n ≤ 10 ^ 30 ∧ ∀ H', Ex [] H H' → Q (.int ((Nat.gcd (M.part sg n) r.g : Nat) : Int)) H'
theorem w_shared (T : Tx K mg) : Can P w K mg base CX0 6 "shared" ["number", "n"] spShared :=
  can0 T.d_shared sc_shared b_shared (fun vs H Q E ⟨i, _, _, _, e, _⟩ => by rw [e]; rfl) fun f cdv A outer s H vs Q E hr ⟨a, sg, r, n, ev, hn, h1, h2, q⟩ => by
  subst ev
  have c_base_for := w_base_for (P := P) (w := w) (base := base) T
  have c_odd_part := w_odd_part (P := P) (w := w) (base := base) T
  have c_common_divisor := w_common_divisor (P := P) (w := w) (base := base) T
  refine ⟨_, (pss_one (ps_ret (pe_can c_common_divisor (hr.mono (by decide)) (by rfl) pass0 (pa_cons (pe_ifExp (pt_cmpR op_gt (pe_ix ix_tup (pv 0) pe_int (fun _ _ => rfl)) pe_int (nomark _)) (pv 1) (pe_can c_odd_part (hr.mono (by decide)) (by rfl) pass0 (pa_cons (pv 1) pa_nil))) (pa_cons (pe_ix ix_tup (pe_can c_base_for (hr.mono (by decide)) (by rfl) pass0 (pa_cons (pv 0) pa_nil)) pe_int (fun _ _ => rfl)) pa_nil))))), ?_⟩
  have ha := hn.1
  have hsg := hn.2.1
  have htp := M.Row.top_pos r
  have hb := row110 hn.2.2
  walk_at "w"
  rcases hsg with e | e <;> subst e
  · refine ite2 (fun c => ?_) fun c => absurd (decide_eq_true (by omega)) c
    walk_at "w"
    refine ⟨_, 1, r, rfl, ha, .inl rfl, hb.1, hb.2, fun p q2 x y H1 hx np hp hq _ _ => ?_⟩
    walk_at "w"
    have e := q _ hx
    unfold M.part at e
    rw [if_neg (by decide)] at e
    exact e
  · refine ite2 (fun c => absurd (dT c) (by omega)) fun c => ?_
    walk_at "w"
    refine ⟨h1, fun l hl => ?_⟩
    walk_at "w"
    refine ⟨_, -1, r, rfl, ha, .inr rfl, hb.1, hb.2, fun p q2 x y H1 hx np hp hq _ _ => ?_⟩
    walk_at "w"
    have e100 := e30
    have hlu := hl.uniq (M.halves_odd (i := 100) h1 (by omega))
    have e := q _ hx
    unfold M.part at e
    rw [if_pos (by decide), ← hlu] at e
    exact e
theorem sc_is_split_by_four : FnScope ["number", "n"] ["number", "n"] (defScope s_is_split_by_four) :=
  ⟨rfl, rfl, rfl, by decide +kernel, rfl, by decide +kernel, by decide +kernel⟩
theorem b_is_split_by_four {K : PySem.W.Frag} {x q : Str} {f : Addr} {fd : FuncData} (F : Fun K x q s_is_split_by_four f fd) : Binds K fd ["number", "n"] [] := F.binds (fun _ _ _ _ _ _ us hl => match us, hl with | [_, _], _ => rfl)
def spSplit4 : Sp := fun vs H Q _ => ∃ (a : Addr) (sg : Int) (r : M.Row) (n : Nat), vs = [.ref a, .int n] ∧ Num H a sg r ∧ ∀ H', Ex [] H H' → Q (.bl (decide (n % 4 = 0) && (decide (sg < 0) && r.four))) H'
theorem w_is_split_by_four (T : Tx K mg) : Can P w K mg base CX0 8 "is_split_by_four" ["number", "n"] spSplit4 :=
  can0 T.d_is_split_by_four sc_is_split_by_four b_is_split_by_four (fun vs H Q E ⟨i, _, _, _, e, _⟩ => by rw [e]; rfl) fun f cdv A outer s H vs Q E hr ⟨a, sg, r, n, ev, hn, q⟩ => by
  subst ev
  have c_four_for := w_four_for (P := P) (w := w) (base := base) T
  refine ⟨_, (pss_one (ps_ret (pe_and (pe_cmpR op_eq (pe_op op_mod (pv 1) pe_int) pe_int (nomark _)) (pe_one (pe_cmpR op_notN (pe_can c_four_for (hr.mono (by decide)) (by rfl) pass0 (pa_cons (pv 0) pa_nil)) pe_non (nomark _)))))), ?_⟩
  walk_at "w"
  refine ⟨by show (0 : Int) < 4; decide, ?_⟩
  walk_at "w"
  refine ite2 (fun c => ?_) fun c => ?_
  · have c : n % 4 = 0 := by have := intEq c; omega
    walk_at "w"
    refine ⟨_, sg, r, rfl, hn, fun d H2 hx2 => ?_, fun d p2 H2 hx2 => ?_⟩
    · walk_at "w"
      have e := q _ hx2
      rw [decide_eq_true c, show (decide (sg < 0) && r.four) = false by
        rcases hn.2.1 with z | z <;> subst z
        · rfl
        · cases h : r.four with
          | false => rfl
          | true => exact absurd ⟨rfl, h⟩ d] at e
      exact e
    · walk_at "w"
      have e := q _ hx2
      rw [decide_eq_true c, d.1, d.2] at e
      exact e
  · have c : n % 4 ≠ 0 := by have := intNe c; omega
    have e := q _ (Ex.refl _ _)
    rw [decide_eq_false c] at e
    exact e
theorem sc_does_split : FnScope ["number", "n"] ["number", "n"] (defScope s_does_split) :=
  ⟨rfl, rfl, rfl, by decide +kernel, rfl, by decide +kernel, by decide +kernel⟩
theorem b_does_split {K : PySem.W.Frag} {x q : Str} {f : Addr} {fd : FuncData} (F : Fun K x q s_does_split f fd) : Binds K fd ["number", "n"] [] := F.binds (fun _ _ _ _ _ _ us hl => match us, hl with | [_, _], _ => rfl)
def spSplits : Sp := fun vs H Q _ => ∃ (a : Addr) (sg : Int) (r : M.Row) (n : Nat), vs = [.ref a, .int n] ∧ Num H a sg r ∧ 1 ≤ n ∧ n ≤ 10 ^ 30 ∧ ∀ H', Ex [] H H' → Q (.bl (M.splits sg r n)) H'
theorem w_does_split (T : Tx K mg) : Can P w K mg base CX0 9 "does_split" ["number", "n"] spSplits :=
  can0 T.d_does_split sc_does_split b_does_split (fun vs H Q E ⟨i, _, _, _, e, _⟩ => by rw [e]; rfl) fun f cdv A outer s H vs Q E hr ⟨a, sg, r, n, ev, hn, h1, h2, q⟩ => by
  subst ev
  have c_shared := w_shared (P := P) (w := w) (base := base) T
  have c_is_split_by_four := w_is_split_by_four (P := P) (w := w) (base := base) T
  refine ⟨_, (pss_one (ps_ret (pe_or (pe_cmpR op_gt (pe_can c_shared (hr.mono (by decide)) (by rfl) pass0 (pa_cons (pv 0) (pa_cons (pv 1) pa_nil))) pe_int (nomark _)) (pe_one (pe_can c_is_split_by_four (hr.mono (by decide)) (by rfl) pass0 (pa_cons (pv 0) (pa_cons (pv 1) pa_nil))))))), ?_⟩
  walk_at "w"
  refine ⟨_, sg, r, _, rfl, hn, h1, h2, fun H1 hx1 => ?_⟩
  walk_at "w"
  refine ite2 (fun c => ?_) fun c => ?_
  · have c := dT c
    have e := q _ hx1
    unfold M.splits at e
    rw [decide_eq_true (show 1 < Nat.gcd (M.part sg n) r.g by omega)] at e
    exact e
  · have c := dF c
    walk_at "w"
    refine ⟨_, sg, r, _, rfl, hn.ex hx1 (by simp), fun H2 hx2 => ?_⟩
    have e := q _ (hx1.trans hx2)
    unfold M.splits at e
    rw [decide_eq_false (show ¬ 1 < Nat.gcd (M.part sg n) r.g by omega), Bool.false_or] at e
    exact e
theorem sc_is_always : FnScope ["number", "power"] ["number"] (defScope s_is_always) :=
  ⟨rfl, rfl, rfl, by decide +kernel, rfl, by decide +kernel, by decide +kernel⟩
theorem b_is_always {K : PySem.W.Frag} {x q : Str} {f : Addr} {fd : FuncData} (F : Fun K x q s_is_always f fd) : Binds K fd ["number"] [] := F.binds (fun _ _ _ _ _ _ us hl => match us, hl with | [_], _ => rfl)
def spAlways : Sp := fun vs H Q _ => ∃ (a : Addr) (sg : Int) (r : M.Row), vs = [.ref a] ∧ Num H a sg r ∧ ∀ H', Ex [] H H' → Q (.bl (M.always sg r)) H'
theorem w_is_always (T : Tx K mg) : Can P w K mg base CX0 8 "is_always" ["number"] spAlways :=
  can0 T.d_is_always sc_is_always b_is_always (fun vs H Q E ⟨i, _, _, e, _⟩ => by rw [e]; rfl) fun f cdv A outer s H vs Q E hr ⟨a, sg, r, ev, hn, q⟩ => by
  subst ev
  have c_base_for := w_base_for (P := P) (w := w) (base := base) T
  have c_odd_part := w_odd_part (P := P) (w := w) (base := base) T
  have c_four_for := w_four_for (P := P) (w := w) (base := base) T
  refine ⟨_, (pss_cons (ps_set (i := 1) sc_is_always.nd rfl (Or.inl rfl) (pe_ix ix_tup (pe_can c_base_for (hr.mono (by decide)) (by rfl) pass0 (pa_cons (pv 0) pa_nil)) pe_int (fun _ _ => rfl)))
    (pss_cons (ps_if (pt_cmpR op_gt (pe_ix ix_tup (pv 0) pe_int (fun _ _ => rfl)) pe_int (nomark _)) (pss_one (ps_ret (pe_cmpR op_eq (pv 1) pe_int (nomark _)))) pss_nil)
    (pss_one (ps_ret (pe_and (pe_cmpR op_gt (pv 1) pe_int (nomark _)) (pe_and (pe_cmpR op_eq (pe_can c_odd_part (hr.mono (by decide)) (by rfl) pass0 (pa_cons (pv 1) pa_nil)) pe_int (nomark _)) (pe_one (pe_cmpR op_isN (pe_can c_four_for (hr.mono (by decide)) (by rfl) pass0 (pa_cons (pv 0) pa_nil)) pe_non (nomark _))))))))), ?_⟩
  have ha := hn.1
  have hsg := hn.2.1
  have htp := M.Row.top_pos r
  have hb := row110 hn.2.2
  have hg := hn.2.2.g
  walk_at "w"
  refine ⟨_, sg, r, rfl, ha, hsg, hb.1, hb.2, fun p q2 x y H1 hx np hp hq _ _ => ?_⟩
  have ha1 := hx _ _ (by simp) ha
  walk_at "w"
  have e := fun H' (z : Ex [] H H') => q H' z
  unfold M.always at e
  rcases hsg with z | z <;> subst z
  · refine ite2 (fun c => ?_) fun c => absurd (decide_eq_true (by omega)) c
    walk_at "w"
    rw [if_pos (by decide)] at e
    have e1 := e _ hx
    rw [show decide (r.g = 1) = decide (V.int ((r.g : Nat) : Int) = V.int 1) by
      by_cases z : r.g = 1
      · rw [z]; rfl
      · rw [decide_eq_false z, decide_eq_false (fun y => by injection y with y; omega)]] at e1
    exact e1
  · refine ite2 (fun c => absurd (dT c) (by omega)) fun c => ?_
    walk_at "w"
    rw [if_neg (by decide)] at e
    refine ite2 (fun c => ?_) fun c => ?_
    · have c : 0 < r.g := by have := dT c; omega
      walk_at "w"
      refine ⟨c, fun l hl => ?_⟩
      have hl2 : l = M.halves 100 r.g := hl.uniq (M.halves_odd (i := 100) c (Nat.lt_of_le_of_lt hg (by decide)))
      have ho := M.odd18 r.g (by omega) c
      rw [← hl2] at ho
      walk_at "w"
      refine ite2 (fun d => ?_) fun d => ?_
      · have d : l = 1 := by have := intEq d; omega
        rw [decide_eq_true (ho.mp d)] at e
        walk_at "w"
        refine ⟨_, -1, r, rfl, hn.ex hx (by simp), fun d H2 hx2 => ?_, fun d p2 H2 hx2 => ?_⟩
        · walk_at "w"
          have e1 := e _ (hx.trans hx2)
          rw [show r.four = false by
            cases h : r.four with
            | false => rfl
            | true => exact absurd ⟨rfl, h⟩ d] at e1
          exact e1
        · walk_at "w"
          have e1 := e _ (hx.trans hx2)
          rw [d.2] at e1
          exact e1
      · have d : l ≠ 1 := by have := intNe d; omega
        rw [decide_eq_false (fun z => d (ho.mpr z))] at e
        exact e _ hx
    · have c : r.g = 0 := by have := dF c; omega
      rw [decide_eq_false (by omega)] at e
      exact e _ hx
end
end G
-- We
set_option pp.maxSteps 800
set_option Elab.async false
set_option linter.all false
set_option maxRecDepth 100000
set_option maxHeartbeats 800000
namespace G
open PySem PySem.Spec PyProof.Rows L2 LamX NdefX
local macro_rules | `(tactic| walk_at "g") => `(tactic| repeat (first | refine ⟨_, rfl, ?_⟩ | refine ⟨_, _, rfl, ?_⟩ | refine ⟨_, _, _, rfl, ?_⟩ | refine ⟨_, _, rfl, rfl, ?_⟩ | refine ⟨rfl, ?_⟩))
local macro_rules | `(tactic| walk_at "w") => `(tactic| repeat (first | refine ⟨_, rfl, ?_⟩ | refine ⟨_, _, rfl, ?_⟩ | refine ⟨_, _, _, rfl, ?_⟩ | refine ⟨_, _, rfl, rfl, ?_⟩ | refine ⟨rfl, ?_⟩ | refine Or.inl ⟨_, rfl, ?_⟩ | refine ⟨_, _, rfl, .inr ⟨_, SqT.of (by assumption), rfl⟩, ?_⟩ | refine ⟨_, _, rfl, .inl ⟨_, SqL.of (by assumption), rfl⟩, ?_⟩ | refine ⟨_, _, _, _, rfl, rfl, SqT.of (by assumption), (by rfl), ?_⟩ | refine ⟨_, _, _, _, rfl, rfl, SqL.of (by assumption), (by rfl), ?_⟩ | refine ⟨_, _, _, _, rfl, rfl, SqL.of upd_same, (by rfl), ?_⟩ | refine ⟨_, _, _, _, rfl, rfl, (by assumption), (by rfl), ?_⟩ | refine ⟨_, _, _, _, rfl, rfl, upd_same, (by rfl), ?_⟩))
section
variable {P : Program} {w : World} {K : PySem.W.Frag} {mg : Str → Option Value} {base : Heap}
theorem sc__law_pull : FnScope ["_law_jug_here", "_law_top", "_law_figure", "_law_base"] ["_law_jug_here", "_law_top"] (defScope s__law_pull) :=
  ⟨rfl, rfl, rfl, by decide +kernel, rfl, by decide +kernel, by decide +kernel⟩
theorem b__law_pull {K : PySem.W.Frag} {x q : Str} {f : Addr} {fd : FuncData} (F : Fun K x q s__law_pull f fd) : Binds K fd ["_law_jug_here", "_law_top"] [] := F.binds (fun _ _ _ _ _ _ us hl => match us, hl with | [_, _], _ => rfl)
def JugAt (H : Hp) (j : Addr) : Prop := ∃ d m c : Int, H j = some (.lst [.int d, .int m, .int c])
def spPull : Sp := fun vs H Q _ => ∃ (j : Addr) (top : Nat), vs = [.ref j, .int top] ∧ JugAt H j ∧ 0 < top ∧ top < 2 ^ 30 ∧ ∀ (k : Nat) H', k < top → Ex [j] H H' → JugAt H' j → Q (.int k) H'
theorem w__law_pull (T : Tx K mg) : Can P w K mg base CX0 1 "_law_pull" ["_law_jug_here", "_law_top"] spPull :=
  can0 T.d__law_pull sc__law_pull b__law_pull (fun vs H Q E ⟨i, _, e, _⟩ => by rw [e]; rfl) fun f cdv A outer s H vs Q E hr ⟨j, top, ev, ⟨d, m, c, hj⟩, h0, h30, q⟩ => by
  subst ev
  refine ⟨_, (pss_cons (ps_if (pt_cmpR op_gt (pe_ix ix_list (pv 0) pe_int (fun _ _ => rfl)) pe_int (nomark _)) (pss_cons (ps_set (i := 2) sc__law_pull.nd rfl (Or.inl rfl) (pe_op op_mod (pe_callTy call_int1 (by rfl) T.m_int (by decide +kernel) (pa_cons (pe_ix ix_list (pv 0) pe_int (fun _ _ => rfl)) pa_nil)) (pv 1)))
    (pss_cons (ps_asg (pe_op op_fdiv (pe_ix ix_list (pv 0) pe_int (fun _ _ => rfl)) (pv 1)) (pg_sub (pv 0) pe_int set_list))
    (pss_one (ps_ret (pv 2))))) pss_nil)
    (pss_cons (ps_asg (pe_op op_add (pe_ix ix_list (pv 0) pe_int (fun _ _ => rfl)) pe_int) (pg_sub (pv 0) pe_int set_list))
    (pss_cons (ps_set (i := 3) sc__law_pull.nd rfl (Or.inl rfl) (pe_op op_mod (pe_callTy call_int1 (by rfl) T.m_int (by decide +kernel) (pa_cons (pe_op op_add (pe_ix ix_list (pv 0) pe_int (fun _ _ => rfl)) (pe_op op_mul pe_int (pe_ix ix_list (pv 0) pe_int (fun _ _ => rfl)))) pa_nil)) pe_int))
    (pss_cons (ps_asg (pe_op op_mod (pe_callTy call_int1 (by rfl) T.m_int (by decide +kernel) (pa_cons (pe_op op_add (pe_op op_add (pe_op op_mul (pv 3) (pe_op op_add (pe_op op_mod (pe_callTy call_int1 (by rfl) T.m_int (by decide +kernel) (pa_cons (pv 3) pa_nil)) pe_int) pe_int)) (pe_op op_mul pe_int (pe_ix ix_list (pv 0) pe_int (fun _ _ => rfl)))) pe_int) pa_nil)) pe_int) (pg_sub (pv 0) pe_int set_list))
    (pss_one (ps_ret (pe_op op_mod (pe_op op_fdiv (pe_callTy call_int1 (by rfl) T.m_int (by decide +kernel) (pa_cons (pe_ix ix_list (pv 0) pe_int (fun _ _ => rfl)) pa_nil)) pe_int) (pv 1)))))))), ?_⟩
  have ht : (0 : Int) < (top : Int) := by omega
  have fin : ∀ (x : Int) (H' : Hp), Ex [j] H H' → JugAt H' j → Q (.int (x % (top : Int))) H' := fun x H' hx hj' => by
    have h1 := Int.emod_nonneg x (show (top : Int) ≠ 0 by omega)
    have h2 := Int.emod_lt_of_pos x ht
    have e := q (x % (top : Int)).toNat H' (by omega) hx hj'
    rw [Int.toNat_of_nonneg h1] at e
    exact e
  walk_at "w"
  refine ite2 (fun c0 => ?_) fun c0 => ?_
  · walk_at "w"
    refine ⟨ht, ?_⟩
    walk_at "w"
    refine ⟨⟨ht, by omega⟩, ?_⟩
    walk_at "w"
    exact fin _ _ ((Ex.refl _ _).put (by simp)) ⟨_, _, _, upd_same⟩
  · walk_at "w"
    refine ⟨.inl ⟨by decide, by decide⟩, ?_⟩
    walk_at "w"
    refine ⟨by show (0 : Int) < 2147483269; decide, ?_⟩
    walk_at "w"
    refine ⟨by show (0 : Int) < 36007; decide, ?_⟩
    walk_at "w"
    refine ⟨.inl ?_, ?_⟩
    · have h1 := Int.emod_nonneg (m + 54121 * (c + 1)) (show (2147483269 : Int) ≠ 0 by decide)
      have h2 := Int.emod_lt_of_pos (m + 54121 * (c + 1)) (show (0 : Int) < 2147483269 by decide)
      exact ⟨by show -(2 ^ 64 : Int) < (m + 54121 * (c + 1)) % 2147483269; omega, by show (m + 54121 * (c + 1)) % 2147483269 < (2 ^ 64 : Int); omega⟩
    walk_at "w"
    refine ⟨.inl ⟨by decide, by decide⟩, ?_⟩
    walk_at "w"
    refine ⟨by show (0 : Int) < 2147483269; decide, ?_⟩
    walk_at "w"
    refine ⟨⟨by decide, by decide⟩, ?_⟩
    walk_at "w"
    refine ⟨ht, ?_⟩
    exact fin _ _ (((Ex.refl _ _).put (by simp)).put (by simp)) ⟨_, _, _, upd_same⟩
theorem sc__law_one_of : FnScope ["_law_jug_here", "_law_some"] ["_law_jug_here", "_law_some"] (defScope s__law_one_of) :=
  ⟨rfl, rfl, rfl, by decide +kernel, rfl, by decide +kernel, by decide +kernel⟩
theorem b__law_one_of {K : PySem.W.Frag} {x q : Str} {f : Addr} {fd : FuncData} (F : Fun K x q s__law_one_of f fd) : Binds K fd ["_law_jug_here", "_law_some"] [] := F.binds (fun _ _ _ _ _ _ us hl => match us, hl with | [_, _], _ => rfl)
def spOneOf : Sp := fun vs H Q _ => ∃ (j l : Addr) (xs : List V), vs = [.ref j, .ref l] ∧ JugAt H j ∧ H l = some (.lst xs) ∧ l ≠ j ∧ 0 < xs.length ∧ xs.length < 1000 ∧ ∀ (i : Nat) x H', xs[i]? = some x → Ex [j] H H' → JugAt H' j → Q x H'
theorem w__law_one_of (T : Tx K mg) : Can P w K mg base CX0 2 "_law_one_of" ["_law_jug_here", "_law_some"] spOneOf :=
  can0 T.d__law_one_of sc__law_one_of b__law_one_of (fun vs H Q E ⟨i, _, _, e, _⟩ => by rw [e]; rfl) fun f cdv A outer s H vs Q E hr ⟨j, l, xs, ev, hj, hl, hne, h0, h1, q⟩ => by
  subst ev
  have c__law_pull := w__law_pull (P := P) (w := w) (base := base) T
  refine ⟨_, (pss_one (ps_ret (pe_ix ix_list (pv 1) (pe_can c__law_pull (hr.mono (by decide)) (by rfl) pass0 (pa_cons (pv 0) (pa_cons (pe_callB call_len (by rfl) T.m_len (by decide +kernel) (pa_cons (pv 1) pa_nil)) pa_nil))) (fun _ _ => rfl)))), ?_⟩
  walk_at "w"
  refine ⟨hj, h0, by omega, fun k H1 hk hx hj1 => ?_⟩
  have hl1 := hx l _ (by simpa using hne) hl
  refine ⟨_, _, _, xs[k], rfl, rfl, SqL.of hl1, ?_, ?_⟩
  · unfold atI ixN
    rw [if_pos (by omega), if_pos (by omega)]
    simp [hk]
  · exact q k _ _ (by simp [hk]) hx hj1
theorem sc__law_common : FnScope ["_law_one", "_law_two", "_law_turn_here"] ["_law_one", "_law_two"] (defScope s__law_common) :=
  ⟨rfl, rfl, rfl, by decide +kernel, rfl, by decide +kernel, by decide +kernel⟩
theorem b__law_common {K : PySem.W.Frag} {x q : Str} {f : Addr} {fd : FuncData} (F : Fun K x q s__law_common f fd) : Binds K fd ["_law_one", "_law_two"] [] := F.binds (fun _ _ _ _ _ _ us hl => match us, hl with | [_, _], _ => rfl)
def spCommon : Sp := fun vs H Q _ => ∃ a b : Int, vs = [.int a, .int b] ∧ b.natAbs < 400 ∧ Q (.int ((Nat.gcd a.natAbs b.natAbs : Nat) : Int)) H
theorem abs_nat (a : Int) : (if a < 0 then -a else a) = ((a.natAbs : Nat) : Int) := by
  split <;> omega
theorem w__law_common (T : Tx K mg) : Can P w K mg base CX0 1 "_law_common" ["_law_one", "_law_two"] spCommon :=
  can0 T.d__law_common sc__law_common b__law_common (fun vs H Q E ⟨i, _, e, _⟩ => by rw [e]; rfl) fun f cdv A outer s H vs Q E hr ⟨a, b, ev, hb, q⟩ => by
  subst ev
  refine ⟨_, (pss_cons (ps_par (i := 0) (j := 1) (by rfl) sc__law_common.nd rfl rfl (by decide) rfl rfl (pa_cons (pe_callB call_abs (by rfl) T.m_abs (by decide +kernel) (pa_cons (pv 0) pa_nil)) (pa_cons (pe_callB call_abs (by rfl) T.m_abs (by decide +kernel) (pa_cons (pv 1) pa_nil)) pa_nil)) (by rfl))
    (pss_cons (ps_for PassesOwn.never (by rfl) (pi_range1 (by rfl) T.m_range (pa_cons pe_int pa_nil)) (pg_name (i := 2) sc__law_common.nd rfl (Or.inl rfl)) (pss_cons (ps_if (pt_cmpR op_eq (pv 1) pe_int (nomark _)) (pss_one ps_break) pss_nil)
    (pss_one (ps_par (i := 0) (j := 1) (by rfl) sc__law_common.nd rfl rfl (by decide) rfl rfl (pa_cons (pv 1) (pa_cons (pe_op op_mod (pe_callTy call_int1 (by rfl) T.m_int (by decide +kernel) (pa_cons (pv 0) pa_nil)) (pv 1)) pa_nil)) (by rfl)))))
    (pss_one (ps_ret (pv 0))))), ?_⟩
  refine ⟨_, rfl, _, rfl, _, rfl, _, rfl, _, _, rfl, ?_⟩
  rw [abs_nat a, abs_nat b]
  refine ⟨400, rfl, by decide, by decide, for_range (n := 400) (fun i σ H' => H' = H ∧ ∃ (x y : Nat) (t : Option V), σ = [some (.int x), some (.int y), t] ∧ Nat.gcd x y = Nat.gcd a.natAbs b.natAbs ∧ (y + i < 400 ∨ y = 0)) ⟨rfl, _, _, none, rfl, rfl, .inl hb⟩ ?_ ?_⟩
  · rintro i σ H' hi ⟨rfl, x, y, t, rfl, hg, hy⟩
    walk_at "w"
    refine ite2 (fun c => ?_) fun c => ?_
    · have c : y = 0 := by have := intEq c; omega
      subst c
      rw [Nat.gcd_zero_right] at hg
      walk_at "w"
      rw [← hg] at q
      exact q
    · have c : y ≠ 0 := by have := intNe c; omega
      walk_at "w"
      refine ⟨by show (0 : Int) < y; omega, ?_⟩
      refine ⟨_, _, rfl, rfl, y, x % y, _, by rw [Int.natCast_emod]; rfl, ?_, ?_⟩
      · rw [Nat.gcd_comm y, ← Nat.gcd_rec, Nat.gcd_comm]
        exact hg
      · have := Nat.mod_lt x (show 0 < y by omega)
        omega
  · rintro σ H' ⟨rfl, x, y, t, rfl, hg, hy⟩
    obtain rfl : y = 0 := by omega
    rw [Nat.gcd_zero_right] at hg
    walk_at "w"
    rw [← hg] at q
    exact q
theorem sc__law_power : FnScope ["_law_row", "_law_found", "_law_each"] ["_law_row"] (defScope s__law_power) :=
  ⟨rfl, rfl, rfl, by decide +kernel, rfl, by decide +kernel, by decide +kernel⟩
theorem b__law_power {K : PySem.W.Frag} {x q : Str} {f : Addr} {fd : FuncData} (F : Fun K x q s__law_power f fd) : Binds K fd ["_law_row"] [] := F.binds (fun _ _ _ _ _ _ us hl => match us, hl with | [_], _ => rfl)
def rowL (r : M.Row) : List V := [.int r.e0, .int r.e1, .int r.e2, .int r.e3]
def spPower : Sp := fun vs H Q _ => ∃ (a : Addr) (r : M.Row), vs = [.ref a] ∧ H a = some (.lst (rowL r)) ∧ r.Ok ∧ Q (.int (r.g : Nat)) H
def gp (r : M.Row) : Nat → Nat
  | 0 => 0
  | 1 => Nat.gcd 0 r.e0.natAbs
  | 2 => Nat.gcd (Nat.gcd 0 r.e0.natAbs) r.e1.natAbs
  | 3 => Nat.gcd (Nat.gcd (Nat.gcd 0 r.e0.natAbs) r.e1.natAbs) r.e2.natAbs
  | _ => r.g
theorem w__law_power (T : Tx K mg) : Can P w K mg base CX0 2 "_law_power" ["_law_row"] spPower :=
  can0 T.d__law_power sc__law_power b__law_power (fun vs H Q E ⟨i, _, e, _⟩ => by rw [e]; rfl) fun f cdv A outer s H vs Q E hr ⟨a, r, ev, ha, ok, q⟩ => by
  subst ev
  have c__law_common := w__law_common (P := P) (w := w) (base := base) T
  refine ⟨_, (pss_cons (ps_set (i := 1) sc__law_power.nd rfl (Or.inl rfl) pe_int)
    (pss_cons (ps_for PassesOwn.never (by rfl) (pi_list (pv 0)) (pg_name (i := 2) sc__law_power.nd rfl (Or.inl rfl)) (pss_one (ps_set (i := 1) sc__law_power.nd rfl (Or.inl rfl) (pe_can c__law_common (hr.mono (by decide)) (by rfl) pass0 (pa_cons (pv 1) (pa_cons (pv 2) pa_nil))))))
    (pss_one (ps_ret (pv 1))))), ?_⟩
  refine ⟨_, rfl, a, rfl, ⟨_, SqL.of ha⟩, for_list (xs := rowL r) (fun i σ H' => H' = H ∧ ∃ t, σ = [some (.ref a), some (.int (gp r i : Nat)), t]) ⟨rfl, none, rfl⟩ (fun i σ H' _ ⟨e, _⟩ => by rw [e]; exact SqL.of ha) ?_ ?_⟩
  · rintro i x σ H' hi ⟨rfl, t, rfl⟩
    obtain ⟨⟨o1, o2⟩, ⟨o3, o4⟩, ⟨o5, o6⟩, o7, o8⟩ := ok
    have hn : ∀ e : Int, -12 ≤ e → e ≤ 18 → e.natAbs < 400 := fun e h1 h2 => by omega
    rcases i with _ | _ | _ | _ | i
    · cases hi
      walk_at "w"
      exact ⟨hn _ (by omega) (by omega), rfl, _, rfl⟩
    · cases hi
      walk_at "w"
      exact ⟨hn _ (by omega) (by omega), rfl, _, rfl⟩
    · cases hi
      walk_at "w"
      exact ⟨hn _ (by omega) (by omega), rfl, _, rfl⟩
    · cases hi
      walk_at "w"
      exact ⟨hn _ (by omega) (by omega), rfl, _, rfl⟩
    · cases hi
  · rintro σ H' ⟨rfl, t, rfl⟩
    walk_at "w"
    exact q
theorem sc__law_pair : FnScope ["_law_sign", "_law_row", "_law_top", "_law_bottom", "_law_each", "_law_amount", "_law_turn_here"] ["_law_sign", "_law_row"] (defScope s__law_pair) :=
  ⟨rfl, rfl, rfl, by decide +kernel, rfl, by decide +kernel, by decide +kernel⟩
theorem b__law_pair {K : PySem.W.Frag} {x q : Str} {f : Addr} {fd : FuncData} (F : Fun K x q s__law_pair f fd) : Binds K fd ["_law_sign", "_law_row"] [] := F.binds (fun _ _ _ _ _ _ us hl => match us, hl with | [_, _], _ => rfl)
def tp (r : M.Row) : Nat → Nat
  | 0 => 1
  | 1 => 2 ^ r.e0.toNat
  | 2 => 2 ^ r.e0.toNat * 3 ^ r.e1.toNat
  | 3 => 2 ^ r.e0.toNat * 3 ^ r.e1.toNat * 5 ^ r.e2.toNat
  | _ => r.top
def bp (r : M.Row) : Nat → Nat
  | 0 => 1
  | 1 => 2 ^ (-r.e0).toNat
  | 2 => 2 ^ (-r.e0).toNat * 3 ^ (-r.e1).toNat
  | 3 => 2 ^ (-r.e0).toNat * 3 ^ (-r.e1).toNat * 5 ^ (-r.e2).toNat
  | _ => r.bot
def spPair : Sp := fun vs H Q _ => ∃ (a : Addr) (sg : Int) (r : M.Row), vs = [.int sg, .ref a] ∧ H a = some (.lst (rowL r)) ∧ r.Ok ∧ ∀ p H', Ex [] H H' → H p = none → H' p = some (.tup [.int (sg * (r.top : Nat)), .int (r.bot : Nat)]) → Q (.ref p) H'
theorem pair_step {r : M.Row} {i : Nat} {x y : V} (hx : ([.int 2, .int 3, .int 5, .int 7] : List V)[i]? = some x) (hy : (rowL r)[i]? = some y) :
    ∃ (p : Nat) (e : Int), x = .int p ∧ y = .int e ∧ p < 8 ∧ (r.Ok → -12 ≤ e ∧ e ≤ 18) ∧ tp r (i + 1) = tp r i * p ^ e.toNat ∧ bp r (i + 1) = bp r i * p ^ (-e).toNat := by
  rcases i with _ | _ | _ | _ | i
  · cases hx
    cases hy
    exact ⟨2, r.e0, rfl, rfl, by decide, fun ok => ok.1, by simp [tp], by simp [bp]⟩
  · cases hx
    cases hy
    exact ⟨3, r.e1, rfl, rfl, by decide, fun ok => ⟨ok.2.1.1, by have := ok.2.1.2; omega⟩, rfl, rfl⟩
  · cases hx
    cases hy
    exact ⟨5, r.e2, rfl, rfl, by decide, fun ok => ⟨ok.2.2.1.1, by have := ok.2.2.1.2; omega⟩, rfl, rfl⟩
  · cases hx
    cases hy
    exact ⟨7, r.e3, rfl, rfl, by decide, fun ok => ⟨ok.2.2.2.1, by have := ok.2.2.2.2; omega⟩, rfl, rfl⟩
  · cases hx
theorem w__law_pair (T : Tx K mg) : Can P w K mg base CX0 1 "_law_pair" ["_law_sign", "_law_row"] spPair :=
  can0 T.d__law_pair sc__law_pair b__law_pair (fun vs H Q E ⟨i, _, _, e, _⟩ => by rw [e]; rfl) fun f cdv A outer s H vs Q E hr ⟨a, sg, r, ev, ha, ok, q⟩ => by
  subst ev
  refine ⟨_, (pss_cons (ps_par (i := 2) (j := 3) (by rfl) sc__law_pair.nd rfl rfl (by decide) rfl rfl (pa_cons (pv 0) (pa_cons pe_int pa_nil)) (by rfl))
    (pss_cons (ps_for PassesOwn.never (by rfl) (pi_zip (by rfl) T.m_zip (pa_cons (pe_lst (pa_cons pe_int (pa_cons pe_int (pa_cons pe_int (pa_cons pe_int pa_nil))))) (pa_cons (pv 1) pa_nil))) (pg_tup (by rfl) (pgs_cons (pg_name (i := 4) sc__law_pair.nd rfl (Or.inl rfl)) (pgs_cons (pg_name (i := 5) sc__law_pair.nd rfl (Or.inl rfl)) pgs_nil))) (pss_one (ps_for PassesOwn.never (by rfl) (pi_range1 (by rfl) T.m_range (pa_cons (pe_callB call_abs (by rfl) T.m_abs (by decide +kernel) (pa_cons (pv 5) pa_nil)) pa_nil)) (pg_name (i := 6) sc__law_pair.nd rfl (Or.inl rfl)) (pss_one (ps_asg (pe_ifExp (pt_cmpR op_gt (pv 5) pe_int (nomark _)) (pe_tup (pa_cons (pe_op op_mul (pv 2) (pv 4)) (pa_cons (pv 3) pa_nil))) (pe_tup (pa_cons (pv 2) (pa_cons (pe_op op_mul (pv 3) (pv 4)) pa_nil)))) (pg_tup (by rfl) (pgs_cons (pg_name (i := 2) sc__law_pair.nd rfl (Or.inl rfl)) (pgs_cons (pg_name (i := 3) sc__law_pair.nd rfl (Or.inl rfl)) pgs_nil))))))))
    (pss_one (ps_ret (pe_tup (pa_cons (pv 2) (pa_cons (pv 3) pa_nil))))))), ?_⟩
  have h2 : 2 ≤ sizeLine := by decide
  have h4 : 4 ≤ sizeLine := by decide
  refine ⟨_, rfl, _, _, rfl, ?_⟩
  refine ⟨h4, fun l nl => ?_⟩
  have ha1 : upd H l (.lst [.int 2, .int 3, .int 5, .int 7]) a = some (.lst (rowL r)) := (Ex.new0 (M := []) nl) _ _ (by simp) ha
  refine ⟨_, rfl, l, a, [.int 2, .int 3, .int 5, .int 7], rowL r, rfl, SqL.of upd_same, SqL.of ha1, ?_⟩
  refine RZ.for_zipL (a := l) (b := a) (xs := [.int 2, .int 3, .int 5, .int 7]) (ys := rowL r) rfl (fun i σ H' => Ex [] H H' ∧ H' l = some (.lst [.int 2, .int 3, .int 5, .int 7]) ∧ ∃ t4 t5 t6, σ = [some (.int sg), some (.ref a), some (.int (sg * (tp r i : Nat))), some (.int (bp r i : Nat)), t4, t5, t6])
    ⟨Ex.new0 nl, upd_same, none, none, none, by rw [show sg * ((tp r 0 : Nat) : Int) = sg by show sg * ((1 : Nat) : Int) = sg; omega]; rfl⟩ (fun i σ H' h => ⟨SqL.of h.2.1, SqL.of (h.1 _ _ (by simp) ha)⟩) ?_ ?_
  · rintro i x y tt σ H' hx hy ⟨hex, hl, t4, t5, t6, rfl⟩ ntt
    obtain ⟨p, e, rfl, rfl, hp, he, e1, e2⟩ := pair_step hx hy
    have he := he ok
    refine ⟨_, _, rfl, SqT.of upd_same, rfl, ?_⟩
    walk_at "g"
    rw [abs_nat e]
    refine ⟨by clear e1 e2; omega, by clear e1 e2; omega, ?_⟩
    refine for_range (n := e.natAbs) (fun k σ H2 => Ex [] H' H2 ∧ ∃ t6, σ = [some (.int sg), some (.ref a), some (.int (sg * (tp r i : Nat) * (p ^ (if 0 < e then k else 0) : Nat))), some (.int ((bp r i : Nat) * (p ^ (if 0 < e then 0 else k) : Nat))), some (.int p), some (.int e), t6])
      ⟨Ex.new0 ntt, t6, by simp only [ite_self, Nat.pow_zero]; rw [show ((1 : Nat) : Int) = 1 from rfl, Int.mul_one, Int.mul_one]; rfl⟩ ?_ ?_
    · rintro k σ H2 hk ⟨hx2, t6, rfl⟩
      walk_at "g"
      refine ite2 (fun c => ?_) fun c => ?_
      · have c := dT c
        walk_at "g"
        refine ⟨.inr ⟨by omega, by omega⟩, ?_⟩
        walk_at "g"
        refine ⟨h2, fun t7 n7 => ?_⟩
        refine ⟨_, _, rfl, SqT.of upd_same, rfl, ?_⟩
        walk_at "g"
        refine ⟨hx2.new n7, some (.int (0 + (k : Int))), ?_⟩
        rw [if_pos c, if_pos c, if_pos c, if_pos c, Nat.pow_succ, Int.natCast_mul, ← Int.mul_assoc]
        rfl
      · have c := dF c
        walk_at "g"
        refine ⟨.inr ⟨by omega, by omega⟩, ?_⟩
        walk_at "g"
        refine ⟨h2, fun t7 n7 => ?_⟩
        refine ⟨_, _, rfl, SqT.of upd_same, rfl, ?_⟩
        walk_at "g"
        refine ⟨hx2.new n7, some (.int (0 + (k : Int))), ?_⟩
        rw [if_neg c, if_neg c, if_neg c, if_neg c, Nat.pow_succ, Int.natCast_mul, ← Int.mul_assoc]
        rfl
    · rintro σ H2 ⟨hx2, t6, rfl⟩
      refine ⟨hex.trans hx2, hx2 _ _ (by simp) hl, some (.int p), some (.int e), t6, ?_⟩
      rw [e1, e2, show (if 0 < e then e.natAbs else 0) = e.toNat by split <;> omega, show (if 0 < e then 0 else e.natAbs) = (-e).toNat by split <;> omega, Int.natCast_mul, Int.natCast_mul, Int.mul_assoc]
  · rintro σ H' ⟨hex, hl, t4, t5, t6, rfl⟩
    walk_at "g"
    exact ⟨h2, fun p np => q p _ (hex.new np) (hex.none_back (by simp) np) upd_same⟩
end
end G
-- Wf
set_option pp.maxSteps 800
set_option Elab.async false
set_option linter.all false
set_option maxRecDepth 100000
set_option maxHeartbeats 800000
namespace G
open PySem PySem.Spec PyProof.Rows L2 LamX NdefX
local macro_rules | `(tactic| walk_at "g") => `(tactic| repeat (first | refine ⟨_, rfl, ?_⟩ | refine ⟨_, _, rfl, ?_⟩ | refine ⟨_, _, _, rfl, ?_⟩ | refine ⟨_, _, rfl, rfl, ?_⟩ | refine ⟨rfl, ?_⟩))
local macro_rules | `(tactic| walk_at "w") => `(tactic| repeat (first | refine ⟨_, rfl, ?_⟩ | refine ⟨_, _, rfl, ?_⟩ | refine ⟨_, _, _, rfl, ?_⟩ | refine ⟨_, _, rfl, rfl, ?_⟩ | refine ⟨rfl, ?_⟩ | refine Or.inl ⟨_, rfl, ?_⟩ | refine ⟨_, _, rfl, .inr ⟨_, SqT.of (by assumption), rfl⟩, ?_⟩ | refine ⟨_, _, rfl, .inl ⟨_, SqL.of (by assumption), rfl⟩, ?_⟩ | refine ⟨_, _, _, _, rfl, rfl, SqT.of (by assumption), (by rfl), ?_⟩ | refine ⟨_, _, _, _, rfl, rfl, SqL.of (by assumption), (by rfl), ?_⟩ | refine ⟨_, _, _, _, rfl, rfl, SqL.of upd_same, (by rfl), ?_⟩ | refine ⟨_, _, _, _, rfl, rfl, (by assumption), (by rfl), ?_⟩ | refine ⟨_, _, _, _, rfl, rfl, upd_same, (by rfl), ?_⟩))
section
variable {P : Program} {w : World} {K : PySem.W.Frag} {mg : Str → Option Value} {base : Heap}
theorem upN {H : Hp} {p a : Addr} {o v : HO} (n : H p = none) (h : H a = some v) : upd H p o a = some v := by
  rw [upd_ne (ne_of_none h n)]
  exact h
theorem ints_get {es : List Int} {i : Nat} {x : V} (h : (es.map V.int)[i]? = some x) : ∃ e, es[i]? = some e ∧ x = .int e := by
  rw [List.getElem?_map] at h
  cases q : es[i]? with
  | none => rw [q] at h; cases h
  | some e => rw [q] at h; exact ⟨e, rfl, (Option.some.inj h).symm⟩
theorem JugAt.put {H : Hp} {j p : Addr} {o : HO} (h : JugAt H j) (n : H p = none) : JugAt (upd H p o) j := by
  obtain ⟨d, m, c, e⟩ := h
  exact ⟨d, m, c, (Ex.new0 (M := []) n) _ _ (by simp) e⟩
theorem JugAt.ne {H : Hp} {j p : Addr} (h : JugAt H j) (n : H p = none) : p ≠ j := fun z => by
  obtain ⟨d, m, c, e⟩ := h
  rw [z, e] at n
  cases n
theorem JugAt.keep {H H' : Hp} {j : Addr} {Ms : List Addr} (h : JugAt H j) (x : Ex Ms H H') (n : j ∉ Ms) : JugAt H' j := by
  obtain ⟨d, m, c, e⟩ := h
  exact ⟨d, m, c, x _ _ n e⟩
theorem JugAt.len {H : Hp} {j p : Addr} {xs : List V} (h : JugAt H j) (e : H p = some (.lst xs)) (n : xs.length ≠ 3) : p ≠ j := fun z => by
  obtain ⟨d, m, c, e2⟩ := h
  rw [z, e2] at e
  cases e
  exact n rfl
theorem JugAt.tup {H : Hp} {j p : Addr} {xs : List V} (h : JugAt H j) (e : H p = some (.tup xs)) : p ≠ j := fun z => by
  obtain ⟨d, m, c, e2⟩ := h
  rw [z, e2] at e
  cases e
theorem JugAt.fresh {H H' : Hp} {j p : Addr} (h : JugAt H' j) (x : Ex [j] H H') (n : H' p = none) : H p = none := x.none_back (by simpa using h.ne n) n
theorem sc__law_small : FnScope ["_law_jug_here", "_law_low", "_law_high", "_law_found", "_law_k"] ["_law_jug_here", "_law_low", "_law_high"] (defScope s__law_small) :=
  ⟨rfl, rfl, rfl, by decide +kernel, rfl, by decide +kernel, by decide +kernel⟩
theorem b__law_small {K : PySem.W.Frag} {x q : Str} {f : Addr} {fd : FuncData} (F : Fun K x q s__law_small f fd) : Binds K fd ["_law_jug_here", "_law_low", "_law_high"] [] := F.binds (fun _ _ _ _ _ _ us hl => match us, hl with | [_, _, _], _ => rfl)
def spSmall : Sp := fun vs H Q _ => ∃ (j : Addr) (lo hi : Int), vs = [.ref j, .int lo, .int hi] ∧ JugAt H j ∧ lo ≤ 0 ∧ 1 ≤ hi ∧ hi - lo < 1000 ∧
  ∀ p (es : List Int) H', Ex [j] H H' → JugAt H' j → H p = none → H' p = some (.lst (es.map V.int)) → es.length = 4 → (∀ e ∈ es, lo ≤ e ∧ e ≤ hi) → Q (.ref p) H'
theorem w__law_small (T : Tx K mg) : Can P w K mg base CX0 3 "_law_small" ["_law_jug_here", "_law_low", "_law_high"] spSmall :=
  can0 T.d__law_small sc__law_small b__law_small (fun vs H Q E ⟨i, _, _, e, _⟩ => by rw [e]; rfl) fun f cdv A outer s H vs Q E hr ⟨j, lo, hi, ev, hj, hlo, hhi, hd, q⟩ => by
  subst ev
  have c__law_pull := w__law_pull (P := P) (w := w) (base := base) T
  have c__law_one_of := w__law_one_of (P := P) (w := w) (base := base) T
  refine ⟨_, (pss_cons (ps_setLc (i := 3) (own := [("_law_k", 4)]) (g := gName 4) (by rfl) sc__law_small.nd rfl rfl (sw_true rfl rfl rfl (by decide +kernel)) (pi_range1 (by rfl) T.m_range (pa_cons pe_int pa_nil)) (blkOk_by (own := [("_law_k", 4)]) (N := ["_law_jug_here", "_law_low", "_law_high", "_law_found", "_law_k"]) (sc := defScope s__law_small) (by decide +kernel)) (fun _ _ _ _ _ => (pg_name (i := 4) sc__law_small.nd rfl (Or.inl rfl))) (fun _ _ _ _ _ => pts_nil) (fun _ _ _ _ _ => (pe_ifExp (pt_cmpR op_eq (pe_can c__law_pull (hr.mono (by decide)) (by rfl) pass0 (pa_cons (pv 0) (pa_cons pe_int pa_nil))) pe_int (nomark _)) (pe_op op_add (pv 1) (pe_can c__law_pull (hr.mono (by decide)) (by rfl) pass0 (pa_cons (pv 0) (pa_cons (pe_op op_add (pe_op op_sub (pv 2) (pv 1)) pe_int) pa_nil)))) pe_int)))
    (pss_cons (ps_asg (pe_can c__law_one_of (hr.mono (by decide)) (by rfl) pass0 (pa_cons (pv 0) (pa_cons (pe_lst (pa_cons pe_int (pa_cons pe_int (pa_cons pe_int (pa_cons (pv 1) (pa_cons (pv 2) pa_nil)))))) pa_nil))) (pg_sub (pv 3) (pe_can c__law_pull (hr.mono (by decide)) (by rfl) pass0 (pa_cons (pv 0) (pa_cons pe_int pa_nil))) set_list))
    (pss_one (ps_ret (pv 3))))), ?_⟩
  have h1000 : 1000 ≤ sizeLine := by decide
  refine ⟨_, rfl, by decide, by decide, fun D nD => lc_range (lo := 0) (n := 4) (fun i H' => Ex [j] H H' ∧ JugAt H' j ∧ ∃ es : List Int, H' D = some (.lst (es.map V.int)) ∧ es.length = i ∧ ∀ e ∈ es, lo ≤ e ∧ e ≤ hi) ⟨Ex.new0 nD, hj.put nD, [], upd_same, rfl, by simp⟩ (fun i H' hi4 ⟨hx, hj1, es, he, hl, hb⟩ => ?_) fun H' ⟨hx, hj1, es, he, hl, hb⟩ => ?_⟩
  · have hDj : D ≠ j := hj.ne nD
    walk_at "w"
    refine ⟨hj1, by decide, by decide, fun k H2 hk hx2 hj2 => ?_⟩
    have he2 := hx2 _ _ (by simpa using hDj) he
    have push : ∀ (e : Int) (H3 : Hp), lo ≤ e → e ≤ hi → Ex [j] H2 H3 → JugAt H3 j → ∃ acc, H3 D = some (.lst acc) ∧ acc.length < sizeLine ∧ Ex [j] H (upd H3 D (.lst (acc ++ [V.int e]))) ∧ JugAt (upd H3 D (.lst (acc ++ [V.int e]))) j ∧ ∃ es : List Int, upd H3 D (.lst (acc ++ [V.int e])) D = some (.lst (es.map V.int)) ∧ es.length = i + 1 ∧ ∀ e ∈ es, lo ≤ e ∧ e ≤ hi := fun e H3 h1 h2 hx3 hj3 => by
      refine ⟨_, hx3 _ _ (by simpa using hDj) he2, by rw [List.length_map]; omega, ((hx.trans hx2).trans hx3).mut nD, ?_, es ++ [e], by rw [upd_same, List.map_append]; rfl, by simp [hl], ?_⟩
      · obtain ⟨d, m, c, e⟩ := hj3
        exact ⟨d, m, c, by rw [upd_ne (Ne.symm hDj)]; exact e⟩
      · intro x hx
        rcases List.mem_append.mp hx with z | z
        · exact hb x z
        · rw [List.mem_singleton.mp z]
          exact ⟨h1, h2⟩
    walk_at "w"
    refine ite2 (fun c => ?_) fun c => ?_
    · walk_at "w"
      refine ⟨j, (hi - lo + 1).toNat, by rw [Int.toNat_of_nonneg (by omega)]; rfl, hj2, by omega, by omega, fun k2 H3 hk2 hx3 hj3 => ?_⟩
      walk_at "w"
      exact push _ _ (by omega) (by omega) hx3 hj3
    · exact push 0 H2 (by omega) (by omega) (Ex.refl _ _) hj2
  · have hDj : D ≠ j := hj.ne nD
    refine ⟨_, rfl, ?_⟩
    refine ⟨_, rfl, _, rfl, ?_⟩
    refine ⟨by show 5 ≤ sizeLine; omega, fun l nl => ?_⟩
    refine ⟨j, l, _, rfl, hj1.put nl, upd_same, hj1.ne nl, by show 0 < 5; decide, by show 5 < 1000; decide, fun i x H2 hix hx2 hj2 => ?_⟩
    have hxv : ∃ e : Int, x = .int e ∧ lo ≤ e ∧ e ≤ hi := by
      rcases i with _ | _ | _ | _ | _ | i
      · cases hix; exact ⟨1, rfl, by omega, by omega⟩
      · cases hix; exact ⟨1, rfl, by omega, by omega⟩
      · cases hix; exact ⟨0, rfl, by omega, by omega⟩
      · cases hix; exact ⟨lo, rfl, by omega, by omega⟩
      · cases hix; exact ⟨hi, rfl, by omega, by omega⟩
      · cases hix
    obtain ⟨e, rfl, e1, e2⟩ := hxv
    have he2 := hx2 _ _ (by simpa using hDj) ((Ex.new0 (M := []) nl) _ _ (by simp) he)
    walk_at "g"
    refine ⟨hj2, by decide, by decide, fun k H3 hk hx3 hj3 => ?_⟩
    have hk : k < 4 := hk
    have he3 := hx3 _ _ (by simpa using hDj) he2
    refine ⟨_, _, _, k, rfl, rfl, he3, ?_, ?_⟩
    · unfold ixN
      rw [if_pos (by omega), if_pos (by rw [List.length_map, hl]; omega)]
      simp
    · walk_at "g"
      have hx4 : Ex [j] H H3 := ((hx.new nl).trans hx2).trans hx3
      refine q D (es.set k e) _ (hx4.mut nD) ?_ nD (by rw [upd_same, List.map_set]) (by rw [List.length_set]; exact hl) ?_
      · obtain ⟨d, m, c, e⟩ := hj3
        exact ⟨d, m, c, by rw [upd_ne (Ne.symm hDj)]; exact e⟩
      · intro y hy
        rcases List.mem_or_eq_of_mem_set hy with z | z
        · exact hb y z
        · rw [z]
          exact ⟨e1, e2⟩
theorem sc__law_plan : FnScope ["_law_jug_here", "_law_way", "_law_sign", "_law_amount", "_law_found", "_law_each"] ["_law_jug_here"] (defScope s__law_plan) :=
  ⟨rfl, rfl, rfl, by decide +kernel, rfl, by decide +kernel, by decide +kernel⟩
theorem b__law_plan {K : PySem.W.Frag} {x q : Str} {f : Addr} {fd : FuncData} (F : Fun K x q s__law_plan f fd) : Binds K fd ["_law_jug_here"] [] := F.binds (fun _ _ _ _ _ _ us hl => match us, hl with | [_], _ => rfl)
def PlanAt (H : Hp) (p : Addr) (sg : Int) (r : M.Row) : Prop := (sg = 1 ∨ sg = -1) ∧ r.Ok ∧ ∃ b, H p = some (.tup [.int sg, .ref b]) ∧ H b = some (.lst (rowL r))
theorem PlanAt.keep {H H' : Hp} {p j : Addr} {sg : Int} {r : M.Row} (h : PlanAt H p sg r) (hj : JugAt H j) (x : Ex [j] H H') : PlanAt H' p sg r := by
  obtain ⟨h1, h2, b, h3, h4⟩ := h
  exact ⟨h1, h2, b, x _ _ (by simpa using hj.tup h3) h3, x _ _ (by simpa using hj.len h4 (by simp [rowL])) h4⟩
def spPlan : Sp := fun vs H Q _ => ∃ j : Addr, vs = [.ref j] ∧ JugAt H j ∧ ∀ p sg r H', Ex [j] H H' → JugAt H' j → H p = none → PlanAt H' p sg r → Q (.ref p) H'
theorem four_of {es : List Int} (h : es.length = 4) : ∃ r : M.Row, es.map V.int = rowL r ∧ es = [r.e0, r.e1, r.e2, r.e3] := by
  match es, h with
  | [a, b, c, d], _ => exact ⟨⟨a, b, c, d⟩, rfl, rfl⟩
theorem w__law_plan (T : Tx K mg) : Can P w K mg base CX0 4 "_law_plan" ["_law_jug_here"] spPlan :=
  can0 T.d__law_plan sc__law_plan b__law_plan (fun vs H Q E ⟨i, e, _⟩ => by rw [e]; rfl) fun f cdv A outer s H vs Q E hr ⟨j, ev, hj, q⟩ => by
  subst ev
  have c__law_pull := w__law_pull (P := P) (w := w) (base := base) T
  have c__law_one_of := w__law_one_of (P := P) (w := w) (base := base) T
  have c__law_small := w__law_small (P := P) (w := w) (base := base) T
  refine ⟨_, (pss_cons (ps_par (i := 1) (j := 2) (by rfl) sc__law_plan.nd rfl rfl (by decide) rfl rfl (pa_cons (pe_can c__law_pull (hr.mono (by decide)) (by rfl) pass0 (pa_cons (pv 0) (pa_cons pe_int pa_nil))) (pa_cons (pe_can c__law_one_of (hr.mono (by decide)) (by rfl) pass0 (pa_cons (pv 0) (pa_cons (pe_lst (pa_cons pe_int (pa_cons pe_int (pa_cons (pe_un un_neg pe_int) pa_nil)))) pa_nil))) pa_nil)) (by rfl))
    (pss_cons (ps_if (pt_cmpR op_eq (pv 1) pe_int (nomark _)) (pss_one (ps_ret (pe_tup (pa_cons (pv 2) (pa_cons (pe_lst (pa_cons pe_int (pa_cons pe_int (pa_cons pe_int (pa_cons pe_int pa_nil))))) pa_nil))))) pss_nil)
    (pss_cons (ps_if (pt_cmpR op_lt (pv 1) pe_int (nomark _)) (pss_cons (ps_set (i := 3) sc__law_plan.nd rfl (Or.inr rfl) (pe_can c__law_one_of (hr.mono (by decide)) (by rfl) pass0 (pa_cons (pv 0) (pa_cons (pe_lst (pa_cons pe_int (pa_cons pe_int (pa_cons pe_int (pa_cons pe_int (pa_cons pe_int (pa_cons pe_int (pa_cons pe_int (pa_cons pe_int (pa_cons pe_int (pa_cons pe_int pa_nil))))))))))) pa_nil))))
    (pss_one (ps_ret (pe_tup (pa_cons (pv 2) (pa_cons (pe_lc (own := [("_law_each", 5)]) (g := gName 5) (by rfl) sc__law_plan.nd (pi_list (pe_can c__law_small (hr.mono (by decide)) (by rfl) pass0 (pa_cons (pv 0) (pa_cons (pe_un un_neg pe_int) (pa_cons pe_int pa_nil))))) (blkOk_by (own := [("_law_each", 5)]) (N := ["_law_jug_here", "_law_way", "_law_sign", "_law_amount", "_law_found", "_law_each"]) (sc := defScope s__law_plan) (by decide +kernel)) (fun _ _ _ _ _ => (pg_name (i := 5) sc__law_plan.nd rfl (Or.inl rfl))) (fun _ _ _ _ _ => pts_nil) (fun _ _ _ _ _ => (pe_op op_mul (pv 3) (pv 5)))) pa_nil)))))) pss_nil)
    (pss_cons (ps_if (pt_cmpR op_eq (pv 1) pe_int (nomark _)) (pss_cons (ps_set (i := 3) sc__law_plan.nd rfl (Or.inr rfl) (pe_can c__law_one_of (hr.mono (by decide)) (by rfl) pass0 (pa_cons (pv 0) (pa_cons (pe_lst (pa_cons pe_int (pa_cons pe_int (pa_cons pe_int pa_nil)))) pa_nil))))
    (pss_cons (ps_setLc (i := 4) (own := [("_law_each", 5)]) (g := gName 5) (by rfl) sc__law_plan.nd rfl rfl (sw_true rfl rfl rfl (by decide +kernel)) (pi_list (pe_can c__law_small (hr.mono (by decide)) (by rfl) pass0 (pa_cons (pv 0) (pa_cons (pe_un un_neg pe_int) (pa_cons pe_int pa_nil))))) (blkOk_by (own := [("_law_each", 5)]) (N := ["_law_jug_here", "_law_way", "_law_sign", "_law_amount", "_law_found", "_law_each"]) (sc := defScope s__law_plan) (by decide +kernel)) (fun _ _ _ _ _ => (pg_name (i := 5) sc__law_plan.nd rfl (Or.inl rfl))) (fun _ _ _ _ _ => pts_nil) (fun _ _ _ _ _ => (pe_op op_mul (pv 3) (pv 5))))
    (pss_one (ps_ret (pe_tup (pa_cons (pe_un un_neg pe_int) (pa_cons (pe_op op_cat (pe_lst (pa_cons (pe_op op_add (pe_ix ix_list (pv 4) pe_int (fun _ _ => rfl)) (pe_ifExp (pt_cmpR op_eq (pv 3) pe_int (nomark _)) pe_int pe_int)) pa_nil)) (pe_slice sl_list (pv 4) (po_some pe_int) po_none)) pa_nil))))))) pss_nil)
    (pss_one (ps_ret (pe_tup (pa_cons (pv 2) (pa_cons (pe_can c__law_small (hr.mono (by decide)) (by rfl) pass0 (pa_cons (pv 0) (pa_cons (pe_un un_neg pe_int) (pa_cons pe_int pa_nil)))) pa_nil))))))))), ?_⟩
  have h1000 : 1000 ≤ sizeLine := by decide
  walk_at "g"
  refine ⟨hj, by decide, by decide, fun way H1 hway hx1 hj1 => ?_⟩
  refine ⟨_, rfl, _, rfl, ?_⟩
  refine ⟨by show 3 ≤ sizeLine; omega, fun l nl => ?_⟩
  refine ⟨j, l, _, rfl, hj1.put nl, upd_same, hj1.ne nl, by decide, by decide, fun i x H2 hix hx2 hj2 => ?_⟩
  have hxv : ∃ sg : Int, x = .int sg ∧ (sg = 1 ∨ sg = -1) := by
    rcases i with _ | _ | _ | i
    · cases hix; exact ⟨1, rfl, .inl rfl⟩
    · cases hix; exact ⟨1, rfl, .inl rfl⟩
    · cases hix; exact ⟨-1, rfl, .inr rfl⟩
    · cases hix
  obtain ⟨sg, rfl, hsg⟩ := hxv
  have hx : Ex [j] H H2 := (hx1.new nl).trans hx2
  clear hx1 hx2 hj1 nl
  walk_at "g"
  refine ite2 (fun c => ?_) fun c => ?_
  · walk_at "g"
    refine ⟨by show 4 ≤ sizeLine; omega, fun b nb => ?_⟩
    refine ⟨by show 2 ≤ sizeLine; omega, fun p np => ?_⟩
    refine q p sg ⟨0, 0, 0, 0⟩ _ ((hx.new nb).new np) ((hj2.put nb).put np) ((hj2.put nb).fresh (hx.new nb) np) ⟨hsg, by unfold M.Row.Ok; decide, b, upd_same, ?_⟩
    rw [upd_ne (ne_of_none upd_same np), upd_same]
    rfl
  · walk_at "g"
    refine ite2 (fun c => ?_) fun c => ?_
    · refine ⟨_, rfl, ?_⟩
      refine ⟨by show 10 ≤ sizeLine; omega, fun l nl => ?_⟩
      refine ⟨j, l, _, rfl, hj2.put nl, upd_same, hj2.ne nl, by decide, by decide, fun i x H3 hix hx3 hj3 => ?_⟩
      have hxv : ∃ am : Int, x = .int am ∧ 2 ≤ am ∧ am ≤ 12 := by
        rcases i with _ | _ | _ | _ | _ | _ | _ | _ | _ | _ | i
        all_goals first | (cases hix; exact ⟨_, rfl, by decide, by decide⟩) | cases hix
      obtain ⟨am, rfl, ha1, ha2⟩ := hxv
      have hx4 : Ex [j] H H3 := (hx.new nl).trans hx3
      walk_at "g"
      refine ⟨hj3, by decide, by decide, by decide, fun p4 es H4 hx5 hj4 np4 hp4 hl4 hb4 => ?_⟩
      refine ⟨p4, rfl, ⟨_, SqL.of hp4⟩, fun D nD => lc_list (xs := es.map V.int) (fun i H' => Ex [] H4 H' ∧ H' D = some (.lst ((es.take i).map fun e => V.int (am * e)))) ⟨Ex.new0 nD, upd_same⟩ (fun i H' _ h => SqL.of (h.1 _ _ (by simp) hp4)) (fun i x H' hi ⟨hx6, hd⟩ => ?_) fun H' ⟨hx6, hd⟩ => ?_⟩
      · obtain ⟨e, hei, rfl⟩ := ints_get hi
        walk_at "g"
        refine ⟨.inl ⟨by omega, by omega⟩, ?_⟩
        refine ⟨_, hd, by rw [List.length_map]; have := List.length_take_le' i es; omega, hx6.mut nD, ?_⟩
        rw [upd_same, List.take_add_one, hei]
        simp
      · walk_at "g"
        refine ⟨by show 2 ≤ sizeLine; omega, fun p np => ?_⟩
        obtain ⟨r, hr1, hr2⟩ := four_of hl4
        have hxx : Ex [j] H H' := (hx4.trans hx5).trans hx6.sub
        have hjj : JugAt H' j := hj4.keep hx6 (by simp)
        refine q p sg ⟨am * r.e0, am * r.e1, am * r.e2, am * r.e3⟩ _ (hxx.new np) (hjj.put np) (hjj.fresh hxx np) ⟨hsg, ?_, D, upd_same, ?_⟩
        · have hb : ∀ e ∈ [r.e0, r.e1, r.e2, r.e3], -1 ≤ e ∧ e ≤ 1 := by rw [← hr2]; exact hb4
          have sm : ∀ e : Int, -1 ≤ e ∧ e ≤ 1 → -12 ≤ am * e ∧ am * e ≤ 12 := fun e he => by
            rcases (show e = -1 ∨ e = 0 ∨ e = 1 by omega) with z | z | z <;> subst z <;> omega
          have s0 := sm _ (hb r.e0 (by simp))
          have s1 := sm _ (hb r.e1 (by simp))
          have s2 := sm _ (hb r.e2 (by simp))
          have s3 := sm _ (hb r.e3 (by simp))
          exact ⟨⟨s0.1, by show am * r.e0 ≤ 18; omega⟩, s1, s2, s3⟩
        · rw [upd_ne (ne_of_none hd np), hd, List.length_map, List.take_length, hr2]
          rfl
    · walk_at "g"
      refine ite2 (fun c => ?_) fun c => ?_
      · refine ⟨_, rfl, ?_⟩
        refine ⟨by show 3 ≤ sizeLine; omega, fun l nl => ?_⟩
        refine ⟨j, l, _, rfl, hj2.put nl, upd_same, hj2.ne nl, by decide, by decide, fun i x H3 hix hx3 hj3 => ?_⟩
        have hxv : ∃ am : Int, x = .int am ∧ (am = 4 ∨ am = 12) := by
          rcases i with _ | _ | _ | i
          all_goals first | (cases hix; exact ⟨_, rfl, by decide⟩) | cases hix
        obtain ⟨am, rfl, ham⟩ := hxv
        have hx4 : Ex [j] H H3 := (hx.new nl).trans hx3
        walk_at "g"
        refine ⟨hj3, by decide, by decide, by decide, fun p4 es H4 hx5 hj4 np4 hp4 hl4 hb4 => ?_⟩
        refine ⟨p4, rfl, ⟨_, SqL.of hp4⟩, fun D nD => lc_list (xs := es.map V.int) (fun i H' => Ex [] H4 H' ∧ H' D = some (.lst ((es.take i).map fun e => V.int (am * e)))) ⟨Ex.new0 nD, upd_same⟩ (fun i H' _ h => SqL.of (h.1 _ _ (by simp) hp4)) (fun i x H' hi ⟨hx6, hd⟩ => ?_) fun H' ⟨hx6, hd⟩ => ?_⟩
        · obtain ⟨e, hei, rfl⟩ := ints_get hi
          walk_at "g"
          refine ⟨.inl ⟨by omega, by omega⟩, ?_⟩
          refine ⟨_, hd, by rw [List.length_map]; have := List.length_take_le' i es; omega, hx6.mut nD, ?_⟩
          rw [upd_same, List.take_add_one, hei]
          simp
        · obtain ⟨r, hr1, hr2⟩ := four_of hl4
          rw [List.length_map, List.take_length, hr2] at hd
          have hd : H' D = some (.lst [.int (am * r.e0), .int (am * r.e1), .int (am * r.e2), .int (am * r.e3)]) := hd
          have hxx : Ex [j] H H' := (hx4.trans hx5).trans hx6.sub
          have hjj : JugAt H' j := hj4.keep hx6 (by simp)
          have hb : ∀ e ∈ [r.e0, r.e1, r.e2, r.e3], -1 ≤ e ∧ e ≤ 1 := by rw [← hr2]; exact hb4
          have s0 := hb r.e0 (by simp)
          have s1 := hb r.e1 (by simp)
          have s2 := hb r.e2 (by simp)
          have s3 := hb r.e3 (by simp)
          clear hb hb4 hr1 hr2 hl4 hp4 c
          rcases ham with z | z <;> subst z
          all_goals
            walk_at "w"
            refine ⟨by show 1 ≤ sizeLine; omega, fun l2 nl2 => ?_⟩
            refine ⟨_, rfl, _, rfl, ?_⟩
            refine ⟨_, _, rfl, SqL.of (upN nl2 hd), fun l3 nl3 => ?_⟩
            refine ⟨_, _, _, _, rfl, rfl, upN nl3 upd_same, upd_same, by show 1 + 3 ≤ sizeLine; omega, fun l4 nl4 => ?_⟩
            refine ⟨by show 2 ≤ sizeLine; omega, fun p np => ?_⟩
            have hxy : ∀ o, Ex [j] H (upd _ l4 o) := fun o => ((hxx.new nl2).new nl3).new nl4
            have hjy : ∀ o, JugAt (upd _ l4 o) j := fun o => ((hjj.put nl2).put nl3).put nl4
          · refine q p (-1) ⟨4 * r.e0 + 2, 4 * r.e1, 4 * r.e2, 4 * r.e3⟩ _ ((hxy _).new np) ((hjy _).put np) ((hjy _).fresh (hxy _) np) ⟨.inr rfl, ?_, l4, upd_same, ?_⟩
            · exact ⟨⟨by show -12 ≤ 4 * r.e0 + 2; omega, by show 4 * r.e0 + 2 ≤ 18; omega⟩, ⟨by show -12 ≤ 4 * r.e1; omega, by show 4 * r.e1 ≤ 12; omega⟩, ⟨by show -12 ≤ 4 * r.e2; omega, by show 4 * r.e2 ≤ 12; omega⟩, by show -12 ≤ 4 * r.e3; omega, by show 4 * r.e3 ≤ 12; omega⟩
            · rw [upd_ne (ne_of_none upd_same np), upd_same]
              rfl
          · refine q p (-1) ⟨12 * r.e0 + 6, 12 * r.e1, 12 * r.e2, 12 * r.e3⟩ _ ((hxy _).new np) ((hjy _).put np) ((hjy _).fresh (hxy _) np) ⟨.inr rfl, ?_, l4, upd_same, ?_⟩
            · exact ⟨⟨by show -12 ≤ 12 * r.e0 + 6; omega, by show 12 * r.e0 + 6 ≤ 18; omega⟩, ⟨by show -12 ≤ 12 * r.e1; omega, by show 12 * r.e1 ≤ 12; omega⟩, ⟨by show -12 ≤ 12 * r.e2; omega, by show 12 * r.e2 ≤ 12; omega⟩, by show -12 ≤ 12 * r.e3; omega, by show 12 * r.e3 ≤ 12; omega⟩
            · rw [upd_ne (ne_of_none upd_same np), upd_same]
              rfl
      · walk_at "g"
        refine ⟨hj2, by decide, by decide, by decide, fun p4 es H4 hx5 hj4 np4 hp4 hl4 hb4 => ?_⟩
        refine ⟨by show 2 ≤ sizeLine; omega, fun p np => ?_⟩
        obtain ⟨r, hr1, hr2⟩ := four_of hl4
        have hxx : Ex [j] H H4 := hx.trans hx5
        refine q p sg r _ (hxx.new np) (hj4.put np) (hj4.fresh hxx np) ⟨hsg, ?_, p4, upd_same, ?_⟩
        · have hb : ∀ e ∈ [r.e0, r.e1, r.e2, r.e3], -5 ≤ e ∧ e ≤ 5 := by rw [← hr2]; exact hb4
          have s0 := hb r.e0 (by simp)
          have s1 := hb r.e1 (by simp)
          have s2 := hb r.e2 (by simp)
          have s3 := hb r.e3 (by simp)
          exact ⟨⟨by omega, by omega⟩, ⟨by omega, by omega⟩, ⟨by omega, by omega⟩, by omega, by omega⟩
        · rw [upd_ne (ne_of_none hp4 np), hp4, hr1]
end
end G
-- Wg
set_option pp.maxSteps 800
set_option Elab.async false
set_option linter.all false
set_option maxRecDepth 100000
set_option maxHeartbeats 800000
namespace G
open PySem PySem.Spec PyProof.Rows L2 LamX NdefX
local macro_rules | `(tactic| walk_at "g") => `(tactic| repeat (first | refine ⟨_, rfl, ?_⟩ | refine ⟨_, _, rfl, ?_⟩ | refine ⟨_, _, _, rfl, ?_⟩ | refine ⟨_, _, rfl, rfl, ?_⟩ | refine ⟨rfl, ?_⟩))
local macro_rules | `(tactic| walk_at "w") => `(tactic| repeat (first | refine ⟨_, rfl, ?_⟩ | refine ⟨_, _, rfl, ?_⟩ | refine ⟨_, _, _, rfl, ?_⟩ | refine ⟨_, _, rfl, rfl, ?_⟩ | refine ⟨rfl, ?_⟩ | refine Or.inl ⟨_, rfl, ?_⟩ | refine ⟨_, _, rfl, .inr ⟨_, SqT.of (by assumption), rfl⟩, ?_⟩ | refine ⟨_, _, rfl, .inl ⟨_, SqL.of (by assumption), rfl⟩, ?_⟩ | refine ⟨_, _, _, _, rfl, rfl, SqT.of (by assumption), (by rfl), ?_⟩ | refine ⟨_, _, _, _, rfl, rfl, SqL.of (by assumption), (by rfl), ?_⟩ | refine ⟨_, _, _, _, rfl, rfl, SqL.of upd_same, (by rfl), ?_⟩ | refine ⟨_, _, _, _, rfl, rfl, (by assumption), (by rfl), ?_⟩ | refine ⟨_, _, _, _, rfl, rfl, upd_same, (by rfl), ?_⟩))
section
variable {P : Program} {w : World} {K : PySem.W.Frag} {mg : Str → Option Value} {base : Heap}
theorem PlanAt.ex {H H' : Hp} {p : Addr} {sg : Int} {r : M.Row} (h : PlanAt H p sg r) (x : Ex [] H H') : PlanAt H' p sg r := by
  obtain ⟨h1, h2, b, h3, h4⟩ := h
  exact ⟨h1, h2, b, x _ _ (by simp) h3, x _ _ (by simp) h4⟩
theorem sc__law_is_four : FnScope ["_law_plan_here", "_law_row", "_law_each"] ["_law_plan_here"] (defScope s__law_is_four) :=
  ⟨rfl, rfl, rfl, by decide +kernel, rfl, by decide +kernel, by decide +kernel⟩
theorem b__law_is_four {K : PySem.W.Frag} {x q : Str} {f : Addr} {fd : FuncData} (F : Fun K x q s__law_is_four f fd) : Binds K fd ["_law_plan_here"] [] := F.binds (fun _ _ _ _ _ _ us hl => match us, hl with | [_], _ => rfl)
def spIsFour : Sp := fun vs H Q _ => ∃ (p : Addr) (sg : Int) (r : M.Row), vs = [.ref p] ∧ PlanAt H p sg r ∧ ∀ H', Ex [] H H' → Q (.bl (decide (sg < 0) && r.four)) H'
def not4 (e : Int) : Bool := decide (e % 4 ≠ 0)
theorem not4_nil {r : M.Row} : ([r.e0 - 2, r.e1, r.e2, r.e3].filter not4 = []) ↔ r.four = true := by
  unfold M.Row.four not4
  rw [List.filter_eq_nil_iff]
  simp
  constructor
  · rintro ⟨a, b, c, d⟩
    exact ⟨⟨⟨a, b⟩, c⟩, d⟩
  · rintro ⟨⟨⟨a, b⟩, c⟩, d⟩
    exact ⟨a, b, c, d⟩
theorem take_filterI {l : List Int} {f : Int → Bool} {i : Nat} {k : Int} (h : l[i]? = some k) : (l.take (i + 1)).filter f = (l.take i).filter f ++ if f k = true then [k] else [] := by
  rw [List.take_add_one, h, List.filter_append]
  congr 1
  simp only [Option.toList_some, List.filter_cons, List.filter_nil]
theorem w__law_is_four (T : Tx K mg) : Can P w K mg base CX0 1 "_law_is_four" ["_law_plan_here"] spIsFour :=
  can0 T.d__law_is_four sc__law_is_four b__law_is_four (fun vs H Q E ⟨i, _, _, e, _⟩ => by rw [e]; rfl) fun f cdv A outer s H vs Q E hr ⟨p, sg, r, ev, ⟨hsg, ok, b, hp, hb⟩, q⟩ => by
  subst ev
  refine ⟨_, (pss_cons (ps_set (i := 1) sc__law_is_four.nd rfl (Or.inl rfl) (pe_op op_cat (pe_lst (pa_cons (pe_op op_sub (pe_ix ix_list (pe_ix ix_tup (pv 0) pe_int (fun _ _ => rfl)) pe_int (fun _ _ => rfl)) pe_int) pa_nil)) (pe_slice sl_list (pe_ix ix_tup (pv 0) pe_int (fun _ _ => rfl)) (po_some pe_int) po_none)))
    (pss_one (ps_ret (pe_and (pe_cmpR op_lt (pe_ix ix_tup (pv 0) pe_int (fun _ _ => rfl)) pe_int (nomark _)) (pe_one (pe_cmpR (op_eqE hr.units0) (pe_lc (own := [("_law_each", 2)]) (g := gName 2) (by rfl) sc__law_is_four.nd (pi_list (pv 1)) (blkOk_by (own := [("_law_each", 2)]) (N := ["_law_plan_here", "_law_row", "_law_each"]) (sc := defScope s__law_is_four) (by decide +kernel)) (fun _ _ _ _ _ => (pg_name (i := 2) sc__law_is_four.nd rfl (Or.inl rfl))) (fun _ _ _ _ _ => (pts_one (pt_cmpR op_ne (pe_op op_mod (pe_callTy call_int1 (by rfl) T.m_int (by decide +kernel) (pa_cons (pv 2) pa_nil)) pe_int) pe_int (nomark _)))) (fun _ _ _ _ _ => (pv 2))) (pe_lst pa_nil) (nomark _))))))), ?_⟩
  have h1000 : 1000 ≤ sizeLine := by decide
  walk_at "w"
  refine ⟨by show 1 ≤ sizeLine; omega, fun l1 n1 => ?_⟩
  have hp1 := fun o => upN (o := o) n1 hp
  have hb1 := fun o => upN (o := o) n1 hb
  refine ⟨_, rfl, _, _, _, _, rfl, rfl, SqT.of (hp1 _), rfl, _, rfl, _, _, rfl, SqL.of (hb1 _), fun l2 n2 => ?_⟩
  refine ⟨_, _, _, _, rfl, rfl, upN n2 upd_same, upd_same, by show 1 + 3 ≤ sizeLine; omega, fun l3 n3 => ?_⟩
  have hx3 : ∀ o, Ex [] H (upd _ l3 o) := fun o => ((Ex.new0 n1).new n2).new n3
  have hp3 := fun o => hx3 o _ _ (by simp) hp
  refine ⟨_, rfl, _, _, _, _, rfl, rfl, SqT.of (hp3 _), rfl, ?_⟩
  walk_at "w"
  refine ite2 (fun c => ?_) fun c => ?_
  · have c : sg < 0 := dT c
    refine ⟨_, rfl, l3, rfl, ⟨_, SqL.of upd_same⟩, fun D nD => lc_list (xs := [r.e0 - 2, r.e1, r.e2, r.e3].map V.int) (fun i H' => Ex [] H H' ∧ H' l3 = some (.lst ([r.e0 - 2, r.e1, r.e2, r.e3].map V.int)) ∧ H' D = some (.lst ((([r.e0 - 2, r.e1, r.e2, r.e3].take i).filter not4).map V.int)))
      ⟨(hx3 _).new nD, upN nD upd_same, upd_same⟩ (fun i H' _ h => SqL.of h.2.1) (fun i x H' hi ⟨hx, hl, hd⟩ => ?_) fun H' ⟨hx, hl, hd⟩ => ?_⟩
    · obtain ⟨e, hei, rfl⟩ := ints_get hi
      have hD3 : l3 ≠ D := fun z => by
        rw [← z, upd_same] at nD
        cases nD
      walk_at "w"
      refine ⟨by show (0 : Int) < 4; decide, ?_⟩
      walk_at "w"
      refine ite2 (fun d => ?_) fun d => ?_
      · have d : e % 4 ≠ 0 := fun z => by
          have d : (!decide (V.int (e % 4) = V.int 0)) = true := d
          rw [z] at d
          cases d
        walk_at "w"
        refine ⟨_, hd, ?_, hx.mut ?_, ?_, ?_⟩
        · rw [List.length_map]
          have h1 := List.length_filter_le not4 ([r.e0 - 2, r.e1, r.e2, r.e3].take i)
          have h2 := List.length_take_le' i [r.e0 - 2, r.e1, r.e2, r.e3]
          have h3 : [r.e0 - 2, r.e1, r.e2, r.e3].length = 4 := rfl
          omega
        · exact (hx3 _).none_back (by simp) nD
        · rw [upd_ne hD3]
          exact hl
        · rw [upd_same, take_filterI hei, if_pos (show not4 e = true from decide_eq_true d)]
          simp
      · have d : e % 4 = 0 := by
          rcases Int.decEq (e % 4) 0 with z | z
          · exfalso
            refine d ?_
            show (!decide (V.int (e % 4) = V.int 0)) = true
            rw [decide_eq_false (fun y => by injection y with y; exact z y)]
            rfl
          · exact z
        refine ⟨hx, hl, ?_⟩
        rw [hd, take_filterI hei, if_neg (by unfold not4; simp [d]), List.append_nil]
    · refine ⟨by show 0 ≤ sizeLine; omega, fun l4 n4 => ?_⟩
      refine ⟨_, _, _, _, rfl, rfl, .inl ⟨SqL.of (upN n4 hd), SqL.of upd_same⟩, .inr rfl, ?_⟩
      have e : ∀ o, Q (.bl (decide (sg < 0) && r.four)) (upd H' l4 o) := fun o => q _ (hx.new n4)
      rw [decide_eq_true c] at e
      rw [show (decide (((([r.e0 - 2, r.e1, r.e2, r.e3].take (([r.e0 - 2, r.e1, r.e2, r.e3].map V.int).length)).filter not4).map V.int) = []) != false) = (true && r.four) from ?_]
      · exact e _
      · show (decide (([r.e0 - 2, r.e1, r.e2, r.e3].filter not4).map V.int = []) != false) = r.four
        cases h : r.four with
        | true => rw [not4_nil.mpr h]; rfl
        | false =>
          rw [decide_eq_false (fun z => by rw [List.map_eq_nil_iff, not4_nil, h] at z; cases z)]
          rfl
  · have c : ¬ sg < 0 := dF c
    have e := fun o => q _ (hx3 o)
    rw [decide_eq_false c] at e
    exact e _
theorem sc__law_splits : FnScope ["_law_plan_here", "_law_upto", "_law_left", "_law_turn_here"] ["_law_plan_here", "_law_upto"] (defScope s__law_splits) :=
  ⟨rfl, rfl, rfl, by decide +kernel, rfl, by decide +kernel, by decide +kernel⟩
theorem b__law_splits {K : PySem.W.Frag} {x q : Str} {f : Addr} {fd : FuncData} (F : Fun K x q s__law_splits f fd) : Binds K fd ["_law_plan_here", "_law_upto"] [] := F.binds (fun _ _ _ _ _ _ us hl => match us, hl with | [_, _], _ => rfl)
theorem w__law_splits (T : Tx K mg) : Can P w K mg base CX0 3 "_law_splits" ["_law_plan_here", "_law_upto"] (fun vs H Q _ => ∃ (p : Addr) (sg : Int) (r : M.Row) (n : Nat), vs = [.ref p, .int n] ∧ PlanAt H p sg r ∧ 1 ≤ n ∧ n ≤ 10 ^ 30 ∧ ∀ H', Ex [] H H' → Q (.bl (M.splits sg r n)) H') :=
  can0 T.d__law_splits sc__law_splits b__law_splits (fun vs H Q E ⟨i, _, _, _, e, _⟩ => by rw [e]; rfl) fun f cdv A outer s H vs Q E hr ⟨p, sg, r, n, ev, pl, h1, h30, q⟩ => by
  subst ev
  have c__law_common := w__law_common (P := P) (w := w) (base := base) T
  have c__law_power := w__law_power (P := P) (w := w) (base := base) T
  have c__law_is_four := w__law_is_four (P := P) (w := w) (base := base) T
  obtain ⟨hsg, ok, b, hp, hb⟩ := id pl
  refine ⟨_, (pss_cons (ps_set (i := 2) sc__law_splits.nd rfl (Or.inl rfl) (pv 1))
    (pss_cons (ps_for PassesOwn.never (by rfl) (pi_range1 (by rfl) T.m_range (pa_cons (pe_ifExp (pt_cmpR op_lt (pe_ix ix_tup (pv 0) pe_int (fun _ _ => rfl)) pe_int (nomark _)) pe_int pe_int) pa_nil)) (pg_name (i := 3) sc__law_splits.nd rfl (Or.inl rfl)) (pss_one (ps_set (i := 2) sc__law_splits.nd rfl (Or.inl rfl) (pe_ifExp (pt_cmpR op_eq (pe_op op_mod (pe_callTy call_int1 (by rfl) T.m_int (by decide +kernel) (pa_cons (pv 2) pa_nil)) pe_int) pe_int (nomark _)) (pe_op op_fdiv (pv 2) pe_int) (pv 2)))))
    (pss_one (ps_ret (pe_or (pe_cmpR op_gt (pe_can c__law_common (hr.mono (by decide)) (by rfl) pass0 (pa_cons (pv 2) (pa_cons (pe_can c__law_power (hr.mono (by decide)) (by rfl) pass0 (pa_cons (pe_ix ix_tup (pv 0) pe_int (fun _ _ => rfl)) pa_nil)) pa_nil))) pe_int (nomark _)) (pe_one (pe_and (pe_cmpR op_eq (pe_op op_mod (pe_callTy call_int1 (by rfl) T.m_int (by decide +kernel) (pa_cons (pv 1) pa_nil)) pe_int) pe_int (nomark _)) (pe_one (pe_can c__law_is_four (hr.mono (by decide)) (by rfl) pass0 (pa_cons (pv 0) pa_nil)))))))))), ?_⟩
  have fin : ∀ x : Nat, x = M.part sg n → x = M.part sg n := fun _ z => z
  have ends : ∀ c : Bool, (1 < Nat.gcd (M.part sg n) r.g → c = true) → (¬ 1 < Nat.gcd (M.part sg n) r.g → c = (decide (n % 4 = 0) && (decide (sg < 0) && r.four))) → ∀ H', Ex [] H H' → Q (.bl c) H' := fun c h1 h2 H' hx => by
    have e := q H' hx
    unfold M.splits at e
    by_cases z : 1 < Nat.gcd (M.part sg n) r.g
    · rw [decide_eq_true z] at e
      rw [h1 z]
      exact e
    · rw [decide_eq_false z, Bool.false_or] at e
      rw [h2 z]
      exact e
  have hpart : M.halves (if sg < 0 then 100 else 0) n = M.part sg n := by
    unfold M.part
    split <;> rfl
  clear fin
  have hg := ok.g
  obtain ⟨hv, hv0, hvs, hvN⟩ : ∃ hv : Nat → Nat, hv 0 = n ∧ (∀ i, hv (i + 1) = M.halve (hv i)) ∧ hv (if sg < 0 then 100 else 0) = M.part sg n := ⟨fun i => M.halves i n, rfl, fun _ => rfl, hpart⟩
  clear hpart
  generalize M.part sg n = pt at ends hvN
  have loop : ∀ (j : Int) (k : Nat) (D : Ends), j.toNat = k → 0 ≤ j → j < 2 ^ 62 → (∀ t, D.nx [some (V.ref p), some (V.int n), some (V.int (hv k : Nat)), t] H) →
      ∃ W : Nat → Nat → L2.St → Hp → Prop, (∃ m, W 0 m [some (V.ref p), some (V.int n), some (V.int n), none] H) ∧ ∀ i m σ H, W i m σ H →
        ((Itr 0 j.toNat).stop i H ∧ D.nx σ H) ∨ ((Itr 0 j.toNat).go i H ∧ ∃ N : L2.St → Hp → Prop, (∀ σ' H', N σ' H' → ∃ m', m' < m ∧ W (i + 1) m' σ' H') ∧ ∀ x H', (Itr 0 j.toNat).yld i H x H' → (gName 3) x σ H' fun σ2 H2 => (tAsg (tIf (tTest (tOp rEq (tOp (rI (fun _ j => 0 < j) fun i j => V.int (i % j)) (tCB (fun xs H Q => (∃ i, xs = [V.int i] ∧ Q (V.int i) H) ∨ ∃ k, xs = [V.bl k] ∧ Q (V.int (if k then 1 else 0)) H) (tCons (tVar 2) tNil)) (tC (V.int 2))) (tC (V.int 0)))) (tOp (rI CDiv fun i j => V.int (i / j)) (tVar 2) (tC (V.int 2))) (tVar 2)) (gName 2)) { D with nx := N, ct := N, bk := D.nx } σ2 H2) := by
    intro j k D e h0 h62 hD
    subst e
    refine for_range (fun i σ H' => H' = H ∧ ∃ t, σ = [some (V.ref p), some (V.int n), some (V.int (hv i : Nat)), t]) ⟨rfl, none, by rw [hv0]⟩ (fun i σ H' hi h => ?_) fun σ H' h => ?_
    · obtain ⟨rfl, t, rfl⟩ := h
      have hvi := hvs i
      generalize hv i = x at hvi
      generalize hv (i + 1) = y at hvi
      subst hvi
      walk_at "w"
      refine ⟨by show (0 : Int) < 2; decide, ?_⟩
      walk_at "w"
      refine ite2 (fun c => ?_) fun c => ?_
      · have c : x % 2 = 0 := by have := intEq c; omega
        walk_at "w"
        refine ⟨⟨by decide, by decide⟩, rfl, some (V.int (0 + (i : Int))), ?_⟩
        unfold M.halve
        rw [if_pos c, Int.natCast_ediv]
        rfl
      · have c : x % 2 ≠ 0 := by have := intNe c; omega
        refine ⟨_, rfl, rfl, some (V.int (0 + (i : Int))), ?_⟩
        unfold M.halve
        rw [if_neg c]
        rfl
    · obtain ⟨rfl, t, rfl⟩ := h
      exact hD t
  have fin : ∀ (D : Ends) (hD : D.rt = Q) (t : Option V), (tRet (tOrV (tOp (rI0 fun i j => V.bl (decide (j < i))) (tCall spCommon [] E0 (tCons (tVar 2) (tCons (tCall spPower [] E0 (tCons (tOp (rIxT K) (tVar 0) (tC (V.int 1))) tNil)) tNil))) (tC (V.int 1)))
      (tAndV (tOp rEq (tOp (rI (fun _ j => 0 < j) fun i j => V.int (i % j)) (tCB (fun xs H Q => (∃ i, xs = [V.int i] ∧ Q (V.int i) H) ∨ ∃ k, xs = [V.bl k] ∧ Q (V.int (if k then 1 else 0)) H) (tCons (tVar 1) tNil)) (tC (V.int 4))) (tC (V.int 0))) (tCall spIsFour [] E0 (tCons (tVar 0) tNil))))) D [some (V.ref p), some (V.int n), some (V.int (pt : Nat)), t] H := by
    intro D hD t
    subst hD
    walk_at "w"
    refine ⟨_, r, rfl, hb, ok, ?_⟩
    walk_at "w"
    refine ⟨by rw [Int.natAbs_natCast]; omega, ?_⟩
    rw [Int.natAbs_natCast, Int.natAbs_natCast]
    walk_at "w"
    refine ite2 (fun c => ?_) fun c => ?_
    · have c : 1 < Nat.gcd pt r.g := by have := dT c; omega
      exact ends true (fun _ => rfl) (fun z => absurd c z) _ (Ex.refl _ _)
    · have c : ¬ 1 < Nat.gcd pt r.g := by have := dF c; omega
      have ends := fun c2 h2 => ends c2 (fun z => absurd z c) h2
      walk_at "w"
      refine ⟨by show (0 : Int) < 4; decide, ?_⟩
      walk_at "w"
      refine ite2 (fun d => ?_) fun d => ?_
      · have d : n % 4 = 0 := by have := intEq d; omega
        exact ⟨_, rfl, p, sg, r, rfl, pl, fun H' hx => ends _ (fun _ => by rw [decide_eq_true d]; rfl) _ hx⟩
      · have d : n % 4 ≠ 0 := by have := intNe d; omega
        exact ends false (fun _ => by rw [decide_eq_false d]; rfl) _ (Ex.refl _ _)
  rcases hsg with z | z
  · subst z
    rw [if_neg (by decide)] at hvN
    refine ⟨_, rfl, _, rfl, _, _, _, _, rfl, rfl, SqT.of hp, rfl, ?_⟩
    walk_at "g"
    refine ⟨by decide, by decide, loop 0 0 _ rfl (by decide) (by decide) fun t => ?_⟩
    rw [hvN]
    exact fin _ rfl t
  · subst z
    rw [if_pos (by decide)] at hvN
    refine ⟨_, rfl, _, rfl, _, _, _, _, rfl, rfl, SqT.of hp, rfl, ?_⟩
    walk_at "g"
    refine ⟨by decide, by decide, loop 100 100 _ rfl (by decide) (by decide) fun t => ?_⟩
    rw [hvN]
    exact fin _ rfl t
theorem sc__law_is_always : FnScope ["_law_plan_here", "_law_amount"] ["_law_plan_here"] (defScope s__law_is_always) :=
  ⟨rfl, rfl, rfl, by decide +kernel, rfl, by decide +kernel, by decide +kernel⟩
theorem b__law_is_always {K : PySem.W.Frag} {x q : Str} {f : Addr} {fd : FuncData} (F : Fun K x q s__law_is_always f fd) : Binds K fd ["_law_plan_here"] [] := F.binds (fun _ _ _ _ _ _ us hl => match us, hl with | [_], _ => rfl)
theorem w__law_is_always (T : Tx K mg) : Can P w K mg base CX0 3 "_law_is_always" ["_law_plan_here"] (fun vs H Q _ => ∃ (p : Addr) (sg : Int) (r : M.Row), vs = [.ref p] ∧ PlanAt H p sg r ∧ ∀ H', Ex [] H H' → Q (.bl (M.always sg r)) H') :=
  can0 T.d__law_is_always sc__law_is_always b__law_is_always (fun vs H Q E ⟨i, _, _, e, _⟩ => by rw [e]; rfl) fun f cdv A outer s H vs Q E hr ⟨p, sg, r, ev, pl, q⟩ => by
  subst ev
  have c__law_power := w__law_power (P := P) (w := w) (base := base) T
  have c__law_is_four := w__law_is_four (P := P) (w := w) (base := base) T
  obtain ⟨hsg, ok, b, hp, hb⟩ := id pl
  have hg := ok.g
  refine ⟨_, (pss_cons (ps_set (i := 1) sc__law_is_always.nd rfl (Or.inl rfl) (pe_can c__law_power (hr.mono (by decide)) (by rfl) pass0 (pa_cons (pe_ix ix_tup (pv 0) pe_int (fun _ _ => rfl)) pa_nil)))
    (pss_cons (ps_if (pt_cmpR op_gt (pe_ix ix_tup (pv 0) pe_int (fun _ _ => rfl)) pe_int (nomark _)) (pss_one (ps_ret (pe_cmpR op_eq (pv 1) pe_int (nomark _)))) pss_nil)
    (pss_one (ps_ret (pe_and (pe_cmpR op_in_seq (pv 1) (pe_lst (pa_cons pe_int (pa_cons pe_int (pa_cons pe_int (pa_cons pe_int (pa_cons pe_int (pa_cons pe_int (pa_cons pe_int pa_nil)))))))) (by rfl)) (pe_one (pe_not (pe_can c__law_is_four (hr.mono (by decide)) (by rfl) pass0 (pa_cons (pv 0) pa_nil))))))))), ?_⟩
  walk_at "w"
  refine ⟨_, r, rfl, hb, ok, ?_⟩
  walk_at "w"
  have e := fun H' (z : Ex [] H H') => q H' z
  unfold M.always at e
  refine ite2 (fun c => ?_) fun c => ?_
  · have c : 0 < sg := dT c
    rw [if_pos c] at e
    walk_at "w"
    have e1 := e _ (Ex.refl _ _)
    rw [show decide (r.g = 1) = decide (V.int ((r.g : Nat) : Int) = V.int 1) by
      by_cases z : r.g = 1
      · rw [z]; rfl
      · rw [decide_eq_false z, decide_eq_false (fun y => by injection y with y; omega)]] at e1
    exact e1
  · have c : ¬ 0 < sg := dF c
    rw [if_neg c] at e
    have c2 : sg < 0 := by omega
    walk_at "w"
    refine ⟨by show 7 ≤ sizeLine; decide, fun l nl => ?_⟩
    refine ⟨_, _, rfl, .inl (SqL.of upd_same), rfl, rfl, ?_⟩
    have hin : inV (V.int ((r.g : Nat) : Int)) [V.int 1, V.int 2, V.int 4, V.int 8, V.int 16, V.int 32, V.int 64] = decide (r.g = 1 ∨ r.g = 2 ∨ r.g = 4 ∨ r.g = 8 ∨ r.g = 16) := by
      generalize r.g = g at hg
      have : ∀ g : Nat, g < 19 → inV (V.int ((g : Nat) : Int)) [V.int 1, V.int 2, V.int 4, V.int 8, V.int 16, V.int 32, V.int 64] = decide (g = 1 ∨ g = 2 ∨ g = 4 ∨ g = 8 ∨ g = 16) := by decide
      exact this g (by omega)
    refine ⟨_, rfl, ?_⟩
    rw [show (if false = true then !inV (V.int ((r.g : Nat) : Int)) [V.int 1, V.int 2, V.int 4, V.int 8, V.int 16, V.int 32, V.int 64] else inV (V.int ((r.g : Nat) : Int)) [V.int 1, V.int 2, V.int 4, V.int 8, V.int 16, V.int 32, V.int 64]) = _ from (if_neg (by decide)).trans hin]
    refine ite2 (fun d => ?_) fun d => ?_
    · rw [d] at e
      refine ⟨_, rfl, p, sg, r, rfl, pl.ex (Ex.new0 nl), fun H' hx => ⟨_, rfl, ?_⟩⟩
      have e1 := e _ ((Ex.new0 nl).trans hx)
      rw [decide_eq_true c2]
      exact e1
    · have d : decide (r.g = 1 ∨ r.g = 2 ∨ r.g = 4 ∨ r.g = 8 ∨ r.g = 16) = false := by
        cases h : decide (r.g = 1 ∨ r.g = 2 ∨ r.g = 4 ∨ r.g = 8 ∨ r.g = 16) with
        | false => rfl
        | true => exact absurd h d
      rw [d] at e
      exact e _ (Ex.new0 nl)
theorem sc__law_some_n : FnScope ["_law_jug_here", "_law_some"] ["_law_jug_here"] (defScope s__law_some_n) :=
  ⟨rfl, rfl, rfl, by decide +kernel, rfl, by decide +kernel, by decide +kernel⟩
theorem b__law_some_n {K : PySem.W.Frag} {x q : Str} {f : Addr} {fd : FuncData} (F : Fun K x q s__law_some_n f fd) : Binds K fd ["_law_jug_here"] [] := F.binds (fun _ _ _ _ _ _ us hl => match us, hl with | [_], _ => rfl)
theorem w__law_some_n (T : Tx K mg) : Can P w K mg base CX0 3 "_law_some_n" ["_law_jug_here"] (fun vs H Q _ => ∃ j : Addr, vs = [.ref j] ∧ JugAt H j ∧ ∀ (n : Nat) H', 1 ≤ n → n ≤ 10 ^ 30 → Ex [j] H H' → JugAt H' j → Q (.int n) H') :=
  can0 T.d__law_some_n sc__law_some_n b__law_some_n (fun vs H Q E ⟨i, e, _⟩ => by rw [e]; rfl) fun f cdv A outer s H vs Q E hr ⟨j, ev, hj, q⟩ => by
  subst ev
  have c__law_pull := w__law_pull (P := P) (w := w) (base := base) T
  have c__law_one_of := w__law_one_of (P := P) (w := w) (base := base) T
  refine ⟨_, (pss_cons (ps_set (i := 1) sc__law_some_n.nd rfl (Or.inl rfl) (pe_lst (pa_cons (pe_op op_add pe_int (pe_can c__law_pull (hr.mono (by decide)) (by rfl) pass0 (pa_cons (pv 0) (pa_cons pe_int pa_nil)))) (pa_cons (pe_op op_add pe_int (pe_can c__law_pull (hr.mono (by decide)) (by rfl) pass0 (pa_cons (pv 0) (pa_cons pe_int pa_nil)))) (pa_cons (pe_op op_pow pe_int pe_int) (pa_cons (pe_op op_sub (pe_op op_pow pe_int pe_int) (pe_can c__law_pull (hr.mono (by decide)) (by rfl) pass0 (pa_cons (pv 0) (pa_cons pe_int pa_nil)))) (pa_cons (pe_op op_pow pe_int pe_int) (pa_cons (pe_op op_pow pe_int pe_int) pa_nil))))))))
    (pss_one (ps_ret (pe_can c__law_one_of (hr.mono (by decide)) (by rfl) pass0 (pa_cons (pv 0) (pa_cons (pe_op op_cat (pv 1) (pe_lst (pa_cons (pe_op op_add pe_int (pe_can c__law_pull (hr.mono (by decide)) (by rfl) pass0 (pa_cons (pv 0) (pa_cons (pe_op op_pow pe_int pe_int) pa_nil)))) (pa_cons (pe_op op_mul (pe_op op_pow pe_int pe_int) pe_int) (pa_cons (pe_op op_add pe_int (pe_can c__law_pull (hr.mono (by decide)) (by rfl) pass0 (pa_cons (pv 0) (pa_cons pe_int pa_nil)))) (pa_cons (pe_op op_mul pe_int (pe_op op_pow pe_int pe_int)) pa_nil)))))) pa_nil)))))), ?_⟩
  have h1000 : 1000 ≤ sizeLine := by decide
  walk_at "w"
  refine ⟨hj, by decide, by decide, fun k1 H1 hk1 hx1 hj1 => ?_⟩
  walk_at "w"
  refine ⟨hj1, by decide, by decide, fun k2 H2 hk2 hx2 hj2 => ?_⟩
  walk_at "w"
  refine ⟨⟨by decide, by decide, by decide⟩, ?_⟩
  walk_at "w"
  refine ⟨⟨by decide, by decide, by decide⟩, ?_⟩
  refine ⟨_, rfl, _, _, rfl, hj2, by decide, by decide, fun k3 H3 hk3 hx3 hj3 => ?_⟩
  refine ⟨_, _, rfl, rfl, ?_⟩
  refine ⟨_, _, rfl, rfl, ⟨by decide, by decide, by decide⟩, ?_⟩
  refine ⟨_, _, rfl, rfl, ⟨by decide, by decide, by decide⟩, ?_⟩
  refine ⟨by show 6 ≤ sizeLine; omega, fun l nl => ?_⟩
  have hj3' : ∀ o, JugAt (upd H3 l o) j := fun o => hj3.put nl
  refine ⟨_, rfl, _, rfl, _, rfl, _, _, rfl, rfl, ⟨by decide, by decide, by decide⟩, ?_⟩
  refine ⟨_, 10 ^ 9, rfl, hj3' _, by decide, by decide, fun k4 H4 hk4 hx4 hj4 => ?_⟩
  refine ⟨_, _, rfl, rfl, ?_⟩
  refine ⟨_, _, rfl, rfl, ⟨by decide, by decide, by decide⟩, ?_⟩
  refine ⟨_, _, rfl, rfl, .inr ⟨by decide, by decide⟩, ?_⟩
  refine ⟨_, rfl, _, 6, rfl, hj4, by decide, by decide, fun k5 H5 hk5 hx5 hj5 => ?_⟩
  refine ⟨_, _, rfl, rfl, ?_⟩
  refine ⟨_, _, rfl, rfl, ⟨by decide, by decide, by decide⟩, ?_⟩
  refine ⟨_, _, rfl, rfl, .inl ⟨by decide, by decide⟩, ?_⟩
  refine ⟨by show 4 ≤ sizeLine; omega, fun l2 nl2 => ?_⟩
  have hlj : l ≠ j := hj3.ne nl
  have hl5 := hx5 _ _ (by simpa using hlj) (hx4 _ _ (by simpa using hlj) upd_same)
  refine ⟨_, _, _, _, rfl, rfl, upN nl2 hl5, upd_same, by show 6 + 4 ≤ sizeLine; omega, fun l3 nl3 => ?_⟩
  have hk1 : k1 < 12 := hk1
  have hk2 : k2 < 60 := hk2
  have hk3 : k3 < 60 := hk3
  have hxx : ∀ o, Ex [j] H (upd _ l3 o) := fun o => (((((((hx1.trans hx2).trans hx3).new nl).trans hx4).trans hx5).new nl2).new nl3)
  have hjx : ∀ o, JugAt (upd _ l3 o) j := fun o => (hj5.put nl2).put nl3
  refine ⟨_, l3, _, rfl, hjx _, upd_same, (hj5.put nl2).ne nl3, by show 0 < 10; decide, by show 10 < 1000; decide, fun i x H6 hi hx6 hj6 => ?_⟩
  have hv : ∃ n : Nat, x = .int n ∧ 1 ≤ n ∧ n ≤ 10 ^ 30 := by
    rcases i with _ | _ | _ | _ | _ | _ | _ | _ | _ | _ | i
    · cases hi; exact ⟨1 + k1, by rw [Int.natCast_add]; rfl, by omega, by omega⟩
    · cases hi; exact ⟨1 + k2, by rw [Int.natCast_add]; rfl, by omega, by omega⟩
    · cases hi; exact ⟨10 ^ 30, rfl, by decide, by decide⟩
    · cases hi; exact ⟨10 ^ 30 - k3, by rw [Int.natCast_sub (by omega)]; rfl, by omega, by omega⟩
    · cases hi; exact ⟨2 ^ 60, rfl, by decide, by decide⟩
    · cases hi; exact ⟨3 ^ 40, rfl, by decide, by decide⟩
    · cases hi; exact ⟨1 + k4, by rw [Int.natCast_add]; rfl, by omega, by omega⟩
    · cases hi; exact ⟨5 ^ 20 * 7, rfl, by decide, by decide⟩
    · cases hi; exact ⟨1 + k5, by rw [Int.natCast_add]; rfl, by omega, by omega⟩
    · cases hi; exact ⟨4 * 11 ^ 9, rfl, by decide, by decide⟩
    · cases hi
  obtain ⟨n, rfl, h1, h2⟩ := hv
  exact q n _ h1 h2 ((hxx _).trans hx6) hj6
theorem sc__law_kind : FnScope ["_law_plan_here", "_law_many", "_law_primes_here", "_law_each"] ["_law_plan_here"] (defScope s__law_kind) :=
  ⟨rfl, rfl, rfl, by decide +kernel, rfl, by decide +kernel, by decide +kernel⟩
theorem b__law_kind {K : PySem.W.Frag} {x q : Str} {f : Addr} {fd : FuncData} (F : Fun K x q s__law_kind f fd) : Binds K fd ["_law_plan_here"] [] := F.binds (fun _ _ _ _ _ _ us hl => match us, hl with | [_], _ => rfl)
def LKindAt (H : Hp) (q : Addr) (sg : Int) (r : M.Row) : Prop := ∃ v, H q = some (.lst [.int sg, v, .bl (decide (sg < 0) && r.four)]) ∧ ((r.g = 0 ∧ v = .str "all") ∨ (r.g ≠ 0 ∧ ∃ b, v = .ref b ∧ H b = some (.lst (intsN (M.primesOf sg r.g)))))
theorem LKindAt.ex {H H' : Hp} {p : Addr} {sg : Int} {r : M.Row} (h : LKindAt H p sg r) (x : Ex [] H H') : LKindAt H' p sg r := by
  obtain ⟨q, h1, h2⟩ := h
  refine ⟨q, x _ _ (by simp) h1, ?_⟩
  rcases h2 with h2 | ⟨h2, b, h3, h4⟩
  · exact .inl h2
  · exact .inr ⟨h2, b, h3, x _ _ (by simp) h4⟩
theorem w__law_kind (T : Tx K mg) : Can P w K mg base CX0 3 "_law_kind" ["_law_plan_here"] (fun vs H Q _ => ∃ (p : Addr) (sg : Int) (r : M.Row), vs = [.ref p] ∧ PlanAt H p sg r ∧ ∀ q H', Ex [] H H' → LKindAt H' q sg r → Q (.ref q) H') :=
  can0 T.d__law_kind sc__law_kind b__law_kind (fun vs H Q E ⟨i, _, _, e, _⟩ => by rw [e]; rfl) fun f cdv A outer s H vs Q E hr ⟨p, sg, r, ev, pl, q⟩ => by
  subst ev
  have c__law_power := w__law_power (P := P) (w := w) (base := base) T
  have c__law_is_four := w__law_is_four (P := P) (w := w) (base := base) T
  obtain ⟨hsg, ok, b, hp, hb⟩ := id pl
  have hg := ok.g
  refine ⟨_, (pss_cons (ps_par (i := 1) (j := 2) (by rfl) sc__law_kind.nd rfl rfl (by decide) rfl rfl (pa_cons (pe_can c__law_power (hr.mono (by decide)) (by rfl) pass0 (pa_cons (pe_ix ix_tup (pv 0) pe_int (fun _ _ => rfl)) pa_nil)) (pa_cons (pe_lst pa_nil) pa_nil)) (by rfl))
    (pss_cons (ps_for PassesOwn.never (by rfl) (pi_list (pe_lst (pa_cons pe_int (pa_cons pe_int (pa_cons pe_int (pa_cons pe_int (pa_cons pe_int (pa_cons pe_int (pa_cons pe_int (pa_cons pe_int (pa_cons pe_int (pa_cons pe_int (pa_cons pe_int pa_nil))))))))))))) (pg_name (i := 3) sc__law_kind.nd rfl (Or.inl rfl)) (pss_one (ps_if (PW.pt (pw_and (pt_cmpR op_gt (pv 1) pe_int (nomark _)) (pw_and (pt_cmpR op_eq (pe_op op_mod (pe_callTy call_int1 (by rfl) T.m_int (by decide +kernel) (pa_cons (pv 1) pa_nil)) (pv 3)) pe_int (nomark _)) (pw_and1 (PW.pt (pw_or (pt_cmpR op_gt (pe_ix ix_tup (pv 0) pe_int (fun _ _ => rfl)) pe_int (nomark _)) (pw_or1 (pt_cmpR op_gt (pv 3) pe_int (nomark _))))))))) (pss_one (ps_expr (pe_bm PySem.F.plainAttrs_list PySem.F.slot_list_append PySem.F.type_list_append mt_append (pv 2) (pa_cons (pv 3) pa_nil)))) pss_nil)))
    (pss_one (ps_ret (pe_lst (pa_cons (pe_ix ix_tup (pv 0) pe_int (fun _ _ => rfl)) (pa_cons (pe_ifExp (pt_cmpR op_gt (pv 1) pe_int (nomark _)) (pv 2) pe_str) (pa_cons (pe_can c__law_is_four (hr.mono (by decide)) (by rfl) pass0 (pa_cons (pv 0) pa_nil)) pa_nil)))))))), ?_⟩
  have h1000 : 1000 ≤ sizeLine := by decide
  walk_at "w"
  refine ⟨_, r, rfl, hb, ok, ?_⟩
  refine ⟨by show 0 ≤ sizeLine; omega, fun l nl => ?_⟩
  walk_at "w"
  refine ⟨by show 11 ≤ sizeLine; omega, fun l2 nl2 => ?_⟩
  have hll : l2 ≠ l := fun z => by
    rw [z, upd_same] at nl2
    cases nl2
  generalize hps : (fun g p => decide (g % p = 0) && (decide (0 < sg) || decide (2 < p)) : Nat → Nat → Bool) = fp
  have hfp : ∀ g p, fp g p = (decide (g % p = 0) && (decide (0 < sg) || decide (2 < p))) := fun g p => by rw [← hps]
  have hprimes : M.primesOf sg r.g = M.ps11.filter (fp r.g) := by rw [← hps]; rfl
  refine ⟨_, rfl, ⟨_, SqL.of upd_same⟩, for_list (xs := intsN M.ps11) (fun i σ H' => Ex [] H H' ∧ H' l2 = some (.lst (intsN M.ps11)) ∧ ∃ ls t, σ = [some (.ref p), some (.int (r.g : Nat)), some (.ref l), t] ∧ H' l = some (.lst (intsN ls)) ∧ ls.length ≤ i ∧ (r.g ≠ 0 → ls = (M.ps11.take i).filter (fp r.g)))
    ⟨(Ex.new0 nl).new nl2, upd_same, [], none, rfl, upN nl2 upd_same, Nat.le_refl _, fun _ => rfl⟩ (fun i σ H' _ h => SqL.of h.2.1) ?_ ?_⟩
  · rintro i x σ H' hi ⟨hx, hl2, ls, t, rfl, hl, hlen, hls⟩
    obtain ⟨k, hk, rfl⟩ := intsN_get hi
    have hp1 := hx _ _ (by simp) hp
    have hk2 : 2 ≤ k := by
      have : ∀ x ∈ M.ps11, 2 ≤ x := by decide
      exact this k (List.mem_of_getElem? hk)
    have hi11 : i < 11 := (List.getElem?_eq_some_iff.mp hk).1
    have yes : fp r.g k = true → ∃ l3 xs y, V.ref l = .ref l3 ∧ [V.int (k : Nat)] = [y] ∧ H' l3 = some (.lst xs) ∧ xs.length < sizeLine ∧ (Ex [] H (upd H' l3 (.lst (xs ++ [y]))) ∧ upd H' l3 (.lst (xs ++ [y])) l2 = some (.lst (intsN M.ps11)) ∧ ∃ ls t, [some (V.ref p), some (V.int (r.g : Nat)), some (V.ref l), some (V.int (k : Nat))] = [some (V.ref p), some (.int (r.g : Nat)), some (.ref l), t] ∧ upd H' l3 (.lst (xs ++ [y])) l = some (.lst (intsN ls)) ∧ ls.length ≤ i + 1 ∧ (r.g ≠ 0 → ls = (M.ps11.take (i + 1)).filter (fp r.g))) := fun z =>
      ⟨l, _, _, rfl, rfl, hl, by rw [intsN, List.length_map]; omega, hx.mut nl, by rw [upd_ne hll]; exact hl2, ls ++ [k], _, rfl, by rw [upd_same]; simp [intsN], by simp; exact hlen, fun g0 => by rw [take_filter hk, if_pos z, hls g0]⟩
    have no : fp r.g k = false ∨ r.g = 0 → Ex [] H H' ∧ H' l2 = some (.lst (intsN M.ps11)) ∧ ∃ ls t, [some (V.ref p), some (V.int (r.g : Nat)), some (V.ref l), some (V.int (k : Nat))] = [some (V.ref p), some (V.int (r.g : Nat)), some (V.ref l), t] ∧ H' l = some (.lst (intsN ls)) ∧ ls.length ≤ i + 1 ∧ (r.g ≠ 0 → ls = (M.ps11.take (i + 1)).filter (fp r.g)) := fun z =>
      ⟨hx, hl2, ls, _, rfl, hl, by omega, fun g0 => by
        rcases z with z | z
        · rw [take_filter hk, if_neg (by rw [z]; decide), List.append_nil]
          exact hls g0
        · exact absurd z g0⟩
    walk_at "g"
    refine ite2 (fun c => ?_) fun c => ?_
    · have c : r.g ≠ 0 := by have := dT c; omega
      refine ⟨_, rfl, Or.inl ⟨_, rfl, ?_⟩⟩
      refine ⟨_, rfl, ?_⟩
      refine ⟨_, _, rfl, rfl, by show (0 : Int) < k; omega, ?_⟩
      refine ⟨rfl, _, rfl, ?_⟩
      refine ite2 (fun d => ?_) fun d => ?_
      · have d : r.g % k = 0 := by have := intEq d; omega
        refine ⟨_, rfl, _, _, _, _, rfl, rfl, SqT.of hp1, rfl, ?_⟩
        refine ⟨_, _, rfl, rfl, _, rfl, ?_⟩
        refine ite2 (fun e => ?_) fun e => ?_
        · refine ⟨_, rfl, .inl ⟨rfl, _, SqL.of hl⟩, _, rfl, yes ?_⟩
          rw [hfp, decide_eq_true d, e]
          rfl
        · refine ⟨_, rfl, _, _, rfl, rfl, _, rfl, ?_⟩
          refine ite2 (fun e2 => ?_) fun e2 => ?_
          · refine ⟨_, rfl, .inl ⟨rfl, _, SqL.of hl⟩, _, rfl, yes ?_⟩
            rw [hfp, decide_eq_true d, decide_eq_true (show 2 < k by have := dT e2; omega)]
            simp
          · refine no (.inl ?_)
            rw [hfp, decide_eq_true d, decide_eq_false (show ¬ 2 < k by have := dF e2; omega), decide_eq_false (dF e)]
            rfl
      · refine no (.inl ?_)
        have d : r.g % k ≠ 0 := by have := intNe d; omega
        rw [hfp, decide_eq_false d]
        rfl
    · exact no (.inr (by have := dF c; omega))
  · rintro σ H' ⟨hx, hl2, ls, t, rfl, hl, hlen, hls⟩
    have hp1 := hx _ _ (by simp) hp
    refine ⟨_, rfl, _, _, _, _, rfl, rfl, SqT.of hp1, rfl, ?_⟩
    have hlen11 : (intsN M.ps11).length = 11 := rfl
    have end_ : ∀ v : V, ((r.g = 0 ∧ v = .str "all") ∨ (r.g ≠ 0 ∧ v = .ref l)) → tCons (tCall spIsFour [] E0 (tCons (tVar 0) tNil)) tNil [some (.ref p), some (.int (r.g : Nat)), some (.ref l), t] H' (fun xs H2 => (V.int sg :: v :: xs).length ≤ sizeLine ∧ ∀ p, H2 p = none → Q (.ref p) (upd H2 p (.lst (V.int sg :: v :: xs)))) := fun v hv => by
      refine ⟨_, rfl, p, sg, r, rfl, pl.ex hx, fun H2 hx2 => ⟨by show 3 ≤ sizeLine; omega, fun q2 nq2 => ?_⟩⟩
      refine q q2 _ ((hx.trans hx2).new nq2) ⟨v, upd_same, ?_⟩
      rcases hv with hv | ⟨hv, e⟩
      · exact .inl hv
      · refine .inr ⟨hv, l, e, upN nq2 (hx2 _ _ (by simp) ?_)⟩
        rw [hl, hls hv, hprimes]
        rfl
    refine ⟨_, rfl, _, _, rfl, rfl, _, rfl, ?_⟩
    refine ite2 (fun c => ?_) fun c => ?_
    · exact ⟨_, rfl, end_ _ (.inr ⟨by have := dT c; omega, rfl⟩)⟩
    · exact end_ _ (.inl ⟨by have := dF c; omega, rfl⟩)
end
end G
-- Xw
set_option pp.maxSteps 800
set_option Elab.async false
set_option linter.all false
set_option maxRecDepth 100000
set_option maxHeartbeats 800000
namespace G
open PySem PySem.Spec PyProof.Rows L2 LamX NdefX
local macro_rules | `(tactic| walk_at "g") => `(tactic| repeat (first | refine ⟨_, rfl, ?_⟩ | refine ⟨_, _, rfl, ?_⟩ | refine ⟨_, _, _, rfl, ?_⟩ | refine ⟨_, _, rfl, rfl, ?_⟩ | refine ⟨rfl, ?_⟩))
local macro_rules | `(tactic| walk_at "w") => `(tactic| repeat (first | refine ⟨_, rfl, ?_⟩ | refine ⟨_, _, rfl, ?_⟩ | refine ⟨_, _, _, rfl, ?_⟩ | refine ⟨_, _, rfl, rfl, ?_⟩ | refine ⟨rfl, ?_⟩ | refine Or.inl ⟨_, rfl, ?_⟩ | refine ⟨_, _, rfl, .inr ⟨_, SqT.of (by assumption), rfl⟩, ?_⟩ | refine ⟨_, _, rfl, .inl ⟨_, SqL.of (by assumption), rfl⟩, ?_⟩ | refine ⟨_, _, _, _, rfl, rfl, SqT.of (by assumption), (by rfl), ?_⟩ | refine ⟨_, _, _, _, rfl, rfl, SqL.of (by assumption), (by rfl), ?_⟩ | refine ⟨_, _, _, _, rfl, rfl, SqL.of upd_same, (by rfl), ?_⟩ | refine ⟨_, _, _, _, rfl, rfl, (by assumption), (by rfl), ?_⟩ | refine ⟨_, _, _, _, rfl, rfl, upd_same, (by rfl), ?_⟩))
section
variable {P : Program} {w : World} {K : PySem.W.Frag} {mg : Str → Option Value} {base : Heap}
end
theorem ix_kd {X : Cx} {d : Addr} {es : Array DictEntry} {n : Nat} (D : KDict X.K X.w d es n) : IxR X (fun x y H Q => ∃ (z : Str) (u0 : Value) (v0 : V), x = .ref d ∧ y = .str z ∧ PySem.W.nsIn X.K d z = some (some u0) ∧ RelV v0 u0 ∧ Q v0 H) := by
  intro value slice pins s σ H x y v u Q I rx ry h hs
  have h2 := h
  obtain ⟨z, u0, v0, ex, ey, e, r, q⟩ := h
  subst ex ey
  have rx' : v = Value.ref d := rx
  subst rx'
  exact tail_any (kd_type D I) PySem.F.slot_dict_getitem.lookup (op_item_kd D pins s σ H _ _ _ _ Q I rx ry h2) hs
inductive Wish where
  | always (t : Str)
  | alike (t u : Str)
  | num (sp : Bool) (t : Str) (n : Nat)
def Wish.word : Wish → Str
  | .always _ => "always"
  | .alike _ _ => "alike"
  | .num true _ _ => "splits"
  | .num false _ _ => "whole"
def Wish.one : Wish → Str
  | .always t => t
  | .alike t _ => t
  | .num _ t _ => t
def Wish.names : Wish → List Str
  | .always t => [t]
  | .alike t u => [t, u]
  | .num _ t _ => [t]
def Wish.rest : Wish → List V
  | .always _ => []
  | .alike _ u => [.str u]
  | .num _ _ n => [.int n]
def Wish.vs (w : Wish) : List V := .str w.word :: .str w.one :: w.rest
def Title (z : Str) : Prop := z = "a" ∨ z = "main" ∨ z = "zz"
def Wish.Ok : Wish → Prop
  | .always t => Title t
  | .alike t u => Title t ∧ Title u
  | .num _ t n => Title t ∧ 1 ≤ n ∧ n ≤ 10 ^ 30
def WishAt (H : Hp) (p : Addr) (w : Wish) : Prop := H p = some (.tup w.vs) ∧ w.Ok
theorem WishAt.keep {H H' : Hp} {p : Addr} {w : Wish} {Ms : List Addr} (h : WishAt H p w) (x : Ex Ms H H') (n : p ∉ Ms) : WishAt H' p w := ⟨x _ _ n h.1, h.2⟩
theorem WishAt.ex {H H' : Hp} {p : Addr} {w : Wish} (h : WishAt H p w) (x : Ex [] H H') : WishAt H' p w := h.keep x (by simp)
/-- a shelf: titles with signs and rows, in order -/
abbrev Shelf : Type := List (Str × Int × M.Row)
def getS (S : Shelf) (t : Str) : Option (Int × M.Row) := (S.find? fun e => decide (e.1 = t)).map (·.2)
/-- what is alike -/
def kp (sg : Int) (r : M.Row) : Option (List Nat) := if r.g = 0 then none else some (M.primesOf sg r.g)
def kEq (a b : Int × M.Row) : Bool := decide (a.1 = b.1 ∧ kp a.1 a.2 = kp b.1 b.2 ∧ (decide (a.1 < 0) && a.2.four) = (decide (b.1 < 0) && b.2.four))
def ans (S : Shelf) : Wish → Bool
  | .always t => match getS S t with
    | some (sg, r) => M.always sg r
    | none => false
  | .alike t u => match getS S t, getS S u with
    | some a, some b => kEq a b
    | _, _ => false
  | .num sp t n => match getS S t with
    | some (sg, r) => M.splits sg r n == sp
    | none => false
def ItemsAt (F : Hp → Addr → Int → M.Row → Prop) (H : Hp) (kvs : List (Key × V)) (S : Shelf) : Prop := Paired (fun kv e => ∃ p, kv = ((Sum.inr e.1 : Key), V.ref p) ∧ F H p e.2.1 e.2.2) kvs S
def DictAt (F : Hp → Addr → Int → M.Row → Prop) (H : Hp) (d : Addr) (S : Shelf) : Prop := ∃ kvs, H d = some (.dK kvs) ∧ ItemsAt F H kvs S
theorem ItemsAt.get {F : Hp → Addr → Int → M.Row → Prop} {H : Hp} {t : Str} : ∀ {kvs : List (Key × V)} {S : Shelf}, ItemsAt F H kvs S →
    (getS S t = none ∧ valV kvs (Sum.inr t : Key) = none) ∨ ∃ p sg r, getS S t = some (sg, r) ∧ valV kvs (Sum.inr t : Key) = some (.ref p) ∧ F H p sg r
  | _, _, .nil => .inl ⟨rfl, rfl⟩
  | _, _, .cons (a := kv) (b := e) ⟨p, e1, f⟩ rest => by
    subst e1
    obtain ⟨n, sg, r⟩ := e
    unfold getS valV
    by_cases h : n = t
    · subst h
      refine .inr ⟨p, sg, r, ?_, ?_, f⟩
      · simp
      · simp
    · have ih := ItemsAt.get (t := t) rest
      unfold getS valV at ih
      rw [List.find?_cons_of_neg (by simp [h]), List.find?_cons_of_neg (by simp [h])]
      exact ih
theorem ItemsAt.mono {F : Hp → Addr → Int → M.Row → Prop} {H H' : Hp} {kvs : List (Key × V)} {S : Shelf} (h : ItemsAt F H kvs S) (f : ∀ p sg r, F H p sg r → F H' p sg r) : ItemsAt F H' kvs S :=
  Paired.mapP h fun kv e ⟨p, e1, z⟩ => ⟨p, e1, f _ _ _ z⟩
theorem ItemsAt.len {F : Hp → Addr → Int → M.Row → Prop} {H : Hp} {kvs : List (Key × V)} {S : Shelf} (h : ItemsAt F H kvs S) : kvs.length = S.length := Paired.length h
theorem DictAt.ex {F : Hp → Addr → Int → M.Row → Prop} {H H' : Hp} {d : Addr} {S : Shelf} (h : DictAt F H d S) (x : Ex [] H H') (f : ∀ p sg r, F H p sg r → F H' p sg r) : DictAt F H' d S := by
  obtain ⟨kvs, h1, h2⟩ := h
  exact ⟨kvs, x _ _ (by simp) h1, h2.mono f⟩
abbrev NumsAt := DictAt Num
abbrev ShelfAt := DictAt PlanAt
theorem DictAt.keys {F : Hp → Addr → Int → M.Row → Prop} {H : Hp} {d : Addr} {S : Shelf} (h : DictAt F H d S) (t : Str) :
    (getS S t = none ∧ DGet H d (.str t) none) ∨ ∃ p sg r, getS S t = some (sg, r) ∧ DGet H d (.str t) (some (.ref p)) ∧ F H p sg r := by
  obtain ⟨kvs, h1, h2⟩ := h
  rcases h2.get (t := t) with ⟨a, b⟩ | ⟨p, sg, r, a, b, c⟩
  · exact .inl ⟨a, by have e := DGet.k (k := Sum.inr t) h1; rw [b] at e; exact e⟩
  · exact .inr ⟨p, sg, r, a, by have e := DGet.k (k := Sum.inr t) h1; rw [b] at e; exact e, c⟩
/-! the kinds, compared -/
def intD (l : List Nat) : List PyData := l.map fun k => .int (k : Nat)
theorem eqv_ints : ∀ (a b : List Nat), PyData.eqvAll (intD a) (intD b) = decide (a = b)
  | [], [] => by unfold intD; simp [PyData.eqvAll]
  | [], y :: b => by unfold intD; simp [PyData.eqvAll]
  | x :: a, [] => by unfold intD; simp [PyData.eqvAll]
  | x :: a, y :: b => by
    have ih := eqv_ints a b
    unfold intD at ih ⊢
    simp only [List.map_cons, PyData.eqvAll, PyData.eqv, ih]
    by_cases h : x = y
    · subst h
      simp
    · have h2 : ((x : Nat) : Int) ≠ ((y : Nat) : Int) := by omega
      simp [h]
      intro z
      omega
theorem lay_ints : ∀ a : List Nat, PyData.canLayAll0 (intD a) = true
  | [] => by simp [intD, PyData.canLayAll0]
  | x :: a => by
    have ih := lay_ints a
    unfold intD at ih ⊢
    simp [PyData.canLayAll0, PyData.canLay0, ih]
theorem dpAll_ints {K : PySem.W.Frag} {H : Hp} : ∀ a : List Nat, DpAll K H (intsN a) (intD a)
  | [] => .nil
  | x :: a => .cons (.int _) (dpAll_ints a)
def kindP (sg : Int) (r : M.Row) : PyData := if r.g = 0 then .str "all" else .tuple (intD (M.primesOf sg r.g))
def lkindP (sg : Int) (r : M.Row) : PyData := if r.g = 0 then .str "all" else .list (intD (M.primesOf sg r.g))
def kindD (sg : Int) (r : M.Row) : PyData := .tuple [.int sg, kindP sg r, .bool (decide (sg = -1 ∧ r.four = true))]
def lkindD (sg : Int) (r : M.Row) : PyData := .list [.int sg, lkindP sg r, .bool (decide (sg < 0) && r.four)]
theorem KindAt.dp {H : Hp} {p : Addr} {sg : Int} {r : M.Row} {K : PySem.W.Frag} (h : KindAt H p sg r) : Dp K H (.ref p) (kindD sg r) := by
  obtain ⟨q, h1, h2⟩ := h
  refine .tup (SqT.of h1) (.cons (.int _) (.cons ?_ (.cons (.bl _) .nil)))
  unfold kindP
  rcases h2 with ⟨h2, rfl⟩ | ⟨h2, b, rfl, h3⟩
  · rw [if_pos h2]
    exact .str _
  · rw [if_neg h2]
    exact .tup (SqT.of h3) (dpAll_ints _)
theorem LKindAt.dp {H : Hp} {p : Addr} {sg : Int} {r : M.Row} {K : PySem.W.Frag} (h : LKindAt H p sg r) : Dp K H (.ref p) (lkindD sg r) := by
  obtain ⟨q, h1, h2⟩ := h
  refine .lst (SqL.of h1) (.cons (.int _) (.cons ?_ (.cons (.bl _) .nil)))
  unfold lkindP
  rcases h2 with ⟨h2, rfl⟩ | ⟨h2, b, rfl, h3⟩
  · rw [if_pos h2]
    exact .str _
  · rw [if_neg h2]
    exact .lst (SqL.of h3) (dpAll_ints _)
theorem depth_ints : ∀ a : List Nat, PyData.depthAll (intD a) ≤ 1
  | [] => by simp [intD, PyData.depthAll]
  | x :: a => by
    have ih := depth_ints a
    unfold intD at ih ⊢
    simp [PyData.depthAll, PyData.depth]
    exact ih
theorem kindP_ok (sg : Int) (r : M.Row) : PyData.canLay0 (kindP sg r) = true ∧ PyData.depth (kindP sg r) ≤ 2 := by
  unfold kindP
  have h1 := lay_ints (M.primesOf sg r.g)
  have h2 := depth_ints (M.primesOf sg r.g)
  split
  · exact ⟨by unfold PyData.canLay0; decide +kernel, by simp [PyData.depth]⟩
  · exact ⟨by unfold PyData.canLay0; exact h1, by simp only [PyData.depth]; omega⟩
theorem lkindP_ok (sg : Int) (r : M.Row) : PyData.canLay0 (lkindP sg r) = true ∧ PyData.depth (lkindP sg r) ≤ 2 := by
  unfold lkindP
  have h1 := lay_ints (M.primesOf sg r.g)
  have h2 := depth_ints (M.primesOf sg r.g)
  split
  · exact ⟨by unfold PyData.canLay0; decide +kernel, by simp [PyData.depth]⟩
  · exact ⟨by unfold PyData.canLay0; exact h1, by simp only [PyData.depth]; omega⟩
theorem kind_shaped (sg : Int) (r : M.Row) : SeqAt.shaped (kindD sg r) = true := by
  obtain ⟨h1, h2⟩ := kindP_ok sg r
  unfold SeqAt.shaped kindD
  simp only [PyData.canLay0, PyData.canLayAll0, PyData.depth, PyData.depthAll, h1, Bool.and_true, Bool.true_and]
  exact decide_eq_true (by omega)
theorem lkind_shaped (sg : Int) (r : M.Row) : SeqAt.shaped (lkindD sg r) = true := by
  obtain ⟨h1, h2⟩ := lkindP_ok sg r
  unfold SeqAt.shaped lkindD
  simp only [PyData.canLay0, PyData.canLayAll0, PyData.depth, PyData.depthAll, h1, Bool.and_true, Bool.true_and]
  exact decide_eq_true (by omega)
theorem kind_bool {sg : Int} {r : M.Row} (h : sg = 1 ∨ sg = -1) : decide (sg = -1 ∧ r.four = true) = (decide (sg < 0) && r.four) := by
  rcases h with e | e <;> subst e <;> cases r.four <;> rfl
theorem eqv_kp {a b : Int × M.Row} : PyData.eqv (kindP a.1 a.2) (kindP b.1 b.2) = decide (kp a.1 a.2 = kp b.1 b.2) := by
  unfold kindP kp
  by_cases h1 : a.2.g = 0 <;> by_cases h2 : b.2.g = 0
  · rw [if_pos h1, if_pos h2, if_pos h1, if_pos h2]
    simp [PyData.eqv]
  · rw [if_pos h1, if_neg h2, if_pos h1, if_neg h2]
    simp [PyData.eqv]
  · rw [if_neg h1, if_pos h2, if_neg h1, if_pos h2]
    simp [PyData.eqv]
  · rw [if_neg h1, if_neg h2, if_neg h1, if_neg h2]
    simp only [PyData.eqv, eqv_ints]
    simp
theorem eqv_lkp {a b : Int × M.Row} : PyData.eqv (lkindP a.1 a.2) (lkindP b.1 b.2) = decide (kp a.1 a.2 = kp b.1 b.2) := by
  unfold lkindP kp
  by_cases h1 : a.2.g = 0 <;> by_cases h2 : b.2.g = 0
  · rw [if_pos h1, if_pos h2, if_pos h1, if_pos h2]
    simp [PyData.eqv]
  · rw [if_pos h1, if_neg h2, if_pos h1, if_neg h2]
    simp [PyData.eqv]
  · rw [if_neg h1, if_pos h2, if_neg h1, if_pos h2]
    simp [PyData.eqv]
  · rw [if_neg h1, if_neg h2, if_neg h1, if_neg h2]
    simp only [PyData.eqv, eqv_ints]
    simp
theorem three (p q r : Bool) (P Q R : Prop) [Decidable P] [Decidable Q] [Decidable R] (h1 : p = decide P) (h2 : q = decide Q) (h3 : r = decide R) : (p && (q && (r && true))) = decide (P ∧ Q ∧ R) := by
  subst h1 h2 h3
  by_cases P <;> by_cases Q <;> by_cases R <;> simp_all
theorem eqv_kind {a b : Int × M.Row} (ha : a.1 = 1 ∨ a.1 = -1) (hb : b.1 = 1 ∨ b.1 = -1) : PyData.eqv (kindD a.1 a.2) (kindD b.1 b.2) = kEq a b := by
  unfold kindD kEq
  rw [kind_bool ha, kind_bool hb]
  simp only [PyData.eqv, PyData.eqvAll]
  exact three _ _ _ _ _ _ (by by_cases h : a.1 = b.1 <;> simp [h]) eqv_kp (by cases (decide (a.1 < 0) && a.2.four) <;> cases (decide (b.1 < 0) && b.2.four) <;> rfl)
theorem eqv_lkind {a b : Int × M.Row} : PyData.eqv (lkindD a.1 a.2) (lkindD b.1 b.2) = kEq a b := by
  unfold lkindD kEq
  simp only [PyData.eqv, PyData.eqvAll]
  exact three _ _ _ _ _ _ (by by_cases h : a.1 = b.1 <;> simp [h]) eqv_lkp (by cases (decide (a.1 < 0) && a.2.four) <;> cases (decide (b.1 < 0) && b.2.four) <;> rfl)
section
end
end G
-- Wh
set_option pp.maxSteps 800
set_option Elab.async false
set_option linter.all false
set_option maxRecDepth 100000
set_option maxHeartbeats 800000
namespace G
open PySem PySem.Spec PyProof.Rows L2 LamX NdefX
local macro_rules | `(tactic| walk_at "g") => `(tactic| repeat (first | refine ⟨_, rfl, ?_⟩ | refine ⟨_, _, rfl, ?_⟩ | refine ⟨_, _, _, rfl, ?_⟩ | refine ⟨_, _, rfl, rfl, ?_⟩ | refine ⟨rfl, ?_⟩))
local macro_rules | `(tactic| walk_at "w") => `(tactic| repeat (first | refine ⟨_, rfl, ?_⟩ | refine ⟨_, _, rfl, ?_⟩ | refine ⟨_, _, _, rfl, ?_⟩ | refine ⟨_, _, rfl, rfl, ?_⟩ | refine ⟨rfl, ?_⟩ | refine Or.inl ⟨_, rfl, ?_⟩ | refine ⟨_, _, rfl, .inr ⟨_, SqT.of (by assumption), rfl⟩, ?_⟩ | refine ⟨_, _, rfl, .inl ⟨_, SqL.of (by assumption), rfl⟩, ?_⟩ | refine ⟨_, _, _, _, rfl, rfl, SqT.of (by assumption), (by rfl), ?_⟩ | refine ⟨_, _, _, _, rfl, rfl, SqL.of (by assumption), (by rfl), ?_⟩ | refine ⟨_, _, _, _, rfl, rfl, SqL.of upd_same, (by rfl), ?_⟩ | refine ⟨_, _, _, _, rfl, rfl, (by assumption), (by rfl), ?_⟩ | refine ⟨_, _, _, _, rfl, rfl, upd_same, (by rfl), ?_⟩))
section
variable {P : Program} {w : World} {K : PySem.W.Frag} {mg : Str → Option Value} {base : Heap}
theorem alikeN {w : Wish} : decide (V.str w.word = V.str "alike") = (match w with | .alike _ _ => true | _ => false) := by
  cases w with
  | always t => rfl
  | alike t u => rfl
  | num sp t n => cases sp <;> rfl
def spNames : Sp := fun vs H Q _ => ∃ (p : Addr) (w : Wish), vs = [.ref p] ∧ WishAt H p w ∧ ∀ q, H q = none → Q (.ref q) (upd H q (.tup (w.names.map V.str)))
theorem sc_names_in : FnScope ["wish"] ["wish"] (defScope s_names_in) :=
  ⟨rfl, rfl, rfl, by decide +kernel, rfl, by decide +kernel, by decide +kernel⟩
theorem b_names_in {K : PySem.W.Frag} {x q : Str} {f : Addr} {fd : FuncData} (F : Fun K x q s_names_in f fd) : Binds K fd ["wish"] [] := F.binds (fun _ _ _ _ _ _ us hl => match us, hl with | [_], _ => rfl)
theorem w_names_in (T : Tx K mg) : Can P w K mg base CX0 1 "names_in" ["wish"] spNames :=
  can0 T.d_names_in sc_names_in b_names_in (fun vs H Q E ⟨i, _, e, _⟩ => by rw [e]; rfl) fun f cdv A outer s H vs Q E hr ⟨p, wi, ev, hw, q⟩ => by
  subst ev
  refine ⟨_, (pss_one (ps_ret (pe_ifExp (pt_cmpR op_eq (pe_ix ix_tup (pv 0) pe_int (fun _ _ => rfl)) pe_str (nomark _)) (pe_slice sl_tupA (pv 0) (po_some pe_int) (po_some pe_int)) (pe_slice sl_tupA (pv 0) (po_some pe_int) (po_some pe_int))))), ?_⟩
  have hp := hw.1
  cases wi with
  | always t =>
    walk_at "w"
    exact ⟨_, _, rfl, SqT.of hp, fun z => absurd (show HT.sIx 2 0 (some 1) = 0 from z.1) (by decide), fun _ q2 nq => q q2 nq⟩
  | alike t u =>
    walk_at "w"
    exact ⟨_, _, rfl, SqT.of hp, fun z => absurd (show HT.sIx 3 0 (some 1) = 0 from z.1) (by decide), fun _ q2 nq => q q2 nq⟩
  | num sp t n =>
    cases sp
    all_goals
      walk_at "w"
      exact ⟨_, _, rfl, SqT.of hp, fun z => absurd (show HT.sIx 3 0 (some 1) = 0 from z.1) (by decide), fun _ q2 nq => q q2 nq⟩
theorem sc__law_named : FnScope ["_law_due"] ["_law_due"] (defScope s__law_named) :=
  ⟨rfl, rfl, rfl, by decide +kernel, rfl, by decide +kernel, by decide +kernel⟩
theorem b__law_named {K : PySem.W.Frag} {x q : Str} {f : Addr} {fd : FuncData} (F : Fun K x q s__law_named f fd) : Binds K fd ["_law_due"] [] := F.binds (fun _ _ _ _ _ _ us hl => match us, hl with | [_], _ => rfl)
theorem w__law_named (T : Tx K mg) : Can P w K mg base CX0 1 "_law_named" ["_law_due"] spNames :=
  can0 T.d__law_named sc__law_named b__law_named (fun vs H Q E ⟨i, _, e, _⟩ => by rw [e]; rfl) fun f cdv A outer s H vs Q E hr ⟨p, wi, ev, hw, q⟩ => by
  subst ev
  refine ⟨_, (pss_one (ps_ret (pe_ifExp (pt_cmpR op_eq (pe_ix ix_tup (pv 0) pe_int (fun _ _ => rfl)) pe_str (nomark _)) (pe_slice sl_tupA (pv 0) (po_some pe_int) (po_some pe_int)) (pe_slice sl_tupA (pv 0) (po_some pe_int) (po_some pe_int))))), ?_⟩
  have hp := hw.1
  cases wi with
  | always t =>
    walk_at "w"
    exact ⟨_, _, rfl, SqT.of hp, fun z => absurd (show HT.sIx 2 0 (some 1) = 0 from z.1) (by decide), fun _ q2 nq => q q2 nq⟩
  | alike t u =>
    walk_at "w"
    exact ⟨_, _, rfl, SqT.of hp, fun z => absurd (show HT.sIx 3 0 (some 1) = 0 from z.1) (by decide), fun _ q2 nq => q q2 nq⟩
  | num sp t n =>
    cases sp
    all_goals
      walk_at "w"
      exact ⟨_, _, rfl, SqT.of hp, fun z => absurd (show HT.sIx 3 0 (some 1) = 0 from z.1) (by decide), fun _ q2 nq => q q2 nq⟩
theorem at0 (w : Wish) : atI w.vs 0 = some (.str w.word) := by
  cases w with
  | always t => rfl
  | alike t u => rfl
  | num sp t n => cases sp <;> rfl
theorem at1 (w : Wish) : atI w.vs 1 = some (.str w.one) := by
  cases w with
  | always t => rfl
  | alike t u => rfl
  | num sp t n => cases sp <;> rfl
theorem sc_begins_with_word : FnScope ["value"] ["value"] (defScope s_begins_with_word) :=
  ⟨rfl, rfl, rfl, by decide +kernel, rfl, by decide +kernel, by decide +kernel⟩
theorem b_begins_with_word {K : PySem.W.Frag} {x q : Str} {f : Addr} {fd : FuncData} (F : Fun K x q s_begins_with_word f fd) : Binds K fd ["value"] [] := F.binds (fun _ _ _ _ _ _ us hl => match us, hl with | [_], _ => rfl)
theorem w_begins_with_word (T : Tx K mg) : Can P w K mg base CX0 1 "begins_with_word" ["value"] (fun vs H Q _ => ∃ (p : Addr) (w : Wish), vs = [.ref p] ∧ WishAt H p w ∧ Q (.bl true) H) :=
  can0 T.d_begins_with_word sc_begins_with_word b_begins_with_word (fun vs H Q E ⟨i, _, e, _⟩ => by rw [e]; rfl) fun f cdv A outer s H vs Q E hr ⟨p, wi, ev, hw, q⟩ => by
  subst ev
  refine ⟨_, (pss_one (ps_ret (pe_and (pe_callB call_isi (by rfl) T.m_isinstance (by decide +kernel) (pa_cons (pv 0) (pa_cons (pe_bltn (v := .ty "tuple") (by rfl) T.m_tuple (by decide +kernel) rfl) pa_nil))) (pe_and (pe_cmpR op_gt (pe_callB call_len (by rfl) T.m_len (by decide +kernel) (pa_cons (pv 0) pa_nil)) pe_int (nomark _)) (pe_one (pe_callB call_isi (by rfl) T.m_isinstance (by decide +kernel) (pa_cons (pe_ix ix_tup (pv 0) pe_int (fun _ _ => rfl)) (pa_cons (pe_bltn (v := .ty "str") (by rfl) T.m_str (by decide +kernel) rfl) pa_nil)))))))), ?_⟩
  have hp := hw.1
  refine ⟨_, rfl, _, _, _, _, true, rfl, .ty _, .base (.tup hp), kit_ty (by decide +kernel), true, rfl, ?_⟩
  walk_at "w"
  refine ite2 (fun _ => ?_) fun c => absurd (decide_eq_true (by show (0 : Int) < ((wi.vs.length : Nat) : Int); unfold Wish.vs; simp; omega)) c
  refine ⟨_, rfl, _, _, _, _, rfl, rfl, SqT.of hp, at0 wi, ?_⟩
  exact ⟨_, _, _, _, true, rfl, .ty _, .base (.str _), kit_ty (by decide +kernel), q⟩
/-- the table of forms -/
structure TxF (K : PySem.W.Frag) (mg : Str → Option Value) (w : World) : Prop where
  forms : ∃ (a : Addr) (es : Array DictEntry) (n : Nat), mg "FORMS" = some (.ref a) ∧ KDict K w a es n ∧ (∃ t, PySem.W.nsIn K a "splits" = some (some (.int 3 t))) ∧ (∃ t, PySem.W.nsIn K a "whole" = some (some (.int 3 t))) ∧
    (∃ t, PySem.W.nsIn K a "always" = some (some (.int 2 t))) ∧ ∃ t, PySem.W.nsIn K a "alike" = some (some (.int 3 t))
theorem sc_is_wish : FnScope ["value"] ["value"] (defScope s_is_wish) :=
  ⟨rfl, rfl, rfl, by decide +kernel, rfl, by decide +kernel, by decide +kernel⟩
theorem b_is_wish {K : PySem.W.Frag} {x q : Str} {f : Addr} {fd : FuncData} (F : Fun K x q s_is_wish f fd) : Binds K fd ["value"] [] := F.binds (fun _ _ _ _ _ _ us hl => match us, hl with | [_], _ => rfl)
theorem w_is_wish (T : Tx K mg) (TF : TxF K mg w) : Can P w K mg base CX0 3 "is_wish" ["value"] (fun vs H Q _ => ∃ (p : Addr) (w : Wish), vs = [.ref p] ∧ WishAt H p w ∧ ∀ H', Ex [] H H' → Q (.bl true) H') :=
  can0 T.d_is_wish sc_is_wish b_is_wish (fun vs H Q E ⟨i, _, e, _⟩ => by rw [e]; rfl) fun f cdv A outer s H vs Q E hr ⟨p, wi, ev, hw, q⟩ => by
  subst ev
  have c_begins_with_word := w_begins_with_word (P := P) (w := w) (base := base) T
  have c_is_between := w_is_between (P := P) (w := w) (base := base) T
  obtain ⟨fa, fes, fn, hfm, D, ⟨t1, f1⟩, ⟨t2, f2⟩, ⟨t3, f3⟩, t4, f4⟩ := TF.forms
  have hwd : ∃ (t : Tok) (k : Int), PySem.W.nsIn K fa wi.word = some (some (.int k t)) ∧ k = wi.vs.length := by
    cases wi with
    | always t => exact ⟨t3, 2, f3, rfl⟩
    | alike t u => exact ⟨t4, 3, f4, rfl⟩
    | num sp t n =>
      cases sp
      · exact ⟨t2, 3, f2, rfl⟩
      · exact ⟨t1, 3, f1, rfl⟩
  obtain ⟨tk, k, hns, hk⟩ := hwd
  refine ⟨_, (pss_cons (ps_if (PW.pt (pw_or (pt_not (pt_val (pe_can c_begins_with_word (hr.mono (by decide)) (by rfl) pass0 (pa_cons (pv 0) pa_nil)))) (pw_or (pt_cmpR (op_notIn_kd D) (pe_ix ix_tup (pv 0) pe_int (fun _ _ => rfl)) (pe_glob (v := .ref fa) (by rfl) hfm rfl) (by rfl)) (pw_or1 (pt_cmpR op_ne (pe_callB call_len (by rfl) T.m_len (by decide +kernel) (pa_cons (pv 0) pa_nil)) (pe_ix (ix_kd D) (pe_glob (v := .ref fa) (by rfl) hfm rfl) (pe_ix ix_tup (pv 0) pe_int (fun _ _ => rfl)) (fun _ _ => rfl)) (nomark _)))))) (pss_one (ps_ret pe_bl)) pss_nil)
    (pss_one (ps_ret (pe_or (pe_cmpR op_in_seq (pe_ix ix_tup (pv 0) pe_int (fun _ _ => rfl)) (pe_tup (pa_cons pe_str (pa_cons pe_str pa_nil))) (by rfl)) (pe_one (pe_can c_is_between (hr.mono (by decide)) (by rfl) pass0 (pa_cons (pe_ix ix_tup (pv 0) pe_int (fun _ _ => rfl)) (pa_cons pe_int (pa_cons (pe_gI (by rfl) T.g_MOST_SIZE) pa_nil))))))))), ?_⟩
  have hp := hw.1
  refine ⟨_, rfl, p, wi, rfl, hw, _, rfl, ?_⟩
  refine ⟨_, rfl, _, _, _, _, rfl, rfl, SqT.of hp, at0 wi, _, _, rfl, rfl, hns, _, rfl, ?_⟩
  refine ⟨_, rfl, _, _, rfl, .inr ⟨_, SqT.of hp, rfl⟩, _, rfl, _, _, _, _, rfl, rfl, SqT.of hp, at0 wi, _, _, .int k, rfl, rfl, hns, ⟨tk, rfl⟩, rfl, _, rfl, ?_⟩
  rw [← hk, show (!decide (V.int k = V.int k)) = false by simp]
  refine ⟨_, rfl, _, _, _, _, rfl, rfl, SqT.of hp, at0 wi, ?_⟩
  refine ⟨by show 2 ≤ sizeLine; decide, fun l nl => ?_⟩
  refine ⟨_, _, rfl, .inr (SqT.of upd_same), rfl, rfl, ?_⟩
  cases wi with
  | always t => exact ⟨_, rfl, q _ (Ex.new0 nl)⟩
  | alike t u => exact ⟨_, rfl, q _ (Ex.new0 nl)⟩
  | num sp t n =>
    obtain ⟨h0, h1, h2⟩ := hw.2
    have h2' : ((n : Nat) : Int) ≤ 10 ^ 30 := by exact_mod_cast h2
    have hd : decide ((1 : Int) ≤ (n : Int) ∧ (n : Int) ≤ 10 ^ 30) = true := decide_eq_true ⟨by omega, h2'⟩
    have e := q _ (Ex.new0 (o := (.tup [.str "always", .str "alike"])) nl)
    rw [← hd] at e
    cases sp
    · exact ⟨_, rfl, _, rfl, _, _, _, _, rfl, rfl, SqT.of (upN nl hp), rfl, _, _, _, rfl, e⟩
    · exact ⟨_, rfl, _, rfl, _, _, _, _, rfl, rfl, SqT.of (upN nl hp), rfl, _, _, _, rfl, e⟩
end
end G
-- Wi
set_option pp.maxSteps 800
set_option Elab.async false
set_option linter.all false
set_option maxRecDepth 100000
set_option maxHeartbeats 800000
namespace G
open PySem PySem.Spec PyProof.Rows L2 LamX NdefX
local macro_rules | `(tactic| walk_at "g") => `(tactic| repeat (first | refine ⟨_, rfl, ?_⟩ | refine ⟨_, _, rfl, ?_⟩ | refine ⟨_, _, _, rfl, ?_⟩ | refine ⟨_, _, rfl, rfl, ?_⟩ | refine ⟨rfl, ?_⟩))
local macro_rules | `(tactic| walk_at "w") => `(tactic| repeat (first | refine ⟨_, rfl, ?_⟩ | refine ⟨_, _, rfl, ?_⟩ | refine ⟨_, _, _, rfl, ?_⟩ | refine ⟨_, _, rfl, rfl, ?_⟩ | refine ⟨rfl, ?_⟩ | refine Or.inl ⟨_, rfl, ?_⟩ | refine ⟨_, _, rfl, .inr ⟨_, SqT.of (by assumption), rfl⟩, ?_⟩ | refine ⟨_, _, rfl, .inl ⟨_, SqL.of (by assumption), rfl⟩, ?_⟩ | refine ⟨_, _, _, _, rfl, rfl, SqT.of (by assumption), (by rfl), ?_⟩ | refine ⟨_, _, _, _, rfl, rfl, SqL.of (by assumption), (by rfl), ?_⟩ | refine ⟨_, _, _, _, rfl, rfl, SqL.of upd_same, (by rfl), ?_⟩ | refine ⟨_, _, _, _, rfl, rfl, (by assumption), (by rfl), ?_⟩ | refine ⟨_, _, _, _, rfl, rfl, upd_same, (by rfl), ?_⟩))
section
variable {P : Program} {w : World} {K : PySem.W.Frag} {mg : Str → Option Value} {base : Heap}
theorem call_isiE {X : Cx} {K : PySem.W.Frag} (h : X.K = K := by rfl) : CallR X (.builtin "isinstance") (rIsi K) := h ▸ call_isi
theorem strs_get {es : List Str} {i : Nat} {x : V} (h : (es.map V.str)[i]? = some x) : ∃ e, es[i]? = some e ∧ x = .str e := by
  rw [List.getElem?_map] at h
  cases q : es[i]? with
  | none => rw [q] at h; cases h
  | some e => rw [q] at h; exact ⟨e, rfl, (Option.some.inj h).symm⟩
theorem names_len (w : Wish) : w.names.length ≤ 2 := by
  cases w <;> simp [Wish.names]
theorem take_map {α β : Type} {l : List α} {f : α → β} {i : Nat} {k : α} (h : l[i]? = some k) : (l.take (i + 1)).map f = (l.take i).map f ++ [f k] := by
  rw [List.take_add_one, h, List.map_append]
  rfl
theorem ans_not {S : Shelf} {w : Wish} (h : (w.names.map fun t => (getS S t).isSome).all id = false) : ans S w = false := by
  cases w with
  | always t =>
    simp only [Wish.names, List.map_cons, List.map_nil, List.all_cons, List.all_nil, id, Bool.and_true] at h
    cases e : getS S t with
    | none => simp [ans, e]
    | some x => rw [e] at h; cases h
  | alike t u =>
    simp only [Wish.names, List.map_cons, List.map_nil, List.all_cons, List.all_nil, id, Bool.and_true] at h
    cases e : getS S t with
    | none => simp [ans, e]
    | some x =>
      cases e2 : getS S u with
      | none => simp [ans, e, e2]
      | some y => rw [e, e2] at h; cases h
  | num sp t n =>
    simp only [Wish.names, List.map_cons, List.map_nil, List.all_cons, List.all_nil, id, Bool.and_true] at h
    cases e : getS S t with
    | none => simp [ans, e]
    | some x => rw [e] at h; cases h
theorem DictAt.has {F : Hp → Addr → Int → M.Row → Prop} {H : Hp} {d : Addr} {S : Shelf} {t : Str} (h : DictAt F H d S) (e : (getS S t).isSome = true) : ∃ p sg r, getS S t = some (sg, r) ∧ DGet H d (.str t) (some (.ref p)) ∧ F H p sg r := by
  rcases h.keys t with ⟨a, _⟩ | z
  · rw [a] at e
    cases e
  · exact z
theorem all_get {S : Shelf} {w : Wish} (h : (w.names.map fun t => (getS S t).isSome).all id = true) : ∀ t ∈ w.names, (getS S t).isSome = true := fun t ht =>
  List.all_eq_true.mp h _ (List.mem_map.mpr ⟨t, ht, rfl⟩)
theorem sc_holds : FnScope ["wish", "numbers", "number", "name"] ["wish", "numbers"] (defScope s_holds) :=
  ⟨rfl, rfl, rfl, by decide +kernel, rfl, by decide +kernel, by decide +kernel⟩
theorem b_holds {K : PySem.W.Frag} {x q : Str} {f : Addr} {fd : FuncData} (F : Fun K x q s_holds f fd) : Binds K fd ["wish", "numbers"] [] := F.binds (fun _ _ _ _ _ _ us hl => match us, hl with | [_, _], _ => rfl)
theorem w_holds (T : Tx K mg) : Can P w K mg base CX0 10 "holds" ["wish", "numbers"] (fun vs H Q _ => ∃ (p : Addr) (w : Wish) (d : Addr) (S : Shelf), vs = [.ref p, .ref d] ∧ WishAt H p w ∧ NumsAt H d S ∧ ∀ H', Ex [] H H' → Q (.bl (ans S w)) H') :=
  can0 T.d_holds sc_holds b_holds (fun vs H Q E ⟨i, _, _, _, e, _⟩ => by rw [e]; rfl) fun f cdv A outer s H vs Q E hr ⟨p, wi, d, S, ev, hw, hd, q⟩ => by
  subst ev
  have c_names_in := w_names_in (P := P) (w := w) (base := base) T
  have c_is_always := w_is_always (P := P) (w := w) (base := base) T
  have c_kind_of := w_kind_of (P := P) (w := w) (base := base) T
  have c_does_split := w_does_split (P := P) (w := w) (base := base) T
  refine ⟨_, (pss_cons (ps_if (pt_not (pt_val (pe_callB (cr_all rfl) (by rfl) T.m_all (by decide +kernel) (pa_cons (pe_lc (own := [("name", 3)]) (g := gName 3) (by rfl) sc_holds.nd (pi_tup (pe_can c_names_in (hr.mono (by decide)) (by rfl) pass0 (pa_cons (pv 0) pa_nil))) (blkOk_by (own := [("name", 3)]) (N := ["wish", "numbers", "number", "name"]) (sc := defScope s_holds) (by decide +kernel)) (fun _ _ _ _ _ => (pg_name (i := 3) sc_holds.nd rfl (Or.inl rfl))) (fun _ _ _ _ _ => pts_nil) (fun _ _ _ _ _ => (pe_and (pe_callB (call_isiE (K := K)) (by rfl) T.m_isinstance (by decide +kernel) (pa_cons (pv 3) (pa_cons (pe_bltn (v := .ty "str") (by rfl) T.m_str (by decide +kernel) rfl) pa_nil))) (pe_one (pe_cmp ((pc_din (hu_of hr)) (pv 3) (pv 1))))))) pa_nil)))) (pss_one (ps_ret pe_bl)) pss_nil)
    (pss_cons (ps_set (i := 2) sc_holds.nd rfl (Or.inl rfl) (pe_dget (hu_of hr) (pv 1) (pe_ix ix_tup (pv 0) pe_int (fun _ _ => rfl)) (fun _ _ => rfl)))
    (pss_cons (ps_if (pt_cmpR op_eq (pe_ix ix_tup (pv 0) pe_int (fun _ _ => rfl)) pe_str (nomark _)) (pss_one (ps_ret (pe_can c_is_always (hr.mono (by decide)) (by rfl) pass0 (pa_cons (pv 2) pa_nil)))) pss_nil)
    (pss_cons (ps_if (pt_cmpR op_eq (pe_ix ix_tup (pv 0) pe_int (fun _ _ => rfl)) pe_str (nomark _)) (pss_one (ps_ret (pe_cmpR (op_eqD hr.units) (pe_can c_kind_of (hr.mono (by decide)) (by rfl) pass0 (pa_cons (pv 2) pa_nil)) (pe_can c_kind_of (hr.mono (by decide)) (by rfl) pass0 (pa_cons (pe_dget (hu_of hr) (pv 1) (pe_ix ix_tup (pv 0) pe_int (fun _ _ => rfl)) (fun _ _ => rfl)) pa_nil)) (nomark _)))) pss_nil)
    (pss_one (ps_ret (pe_cmpR op_eq (pe_can c_does_split (hr.mono (by decide)) (by rfl) pass0 (pa_cons (pv 2) (pa_cons (pe_ix ix_tup (pv 0) pe_int (fun _ _ => rfl)) pa_nil))) (pe_cmpR op_eq (pe_ix ix_tup (pv 0) pe_int (fun _ _ => rfl)) pe_str (nomark _)) (nomark _)))))))), ?_⟩
  have h1000 : 1000 ≤ sizeLine := by decide
  have hp := hw.1
  refine ⟨_, rfl, p, wi, rfl, hw, fun l nl => ?_⟩
  have hnl := names_len wi
  refine ⟨l, rfl, ⟨_, SqT.of upd_same⟩, fun D nD => lc_tup (xs := wi.names.map V.str) (fun i H' => Ex [] H H' ∧ H' l = some (.tup (wi.names.map V.str)) ∧ H' D = some (.lst ((wi.names.take i).map fun t => V.bl (getS S t).isSome)))
    ⟨(Ex.new0 nl).new nD, upN nD upd_same, upd_same⟩ (fun i H' _ h => SqT.of h.2.1) (fun i x H' hi ⟨hx, hl, hD⟩ => ?_) fun H' ⟨hx, hl, hD⟩ => ?_⟩
  · obtain ⟨t, ht, rfl⟩ := strs_get hi
    have hlD : l ≠ D := fun z => by
      rw [← z, upd_same] at nD
      cases nD
    have put : ∃ acc, H' D = some (.lst acc) ∧ acc.length < sizeLine ∧ (Ex [] H (upd H' D (.lst (acc ++ [V.bl (getS S t).isSome]))) ∧ upd H' D (.lst (acc ++ [V.bl (getS S t).isSome])) l = some (.tup (wi.names.map V.str)) ∧ upd H' D (.lst (acc ++ [V.bl (getS S t).isSome])) D = some (.lst ((wi.names.take (i + 1)).map fun t => V.bl (getS S t).isSome))) := by
      refine ⟨_, hD, ?_, hx.mut ((Ex.new0 (M := []) nl).none_back (by simp) nD), by rw [upd_ne hlD]; exact hl, by rw [upd_same, take_map ht]⟩
      rw [List.length_map]
      have := List.length_take_le' i wi.names
      omega
    refine ⟨rfl, ?_⟩
    refine ⟨_, rfl, _, _, _, _, true, rfl, .ty _, .base (.str _), kit_ty (by decide +kernel), true, rfl, ?_⟩
    refine ⟨_, rfl, _, rfl, ?_⟩
    rcases (hd.ex hx fun _ _ _ z => z.ex hx (by simp)).keys t with ⟨e1, e2⟩ | ⟨p2, sg, r, e1, e2, _⟩
    · refine ⟨_, _, rfl, e2, ?_⟩
      rw [e1] at put
      exact put
    · refine ⟨_, _, rfl, e2, ?_⟩
      rw [e1] at put
      exact put
  · have hD : H' D = some (.lst ((wi.names.map fun t => (getS S t).isSome).map V.bl)) := by
      rw [hD, List.length_map, List.take_length, List.map_map]
      rfl
    refine ⟨D, _, rfl, SqL.of hD, _, rfl, ?_⟩
    have hd1 := hd.ex hx fun _ _ _ z => z.ex hx (by simp)
    have hp1 := hx _ _ (by simp) hp
    cases hall : (wi.names.map fun t => (getS S t).isSome).all id with
    | false =>
      have e := q _ hx
      rw [ans_not hall] at e
      exact e
    | true =>
      have ag := all_get hall
      obtain ⟨np, sg, r, g1, g2, hn⟩ := hd1.has (ag wi.one (by cases wi <;> simp [Wish.names, Wish.one]))
      refine ⟨_, rfl, _, rfl, _, _, _, _, rfl, rfl, SqT.of hp1, at1 wi, _, _, rfl, g2, ?_⟩
      refine ⟨_, rfl, _, _, _, _, rfl, rfl, SqT.of hp1, at0 wi, rfl, _, rfl, ?_⟩
      cases wi with
      | always t =>
        refine ⟨_, rfl, np, sg, r, rfl, hn, fun H2 hx2 => ?_⟩
        have e := q _ (hx.trans hx2)
        simp only [ans] at e
        rw [show getS S t = some (sg, r) from g1] at e
        exact e
      | alike t u =>
        have g1 : getS S t = some (sg, r) := g1
        refine ⟨_, rfl, _, _, _, _, rfl, rfl, SqT.of hp1, rfl, rfl, _, rfl, ?_⟩
        refine ⟨_, rfl, np, sg, r, rfl, hn, fun q1 H2 hx2 nq1 hk1 => ?_⟩
        obtain ⟨np2, sg2, r2, g3, g4, hn2⟩ := (hd1.ex hx2 fun _ _ _ z => z.ex hx2 (by simp)).has (ag u (by simp [Wish.names]))
        refine ⟨_, rfl, _, rfl, _, _, _, _, rfl, rfl, SqT.of (hx2 _ _ (by simp) hp1), rfl, _, _, rfl, g4, np2, sg2, r2, rfl, hn2, fun q2 H3 hx3 nq2 hk2 => ?_⟩
        refine ⟨_, _, (hk1.ex hx3 (Ms := [])).dp, hk2.dp, kind_shaped _ _, kind_shaped _ _, ?_⟩
        rw [eqv_kind (a := (sg, r)) (b := (sg2, r2)) hn.2.1 hn2.2.1]
        have e := q _ ((hx.trans hx2).trans hx3)
        simp only [ans] at e
        rw [g1, g3] at e
        exact e
      | num sp t n =>
        obtain ⟨h0, h1, h2⟩ := hw.2
        have gt : getS S t = some (sg, r) := g1
        clear g1
        cases sp
        all_goals
          refine ⟨_, rfl, _, _, _, _, rfl, rfl, SqT.of hp1, rfl, rfl, _, rfl, ?_⟩
          refine ⟨_, rfl, _, rfl, _, _, _, _, rfl, rfl, SqT.of hp1, rfl, np, sg, r, n, rfl, hn, h1, h2, fun H2 hx2 => ?_⟩
          refine ⟨_, rfl, _, _, _, _, rfl, rfl, SqT.of (hx2 _ _ (by simp) hp1), rfl, rfl, rfl, ?_⟩
          have e := q _ (hx.trans hx2)
          simp only [ans] at e
          rw [gt] at e
        · rw [show decide (V.bl (M.splits sg r n) = .bl (decide (V.str (Wish.num false t n).word = .str "splits"))) = (M.splits sg r n == false) by cases M.splits sg r n <;> rfl]
          exact e
        · rw [show decide (V.bl (M.splits sg r n) = .bl (decide (V.str (Wish.num true t n).word = .str "splits"))) = (M.splits sg r n == true) by cases M.splits sg r n <;> rfl]
          exact e
end
end G
-- Wj
set_option pp.maxSteps 800
set_option Elab.async false
set_option linter.all false
set_option maxRecDepth 100000
set_option maxHeartbeats 800000
namespace G
open PySem PySem.Spec PyProof.Rows L2 LamX NdefX
local macro_rules | `(tactic| walk_at "g") => `(tactic| repeat (first | refine ⟨_, rfl, ?_⟩ | refine ⟨_, _, rfl, ?_⟩ | refine ⟨_, _, _, rfl, ?_⟩ | refine ⟨_, _, rfl, rfl, ?_⟩ | refine ⟨rfl, ?_⟩))
local macro_rules | `(tactic| walk_at "w") => `(tactic| repeat (first | refine ⟨_, rfl, ?_⟩ | refine ⟨_, _, rfl, ?_⟩ | refine ⟨_, _, _, rfl, ?_⟩ | refine ⟨_, _, rfl, rfl, ?_⟩ | refine ⟨rfl, ?_⟩ | refine Or.inl ⟨_, rfl, ?_⟩ | refine ⟨_, _, rfl, .inr ⟨_, SqT.of (by assumption), rfl⟩, ?_⟩ | refine ⟨_, _, rfl, .inl ⟨_, SqL.of (by assumption), rfl⟩, ?_⟩ | refine ⟨_, _, _, _, rfl, rfl, SqT.of (by assumption), (by rfl), ?_⟩ | refine ⟨_, _, _, _, rfl, rfl, SqL.of (by assumption), (by rfl), ?_⟩ | refine ⟨_, _, _, _, rfl, rfl, SqL.of upd_same, (by rfl), ?_⟩ | refine ⟨_, _, _, _, rfl, rfl, (by assumption), (by rfl), ?_⟩ | refine ⟨_, _, _, _, rfl, rfl, upd_same, (by rfl), ?_⟩))
section
variable {P : Program} {w : World} {K : PySem.W.Frag} {mg : Str → Option Value} {base : Heap}
end
/-- what stands in tFor behind the walked thing -/
def tForI (J : It) (g : TG) (tb : TS) : TS := fun D σ H => ∃ W : Nat → Nat → L2.St → Hp → Prop, (∃ m, W 0 m σ H) ∧ ∀ i m σ H, W i m σ H →
  (J.stop i H ∧ D.nx σ H) ∨ (J.go i H ∧ ∃ N : L2.St → Hp → Prop, (∀ σ' H', N σ' H' → ∃ m', m' < m ∧ W (i + 1) m' σ' H') ∧ ∀ x H', J.yld i H x H' → g x σ H' fun σ2 H2 => tb { D with nx := N, ct := N, bk := D.nx } σ2 H2)
theorem answer_loop {K : PySem.W.Frag} {D : Ends} {d p l : Addr} {H : Hp} {S : Shelf} {ns : List Str} (hd : ShelfAt H d S) (hl : H l = some (.tup (ns.map V.str))) (hf : (¬ ∀ t ∈ ns, (getS S t).isSome = true) → D.rt (.bl false) H)
    (ht : (∀ t ∈ ns, (getS S t).isSome = true) → ∀ t, D.nx [some (.ref d), some (.ref p), t] H) :
    tForI (Itt K l) (gName 2) (tIfS (tOr (tNot (tB (tCB (rIsi K) (tCons (tVar 2) (tCons (tC (.ty "str")) tNil))))) (tB (tDNotIn (tVar 2) (tVar 0)))) (tRet (tC (.bl false))) tNext) D [some (.ref d), some (.ref p), none] H := by
  refine for_tup (xs := ns.map V.str) (fun i σ H' => H' = H ∧ ∃ t, σ = [some (.ref d), some (.ref p), t] ∧ ∀ t ∈ ns.take i, (getS S t).isSome = true) ⟨rfl, none, rfl, by simp⟩ (fun i σ H' _ h => by rw [h.1]; exact SqT.of hl) ?_ ?_
  · rintro i x σ H' hi ⟨rfl, t, rfl, hpre⟩
    obtain ⟨z, hz, rfl⟩ := strs_get hi
    refine ⟨_, rfl, _, _, _, _, true, rfl, .ty _, .base (.str _), kit_ty (by decide +kernel), true, rfl, ?_⟩
    refine ⟨_, rfl, _, rfl, ?_⟩
    rcases hd.keys z with ⟨e1, e2⟩ | ⟨p2, sg, r, e1, e2, _⟩
    · refine ⟨_, _, rfl, e2, _, rfl, ?_⟩
      refine hf fun h => ?_
      have := h z (List.mem_of_getElem? hz)
      rw [e1] at this
      cases this
    · refine ⟨_, _, rfl, e2, _, rfl, ?_⟩
      refine ⟨rfl, _, rfl, fun y hy => ?_⟩
      rw [List.take_add_one, hz] at hy
      rcases List.mem_append.mp hy with h | h
      · exact hpre y h
      · rw [show y = z by simpa using h, e1]
        rfl
  · rintro σ H' ⟨rfl, t, rfl, hpre⟩
    rw [List.length_map, List.take_length] at hpre
    exact ht hpre t
theorem ans_no {S : Shelf} {w : Wish} (h : ¬ ∀ t ∈ w.names, (getS S t).isSome = true) : ans S w = false := by
  refine ans_not ?_
  cases e : (w.names.map fun t => (getS S t).isSome).all id with
  | false => rfl
  | true => exact absurd (all_get e) h
section
variable {P : Program} {w : World} {K : PySem.W.Frag} {mg : Str → Option Value} {base : Heap}
theorem sc__law_answer : FnScope ["_law_shelf", "_law_due", "_law_thing"] ["_law_shelf", "_law_due"] (defScope s__law_answer) :=
  ⟨rfl, rfl, rfl, by decide +kernel, rfl, by decide +kernel, by decide +kernel⟩
theorem b__law_answer {K : PySem.W.Frag} {x q : Str} {f : Addr} {fd : FuncData} (F : Fun K x q s__law_answer f fd) : Binds K fd ["_law_shelf", "_law_due"] [] := F.binds (fun _ _ _ _ _ _ us hl => match us, hl with | [_, _], _ => rfl)
theorem w__law_answer (T : Tx K mg) : Can P w K mg base CX0 5 "_law_answer" ["_law_shelf", "_law_due"] (fun vs H Q _ => ∃ (d p : Addr) (w : Wish) (S : Shelf), vs = [.ref d, .ref p] ∧ WishAt H p w ∧ ShelfAt H d S ∧ ∀ H', Ex [] H H' → Q (.bl (ans S w)) H') :=
  can0 T.d__law_answer sc__law_answer b__law_answer (fun vs H Q E ⟨i, _, _, _, e, _⟩ => by rw [e]; rfl) fun f cdv A outer s H vs Q E hr ⟨d, p, wi, S, ev, hw, hd, q⟩ => by
  subst ev
  have c__law_is_always := w__law_is_always (P := P) (w := w) (base := base) T
  have c__law_kind := w__law_kind (P := P) (w := w) (base := base) T
  have c__law_splits := w__law_splits (P := P) (w := w) (base := base) T
  refine ⟨_, (pss_cons (ps_for PassesOwn.never (by rfl) (pi_tup (pe_ifExp (pt_cmpR op_eq (pe_ix ix_tup (pv 1) pe_int (fun _ _ => rfl)) pe_str (nomark _)) (pe_slice sl_tupA (pv 1) (po_some pe_int) (po_some pe_int)) (pe_slice sl_tupA (pv 1) (po_some pe_int) (po_some pe_int)))) (pg_name (i := 2) sc__law_answer.nd rfl (Or.inl rfl)) (pss_one (ps_if (PW.pt (pw_or (pt_not (pt_val (pe_callB call_isi (by rfl) T.m_isinstance (by decide +kernel) (pa_cons (pv 2) (pa_cons (pe_bltn (v := .ty "str") (by rfl) T.m_str (by decide +kernel) rfl) pa_nil))))) (pw_or1 (pt_cmp ((pc_dnotin (hu_of hr)) (pv 2) (pv 0)))))) (pss_one (ps_ret pe_bl)) pss_nil)))
    (pss_cons (ps_if (pt_cmpR op_eq (pe_ix ix_tup (pv 1) pe_int (fun _ _ => rfl)) pe_str (nomark _)) (pss_one (ps_ret (pe_can c__law_is_always (hr.mono (by decide)) (by rfl) pass0 (pa_cons (pe_dget (hu_of hr) (pv 0) (pe_ix ix_tup (pv 1) pe_int (fun _ _ => rfl)) (fun _ _ => rfl)) pa_nil)))) pss_nil)
    (pss_cons (ps_if (pt_cmpR op_eq (pe_ix ix_tup (pv 1) pe_int (fun _ _ => rfl)) pe_str (nomark _)) (pss_one (ps_ret (pe_cmpR (op_eqD hr.units) (pe_can c__law_kind (hr.mono (by decide)) (by rfl) pass0 (pa_cons (pe_dget (hu_of hr) (pv 0) (pe_ix ix_tup (pv 1) pe_int (fun _ _ => rfl)) (fun _ _ => rfl)) pa_nil)) (pe_can c__law_kind (hr.mono (by decide)) (by rfl) pass0 (pa_cons (pe_dget (hu_of hr) (pv 0) (pe_ix ix_tup (pv 1) pe_int (fun _ _ => rfl)) (fun _ _ => rfl)) pa_nil)) (nomark _)))) pss_nil)
    (pss_one (ps_ret (pe_cmpR op_eq (pe_can c__law_splits (hr.mono (by decide)) (by rfl) pass0 (pa_cons (pe_dget (hu_of hr) (pv 0) (pe_ix ix_tup (pv 1) pe_int (fun _ _ => rfl)) (fun _ _ => rfl)) (pa_cons (pe_ix ix_tup (pv 1) pe_int (fun _ _ => rfl)) pa_nil))) (pe_cmpR op_eq (pe_ix ix_tup (pv 1) pe_int (fun _ _ => rfl)) pe_str (nomark _)) (nomark _))))))), ?_⟩
  have hp := hw.1
  have no := fun h H' hx => by
    have e := q H' hx
    rw [ans_no h] at e
    exact e
  cases wi with
  | always t =>
    refine ⟨_, rfl, _, _, _, _, rfl, rfl, SqT.of hp, rfl, rfl, _, rfl, ?_⟩
    refine ⟨_, rfl, _, rfl, _, rfl, _, _, rfl, SqT.of hp, fun z => absurd (show HT.sIx 2 0 (some 1) = 0 from z.1) (by decide), fun _ l nl => ?_⟩
    refine ⟨l, rfl, ⟨_, SqT.of upd_same⟩, ?_⟩
    have hx1 : ∀ o, Ex [] H (upd H l o) := fun o => Ex.new0 nl
    refine answer_loop (ns := [t]) (hd.ex (hx1 _) fun _ _ _ z => z.ex (hx1 _)) upd_same (fun h => no h _ (hx1 _)) fun h t0 => ?_
    have hd1 : ∀ o, ShelfAt (upd H l o) d S := fun o => hd.ex (hx1 _) fun _ _ _ z => z.ex (hx1 _)
    obtain ⟨np, sg, r, g1, g2, hn⟩ := (hd1 _).has (h t (by simp))
    refine ⟨_, rfl, _, _, _, _, rfl, rfl, SqT.of (upN nl hp), rfl, rfl, _, rfl, ?_⟩
    refine ⟨_, rfl, _, rfl, _, _, _, _, rfl, rfl, SqT.of (upN nl hp), rfl, _, _, rfl, g2, np, sg, r, rfl, hn, fun H2 hx2 => ?_⟩
    have e := q _ ((hx1 _).trans hx2)
    simp only [ans] at e
    rw [g1] at e
    exact e
  | alike t u =>
    refine ⟨_, rfl, _, _, _, _, rfl, rfl, SqT.of hp, rfl, rfl, _, rfl, ?_⟩
    refine ⟨_, rfl, _, rfl, _, rfl, _, _, rfl, SqT.of hp, fun z => absurd (show HT.sIx 3 0 (some 1) = 0 from z.1) (by decide), fun _ l nl => ?_⟩
    refine ⟨l, rfl, ⟨_, SqT.of upd_same⟩, ?_⟩
    have hx1 : ∀ o, Ex [] H (upd H l o) := fun o => Ex.new0 nl
    refine answer_loop (ns := [t, u]) (hd.ex (hx1 _) fun _ _ _ z => z.ex (hx1 _)) upd_same (fun h => no h _ (hx1 _)) fun h t0 => ?_
    have hd1 : ∀ o, ShelfAt (upd H l o) d S := fun o => hd.ex (hx1 _) fun _ _ _ z => z.ex (hx1 _)
    obtain ⟨np, sg, r, g1, g2, hn⟩ := (hd1 _).has (h t (by simp))
    refine ⟨_, rfl, _, _, _, _, rfl, rfl, SqT.of (upN nl hp), rfl, rfl, _, rfl, ?_⟩
    refine ⟨_, rfl, _, _, _, _, rfl, rfl, SqT.of (upN nl hp), rfl, rfl, _, rfl, ?_⟩
    refine ⟨_, rfl, _, rfl, _, _, _, _, rfl, rfl, SqT.of (upN nl hp), rfl, _, _, rfl, g2, np, sg, r, rfl, hn, fun q1 H2 hx2 hk1 => ?_⟩
    obtain ⟨np2, sg2, r2, g3, g4, hn2⟩ := ((hd1 _).ex hx2 fun _ _ _ z => z.ex hx2).has (h u (by simp))
    refine ⟨_, rfl, _, rfl, _, _, _, _, rfl, rfl, SqT.of (hx2 _ _ (by simp) (upN nl hp)), rfl, _, _, rfl, g4, np2, sg2, r2, rfl, hn2, fun q2 H3 hx3 hk2 => ?_⟩
    refine ⟨_, _, (hk1.ex hx3).dp, hk2.dp, lkind_shaped _ _, lkind_shaped _ _, ?_⟩
    rw [eqv_lkind (a := (sg, r)) (b := (sg2, r2))]
    have e := q _ (((hx1 _).trans hx2).trans hx3)
    simp only [ans] at e
    rw [g1, g3] at e
    exact e
  | num sp t n =>
    obtain ⟨h0, h1, h2⟩ := hw.2
    cases sp
    all_goals
      refine ⟨_, rfl, _, _, _, _, rfl, rfl, SqT.of hp, rfl, rfl, _, rfl, ?_⟩
      refine ⟨_, rfl, _, rfl, _, rfl, _, _, rfl, SqT.of hp, fun z => absurd (show HT.sIx 3 0 (some 1) = 0 from z.1) (by decide), fun _ l nl => ?_⟩
      refine ⟨l, rfl, ⟨_, SqT.of upd_same⟩, ?_⟩
      have hx1 : ∀ o, Ex [] H (upd H l o) := fun o => Ex.new0 nl
      refine answer_loop (ns := [t]) (hd.ex (hx1 _) fun _ _ _ z => z.ex (hx1 _)) upd_same (fun h => no h _ (hx1 _)) fun h t0 => ?_
      have hd1 : ∀ o, ShelfAt (upd H l o) d S := fun o => hd.ex (hx1 _) fun _ _ _ z => z.ex (hx1 _)
      obtain ⟨np, sg, r, g1, g2, hn⟩ := (hd1 _).has (h t (by simp))
      refine ⟨_, rfl, _, _, _, _, rfl, rfl, SqT.of (upN nl hp), rfl, rfl, _, rfl, ?_⟩
      refine ⟨_, rfl, _, _, _, _, rfl, rfl, SqT.of (upN nl hp), rfl, rfl, _, rfl, ?_⟩
      refine ⟨_, rfl, _, rfl, _, _, _, _, rfl, rfl, SqT.of (upN nl hp), rfl, _, _, rfl, g2, ?_⟩
      refine ⟨_, rfl, _, _, _, _, rfl, rfl, SqT.of (upN nl hp), rfl, np, sg, r, n, rfl, hn, h1, h2, fun H2 hx2 => ?_⟩
      refine ⟨_, rfl, _, _, _, _, rfl, rfl, SqT.of (hx2 _ _ (by simp) (upN nl hp)), rfl, rfl, rfl, ?_⟩
      have e := q _ ((hx1 _).trans hx2)
      simp only [ans] at e
      rw [g1] at e
    · rw [show decide (V.bl (M.splits sg r n) = .bl (decide (V.str (Wish.num false t n).word = .str "splits"))) = (M.splits sg r n == false) by cases M.splits sg r n <;> rfl]
      exact e
    · rw [show decide (V.bl (M.splits sg r n) = .bl (decide (V.str (Wish.num true t n).word = .str "splits"))) = (M.splits sg r n == true) by cases M.splits sg r n <;> rfl]
      exact e
theorem sc__law_broken : FnScope ["_law_shelf", "_law_wishes_here", "_law_k"] ["_law_shelf", "_law_wishes_here"] (defScope s__law_broken) :=
  ⟨rfl, rfl, rfl, by decide +kernel, rfl, by decide +kernel, by decide +kernel⟩
theorem b__law_broken {K : PySem.W.Frag} {x q : Str} {f : Addr} {fd : FuncData} (F : Fun K x q s__law_broken f fd) : Binds K fd ["_law_shelf", "_law_wishes_here"] [] := F.binds (fun _ _ _ _ _ _ us hl => match us, hl with | [_, _], _ => rfl)
/-- the first wish of which f says no -/
def fst (f : Wish → Bool) : List Wish → Option Nat
  | [] => none
  | w :: ws => if f w = true then (fst f ws).map (· + 1) else some 0
theorem brk_none {f : Wish → Bool} : ∀ {ws : List Wish}, (∀ w ∈ ws, f w = true) → fst f ws = none
  | [], _ => rfl
  | w :: ws, h => by
    unfold fst
    rw [if_pos (h w (by simp)), brk_none fun x hx => h x (by simp [hx])]
    rfl
theorem brk_some {f : Wish → Bool} : ∀ {ws : List Wish} {i : Nat} {w : Wish}, ws[i]? = some w → (∀ x ∈ ws.take i, f x = true) → f w = false → fst f ws = some i
  | [], _, _, h, _, _ => by cases h
  | v :: ws, 0, w, h, _, hf => by
    cases h
    unfold fst
    rw [if_neg (by rw [hf]; decide)]
  | v :: ws, i + 1, w, h, hp, hf => by
    unfold fst
    rw [if_pos (hp v (by simp)), brk_some (i := i) (w := w) (by simpa using h) (fun x hx => hp x (by simp [hx])) hf]
    rfl
theorem all_of_none {f : Wish → Bool} : ∀ {ws : List Wish}, fst f ws = none → ∀ w ∈ ws, f w = true
  | [], _, _, h => by cases h
  | v :: ws, e, w, h => by
    unfold fst at e
    by_cases hv : f v = true
    · rw [if_pos hv] at e
      rcases List.mem_cons.mp h with z | z
      · rw [z]
        exact hv
      · exact all_of_none (by simpa using e) w z
    · rw [if_neg hv] at e
      cases e
theorem some_fst {f : Wish → Bool} : ∀ {ws : List Wish} {i : Nat}, fst f ws = some i → ∃ w, ws[i]? = some w ∧ f w = false ∧ ∀ x ∈ ws.take i, f x = true
  | [], _, e => by cases e
  | v :: ws, i, e => by
    unfold fst at e
    by_cases hv : f v = true
    · rw [if_pos hv] at e
      cases i with
      | zero =>
        cases q : fst f ws with
        | none => rw [q] at e; cases e
        | some k => rw [q] at e; cases e
      | succ i =>
        have e2 : fst f ws = some i := by
          cases q : fst f ws with
          | none => rw [q] at e; cases e
          | some k =>
            rw [q] at e
            simp only [Option.map_some, Option.some.injEq] at e
            rw [show k = i by omega]
        obtain ⟨w, h1, h2, h3⟩ := some_fst e2
        refine ⟨w, by simpa using h1, h2, fun x hx => ?_⟩
        rw [List.take_succ_cons] at hx
        rcases List.mem_cons.mp hx with z | z
        · rw [z]
          exact hv
        · exact h3 x z
    · rw [if_neg hv] at e
      cases e
      exact ⟨v, rfl, by cases h : f v <;> simp_all, by simp⟩
abbrev brk (S : Shelf) (ws : List Wish) : Option Nat := fst (ans S) ws
def WishesAt (H : Hp) (ps : List Addr) (ws : List Wish) : Prop := Paired (fun p w => WishAt H p w) ps ws
theorem WishesAt.ex {H H' : Hp} {ps : List Addr} {ws : List Wish} (h : WishesAt H ps ws) (x : Ex [] H H') : WishesAt H' ps ws := Paired.mapP h fun _ _ z => z.ex x
theorem WishesAt.get {H : Hp} : ∀ {ps : List Addr} {ws : List Wish}, WishesAt H ps ws → ∀ i, i < ps.length → ∃ p w, ps[i]? = some p ∧ ws[i]? = some w ∧ WishAt H p w
  | _, _, .nil, i, h => absurd h (by simp)
  | _, _, .cons (a := p) (b := w) a r, 0, _ => ⟨p, w, rfl, rfl, a⟩
  | _, _, .cons a r, i + 1, h => by
    obtain ⟨p, w, e1, e2, z⟩ := WishesAt.get r i (by simpa using h)
    exact ⟨p, w, by simpa using e1, by simpa using e2, z⟩
theorem WishesAt.len {H : Hp} {ps : List Addr} {ws : List Wish} (h : WishesAt H ps ws) : ps.length = ws.length := Paired.length h
theorem w__law_broken (T : Tx K mg) : Can P w K mg base CX0 6 "_law_broken" ["_law_shelf", "_law_wishes_here"] (fun vs H Q _ => ∃ (d l : Addr) (ps : List Addr) (ws : List Wish) (S : Shelf), vs = [.ref d, .ref l] ∧ H l = some (.lst (ps.map V.ref)) ∧ WishesAt H ps ws ∧ ShelfAt H d S ∧ ps.length ≤ 1000 ∧
    ∀ H', Ex [] H H' → Q (.int (match fst (ans S) ws with | some i => (i : Nat) | none => -1)) H') :=
  can0 T.d__law_broken sc__law_broken b__law_broken (fun vs H Q E ⟨i, _, _, _, _, e, _⟩ => by rw [e]; rfl) fun f cdv A outer s H vs Q E hr ⟨d, l, ps, ws, S, ev, hl, hw, hd, hle, q⟩ => by
  subst ev
  have c__law_answer := w__law_answer (P := P) (w := w) (base := base) T
  refine ⟨_, (pss_cons (ps_for PassesOwn.never (by rfl) (pi_range1 (by rfl) T.m_range (pa_cons (pe_callB call_len (by rfl) T.m_len (by decide +kernel) (pa_cons (pv 1) pa_nil)) pa_nil)) (pg_name (i := 2) sc__law_broken.nd rfl (Or.inl rfl)) (pss_one (ps_if (pt_not (pt_val (pe_can c__law_answer (hr.mono (by decide)) (by rfl) pass0 (pa_cons (pv 0) (pa_cons (pe_ix ix_list (pv 1) (pv 2) (fun _ _ => rfl)) pa_nil))))) (pss_one (ps_ret (pv 2))) pss_nil)))
    (pss_one (ps_ret (pe_un un_neg pe_int)))), ?_⟩
  walk_at "w"
  refine ⟨by omega, by rw [List.length_map]; omega, for_range (fun i σ H' => Ex [] H H' ∧ ∃ t, σ = [some (.ref d), some (.ref l), t] ∧ ∀ x ∈ ws.take i, ans S x = true) ⟨Ex.refl _ _, none, rfl, by simp⟩ ?_ ?_⟩
  · rintro i σ H' hi ⟨hx, t, rfl, hpre⟩
    rw [List.length_map, Int.toNat_natCast] at hi
    obtain ⟨p, wi, e1, e2, hwi⟩ := hw.get i hi
    have hl1 := hx _ _ (by simp) hl
    refine ⟨_, rfl, _, rfl, _, rfl, _, _, _, .ref p, rfl, rfl, SqL.of hl1, ?_, ?_⟩
    · unfold atI ixN
      rw [if_pos (by omega), if_pos (by rw [List.length_map]; omega)]
      simp [e1]
    refine ⟨d, p, wi, S, rfl, hwi.ex hx, hd.ex hx fun _ _ _ z => z.ex hx, fun H2 hx2 => ?_⟩
    cases ha : ans S wi with
    | true =>
      refine ⟨_, rfl, hx.trans hx2, _, rfl, fun y hy => ?_⟩
      rw [List.take_add_one, e2] at hy
      rcases List.mem_append.mp hy with h | h
      · exact hpre y h
      · rw [show y = wi by simpa using h]
        exact ha
    | false =>
      refine ⟨_, rfl, _, rfl, ?_⟩
      have e := q _ (hx.trans hx2)
      rw [brk_some e2 hpre ha] at e
      rw [Int.zero_add]
      exact e
  · rintro σ H' ⟨hx, t, rfl, hpre⟩
    rw [List.length_map, Int.toNat_natCast, hw.len, List.take_length] at hpre
    have e := q _ hx
    rw [brk_none hpre] at e
    exact ⟨_, rfl, e⟩
end
end G
-- Wk
set_option pp.maxSteps 800
set_option Elab.async false
set_option linter.all false
set_option maxRecDepth 100000
set_option maxHeartbeats 800000
namespace G
open PySem PySem.Spec PyProof.Rows L2 LamX NdefX
local macro_rules | `(tactic| walk_at "g") => `(tactic| repeat (first | refine ⟨_, rfl, ?_⟩ | refine ⟨_, _, rfl, ?_⟩ | refine ⟨_, _, _, rfl, ?_⟩ | refine ⟨_, _, rfl, rfl, ?_⟩ | refine ⟨rfl, ?_⟩))
local macro_rules | `(tactic| walk_at "w") => `(tactic| repeat (first | refine ⟨_, rfl, ?_⟩ | refine ⟨_, _, rfl, ?_⟩ | refine ⟨_, _, _, rfl, ?_⟩ | refine ⟨_, _, rfl, rfl, ?_⟩ | refine ⟨rfl, ?_⟩ | refine Or.inl ⟨_, rfl, ?_⟩ | refine ⟨_, _, rfl, .inr ⟨_, SqT.of (by assumption), rfl⟩, ?_⟩ | refine ⟨_, _, rfl, .inl ⟨_, SqL.of (by assumption), rfl⟩, ?_⟩ | refine ⟨_, _, _, _, rfl, rfl, SqT.of (by assumption), (by rfl), ?_⟩ | refine ⟨_, _, _, _, rfl, rfl, SqL.of (by assumption), (by rfl), ?_⟩ | refine ⟨_, _, _, _, rfl, rfl, SqL.of upd_same, (by rfl), ?_⟩ | refine ⟨_, _, _, _, rfl, rfl, (by assumption), (by rfl), ?_⟩ | refine ⟨_, _, _, _, rfl, rfl, upd_same, (by rfl), ?_⟩))
section
variable {P : Program} {w : World} {K : PySem.W.Frag} {mg : Str → Option Value} {base : Heap}
end
/-- what was tracked is as it was, but for what stands at Ms and for tables -/
def ExT (Ms : List Addr) (H H' : Hp) : Prop := ∀ a o, a ∉ Ms → (∀ ps, o ≠ .tbl ps) → H a = some o → H' a = some o
theorem Ex.t {Ms : List Addr} {H H' : Hp} (x : Ex Ms H H') : ExT Ms H H' := fun a o n _ h => x a o n h
theorem ExT.refl (Ms : List Addr) (H : Hp) : ExT Ms H H := fun _ _ _ _ h => h
theorem ExT.trans {Ms : List Addr} {H H1 H2 : Hp} (a : ExT Ms H H1) (b : ExT Ms H1 H2) : ExT Ms H H2 := fun c o n t h => b c o n t (a c o n t h)
theorem ExT.mono {Ms Ms' : List Addr} {H H' : Hp} (e : ExT Ms H H') (h : ∀ a ∈ Ms, a ∈ Ms') : ExT Ms' H H' := fun a o n t q => e a o (fun z => n (h a z)) t q
theorem ExT.cut {Ms Ns : List Addr} {H H' : Hp} (e : ExT (Ms ++ Ns) H H') (h : ∀ a ∈ Ns, H a = none) : ExT Ms H H' := fun a o n t q => e a o (fun z => by
  rcases List.mem_append.mp z with z | z
  · exact n z
  · rw [h a z] at q
    cases q) t q
theorem ExT.ofN {H H' : Hp} (x : ExtN H H') : ExT [] H H' := fun a o _ t h => x a o h (fun ps => t ps)
/-- what changes: jugs of numbers, instances -/
def Soft (Ms : List Addr) (H : Hp) : Prop := ∀ a ∈ Ms, JugAt H a ∨ ∃ C dx fs, H a = some (.ins C dx fs)
theorem Soft.nil {H : Hp} : Soft [] H := fun _ h => absurd h (by simp)
theorem Soft.jug {H : Hp} {j : Addr} (h : JugAt H j) : Soft [j] H := fun a ha => .inl (by rw [List.mem_singleton.mp ha]; exact h)
theorem Soft.tup {Ms : List Addr} {H H' : Hp} {p : Addr} {xs : List V} (s : Soft Ms H) (x : ExT Ms H H') (e : H p = some (.tup xs)) : H' p = some (.tup xs) := x _ _ (fun z => by
  rcases s p z with h | ⟨C, dx, fs, h⟩
  · exact h.tup e rfl
  · rw [h] at e
    cases e) (fun ps h => by cases h) e
theorem Soft.dK {Ms : List Addr} {H H' : Hp} {p : Addr} {xs : List (Key × V)} (s : Soft Ms H) (x : ExT Ms H H') (e : H p = some (.dK xs)) : H' p = some (.dK xs) := x _ _ (fun z => by
  rcases s p z with ⟨d, m, c, h⟩ | ⟨C, dx, fs, h⟩
  · rw [h] at e
    cases e
  · rw [h] at e
    cases e) (fun ps h => by cases h) e
/-- a list that is no jug -/
def NoJug : List V → Prop
  | [.int _, .int _, .int _] => False
  | _ => True
theorem JugAt.no {H : Hp} {j p : Addr} {xs : List V} (h : JugAt H j) (e : H p = some (.lst xs)) (n : NoJug xs) : p ≠ j := fun z => by
  obtain ⟨d, m, c, h⟩ := h
  rw [z, h] at e
  cases e
  exact n
theorem Soft.lst {Ms : List Addr} {H H' : Hp} {p : Addr} {xs : List V} (s : Soft Ms H) (x : ExT Ms H H') (n : NoJug xs) (e : H p = some (.lst xs)) : H' p = some (.lst xs) := x _ _ (fun z => by
  rcases s p z with h | ⟨C, dx, fs, h⟩
  · exact h.no e n rfl
  · rw [h] at e
    cases e) (fun ps h => by cases h) e
theorem noJug_refs : ∀ ps : List Addr, NoJug (ps.map V.ref)
  | [] => trivial
  | [_] => trivial
  | [_, _] => trivial
  | [_, _, _] => trivial
  | _ :: _ :: _ :: _ :: _ => trivial
theorem PlanAt.soft {Ms : List Addr} {H H' : Hp} {p : Addr} {sg : Int} {r : M.Row} (h : PlanAt H p sg r) (s : Soft Ms H) (x : ExT Ms H H') : PlanAt H' p sg r := by
  obtain ⟨h1, h2, b, h3, h4⟩ := h
  exact ⟨h1, h2, b, s.tup x h3, s.lst x trivial h4⟩
theorem Num.soft {Ms : List Addr} {H H' : Hp} {p : Addr} {sg : Int} {r : M.Row} (h : Num H p sg r) (s : Soft Ms H) (x : ExT Ms H H') : Num H' p sg r := ⟨s.tup x h.1, h.2⟩
theorem WishAt.soft {Ms : List Addr} {H H' : Hp} {p : Addr} {w : Wish} (h : WishAt H p w) (s : Soft Ms H) (x : ExT Ms H H') : WishAt H' p w := ⟨s.tup x h.1, h.2⟩
theorem WishesAt.soft {Ms : List Addr} {H H' : Hp} {ps : List Addr} {ws : List Wish} (h : WishesAt H ps ws) (s : Soft Ms H) (x : ExT Ms H H') : WishesAt H' ps ws := Paired.mapP h fun _ _ z => z.soft s x
theorem NumsAt.soft {Ms : List Addr} {H H' : Hp} {d : Addr} {S : Shelf} (h : NumsAt H d S) (s : Soft Ms H) (x : ExT Ms H H') : NumsAt H' d S := by
  obtain ⟨kvs, h1, h2⟩ := h
  exact ⟨kvs, s.dK x h1, h2.mono fun _ _ _ z => z.soft s x⟩
theorem ShelfAt.soft {Ms : List Addr} {H H' : Hp} {d : Addr} {S : Shelf} (h : ShelfAt H d S) (s : Soft Ms H) (x : ExT Ms H H') : ShelfAt H' d S := by
  obtain ⟨kvs, h1, h2⟩ := h
  exact ⟨kvs, s.dK x h1, h2.mono fun _ _ _ z => z.soft s x⟩
/-- a page of the law: a shelf and its wishes -/
abbrev Page : Type := Shelf × List Wish
def PageAt (H : Hp) (g : Addr) (p : Page) : Prop := ∃ d l ps, H g = some (.tup [.ref d, .ref l]) ∧ ShelfAt H d p.1 ∧ H l = some (.lst (ps.map V.ref)) ∧ WishesAt H ps p.2
theorem PageAt.soft {Ms : List Addr} {H H' : Hp} {g : Addr} {p : Page} (h : PageAt H g p) (s : Soft Ms H) (x : ExT Ms H H') : PageAt H' g p := by
  obtain ⟨d, l, ps, h1, h2, h3, h4⟩ := h
  exact ⟨d, l, ps, s.tup x h1, ShelfAt.soft h2 s x, s.lst x (noJug_refs ps) h3, h4.soft s x⟩
inductive Deed where
  | wish (w : Wish)
  | lift (k : Nat)
  | drop (t : Str)
  | put (t : Str) (sg : Int) (r : M.Row)
def DeedAt (H : Hp) (p : Addr) : Deed → Prop
  | .wish w => ∃ a, H p = some (.lst [.str "wish", .ref a]) ∧ WishAt H a w
  | .lift k => H p = some (.lst [.str "lift", .int (k : Nat)]) ∧ k ≤ 1000
  | .drop t => H p = some (.lst [.str "drop", .str t]) ∧ Title t
  | .put t sg r => ∃ a, H p = some (.lst [.str "put", .str t, .ref a]) ∧ Title t ∧ PlanAt H a sg r
theorem DeedAt.soft {Ms : List Addr} {H H' : Hp} {p : Addr} {d : Deed} (h : DeedAt H p d) (s : Soft Ms H) (x : ExT Ms H H') : DeedAt H' p d := by
  cases d with
  | wish w =>
    obtain ⟨a, h1, h2⟩ := h
    exact ⟨a, s.lst x trivial h1, h2.soft s x⟩
  | lift k => exact ⟨s.lst x trivial h.1, h.2⟩
  | drop t => exact ⟨s.lst x trivial h.1, h.2⟩
  | put t sg r =>
    obtain ⟨a, h1, h2, h3⟩ := h
    exact ⟨a, s.lst x trivial h1, h2, h3.soft s x⟩
section
variable {P : Program} {w : World} {K : PySem.W.Frag} {mg : Str → Option Value} {base : Heap}
def titleL : List V := [.str "a", .str "main", .str "zz"]
theorem title_get {i : Nat} {x : V} (h : titleL[i]? = some x) : ∃ z, x = .str z ∧ Title z := by
  rcases i with _ | _ | _ | i
  · cases h; exact ⟨_, rfl, .inl rfl⟩
  · cases h; exact ⟨_, rfl, .inr (.inl rfl)⟩
  · cases h; exact ⟨_, rfl, .inr (.inr rfl)⟩
  · cases h
theorem sc__law_new_wish : FnScope ["_law_jug_here", "_law_titles", "_law_word", "_law_title"] ["_law_jug_here", "_law_titles"] (defScope s__law_new_wish) :=
  ⟨rfl, rfl, rfl, by decide +kernel, rfl, by decide +kernel, by decide +kernel⟩
theorem b__law_new_wish {K : PySem.W.Frag} {x q : Str} {f : Addr} {fd : FuncData} (F : Fun K x q s__law_new_wish f fd) : Binds K fd ["_law_jug_here", "_law_titles"] [] := F.binds (fun _ _ _ _ _ _ us hl => match us, hl with | [_, _], _ => rfl)
theorem w__law_new_wish (T : Tx K mg) : Can P w K mg base CX0 4 "_law_new_wish" ["_law_jug_here", "_law_titles"] (fun vs H Q _ => ∃ (j l : Addr), vs = [.ref j, .ref l] ∧ JugAt H j ∧ H l = some (.lst titleL) ∧
    ∀ p wi H', Ex [j] H H' → JugAt H' j → H p = none → WishAt H' p wi → Q (.ref p) H') :=
  can0 T.d__law_new_wish sc__law_new_wish b__law_new_wish (fun vs H Q E ⟨i, _, e, _⟩ => by rw [e]; rfl) fun f cdv A outer s H vs Q E hr ⟨j, l, ev, hj, hl, q⟩ => by
  subst ev
  have c__law_one_of := w__law_one_of (P := P) (w := w) (base := base) T
  have c__law_some_n := w__law_some_n (P := P) (w := w) (base := base) T
  refine ⟨_, (pss_cons (ps_par (i := 2) (j := 3) (by rfl) sc__law_new_wish.nd rfl rfl (by decide) rfl rfl (pa_cons (pe_can c__law_one_of (hr.mono (by decide)) (by rfl) pass0 (pa_cons (pv 0) (pa_cons (pe_lst (pa_cons pe_str (pa_cons pe_str (pa_cons pe_str (pa_cons pe_str (pa_cons pe_str (pa_cons pe_str pa_nil))))))) pa_nil))) (pa_cons (pe_can c__law_one_of (hr.mono (by decide)) (by rfl) pass0 (pa_cons (pv 0) (pa_cons (pv 1) pa_nil))) pa_nil)) (by rfl))
    (pss_cons (ps_if (pt_cmpR op_eq (pv 2) pe_str (nomark _)) (pss_one (ps_ret (pe_tup (pa_cons (pv 2) (pa_cons (pv 3) pa_nil))))) pss_nil)
    (pss_one (ps_ret (pe_tup (pa_cons (pv 2) (pa_cons (pv 3) (pa_cons (pe_ifExp (pt_cmpR op_eq (pv 2) pe_str (nomark _)) (pe_can c__law_one_of (hr.mono (by decide)) (by rfl) pass0 (pa_cons (pv 0) (pa_cons (pv 1) pa_nil))) (pe_can c__law_some_n (hr.mono (by decide)) (by rfl) pass0 (pa_cons (pv 0) pa_nil))) pa_nil)))))))), ?_⟩
  have hlj := hj.no hl trivial
  refine ⟨_, rfl, ?_⟩
  refine ⟨by show 6 ≤ sizeLine; decide, fun l1 n1 => ?_⟩
  refine ⟨j, l1, _, rfl, hj.put n1, upd_same, hj.ne n1, by decide, by decide, fun i x H1 hi hx1 hj1 => ?_⟩
  have hl1 := hx1 _ _ (by simpa using hlj) (upN n1 hl)
  refine ⟨_, rfl, _, rfl, j, l, titleL, rfl, hj1, hl1, hlj, by decide, by decide, fun i2 x2 H2 hi2 hx2 hj2 => ?_⟩
  have hl2 := hx2 _ _ (by simpa using hlj) hl1
  obtain ⟨t, rfl, ht⟩ := title_get hi2
  have hx : Ex [j] H H2 := ((Ex.new0 n1).trans hx1).trans hx2
  have hwd : x = .str "splits" ∨ x = .str "whole" ∨ x = .str "always" ∨ x = .str "alike" := by
    rcases i with _ | _ | _ | _ | _ | _ | i <;> cases hi <;> simp
  have h3 : 3 ≤ sizeLine := by decide
  have hnum : ∀ sp : Bool, x = .str (Wish.num sp t 1).word → ∀ (n : Nat) (H3 : Hp), 1 ≤ n → n ≤ 10 ^ 30 → Ex [j] H2 H3 → JugAt H3 j → [x, V.str t, .int n].length ≤ sizeLine ∧ ∀ p, H3 p = none → Q (.ref p) (upd H3 p (.tup [x, V.str t, .int n])) := fun sp e n H3 a b hx3 hj3 =>
    ⟨h3, fun p np => q p (.num sp t n) _ ((hx.trans hx3).new np) (hj3.put np) (hj3.fresh (hx.trans hx3) np) ⟨by rw [upd_same, e]; cases sp <;> rfl, ht, a, b⟩⟩
  rcases hwd with e | e | e | e
  · have hn := hnum true e
    subst e
    walk_at "g"
    exact ⟨hj2, hn⟩
  · have hn := hnum false e
    subst e
    walk_at "g"
    exact ⟨hj2, hn⟩
  · subst e
    walk_at "g"
    exact ⟨by show 2 ≤ sizeLine; decide, fun p np => q p (.always t) _ (hx.new np) (hj2.put np) (hj2.fresh hx np) ⟨upd_same, ht⟩⟩
  · subst e
    walk_at "g"
    refine ⟨_, _, titleL, rfl, hj2, hl2, hlj, by decide, by decide, fun i3 x3 H3 hi3 hx3 hj3 => ?_⟩
    obtain ⟨u, rfl, hu⟩ := title_get hi3
    exact ⟨h3, fun p np => q p (.alike t u) _ ((hx.trans hx3).new np) (hj3.put np) (hj3.fresh (hx.trans hx3) np) ⟨upd_same, ht, hu⟩⟩
theorem sc__law_new_deed : FnScope ["_law_jug_here", "_law_page", "_law_titles", "_law_way"] ["_law_jug_here", "_law_page"] (defScope s__law_new_deed) :=
  ⟨rfl, rfl, rfl, by decide +kernel, rfl, by decide +kernel, by decide +kernel⟩
theorem b__law_new_deed {K : PySem.W.Frag} {x q : Str} {f : Addr} {fd : FuncData} (F : Fun K x q s__law_new_deed f fd) : Binds K fd ["_law_jug_here", "_law_page"] [] := F.binds (fun _ _ _ _ _ _ us hl => match us, hl with | [_, _], _ => rfl)
theorem w__law_new_deed (T : Tx K mg) : Can P w K mg base CX0 5 "_law_new_deed" ["_law_jug_here", "_law_page"] (fun vs H Q _ => ∃ (j g d l : Addr) (ps : List Addr), vs = [.ref j, .ref g] ∧ JugAt H j ∧ H g = some (.tup [.ref d, .ref l]) ∧ H l = some (.lst (ps.map V.ref)) ∧ ps.length ≤ 1000 ∧
    ∀ p de H', Ex [j] H H' → JugAt H' j → H p = none → DeedAt H' p de → Q (.ref p) H') :=
  can0 T.d__law_new_deed sc__law_new_deed b__law_new_deed (fun vs H Q E ⟨i, _, _, _, _, e, _⟩ => by rw [e]; rfl) fun f cdv A outer s H vs Q E hr ⟨j, g, d, l, ps, ev, hj, hg, hl, hle, q⟩ => by
  subst ev
  have c__law_pull := w__law_pull (P := P) (w := w) (base := base) T
  have c__law_one_of := w__law_one_of (P := P) (w := w) (base := base) T
  have c__law_new_wish := w__law_new_wish (P := P) (w := w) (base := base) T
  have c__law_plan := w__law_plan (P := P) (w := w) (base := base) T
  refine ⟨_, (pss_cons (ps_par (i := 2) (j := 3) (by rfl) sc__law_new_deed.nd rfl rfl (by decide) rfl rfl (pa_cons (pe_lst (pa_cons pe_str (pa_cons pe_str (pa_cons pe_str pa_nil)))) (pa_cons (pe_can c__law_pull (hr.mono (by decide)) (by rfl) pass0 (pa_cons (pv 0) (pa_cons pe_int pa_nil))) pa_nil)) (by rfl))
    (pss_cons (ps_if (pt_cmpR op_lt (pv 3) pe_int (nomark _)) (pss_one (ps_ret (pe_lst (pa_cons pe_str (pa_cons (pe_can c__law_new_wish (hr.mono (by decide)) (by rfl) pass0 (pa_cons (pv 0) (pa_cons (pv 2) pa_nil))) pa_nil))))) pss_nil)
    (pss_cons (ps_if (pt_cmpR op_eq (pv 3) pe_int (nomark _)) (pss_one (ps_ret (pe_lst (pa_cons pe_str (pa_cons (pe_can c__law_pull (hr.mono (by decide)) (by rfl) pass0 (pa_cons (pv 0) (pa_cons (pe_op op_add (pe_callB call_len (by rfl) T.m_len (by decide +kernel) (pa_cons (pe_ix ix_tup (pv 1) pe_int (fun _ _ => rfl)) pa_nil)) pe_int) pa_nil))) pa_nil))))) pss_nil)
    (pss_cons (ps_if (pt_cmpR op_eq (pv 3) pe_int (nomark _)) (pss_one (ps_ret (pe_lst (pa_cons pe_str (pa_cons (pe_can c__law_one_of (hr.mono (by decide)) (by rfl) pass0 (pa_cons (pv 0) (pa_cons (pv 2) pa_nil))) pa_nil))))) pss_nil)
    (pss_one (ps_ret (pe_lst (pa_cons pe_str (pa_cons (pe_can c__law_one_of (hr.mono (by decide)) (by rfl) pass0 (pa_cons (pv 0) (pa_cons (pv 2) pa_nil))) (pa_cons (pe_can c__law_plan (hr.mono (by decide)) (by rfl) pass0 (pa_cons (pv 0) pa_nil)) pa_nil)))))))))), ?_⟩
  have h1000 : 1000 ≤ sizeLine := by decide
  refine ⟨by show 3 ≤ sizeLine; omega, fun tl ntl => ?_⟩
  refine ⟨_, rfl, _, 8, rfl, hj.put ntl, by decide, by decide, fun way H1 hway hx1 hj1 => ?_⟩
  have htj : tl ≠ j := hj.ne ntl
  have ht1 : H1 tl = some (.lst titleL) := hx1 _ _ (by simpa using htj) upd_same
  have hx : Ex [j] H H1 := (Ex.new0 ntl).trans hx1
  have hg1 := Soft.tup (Soft.jug hj) hx.t hg
  have hl1 := Soft.lst (Soft.jug hj) hx.t (noJug_refs ps) hl
  walk_at "g"
  refine ite2 (fun c => ?_) fun c => ?_
  · refine ⟨_, rfl, _, rfl, j, tl, rfl, hj1, ht1, fun p wi H2 hx2 hj2 np hw => ?_⟩
    exact ⟨by show 2 ≤ sizeLine; omega, fun q1 nq => q q1 (.wish wi) _ ((hx.trans hx2).new nq) (hj2.put nq) (hj2.fresh (hx.trans hx2) nq) ⟨p, upd_same, hw.ex (Ex.new0 nq)⟩⟩
  · walk_at "g"
    refine ite2 (fun c => ?_) fun c => ?_
    · refine ⟨_, rfl, _, rfl, _, _, _, _, rfl, rfl, SqT.of hg1, rfl, _, _, rfl, .inl ⟨_, SqL.of hl1, rfl⟩, _, _, rfl, rfl, ?_⟩
      refine ⟨j, ps.length + 1, by rw [List.length_map, Int.natCast_add]; rfl, hj1, by omega, by omega, fun k H2 hk hx2 hj2 => ?_⟩
      exact ⟨by show 2 ≤ sizeLine; omega, fun q1 nq => q q1 (.lift k) _ ((hx.trans hx2).new nq) (hj2.put nq) (hj2.fresh (hx.trans hx2) nq) ⟨upd_same, by omega⟩⟩
    · walk_at "g"
      refine ite2 (fun c => ?_) fun c => ?_
      · refine ⟨_, rfl, _, rfl, j, tl, titleL, rfl, hj1, ht1, htj, by decide, by decide, fun i x H2 hi hx2 hj2 => ?_⟩
        obtain ⟨t, rfl, ht⟩ := title_get hi
        exact ⟨by show 2 ≤ sizeLine; omega, fun q1 nq => q q1 (.drop t) _ ((hx.trans hx2).new nq) (hj2.put nq) (hj2.fresh (hx.trans hx2) nq) ⟨upd_same, ht⟩⟩
      · refine ⟨_, rfl, _, rfl, j, tl, titleL, rfl, hj1, ht1, htj, by decide, by decide, fun i x H2 hi hx2 hj2 => ?_⟩
        obtain ⟨t, rfl, ht⟩ := title_get hi
        refine ⟨_, rfl, j, rfl, hj2, fun p sg r H3 hx3 hj3 np hpl => ?_⟩
        exact ⟨by show 3 ≤ sizeLine; omega, fun q1 nq => q q1 (.put t sg r) _ (((hx.trans hx2).trans hx3).new nq) (hj3.put nq) (hj3.fresh ((hx.trans hx2).trans hx3) nq) ⟨p, upd_same, ht, hpl.ex (Ex.new0 nq)⟩⟩
end
end G
-- Wl
set_option pp.maxSteps 800
set_option Elab.async false
set_option linter.all false
set_option maxRecDepth 100000
set_option maxHeartbeats 800000
namespace G
open PySem PySem.Spec PyProof.Rows L2 LamX NdefX
local macro_rules | `(tactic| walk_at "g") => `(tactic| repeat (first | refine ⟨_, rfl, ?_⟩ | refine ⟨_, _, rfl, ?_⟩ | refine ⟨_, _, _, rfl, ?_⟩ | refine ⟨_, _, rfl, rfl, ?_⟩ | refine ⟨rfl, ?_⟩))
local macro_rules | `(tactic| walk_at "w") => `(tactic| repeat (first | refine ⟨_, rfl, ?_⟩ | refine ⟨_, _, rfl, ?_⟩ | refine ⟨_, _, _, rfl, ?_⟩ | refine ⟨_, _, rfl, rfl, ?_⟩ | refine ⟨rfl, ?_⟩ | refine Or.inl ⟨_, rfl, ?_⟩ | refine ⟨_, _, rfl, .inr ⟨_, SqT.of (by assumption), rfl⟩, ?_⟩ | refine ⟨_, _, rfl, .inl ⟨_, SqL.of (by assumption), rfl⟩, ?_⟩ | refine ⟨_, _, _, _, rfl, rfl, SqT.of (by assumption), (by rfl), ?_⟩ | refine ⟨_, _, _, _, rfl, rfl, SqL.of (by assumption), (by rfl), ?_⟩ | refine ⟨_, _, _, _, rfl, rfl, SqL.of upd_same, (by rfl), ?_⟩ | refine ⟨_, _, _, _, rfl, rfl, (by assumption), (by rfl), ?_⟩ | refine ⟨_, _, _, _, rfl, rfl, upd_same, (by rfl), ?_⟩))
section
variable {P : Program} {w : World} {K : PySem.W.Frag} {mg : Str → Option Value} {base : Heap}
end
def showI (i : Int) : Str := (PyData.int i).shown
def showS (z : Str) : Str := (PyData.str z).shown
def rReprL : List V → Hp → VK → Prop := fun xs H Q => (∃ i : Int, xs = [.int i] ∧ i.natAbs < 2 ^ 64 ∧ Q (.str (showI i)) H) ∨ ∃ z : Str, xs = [.str z] ∧ (showS z).length ≤ sizeLine ∧ Q (.str (showS z)) H
theorem call_reprL {X : Cx} : CallR X (.builtin "repr") rReprL := by
  intro pins s σ H xs us Q I r h
  rcases h with ⟨i, rfl, h, q⟩ | ⟨z, rfl, h, q⟩
  · obtain ⟨u, rfl, ru⟩ := vals1 r
    obtain ⟨t, rfl⟩ := ru
    have hl : i.natAbs.log2 < 1920 := Nat.lt_trans (PySem.Flt.log2_lt_of (by decide) h) (by decide)
    exact PySem.P.repr_of_int hl ⟨.str _, H, I.tok _, ⟨_, by rw [showI, PyData.shown_int]⟩, q⟩
  · obtain ⟨u, rfl, ru⟩ := vals1 r
    obtain ⟨t, rfl⟩ := ru
    rw [showS, PyData.shown_str] at h
    exact PySem.P.repr_of_str ⟨.str _, H, I.tok _, ⟨_, by rw [showS, PyData.shown_str]⟩, q⟩ h
def dropS (S : Shelf) (t : Str) : Shelf := S.filter fun e => decide (e.1 ≠ t)
def putS (S : Shelf) (t : Str) (v : Int × M.Row) : Shelf := if (S.any fun e => decide (e.1 = t)) = true then S.map (fun e => if e.1 = t then (e.1, v) else e) else S ++ [(t, v)]
def notIn (t : Str) (w : Wish) : Bool := !decide (t ∈ w.names)
def behind (p : Page) : Deed → List Str × Page
  | .lift k => if k < p.2.length then ([], p.1, p.2.take k ++ p.2.drop (k + 1)) else ([("InvalidIndex" : Str), showI k], p)
  | .drop t => match getS p.1 t with
    | none => ([("UnknownName" : Str), showS t], p)
    | some _ => match fst (notIn t) p.2 with
      | some i => ([("InUse" : Str), showI i], p)
      | none => ([], dropS p.1 t, p.2)
  | .wish w => match brk p.1 (p.2 ++ [w]) with
    | some i => ([("Broken" : Str), showI i], p)
    | none => ([], p.1, p.2 ++ [w])
  | .put t sg r => match brk (putS p.1 t (sg, r)) p.2 with
    | some i => ([("Broken" : Str), showI i], p)
    | none => ([], putS p.1 t (sg, r), p.2)
theorem ItemsAt.drop {F : Hp → Addr → Int → M.Row → Prop} {H : Hp} {t : Str} : ∀ {kvs : List (Key × V)} {S : Shelf}, ItemsAt F H kvs S → ItemsAt F H (kvs.filter fun kv => decide (kv.1 ≠ Sum.inr t)) (dropS S t)
  | _, _, .nil => .nil
  | _, _, .cons (a := kv) (b := e) ⟨p, e1, f⟩ rest => by
    subst e1
    have ih := ItemsAt.drop (t := t) rest
    unfold dropS at ih ⊢
    by_cases h : e.1 = t
    · rw [List.filter_cons_of_neg (by simp [h]), List.filter_cons_of_neg (by simp [h])]
      exact ih
    · rw [List.filter_cons_of_pos (by simp [h]), List.filter_cons_of_pos (by simp [h])]
      exact .cons ⟨p, rfl, f⟩ ih
theorem ItemsAt.any {F : Hp → Addr → Int → M.Row → Prop} {H : Hp} {t : Str} : ∀ {kvs : List (Key × V)} {S : Shelf}, ItemsAt F H kvs S → (kvs.any fun kv => decide (kv.1 = (Sum.inr t : Key))) = S.any fun e => decide (e.1 = t)
  | _, _, .nil => rfl
  | _, _, .cons (a := kv) (b := e) ⟨p, e1, f⟩ rest => by
    subst e1
    have ih := ItemsAt.any (t := t) rest
    rw [List.any_cons, List.any_cons, ih]
    congr 1
    by_cases h : e.1 = t <;> simp [h]
theorem ItemsAt.put {F : Hp → Addr → Int → M.Row → Prop} {H : Hp} {t : Str} {q : Addr} {sg : Int} {r : M.Row} (hq : F H q sg r) {kvs : List (Key × V)} {S : Shelf} (h : ItemsAt F H kvs S) : ItemsAt F H (putK kvs (Sum.inr t : Key) (.ref q)) (putS S t (sg, r)) := by
  unfold putK putS
  rw [h.any]
  split
  · have recu : ∀ {kvs : List (Key × V)} {S : Shelf}, ItemsAt F H kvs S → ItemsAt F H (kvs.map fun kv => if kv.1 = (Sum.inr t : Key) then (kv.1, V.ref q) else kv) (S.map fun e => if e.1 = t then (e.1, (sg, r)) else e) := by
      intro kvs S h
      induction h with
      | nil => exact .nil
      | @cons kv e kvs S h rest ih =>
        obtain ⟨p, e1, f⟩ := h
        subst e1
        rw [List.map_cons, List.map_cons]
        by_cases z : e.1 = t
        · rw [if_pos z, if_pos (by simp [z])]
          exact .cons ⟨q, rfl, hq⟩ ih
        · rw [if_neg z, if_neg (by simp [z])]
          exact .cons ⟨p, rfl, f⟩ ih
    exact recu h
  · have recu : ∀ {kvs : List (Key × V)} {S : Shelf}, ItemsAt F H kvs S → ItemsAt F H (kvs ++ [((Sum.inr t : Key), V.ref q)]) (S ++ [(t, sg, r)]) := by
      intro kvs S h
      induction h with
      | nil => exact .cons ⟨q, rfl, hq⟩ .nil
      | cons h rest ih => exact .cons h ih
    exact recu h
theorem in_names {t : Str} : ∀ ns : List Str, inV (.str t) (ns.map V.str) = decide (t ∈ ns)
  | [] => rfl
  | n :: ns => by
    have ih := in_names (t := t) ns
    unfold inV at ih ⊢
    rw [List.map_cons, List.any_cons, ih]
    by_cases h : n = t
    · subst h
      simp [eqV]
    · have h2 : ¬ t = n := fun z => h z.symm
      simp [eqV, h, h2]
theorem mergeK_go : ∀ (kvs acc : List (Key × V)), (∀ k ∈ kvs.map (·.1), k ∉ acc.map (·.1)) → (kvs.map (·.1)).Nodup → mergeK acc kvs = acc ++ kvs
  | [], acc, _, _ => (List.append_nil acc).symm
  | kv :: kvs, acc, h1, h2 => by
    show mergeK (putK acc kv.1 kv.2) kvs = _
    have e : putK acc kv.1 kv.2 = acc ++ [kv] := by
      unfold putK
      rw [if_neg]
      intro z
      obtain ⟨x, hx, hk⟩ := List.any_eq_true.mp z
      exact h1 kv.1 (by simp) (List.mem_map.mpr ⟨x, hx, of_decide_eq_true hk⟩)
    rw [List.map_cons, List.nodup_cons] at h2
    rw [e, mergeK_go kvs (acc ++ [kv]) (fun k hk z => ?_) h2.2, List.append_assoc]
    · rfl
    · rw [List.map_append] at z
      rcases List.mem_append.mp z with z | z
      · exact h1 k (by rw [List.map_cons]; exact List.mem_cons_of_mem _ hk) z
      · rw [show k = kv.1 by simpa using z] at hk
        exact h2.1 hk
theorem mergeK_nodup {kvs : List (Key × V)} (h : (kvs.map (·.1)).Nodup) : mergeK [] kvs = kvs := by
  have e := mergeK_go kvs [] (by simp) h
  simpa using e
theorem ItemsAt.keys {F : Hp → Addr → Int → M.Row → Prop} {H : Hp} : ∀ {kvs : List (Key × V)} {S : Shelf}, ItemsAt F H kvs S → kvs.map (·.1) = (S.map (·.1)).map Sum.inr
  | _, _, .nil => rfl
  | _, _, .cons (b := e) ⟨p, e1, f⟩ rest => by
    subst e1
    rw [List.map_cons, List.map_cons, List.map_cons, ItemsAt.keys rest]
theorem inr_nodup : ∀ {l : List Str}, l.Nodup → (l.map (Sum.inr : Str → Key)).Nodup
  | [], _ => List.nodup_nil
  | x :: l, h => by
    rw [List.nodup_cons] at h
    rw [List.map_cons, List.nodup_cons]
    refine ⟨fun z => ?_, inr_nodup h.2⟩
    obtain ⟨y, hy, e⟩ := List.mem_map.mp z
    cases e
    exact h.1 hy
/-- a page that keeps its wishes -/
structure Page.Ok (p : Page) : Prop where
  nd : (p.1.map (·.1)).Nodup
  ti : ∀ e ∈ p.1, Title e.1
  ok : brk p.1 p.2 = none
theorem title_str {z : Str} (h : Title z) : NameOk z ∧ (showS z).length ≤ 1000 := by
  rcases h with e | e | e <;> subst e
  · exact ⟨⟨by decide +kernel, by decide +kernel, by decide +kernel⟩, by rw [showS, PyData.shown_str]; decide +kernel⟩
  · exact ⟨⟨by decide +kernel, by decide +kernel, by decide +kernel⟩, by rw [showS, PyData.shown_str]; decide +kernel⟩
  · exact ⟨⟨by decide +kernel, by decide +kernel, by decide +kernel⟩, by rw [showS, PyData.shown_str]; decide +kernel⟩
theorem nodup_titles {l : List Str} (h : l.Nodup) (ht : ∀ z ∈ l, Title z) : l.length ≤ 3 := by
  have hs : l ⊆ ["a", "main", "zz"] := fun z hz => by
    rcases ht z hz with e | e | e <;> subst e <;> simp
  exact h.length_le_of_subset hs
theorem putS_keys {S : Shelf} {t : Str} {v : Int × M.Row} : (putS S t v).map (·.1) = if (S.any fun e => decide (e.1 = t)) = true then S.map (·.1) else S.map (·.1) ++ [t] := by
  unfold putS
  split
  · rw [List.map_map]
    refine List.map_congr_left fun e _ => ?_
    show (if e.1 = t then (e.1, v) else e).1 = e.1
    split <;> rfl
  · rw [List.map_append]
    rfl
theorem brk_snoc {S : Shelf} {ws : List Wish} {w : Wish} (h : brk S ws = none) : brk S (ws ++ [w]) = if ans S w = true then none else some ws.length := by
  have ha := all_of_none h
  by_cases z : ans S w = true
  · rw [if_pos z]
    refine brk_none fun x hx => ?_
    rcases List.mem_append.mp hx with y | y
    · exact ha x y
    · rw [show x = w by simpa using y]
      exact z
  · rw [if_neg z]
    exact brk_some (w := w) (by simp) (fun x hx => ha x (by simpa using hx)) (by cases q : ans S w <;> simp_all)
theorem dropS_get {S : Shelf} {t u : Str} (h : u ≠ t) : getS (dropS S t) u = getS S u := by
  unfold getS dropS
  induction S with
  | nil => rfl
  | cons e S ih =>
    by_cases z : e.1 = t
    · rw [List.filter_cons_of_neg (by simp [z]), List.find?_cons_of_neg (by simp; intro y; exact h (by rw [← y, z]))]
      exact ih
    · rw [List.filter_cons_of_pos (by simp [z])]
      by_cases y : e.1 = u
      · rw [List.find?_cons_of_pos (by simp [y]), List.find?_cons_of_pos (by simp [y])]
      · rw [List.find?_cons_of_neg (by simp [y]), List.find?_cons_of_neg (by simp [y])]
        exact ih
theorem dropS_ans {S : Shelf} {t : Str} {w : Wish} (h : notIn t w = true) : ans (dropS S t) w = ans S w := by
  have hn : t ∉ w.names := by
    unfold notIn at h
    simpa using h
  cases w with
  | always u =>
    have : u ≠ t := fun z => hn (by simp [Wish.names, z])
    simp only [ans, dropS_get this]
  | alike u v =>
    have h1 : u ≠ t := fun z => hn (by simp [Wish.names, z])
    have h2 : v ≠ t := fun z => hn (by simp [Wish.names, z])
    simp only [ans, dropS_get h1, dropS_get h2]
  | num sp u n =>
    have : u ≠ t := fun z => hn (by simp [Wish.names, z])
    simp only [ans, dropS_get this]
/-- a deed keeps such a page -/
theorem behind_lift1 {p : Page} {k : Nat} (h : k < p.2.length) : behind p (.lift k) = ([], p.1, p.2.take k ++ p.2.drop (k + 1)) := if_pos h
theorem behind_lift2 {p : Page} {k : Nat} (h : ¬ k < p.2.length) : behind p (.lift k) = ([("InvalidIndex" : Str), showI k], p) := if_neg h
theorem behind_drop0 {p : Page} {t : Str} (h : getS p.1 t = none) : behind p (.drop t) = ([("UnknownName" : Str), showS t], p) := by
  simp only [behind, h]
theorem behind_drop1 {p : Page} {t : Str} {v : Int × M.Row} {i : Nat} (h : getS p.1 t = some v) (h2 : fst (notIn t) p.2 = some i) : behind p (.drop t) = ([("InUse" : Str), showI i], p) := by
  simp only [behind, h, h2]
theorem behind_drop2 {p : Page} {t : Str} {v : Int × M.Row} (h : getS p.1 t = some v) (h2 : fst (notIn t) p.2 = none) : behind p (.drop t) = ([], dropS p.1 t, p.2) := by
  simp only [behind, h, h2]
theorem behind_wish1 {p : Page} {w : Wish} {i : Nat} (h : brk p.1 (p.2 ++ [w]) = some i) : behind p (.wish w) = ([("Broken" : Str), showI i], p) := by
  simp only [behind, h]
theorem behind_wish2 {p : Page} {w : Wish} (h : brk p.1 (p.2 ++ [w]) = none) : behind p (.wish w) = ([], p.1, p.2 ++ [w]) := by
  simp only [behind, h]
theorem behind_put1 {p : Page} {t : Str} {sg : Int} {r : M.Row} {i : Nat} (h : brk (putS p.1 t (sg, r)) p.2 = some i) : behind p (.put t sg r) = ([("Broken" : Str), showI i], p) := by
  simp only [behind, h]
theorem behind_put2 {p : Page} {t : Str} {sg : Int} {r : M.Row} (h : brk (putS p.1 t (sg, r)) p.2 = none) : behind p (.put t sg r) = ([], putS p.1 t (sg, r), p.2) := by
  simp only [behind, h]
theorem behind_ok {p : Page} {d : Deed} (h : p.Ok) (hd : ∀ t sg r, d = .put t sg r → Title t) : ((behind p d).2).Ok := by
  cases d with
  | lift k =>
    by_cases hk : k < p.2.length
    · rw [behind_lift1 hk]
      refine ⟨h.nd, h.ti, brk_none fun x hx => all_of_none h.ok x ?_⟩
      rcases List.mem_append.mp hx with z | z
      · exact List.mem_of_mem_take z
      · exact List.mem_of_mem_drop z
    · rw [behind_lift2 hk]
      exact h
  | drop t =>
    cases hg : getS p.1 t with
    | none =>
      rw [behind_drop0 hg]
      exact h
    | some v =>
      cases hf : fst (notIn t) p.2 with
      | some i =>
        rw [behind_drop1 hg hf]
        exact h
      | none =>
        rw [behind_drop2 hg hf]
        refine ⟨?_, fun e he => h.ti e (List.mem_filter.mp he).1, brk_none fun x hx => ?_⟩
        · exact h.nd.sublist (List.Sublist.map _ List.filter_sublist)
        · show ans (dropS p.1 t) x = true
          rw [dropS_ans (all_of_none hf x hx)]
          exact all_of_none h.ok x hx
  | wish w =>
    cases hb : brk p.1 (p.2 ++ [w]) with
    | some i =>
      rw [behind_wish1 hb]
      exact h
    | none =>
      rw [behind_wish2 hb]
      exact ⟨h.nd, h.ti, hb⟩
  | put t sg r =>
    cases hb : brk (putS p.1 t (sg, r)) p.2 with
    | some i =>
      rw [behind_put1 hb]
      exact h
    | none =>
      rw [behind_put2 hb]
      have ht := hd t sg r rfl
      refine ⟨?_, ?_, hb⟩
      · show ((putS p.1 t (sg, r)).map (·.1)).Nodup
        rw [putS_keys]
        split
        · exact h.nd
        · rename_i hn
          rw [List.nodup_append]
          refine ⟨h.nd, by simp, fun a ha b hb2 => ?_⟩
          rw [List.mem_singleton.mp hb2]
          intro e
          obtain ⟨x, hx, hxe⟩ := List.mem_map.mp ha
          exact hn (List.any_eq_true.mpr ⟨x, hx, decide_eq_true (hxe.trans e)⟩)
      · intro e he
        have hm : e.1 ∈ (putS p.1 t (sg, r)).map (·.1) := List.mem_map.mpr ⟨e, he, rfl⟩
        rw [putS_keys] at hm
        have hold : e.1 ∈ p.1.map (·.1) → Title e.1 := fun z => by
          obtain ⟨x, hx, hxe⟩ := List.mem_map.mp z
          rw [← hxe]
          exact h.ti x hx
        split at hm
        · exact hold hm
        · rcases List.mem_append.mp hm with z | z
          · exact hold z
          · rw [List.mem_singleton.mp z]
            exact ht
section
end
end G
-- Wm
set_option pp.maxSteps 800
set_option Elab.async false
set_option linter.all false
set_option maxRecDepth 100000
set_option maxHeartbeats 800000
namespace G
open PySem PySem.Spec PyProof.Rows L2 LamX NdefX
local macro_rules | `(tactic| walk_at "g") => `(tactic| repeat (first | refine ⟨_, rfl, ?_⟩ | refine ⟨_, _, rfl, ?_⟩ | refine ⟨_, _, _, rfl, ?_⟩ | refine ⟨_, _, rfl, rfl, ?_⟩ | refine ⟨rfl, ?_⟩))
local macro_rules | `(tactic| walk_at "w") => `(tactic| repeat (first | refine ⟨_, rfl, ?_⟩ | refine ⟨_, _, rfl, ?_⟩ | refine ⟨_, _, _, rfl, ?_⟩ | refine ⟨_, _, rfl, rfl, ?_⟩ | refine ⟨rfl, ?_⟩ | refine Or.inl ⟨_, rfl, ?_⟩ | refine ⟨_, _, rfl, .inr ⟨_, SqT.of (by assumption), rfl⟩, ?_⟩ | refine ⟨_, _, rfl, .inl ⟨_, SqL.of (by assumption), rfl⟩, ?_⟩ | refine ⟨_, _, _, _, rfl, rfl, SqT.of (by assumption), (by rfl), ?_⟩ | refine ⟨_, _, _, _, rfl, rfl, SqL.of (by assumption), (by rfl), ?_⟩ | refine ⟨_, _, _, _, rfl, rfl, SqL.of upd_same, (by rfl), ?_⟩ | refine ⟨_, _, _, _, rfl, rfl, (by assumption), (by rfl), ?_⟩ | refine ⟨_, _, _, _, rfl, rfl, upd_same, (by rfl), ?_⟩))
section
variable {P : Program} {w : World} {K : PySem.W.Frag} {mg : Str → Option Value} {base : Heap}
end
theorem ix_listE {X : Cx} {K : PySem.W.Frag} (h : X.K = K := by rfl) : IxR X (rIxL K) := h ▸ ix_list
theorem ix_tupE {X : Cx} {K : PySem.W.Frag} (h : X.K = K := by rfl) : IxR X (rIxT K) := h ▸ ix_tup
theorem op_in_seqE {X : Cx} {K : PySem.W.Frag} (h : X.K = K := by rfl) : OpR X (compareOp .In) (rIn K false) := h ▸ op_in_seq
/-- a comprehension over a dict's keys -/
theorem lc_keys {d : Addr} {o : Obj} {kvs : List (Key × V)} {g : TG} {tt : TT} {te : TE} {vs : List Nat} {σ : L2.St} {H1 : Hp} {D : Addr} {Qd : Hp → Prop} (Pv : Nat → Hp → Prop) (h0 : Pv 0 (upd H1 D (.lst []))) (hl : ∀ i H, Pv i H → H d = some (.frz o (.dK kvs)))
    (hs : ∀ i k v H, kvs[i]? = some (k, v) → Pv i H → g (kV k) (wipe σ vs) H fun σ2 H2 => wipe σ2 vs = wipe σ vs ∧ tt σ2 H2 fun b H3 =>
      if b = true then te σ2 H3 fun y H4 => ∃ acc, H4 D = some (.lst acc) ∧ acc.length < sizeLine ∧ Pv (i + 1) (upd H4 D (.lst (acc ++ [y]))) else Pv (i + 1) H3) (hd : ∀ H, Pv kvs.length H → Qd H) :
    ∃ W : Nat → Nat → Hp → Prop, (∃ m, W 0 m (upd H1 D (.lst []))) ∧ ∀ i m H, W i m H →
      ((Itk d o kvs).stop i H ∧ Qd H) ∨ ((Itk d o kvs).go i H ∧ ∃ Nx : Hp → Prop, (∀ H', Nx H' → ∃ m', m' < m ∧ W (i + 1) m' H') ∧ ∀ v H', (Itk d o kvs).yld i H v H' → g v (wipe σ vs) H' fun σ2 H2 => wipe σ2 vs = wipe σ vs ∧ tt σ2 H2 fun b H3 =>
        if b = true then te σ2 H3 fun y H4 => ∃ acc, H4 D = some (.lst acc) ∧ acc.length < sizeLine ∧ Nx (upd H4 D (.lst (acc ++ [y]))) else Nx H3) := by
  refine ⟨fun i m H => Pv i H ∧ i ≤ kvs.length ∧ m = kvs.length - i, ⟨_, h0, Nat.zero_le _, rfl⟩, fun i m H ⟨hp, hi, hm⟩ => ?_⟩
  rcases Nat.lt_or_ge i kvs.length with h | h
  · refine .inr ⟨⟨hl i H hp, h⟩, Pv (i + 1), fun H' z => ⟨kvs.length - (i + 1), by omega, z, h, rfl⟩, fun x H' ⟨e, k, v, hk, ex⟩ => ?_⟩
    subst e ex
    exact hs i k v H' hk hp
  · obtain rfl : i = kvs.length := by omega
    exact .inl ⟨⟨hl _ H hp, Nat.le_refl _⟩, hd H hp⟩
theorem Ex.unlock {H H' : Hp} {d : Addr} {o : Obj} {u : HO} (hd : H d = some u) (x : Ex [] (upd H d (.frz o u)) H') : Ex [] H (upd H' d u) := fun a v n q => by
  by_cases h : a = d
  · rw [h] at q ⊢
    rw [upd_same, ← hd, q]
  · rw [upd_ne h]
    exact x a v n (by rw [upd_ne h]; exact q)
theorem Ex.lockS {H : Hp} {d p : Addr} {o : Obj} {u v : HO} (h : H p = some v) (n : p ≠ d) : upd H d (.frz o u) p = some v := by
  rw [upd_ne n]
  exact h
theorem cut_mid {ps : List Addr} {k : Nat} (h : k < ps.length) : cutV (ps.map V.ref) none (some (k : Int)) ++ cutV (ps.map V.ref) (some ((k : Int) + 1)) none = (ps.take k ++ ps.drop (k + 1)).map V.ref := by
  unfold cutV
  rw [show ((k : Int) + 1) = ((k + 1 : Nat) : Int) by omega, HT.sIx_none, HT.sIx_nat, HT.sIx_nat, HT.sIx_none, List.length_map, List.drop_zero, Nat.min_eq_left (by omega), Nat.min_eq_left (by omega), Nat.sub_zero, List.map_append, List.map_take, List.map_drop]
  congr 1
  rw [List.take_of_length_le]
  rw [List.length_drop, List.length_map]
  omega
theorem WishesAt.mid {H : Hp} : ∀ {ps : List Addr} {ws : List Wish}, WishesAt H ps ws → ∀ k, WishesAt H (ps.take k ++ ps.drop (k + 1)) (ws.take k ++ ws.drop (k + 1))
  | _, _, .nil, k => by simp; exact .nil
  | _, _, .cons a r, 0 => by
    simp only [List.take_zero, List.nil_append, Nat.zero_add, List.drop_succ_cons, List.drop_zero]
    exact r
  | _, _, .cons a r, k + 1 => .cons a (WishesAt.mid r k)
theorem WishesAt.snoc {H : Hp} {p : Addr} {w : Wish} : ∀ {ps : List Addr} {ws : List Wish}, WishesAt H ps ws → WishAt H p w → WishesAt H (ps ++ [p]) (ws ++ [w])
  | _, _, .nil, h => .cons h .nil
  | _, _, .cons a r, h => .cons a (WishesAt.snoc r h)
def PairsAt (H : Hp) (qs : List Addr) (kvs : List (Key × V)) : Prop := Paired (fun p kv => H p = some (.tup [kV kv.1, kv.2])) qs kvs
theorem PairsAt.ex {H H' : Hp} {qs : List Addr} {kvs : List (Key × V)} (h : PairsAt H qs kvs) (x : Ex [] H H') : PairsAt H' qs kvs := Paired.mapP h fun _ _ z => x _ _ (by simp) z
theorem PairsAt.snoc {H : Hp} {q : Addr} {kv : Key × V} (e : H q = some (.tup [kV kv.1, kv.2])) : ∀ {qs : List Addr} {kvs : List (Key × V)}, PairsAt H qs kvs → PairsAt H (qs ++ [q]) (kvs ++ [kv])
  | _, _, .nil => .cons e .nil
  | _, _, .cons a r => .cons a (PairsAt.snoc e r)
theorem val_at : ∀ {kvs : List (Key × V)} {i : Nat} {k : Key} {v : V}, (kvs.map (·.1)).Nodup → kvs[i]? = some (k, v) → valV kvs k = some v
  | kv :: kvs, 0, k, v, _, h => by
    cases h
    unfold valV
    simp
  | kv :: kvs, i + 1, k, v, hn, h => by
    rw [List.map_cons, List.nodup_cons] at hn
    have h2 : kvs[i]? = some (k, v) := by simpa using h
    have hne : ¬ kv.1 = k := fun z => hn.1 (List.mem_map.mpr ⟨(k, v), List.mem_of_getElem? h2, z.symm⟩)
    have ih := val_at hn.2 h2
    unfold valV at ih ⊢
    rw [List.find?_cons_of_neg (by simpa using hne)]
    exact ih
theorem take_filterK {l : List (Key × V)} {f : Key × V → Bool} {i : Nat} {k : Key × V} (h : l[i]? = some k) : (l.take (i + 1)).filter f = (l.take i).filter f ++ if f k = true then [k] else [] := by
  rw [List.take_add_one, h, List.filter_append]
  congr 1
  simp only [Option.toList_some, List.filter_cons, List.filter_nil]
/-- what a deed's answer looks like -/
def OutAt (H : Hp) (R : Addr) (o : List Str × Page) : Prop := ∃ du g, H R = some (.tup [.ref du, .ref g]) ∧ H du = some (.lst (o.1.map V.str)) ∧ PageAt H g o.2
section
variable {P : Program} {w : World} {K : PySem.W.Frag} {mg : Str → Option Value} {base : Heap}
theorem sc__law_behind : FnScope ["_law_page", "_law_deed", "_law_shelf", "_law_wishes_here", "_law_uses", "_law_rest", "_law_later", "_law_at", "_law_k", "_law_each"] ["_law_page", "_law_deed"] (defScope s__law_behind) :=
  ⟨rfl, rfl, rfl, by decide +kernel, rfl, by decide +kernel, by decide +kernel⟩
theorem b__law_behind {K : PySem.W.Frag} {x q : Str} {f : Addr} {fd : FuncData} (F : Fun K x q s__law_behind f fd) : Binds K fd ["_law_page", "_law_deed"] [] := F.binds (fun _ _ _ _ _ _ us hl => match us, hl with | [_, _], _ => rfl)
theorem w__law_behind (T : Tx K mg) : Can P w K mg base CX0 7 "_law_behind" ["_law_page", "_law_deed"] (fun vs H Q _ => ∃ (g dd : Addr) (p : Page) (de : Deed), vs = [.ref g, .ref dd] ∧ PageAt H g p ∧ p.Ok ∧ p.2.length ≤ 900 ∧ DeedAt H dd de ∧
    ∀ R H', Ex [] H H' → OutAt H' R (behind p de) → Q (.ref R) H') :=
  can0 T.d__law_behind sc__law_behind b__law_behind (fun vs H Q E ⟨i, _, _, _, e, _⟩ => by rw [e]; rfl) fun f cdv A outer s H vs Q E hr ⟨g, dd, pg, de, ev, hpg, hok, hlen, hde, q⟩ => by
  subst ev
  have c__law_broken := w__law_broken (P := P) (w := w) (base := base) T
  have c__law_named := w__law_named (P := P) (w := w) (base := base) T
  refine ⟨_, (pss_cons (ps_asg (pv 0) (pg_tup (by rfl) (pgs_cons (pg_name (i := 2) sc__law_behind.nd rfl (Or.inr rfl)) (pgs_cons (pg_name (i := 3) sc__law_behind.nd rfl (Or.inr rfl)) pgs_nil))))
    (pss_cons (ps_if (pt_cmpR op_eq (pe_ix ix_list (pv 1) pe_int (fun _ _ => rfl)) pe_str (nomark _)) (pss_cons (ps_if (pt_not (pt_chain op_le op_lt pe_int (pe_ix ix_list (pv 1) pe_int (fun _ _ => rfl)) (pe_callB call_len (by rfl) T.m_len (by decide +kernel) (pa_cons (pv 3) pa_nil)))) (pss_one (ps_ret (pe_tup (pa_cons (pe_lst (pa_cons pe_str (pa_cons (pe_callB call_reprL (by rfl) T.m_repr (by decide +kernel) (pa_cons (pe_ix ix_list (pv 1) pe_int (fun _ _ => rfl)) pa_nil)) pa_nil))) (pa_cons (pv 0) pa_nil))))) pss_nil)
    (pss_one (ps_ret (pe_tup (pa_cons (pe_lst pa_nil) (pa_cons (pe_tup (pa_cons (pv 2) (pa_cons (pe_op op_cat (pe_slice sl_list (pv 3) po_none (po_some (pe_ix ix_list (pv 1) pe_int (fun _ _ => rfl)))) (pe_slice sl_list (pv 3) (po_some (pe_op op_add (pe_ix ix_list (pv 1) pe_int (fun _ _ => rfl)) pe_int)) po_none)) pa_nil))) pa_nil)))))) pss_nil)
    (pss_cons (ps_if (pt_cmpR op_eq (pe_ix ix_list (pv 1) pe_int (fun _ _ => rfl)) pe_str (nomark _)) (pss_cons (ps_if (pt_cmp ((pc_dnotin (hu_of hr)) (pe_ix ix_list (pv 1) pe_int (fun _ _ => rfl)) (pv 2))) (pss_one (ps_ret (pe_tup (pa_cons (pe_lst (pa_cons pe_str (pa_cons (pe_callB call_reprL (by rfl) T.m_repr (by decide +kernel) (pa_cons (pe_ix ix_list (pv 1) pe_int (fun _ _ => rfl)) pa_nil)) pa_nil))) (pa_cons (pv 0) pa_nil))))) pss_nil)
    (pss_cons (ps_setLc (i := 4) (own := [("_law_k", 8)]) (g := gName 8) (by rfl) sc__law_behind.nd rfl rfl (sw_true rfl rfl rfl (by decide +kernel)) (pi_range1 (by rfl) T.m_range (pa_cons (pe_callB call_len (by rfl) T.m_len (by decide +kernel) (pa_cons (pv 3) pa_nil)) pa_nil)) (blkOk_by (own := [("_law_k", 8)]) (N := ["_law_page", "_law_deed", "_law_shelf", "_law_wishes_here", "_law_uses", "_law_rest", "_law_later", "_law_at", "_law_k", "_law_each"]) (sc := defScope s__law_behind) (by decide +kernel)) (fun _ _ _ _ _ => (pg_name (i := 8) sc__law_behind.nd rfl (Or.inl rfl))) (fun _ _ _ _ _ => (pts_one (pt_cmpR (op_in_seqE (K := K)) (pe_ix (ix_listE (K := K)) (pv 1) pe_int (fun _ _ => rfl)) (pe_can c__law_named (hr.mono (by decide)) (by rfl) pass0 (pa_cons (pe_ix (ix_listE (K := K)) (pv 3) (pv 8) (fun _ _ => rfl)) pa_nil)) (by rfl)))) (fun _ _ _ _ _ => (pv 8)))
    (pss_cons (ps_set (i := 5) sc__law_behind.nd rfl (Or.inl rfl) (pe_lock (pe_callTy (call_dictP rfl) (by rfl) T.m_dict (by decide +kernel) (pa_cons (pe_lc (own := [("_law_each", 9)]) (g := gName 9) (by rfl) sc__law_behind.nd (pi_keys (pv 2)) (blkOk_by (own := [("_law_each", 9)]) (N := ["_law_page", "_law_deed", "_law_shelf", "_law_wishes_here", "_law_uses", "_law_rest", "_law_later", "_law_at", "_law_k", "_law_each"]) (sc := defScope s__law_behind) (by decide +kernel)) (fun _ _ _ _ _ => (pg_name (i := 9) sc__law_behind.nd rfl (Or.inl rfl))) (fun _ _ _ _ _ => (pts_one (pt_cmpR op_ne (pv 9) (pe_ix (ix_listE (K := K)) (pv 1) pe_int (fun _ _ => rfl)) (nomark _)))) (fun _ _ _ _ _ => (pe_tup (pa_cons (pv 9) (pa_cons (pe_dget (hu_of hr) (pv 2) (pv 9) (fun _ _ => rfl)) pa_nil))))) pa_nil))))
    (pss_one (ps_ret (pe_ifExp (pt_cmpR (op_neE hr.units0) (pv 4) (pe_lst pa_nil) (nomark _)) (pe_tup (pa_cons (pe_lst (pa_cons pe_str (pa_cons (pe_callB call_reprL (by rfl) T.m_repr (by decide +kernel) (pa_cons (pe_ix ix_list (pv 4) pe_int (fun _ _ => rfl)) pa_nil)) pa_nil))) (pa_cons (pv 0) pa_nil))) (pe_tup (pa_cons (pe_lst pa_nil) (pa_cons (pe_tup (pa_cons (pv 5) (pa_cons (pv 3) pa_nil))) pa_nil))))))))) pss_nil)
    (pss_cons (ps_set (i := 6) sc__law_behind.nd rfl (Or.inl rfl) (pe_tup (pa_cons (pv 2) (pa_cons (pe_op op_cat (pv 3) (pe_lst (pa_cons (pe_ix ix_list (pv 1) pe_int (fun _ _ => rfl)) pa_nil))) pa_nil))))
    (pss_cons (ps_if (pt_cmpR op_eq (pe_ix ix_list (pv 1) pe_int (fun _ _ => rfl)) pe_str (nomark _)) (pss_one (ps_set (i := 6) sc__law_behind.nd rfl (Or.inl rfl) (pe_tup (pa_cons (pe_lock (pe_callTy (call_dictP rfl) (by rfl) T.m_dict (by decide +kernel) (pa_cons (pe_op op_cat (pe_lc (own := [("_law_each", 9)]) (g := gName 9) (by rfl) sc__law_behind.nd (pi_keys (pv 2)) (blkOk_by (own := [("_law_each", 9)]) (N := ["_law_page", "_law_deed", "_law_shelf", "_law_wishes_here", "_law_uses", "_law_rest", "_law_later", "_law_at", "_law_k", "_law_each"]) (sc := defScope s__law_behind) (by decide +kernel)) (fun _ _ _ _ _ => (pg_name (i := 9) sc__law_behind.nd rfl (Or.inl rfl))) (fun _ _ _ _ _ => pts_nil) (fun _ _ _ _ _ => (pe_tup (pa_cons (pv 9) (pa_cons (pe_dget (hu_of hr) (pv 2) (pv 9) (fun _ _ => rfl)) pa_nil))))) (pe_lst (pa_cons (pe_tup (pa_cons (pe_ix ix_list (pv 1) pe_int (fun _ _ => rfl)) (pa_cons (pe_ix ix_list (pv 1) pe_int (fun _ _ => rfl)) pa_nil))) pa_nil))) pa_nil))) (pa_cons (pv 3) pa_nil))))) pss_nil)
    (pss_cons (ps_set (i := 7) sc__law_behind.nd rfl (Or.inl rfl) (pe_can c__law_broken (hr.mono (by decide)) (by rfl) pass0 (pa_cons (pe_ix ix_tup (pv 6) pe_int (fun _ _ => rfl)) (pa_cons (pe_ix ix_tup (pv 6) pe_int (fun _ _ => rfl)) pa_nil))))
    (pss_one (ps_ret (pe_ifExp (pt_cmpR op_ne (pv 7) (pe_un un_neg pe_int) (nomark _)) (pe_tup (pa_cons (pe_lst (pa_cons pe_str (pa_cons (pe_callB call_reprL (by rfl) T.m_repr (by decide +kernel) (pa_cons (pv 7) pa_nil)) pa_nil))) (pa_cons (pv 0) pa_nil))) (pe_tup (pa_cons (pe_lst pa_nil) (pa_cons (pv 6) pa_nil)))))))))))), ?_⟩
  obtain ⟨d, l, ps, hg, hS, hl, hW⟩ := hpg
  have h1000 : 2000 ≤ sizeLine := by decide
  have hpl : ps.length = pg.2.length := hW.len
  refine ⟨_, rfl, _, _, rfl, SqT.of hg, rfl, ?_⟩
  walk_at "g"
  have refuse : ∀ (nm z : Str) (H1 : Hp) (du R : Addr), Ex [] H H1 → H1 du = none → upd H1 du (.lst [V.str nm, .str z]) R = none → behind pg de = ([nm, z], pg) → Q (.ref R) (upd (upd H1 du (.lst [V.str nm, .str z])) R (.tup [V.ref du, .ref g])) := fun nm z H1 du R hx ndu nR hb => by
    refine q R _ ((hx.new ndu).new nR) ⟨du, g, upd_same, ?_, ?_⟩
    · rw [upd_ne (ne_of_none upd_same nR), upd_same, hb]
      rfl
    · rw [hb]
      exact PageAt.soft (Ms := []) ⟨d, l, ps, hg, hS, hl, hW⟩ Soft.nil ((hx.new ndu).new nR).t
  have accept : ∀ (du p2 d2 l2 R : Addr) (ps2 : List Addr) (S2 : Shelf) (W2 : List Wish) (H2 : Hp), Ex [] H H2 → H2 du = some (.lst []) → ShelfAt H2 d2 S2 → H2 l2 = some (.lst (ps2.map V.ref)) → WishesAt H2 ps2 W2 → H2 p2 = none → upd H2 p2 (.tup [.ref d2, .ref l2]) R = none →
      behind pg de = ([], S2, W2) → Q (.ref R) (upd (upd H2 p2 (.tup [.ref d2, .ref l2])) R (.tup [.ref du, .ref p2])) := fun du p2 d2 l2 R ps2 S2 W2 H2 hx hdu hs2 hl2 hw2 np2 nR hb => by
    refine q R _ ((hx.new np2).new nR) ⟨du, p2, upd_same, ?_, ?_⟩
    · rw [hb]
      exact upN nR (upN np2 hdu)
    · rw [hb]
      have hxx : ∀ o, Ex [] H2 (upd (upd H2 p2 (.tup [.ref d2, .ref l2])) R o) := fun o => (Ex.new0 np2).new nR
      exact ⟨d2, l2, ps2, upN nR upd_same, ShelfAt.soft hs2 Soft.nil (hxx _).t, upN nR (upN np2 hl2), hw2.ex (hxx _)⟩
  have accept2 : ∀ (du p2 d2 l2 R : Addr) (ps2 : List Addr) (S2 : Shelf) (W2 : List Wish) (H2 : Hp), Ex [] H H2 → H2 du = some (.lst []) → H2 p2 = some (.tup [.ref d2, .ref l2]) → ShelfAt H2 d2 S2 → H2 l2 = some (.lst (ps2.map V.ref)) → WishesAt H2 ps2 W2 → H2 R = none →
      behind pg de = ([], S2, W2) → Q (.ref R) (upd H2 R (.tup [.ref du, .ref p2])) := fun du p2 d2 l2 R ps2 S2 W2 H2 hx hdu hp2 hs2 hl2 hw2 nR hb => by
    refine q R _ (hx.new nR) ⟨du, p2, upd_same, ?_, ?_⟩
    · rw [hb]
      exact upN nR hdu
    · rw [hb]
      have hxx : ∀ o, Ex [] H2 (upd H2 R o) := fun o => Ex.new0 nR
      exact ⟨d2, l2, ps2, upN nR hp2, ShelfAt.soft hs2 Soft.nil (hxx _).t, upN nR hl2, hw2.ex (hxx _)⟩
  -- the end: what is broken, if anything
  have ends : ∀ (S2 : Shelf) (W2 : List Wish) (p2 d2 l2 : Addr) (ps2 : List Addr) (H2 : Hp) (t4 t5 : Option V), Ex [] H H2 → H2 p2 = some (.tup [.ref d2, .ref l2]) → ShelfAt H2 d2 S2 → H2 l2 = some (.lst (ps2.map V.ref)) → WishesAt H2 ps2 W2 → ps2.length ≤ 1000 →
      (∀ i, brk S2 W2 = some i → behind pg de = ([("Broken" : Str), showI (i : Nat)], pg)) → (brk S2 W2 = none → behind pg de = ([], S2, W2)) →
      tSeq (tAsg (tCall (fun vs H Q _ => ∃ (d l : Addr) (ps : List Addr) (ws : List Wish) (S : Shelf), vs = [.ref d, .ref l] ∧ H l = some (.lst (ps.map V.ref)) ∧ WishesAt H ps ws ∧ ShelfAt H d S ∧ ps.length ≤ 1000 ∧
          ∀ H', Ex [] H H' → Q (.int (match fst (ans S) ws with | some i => (i : Nat) | none => -1)) H') [] E0 (tCons (tOp (rIxT K) (tVar 6) (tC (.int 0))) (tCons (tOp (rIxT K) (tVar 6) (tC (.int 1))) tNil))) (gName 7))
        (tRet (tIf (tTest (tOp rNe (tVar 7) (tUn (rU fun i => .int (-i)) (tC (.int 1))))) (tTup (tCons (tLst (tCons (tC (.str "Broken")) (tCons (tCB rReprL (tCons (tVar 7) tNil)) tNil))) (tCons (tVar 0) tNil))) (tTup (tCons (tLst tNil) (tCons (tVar 6) tNil)))))
        { nx := fun x H' => Q V.non H', rt := Q } [some (.ref g), some (.ref dd), some (.ref d), some (.ref l), t4, t5, some (.ref p2), none, none, none] H2 := by
    intro S2 W2 p2 d2 l2 ps2 H2 t4 t5 hx hp2 hs2 hl2 hw2 hlen2 hbs hbn
    refine ⟨_, rfl, _, _, _, _, rfl, rfl, SqT.of hp2, rfl, _, rfl, _, _, _, _, rfl, rfl, SqT.of hp2, rfl, d2, l2, ps2, W2, S2, rfl, hl2, hw2, hs2, hlen2, fun H3 hx3 => ?_⟩
    have hx13 := hx.trans hx3
    refine ⟨_, rfl, _, rfl, rfl, _, rfl, ?_⟩
    have hs3 : ShelfAt H3 d2 S2 := hs2.ex hx3 fun _ _ _ z => z.ex hx3
    cases hb : fst (ans S2) W2 with
    | some i =>
      have hi : i < 1001 := by
        obtain ⟨w, h1, _, _⟩ := some_fst hb
        have := (List.getElem?_eq_some_iff.mp h1).1
        have := hw2.len
        omega
      refine ite2 (fun _ => ?_) fun c => ?_
      · refine ⟨_, rfl, .inl ⟨_, rfl, ?_, ?_⟩⟩
        · show ((i : Nat) : Int).natAbs < 2 ^ 64
          rw [Int.natAbs_natCast]
          clear hbs hbn hb hok refuse accept accept2
          omega
        · exact ⟨by show 2 ≤ sizeLine; omega, fun du ndu => ⟨_, rfl, by show 2 ≤ sizeLine; omega, fun R nR => refuse _ _ _ _ _ hx13 ndu nR (hbs i hb)⟩⟩
      · exfalso
        refine c ?_
        show (!decide (V.int (i : Nat) = V.int (-1))) = true
        rw [decide_eq_false (fun z => by injection z with z; omega)]
        rfl
    | none =>
      refine ⟨by show 0 ≤ sizeLine; omega, fun du ndu => ⟨_, rfl, by show 2 ≤ sizeLine; omega, fun R nR => ?_⟩⟩
      have hxd : ∀ o, Ex [] H3 (upd H3 du o) := fun o => Ex.new0 ndu
      exact accept2 du p2 d2 l2 R ps2 S2 W2 _ (hx13.new ndu) upd_same (upN ndu (hx3 _ _ (by simp) hp2)) (hs3.ex (hxd _) fun _ _ _ z => z.ex (hxd _)) (upN ndu (hx3 _ _ (by simp) hl2)) ((hw2.ex hx3).ex (hxd _)) nR (hbn hb)
  cases de with
  | lift k =>
    obtain ⟨hde, hkk⟩ : H dd = some (.lst [.str "lift", .int (k : Nat)]) ∧ k ≤ 1000 := hde
    refine ⟨_, _, _, _, rfl, rfl, SqL.of hde, rfl, rfl, _, rfl, ?_⟩
    refine ⟨_, rfl, _, _, _, _, rfl, rfl, SqL.of hde, rfl, _, _, rfl, rfl, _, rfl, ?_⟩
    refine ite2 (fun _ => ?_) fun c => absurd (decide_eq_true (by omega)) c
    refine ⟨_, rfl, _, _, rfl, .inl ⟨_, SqL.of hl, rfl⟩, _, _, rfl, rfl, _, rfl, ?_⟩
    rw [List.length_map]
    by_cases hk : k < ps.length
    · rw [decide_eq_true (show ((k : Nat) : Int) < ((ps.length : Nat) : Int) by omega)]
      have hb := behind_lift1 (p := pg) (k := k) (by omega)
      refine ⟨by show 0 ≤ sizeLine; omega, fun du ndu => ?_⟩
      have hl1 := fun o => upN (o := o) ndu hl
      have hde1 := fun o => upN (o := o) ndu hde
      refine ⟨_, rfl, _, rfl, _, rfl, _, _, _, _, rfl, rfl, SqL.of (hde1 _), rfl, _, rfl, ?_⟩
      refine ⟨_, _, rfl, SqL.of (hl1 _), fun l1 nl1 => ?_⟩
      refine ⟨_, rfl, _, rfl, _, _, _, _, rfl, rfl, SqL.of (upN nl1 (hde1 _)), rfl, _, _, rfl, rfl, _, rfl, ?_⟩
      refine ⟨_, _, rfl, SqL.of (upN nl1 (hl1 _)), fun l2 nl2 => ?_⟩
      refine ⟨_, _, _, _, rfl, rfl, upN nl2 upd_same, upd_same, ?_, fun l3 nl3 => ?_⟩
      · have a1 := cutV_length (ps.map V.ref) none (some (k : Int))
        have a2 := cutV_length (ps.map V.ref) (some ((k : Int) + 1)) none
        rw [List.length_map] at a1 a2
        clear hb hok refuse accept
        omega
      refine ⟨by show 2 ≤ sizeLine; omega, fun p2 np2 => ⟨by show 2 ≤ sizeLine; omega, fun R nR => ?_⟩⟩
      have hx3 : ∀ o, Ex [] H (upd _ l3 o) := fun o => (((Ex.new0 ndu).new nl1).new nl2).new nl3
      refine accept du p2 d l3 R (ps.take k ++ ps.drop (k + 1)) pg.1 _ _ (hx3 _) (upN nl3 (upN nl2 (upN nl1 upd_same))) (hS.ex (hx3 _) fun _ _ _ z => z.ex (hx3 _)) (by rw [upd_same, cut_mid (by omega)]) ?_ np2 nR hb
      exact (WishesAt.mid hW k).ex (hx3 _)
    · rw [decide_eq_false (show ¬ ((k : Nat) : Int) < ((ps.length : Nat) : Int) by omega)]
      have hb := behind_lift2 (p := pg) (k := k) (by omega)
      refine ⟨_, rfl, _, _, _, _, rfl, rfl, SqL.of hde, rfl, .inl ⟨_, rfl, ?_, ?_⟩⟩
      · rw [Int.natAbs_natCast]
        clear hb hok refuse accept
        omega
      · exact ⟨by show 2 ≤ sizeLine; omega, fun du ndu => ⟨_, rfl, by show 2 ≤ sizeLine; omega, fun R nR => refuse _ _ _ _ _ (Ex.refl _ _) ndu nR hb⟩⟩
  | drop t =>
    obtain ⟨hde, ht⟩ : H dd = some (.lst [.str "drop", .str t]) ∧ Title t := hde
    obtain ⟨kvs, hd, hit⟩ := id hS
    have hnd : (kvs.map (·.1)).Nodup := by
      rw [hit.keys]
      exact inr_nodup hok.nd
    have hkl : kvs.length ≤ 3 := by
      have h1 := nodup_titles hok.nd (fun z hz => by
        obtain ⟨e, he, hz2⟩ := List.mem_map.mp hz
        rw [← hz2]
        exact hok.ti e he)
      rw [List.length_map] at h1
      rw [hit.len]
      exact h1
    refine ⟨_, _, _, _, rfl, rfl, SqL.of hde, rfl, rfl, _, rfl, ?_⟩
    refine ⟨_, rfl, _, _, _, _, rfl, rfl, SqL.of hde, rfl, rfl, _, rfl, ?_⟩
    rcases hS.keys t with ⟨e1, e2⟩ | ⟨p2, sg, r, e1, e2, _⟩
    · refine ⟨_, rfl, _, _, _, _, rfl, rfl, SqL.of hde, rfl, _, rfl, _, _, rfl, e2, _, rfl, ?_⟩
      refine ⟨_, rfl, _, _, _, _, rfl, rfl, SqL.of hde, rfl, .inr ⟨_, rfl, ?_, ?_⟩⟩
      · have := (title_str ht).2
        omega
      · exact ⟨by show 2 ≤ sizeLine; omega, fun du ndu => ⟨_, rfl, by show 2 ≤ sizeLine; omega, fun R nR => refuse _ _ _ _ _ (Ex.refl _ _) ndu nR (behind_drop0 e1)⟩⟩
    · refine ⟨_, rfl, _, _, _, _, rfl, rfl, SqL.of hde, rfl, _, rfl, _, _, rfl, e2, _, rfl, ?_⟩
      refine ⟨_, rfl, _, _, rfl, .inl ⟨_, SqL.of hl, rfl⟩, _, rfl, by clear hok refuse accept accept2 ends; omega, by rw [List.length_map]; clear hok refuse accept accept2 ends; omega, fun D nD => lc_range (lo := 0) (n := (((ps.map V.ref).length : Nat) : Int).toNat) (fun i H' => Ex [] H H' ∧ ∃ ns : List Nat, H' D = some (.lst (intsN ns)) ∧ ns.length ≤ i ∧ (ns = [] → ∀ x ∈ pg.2.take i, notIn t x = true) ∧ ∀ k, ns.head? = some k → fst (notIn t) pg.2 = some k)
        ⟨Ex.new0 nD, [], upd_same, Nat.le_refl _, fun _ x hx => by simp at hx, fun k hk => by cases hk⟩ (fun i H' hi ⟨hx, ns, hD, hnl, hn0, hn1⟩ => ?_) fun H' ⟨hx, ns, hD, hnl, hn0, hn1⟩ => ?_⟩
      · rw [Int.toNat_natCast, List.length_map] at hi
        obtain ⟨p, wi, e3, e4, hwi⟩ := hW.get i hi
        have hl1 := hx _ _ (by simp) hl
        refine ⟨rfl, ?_⟩
        refine ⟨_, rfl, _, _, _, _, rfl, rfl, SqL.of (hx _ _ (by simp) hde), rfl, _, rfl, _, rfl, _, _, _, .ref p, rfl, rfl, SqL.of hl1, ?_, ?_⟩
        · unfold atI ixN
          rw [if_pos (by omega), if_pos (by rw [List.length_map]; omega)]
          simp [e3]
        refine ⟨p, wi, rfl, hwi.ex hx, fun q1 nq1 => ?_⟩
        refine ⟨_, _, rfl, .inr (SqT.of upd_same), rfl, ?_, _, rfl, ?_⟩
        · rw [List.all_eq_true]
          intro x hx2
          obtain ⟨z, _, rfl⟩ := List.mem_map.mp hx2
          rfl
        rw [show (if false = true then !inV (V.str t) (wi.names.map V.str) else inV (V.str t) (wi.names.map V.str)) = decide (t ∈ wi.names) from (if_neg (by decide)).trans (in_names _)]
        have hD1 := upN (o := .tup (wi.names.map V.str)) nq1 hD
        by_cases hin : t ∈ wi.names
        · rw [decide_eq_true hin]
          refine ⟨_, rfl, intsN ns, hD1, by rw [intsN, List.length_map]; clear hok refuse accept accept2 ends; omega, (hx.new nq1).mut nD, ns ++ [i], by rw [upd_same, Int.zero_add]; simp [intsN], by simp; clear hok refuse accept accept2 ends; omega, fun z => by simp at z, fun k hk => ?_⟩
          cases ns with
          | nil =>
            have hk : i = k := by simpa using hk
            subst hk
            exact brk_some e4 (hn0 rfl) (by unfold notIn; rw [decide_eq_true hin]; rfl)
          | cons n ns => exact hn1 k (by simpa using hk)
        · rw [decide_eq_false hin]
          refine ⟨hx.new nq1, ns, hD1, by omega, fun z x hx2 => ?_, hn1⟩
          rw [List.take_add_one, e4] at hx2
          rcases List.mem_append.mp hx2 with y | y
          · exact hn0 z x y
          · rw [show x = wi by simpa using y]
            unfold notIn
            rw [decide_eq_false hin]
            rfl
      · rw [Int.toNat_natCast, List.length_map] at hn0
        rw [hpl, List.take_length] at hn0
        have hdc := hx _ _ (by simp) hd
        have hddc := hx _ _ (by simp) hde
        have hndd : dd ≠ d := fun z => by rw [z, hd] at hde; cases hde
        refine ⟨d, _, hdc, trivial, fun od => ?_⟩
        have hfd : upd H' d (.frz od (.dK kvs)) d = some (.frz od (.dK kvs)) := upd_same
        have hfdd : upd H' d (.frz od (.dK kvs)) dd = some (.lst [.str "drop", .str t]) := by
          rw [upd_ne hndd]
          exact hddc
        have hDd : D ≠ d := fun z => by rw [z, hdc] at hD; cases hD
        generalize hfp : (fun kv : Key × V => decide (kv.1 ≠ (Sum.inr t : Key))) = fp
        have hfpe : ∀ kv : Key × V, fp kv = decide (kv.1 ≠ (Sum.inr t : Key)) := fun kv => by rw [← hfp]
        refine ⟨_, rfl, d, od, rfl, .inl ⟨kvs, hfd, fun D2 nD2 => lc_keys (fun i H2 => Ex [] (upd H' d (.frz od (.dK kvs))) H2 ∧ ∃ qs, H2 D2 = some (.lst (qs.map V.ref)) ∧ PairsAt H2 qs ((kvs.take i).filter fp)) ⟨Ex.new0 nD2, [], upd_same, by rw [List.take_zero]; exact .nil⟩ (fun i H2 h => h.1 _ _ (by simp) hfd) (fun i k v H2 hi ⟨hx2, qs, hD2, hqs⟩ => ?_) fun H2 ⟨hx2, qs, hD2, hqs⟩ => ?_⟩⟩
        · have hk : ∃ z : Str, k = Sum.inr z := by
            have hm : k ∈ kvs.map (·.1) := List.mem_map.mpr ⟨(k, v), List.mem_of_getElem? hi, rfl⟩
            rw [hit.keys] at hm
            obtain ⟨z, _, e⟩ := List.mem_map.mp hm
            exact ⟨z, e.symm⟩
          obtain ⟨z, rfl⟩ := hk
          refine ⟨rfl, _, rfl, _, rfl, _, _, _, _, rfl, rfl, SqL.of (hx2 _ _ (by simp) hfdd), rfl, rfl, _, rfl, ?_⟩
          by_cases hz : z = t
          · subst hz
            rw [show (!decide (kV (Sum.inr z : Key) = V.str z)) = false by show (!decide (V.str z = V.str z)) = false; simp]
            refine ⟨hx2, qs, hD2, ?_⟩
            rw [take_filterK hi, if_neg (by rw [hfpe]; simp), List.append_nil]
            exact hqs
          · refine ite2 (fun _ => ?_) fun c => absurd (show (!decide (V.str z = V.str t)) = true by simp [hz]) c
            refine ⟨_, rfl, _, rfl, _, rfl, d, v, rfl, .inl ⟨kvs, Sum.inr z, .inr ⟨od, hx2 _ _ (by simp) hfd⟩, rfl, (val_at hnd hi).symm⟩, ?_⟩
            refine ⟨by show 2 ≤ sizeLine; omega, fun q1 nq1 => ?_⟩
            have hlq : qs.length ≤ 3 := by
              have h1 := Paired.length hqs
              have h2 := List.length_filter_le fp (kvs.take i)
              have h3 := List.length_take_le' i kvs
              clear hok refuse accept accept2 ends
              omega
            refine ⟨_, upN nq1 hD2, by rw [List.length_map]; clear hok refuse accept accept2 ends; omega, ?_, qs ++ [q1], by rw [upd_same]; simp, ?_⟩
            · exact (hx2.new nq1).mut nD2
            · rw [take_filterK hi, if_pos (by rw [hfpe]; simp [hz])]
              have keepP : ∀ {p : Addr} {xs : List V}, upd H2 q1 (.tup [kV (Sum.inr z), v]) p = some (.tup xs) → upd (upd H2 q1 (.tup [kV (Sum.inr z), v])) D2 (.lst (qs.map V.ref ++ [V.ref q1])) p = some (.tup xs) := fun {p xs} e => by
                have hp : p ≠ D2 := fun z => by
                  rw [z, upN nq1 hD2] at e
                  cases e
                rw [upd_ne hp]
                exact e
              exact PairsAt.snoc (keepP upd_same) (Paired.mapP hqs fun p kv e => keepP (upN nq1 e))
        · rw [List.take_length] at hqs
          have hnd2 : ((kvs.filter fp).map (·.1)).Nodup := hnd.sublist (List.Sublist.map _ List.filter_sublist)
          refine ⟨D2, qs, kvs.filter fp, rfl, SqL.of hD2, Paired.mapP hqs fun p kv e => SqT.of e, fun nd nnd => ?_⟩
          have hxq := hx2.new (o := .dK (mergeK [] (kvs.filter fp))) nnd
          refine ⟨hxq _ _ (by simp) hfd, ?_⟩
          have hxu := Ex.unlock hdc hxq
          have hxall := hx.trans hxu
          have hndd2 : nd ≠ d := fun z => by
            rw [z, hx2 _ _ (by simp) hfd] at nnd
            cases nnd
          have hDu := hxu _ _ (by simp) hD
          have hndv : upd (upd H2 nd (.dK (mergeK [] (kvs.filter fp)))) d (.dK kvs) nd = some (.dK (kvs.filter fp)) := by
            rw [upd_ne hndd2, upd_same, mergeK_nodup hnd2]
          generalize upd (upd H2 nd (.dK (mergeK [] (kvs.filter fp)))) d (.dK kvs) = Hz at hxu hxall hDu hndv
          refine ⟨_, rfl, ?_⟩
          refine ⟨by show 0 ≤ sizeLine; omega, fun l0 nl0 => ?_⟩
          refine ⟨_, _, _, _, rfl, rfl, ⟨SqL.of (upN nl0 hDu), SqL.of upd_same⟩, .inr rfl, _, rfl, ?_⟩
          have hxz := hxall.new (o := .lst []) nl0
          cases ns with
          | nil =>
            have hb := behind_drop2 e1 (brk_none (hn0 rfl))
            rw [show (!decide (intsN [] = [])) = false from rfl]
            refine ⟨by show 0 ≤ sizeLine; omega, fun du ndu => ⟨_, rfl, _, rfl, by show 2 ≤ sizeLine; omega, fun p3 np3 => ⟨by show 2 ≤ sizeLine; omega, fun R nR => ?_⟩⟩⟩
            have hxd := hxz.new (o := .lst []) ndu
            refine accept du p3 nd l R ps (dropS pg.1 t) pg.2 _ hxd upd_same ⟨_, upN ndu (upN nl0 hndv), ?_⟩ (hxd _ _ (by simp) hl) (hW.ex hxd) np3 nR hb
            have z := ItemsAt.drop (t := t) (hit.mono fun _ _ _ z => z.ex hxd)
            rw [hfp] at z
            exact z
          | cons n ns =>
            have hb := behind_drop1 e1 (hn1 n rfl)
            have hn1001 : n ≤ 900 := by
              obtain ⟨w, h1, _, _⟩ := some_fst (hn1 n rfl)
              have := (List.getElem?_eq_some_iff.mp h1).1
              clear hok refuse accept accept2 ends
              omega
            rw [show (!decide (intsN (n :: ns) = [])) = true from rfl]
            refine ⟨_, rfl, _, _, _, .int (n : Nat), rfl, rfl, SqL.of (upN nl0 hDu), ?_, .inl ⟨_, rfl, ?_, ?_⟩⟩
            · unfold atI ixN
              rw [if_pos (by decide), if_pos (by simp [intsN])]
              rfl
            · rw [Int.natAbs_natCast]
              clear hok refuse accept accept2 ends
              omega
            · exact ⟨by show 2 ≤ sizeLine; omega, fun du ndu => ⟨_, rfl, by show 2 ≤ sizeLine; omega, fun R nR => refuse _ _ _ _ _ hxz ndu nR hb⟩⟩
  | wish wi =>
    obtain ⟨a, hde, hwa⟩ : ∃ a, H dd = some (.lst [.str "wish", .ref a]) ∧ WishAt H a wi := hde
    refine ⟨_, _, _, _, rfl, rfl, SqL.of hde, rfl, rfl, _, rfl, ?_⟩
    refine ⟨_, rfl, _, _, _, _, rfl, rfl, SqL.of hde, rfl, rfl, _, rfl, ?_⟩
    refine ⟨_, rfl, _, rfl, _, rfl, _, _, _, _, rfl, rfl, SqL.of hde, rfl, ?_⟩
    refine ⟨by show 1 ≤ sizeLine; omega, fun l1 nl1 => ?_⟩
    refine ⟨_, _, _, _, rfl, rfl, upN nl1 hl, upd_same, by rw [List.length_map]; show ps.length + 1 ≤ sizeLine; clear hok refuse accept accept2 ends; omega, fun l2 nl2 => ?_⟩
    refine ⟨by show 2 ≤ sizeLine; omega, fun p2 np2 => ?_⟩
    have hx2 : ∀ o, Ex [] H (upd _ l2 o) := fun o => (Ex.new0 nl1).new nl2
    have hxp := (hx2 _).new (o := .tup [.ref d, .ref l2]) np2
    have hde3 := hxp _ _ (by simp) hde
    refine ⟨_, rfl, _, _, _, _, rfl, rfl, SqL.of hde3, rfl, rfl, _, rfl, ?_⟩
    refine ends pg.1 (pg.2 ++ [wi]) p2 d l2 (ps ++ [a]) _ _ _ hxp upd_same (hS.ex hxp fun _ _ _ z => z.ex hxp) (by rw [upN np2 upd_same]; simp) ((WishesAt.snoc hW hwa).ex hxp) (by simp; clear hok refuse accept accept2 ends; omega) (fun i hb => behind_wish1 hb) fun hb => behind_wish2 hb
  | put t sg r =>
    obtain ⟨a, hde, htt, hpa⟩ : ∃ a, H dd = some (.lst [.str "put", .str t, .ref a]) ∧ Title t ∧ PlanAt H a sg r := hde
    obtain ⟨kvs, hd, hit⟩ := id hS
    have hnd : (kvs.map (·.1)).Nodup := by
      rw [hit.keys]
      exact inr_nodup hok.nd
    have hkl : kvs.length ≤ 3 := by
      have h1 := nodup_titles hok.nd (fun z hz => by
        obtain ⟨e, he, hz2⟩ := List.mem_map.mp hz
        rw [← hz2]
        exact hok.ti e he)
      rw [List.length_map] at h1
      rw [hit.len]
      exact h1
    refine ⟨_, _, _, _, rfl, rfl, SqL.of hde, rfl, rfl, _, rfl, ?_⟩
    refine ⟨_, rfl, _, _, _, _, rfl, rfl, SqL.of hde, rfl, rfl, _, rfl, ?_⟩
    refine ⟨_, rfl, _, rfl, _, rfl, _, _, _, _, rfl, rfl, SqL.of hde, rfl, ?_⟩
    refine ⟨by show 1 ≤ sizeLine; omega, fun l1 nl1 => ?_⟩
    refine ⟨_, _, _, _, rfl, rfl, upN nl1 hl, upd_same, by rw [List.length_map]; show ps.length + 1 ≤ sizeLine; clear hok refuse accept accept2 ends; omega, fun l2 nl2 => ?_⟩
    refine ⟨by show 2 ≤ sizeLine; omega, fun p2 np2 => ?_⟩
    have hx2 : ∀ o, Ex [] H (upd _ p2 o) := fun o => ((Ex.new0 nl1).new nl2).new np2
    refine ⟨_, rfl, _, _, _, _, rfl, rfl, SqL.of (hx2 _ _ _ (by simp) hde), rfl, rfl, _, rfl, ?_⟩
    generalize hHc : upd (upd (upd H l1 (.lst [.str t])) l2 (.lst (ps.map V.ref ++ [.str t]))) p2 (.tup [.ref d, .ref l2]) = Hc
    have hxc : Ex [] H Hc := by rw [← hHc]; exact hx2 _
    have hdc := hxc _ _ (by simp) hd
    have hddc := hxc _ _ (by simp) hde
    have hndd : dd ≠ d := fun z => by rw [z, hd] at hde; cases hde
    refine ⟨d, _, hdc, trivial, fun od => ?_⟩
    have hfd : upd Hc d (.frz od (.dK kvs)) d = some (.frz od (.dK kvs)) := upd_same
    have hfdd : upd Hc d (.frz od (.dK kvs)) dd = some (.lst [.str "put", .str t, .ref a]) := by
      rw [upd_ne hndd]
      exact hddc
    refine ⟨_, rfl, d, od, rfl, .inl ⟨kvs, hfd, fun D nD => lc_keys (fun i H' => Ex [] (upd Hc d (.frz od (.dK kvs))) H' ∧ ∃ qs, H' D = some (.lst (qs.map V.ref)) ∧ PairsAt H' qs (kvs.take i)) ⟨Ex.new0 nD, [], upd_same, by rw [List.take_zero]; exact .nil⟩ (fun i H' h => h.1 _ _ (by simp) hfd) (fun i k v H' hi ⟨hx, qs, hD, hqs⟩ => ?_) fun H' ⟨hx, qs, hD, hqs⟩ => ?_⟩⟩
    · refine ⟨rfl, _, rfl, _, rfl, _, rfl, d, v, rfl, .inl ⟨kvs, k, .inr ⟨od, hx _ _ (by simp) hfd⟩, rfl, (val_at hnd hi).symm⟩, ?_⟩
      refine ⟨by show 2 ≤ sizeLine; omega, fun q1 nq1 => ?_⟩
      have hDq : D ≠ q1 := ne_of_none hD nq1
      have hlq : qs.length ≤ 3 := by
        have := Paired.length hqs
        have := List.length_take_le' i kvs
        clear hok refuse accept accept2 ends
        omega
      refine ⟨_, upN nq1 hD, by rw [List.length_map]; clear hok refuse accept accept2 ends; omega, ?_, qs ++ [q1], by rw [upd_same]; simp, ?_⟩
      · exact (hx.new nq1).mut nD
      · rw [List.take_add_one, hi]
        have hxx : Ex [] (upd H' q1 (.tup [kV k, v])) (upd (upd H' q1 (.tup [kV k, v])) D (.lst (qs.map V.ref ++ [V.ref q1]))) ∨ True := .inr trivial
        have keepP : ∀ {p : Addr} {xs : List V}, upd H' q1 (.tup [kV k, v]) p = some (.tup xs) → upd (upd H' q1 (.tup [kV k, v])) D (.lst (qs.map V.ref ++ [V.ref q1])) p = some (.tup xs) := fun {p xs} e => by
          have hp : p ≠ D := fun z => by
            rw [z, upN nq1 hD] at e
            cases e
          rw [upd_ne hp]
          exact e
        exact PairsAt.snoc (keepP upd_same) (Paired.mapP hqs fun p kv e => keepP (upN nq1 e))
    · rw [List.take_length] at hqs
      have hd1 := hx _ _ (by simp) hfdd
      refine ⟨_, rfl, _, _, _, _, rfl, rfl, SqL.of hd1, rfl, _, rfl, _, _, _, _, rfl, rfl, SqL.of hd1, rfl, ?_⟩
      refine ⟨by show 2 ≤ sizeLine; omega, fun q1 nq1 => ⟨by show 1 ≤ sizeLine; omega, fun l3 nl3 => ?_⟩⟩
      have hlq : qs.length ≤ 3 := by
        have := Paired.length hqs
        clear hok refuse accept accept2 ends
        omega
      refine ⟨_, _, _, _, rfl, rfl, upN nl3 (upN nq1 hD), upd_same, by rw [List.length_map]; show qs.length + 1 ≤ sizeLine; clear hok refuse accept accept2 ends; omega, fun l4 nl4 => ?_⟩
      have hx4 : ∀ o, Ex [] H' (upd _ l4 o) := fun o => ((Ex.new0 nq1).new nl3).new nl4
      refine ⟨l4, qs ++ [q1], kvs ++ [((Sum.inr t : Key), V.ref a)], rfl, SqL.of (by rw [upd_same]; simp), ?_, fun nd nnd => ?_⟩
      · refine Paired.mapP (PairsAt.snoc (upN nl4 (upN nl3 upd_same)) (hqs.ex (hx4 _))) fun p kv e => SqT.of e
      · have hxq := (hx.trans (hx4 _)).new (o := .dK (mergeK [] (kvs ++ [((Sum.inr t : Key), V.ref a)]))) nnd
        have hlock := hxq _ _ (by simp) hfd
        refine ⟨hlock, _, rfl, ?_⟩
        have hxu := hxc.trans (Ex.unlock hdc hxq)
        refine ⟨by show 2 ≤ sizeLine; omega, fun p3 np3 => ?_⟩
        have hmk : mergeK [] (kvs ++ [((Sum.inr t : Key), V.ref a)]) = putK kvs (Sum.inr t : Key) (.ref a) := by
          unfold mergeK
          rw [List.foldl_append]
          have e := mergeK_nodup hnd
          unfold mergeK at e
          rw [e]
          rfl
        have hxp := hxu.new (o := .tup [.ref nd, .ref l]) np3
        have hnd2 : nd ≠ d := fun z => by
          rw [z, (hx.trans (hx4 _)) _ _ (by simp) hfd] at nnd
          cases nnd
        refine ends (putS pg.1 t (sg, r)) pg.2 p3 nd l ps _ _ _ hxp upd_same ⟨_, upN np3 (by rw [upd_ne hnd2, upd_same]), ?_⟩ (hxp _ _ (by simp) hl) (hW.ex hxp) (by clear hok refuse accept accept2 ends; omega) (fun i hb => behind_put1 hb) fun hb => behind_put2 hb
        have z := ItemsAt.put (t := t) (hpa.ex hxp) (hit.mono fun _ _ _ z => z.ex hxp)
        rw [← hmk] at z
        exact z
end
end G
-- Wn
set_option pp.maxSteps 800
set_option Elab.async false
set_option linter.all false
set_option maxRecDepth 100000
set_option maxHeartbeats 800000
namespace G
open PySem PySem.Spec PyProof.Rows L2 LamX NdefX
local macro_rules | `(tactic| walk_at "g") => `(tactic| repeat (first | refine ⟨_, rfl, ?_⟩ | refine ⟨_, _, rfl, ?_⟩ | refine ⟨_, _, _, rfl, ?_⟩ | refine ⟨_, _, rfl, rfl, ?_⟩ | refine ⟨rfl, ?_⟩))
local macro_rules | `(tactic| walk_at "w") => `(tactic| repeat (first | refine ⟨_, rfl, ?_⟩ | refine ⟨_, _, rfl, ?_⟩ | refine ⟨_, _, _, rfl, ?_⟩ | refine ⟨_, _, rfl, rfl, ?_⟩ | refine ⟨rfl, ?_⟩ | refine Or.inl ⟨_, rfl, ?_⟩ | refine ⟨_, _, rfl, .inr ⟨_, SqT.of (by assumption), rfl⟩, ?_⟩ | refine ⟨_, _, rfl, .inl ⟨_, SqL.of (by assumption), rfl⟩, ?_⟩ | refine ⟨_, _, _, _, rfl, rfl, SqT.of (by assumption), (by rfl), ?_⟩ | refine ⟨_, _, _, _, rfl, rfl, SqL.of (by assumption), (by rfl), ?_⟩ | refine ⟨_, _, _, _, rfl, rfl, SqL.of upd_same, (by rfl), ?_⟩ | refine ⟨_, _, _, _, rfl, rfl, (by assumption), (by rfl), ?_⟩ | refine ⟨_, _, _, _, rfl, rfl, upd_same, (by rfl), ?_⟩))
section
variable {P : Program} {w : World} {K : PySem.W.Frag} {mg : Str → Option Value} {base : Heap}
theorem cut_take {ns : List Int} {k : Nat} : cutV (ns.map V.int) none (some (k : Int)) = (ns.take k).map V.int := by
  unfold cutV
  rw [HT.sIx_none, HT.sIx_nat, List.drop_zero, Nat.sub_zero, List.map_take, List.length_map]
  rcases Nat.le_total k ns.length with h | h
  · rw [Nat.min_eq_left h]
  · rw [Nat.min_eq_right h, List.take_of_length_le (by simp), List.take_of_length_le (by simpa using h)]
theorem sc__law_jug : FnScope ["_law_cells", "_law_k", "_law_cell", "_law_mixed", "_law_each", "_law_digits"] ["_law_cells", "_law_k"] (defScope s__law_jug) :=
  ⟨rfl, rfl, rfl, by decide +kernel, rfl, by decide +kernel, by decide +kernel⟩
theorem b__law_jug {K : PySem.W.Frag} {x q : Str} {f : Addr} {fd : FuncData} (F : Fun K x q s__law_jug f fd) : Binds K fd ["_law_cells", "_law_k"] [] := F.binds (fun _ _ _ _ _ _ us hl => match us, hl with | [_, _], _ => rfl)
theorem w__law_jug (T : Tx K mg) : Can P w K mg base CX0 1 "_law_jug" ["_law_cells", "_law_k"] (fun vs H Q _ => ∃ (a : Addr) (ns : List Int) (k : Nat), vs = [.ref a, .int k] ∧ SqL K H a (ns.map V.int) ∧ ns.length ≤ 1000 ∧ k ≤ 1000 ∧ (∀ H', Ex [] H H' → SqL K H' a (ns.map V.int)) ∧
    ∀ p H', Ex [] H H' → JugAt H' p → H p = none → Q (.ref p) H') :=
  can0 T.d__law_jug sc__law_jug b__law_jug (fun vs H Q E ⟨i, _, _, e, _⟩ => by rw [e]; rfl) fun f cdv A outer s H vs Q E hr ⟨a, ns, k, ev, ha, hn, hk, hkeep, q⟩ => by
  subst ev
  refine ⟨_, (pss_cons (ps_par (i := 2) (j := 3) (by rfl) sc__law_jug.nd rfl rfl (by decide) rfl rfl (pa_cons (pe_ifExp (pt_cmpR op_lt (pv 1) (pe_callB call_len (by rfl) T.m_len (by decide +kernel) (pa_cons (pv 0) pa_nil)) (nomark _)) (pe_callTy call_int1 (by rfl) T.m_int (by decide +kernel) (pa_cons (pe_ix ix_list (pv 0) (pv 1) (fun _ _ => rfl)) pa_nil)) pe_int) (pa_cons (pe_op op_add (pe_op op_mul pe_int (pe_op op_add (pv 1) pe_int)) pe_int) pa_nil)) (by rfl))
    (pss_cons (ps_for PassesOwn.never (by rfl) (pi_list (pe_slice sl_list (pv 0) po_none (po_some pe_int))) (pg_name (i := 4) sc__law_jug.nd rfl (Or.inl rfl)) (pss_one (ps_set (i := 3) sc__law_jug.nd rfl (Or.inl rfl) (pe_op op_mod (pe_callTy call_int1 (by rfl) T.m_int (by decide +kernel) (pa_cons (pe_op op_add (pe_op op_add (pe_op op_mul (pv 3) pe_int) (pe_op op_mod (pe_callTy call_int1 (by rfl) T.m_int (by decide +kernel) (pa_cons (pv 4) pa_nil)) pe_int)) (pe_op op_mul pe_int (pv 1))) pa_nil)) pe_int))))
    (pss_cons (ps_set (i := 5) sc__law_jug.nd rfl (Or.inl rfl) (pe_ifExp (PW.pt (pw_or (pt_cmpR op_lt (pv 2) pe_int (nomark _)) (pw_or1 (pt_cmpR op_ge (pv 2) (pe_op op_pow pe_int pe_int) (nomark _))))) (pe_callB call_abs (by rfl) T.m_abs (by decide +kernel) (pa_cons (pv 2) pa_nil)) pe_int))
    (pss_one (ps_ret (pe_lst (pa_cons (pv 5) (pa_cons (pe_op op_mod (pe_callTy call_int1 (by rfl) T.m_int (by decide +kernel) (pa_cons (pe_op op_add (pv 3) (pe_op op_mul pe_int (pe_op op_mod (pe_callTy call_int1 (by rfl) T.m_int (by decide +kernel) (pa_cons (pv 2) pa_nil)) pe_int))) pa_nil)) pe_int) (pa_cons pe_int pa_nil))))))))), ?_⟩
  have h1000 : 1000 ≤ sizeLine := by decide
  have cell : ∃ c : Int, ∀ (R : V → Hp → Prop), R (.int c) H → (tIf (tTest (tOp (rI0 fun i j => V.bl (decide (i < j))) (tVar 1) (tCB (fun xs H Q => ∃ x n, xs = [x] ∧ LenV K x H n ∧ Q (.int n) H) (tCons (tVar 0) tNil)))) (tCB (fun xs H Q => (∃ i, xs = [V.int i] ∧ Q (V.int i) H) ∨ ∃ k, xs = [V.bl k] ∧ Q (V.int (if k then 1 else 0)) H) (tCons (tOp (rIxL K) (tVar 0) (tVar 1)) tNil)) (tC (.int 0))) [some (.ref a), some (.int k), none, none, none, none] H R := by
    by_cases hc : k < ns.length
    · refine ⟨ns[k], fun R hR => ?_⟩
      refine ⟨_, rfl, _, rfl, _, _, rfl, .inl ⟨_, ha, rfl⟩, _, _, rfl, rfl, _, rfl, ?_⟩
      refine ite2 (fun _ => ?_) fun c => absurd (decide_eq_true (by rw [List.length_map]; omega)) c
      refine ⟨_, rfl, _, rfl, _, _, _, .int ns[k], rfl, rfl, ha, ?_, .inl ⟨_, rfl, hR⟩⟩
      unfold atI ixN
      rw [if_pos (by omega), if_pos (by rw [List.length_map]; omega)]
      simp [hc]
    · refine ⟨0, fun R hR => ?_⟩
      refine ⟨_, rfl, _, rfl, _, _, rfl, .inl ⟨_, ha, rfl⟩, _, _, rfl, rfl, _, rfl, ?_⟩
      refine ite2 (fun c => absurd (dT c) (by rw [List.length_map]; omega)) fun _ => hR
  obtain ⟨c, hc⟩ := cell
  refine hc _ ?_
  walk_at "g"
  refine ⟨.inl ⟨by decide, by decide⟩, ?_⟩
  walk_at "g"
  refine ⟨_, _, rfl, ha, fun p6 np6 => ?_⟩
  have hcut : cutV (ns.map V.int) none (some 6) = (ns.take 6).map V.int := cut_take (k := 6)
  rw [hcut]
  have fin : ∀ (m : Int) (t : Option V) (H1 : Hp), Ex [] H H1 → tSeq (tAsg (tIf (tOr (tTest (tOp (rI0 fun i j => V.bl (decide (i < j))) (tVar 2) (tC (.int 0)))) (tTest (tOp (rI0 fun i j => V.bl (decide (j ≤ i))) (tVar 2) (tOp (rI CPow fun i j => V.int (i ^ j.toNat)) (tC (.int 10)) (tC (.int 17)))))) (tCB (fun xs H Q => ∃ i, xs = [V.int i] ∧ Q (V.int (if i < 0 then -i else i)) H) (tCons (tVar 2) tNil)) (tC (.int 0))) (gName 5))
      (tRet (tLst (tCons (tVar 5) (tCons (tOp (rI (fun _ j => 0 < j) fun i j => V.int (i % j)) (tCB (fun xs H Q => (∃ i, xs = [V.int i] ∧ Q (V.int i) H) ∨ ∃ k, xs = [V.bl k] ∧ Q (V.int (if k then 1 else 0)) H) (tCons (tOp (rI0 fun i j => V.int (i + j)) (tVar 3) (tOp (rI CMul fun i j => V.int (i * j)) (tC (.int 48673)) (tOp (rI (fun _ j => 0 < j) fun i j => V.int (i % j)) (tCB (fun xs H Q => (∃ i, xs = [V.int i] ∧ Q (V.int i) H) ∨ ∃ k, xs = [V.bl k] ∧ Q (V.int (if k then 1 else 0)) H) (tCons (tVar 2) tNil)) (tC (.int 999863))))) tNil)) (tC (.int 2147483269))) (tCons (tC (.int 0)) tNil)))))
      { nx := fun x H' => Q V.non H', rt := Q } [some (.ref a), some (.int k), some (.int c), some (.int m), t, none] H1 := by
    intro m t H1 hx
    have last : ∀ dg : Int, (tRet (tLst (tCons (tVar 5) (tCons (tOp (rI (fun _ j => 0 < j) fun i j => V.int (i % j)) (tCB (fun xs H Q => (∃ i, xs = [V.int i] ∧ Q (V.int i) H) ∨ ∃ k, xs = [V.bl k] ∧ Q (V.int (if k then 1 else 0)) H) (tCons (tOp (rI0 fun i j => V.int (i + j)) (tVar 3) (tOp (rI CMul fun i j => V.int (i * j)) (tC (.int 48673)) (tOp (rI (fun _ j => 0 < j) fun i j => V.int (i % j)) (tCB (fun xs H Q => (∃ i, xs = [V.int i] ∧ Q (V.int i) H) ∨ ∃ k, xs = [V.bl k] ∧ Q (V.int (if k then 1 else 0)) H) (tCons (tVar 2) tNil)) (tC (.int 999863))))) tNil)) (tC (.int 2147483269))) (tCons (tC (.int 0)) tNil)))))
        { nx := fun x H' => Q V.non H', rt := Q } [some (.ref a), some (.int k), some (.int c), some (.int m), t, some (.int dg)] H1 := fun dg => by
      walk_at "w"
      refine ⟨by show (0 : Int) < 999863; decide, ?_⟩
      walk_at "w"
      refine ⟨.inl ⟨by decide, by decide⟩, ?_⟩
      walk_at "w"
      refine ⟨by show (0 : Int) < 2147483269; decide, ?_⟩
      exact ⟨by show 3 ≤ sizeLine; omega, fun p np => q p _ (hx.new np) ⟨_, _, _, upd_same⟩ (hx.none_back (by simp) np)⟩
    refine ⟨_, rfl, _, _, rfl, rfl, _, rfl, ?_⟩
    refine ite2 (fun _ => ?_) fun _ => ?_
    · exact ⟨_, rfl, _, rfl, last _⟩
    · refine ⟨_, rfl, _, _, rfl, rfl, ⟨by decide, by decide, by decide⟩, _, _, rfl, rfl, _, rfl, ?_⟩
      refine ite2 (fun _ => ?_) fun _ => ?_
      · exact ⟨_, rfl, _, rfl, last _⟩
      · exact last _
  refine ⟨p6, rfl, ⟨_, SqL.of upd_same⟩, for_list (xs := (ns.take 6).map V.int) (fun i σ H' => Ex [] H H' ∧ H' p6 = some (.lst ((ns.take 6).map V.int)) ∧ ∃ (m : Int) (t : Option V), σ = [some (.ref a), some (.int k), some (.int c), some (.int m), t, none]) ⟨Ex.new0 np6, upd_same, _, none, rfl⟩ (fun i σ H' _ h => SqL.of h.2.1) ?_ ?_⟩
  · rintro i x σ H' hi ⟨hx, hp, m, t, rfl⟩
    obtain ⟨e, _, rfl⟩ := ints_get hi
    walk_at "w"
    refine ⟨.inr ⟨by decide, by decide⟩, ?_⟩
    walk_at "w"
    refine ⟨by show (0 : Int) < 1000403; decide, ?_⟩
    walk_at "w"
    refine ⟨.inl ⟨by decide, by decide⟩, ?_⟩
    walk_at "w"
    refine ⟨by show (0 : Int) < 2147483269; decide, ?_⟩
    exact ⟨hx, hp, _, _, rfl⟩
  · rintro σ H' ⟨hx, hp, m, t, rfl⟩
    exact fin m t H' hx
end
end G
-- Wo
set_option pp.maxSteps 800
set_option Elab.async false
set_option linter.all false
set_option maxRecDepth 100000
set_option maxHeartbeats 800000
namespace G
open PySem PySem.Spec PyProof.Rows L2 LamX NdefX
local macro_rules | `(tactic| walk_at "g") => `(tactic| repeat (first | refine ⟨_, rfl, ?_⟩ | refine ⟨_, _, rfl, ?_⟩ | refine ⟨_, _, _, rfl, ?_⟩ | refine ⟨_, _, rfl, rfl, ?_⟩ | refine ⟨rfl, ?_⟩))
local macro_rules | `(tactic| walk_at "w") => `(tactic| repeat (first | refine ⟨_, rfl, ?_⟩ | refine ⟨_, _, rfl, ?_⟩ | refine ⟨_, _, _, rfl, ?_⟩ | refine ⟨_, _, rfl, rfl, ?_⟩ | refine ⟨rfl, ?_⟩ | refine Or.inl ⟨_, rfl, ?_⟩ | refine ⟨_, _, rfl, .inr ⟨_, SqT.of (by assumption), rfl⟩, ?_⟩ | refine ⟨_, _, rfl, .inl ⟨_, SqL.of (by assumption), rfl⟩, ?_⟩ | refine ⟨_, _, _, _, rfl, rfl, SqT.of (by assumption), (by rfl), ?_⟩ | refine ⟨_, _, _, _, rfl, rfl, SqL.of (by assumption), (by rfl), ?_⟩ | refine ⟨_, _, _, _, rfl, rfl, SqL.of upd_same, (by rfl), ?_⟩ | refine ⟨_, _, _, _, rfl, rfl, (by assumption), (by rfl), ?_⟩ | refine ⟨_, _, _, _, rfl, rfl, upd_same, (by rfl), ?_⟩))
section
variable {P : Program} {w : World} {K : PySem.W.Frag} {mg : Str → Option Value} {base : Heap}
end
structure TxO (K : PySem.W.Frag) (mg : Str → Option Value) (x : Str) (st : Stmt) (f : Str) (newId : String) (bmB : List Value) (C : Addr) : Prop where
  g : mg x = some (.ref C)
  ox : OxC K newId bmB C
  no : PySem.W.findIn K (.ref C) f = some none
  ini : ∃ fI fd, PySem.W.findIn K (.ref C) "__init__" = some (some (.ref fI)) ∧ PySem.W.typeIn K (.ref fI) = some (.type "function") ∧ Fun K "__init__" (x ++ ".__init__") st fI fd
/-- .. its __init__ walked -/
structure CanO (P : Program) (w : World) (K : PySem.W.Frag) (mg : Str → Option Value) (base : Heap) (x f : Str) (newId : String) (bmB : List Value) (C : Addr) : Prop where
  g : mg x = some (.ref C)
  ox : OxC K newId bmB C
  ini : ∃ fI fd, PySem.W.findIn K (.ref C) "__init__" = some (some (.ref fI)) ∧ PySem.W.typeIn K (.ref fI) = some (.type "function") ∧ FnOk P w K mg base CX0 1 fI fd ["self", f] (spXi C f) ∧ Binds K fd ["self", f] []
theorem mkO_to {C : Addr} {f : Str} {H1 : Hp} {v : V} {Q : XK} (q : ∀ d, H1 d = none → Q (.ref C) (some d) (upd H1 d (.xd [(f, v)]))) : [v].length ≤ 1000 ∧ ∀ a, H1 a = none → spXi C f (.ref a :: ([v] ++ [])) (upd H1 a (exo a C none))
    (fun u H2 => u = .non ∧ ∃ (d : Addr) (fs : List (Str × V)), H2 a = some (exo a C (some d)) ∧ H2 d = some (exd d fs) ∧ H1 d = none ∧ Q (.ref C) (some d) (upd (del H2 a) d (.xd fs))) (fun _ _ _ => False) :=
  tMkO_xi (ta := fun _ H R => R [v] H) (σ := []) (H := H1) (Q := Q) ⟨v, rfl, q⟩ fun R R' h z => h _ _ z
section
variable {X : Cx} {x f : Str} {C : Addr} {B newId initId : String} {bmB : List Value} {W : WX} {ta : TA} {e : Expr} {es : List Expr} {p pos rpos : Pos}
theorem ps_raiseO (FB : ExcBaseFacts B newId initId bmB) (O : CanO X.prog X.w X.K X.mg X.base x f newId bmB C) (hr : Room 2 X.A) (hc : X.calm = true) (tk : L2N.Takes X W) (px : Passes CX0 X (fun _ _ _ => False)) (hg : Gl X x) (ha : PA X (e :: es) ta)
    (hdb : (x == ("__debug__" : Str)) = false := by decide) (he : starEach (e :: es) X.env = (false, eval e X.env) :: starEach es X.env := by rfl) (hpl : (backTo pos (starEach es X.env)).any (·.1) = false := by rfl) :
    PS X (.Raise (some (.Call (.Name x p) (e :: es) [] pos)) none rpos) (fun _ σ H => tMkO C (spXi C f) [] ta σ H fun cls d H' => W cls d σ H') := by
  obtain ⟨fI, fd, iC, tI, F, b⟩ := O.ini
  exact L2N.ps_raise hc tk (pmk_ox FB O.ox iC tI F hr b px hg O.g ha hdb he hpl)
end
section
variable {P : Program} {w : World} {K : PySem.W.Frag} {mg : Str → Option Value} {base : Heap} {C : Addr}
theorem sc_UnknownName_init : FnScope ["self", "given"] ["self", "given"] (defScope s_UnknownName_init) :=
  ⟨rfl, rfl, rfl, by decide +kernel, rfl, by decide +kernel, by decide +kernel⟩
theorem b_UnknownName_init {K : PySem.W.Frag} {x q : Str} {f : Addr} {fd : FuncData} (F : Fun K x q s_UnknownName_init f fd) : Binds K fd ["self", "given"] [] := F.binds (fun _ _ _ _ _ _ us hl => match us, hl with | [_, _], _ => rfl)
theorem i_UnknownName (O : TxO K mg "UnknownName" s_UnknownName_init "given" "LookupError.__new__" [.type "LookupError", .type "Exception", .type "BaseException", .type "object"] C) :
    CanO P w K mg base "UnknownName" "given" "LookupError.__new__" [.type "LookupError", .type "Exception", .type "BaseException", .type "object"] C := by
  obtain ⟨fI, fd, h1, h2, F⟩ := O.ini
  refine ⟨O.g, O.ox, fI, fd, h1, h2, F.ok sc_UnknownName_init (fun vs H Q E ⟨a, v, e, _⟩ => by rw [e]; rfl) fun cdv A outer s H vs Q E hr ⟨a, v, ev, ha, q⟩ => ?_, b_UnknownName_init F⟩
  subst ev
  refine ⟨_, pss_one (ps_xst (newId := "LookupError.__new__") (f := "given") PySem.F.store_LookupError (pv 0) (pv 1)), ?_⟩
  exact ⟨_, rfl, _, rfl, a, C, rfl, O.ox, O.no, ha, q⟩
theorem sc_InvalidIndex_init : FnScope ["self", "given"] ["self", "given"] (defScope s_InvalidIndex_init) :=
  ⟨rfl, rfl, rfl, by decide +kernel, rfl, by decide +kernel, by decide +kernel⟩
theorem b_InvalidIndex_init {K : PySem.W.Frag} {x q : Str} {f : Addr} {fd : FuncData} (F : Fun K x q s_InvalidIndex_init f fd) : Binds K fd ["self", "given"] [] := F.binds (fun _ _ _ _ _ _ us hl => match us, hl with | [_, _], _ => rfl)
theorem i_InvalidIndex (O : TxO K mg "InvalidIndex" s_InvalidIndex_init "given" "ValueError.__new__" [.type "ValueError", .type "Exception", .type "BaseException", .type "object"] C) :
    CanO P w K mg base "InvalidIndex" "given" "ValueError.__new__" [.type "ValueError", .type "Exception", .type "BaseException", .type "object"] C := by
  obtain ⟨fI, fd, h1, h2, F⟩ := O.ini
  refine ⟨O.g, O.ox, fI, fd, h1, h2, F.ok sc_InvalidIndex_init (fun vs H Q E ⟨a, v, e, _⟩ => by rw [e]; rfl) fun cdv A outer s H vs Q E hr ⟨a, v, ev, ha, q⟩ => ?_, b_InvalidIndex_init F⟩
  subst ev
  refine ⟨_, pss_one (ps_xst (newId := "ValueError.__new__") (f := "given") PySem.F.store_ValueError (pv 0) (pv 1)), ?_⟩
  exact ⟨_, rfl, _, rfl, a, C, rfl, O.ox, O.no, ha, q⟩
theorem sc_Broken_init : FnScope ["self", "index"] ["self", "index"] (defScope s_Broken_init) :=
  ⟨rfl, rfl, rfl, by decide +kernel, rfl, by decide +kernel, by decide +kernel⟩
theorem b_Broken_init {K : PySem.W.Frag} {x q : Str} {f : Addr} {fd : FuncData} (F : Fun K x q s_Broken_init f fd) : Binds K fd ["self", "index"] [] := F.binds (fun _ _ _ _ _ _ us hl => match us, hl with | [_, _], _ => rfl)
theorem i_Broken (O : TxO K mg "Broken" s_Broken_init "index" "ArithmeticError.__new__" [.type "ArithmeticError", .type "Exception", .type "BaseException", .type "object"] C) :
    CanO P w K mg base "Broken" "index" "ArithmeticError.__new__" [.type "ArithmeticError", .type "Exception", .type "BaseException", .type "object"] C := by
  obtain ⟨fI, fd, h1, h2, F⟩ := O.ini
  refine ⟨O.g, O.ox, fI, fd, h1, h2, F.ok sc_Broken_init (fun vs H Q E ⟨a, v, e, _⟩ => by rw [e]; rfl) fun cdv A outer s H vs Q E hr ⟨a, v, ev, ha, q⟩ => ?_, b_Broken_init F⟩
  subst ev
  refine ⟨_, pss_one (ps_xst (newId := "ArithmeticError.__new__") (f := "index") PySem.F.store_ArithmeticError (pv 0) (pv 1)), ?_⟩
  exact ⟨_, rfl, _, rfl, a, C, rfl, O.ox, O.no, ha, q⟩
theorem sc_InUse_init : FnScope ["self", "index"] ["self", "index"] (defScope s_InUse_init) :=
  ⟨rfl, rfl, rfl, by decide +kernel, rfl, by decide +kernel, by decide +kernel⟩
theorem b_InUse_init {K : PySem.W.Frag} {x q : Str} {f : Addr} {fd : FuncData} (F : Fun K x q s_InUse_init f fd) : Binds K fd ["self", "index"] [] := F.binds (fun _ _ _ _ _ _ us hl => match us, hl with | [_, _], _ => rfl)
theorem i_InUse (O : TxO K mg "InUse" s_InUse_init "index" "ArithmeticError.__new__" [.type "ArithmeticError", .type "Exception", .type "BaseException", .type "object"] C) :
    CanO P w K mg base "InUse" "index" "ArithmeticError.__new__" [.type "ArithmeticError", .type "Exception", .type "BaseException", .type "object"] C := by
  obtain ⟨fI, fd, h1, h2, F⟩ := O.ini
  refine ⟨O.g, O.ox, fI, fd, h1, h2, F.ok sc_InUse_init (fun vs H Q E ⟨a, v, e, _⟩ => by rw [e]; rfl) fun cdv A outer s H vs Q E hr ⟨a, v, ev, ha, q⟩ => ?_, b_InUse_init F⟩
  subst ev
  refine ⟨_, pss_one (ps_xst (newId := "ArithmeticError.__new__") (f := "index") PySem.F.store_ArithmeticError (pv 0) (pv 1)), ?_⟩
  exact ⟨_, rfl, _, rfl, a, C, rfl, O.ox, O.no, ha, q⟩
end
end G
-- Wp
set_option pp.maxSteps 800
set_option Elab.async false
set_option linter.all false
set_option maxRecDepth 100000
set_option maxHeartbeats 800000
namespace G
open PySem PySem.Spec PyProof.Rows L2 LamX NdefX
local macro_rules | `(tactic| walk_at "g") => `(tactic| repeat (first | refine ⟨_, rfl, ?_⟩ | refine ⟨_, _, rfl, ?_⟩ | refine ⟨_, _, _, rfl, ?_⟩ | refine ⟨_, _, rfl, rfl, ?_⟩ | refine ⟨rfl, ?_⟩))
local macro_rules | `(tactic| walk_at "w") => `(tactic| repeat (first | refine ⟨_, rfl, ?_⟩ | refine ⟨_, _, rfl, ?_⟩ | refine ⟨_, _, _, rfl, ?_⟩ | refine ⟨_, _, rfl, rfl, ?_⟩ | refine ⟨rfl, ?_⟩ | refine Or.inl ⟨_, rfl, ?_⟩ | refine ⟨_, _, rfl, .inr ⟨_, SqT.of (by assumption), rfl⟩, ?_⟩ | refine ⟨_, _, rfl, .inl ⟨_, SqL.of (by assumption), rfl⟩, ?_⟩ | refine ⟨_, _, _, _, rfl, rfl, SqT.of (by assumption), (by rfl), ?_⟩ | refine ⟨_, _, _, _, rfl, rfl, SqL.of (by assumption), (by rfl), ?_⟩ | refine ⟨_, _, _, _, rfl, rfl, SqL.of upd_same, (by rfl), ?_⟩ | refine ⟨_, _, _, _, rfl, rfl, (by assumption), (by rfl), ?_⟩ | refine ⟨_, _, _, _, rfl, rfl, upd_same, (by rfl), ?_⟩))
section
variable {P : Program} {w : World} {K : PySem.W.Frag} {mg : Str → Option Value} {base : Heap}
end
/-- where the classes stand -/
structure Ad where
  cBook : Addr
  cKept : Addr
  cTrial : Addr
  cWrongValue : Addr
  cWrongName : Addr
  cNoAnswer : Addr
  cInvalidIndex : Addr
  cUnknownName : Addr
  cBroken : Addr
  cInUse : Addr
  cNothingToUndo : Addr
structure TxB (K : PySem.W.Frag) (mg : Str → Option Value) (A : Ad) : Prop where
  clB : Cls K A.cBook
  clK : Cls K A.cKept
  clT : Cls K A.cTrial
  nB1 : NoAttr K A.cBook "numbers"
  nB2 : NoAttr K A.cBook "made"
  nB3 : NoAttr K A.cBook "past"
  nK1 : NoAttr K A.cKept "numbers"
  nK2 : NoAttr K A.cKept "made"
  nK3 : NoAttr K A.cKept "past"
  nK4 : NoAttr K A.cKept "around"
  nT1 : NoAttr K A.cTrial "book"
  nT2 : NoAttr K A.cTrial "held"
  gB : mg "Book" = some (.ref A.cBook)
  gK : mg "Kept" = some (.ref A.cKept)
  gT : mg "Trial" = some (.ref A.cTrial)
  mkB : ∃ f fd, Mk K A.cBook f ∧ Fun K "__init__" "Book.__init__" s_Book_init f fd
  mkK : ∃ f fd, Mk K A.cKept f ∧ Fun K "__init__" "Kept.__init__" s_Kept_init f fd
  mkT : ∃ f fd, Mk K A.cTrial f ∧ Fun K "__init__" "Trial.__init__" s_Trial_init f fd
  d_become : Dm K A.cBook "become" "Book.become" s_Book_become
  d_check_known : Dm K A.cBook "check_known" "Book.check_known" s_Book_check_known
  d_drop : Dm K A.cBook "drop" "Book.drop" s_Book_drop
  d_wish : Dm K A.cBook "wish" "Book.wish" s_Book_wish
  d_lift : Dm K A.cBook "lift" "Book.lift" s_Book_lift
  d_undo : Dm K A.cBook "undo" "Book.undo" s_Book_undo
  d_trial : Dm K A.cBook "trial" "Book.trial" s_Book_trial
  d_tried : Dm K A.cBook "tried" "Book.tried" s_Book_tried
  d_enter : Dm K A.cTrial "__enter__" "Trial.__enter__" s_Trial_enter
  d_exit : Dm K A.cTrial "__exit__" "Trial.__exit__" s_Trial_exit
  p_names : ∃ p g fd, PropOf K A.cBook "names" p g ∧ Fun K "names" "Book.names" s_Book_names g fd
  p_wishes : ∃ p g fd, PropOf K A.cBook "wishes" p g ∧ Fun K "wishes" "Book.wishes" s_Book_wishes g fd
  p_changes : ∃ p g fd, PropOf K A.cBook "changes" p g ∧ Fun K "changes" "Book.changes" s_Book_changes g fd
  book0 : ∃ fc fg fs fl fdc fdg fds fdl, Book0 K A.cBook fc fg fs fl ∧ Fun K "__contains__" "Book.__contains__" s_Book_contains fc fdc ∧ Fun K "__getitem__" "Book.__getitem__" s_Book_getitem fg fdg ∧
    Fun K "__setitem__" "Book.__setitem__" s_Book_setitem fs fds ∧ Fun K "__len__" "Book.__len__" s_Book_len fl fdl
/-- an __init__ -/
def CanI (P : Program) (w : World) (K : PySem.W.Frag) (mg : Str → Option Value) (base : Heap) (k : Nat) (C : Addr) (ps : List Str) (sp : Sp) : Prop := ∃ f fd, Mk K C f ∧ FnOk P w K mg base CX0 k f fd ps sp ∧ Binds K fd ps []
section
variable {X : Cx} {k : Nat} {ps : List Str} {sp : Sp} {x : Str} {C : Addr} {p pos : Pos} {e : Expr} {es : List Expr} {t : TA}
theorem pe_canI0 (Gc : CanI X.prog X.w X.K X.mg X.base k C ps sp) (hr : Room (k + 1) X.A) (hg : Gl X x) (hm : X.mg x = some (.ref C)) (hx : Passes CX0 X E0) (hdb : (x == ("__debug__" : Str)) = false := by decide) : PE X (.Call (.Name x p) [] [] pos) (tMake C sp [] E0 tNil) := by
  obtain ⟨f, fd, M, F, b⟩ := Gc
  exact pe_make0 M F hr hg hm b .nil hx hdb
theorem pe_canI (Gc : CanI X.prog X.w X.K X.mg X.base k C ps sp) (hr : Room (k + 1) X.A) (hg : Gl X x) (hm : X.mg x = some (.ref C)) (hx : Passes CX0 X E0) (ha : PA X (e :: es) t) (hdb : (x == ("__debug__" : Str)) = false := by decide)
    (he : starEach (e :: es) X.env = (false, eval e X.env) :: starEach es X.env := by rfl) (hpl : (backTo pos (starEach es X.env)).any (·.1) = false := by rfl) : PE X (.Call (.Name x p) (e :: es) [] pos) (tMake C sp [] E0 t) := by
  obtain ⟨f, fd, M, F, b⟩ := Gc
  exact pe_make M F hr hg hm b .nil hx ha hdb he hpl
end
def bookF (nd mt pt : Addr) : List (Str × V) := [("numbers", .ref nd), ("made", .ref mt), ("past", .ref pt)]
section
variable {P : Program} {w : World} {K : PySem.W.Frag} {mg : Str → Option Value} {base : Heap} {A : Ad}
theorem sc_Book_init : FnScope ["self"] ["self"] (defScope s_Book_init) :=
  ⟨rfl, rfl, rfl, by decide +kernel, rfl, by decide +kernel, by decide +kernel⟩
theorem b_Book_init {K : PySem.W.Frag} {x q : Str} {f : Addr} {fd : FuncData} (F : Fun K x q s_Book_init f fd) : Binds K fd ["self"] [] := F.binds (fun _ _ _ _ _ _ us hl => match us, hl with | [_], _ => rfl)
theorem w_Book_init (B : TxB K mg A) : CanI P w K mg base 1 A.cBook ["self"] (fun vs H Q _ => ∃ b dx, vs = [.ref b] ∧ H b = some (.ins A.cBook dx []) ∧
    ∀ nd mt pt H', Ex [b] H H' → H' b = some (.ins A.cBook dx (bookF nd mt pt)) → H' nd = some (.dK []) → H' mt = some (.tup []) → H' pt = some (.tup []) → Q .non H') := by
  obtain ⟨f, fd, M, F⟩ := B.mkB
  refine ⟨f, fd, M, F.ok sc_Book_init (fun vs H Q E ⟨b, dx, e, _⟩ => by rw [e]; rfl) fun cdv Ar outer s H vs Q E hr ⟨b, dx, ev, hb, q⟩ => ?_, b_Book_init F⟩
  subst ev
  refine ⟨_, (pss_cons (ps_fld (pv 0) pe_dnewK rfl)
    (pss_cons (ps_fld (pv 0) (pe_tup pa_nil) rfl)
    (pss_one (ps_fld (pv 0) (pe_tup pa_nil) rfl)))), ?_⟩
  refine fun nd nnd => ⟨_, rfl, b, _, dx, _, rfl, upN nnd hb, B.clB, B.nB1, by decide, ?_⟩
  have hbn : b ≠ nd := ne_of_none hb nnd
  refine ⟨by show 0 ≤ sizeLine; decide, fun mt nmt => ⟨_, rfl, b, _, dx, _, rfl, upN nmt upd_same, B.clB, B.nB2, by show 1 < 1000; decide, ?_⟩⟩
  have hbm : b ≠ mt := ne_of_none upd_same nmt
  refine ⟨by show 0 ≤ sizeLine; decide, fun pt npt => ⟨_, rfl, b, _, dx, _, rfl, upN npt upd_same, B.clB, B.nB3, by show 2 < 1000; decide, ?_⟩⟩
  have hbp : b ≠ pt := ne_of_none upd_same npt
  have hnm : nd ≠ mt := ne_of_none (show upd (upd H nd (.dK [])) b _ nd = some (.dK []) by rw [upd_ne (Ne.symm hbn), upd_same]) nmt
  refine q nd mt pt _ ?_ (by rw [upd_same]; rfl) ?_ ?_ ?_
  · exact ((((((Ex.refl [b] H).new nnd).put (by simp)).new nmt).put (by simp)).new npt).put (by simp)
  · rw [upd_ne (Ne.symm hbn)]
    refine upN npt ?_
    rw [upd_ne (Ne.symm hbn)]
    refine upN nmt ?_
    rw [upd_ne (Ne.symm hbn), upd_same]
  · rw [upd_ne (Ne.symm hbm)]
    refine upN npt ?_
    rw [upd_ne (Ne.symm hbm), upd_same]
  · rw [upd_ne (Ne.symm hbp), upd_same]
theorem sc_Kept_init : FnScope ["self", "numbers", "made", "past", "around"] ["self", "numbers", "made", "past", "around"] (defScope s_Kept_init) :=
  ⟨rfl, rfl, rfl, by decide +kernel, rfl, by decide +kernel, by decide +kernel⟩
theorem b_Kept_init {K : PySem.W.Frag} {x q : Str} {f : Addr} {fd : FuncData} (F : Fun K x q s_Kept_init f fd) : Binds K fd ["self", "numbers", "made", "past", "around"] [] := F.binds (fun _ _ _ _ _ _ us hl => match us, hl with | [_, _, _, _, _], _ => rfl)
def keptF (x1 x2 x3 x4 : V) : List (Str × V) := [("numbers", x1), ("made", x2), ("past", x3), ("around", x4)]
theorem w_Kept_init (B : TxB K mg A) : CanI P w K mg base 1 A.cKept ["self", "numbers", "made", "past", "around"] (fun vs H Q _ => ∃ b dx x1 x2 x3 x4, vs = [.ref b, x1, x2, x3, x4] ∧ H b = some (.ins A.cKept dx []) ∧
    ∀ H', Ex [b] H H' → H' b = some (.ins A.cKept dx (keptF x1 x2 x3 x4)) → Q .non H') := by
  obtain ⟨f, fd, M, F⟩ := B.mkK
  refine ⟨f, fd, M, F.ok sc_Kept_init (fun vs H Q E ⟨b, dx, _, _, _, _, e, _⟩ => by rw [e]; rfl) fun cdv Ar outer s H vs Q E hr ⟨b, dx, x1, x2, x3, x4, ev, hb, q⟩ => ?_, b_Kept_init F⟩
  subst ev
  refine ⟨_, (pss_cons (ps_fld (pv 0) (pv 1) rfl)
    (pss_cons (ps_fld (pv 0) (pv 2) rfl)
    (pss_cons (ps_fld (pv 0) (pv 3) rfl)
    (pss_one (ps_fld (pv 0) (pv 4) rfl))))), ?_⟩
  refine ⟨_, rfl, _, rfl, b, _, dx, _, rfl, hb, B.clK, B.nK1, by decide, ?_⟩
  refine ⟨_, rfl, _, rfl, b, _, dx, _, rfl, upd_same, B.clK, B.nK2, by show 1 < 1000; decide, ?_⟩
  refine ⟨_, rfl, _, rfl, b, _, dx, _, rfl, upd_same, B.clK, B.nK3, by show 2 < 1000; decide, ?_⟩
  refine ⟨_, rfl, _, rfl, b, _, dx, _, rfl, upd_same, B.clK, B.nK4, by show 3 < 1000; decide, ?_⟩
  exact q _ (((((Ex.refl [b] H).put (by simp)).put (by simp)).put (by simp)).put (by simp)) (by rw [upd_same]; rfl)
theorem sc_Trial_init : FnScope ["self", "book"] ["self", "book"] (defScope s_Trial_init) :=
  ⟨rfl, rfl, rfl, by decide +kernel, rfl, by decide +kernel, by decide +kernel⟩
theorem b_Trial_init {K : PySem.W.Frag} {x q : Str} {f : Addr} {fd : FuncData} (F : Fun K x q s_Trial_init f fd) : Binds K fd ["self", "book"] [] := F.binds (fun _ _ _ _ _ _ us hl => match us, hl with | [_, _], _ => rfl)
def trialF (x1 x2 : V) : List (Str × V) := [("book", x1), ("held", x2)]
theorem w_Trial_init (B : TxB K mg A) : CanI P w K mg base 1 A.cTrial ["self", "book"] (fun vs H Q _ => ∃ b dx x1, vs = [.ref b, x1] ∧ H b = some (.ins A.cTrial dx []) ∧
    ∀ H', Ex [b] H H' → H' b = some (.ins A.cTrial dx (trialF x1 .non)) → Q .non H') := by
  obtain ⟨f, fd, M, F⟩ := B.mkT
  refine ⟨f, fd, M, F.ok sc_Trial_init (fun vs H Q E ⟨b, dx, _, e, _⟩ => by rw [e]; rfl) fun cdv Ar outer s H vs Q E hr ⟨b, dx, x1, ev, hb, q⟩ => ?_, b_Trial_init F⟩
  subst ev
  refine ⟨_, (pss_cons (ps_fld (pv 0) (pv 1) rfl)
    (pss_one (ps_fld (pv 0) pe_non rfl))), ?_⟩
  refine ⟨_, rfl, _, rfl, b, _, dx, _, rfl, hb, B.clT, B.nT1, by decide, ?_⟩
  refine ⟨_, rfl, b, _, dx, _, rfl, upd_same, B.clT, B.nT2, by show 1 < 1000; decide, ?_⟩
  exact q _ (((Ex.refl [b] H).put (by simp)).put (by simp)) (by rw [upd_same]; rfl)
theorem sc_Book_trial : FnScope ["self"] ["self"] (defScope s_Book_trial) :=
  ⟨rfl, rfl, rfl, by decide +kernel, rfl, by decide +kernel, by decide +kernel⟩
theorem b_Book_trial {K : PySem.W.Frag} {x q : Str} {f : Addr} {fd : FuncData} (F : Fun K x q s_Book_trial f fd) : Binds K fd ["self"] [] := F.binds (fun _ _ _ _ _ _ us hl => match us, hl with | [_], _ => rfl)
theorem w_trial (B : TxB K mg A) : CanM P w K mg base CX0 3 A.cBook "trial" ["self"] (fun vs H Q _ => ∃ b, vs = [.ref b] ∧ ∀ t dx H', Ex [] H H' → H t = none → H' t = some (.ins A.cTrial dx (trialF (.ref b) .non)) → Q (.ref t) H') := by
  refine canM0 B.d_trial sc_Book_trial b_Book_trial (fun vs H Q E ⟨b, e, _⟩ => by rw [e]; rfl) fun f cdv Ar outer s H vs Q E hr ⟨b, ev, q⟩ => ?_
  subst ev
  have c_Trial := w_Trial_init (P := P) (w := w) (base := base) B
  refine ⟨_, (pss_one (ps_ret (pe_canI c_Trial (hr.mono (by decide)) (by rfl) B.gT pass0 (pa_cons (pv 0) pa_nil)))), ?_⟩
  refine ⟨_, rfl, fun t dx nt ndx ne => ⟨t, dx, _, rfl, upd_same, fun H' hx ht => ⟨rfl, ?_⟩⟩⟩
  refine q t dx H' ?_ nt ht
  intro a o n e
  refine hx a o (by simp; exact ne_of_none e nt) ?_
  rw [upd_ne (ne_of_none e nt), upd_ne (ne_of_none e ndx)]
  exact e
theorem sc_Book_wishes : FnScope ["self"] ["self"] (defScope s_Book_wishes) :=
  ⟨rfl, rfl, rfl, by decide +kernel, rfl, by decide +kernel, by decide +kernel⟩
theorem b_Book_wishes {K : PySem.W.Frag} {x q : Str} {f : Addr} {fd : FuncData} (F : Fun K x q s_Book_wishes f fd) : Binds K fd ["self"] [] := F.binds (fun _ _ _ _ _ _ us hl => match us, hl with | [_], _ => rfl)
theorem sc_Book_changes : FnScope ["self"] ["self"] (defScope s_Book_changes) :=
  ⟨rfl, rfl, rfl, by decide +kernel, rfl, by decide +kernel, by decide +kernel⟩
theorem b_Book_changes {K : PySem.W.Frag} {x q : Str} {f : Addr} {fd : FuncData} (F : Fun K x q s_Book_changes f fd) : Binds K fd ["self"] [] := F.binds (fun _ _ _ _ _ _ us hl => match us, hl with | [_], _ => rfl)
theorem sc_Book_names : FnScope ["self"] ["self"] (defScope s_Book_names) :=
  ⟨rfl, rfl, rfl, by decide +kernel, rfl, by decide +kernel, by decide +kernel⟩
theorem b_Book_names {K : PySem.W.Frag} {x q : Str} {f : Addr} {fd : FuncData} (F : Fun K x q s_Book_names f fd) : Binds K fd ["self"] [] := F.binds (fun _ _ _ _ _ _ us hl => match us, hl with | [_], _ => rfl)
/-- a property -/
def CanP (P : Program) (w : World) (K : PySem.W.Frag) (mg : Str → Option Value) (base : Heap) (k : Nat) (C : Addr) (f : Str) (sp : Sp) : Prop := ∃ p g fd, PropOf K C f p g ∧ FnOk P w K mg base CX0 k g fd ["self"] sp ∧ Binds K fd ["self"] []
theorem w_wishes (B : TxB K mg A) : CanP P w K mg base 1 A.cBook "wishes" (fun vs H Q _ => ∃ b dx nd mt pt, vs = [.ref b] ∧ H b = some (.ins A.cBook dx (bookF nd mt pt)) ∧ Q (.ref mt) H) := by
  obtain ⟨p, g, fd, hp, F⟩ := B.p_wishes
  refine ⟨p, g, fd, hp, F.ok sc_Book_wishes (fun vs H Q E ⟨b, _, _, _, _, e, _⟩ => by rw [e]; rfl) fun cdv Ar outer s H vs Q E hr ⟨b, dx, nd, mt, pt, ev, hb, q⟩ => ?_, b_Book_wishes F⟩
  subst ev
  refine ⟨_, (pss_one (ps_ret (pe_fld (pv 0) rfl))), ?_⟩
  exact ⟨_, rfl, b, _, dx, _, _, rfl, hb, B.clB, B.nB2, rfl, q⟩
theorem w_changes (T : Tx K mg) (B : TxB K mg A) : CanP P w K mg base 1 A.cBook "changes" (fun vs H Q _ => ∃ b dx nd mt pt qs, vs = [.ref b] ∧ H b = some (.ins A.cBook dx (bookF nd mt pt)) ∧ H pt = some (.tup qs) ∧ Q (.int qs.length) H) := by
  obtain ⟨p, g, fd, hp, F⟩ := B.p_changes
  refine ⟨p, g, fd, hp, F.ok sc_Book_changes (fun vs H Q E ⟨b, _, _, _, _, _, e, _⟩ => by rw [e]; rfl) fun cdv Ar outer s H vs Q E hr ⟨b, dx, nd, mt, pt, qs, ev, hb, hq, q⟩ => ?_, b_Book_changes F⟩
  subst ev
  refine ⟨_, (pss_one (ps_ret (pe_callB call_len (by rfl) T.m_len (by decide +kernel) (pa_cons (pe_fld (pv 0) rfl) pa_nil)))), ?_⟩
  exact ⟨_, rfl, b, _, dx, _, _, rfl, hb, B.clB, B.nB3, rfl, _, _, rfl, .inr ⟨_, SqT.of hq, rfl⟩, q⟩
end
end G
-- Wq
set_option pp.maxSteps 800
set_option Elab.async false
set_option linter.all false
set_option maxRecDepth 100000
set_option maxHeartbeats 800000
namespace G
open PySem PySem.Spec PyProof.Rows L2 LamX NdefX
local macro_rules | `(tactic| walk_at "g") => `(tactic| repeat (first | refine ⟨_, rfl, ?_⟩ | refine ⟨_, _, rfl, ?_⟩ | refine ⟨_, _, _, rfl, ?_⟩ | refine ⟨_, _, rfl, rfl, ?_⟩ | refine ⟨rfl, ?_⟩))
local macro_rules | `(tactic| walk_at "w") => `(tactic| repeat (first | refine ⟨_, rfl, ?_⟩ | refine ⟨_, _, rfl, ?_⟩ | refine ⟨_, _, _, rfl, ?_⟩ | refine ⟨_, _, rfl, rfl, ?_⟩ | refine ⟨rfl, ?_⟩ | refine Or.inl ⟨_, rfl, ?_⟩ | refine ⟨_, _, rfl, .inr ⟨_, SqT.of (by assumption), rfl⟩, ?_⟩ | refine ⟨_, _, rfl, .inl ⟨_, SqL.of (by assumption), rfl⟩, ?_⟩ | refine ⟨_, _, _, _, rfl, rfl, SqT.of (by assumption), (by rfl), ?_⟩ | refine ⟨_, _, _, _, rfl, rfl, SqL.of (by assumption), (by rfl), ?_⟩ | refine ⟨_, _, _, _, rfl, rfl, SqL.of upd_same, (by rfl), ?_⟩ | refine ⟨_, _, _, _, rfl, rfl, (by assumption), (by rfl), ?_⟩ | refine ⟨_, _, _, _, rfl, rfl, upd_same, (by rfl), ?_⟩))
section
variable {P : Program} {w : World} {K : PySem.W.Frag} {mg : Str → Option Value} {base : Heap}
end
theorem canon {ys : List Str} (ht : ∀ z ∈ ys, Title z) (hn : ys.Nodup) (hs : sortedS ys = true) : ys = (["a", "main", "zz"] : List Str).filter fun z => decide (z ∈ ys) := by
  match ys with
  | [] => decide +kernel
  | [x] =>
    rcases ht x (by simp) with e | e | e <;> subst e <;> decide +kernel
  | [x, y] =>
    rcases ht x (by simp) with e | e | e <;> rcases ht y (by simp) with e2 | e2 | e2 <;> subst e <;> subst e2 <;> first | decide +kernel | exact absurd hn (by decide +kernel) | exact absurd hs (by decide +kernel)
  | [x, y, z] =>
    rcases ht x (by simp) with e | e | e <;> rcases ht y (by simp) with e2 | e2 | e2 <;> rcases ht z (by simp) with e3 | e3 | e3 <;> subst e <;> subst e2 <;> subst e3 <;> first | decide +kernel | exact absurd hn (by decide +kernel) | exact absurd hs (by decide +kernel)
  | x :: y :: z :: u :: r =>
    have := nodup_titles hn ht
    simp at this
theorem sorted_one {l a b : List Str} (ht : ∀ z ∈ l, Title z) (hn : l.Nodup) (ha : a.Perm l) (hb : b.Perm l) (sa : sortedS a = true) (sb : sortedS b = true) : a = b := by
  rw [canon (fun z hz => ht z (ha.mem_iff.mp hz)) (ha.nodup_iff.mpr hn) sa, canon (fun z hz => ht z (hb.mem_iff.mp hz)) (hb.nodup_iff.mpr hn) sb]
  congr 1
  funext z
  rw [decide_eq_decide]
  exact ha.mem_iff.trans hb.mem_iff.symm
section
variable {P : Program} {w : World} {K : PySem.W.Frag} {mg : Str → Option Value} {base : Heap} {A : Ad}
theorem w_names (T : Tx K mg) (B : TxB K mg A) : CanP P w K mg base 1 A.cBook "names" (fun vs H Q _ => ∃ b dx nd mt pt S, vs = [.ref b] ∧ H b = some (.ins A.cBook dx (bookF nd mt pt)) ∧ NumsAt H nd S ∧ S.length ≤ 3 ∧
    ∀ p ys H', Ex [] H H' → ys.Perm (S.map (·.1)) → sortedS ys = true → H' p = some (.tup (ys.map V.str)) → Q (.ref p) H') := by
  obtain ⟨p, g, fd, hp, F⟩ := B.p_names
  refine ⟨p, g, fd, hp, F.ok sc_Book_names (fun vs H Q E ⟨b, _, _, _, _, _, e, _⟩ => by rw [e]; rfl) fun cdv Ar outer s H vs Q E hr ⟨b, dx, nd, mt, pt, S, ev, hb, hn, h3, q⟩ => ?_, b_Book_names F⟩
  subst ev
  refine ⟨_, (pss_one (ps_ret (pe_callTy call_tuple_of (by rfl) T.m_tuple (by decide +kernel) (pa_cons (pe_callB cr_sortedS (by rfl) T.m_sorted (by decide +kernel) (pa_cons ((pe_callTy (call_listD rfl) (by rfl) T.m_list (by decide +kernel) (pa_cons (pe_fld (pv 0) rfl) pa_nil))) pa_nil)) pa_nil)))), ?_⟩
  obtain ⟨kvs, hd, hi⟩ := hn
  have hk : (kvs.map fun kv => kV kv.1) = (S.map (·.1)).map V.str := by
    have e := hi.keys
    have e2 : (kvs.map fun kv => kV kv.1) = (kvs.map (·.1)).map kV := by rw [List.map_map]; rfl
    rw [e2, e, List.map_map]
    rfl
  refine ⟨_, rfl, b, _, dx, _, _, rfl, hb, B.clB, B.nB1, rfl, nd, kvs, rfl, .inl hd, fun l nl => ?_⟩
  rw [hk]
  refine ⟨l, S.map (·.1), rfl, SqL.of upd_same, by rw [List.length_map]; omega, fun ys p2 hp2 hs np2 => ?_⟩
  refine ⟨_, _, rfl, .inl ⟨SqL.of upd_same, fun p3 np3 => q p3 ys _ (((Ex.new0 nl).new np2).new np3) hp2 hs upd_same⟩⟩
theorem sc_Book_become : FnScope ["self", "numbers", "made"] ["self", "numbers", "made"] (defScope s_Book_become) :=
  ⟨rfl, rfl, rfl, by decide +kernel, rfl, by decide +kernel, by decide +kernel⟩
theorem b_Book_become {K : PySem.W.Frag} {x q : Str} {f : Addr} {fd : FuncData} (F : Fun K x q s_Book_become f fd) : Binds K fd ["self", "numbers", "made"] [] := F.binds (fun _ _ _ _ _ _ us hl => match us, hl with | [_, _, _], _ => rfl)
theorem w_become (B : TxB K mg A) : CanM P w K mg base CX0 1 A.cBook "become" ["self", "numbers", "made"] (fun vs H Q _ => ∃ b dx nd mt pt x y qs, vs = [.ref b, .ref x, .ref y] ∧ H b = some (.ins A.cBook dx (bookF nd mt pt)) ∧ H pt = some (.tup (qs.map V.ref)) ∧ qs.length ≤ 1000 ∧
    ∀ pt' q' H', Ex [b] H H' → H' b = some (.ins A.cBook dx (bookF x y pt')) → H' pt' = some (.tup ((qs ++ [q']).map V.ref)) → H' q' = some (.tup [.ref nd, .ref mt]) → Q .non H') := by
  refine canM0 B.d_become sc_Book_become b_Book_become (fun vs H Q E ⟨b, _, _, _, _, _, _, _, e, _⟩ => by rw [e]; rfl) fun f cdv Ar outer s H vs Q E hr ⟨b, dx, nd, mt, pt, x, y, qs, ev, hb, hq, hl, q⟩ => ?_
  subst ev
  have h1000 : 2000 ≤ sizeLine := by decide
  refine ⟨_, (pss_cons (ps_fld (pv 0) (pe_op op_catA (pe_fld (pv 0) rfl) (pe_tup (pa_cons (pe_tup (pa_cons (pe_fld (pv 0) rfl) (pa_cons (pe_fld (pv 0) rfl) pa_nil))) pa_nil))) rfl)
    (pss_cons (ps_fld (pv 0) (pv 1) rfl)
    (pss_one (ps_fld (pv 0) (pv 2) rfl)))), ?_⟩
  refine ⟨_, rfl, b, _, dx, _, _, rfl, hb, B.clB, B.nB3, rfl, ?_⟩
  refine ⟨_, rfl, b, _, dx, _, _, rfl, hb, B.clB, B.nB1, rfl, _, rfl, b, _, dx, _, _, rfl, hb, B.clB, B.nB2, rfl, ?_⟩
  refine ⟨by show 2 ≤ sizeLine; omega, fun q1 nq1 => ⟨by show 1 ≤ sizeLine; omega, fun t1 nt1 => ?_⟩⟩
  have hxt : ∀ o, Ex [] H (upd _ t1 o) := fun o => (Ex.new0 nq1).new nt1
  have last : ∀ (pt' : Addr) (H2 : Hp), Ex [] H H2 → H2 pt' = some (.tup ((qs ++ [q1]).map V.ref)) → H2 q1 = some (.tup [.ref nd, .ref mt]) →
      tSeq (sFld K (tVar 0) (tVar 1) "numbers") (sFld K (tVar 0) (tVar 2) "made") { nx := fun _ H' => Q .non H', rt := Q } [some (.ref b), some (.ref x), some (.ref y)] (upd H2 b (.ins A.cBook dx (bookF nd mt pt'))) := fun pt' H2 hx2 hp2 hq2 => by
    refine ⟨_, rfl, _, rfl, b, _, dx, _, rfl, upd_same, B.clB, B.nB1, by show 3 < 1000; decide, ?_⟩
    refine ⟨_, rfl, _, rfl, b, _, dx, _, rfl, upd_same, B.clB, B.nB2, by show 3 < 1000; decide, ?_⟩
    have hpb : pt' ≠ b := fun z => by rw [z, hx2 _ _ (by simp) hb] at hp2; cases hp2
    have hqb : q1 ≠ b := fun z => by rw [z, hx2 _ _ (by simp) hb] at hq2; cases hq2
    refine q pt' q1 _ (((hx2.sub.put (by simp)).put (by simp)).put (by simp)) (by rw [upd_same]; rfl) ?_ ?_
    · rw [upd_ne hpb, upd_ne hpb, upd_ne hpb]
      exact hp2
    · rw [upd_ne hqb, upd_ne hqb, upd_ne hqb]
      exact hq2
  have hb2 := fun o => hxt o _ _ (by simp) hb
  refine ⟨pt, t1, qs.map V.ref, [.ref q1], rfl, rfl, SqT.of (hxt _ _ _ (by simp) hq), SqT.of upd_same, by rw [List.length_map]; show qs.length + 1 ≤ sizeLine; omega, fun hz => ?_, fun _ hz => absurd hz (by simp), fun _ _ p np => ?_⟩
  · have hz2 : qs = [] := by simpa using hz
    subst hz2
    refine ⟨_, rfl, b, _, dx, _, rfl, hb2 _, B.clB, B.nB3, by show 3 < 1000; decide, ?_⟩
    exact last t1 _ (hxt _) upd_same (upN nt1 upd_same)
  · refine ⟨_, rfl, b, _, dx, _, rfl, upN np (hb2 _), B.clB, B.nB3, by show 3 < 1000; decide, ?_⟩
    exact last p _ ((hxt _).new np) (by rw [upd_same]; simp) (upN np (upN nt1 upd_same))
/-! the protocols of a book -/
/-- a special method at its address -/
structure CanS (P : Program) (w : World) (K : PySem.W.Frag) (mg : Str → Option Value) (base : Heap) (CX : CXT) (k : Nat) (f : Addr) (ps : List Str) (sp : Sp) : Prop where
  ex : ∃ fd, FnOk P w K mg base CX k f fd ps sp ∧ Binds K fd ps []
def spHas (A : Ad) : Sp := fun vs H Q _ => ∃ b dx nd mt pt S t, vs = [.ref b, .str t] ∧ H b = some (.ins A.cBook dx (bookF nd mt pt)) ∧ NumsAt H nd S ∧ Q (.bl (getS S t).isSome) H
theorem sc_Book_contains : FnScope ["self", "name"] ["self", "name"] (defScope s_Book_contains) :=
  ⟨rfl, rfl, rfl, by decide +kernel, rfl, by decide +kernel, by decide +kernel⟩
theorem b_Book_contains {K : PySem.W.Frag} {x q : Str} {f : Addr} {fd : FuncData} (F : Fun K x q s_Book_contains f fd) : Binds K fd ["self", "name"] [] := F.binds (fun _ _ _ _ _ _ us hl => match us, hl with | [_, _], _ => rfl)
theorem w_contains (T : Tx K mg) (B : TxB K mg A) {fc : Addr} {fd : FuncData} (F : Fun K "__contains__" "Book.__contains__" s_Book_contains fc fd) : CanS P w K mg base CX0 1 fc ["self", "name"] (spHas A) := by
  refine ⟨fd, F.ok sc_Book_contains (fun vs H Q E ⟨b, _, _, _, _, _, _, e, _⟩ => by rw [e]; rfl) fun cdv Ar outer s H vs Q E hr ⟨b, dx, nd, mt, pt, S, t, ev, hb, hn, q⟩ => ?_, b_Book_contains F⟩
  subst ev
  refine ⟨_, (pss_one (ps_ret (pe_and (pe_callB call_isi (by rfl) T.m_isinstance (by decide +kernel) (pa_cons (pv 1) (pa_cons (pe_bltn (v := .ty "str") (by rfl) T.m_str (by decide +kernel) rfl) pa_nil))) (pe_one (pe_cmp ((pc_din (hu_of hr)) (pv 1) (pe_fld (pv 0) rfl))))))), ?_⟩
  refine ⟨_, rfl, _, _, _, _, true, rfl, .ty _, .base (.str _), kit_ty (by decide +kernel), true, rfl, ?_⟩
  refine ⟨_, rfl, _, rfl, b, _, dx, _, _, rfl, hb, B.clB, B.nB1, rfl, ?_⟩
  rcases hn.keys t with ⟨e1, e2⟩ | ⟨p2, sg, r, e1, e2, _⟩
  · rw [e1] at q
    exact ⟨_, _, rfl, e2, q⟩
  · rw [e1] at q
    exact ⟨_, _, rfl, e2, q⟩
theorem sc_Book_len : FnScope ["self"] ["self"] (defScope s_Book_len) :=
  ⟨rfl, rfl, rfl, by decide +kernel, rfl, by decide +kernel, by decide +kernel⟩
theorem b_Book_len {K : PySem.W.Frag} {x q : Str} {f : Addr} {fd : FuncData} (F : Fun K x q s_Book_len f fd) : Binds K fd ["self"] [] := F.binds (fun _ _ _ _ _ _ us hl => match us, hl with | [_], _ => rfl)
theorem w_len (T : Tx K mg) (B : TxB K mg A) {fl : Addr} {fd : FuncData} (F : Fun K "__len__" "Book.__len__" s_Book_len fl fd) : CanS P w K mg base CX0 1 fl ["self"] (fun vs H Q _ => ∃ b dx nd mt pt S, vs = [.ref b] ∧ H b = some (.ins A.cBook dx (bookF nd mt pt)) ∧ NumsAt H nd S ∧ Q (.int S.length) H) := by
  refine ⟨fd, F.ok sc_Book_len (fun vs H Q E ⟨b, _, _, _, _, _, e, _⟩ => by rw [e]; rfl) fun cdv Ar outer s H vs Q E hr ⟨b, dx, nd, mt, pt, S, ev, hb, hn, q⟩ => ?_, b_Book_len F⟩
  subst ev
  obtain ⟨kvs, hd, hi⟩ := hn
  refine ⟨_, (pss_one (ps_ret (pe_callB call_lenD (by rfl) T.m_len (by decide +kernel) (pa_cons (pe_fld (pv 0) rfl) pa_nil)))), ?_⟩
  refine ⟨_, rfl, b, _, dx, _, _, rfl, hb, B.clB, B.nB1, rfl, nd, kvs, rfl, hd, ?_⟩
  rw [hi.len]
  exact q
end
end G
-- Wr
set_option pp.maxSteps 800
set_option Elab.async false
set_option linter.all false
set_option maxRecDepth 100000
set_option maxHeartbeats 800000
namespace G
open PySem PySem.Spec PyProof.Rows L2 LamX NdefX
local macro_rules | `(tactic| walk_at "g") => `(tactic| repeat (first | refine ⟨_, rfl, ?_⟩ | refine ⟨_, _, rfl, ?_⟩ | refine ⟨_, _, _, rfl, ?_⟩ | refine ⟨_, _, rfl, rfl, ?_⟩ | refine ⟨rfl, ?_⟩))
local macro_rules | `(tactic| walk_at "w") => `(tactic| repeat (first | refine ⟨_, rfl, ?_⟩ | refine ⟨_, _, rfl, ?_⟩ | refine ⟨_, _, _, rfl, ?_⟩ | refine ⟨_, _, rfl, rfl, ?_⟩ | refine ⟨rfl, ?_⟩ | refine Or.inl ⟨_, rfl, ?_⟩ | refine ⟨_, _, rfl, .inr ⟨_, SqT.of (by assumption), rfl⟩, ?_⟩ | refine ⟨_, _, rfl, .inl ⟨_, SqL.of (by assumption), rfl⟩, ?_⟩ | refine ⟨_, _, _, _, rfl, rfl, SqT.of (by assumption), (by rfl), ?_⟩ | refine ⟨_, _, _, _, rfl, rfl, SqL.of (by assumption), (by rfl), ?_⟩ | refine ⟨_, _, _, _, rfl, rfl, SqL.of upd_same, (by rfl), ?_⟩ | refine ⟨_, _, _, _, rfl, rfl, (by assumption), (by rfl), ?_⟩ | refine ⟨_, _, _, _, rfl, rfl, upd_same, (by rfl), ?_⟩))
section
variable {P : Program} {w : World} {K : PySem.W.Frag} {mg : Str → Option Value} {base : Heap}
end
abbrev bmL : List Value := [.type "LookupError", .type "Exception", .type "BaseException", .type "object"]
abbrev bmV : List Value := [.type "ValueError", .type "Exception", .type "BaseException", .type "object"]
abbrev bmA : List Value := [.type "ArithmeticError", .type "Exception", .type "BaseException", .type "object"]
/-- the errors of the book -/
structure Exs (P : Program) (w : World) (K : PySem.W.Frag) (mg : Str → Option Value) (base : Heap) (A : Ad) : Prop where
  un : CanO P w K mg base "UnknownName" "given" "LookupError.__new__" bmL A.cUnknownName
  ii : CanO P w K mg base "InvalidIndex" "given" "ValueError.__new__" bmV A.cInvalidIndex
  br : CanO P w K mg base "Broken" "index" "ArithmeticError.__new__" bmA A.cBroken
  iu : CanO P w K mg base "InUse" "index" "ArithmeticError.__new__" bmA A.cInUse
  ng : mg "NothingToUndo" = some (.ref A.cNothingToUndo)
  nx : PySem.W.excIn K A.cNothingToUndo bmA "ArithmeticError.__new__" = true
  nk : PySem.W.keepIn K (.ref A.cNothingToUndo) = true
  nb : PySem.W.subIn K (.ref A.cNothingToUndo) (.type "BaseException") = some true
  nt : PySem.W.typeIn K (.ref A.cNothingToUndo) = some (.type "type")
/-- a comprehension of a dict over a dict's keys -/
theorem dc_keys {d : Addr} {o : Obj} {kvs : List (Key × V)} {g : TG} {tt : TT} {tk tv : TE} {vs : List Nat} {σ : L2.St} {H1 : Hp} {D : Addr} {Qd : Hp → Prop} (Pv : Nat → Hp → Prop) (h0 : Pv 0 (upd H1 D (.dK []))) (hl : ∀ i H, Pv i H → H d = some (.frz o (.dK kvs)))
    (hs : ∀ i k v H, kvs[i]? = some (k, v) → Pv i H → g (kV k) (wipe σ vs) H fun σ2 H2 => wipe σ2 vs = wipe σ vs ∧ tt σ2 H2 fun b H3 =>
      if b = true then tk σ2 H3 fun y H4 => tv σ2 H4 fun z H5 => ∃ kvs k, y = kV k ∧ H5 D = some (.dK kvs) ∧ kvs.length < sizeLine ∧ Pv (i + 1) (upd H5 D (.dK (putK kvs k z))) else Pv (i + 1) H3) (hd : ∀ H, Pv kvs.length H → Qd H) :
    ∃ W : Nat → Nat → Hp → Prop, (∃ m, W 0 m (upd H1 D (.dK []))) ∧ ∀ i m H, W i m H →
      ((Itk d o kvs).stop i H ∧ Qd H) ∨ ((Itk d o kvs).go i H ∧ ∃ Nx : Hp → Prop, (∀ H', Nx H' → ∃ m', m' < m ∧ W (i + 1) m' H') ∧ ∀ v H', (Itk d o kvs).yld i H v H' → g v (wipe σ vs) H' fun σ2 H2 => wipe σ2 vs = wipe σ vs ∧ tt σ2 H2 fun b H3 =>
        if b = true then tk σ2 H3 fun y H4 => tv σ2 H4 fun z H5 => ∃ kvs k, y = kV k ∧ H5 D = some (.dK kvs) ∧ kvs.length < sizeLine ∧ Nx (upd H5 D (.dK (putK kvs k z))) else Nx H3) := by
  refine ⟨fun i m H => Pv i H ∧ i ≤ kvs.length ∧ m = kvs.length - i, ⟨_, h0, Nat.zero_le _, rfl⟩, fun i m H ⟨hp, hi, hm⟩ => ?_⟩
  rcases Nat.lt_or_ge i kvs.length with h | h
  · refine .inr ⟨⟨hl i H hp, h⟩, Pv (i + 1), fun H' z => ⟨kvs.length - (i + 1), by omega, z, h, rfl⟩, fun x H' ⟨e, k, v, hk, ex⟩ => ?_⟩
    subst e ex
    exact hs i k v H' hk hp
  · obtain rfl : i = kvs.length := by omega
    exact .inl ⟨⟨hl _ H hp, Nat.le_refl _⟩, hd H hp⟩
/-- a loop over an enumerated tuple -/
theorem for_enum {K : PySem.W.Frag} {a : Addr} {xs : List V} {g : TG} {tb : TS} {D : Ends} {σ : L2.St} {H : Hp} (Pv : Nat → L2.St → Hp → Prop) (h0 : Pv 0 σ H) (hl : ∀ i σ H, Pv i σ H → H a = some (.tup xs))
    (hs : ∀ (i : Nat) (x : V) (T : Addr) (σ : L2.St) (H : Hp), xs[i]? = some x → Pv i σ H → H T = none → g (.ref T) σ (upd H T (.tup [.int (i : Nat), x])) fun σ2 H2 => tb { D with nx := Pv (i + 1), ct := Pv (i + 1), bk := D.nx } σ2 H2) (hd : ∀ σ H, Pv xs.length σ H → D.nx σ H) :
    tForI (IteT K a) g tb D σ H := by
  refine ⟨fun i m σ H => Pv i σ H ∧ i ≤ xs.length ∧ m = xs.length - i, ⟨_, h0, Nat.zero_le _, rfl⟩, fun i m σ H ⟨hp, hi, hm⟩ => ?_⟩
  have ha := hl i σ H hp
  rcases Nat.lt_or_ge i xs.length with h | h
  · refine .inr ⟨⟨xs, xs[i], SqT.of ha, by simp [h]⟩, Pv (i + 1), fun σ' H' z => ⟨xs.length - (i + 1), by omega, z, h, rfl⟩, fun v H' ⟨T, x, ev, nT, eH, hx⟩ => ?_⟩
    subst ev eH
    exact hs i x T σ H (hx xs (SqT.of ha)) hp nT
  · obtain rfl : i = xs.length := by omega
    exact .inl ⟨⟨xs, SqT.of ha, Nat.le_refl _⟩, hd σ H hp⟩
def MadeAt (H : Hp) (mt : Addr) (ws : List Wish) : Prop := ∃ ps, H mt = some (.tup (ps.map V.ref)) ∧ WishesAt H ps ws
/-- a book behind a change -/
def Changed (A : Ad) (H : Hp) (b dx nd mt : Addr) (qs : List Addr) (H' : Hp) (nd' mt' : Addr) : Prop := ∃ pt' q', Ex [b] H H' ∧ H' b = some (.ins A.cBook dx (bookF nd' mt' pt')) ∧ H' pt' = some (.tup ((qs ++ [q']).map V.ref)) ∧ H' q' = some (.tup [.ref nd, .ref mt])
theorem key_fresh : ∀ {kvs : List (Key × V)} {i : Nat} {k : Key} {v : V}, (kvs.map (·.1)).Nodup → kvs[i]? = some (k, v) → k ∉ (kvs.take i).map (·.1)
  | kv :: kvs, 0, k, v, _, _ => by simp
  | kv :: kvs, i + 1, k, v, hn, h => by
    rw [List.map_cons, List.nodup_cons] at hn
    have h2 : kvs[i]? = some (k, v) := by simpa using h
    rw [List.take_succ_cons, List.map_cons]
    intro z
    rcases List.mem_cons.mp z with y | y
    · exact hn.1 (List.mem_map.mpr ⟨(k, v), List.mem_of_getElem? h2, y⟩)
    · exact key_fresh hn.2 h2 y
theorem pe_fldE {X : Cx} {K : PySem.W.Frag} {e : Expr} {f : Str} {pos : Pos} {ta : TE} (he : PE X e ta) (hab : attributeBase e f X.env (eval e X.env) = eval e X.env) (h : X.K = K) : PE X (.Attribute e f pos) (tFld K ta f) := h ▸ pe_fld he hab
theorem passF {X : Cx} : Passes (L2N.CX X.prog X.w) X E0 := fun _ _ _ _ _ _ _ ⟨_, _, _, _, _, _, _, _, _, _, _, _, h⟩ => h.elim
section
variable {P : Program} {w : World} {K : PySem.W.Frag} {mg : Str → Option Value} {base : Heap} {A : Ad}
theorem sc_Book_check_known : FnScope ["self", "name"] ["self", "name"] (defScope s_Book_check_known) :=
  ⟨rfl, rfl, rfl, by decide +kernel, rfl, by decide +kernel, by decide +kernel⟩
theorem b_Book_check_known {K : PySem.W.Frag} {x q : Str} {f : Addr} {fd : FuncData} (F : Fun K x q s_Book_check_known f fd) : Binds K fd ["self", "name"] [] := F.binds (fun _ _ _ _ _ _ us hl => match us, hl with | [_, _], _ => rfl)
def spKnown (A : Ad) : Sp := fun vs H Q E => ∃ b dx nd mt pt S t, vs = [.ref b, .str t] ∧ H b = some (.ins A.cBook dx (bookF nd mt pt)) ∧ NumsAt H nd S ∧ ((getS S t).isSome = true → Q .non H) ∧
  (getS S t = none → ∀ d, H d = none → E (.ref A.cUnknownName) (some d) (upd H d (.xd [("given", .str t)])))
theorem w_check_known (T : Tx K mg) (B : TxB K mg A) (O : Exs P w K mg base A) : CanM P w K mg base (L2N.CX P w) 3 A.cBook "check_known" ["self", "name"] (spKnown A) := by
  refine canMX B.d_check_known sc_Book_check_known b_Book_check_known (fun vs H Q E ⟨b, _, _, _, _, _, _, e, _⟩ => by rw [e]; rfl) fun f cdv Ar outer s H vs Q E hr ⟨b, dx, nd, mt, pt, S, t, ev, hb, hn, q1, q2⟩ => ?_
  subst ev
  obtain ⟨fc, fg, fs, fl, fdc, fdg, fds, fdl, B0, Fc, Fg, Fs, Fl⟩ := B.book0
  obtain ⟨fd2, Fc2, bc⟩ := (w_contains (P := P) (w := w) (base := base) T B Fc).ex
  refine ⟨_, (pss_one (ps_if (pt_cmpR (op_notInO B0 Fc2 (hr.mono (by decide)) bc pass0) (pv 1) (pv 0) (by rfl)) (pss_one (ps_raiseO PySem.F.excBase_LookupError O.un (hr.mono (by decide)) rfl (L2N.takes_of rfl rfl rfl rfl) pass0 (by rfl) (pa_cons (pv 1) pa_nil))) pss_nil)), ?_⟩
  refine ⟨_, rfl, _, rfl, b, dx, _, rfl, hb, b, dx, nd, mt, pt, S, t, rfl, hb, hn, _, rfl, _, rfl, ?_⟩
  cases h : getS S t with
  | none => exact ⟨_, rfl, mkO_to fun d hd => q2 h d hd⟩
  | some v => exact q1 (by rw [h]; rfl)
theorem sc_Book_getitem : FnScope ["self", "name"] ["self", "name"] (defScope s_Book_getitem) :=
  ⟨rfl, rfl, rfl, by decide +kernel, rfl, by decide +kernel, by decide +kernel⟩
theorem b_Book_getitem {K : PySem.W.Frag} {x q : Str} {f : Addr} {fd : FuncData} (F : Fun K x q s_Book_getitem f fd) : Binds K fd ["self", "name"] [] := F.binds (fun _ _ _ _ _ _ us hl => match us, hl with | [_, _], _ => rfl)
def spGet (A : Ad) : Sp := fun vs H Q E => ∃ b dx nd mt pt S t, vs = [.ref b, .str t] ∧ H b = some (.ins A.cBook dx (bookF nd mt pt)) ∧ NumsAt H nd S ∧ (getS S t).isSome = true ∧ ∀ p sg r, getS S t = some (sg, r) → Num H p sg r → Q (.ref p) H
theorem w_getitem (T : Tx K mg) (B : TxB K mg A) (O : Exs P w K mg base A) {fg : Addr} {fd : FuncData} (F : Fun K "__getitem__" "Book.__getitem__" s_Book_getitem fg fd) : CanS P w K mg base (L2N.CX P w) 4 fg ["self", "name"] (spGet A) := by
  have c_check_known := w_check_known T B O
  obtain ⟨oc, od, kV, doc, pm, an, cdv, ct, osl, rfl, lk, hcd⟩ := F.ex
  refine ⟨_, fn_of lk hcd sc_Book_getitem (fun vs H Q E ⟨b, _, _, _, _, _, _, e, _⟩ => by rw [e]; rfl) fun Ar outer s H vs Q E hr ⟨b, dx, nd, mt, pt, S, t, ev, hb, hn, hs, q⟩ => ?_, b_Book_getitem F⟩
  subst ev
  refine ⟨_, (pss_cons (ps_expr (pe_canM (pv 0) B.clB c_check_known (hr.mono (by decide)) (passF) (pa_cons (pv 1) pa_nil)))
    (pss_one (ps_ret (pe_dget (hu_of hr) (pe_fld (pv 0) rfl) (pv 1) (fun _ _ => rfl))))), ?_⟩
  refine ⟨_, rfl, b, dx, _, rfl, hb, rfl, _, rfl, b, dx, nd, mt, pt, S, t, rfl, hb, hn, fun _ => ?_, fun z => by rw [z] at hs; cases hs⟩
  obtain ⟨p, sg, r, e1, e2, e3⟩ := hn.has hs
  exact ⟨_, rfl, b, _, dx, _, _, rfl, hb, B.clB, B.nB1, rfl, _, rfl, _, _, rfl, e2, q p sg r e1 e3⟩
theorem sc_Book_drop : FnScope ["self", "name", "index", "wish", "other"] ["self", "name"] (defScope s_Book_drop) :=
  ⟨rfl, rfl, rfl, by decide +kernel, rfl, by decide +kernel, by decide +kernel⟩
theorem b_Book_drop {K : PySem.W.Frag} {x q : Str} {f : Addr} {fd : FuncData} (F : Fun K x q s_Book_drop f fd) : Binds K fd ["self", "name"] [] := F.binds (fun _ _ _ _ _ _ us hl => match us, hl with | [_, _], _ => rfl)
def spDrop (A : Ad) : Sp := fun vs H Q E => ∃ b dx nd mt pt S ws qs t, vs = [.ref b, .str t] ∧ H b = some (.ins A.cBook dx (bookF nd mt pt)) ∧ H pt = some (.tup (qs.map V.ref)) ∧ qs.length ≤ 1000 ∧ NumsAt H nd S ∧ MadeAt H mt ws ∧ ws.length ≤ 1000 ∧ Page.Ok (S, ws) ∧
  (getS S t = none → ∀ d, H d = none → E (.ref A.cUnknownName) (some d) (upd H d (.xd [("given", .str t)]))) ∧
  (∀ i v, getS S t = some v → fst (notIn t) ws = some i → ∀ H1 d, Ex [] H H1 → H1 d = none → E (.ref A.cInUse) (some d) (upd H1 d (.xd [("index", .int (i : Nat))]))) ∧
  (∀ v, getS S t = some v → fst (notIn t) ws = none → ∀ nd' H', Changed A H b dx nd mt qs H' nd' mt → NumsAt H' nd' (dropS S t) → Q .non H')
theorem w_drop (T : Tx K mg) (B : TxB K mg A) (O : Exs P w K mg base A) : CanM P w K mg base (L2N.CX P w) 5 A.cBook "drop" ["self", "name"] (spDrop A) := by
  have c_check_known := w_check_known T B O
  have c_become := w_become (P := P) (w := w) (base := base) B
  have c_names_in := w_names_in (P := P) (w := w) (base := base) T
  refine canMX B.d_drop sc_Book_drop b_Book_drop (fun vs H Q E ⟨b, _, _, _, _, _, _, _, _, e, _⟩ => by rw [e]; rfl) fun f cdv Ar outer s H vs Q E hr ⟨b, dx, nd, mt, pt, S, ws, qs, t, ev, hb, hpt, hql, hn, hm, hwl, hok, q0, q1, q2⟩ => ?_
  subst ev
  refine ⟨_, (pss_cons (ps_expr (pe_canM (pv 0) B.clB c_check_known (hr.mono (by decide)) (L2N.passes_call (E := E) (L2N.takes_of rfl rfl rfl rfl) (fun _ _ _ _ h => h)) (pa_cons (pv 1) pa_nil)))
    (pss_cons (ps_for PassesOwn.leaving (by rfl) (pi_enumT (by rfl) T.m_enumerate (pa_cons (pe_fld (pv 0) rfl) pa_nil)) (pg_tup (by rfl) (pgs_cons (pg_name (i := 2) sc_Book_drop.nd rfl (Or.inl rfl)) (pgs_cons (pg_name (i := 3) sc_Book_drop.nd rfl (Or.inl rfl)) pgs_nil))) (pss_one (ps_if (pt_cmpR op_in_seq (pv 1) (pe_can c_names_in (hr.mono (by decide)) (by rfl) pass0 (pa_cons (pv 3) pa_nil)) (by rfl)) (pss_one (ps_raiseO PySem.F.excBase_ArithmeticError O.iu (hr.mono (by decide)) rfl (L2N.takes_of rfl rfl rfl rfl) pass0 (by rfl) (pa_cons (pv 2) pa_nil))) pss_nil)))
    (pss_one (ps_expr (pe_canM (pv 0) B.clB c_become (hr.mono (by decide)) pass0 (pa_cons (pe_lock (pe_dc (own := [("other", 4)]) (g := gName 4) (by rfl) sc_Book_drop.nd (pi_keys (pe_fld (pv 0) rfl)) (blkOk_by (own := [("other", 4)]) (N := ["self", "name", "index", "wish", "other"]) (sc := defScope s_Book_drop) (by decide +kernel)) (fun _ _ _ _ _ => (pg_name (i := 4) sc_Book_drop.nd rfl (Or.inl rfl))) (fun _ _ _ _ _ => (pts_one (pt_cmpR op_ne (pv 4) (pv 1) (nomark _)))) (fun _ _ _ _ _ => (pv 4)) (fun _ _ _ _ _ => (pe_dget (hu_of hr) (pe_fldE (K := K) (pv 0) rfl rfl) (pv 4) (fun _ _ => rfl))))) (pa_cons (pe_fld (pv 0) rfl) pa_nil))))))), ?_⟩
  have h1000 : 2000 ≤ sizeLine := by decide
  refine ⟨_, rfl, b, dx, _, rfl, hb, rfl, _, rfl, b, dx, nd, mt, pt, S, t, rfl, hb, hn, fun hs => ?_, q0⟩
  obtain ⟨v, hv⟩ := Option.isSome_iff_exists.mp hs
  obtain ⟨ps, hmt, hW⟩ := id hm
  refine ⟨_, rfl, b, _, dx, _, _, rfl, hb, B.clB, B.nB2, rfl, mt, _, rfl, SqT.of hmt, ?_⟩
  refine for_enum (a := mt) (xs := ps.map V.ref) (fun i σ H' => Ex [] H H' ∧ ∃ t2 t3, σ = [some (.ref b), some (.str t), t2, t3, none] ∧ ∀ x ∈ ws.take i, notIn t x = true) ⟨Ex.refl _ _, none, none, rfl, by simp⟩ (fun i σ H' h => h.1 _ _ (by simp) hmt) ?_ ?_
  · rintro i x T1 σ H' hi ⟨hx, t2, t3, rfl, hpre⟩ nT
    have hi2 : i < ps.length := by
      have := (List.getElem?_eq_some_iff.mp hi).1
      simpa using this
    obtain ⟨p, wi, e3, e4, hwi⟩ := hW.get i hi2
    obtain rfl : x = .ref p := by
      rw [List.getElem?_map, e3] at hi
      exact (Option.some.inj hi).symm
    have hxT := hx.new (o := .tup [.int (i : Nat), .ref p]) nT
    refine ⟨_, _, rfl, SqT.of upd_same, rfl, ?_⟩
    walk_at "g"
    refine ⟨p, wi, rfl, hwi.ex hxT, fun q3 nq3 => ?_⟩
    refine ⟨_, _, rfl, .inr (SqT.of upd_same), rfl, ?_, _, rfl, ?_⟩
    · rw [List.all_eq_true]
      intro y hy
      obtain ⟨z, _, rfl⟩ := List.mem_map.mp hy
      rfl
    rw [show (if false = true then !inV (V.str t) (wi.names.map V.str) else inV (V.str t) (wi.names.map V.str)) = decide (t ∈ wi.names) from (if_neg (by decide)).trans (in_names _)]
    have hxq := hxT.new (o := .tup (wi.names.map V.str)) nq3
    by_cases hin : t ∈ wi.names
    · rw [decide_eq_true hin]
      refine ⟨_, rfl, mkO_to fun d hd => q1 i v hv ?_ _ d hxq hd⟩
      exact brk_some e4 hpre (by unfold notIn; rw [decide_eq_true hin]; rfl)
    · rw [decide_eq_false hin]
      refine ⟨hxq, _, _, rfl, fun y hy => ?_⟩
      rw [List.take_add_one, e4] at hy
      rcases List.mem_append.mp hy with z | z
      · exact hpre y z
      · rw [show y = wi by simpa using z]
        unfold notIn
        rw [decide_eq_false hin]
        rfl
  · rintro σ H' ⟨hx, t2, t3, rfl, hpre⟩
    rw [List.length_map, hW.len, List.take_length] at hpre
    have hbr : fst (notIn t) ws = none := brk_none hpre
    have hb1 := hx _ _ (by simp) hb
    obtain ⟨kvs, hd, hit⟩ := id hn
    have hnd : (kvs.map (·.1)).Nodup := by
      rw [hit.keys]
      exact inr_nodup hok.nd
    have hkl : kvs.length ≤ 3 := by
      have h1 := nodup_titles hok.nd (fun z hz => by
        obtain ⟨e, he, hz2⟩ := List.mem_map.mp hz
        rw [← hz2]
        exact hok.ti e he)
      rw [List.length_map] at h1
      rw [hit.len]
      exact h1
    have hdc := hx _ _ (by simp) hd
    have hbd : b ≠ nd := fun z => by rw [z, hd] at hb; cases hb
    refine ⟨_, rfl, b, dx, _, rfl, hb1, rfl, ?_⟩
    refine ⟨nd, _, hdc, trivial, fun od => ?_⟩
    have hfd : upd H' nd (.frz od (.dK kvs)) nd = some (.frz od (.dK kvs)) := upd_same
    have hfb : upd H' nd (.frz od (.dK kvs)) b = some (.ins A.cBook dx (bookF nd mt pt)) := by
      rw [upd_ne hbd]
      exact hb1
    generalize hfp : (fun kv : Key × V => decide (kv.1 ≠ (Sum.inr t : Key))) = fp
    have hfpe : ∀ kv : Key × V, fp kv = decide (kv.1 ≠ (Sum.inr t : Key)) := fun kv => by rw [← hfp]
    refine ⟨_, rfl, b, _, dx, _, _, rfl, hfb, B.clB, B.nB1, rfl, nd, od, rfl, .inl ⟨kvs, hfd, fun D nD => dc_keys (fun i H2 => Ex [] (upd H' nd (.frz od (.dK kvs))) H2 ∧ H2 D = some (.dK ((kvs.take i).filter fp))) ⟨Ex.new0 nD, upd_same⟩ (fun i H2 h => h.1 _ _ (by simp) hfd) (fun i k v2 H2 hi ⟨hx2, hD2⟩ => ?_) fun H2 ⟨hx2, hD2⟩ => ?_⟩⟩
    · have hk : ∃ z : Str, k = Sum.inr z := by
        have hm : k ∈ kvs.map (·.1) := List.mem_map.mpr ⟨(k, v2), List.mem_of_getElem? hi, rfl⟩
        rw [hit.keys] at hm
        obtain ⟨z, _, e⟩ := List.mem_map.mp hm
        exact ⟨z, e.symm⟩
      obtain ⟨z, rfl⟩ := hk
      refine ⟨rfl, _, rfl, _, rfl, rfl, _, rfl, ?_⟩
      by_cases hz : z = t
      · subst hz
        rw [show (!decide (kV (Sum.inr z : Key) = V.str z)) = false by show (!decide (V.str z = V.str z)) = false; simp]
        refine ⟨hx2, ?_⟩
        rw [hD2, take_filterK hi, if_neg (by rw [hfpe]; simp), List.append_nil]
      · refine ite2 (fun _ => ?_) fun c => absurd (show (!decide (V.str z = V.str t)) = true by simp [hz]) c
        refine ⟨_, rfl, _, rfl, b, _, dx, _, _, rfl, hx2 _ _ (by simp) hfb, B.clB, B.nB1, rfl, _, rfl, nd, v2, rfl, .inl ⟨kvs, Sum.inr z, .inr ⟨od, hx2 _ _ (by simp) hfd⟩, rfl, (val_at hnd hi).symm⟩, ?_⟩
        refine ⟨_, Sum.inr z, rfl, hD2, ?_, hx2.mut nD, ?_⟩
        · have h2 := List.length_filter_le fp (kvs.take i)
          have h3 := List.length_take_le' i kvs
          clear hok q0 q1 q2
          omega
        · rw [upd_same, take_filterK hi, if_pos (by rw [hfpe]; simp [hz])]
          have hne : ¬ ((((kvs.take i).filter fp).any fun kv => decide (kv.1 = (Sum.inr z : Key))) = true) := fun y => by
            obtain ⟨e, he, he2⟩ := List.any_eq_true.mp y
            exact key_fresh hnd hi (List.mem_map.mpr ⟨e, (List.mem_filter.mp he).1, of_decide_eq_true he2⟩)
          unfold putK
          rw [if_neg hne]
    · rw [List.take_length] at hD2
      have hxu := Ex.unlock hdc hx2
      have hxall := hx.trans hxu
      refine ⟨hx2 _ _ (by simp) hfd, ?_⟩
      have hnD : D ≠ nd := fun z => by
        rw [z, hfd] at nD
        cases nD
      have hDv : upd H2 nd (.dK kvs) D = some (.dK (kvs.filter fp)) := by
        rw [upd_ne hnD]
        exact hD2
      generalize upd H2 nd (.dK kvs) = Hz at hxu hxall hDv
      have hbz := hxall _ _ (by simp) hb
      refine ⟨_, rfl, b, _, dx, _, _, rfl, hbz, B.clB, B.nB2, rfl, b, dx, nd, mt, pt, D, mt, qs, rfl, hbz, hxall _ _ (by simp) hpt, hql, fun pt' q' H3 hx3 h3 h4 h5 => ?_⟩
      have hxb := (hxall.sub (M := [b])).trans hx3
      refine q2 v hv hbr D H3 ⟨pt', q', hxb, h3, h4, h5⟩ ?_
      have hsoft : Soft [b] H := fun a ha => .inr (by rw [List.mem_singleton.mp ha]; exact ⟨_, _, _, hb⟩)
      have hDb : D ≠ b := fun z => by rw [z, hbz] at hDv; cases hDv
      refine ⟨_, hx3 _ _ (by simpa using hDb) hDv, ?_⟩
      have z := ItemsAt.drop (t := t) (hit.mono fun _ _ _ z => z.soft hsoft hxb.t)
      rw [hfp] at z
      exact z
end
end G
-- Ws
set_option pp.maxSteps 800
set_option Elab.async false
set_option linter.all false
set_option maxRecDepth 100000
set_option maxHeartbeats 800000
namespace G
open PySem PySem.Spec PyProof.Rows L2 LamX NdefX
local macro_rules | `(tactic| walk_at "g") => `(tactic| repeat (first | refine ⟨_, rfl, ?_⟩ | refine ⟨_, _, rfl, ?_⟩ | refine ⟨_, _, _, rfl, ?_⟩ | refine ⟨_, _, rfl, rfl, ?_⟩ | refine ⟨rfl, ?_⟩))
local macro_rules | `(tactic| walk_at "w") => `(tactic| repeat (first | refine ⟨_, rfl, ?_⟩ | refine ⟨_, _, rfl, ?_⟩ | refine ⟨_, _, _, rfl, ?_⟩ | refine ⟨_, _, rfl, rfl, ?_⟩ | refine ⟨rfl, ?_⟩ | refine Or.inl ⟨_, rfl, ?_⟩ | refine ⟨_, _, rfl, .inr ⟨_, SqT.of (by assumption), rfl⟩, ?_⟩ | refine ⟨_, _, rfl, .inl ⟨_, SqL.of (by assumption), rfl⟩, ?_⟩ | refine ⟨_, _, _, _, rfl, rfl, SqT.of (by assumption), (by rfl), ?_⟩ | refine ⟨_, _, _, _, rfl, rfl, SqL.of (by assumption), (by rfl), ?_⟩ | refine ⟨_, _, _, _, rfl, rfl, SqL.of upd_same, (by rfl), ?_⟩ | refine ⟨_, _, _, _, rfl, rfl, (by assumption), (by rfl), ?_⟩ | refine ⟨_, _, _, _, rfl, rfl, upd_same, (by rfl), ?_⟩))
section
variable {P : Program} {w : World} {K : PySem.W.Frag} {mg : Str → Option Value} {base : Heap}
variable {A : Ad}
theorem sc_Book_wish : FnScope ["self", "wish"] ["self", "wish"] (defScope s_Book_wish) :=
  ⟨rfl, rfl, rfl, by decide +kernel, rfl, by decide +kernel, by decide +kernel⟩
theorem b_Book_wish {K : PySem.W.Frag} {x q : Str} {f : Addr} {fd : FuncData} (F : Fun K x q s_Book_wish f fd) : Binds K fd ["self", "wish"] [] := F.binds (fun _ _ _ _ _ _ us hl => match us, hl with | [_, _], _ => rfl)
def spWishM (A : Ad) : Sp := fun vs H Q E => ∃ b dx nd mt pt S ws qs p wi, vs = [.ref b, .ref p] ∧ H b = some (.ins A.cBook dx (bookF nd mt pt)) ∧ H pt = some (.tup (qs.map V.ref)) ∧ qs.length ≤ 1000 ∧ NumsAt H nd S ∧ MadeAt H mt ws ∧ ws.length ≤ 1000 ∧ WishAt H p wi ∧
  (ans S wi = false → ∀ H1 d, Ex [] H H1 → H1 d = none → E (.ref A.cBroken) (some d) (upd H1 d (.xd [("index", .int (ws.length : Nat))]))) ∧
  (ans S wi = true → ∀ mt' H', Changed A H b dx nd mt qs H' nd mt' → NumsAt H' nd S → MadeAt H' mt' (ws ++ [wi]) → Q .non H')
theorem w_wish (T : Tx K mg) (TF : TxF K mg w) (B : TxB K mg A) (O : Exs P w K mg base A) : CanM P w K mg base (L2N.CX P w) 11 A.cBook "wish" ["self", "wish"] (spWishM A) := by
  have c_become := w_become (P := P) (w := w) (base := base) B
  have c_is_wish := w_is_wish (P := P) (w := w) (base := base) T TF
  have c_holds := w_holds (P := P) (w := w) (base := base) T
  refine canMX B.d_wish sc_Book_wish b_Book_wish (fun vs H Q E ⟨b, _, _, _, _, _, _, _, _, _, e, _⟩ => by rw [e]; rfl) fun f cdv Ar outer s H vs Q E hr ⟨b, dx, nd, mt, pt, S, ws, qs, p, wi, ev, hb, hpt, hql, hn, hm, hwl, hw, q1, q2⟩ => ?_
  subst ev
  refine ⟨_, (pss_cons (ps_if (pt_not (pt_val (pe_can c_is_wish (hr.mono (by decide)) (by rfl) pass0 (pa_cons (pv 1) pa_nil)))) (pss_one (ps_never)) pss_nil)
    (pss_cons (ps_if (pt_not (pt_val (pe_can c_holds (hr.mono (by decide)) (by rfl) pass0 (pa_cons (pv 1) (pa_cons (pe_fld (pv 0) rfl) pa_nil))))) (pss_one (ps_raiseO PySem.F.excBase_ArithmeticError O.br (hr.mono (by decide)) rfl (L2N.takes_of rfl rfl rfl rfl) pass0 (by rfl) (pa_cons (pe_callB call_len (by rfl) T.m_len (by decide +kernel) (pa_cons (pe_fld (pv 0) rfl) pa_nil)) pa_nil))) pss_nil)
    (pss_one (ps_expr (pe_canM (pv 0) B.clB c_become (hr.mono (by decide)) pass0 (pa_cons (pe_fld (pv 0) rfl) (pa_cons (pe_op op_catA (pe_fld (pv 0) rfl) (pe_tup (pa_cons (pv 1) pa_nil))) pa_nil))))))), ?_⟩
  have h1000 : 2000 ≤ sizeLine := by decide
  obtain ⟨ps, hmt, hW⟩ := id hm
  refine ⟨_, rfl, p, wi, rfl, hw, fun H1 hx1 => ⟨_, rfl, ?_⟩⟩
  have hb1 := hx1 _ _ (by simp) hb
  refine ⟨_, rfl, _, rfl, b, _, dx, _, _, rfl, hb1, B.clB, B.nB1, rfl, p, wi, nd, S, rfl, hw.ex hx1, hn.ex hx1 (fun _ _ _ z => z.ex hx1 (by simp)), fun H2 hx2 => ?_⟩
  have hx12 := hx1.trans hx2
  have hb2 := hx12 _ _ (by simp) hb
  have hmt2 := hx12 _ _ (by simp) hmt
  cases ha : ans S wi with
  | false =>
    refine ⟨_, rfl, _, rfl, b, _, dx, _, _, rfl, hb2, B.clB, B.nB2, rfl, _, _, rfl, .inr ⟨_, SqT.of hmt2, rfl⟩, mkO_to fun d hd => ?_⟩
    have e := q1 ha H2 d hx12 hd
    rw [List.length_map, hW.len]
    exact e
  | true =>
    refine ⟨_, rfl, _, rfl, b, dx, _, rfl, hb2, rfl, ?_⟩
    refine ⟨_, rfl, b, _, dx, _, _, rfl, hb2, B.clB, B.nB1, rfl, _, rfl, b, _, dx, _, _, rfl, hb2, B.clB, B.nB2, rfl, _, rfl, by show 1 ≤ sizeLine; omega, fun t1 nt1 => ?_⟩
    have hsoft : Soft [b] H := fun a ha => .inr (by rw [List.mem_singleton.mp ha]; exact ⟨_, _, _, hb⟩)
    have fin : ∀ (mt' : Addr) (H3 : Hp), Ex [] H H3 → H3 mt' = some (.tup ((ps ++ [p]).map V.ref)) → ∀ pt' q' H', Ex [b] H3 H' → H' b = some (.ins A.cBook dx (bookF nd mt' pt')) → H' pt' = some (.tup ((qs ++ [q']).map V.ref)) → H' q' = some (.tup [.ref nd, .ref mt]) → Q .non H' := fun mt' H3 hx3 hm3 pt' q' H' hx h3 h4 h5 => by
      have hxb := (hx3.sub (M := [b])).trans hx
      have hmb : mt' ≠ b := fun z => by rw [z, hx3 _ _ (by simp) hb] at hm3; cases hm3
      exact q2 ha mt' H' ⟨pt', q', hxb, h3, h4, h5⟩ (NumsAt.soft hn hsoft hxb.t) ⟨ps ++ [p], hx _ _ (by simpa using hmb) hm3, WishesAt.snoc (hW.soft hsoft hxb.t) (hw.soft hsoft hxb.t)⟩
    refine ⟨mt, t1, ps.map V.ref, [.ref p], rfl, rfl, SqT.of (upN nt1 hmt2), SqT.of upd_same, by rw [List.length_map]; show ps.length + 1 ≤ sizeLine; have := hW.len; omega, fun hz => ?_, fun _ hz => absurd hz (by simp), fun _ _ p2 np2 => ?_⟩
    · have hz2 : ps = [] := by simpa using hz
      subst hz2
      have hxt := hx12.new (o := .tup [.ref p]) nt1
      exact ⟨b, dx, nd, mt, pt, nd, t1, qs, rfl, hxt _ _ (by simp) hb, hxt _ _ (by simp) hpt, hql, fin t1 _ hxt upd_same⟩
    · have hxt := (hx12.new (o := .tup [.ref p]) nt1).new (o := .tup (ps.map V.ref ++ [.ref p])) np2
      exact ⟨b, dx, nd, mt, pt, nd, p2, qs, rfl, hxt _ _ (by simp) hb, hxt _ _ (by simp) hpt, hql, fin p2 _ hxt (by rw [upd_same]; simp)⟩
theorem cut_hi {ps : List Addr} {k : Nat} (h : k < ps.length) : cutV (ps.map V.ref) none (some (k : Int)) = (ps.take k).map V.ref := by
  unfold cutV
  rw [HT.sIx_none, HT.sIx_nat, List.length_map, List.drop_zero, Nat.min_eq_left (by omega), Nat.sub_zero, List.map_take]
theorem cut_lo {ps : List Addr} {k : Nat} (h : k < ps.length) : cutV (ps.map V.ref) (some ((k : Int) + 1)) none = (ps.drop (k + 1)).map V.ref := by
  unfold cutV
  rw [show ((k : Int) + 1) = ((k + 1 : Nat) : Int) by omega, HT.sIx_nat, HT.sIx_none, List.length_map, Nat.min_eq_left (by omega), List.map_drop, List.take_of_length_le]
  rw [List.length_drop, List.length_map]
  omega
theorem sc_Book_lift : FnScope ["self", "index"] ["self", "index"] (defScope s_Book_lift) :=
  ⟨rfl, rfl, rfl, by decide +kernel, rfl, by decide +kernel, by decide +kernel⟩
theorem b_Book_lift {K : PySem.W.Frag} {x q : Str} {f : Addr} {fd : FuncData} (F : Fun K x q s_Book_lift f fd) : Binds K fd ["self", "index"] [] := F.binds (fun _ _ _ _ _ _ us hl => match us, hl with | [_, _], _ => rfl)
def spLift (A : Ad) : Sp := fun vs H Q E => ∃ b dx nd mt pt S ws qs k, vs = [.ref b, .int (k : Nat)] ∧ H b = some (.ins A.cBook dx (bookF nd mt pt)) ∧ H pt = some (.tup (qs.map V.ref)) ∧ qs.length ≤ 1000 ∧ NumsAt H nd S ∧ MadeAt H mt ws ∧ ws.length ≤ 1000 ∧
  (¬ k < ws.length → ∀ H1 d, Ex [] H H1 → H1 d = none → E (.ref A.cInvalidIndex) (some d) (upd H1 d (.xd [("given", .int (k : Nat))]))) ∧
  (k < ws.length → ∀ mt' H', Changed A H b dx nd mt qs H' nd mt' → NumsAt H' nd S → MadeAt H' mt' (ws.take k ++ ws.drop (k + 1)) → Q .non H')
theorem w_lift (T : Tx K mg) (B : TxB K mg A) (O : Exs P w K mg base A) : CanM P w K mg base (L2N.CX P w) 3 A.cBook "lift" ["self", "index"] (spLift A) := by
  have c_become := w_become (P := P) (w := w) (base := base) B
  have c_is_between := w_is_between (P := P) (w := w) (base := base) T
  refine canMX B.d_lift sc_Book_lift b_Book_lift (fun vs H Q E ⟨b, _, _, _, _, _, _, _, _, e, _⟩ => by rw [e]; rfl) fun f cdv Ar outer s H vs Q E hr ⟨b, dx, nd, mt, pt, S, ws, qs, k, ev, hb, hpt, hql, hn, hm, hwl, q1, q2⟩ => ?_
  subst ev
  refine ⟨_, (pss_cons (ps_if (pt_not (pt_val (pe_can c_is_between (hr.mono (by decide)) (by rfl) pass0 (pa_cons (pv 1) (pa_cons pe_int (pa_cons (pe_op op_sub (pe_callB call_len (by rfl) T.m_len (by decide +kernel) (pa_cons (pe_fld (pv 0) rfl) pa_nil)) pe_int) pa_nil)))))) (pss_one (ps_raiseO PySem.F.excBase_ValueError O.ii (hr.mono (by decide)) rfl (L2N.takes_of rfl rfl rfl rfl) pass0 (by rfl) (pa_cons (pv 1) pa_nil))) pss_nil)
    (pss_one (ps_expr (pe_canM (pv 0) B.clB c_become (hr.mono (by decide)) pass0 (pa_cons (pe_fld (pv 0) rfl) (pa_cons (pe_op op_catA (pe_slice sl_tupA (pe_fld (pv 0) rfl) po_none (po_some (pv 1))) (pe_slice sl_tupA (pe_fld (pv 0) rfl) (po_some (pe_op op_add (pv 1) pe_int)) po_none)) pa_nil)))))), ?_⟩
  have h1000 : 2000 ≤ sizeLine := by decide
  obtain ⟨ps, hmt, hW⟩ := id hm
  have hpl := hW.len
  refine ⟨_, rfl, _, rfl, b, _, dx, _, _, rfl, hb, B.clB, B.nB2, rfl, _, _, rfl, .inr ⟨_, SqT.of hmt, rfl⟩, _, _, rfl, rfl, _, _, _, rfl, _, rfl, ?_⟩
  rw [List.length_map]
  by_cases hk : k < ws.length
  · rw [decide_eq_true (show (0 : Int) ≤ (k : Int) ∧ (k : Int) ≤ (ps.length : Int) - 1 by omega)]
    have hsoft : Soft [b] H := fun a ha => .inr (by rw [List.mem_singleton.mp ha]; exact ⟨_, _, _, hb⟩)
    have fin : ∀ (mt' : Addr) (H3 : Hp), Ex [] H H3 → H3 mt' = some (.tup ((ps.take k ++ ps.drop (k + 1)).map V.ref)) → ∀ pt' q' H', Ex [b] H3 H' → H' b = some (.ins A.cBook dx (bookF nd mt' pt')) → H' pt' = some (.tup ((qs ++ [q']).map V.ref)) → H' q' = some (.tup [.ref nd, .ref mt]) → Q .non H' := fun mt' H3 hx3 hm3 pt' q' H' hx h3 h4 h5 => by
      have hxb := (hx3.sub (M := [b])).trans hx
      have hmb : mt' ≠ b := fun z => by rw [z, hx3 _ _ (by simp) hb] at hm3; cases hm3
      exact q2 hk mt' H' ⟨pt', q', hxb, h3, h4, h5⟩ (NumsAt.soft hn hsoft hxb.t) ⟨_, hx _ _ (by simpa using hmb) hm3, WishesAt.mid (hW.soft hsoft hxb.t) k⟩
    refine ⟨_, rfl, b, dx, _, rfl, hb, rfl, ?_⟩
    refine ⟨_, rfl, b, _, dx, _, _, rfl, hb, B.clB, B.nB1, rfl, _, rfl, b, _, dx, _, _, rfl, hb, B.clB, B.nB2, rfl, _, rfl, _, rfl, mt, _, rfl, SqT.of hmt, fun z => ?_, fun _ p1 np1 => ?_⟩
    · exfalso
      have z2 := z.2
      rw [HT.sIx_nat, List.length_map] at z2
      omega
    rw [cut_hi (by omega)]
    have hx1 := Ex.new0 (M := []) (o := .tup ((ps.take k).map V.ref)) np1
    have hb1 := hx1 _ _ (by simp) hb
    refine ⟨_, rfl, b, _, dx, _, _, rfl, hb1, B.clB, B.nB2, rfl, _, rfl, _, _, rfl, rfl, _, rfl, mt, _, rfl, SqT.of (hx1 _ _ (by simp) hmt), fun z => ?_, fun _ p2 np2 => ?_⟩
    · exfalso
      have z1 := z.1
      rw [show ((k : Int) + 1) = ((k + 1 : Nat) : Int) by omega, HT.sIx_nat, List.length_map] at z1
      omega
    rw [cut_lo (by omega)]
    have hx2 := hx1.new (o := .tup ((ps.drop (k + 1)).map V.ref)) np2
    refine ⟨p1, p2, (ps.take k).map V.ref, (ps.drop (k + 1)).map V.ref, rfl, rfl, SqT.of (upN np2 upd_same), SqT.of upd_same, ?_, fun hz => ?_, fun _ hz => ?_, fun _ _ p3 np3 => ?_⟩
    · rw [List.length_map, List.length_map, List.length_take, List.length_drop]
      omega
    · have hz2 : ps.take k = [] := by simpa using hz
      exact ⟨b, dx, nd, mt, pt, nd, p2, qs, rfl, hx2 _ _ (by simp) hb, hx2 _ _ (by simp) hpt, hql, fin p2 _ hx2 (by rw [upd_same, hz2]; rfl)⟩
    · have hz2 : ps.drop (k + 1) = [] := by simpa using hz
      exact ⟨b, dx, nd, mt, pt, nd, p1, qs, rfl, hx2 _ _ (by simp) hb, hx2 _ _ (by simp) hpt, hql, fin p1 _ hx2 (by rw [upN np2 upd_same, hz2, List.append_nil])⟩
    · have hx3 := hx2.new (o := .tup ((ps.take k).map V.ref ++ (ps.drop (k + 1)).map V.ref)) np3
      exact ⟨b, dx, nd, mt, pt, nd, p3, qs, rfl, hx3 _ _ (by simp) hb, hx3 _ _ (by simp) hpt, hql, fin p3 _ hx3 (by rw [upd_same, List.map_append])⟩
  · rw [decide_eq_false (show ¬ ((0 : Int) ≤ (k : Int) ∧ (k : Int) ≤ (ps.length : Int) - 1) by omega)]
    exact ⟨_, rfl, mkO_to fun d hd => q1 hk H d (Ex.refl _ _) hd⟩
theorem sc_Book_undo : FnScope ["self"] ["self"] (defScope s_Book_undo) :=
  ⟨rfl, rfl, rfl, by decide +kernel, rfl, by decide +kernel, by decide +kernel⟩
theorem b_Book_undo {K : PySem.W.Frag} {x q : Str} {f : Addr} {fd : FuncData} (F : Fun K x q s_Book_undo f fd) : Binds K fd ["self"] [] := F.binds (fun _ _ _ _ _ _ us hl => match us, hl with | [_], _ => rfl)
def spUndo (A : Ad) : Sp := fun vs H Q E => ∃ b dx nd mt pt qs, vs = [.ref b] ∧ H b = some (.ins A.cBook dx (bookF nd mt pt)) ∧ H pt = some (.tup (qs.map V.ref)) ∧ qs.length ≤ 1000 ∧
  (qs = [] → ∀ H1, Ex [] H H1 → E (.ref A.cNothingToUndo) none H1) ∧
  (∀ qs0 q0 nd0 mt0, qs = qs0 ++ [q0] → H q0 = some (.tup [.ref nd0, .ref mt0]) → ∀ pt' H', Ex [b] H H' → H' b = some (.ins A.cBook dx (bookF nd0 mt0 pt')) → H' pt' = some (.tup (qs0.map V.ref)) → Q .non H') ∧
  (qs ≠ [] → ∃ qs0 q0 nd0 mt0, qs = qs0 ++ [q0] ∧ H q0 = some (.tup [.ref nd0, .ref mt0]))
theorem w_undo (B : TxB K mg A) (O : Exs P w K mg base A) : CanM P w K mg base (L2N.CX P w) 3 A.cBook "undo" ["self"] (spUndo A) := by
  refine canMX B.d_undo sc_Book_undo b_Book_undo (fun vs H Q E ⟨b, _, _, _, _, _, e, _⟩ => by rw [e]; rfl) fun f cdv Ar outer s H vs Q E hr ⟨b, dx, nd, mt, pt, qs, ev, hb, hpt, hql, q1, q2, q3⟩ => ?_
  subst ev
  refine ⟨_, (pss_cons (ps_if (pt_cmpR (op_eqE hr.units0) (pe_fld (pv 0) rfl) (pe_tup pa_nil) (nomark _)) (pss_one (L2N.ps_raise rfl (L2N.takes_of rfl rfl rfl rfl) (pmk_own0 PySem.F.excBase_ArithmeticError O.nx O.ng O.nk (raises_own O.nb O.nt) (by rfl)))) pss_nil)
    (pss_cons (ps_asg (pe_ix ix_tup (pe_fld (pv 0) rfl) (pe_un un_neg pe_int) (fun _ _ => rfl)) (pg_tup (by rfl) (pgs_cons (pg_fld (pv 0)) (pgs_cons (pg_fld (pv 0)) pgs_nil))))
    (pss_one (ps_fld (pv 0) (pe_slice sl_tupA (pe_fld (pv 0) rfl) po_none (po_some (pe_un un_neg pe_int))) rfl)))), ?_⟩
  have h1000 : 2000 ≤ sizeLine := by decide
  refine ⟨_, rfl, b, _, dx, _, _, rfl, hb, B.clB, B.nB3, rfl, by show 0 ≤ sizeLine; omega, fun t1 nt1 => ?_⟩
  have hx1 := Ex.new0 (M := []) (o := .tup []) nt1
  refine ⟨_, _, _, _, rfl, rfl, .inr ⟨SqT.of (hx1 _ _ (by simp) hpt), SqT.of upd_same⟩, .inr rfl, _, rfl, ?_⟩
  rcases Classical.em (qs = []) with hz | hz
  · subst hz
    exact q1 rfl _ hx1
  · obtain ⟨qs0, q0, nd0, mt0, hqs, hq0⟩ := q3 hz
    have hb1 := hx1 _ _ (by simp) hb
    have hpt1 := hx1 _ _ (by simp) hpt
    have hq1 := hx1 _ _ (by simp) hq0
    refine ite2 (fun c => ?_) fun _ => ?_
    · exfalso
      rw [decide_eq_false (fun y => hz (by simpa using y))] at c
      cases c
    have hlast : atI (qs.map V.ref) (-1) = some (.ref q0) := by
      subst hqs
      unfold atI ixN
      rw [if_neg (by decide), if_pos (by simp; omega)]
      show ((qs0 ++ [q0]).map V.ref)[(-1 + ((((qs0 ++ [q0]).map V.ref).length : Nat) : Int)).toNat]? = _
      rw [List.length_map, List.length_append, show (-1 + (((qs0.length + [q0].length : Nat)) : Int)).toNat = qs0.length by simp; omega]
      simp
    have hcut : cutV (qs.map V.ref) none (some (-1)) = qs0.map V.ref := by
      subst hqs
      unfold cutV
      have h1 : HT.sIx ((qs0 ++ [q0]).map V.ref).length ((qs0 ++ [q0]).map V.ref).length (some (-1)) = qs0.length := by
        show (if (-1 : Int) < 0 then ((-1 : Int) + ((((qs0 ++ [q0]).map V.ref).length : Nat) : Int)).toNat else min (-1 : Int).toNat ((qs0 ++ [q0]).map V.ref).length) = _
        rw [if_pos (by decide), List.length_map, List.length_append]
        simp
        omega
      rw [h1, HT.sIx_none, List.drop_zero, Nat.sub_zero, List.map_append]
      simp
    have hqlen : qs.length = qs0.length + 1 := by rw [hqs]; simp
    refine ⟨_, rfl, b, _, dx, _, _, rfl, hb1, B.clB, B.nB3, rfl, _, rfl, _, _, _, .ref q0, rfl, rfl, SqT.of hpt1, hlast, ?_⟩
    refine ⟨q0, _, rfl, SqT.of hq1, rfl, ?_⟩
    walk_at "g"
    refine ⟨b, _, dx, _, rfl, hb1, B.clB, B.nB1, by show 3 < 1000; decide, ?_⟩
    refine ⟨_, _, rfl, _, rfl, b, _, dx, _, rfl, upd_same, B.clB, B.nB2, by show 3 < 1000; decide, ?_⟩
    refine ⟨rfl, ?_⟩
    have hbt : t1 ≠ b := fun z => by rw [z, hb] at nt1; cases nt1
    have hpb : pt ≠ b := fun z => by rw [z, hb] at hpt; cases hpt
    have hpt2 : ∀ o o2, upd (upd (upd H t1 (.tup [])) b o) b o2 pt = some (.tup (qs.map V.ref)) := fun o o2 => by
      rw [upd_ne hpb, upd_ne hpb]
      exact hpt1
    have hxx : ∀ o o2, Ex [b] H (upd (upd (upd H t1 (.tup [])) b o) b o2) := fun o o2 => ((hx1.sub (M := [b])).put (by simp)).put (by simp)
    refine ⟨_, rfl, b, _, dx, _, _, rfl, upd_same, B.clB, B.nB3, rfl, _, rfl, _, rfl, pt, _, rfl, SqT.of (hpt2 _ _), fun z => ?_, fun _ p1 np1 => ?_⟩
    · exfalso
      have z2 := z.2
      rw [show HT.sIx (qs.map V.ref).length (qs.map V.ref).length (some (-1)) = qs0.length from ?_, List.length_map] at z2
      · omega
      · show (if (-1 : Int) < 0 then ((-1 : Int) + (((qs.map V.ref).length : Nat) : Int)).toNat else min (-1 : Int).toNat (qs.map V.ref).length) = _
        rw [if_pos (by decide), List.length_map, hqlen]
        omega
    · have hcut2 : cutV (qs.map V.ref) none (some ((fun i => -i) 1)) = qs0.map V.ref := hcut
      refine ⟨_, rfl, b, _, dx, _, rfl, upN np1 upd_same, B.clB, B.nB3, by show 3 < 1000; decide, ?_⟩
      have hbp : p1 ≠ b := fun z => by rw [z, upd_same] at np1; cases np1
      refine q2 qs0 q0 nd0 mt0 hqs hq0 p1 _ (((hxx _ _).new np1).put (by simp)) (by rw [upd_same]; rfl) ?_
      rw [upd_ne hbp, upd_same]
      exact congrArg _ (congrArg _ hcut2)
end
end G
-- Wt
set_option pp.maxSteps 800
set_option Elab.async false
set_option linter.all false
set_option maxRecDepth 100000
set_option maxHeartbeats 800000
namespace G
open PySem PySem.Spec PyProof.Rows L2 LamX NdefX
local macro_rules | `(tactic| walk_at "g") => `(tactic| repeat (first | refine ⟨_, rfl, ?_⟩ | refine ⟨_, _, rfl, ?_⟩ | refine ⟨_, _, _, rfl, ?_⟩ | refine ⟨_, _, rfl, rfl, ?_⟩ | refine ⟨rfl, ?_⟩))
local macro_rules | `(tactic| walk_at "w") => `(tactic| repeat (first | refine ⟨_, rfl, ?_⟩ | refine ⟨_, _, rfl, ?_⟩ | refine ⟨_, _, _, rfl, ?_⟩ | refine ⟨_, _, rfl, rfl, ?_⟩ | refine ⟨rfl, ?_⟩ | refine Or.inl ⟨_, rfl, ?_⟩ | refine ⟨_, _, rfl, .inr ⟨_, SqT.of (by assumption), rfl⟩, ?_⟩ | refine ⟨_, _, rfl, .inl ⟨_, SqL.of (by assumption), rfl⟩, ?_⟩ | refine ⟨_, _, _, _, rfl, rfl, SqT.of (by assumption), (by rfl), ?_⟩ | refine ⟨_, _, _, _, rfl, rfl, SqL.of (by assumption), (by rfl), ?_⟩ | refine ⟨_, _, _, _, rfl, rfl, SqL.of upd_same, (by rfl), ?_⟩ | refine ⟨_, _, _, _, rfl, rfl, (by assumption), (by rfl), ?_⟩ | refine ⟨_, _, _, _, rfl, rfl, upd_same, (by rfl), ?_⟩))
section
variable {P : Program} {w : World} {K : PySem.W.Frag} {mg : Str → Option Value} {base : Heap}
variable {A : Ad}
theorem sc_Book_setitem : FnScope ["self", "name", "number", "numbers", "index", "wish"] ["self", "name", "number"] (defScope s_Book_setitem) :=
  ⟨rfl, rfl, rfl, by decide +kernel, rfl, by decide +kernel, by decide +kernel⟩
theorem b_Book_setitem {K : PySem.W.Frag} {x q : Str} {f : Addr} {fd : FuncData} (F : Fun K x q s_Book_setitem f fd) : Binds K fd ["self", "name", "number"] [] := F.binds (fun _ _ _ _ _ _ us hl => match us, hl with | [_, _, _], _ => rfl)
def spSet (A : Ad) : Sp := fun vs H Q E => ∃ b dx nd mt pt S ws qs t p sg r, vs = [.ref b, .str t, .ref p] ∧ H b = some (.ins A.cBook dx (bookF nd mt pt)) ∧ H pt = some (.tup (qs.map V.ref)) ∧ qs.length ≤ 1000 ∧ NumsAt H nd S ∧ MadeAt H mt ws ∧ ws.length ≤ 1000 ∧ S.length ≤ 3 ∧ Title t ∧ Num H p sg r ∧
  (∀ i, fst (ans (putS S t (sg, r))) ws = some i → ∀ H1 d, Ex [] H H1 → H1 d = none → E (.ref A.cBroken) (some d) (upd H1 d (.xd [("index", .int (i : Nat))]))) ∧
  (fst (ans (putS S t (sg, r))) ws = none → ∀ nd' H', Changed A H b dx nd mt qs H' nd' mt → NumsAt H' nd' (putS S t (sg, r)) → Q .non H')
theorem w_setitem (T : Tx K mg) (B : TxB K mg A) (O : Exs P w K mg base A) {fs : Addr} {fd : FuncData} (F : Fun K "__setitem__" "Book.__setitem__" s_Book_setitem fs fd) : CanS P w K mg base (L2N.CX P w) 11 fs ["self", "name", "number"] (spSet A) := by
  have c_become := w_become (P := P) (w := w) (base := base) B
  have c_is_name := w_is_name (P := P) (w := w) (base := base) T
  have c_check_number := w_check_number (P := P) (w := w) (base := base) T
  have c_holds := w_holds (P := P) (w := w) (base := base) T
  obtain ⟨oc, od, kV, doc, pm, an, cdv, ct, osl, rfl, lk, hcd⟩ := F.ex
  refine ⟨_, fn_of lk hcd sc_Book_setitem (fun vs H Q E ⟨b, _, _, _, _, _, _, _, _, _, _, _, e, _⟩ => by rw [e]; rfl) fun Ar outer s H vs Q E hr ⟨b, dx, nd, mt, pt, S, ws, qs, t, p, sg, r, ev, hb, hpt, hql, hn, hm, hwl, hS3, ht, hp, q1, q2⟩ => ?_, b_Book_setitem F⟩
  subst ev
  refine ⟨_, (pss_cons (ps_if (pt_not (pt_val (pe_can c_is_name (hr.mono (by decide)) (by rfl) pass0 (pa_cons (pv 1) pa_nil)))) (pss_one (ps_never)) pss_nil)
    (pss_cons (ps_expr (pe_can c_check_number (hr.mono (by decide)) (by rfl) pass0 (pa_cons (pv 2) pa_nil)))
    (pss_cons (ps_set (i := 3) sc_Book_setitem.nd rfl (Or.inl rfl) (pe_callTy call_dictD (by rfl) T.m_dict (by decide +kernel) (pa_cons (pe_fld (pv 0) rfl) pa_nil)))
    (pss_cons (ps_dput (hu_of hr) (pv 3) (pv 1) (pv 2) rfl)
    (pss_cons (ps_for PassesOwn.leaving (by rfl) (pi_enumT (by rfl) T.m_enumerate (pa_cons (pe_fld (pv 0) rfl) pa_nil)) (pg_tup (by rfl) (pgs_cons (pg_name (i := 4) sc_Book_setitem.nd rfl (Or.inl rfl)) (pgs_cons (pg_name (i := 5) sc_Book_setitem.nd rfl (Or.inl rfl)) pgs_nil))) (pss_one (ps_if (pt_not (pt_val (pe_can c_holds (hr.mono (by decide)) (by rfl) pass0 (pa_cons (pv 5) (pa_cons (pv 3) pa_nil))))) (pss_one (ps_raiseO PySem.F.excBase_ArithmeticError O.br (hr.mono (by decide)) rfl (L2N.takes_of rfl rfl rfl rfl) pass0 (by rfl) (pa_cons (pv 4) pa_nil))) pss_nil)))
    (pss_one (ps_expr (pe_canM (pv 0) B.clB c_become (hr.mono (by decide)) pass0 (pa_cons (pv 3) (pa_cons (pe_fld (pv 0) rfl) pa_nil)))))))))), ?_⟩
  have h1000 : 2000 ≤ sizeLine := by decide
  obtain ⟨ps, hmt, hW⟩ := id hm
  obtain ⟨kvs, hd, hit⟩ := id hn
  refine ⟨_, rfl, t, rfl, (title_str ht).1, fun H1 hx1 => ⟨_, rfl, ?_⟩⟩
  refine ⟨_, rfl, p, sg, r, rfl, hp.ex hx1 (by simp), ?_⟩
  have hb1 := hx1 _ _ (by simp) hb
  refine ⟨_, rfl, b, _, dx, _, _, rfl, hb1, B.clB, B.nB1, rfl, nd, kvs, rfl, .inl (hx1 _ _ (by simp) hd), fun n2 nn2 => ?_⟩
  have hkl : kvs.length ≤ 3 := by rw [hit.len]; exact hS3
  refine ⟨_, rfl, _, rfl, _, rfl, n2, _, rfl, DPut.k (k := Sum.inr t) upd_same (by omega), ?_⟩
  have hxn : Ex [] H (upd (upd H1 n2 (.dK kvs)) n2 (.dK (putK kvs (Sum.inr t : Key) (.ref p)))) := (hx1.new nn2).mut (hx1.none_back (by simp) nn2)
  have hN2 : NumsAt (upd (upd H1 n2 (.dK kvs)) n2 (.dK (putK kvs (Sum.inr t : Key) (.ref p)))) n2 (putS S t (sg, r)) :=
    ⟨_, upd_same, ItemsAt.put (t := t) (hp.ex hxn (by simp)) (hit.mono fun _ _ _ z => z.ex hxn (by simp))⟩
  generalize upd (upd H1 n2 (.dK kvs)) n2 (.dK (putK kvs (Sum.inr t : Key) (.ref p))) = Hn at hxn hN2
  refine ⟨_, rfl, b, _, dx, _, _, rfl, hxn _ _ (by simp) hb, B.clB, B.nB2, rfl, mt, _, rfl, SqT.of (hxn _ _ (by simp) hmt), ?_⟩
  refine for_enum (a := mt) (xs := ps.map V.ref) (fun i σ H' => Ex [] Hn H' ∧ ∃ t4 t5, σ = [some (.ref b), some (.str t), some (.ref p), some (.ref n2), t4, t5] ∧ ∀ x ∈ ws.take i, ans (putS S t (sg, r)) x = true) ⟨Ex.refl _ _, none, none, rfl, by simp⟩ (fun i σ H' h => (hxn.trans h.1) _ _ (by simp) hmt) ?_ ?_
  · rintro i x T1 σ H' hi ⟨hx, t4, t5, rfl, hpre⟩ nT
    have hi2 : i < ps.length := by
      have := (List.getElem?_eq_some_iff.mp hi).1
      simpa using this
    obtain ⟨p3, wi, e3, e4, hwi⟩ := hW.get i hi2
    obtain rfl : x = .ref p3 := by
      rw [List.getElem?_map, e3] at hi
      exact (Option.some.inj hi).symm
    have hxT := hx.new (o := .tup [.int (i : Nat), .ref p3]) nT
    refine ⟨_, _, rfl, SqT.of upd_same, rfl, ?_⟩
    walk_at "g"
    refine ⟨p3, wi, n2, putS S t (sg, r), rfl, hwi.ex (hxn.trans hxT), hN2.ex hxT (fun _ _ _ z => z.ex hxT (by simp)), fun H2 hx2 => ?_⟩
    have hx3 := hxT.trans hx2
    cases ha : ans (putS S t (sg, r)) wi with
    | false => exact ⟨_, rfl, _, rfl, mkO_to fun d hd => q1 i (brk_some e4 hpre ha) _ d (hxn.trans hx3) hd⟩
    | true =>
      refine ⟨_, rfl, hx3, _, _, rfl, fun y hy => ?_⟩
      rw [List.take_add_one, e4] at hy
      rcases List.mem_append.mp hy with z | z
      · exact hpre y z
      · rw [show y = wi by simpa using z]
        exact ha
  · rintro σ H' ⟨hx, t4, t5, rfl, hpre⟩
    rw [List.length_map, hW.len, List.take_length] at hpre
    have hx4 := hxn.trans hx
    have hb4 := hx4 _ _ (by simp) hb
    have hN4 := hN2.ex hx (fun _ _ _ z => z.ex hx (by simp))
    refine ⟨_, rfl, b, dx, _, rfl, hb4, rfl, _, rfl, _, rfl, b, _, dx, _, _, rfl, hb4, B.clB, B.nB2, rfl, b, dx, nd, mt, pt, n2, mt, qs, rfl, hb4, hx4 _ _ (by simp) hpt, hql, fun pt' q' H3 hx3 h3 h4 h5 => ?_⟩
    have hsoft : Soft [b] H' := fun a ha => .inr (by rw [List.mem_singleton.mp ha]; exact ⟨_, _, _, hb4⟩)
    exact q2 (brk_none hpre) n2 H3 ⟨pt', q', (hx4.sub (M := [b])).trans hx3, h3, h4, h5⟩ (NumsAt.soft hN4 hsoft hx3.t)
end
end G
-- Wu
set_option pp.maxSteps 800
set_option Elab.async false
set_option linter.all false
set_option maxRecDepth 100000
set_option maxHeartbeats 800000
namespace G
open PySem PySem.Spec PyProof.Rows L2 LamX NdefX
local macro_rules | `(tactic| walk_at "g") => `(tactic| repeat (first | refine ⟨_, rfl, ?_⟩ | refine ⟨_, _, rfl, ?_⟩ | refine ⟨_, _, _, rfl, ?_⟩ | refine ⟨_, _, rfl, rfl, ?_⟩ | refine ⟨rfl, ?_⟩))
local macro_rules | `(tactic| walk_at "w") => `(tactic| repeat (first | refine ⟨_, rfl, ?_⟩ | refine ⟨_, _, rfl, ?_⟩ | refine ⟨_, _, _, rfl, ?_⟩ | refine ⟨_, _, rfl, rfl, ?_⟩ | refine ⟨rfl, ?_⟩ | refine Or.inl ⟨_, rfl, ?_⟩ | refine ⟨_, _, rfl, .inr ⟨_, SqT.of (by assumption), rfl⟩, ?_⟩ | refine ⟨_, _, rfl, .inl ⟨_, SqL.of (by assumption), rfl⟩, ?_⟩ | refine ⟨_, _, _, _, rfl, rfl, SqT.of (by assumption), (by rfl), ?_⟩ | refine ⟨_, _, _, _, rfl, rfl, SqL.of (by assumption), (by rfl), ?_⟩ | refine ⟨_, _, _, _, rfl, rfl, SqL.of upd_same, (by rfl), ?_⟩ | refine ⟨_, _, _, _, rfl, rfl, (by assumption), (by rfl), ?_⟩ | refine ⟨_, _, _, _, rfl, rfl, upd_same, (by rfl), ?_⟩))
section
variable {P : Program} {w : World} {K : PySem.W.Frag} {mg : Str → Option Value} {base : Heap}
variable {A : Ad}
theorem sc_Trial_enter : FnScope ["self"] ["self"] (defScope s_Trial_enter) :=
  ⟨rfl, rfl, rfl, by decide +kernel, rfl, by decide +kernel, by decide +kernel⟩
theorem b_Trial_enter {K : PySem.W.Frag} {x q : Str} {f : Addr} {fd : FuncData} (F : Fun K x q s_Trial_enter f fd) : Binds K fd ["self"] [] := F.binds (fun _ _ _ _ _ _ us hl => match us, hl with | [_], _ => rfl)
def spEnter (A : Ad) : Sp := fun vs H Q _ => ∃ t dxt b dx nd mt pt hv, vs = [.ref t] ∧ H t = some (.ins A.cTrial dxt (trialF (.ref b) hv)) ∧ H b = some (.ins A.cBook dx (bookF nd mt pt)) ∧
  ∀ k dxk H', Ex [t] H H' → H' t = some (.ins A.cTrial dxt (trialF (.ref b) (.ref k))) → H' k = some (.ins A.cKept dxk (keptF (.ref nd) (.ref mt) (.ref pt) hv)) → H k = none → Q (.ref b) H'
theorem w_enter (B : TxB K mg A) : CanM P w K mg base CX0 3 A.cTrial "__enter__" ["self"] (spEnter A) := by
  refine canM0 B.d_enter sc_Trial_enter b_Trial_enter (fun vs H Q E ⟨t, _, _, _, _, _, _, _, e, _⟩ => by rw [e]; rfl) fun f cdv Ar outer s H vs Q E hr ⟨t, dxt, b, dx, nd, mt, pt, hv, ev, ht, hb, q⟩ => ?_
  subst ev
  have c_Kept := w_Kept_init (P := P) (w := w) (base := base) B
  refine ⟨_, (pss_cons (ps_fld (pv 0) (pe_canI c_Kept (hr.mono (by decide)) (by rfl) B.gK pass0 (pa_cons (pe_fld (pe_fld (pv 0) rfl) rfl) (pa_cons (pe_fld (pe_fld (pv 0) rfl) rfl) (pa_cons (pe_fld (pe_fld (pv 0) rfl) rfl) (pa_cons (pe_fld (pv 0) rfl) pa_nil))))) rfl)
    (pss_one (ps_ret (pe_fld (pv 0) rfl)))), ?_⟩
  refine ⟨_, rfl, t, _, dxt, _, _, rfl, ht, B.clT, B.nT1, rfl, b, _, dx, _, _, rfl, hb, B.clB, B.nB1, rfl, ?_⟩
  refine ⟨_, rfl, t, _, dxt, _, _, rfl, ht, B.clT, B.nT1, rfl, b, _, dx, _, _, rfl, hb, B.clB, B.nB2, rfl, ?_⟩
  refine ⟨_, rfl, t, _, dxt, _, _, rfl, ht, B.clT, B.nT1, rfl, b, _, dx, _, _, rfl, hb, B.clB, B.nB3, rfl, ?_⟩
  refine ⟨_, rfl, t, _, dxt, _, _, rfl, ht, B.clT, B.nT2, rfl, ?_⟩
  refine fun k dxk nk ndxk ne => ⟨k, dxk, _, _, _, _, rfl, upd_same, fun H1 hx1 hk1 => ⟨rfl, ?_⟩⟩
  have hxk : Ex [] H H1 := fun a o n e => hx1 a o (by simp; exact ne_of_none e nk) (by
    rw [upd_ne (ne_of_none e nk), upd_ne (ne_of_none e ndxk)]
    exact e)
  have ht1 := hxk _ _ (by simp) ht
  have hkt : k ≠ t := fun z => by rw [z, ht] at nk; cases nk
  refine ⟨_, rfl, t, _, dxt, _, rfl, ht1, B.clT, B.nT2, by show 2 < 1000; decide, ?_⟩
  refine ⟨_, rfl, t, _, dxt, _, _, rfl, upd_same, B.clT, B.nT1, rfl, ?_⟩
  refine q k dxk _ (hxk.sub.put (by simp)) (by rw [upd_same]; rfl) ?_ nk
  rw [upd_ne hkt]
  exact hk1
theorem sc_Trial_exit : FnScope ["self", "kind", "value", "trace"] ["self", "kind", "value", "trace"] (defScope s_Trial_exit) :=
  ⟨rfl, rfl, rfl, by decide +kernel, rfl, by decide +kernel, by decide +kernel⟩
theorem b_Trial_exit {K : PySem.W.Frag} {x q : Str} {f : Addr} {fd : FuncData} (F : Fun K x q s_Trial_exit f fd) : Binds K fd ["self", "kind", "value", "trace"] [] := F.binds (fun _ _ _ _ _ _ us hl => match us, hl with | [_, _, _, _], _ => rfl)
def spExit (A : Ad) : Sp := fun vs H Q _ => ∃ t dxt b dx nd mt pt k dxk nd0 mt0 pt0 hv e1 e2 e3, vs = [.ref t, e1, e2, e3] ∧ H t = some (.ins A.cTrial dxt (trialF (.ref b) (.ref k))) ∧ H k = some (.ins A.cKept dxk (keptF (.ref nd0) (.ref mt0) (.ref pt0) hv)) ∧ H b = some (.ins A.cBook dx (bookF nd mt pt)) ∧ t ≠ b ∧ k ≠ b ∧
  ∀ H', Ex [b, t] H H' → H' b = some (.ins A.cBook dx (bookF nd0 mt0 pt0)) → H' t = some (.ins A.cTrial dxt (trialF (.ref b) hv)) → Q .non H'
theorem exit_reading {H : Hp} {vs : List V} {Q : VK} {E : XK} (B : TxB K mg A) (h : spExit A vs H Q E) :
    (tSeq (sFld K (tFld K (tVar 0) "book") (tFld K (tFld K (tVar 0) "held") "numbers") "numbers") (tSeq (sFld K (tFld K (tVar 0) "book") (tFld K (tFld K (tVar 0) "held") "made") "made") (tSeq (sFld K (tFld K (tVar 0) "book") (tFld K (tFld K (tVar 0) "held") "past") "past")
      (sFld K (tVar 0) (tFld K (tFld K (tVar 0) "held") "around") "held")))) { nx := fun _ H' => Q .non H', rt := Q } (L2.start ["self", "kind", "value", "trace"] vs) H := by
  obtain ⟨t, dxt, b, dx, nd, mt, pt, k, dxk, nd0, mt0, pt0, hv, e1, e2, e3, ev, ht, hk, hb, htb, hkb, q⟩ := h
  subst ev
  refine ⟨_, rfl, t, _, dxt, _, _, rfl, ht, B.clT, B.nT2, rfl, k, _, dxk, _, _, rfl, hk, B.clK, B.nK1, rfl, ?_⟩
  refine ⟨_, rfl, t, _, dxt, _, _, rfl, ht, B.clT, B.nT1, rfl, b, _, dx, _, rfl, hb, B.clB, B.nB1, by show 3 < 1000; decide, ?_⟩
  have ht1 : ∀ o, upd H b o t = some (.ins A.cTrial dxt (trialF (.ref b) (.ref k))) := fun o => by rw [upd_ne htb]; exact ht
  have hk1 : ∀ o, upd H b o k = some (.ins A.cKept dxk (keptF (.ref nd0) (.ref mt0) (.ref pt0) hv)) := fun o => by rw [upd_ne hkb]; exact hk
  refine ⟨_, rfl, t, _, dxt, _, _, rfl, ht1 _, B.clT, B.nT2, rfl, k, _, dxk, _, _, rfl, hk1 _, B.clK, B.nK2, rfl, ?_⟩
  refine ⟨_, rfl, t, _, dxt, _, _, rfl, ht1 _, B.clT, B.nT1, rfl, b, _, dx, _, rfl, upd_same, B.clB, B.nB2, by show 3 < 1000; decide, ?_⟩
  have ht2 : ∀ o o2, upd (upd H b o) b o2 t = some (.ins A.cTrial dxt (trialF (.ref b) (.ref k))) := fun o o2 => by rw [upd_ne htb]; exact ht1 o
  have hk2 : ∀ o o2, upd (upd H b o) b o2 k = some (.ins A.cKept dxk (keptF (.ref nd0) (.ref mt0) (.ref pt0) hv)) := fun o o2 => by rw [upd_ne hkb]; exact hk1 o
  refine ⟨_, rfl, t, _, dxt, _, _, rfl, ht2 _ _, B.clT, B.nT2, rfl, k, _, dxk, _, _, rfl, hk2 _ _, B.clK, B.nK3, rfl, ?_⟩
  refine ⟨_, rfl, t, _, dxt, _, _, rfl, ht2 _ _, B.clT, B.nT1, rfl, b, _, dx, _, rfl, upd_same, B.clB, B.nB3, by show 3 < 1000; decide, ?_⟩
  have ht3 : ∀ o o2 o3, upd (upd (upd H b o) b o2) b o3 t = some (.ins A.cTrial dxt (trialF (.ref b) (.ref k))) := fun o o2 o3 => by rw [upd_ne htb]; exact ht2 o o2
  have hk3 : ∀ o o2 o3, upd (upd (upd H b o) b o2) b o3 k = some (.ins A.cKept dxk (keptF (.ref nd0) (.ref mt0) (.ref pt0) hv)) := fun o o2 o3 => by rw [upd_ne hkb]; exact hk2 o o2
  refine ⟨_, rfl, t, _, dxt, _, _, rfl, ht3 _ _ _, B.clT, B.nT2, rfl, k, _, dxk, _, _, rfl, hk3 _ _ _, B.clK, B.nK4, rfl, ?_⟩
  refine ⟨_, rfl, t, _, dxt, _, rfl, ht3 _ _ _, B.clT, B.nT2, by show 2 < 1000; decide, ?_⟩
  refine q _ (((((Ex.refl [b, t] H).put (by simp)).put (by simp)).put (by simp)).put (by simp)) ?_ (by rw [upd_same]; rfl)
  rw [upd_ne (Ne.symm htb), upd_same]
  rfl
theorem w_exit (B : TxB K mg A) : ∃ f fd, Meth K A.cTrial "__exit__" f ∧ FnOk P w K mg base CX0 3 f fd ["self", "kind", "value", "trace"] (spExit A) ∧ L2H.FnH P w K mg base CX0 3 f fd ["self", "kind", "value", "trace"] (spExit A) ∧ Binds K fd ["self", "kind", "value", "trace"] [] := by
  obtain ⟨f, fd, hm, F⟩ := B.d_exit
  obtain ⟨oc, od, kV, doc, pm, an, cdv, ct, osl, rfl, lk, hcd⟩ := F.ex
  have len : ∀ (vs : List V) (H : Hp) (Q : VK) (E : XK), spExit A vs H Q E → vs.length = 4 := fun vs H Q E ⟨_, _, _, _, _, _, _, _, _, _, _, _, _, _, _, _, e, _⟩ => by rw [e]; rfl
  refine ⟨f, _, hm, F.ok sc_Trial_exit len fun cdv Ar outer s H vs Q E hr h => ?_, L2H.fn_ofH lk hcd sc_Trial_exit len fun Ar outer s H vs Q E p hot hr h => ?_, b_Trial_exit F⟩
  · exact ⟨_, (pss_cons (ps_fld (pe_fld (pv 0) rfl) (pe_fld (pe_fld (pv 0) rfl) rfl) rfl)
    (pss_cons (ps_fld (pe_fld (pv 0) rfl) (pe_fld (pe_fld (pv 0) rfl) rfl) rfl)
    (pss_cons (ps_fld (pe_fld (pv 0) rfl) (pe_fld (pe_fld (pv 0) rfl) rfl) rfl)
    (pss_one (ps_fld (pv 0) (pe_fld (pe_fld (pv 0) rfl) rfl) rfl))))), exit_reading B h⟩
  · exact ⟨_, (pss_cons (ps_fld (pe_fld (pv 0) rfl) (pe_fld (pe_fld (pv 0) rfl) rfl) rfl)
    (pss_cons (ps_fld (pe_fld (pv 0) rfl) (pe_fld (pe_fld (pv 0) rfl) rfl) rfl)
    (pss_cons (ps_fld (pe_fld (pv 0) rfl) (pe_fld (pe_fld (pv 0) rfl) rfl) rfl)
    (pss_one (ps_fld (pv 0) (pe_fld (pe_fld (pv 0) rfl) rfl) rfl))))), exit_reading B h⟩
end
end G
-- Wv
set_option pp.maxSteps 800
set_option Elab.async false
set_option linter.all false
set_option maxRecDepth 100000
set_option maxHeartbeats 800000
namespace G
open PySem PySem.Spec PyProof.Rows L2 LamX NdefX
local macro_rules | `(tactic| walk_at "g") => `(tactic| repeat (first | refine ⟨_, rfl, ?_⟩ | refine ⟨_, _, rfl, ?_⟩ | refine ⟨_, _, _, rfl, ?_⟩ | refine ⟨_, _, rfl, rfl, ?_⟩ | refine ⟨rfl, ?_⟩))
local macro_rules | `(tactic| walk_at "w") => `(tactic| repeat (first | refine ⟨_, rfl, ?_⟩ | refine ⟨_, _, rfl, ?_⟩ | refine ⟨_, _, _, rfl, ?_⟩ | refine ⟨_, _, rfl, rfl, ?_⟩ | refine ⟨rfl, ?_⟩ | refine Or.inl ⟨_, rfl, ?_⟩ | refine ⟨_, _, rfl, .inr ⟨_, SqT.of (by assumption), rfl⟩, ?_⟩ | refine ⟨_, _, rfl, .inl ⟨_, SqL.of (by assumption), rfl⟩, ?_⟩ | refine ⟨_, _, _, _, rfl, rfl, SqT.of (by assumption), (by rfl), ?_⟩ | refine ⟨_, _, _, _, rfl, rfl, SqL.of (by assumption), (by rfl), ?_⟩ | refine ⟨_, _, _, _, rfl, rfl, SqL.of upd_same, (by rfl), ?_⟩ | refine ⟨_, _, _, _, rfl, rfl, (by assumption), (by rfl), ?_⟩ | refine ⟨_, _, _, _, rfl, rfl, upd_same, (by rfl), ?_⟩))
section
variable {P : Program} {w : World} {K : PySem.W.Frag} {mg : Str → Option Value} {base : Heap}
end
theorem sc_Book_tried : FnScope ["self", "action", "book"] ["self", "action"] (defScope s_Book_tried) :=
  ⟨rfl, rfl, rfl, by decide +kernel, rfl, by decide +kernel, by decide +kernel⟩
theorem b_Book_tried {K : PySem.W.Frag} {x q : Str} {f : Addr} {fd : FuncData} (F : Fun K x q s_Book_tried f fd) : Binds K fd ["self", "action"] [] := F.binds (fun _ _ _ _ _ _ us hl => match us, hl with | [_, _], _ => rfl)
/-- what is wished of an exception that leaves a trial -/
def xTried (A : Ad) (t : Addr) (E : XK) : XK := fun cls d H' => ∀ σ' : L2.St, wWith (spExit A) (.ref t) (fun cls d _ H => E cls d H) cls d σ' H'
/-- .. of what is returned within -/
def qTried (A : Ad) (t : Addr) (Q : VK) : VK := fun v H' => spExit A [.ref t, .non, .non, .non] H' (fun _ H'' => Q v H'') fun _ _ _ => False
def TTried (A : Ad) : (V → XK → Hp → VK → Prop) → V → Hp → VK → XK → Prop := fun tl v H Q E => ∃ b dx nd mt pt, v = .ref b ∧ H b = some (.ins A.cBook dx (bookF nd mt pt)) ∧ ∀ t dxt k dxk H1, Ex [] H H1 → H t = none → H k = none →
  H1 t = some (.ins A.cTrial dxt (trialF (.ref b) (.ref k))) → H1 k = some (.ins A.cKept dxk (keptF (.ref nd) (.ref mt) (.ref pt) .non)) → tl (.ref b) (xTried A t E) H1 (qTried A t Q)
theorem tried_to {X : Cx} {A : Ad} {g : Addr} {cdg : Value} {n : Nat} (B : TxB X.K X.mg A) (hn : 3 ≤ n) : TriedTo X n ["self", "action", "book"] "Book.tried" (defScope s_Book_tried) g cdg (defBody s_Book_tried) "action" "book" (TTried A) := by
  intro f s H v Q E tl hr hcall hT
  obtain ⟨b, dx, nd, mt, pt, rfl, hb, hq⟩ := hT
  obtain ⟨fx, fdx, mx, Fx, FxH, bx⟩ := w_exit (P := X.prog) (w := X.w) (base := X.base) B
  obtain ⟨fe, fde, me, Fe, be⟩ := w_enter (P := X.prog) (w := X.w) (base := X.base) B
  have ct := w_trial (P := X.prog) (w := X.w) (base := X.base) B
  refine ⟨_, pss_one (ps_withN (i := 2) (k := 3) rfl rfl rfl sc_Book_tried.nd rfl (.inl rfl) (L2N.takes_of rfl rfl rfl rfl) me.at_ me.fn mx.at_ mx.fn Fe be Fx FxH bx (hr.mono hn) (pe_canM0 (pv 0) B.clB ct (hr.mono hn) pass0)
    (fun W pn xe tk _ => pss_one (ps_ret (hcall W pn xe (fun cls d H' => ∀ σ', W cls d σ' H') _ _ _ _ (pv 2) tk (fun cls d σ' H' z => z σ'))))), ?_⟩
  refine ⟨_, rfl, b, dx, _, rfl, hb, rfl, b, rfl, fun t dxt H1 hx1 nt ht1 => ?_⟩
  refine ⟨t, dxt, _, rfl, ht1, t, dxt, b, dx, nd, mt, pt, .non, rfl, ht1, hx1 _ _ (by simp) hb, fun k dxk H2 hx2 ht2 hk2 nk => ?_⟩
  refine ⟨rfl, _, rfl, rfl, hq t dxt k dxk H2 ?_ nt (hx1.none_back (by simp) nk) ht2 hk2⟩
  exact Ex.cut (N := [t]) (hx1.sub.trans hx2) (fun a ha => by rw [List.mem_singleton.mp ha]; exact nt)
/-- behind: the book as it was -/
theorem exit_back {A : Ad} {H H1 H2 : Hp} {b dx nd mt pt t dxt k dxk nd2 mt2 pt2 : Addr} {R : Hp → Prop} (nt : H t = none) (nk : H k = none) (hb : H b = some (.ins A.cBook dx (bookF nd mt pt)))
    (ht : H2 t = some (.ins A.cTrial dxt (trialF (.ref b) (.ref k)))) (hk : H2 k = some (.ins A.cKept dxk (keptF (.ref nd) (.ref mt) (.ref pt) .non))) (hb2 : H2 b = some (.ins A.cBook dx (bookF nd2 mt2 pt2)))
    (q : ∀ H3, Ex [b, t] H2 H3 → H3 b = some (.ins A.cBook dx (bookF nd mt pt)) → R H3) (e1 e2 e3 : V) : spExit A [.ref t, e1, e2, e3] H2 (fun r H3 => r = .non ∧ R H3) fun _ _ _ => False := by
  refine ⟨t, dxt, b, dx, nd2, mt2, pt2, k, dxk, nd, mt, pt, .non, e1, e2, e3, rfl, ht, hk, hb2, fun z => ?_, fun z => ?_, fun H3 hx h3 _ => ⟨rfl, q H3 hx h3⟩⟩
  · rw [z, hb] at nt
    cases nt
  · rw [z, hb] at nk
    cases nk
end G
-- Ya
set_option pp.maxSteps 800
set_option Elab.async false
set_option linter.all false
set_option maxRecDepth 100000
set_option maxHeartbeats 800000
namespace G
open PySem PySem.Spec PyProof.Rows L2 LamX NdefX
local macro_rules | `(tactic| walk_at "g") => `(tactic| repeat (first | refine ⟨_, rfl, ?_⟩ | refine ⟨_, _, rfl, ?_⟩ | refine ⟨_, _, _, rfl, ?_⟩ | refine ⟨_, _, rfl, rfl, ?_⟩ | refine ⟨rfl, ?_⟩))
local macro_rules | `(tactic| walk_at "w") => `(tactic| repeat (first | refine ⟨_, rfl, ?_⟩ | refine ⟨_, _, rfl, ?_⟩ | refine ⟨_, _, _, rfl, ?_⟩ | refine ⟨_, _, rfl, rfl, ?_⟩ | refine ⟨rfl, ?_⟩ | refine Or.inl ⟨_, rfl, ?_⟩ | refine ⟨_, _, rfl, .inr ⟨_, SqT.of (by assumption), rfl⟩, ?_⟩ | refine ⟨_, _, rfl, .inl ⟨_, SqL.of (by assumption), rfl⟩, ?_⟩ | refine ⟨_, _, _, _, rfl, rfl, SqT.of (by assumption), (by rfl), ?_⟩ | refine ⟨_, _, _, _, rfl, rfl, SqL.of (by assumption), (by rfl), ?_⟩ | refine ⟨_, _, _, _, rfl, rfl, SqL.of upd_same, (by rfl), ?_⟩ | refine ⟨_, _, _, _, rfl, rfl, (by assumption), (by rfl), ?_⟩ | refine ⟨_, _, _, _, rfl, rfl, upd_same, (by rfl), ?_⟩))
section
variable {P : Program} {w : World} {K : PySem.W.Frag} {mg : Str → Option Value} {base : Heap}
end
/-- what changes: lists, instances -/
def SoftL (Ms : List Addr) (H : Hp) : Prop := ∀ a ∈ Ms, (∃ xs, H a = some (.lst xs)) ∨ ∃ C dx fs, H a = some (.ins C dx fs)
theorem Soft.l {Ms : List Addr} {H : Hp} (s : Soft Ms H) : SoftL Ms H := fun a ha => by
  rcases s a ha with ⟨d, m, c, h⟩ | h
  · exact .inl ⟨_, h⟩
  · exact .inr h
theorem SoftL.nil {H : Hp} : SoftL [] H := fun _ h => absurd h (by simp)
theorem SoftL.cons {a : Addr} {Ms : List Addr} {H : Hp} (h : (∃ xs, H a = some (.lst xs)) ∨ ∃ C dx fs, H a = some (.ins C dx fs)) (s : SoftL Ms H) : SoftL (a :: Ms) H := fun b hb => by
  rcases List.mem_cons.mp hb with e | e
  · rw [e]
    exact h
  · exact s b e
theorem Soft.cons {a : Addr} {Ms : List Addr} {H : Hp} (h : JugAt H a ∨ ∃ C dx fs, H a = some (.ins C dx fs)) (s : Soft Ms H) : Soft (a :: Ms) H := fun b hb => by
  rcases List.mem_cons.mp hb with e | e
  · rw [e]
    exact h
  · exact s b e
section
variable {Ms : List Addr} {H H' : Hp}
theorem SoftL.tup {p : Addr} {xs : List V} (s : SoftL Ms H) (x : ExT Ms H H') (e : H p = some (.tup xs)) : H' p = some (.tup xs) := x _ _ (fun z => by
  rcases s p z with ⟨ys, h⟩ | ⟨C, dx, fs, h⟩
  · rw [h] at e
    cases e
  · rw [h] at e
    cases e) (fun ps h => by cases h) e
theorem SoftL.dK {p : Addr} {xs : List (Key × V)} (s : SoftL Ms H) (x : ExT Ms H H') (e : H p = some (.dK xs)) : H' p = some (.dK xs) := x _ _ (fun z => by
  rcases s p z with ⟨ys, h⟩ | ⟨C, dx, fs, h⟩
  · rw [h] at e
    cases e
  · rw [h] at e
    cases e) (fun ps h => by cases h) e
/-- a book's numbers and wishes -/
def StateAt (H : Hp) (nd mt : Addr) (p : Page) : Prop := NumsAt H nd p.1 ∧ MadeAt H mt p.2
theorem StateAt.softL {nd mt : Addr} {p : Page} (h : StateAt H nd mt p) (s : SoftL Ms H) (x : ExT Ms H H') : StateAt H' nd mt p := by
  obtain ⟨⟨kvs, h1, h2⟩, ps, h3, h4⟩ := h
  exact ⟨⟨kvs, s.dK x h1, h2.mono fun _ _ _ z => ⟨s.tup x z.1, z.2⟩⟩, ps, s.tup x h3, Paired.mapP h4 fun _ _ z => ⟨s.tup x z.1, z.2⟩⟩
def PastAt (H : Hp) (qs : List Addr) (hist : List Page) : Prop := Paired (fun q p => ∃ nd mt, H q = some (.tup [.ref nd, .ref mt]) ∧ StateAt H nd mt p) qs hist
theorem PastAt.softL {qs : List Addr} {hist : List Page} (h : PastAt H qs hist) (s : SoftL Ms H) (x : ExT Ms H H') : PastAt H' qs hist :=
  Paired.mapP h fun _ _ ⟨nd, mt, h1, h2⟩ => ⟨nd, mt, s.tup x h1, h2.softL s x⟩
theorem PastAt.snoc {q nd mt : Addr} {p : Page} (h1 : H q = some (.tup [.ref nd, .ref mt])) (h2 : StateAt H nd mt p) : ∀ {qs : List Addr} {hist : List Page}, PastAt H qs hist → PastAt H (qs ++ [q]) (hist ++ [p])
  | _, _, .nil => .cons ⟨nd, mt, h1, h2⟩ .nil
  | _, _, .cons a r => .cons a (PastAt.snoc h1 h2 r)
theorem PastAt.len {qs : List Addr} {hist : List Page} (h : PastAt H qs hist) : qs.length = hist.length := Paired.length h
/-- behind a book's own object -/
def BackAt (H : Hp) (nd mt pt : Addr) (hist : List Page) (cur : Page) : Prop := ∃ qs, H pt = some (.tup (qs.map V.ref)) ∧ StateAt H nd mt cur ∧ PastAt H qs hist
theorem BackAt.softL {nd mt pt : Addr} {hist : List Page} {cur : Page} (h : BackAt H nd mt pt hist cur) (s : SoftL Ms H) (x : ExT Ms H H') : BackAt H' nd mt pt hist cur := by
  obtain ⟨qs, h1, h2, h3⟩ := h
  exact ⟨qs, s.tup x h1, h2.softL s x, h3.softL s x⟩
/-- a book: its past pages, its page -/
def BookAt (A : Ad) (H : Hp) (b dx : Addr) (hist : List Page) (cur : Page) : Prop := ∃ nd mt pt, H b = some (.ins A.cBook dx (bookF nd mt pt)) ∧ BackAt H nd mt pt hist cur
theorem BookAt.softL {A : Ad} {b dx : Addr} {hist : List Page} {cur : Page} (h : BookAt A H b dx hist cur) (s : SoftL Ms H) (x : ExT Ms H H') (n : b ∉ Ms) : BookAt A H' b dx hist cur := by
  obtain ⟨nd, mt, pt, h1, h2⟩ := h
  exact ⟨nd, mt, pt, x _ _ n (fun ps h => by cases h) h1, h2.softL s x⟩
theorem BookAt.ex {A : Ad} {b dx : Addr} {hist : List Page} {cur : Page} (h : BookAt A H b dx hist cur) (x : Ex [] H H') : BookAt A H' b dx hist cur := h.softL SoftL.nil x.t (by simp)
theorem BookAt.soft1 {A : Ad} {b dx : Addr} {hist : List Page} {cur : Page} (h : BookAt A H b dx hist cur) : SoftL [b] H := by
  obtain ⟨nd, mt, pt, h1, _⟩ := h
  exact SoftL.cons (.inr ⟨_, _, _, h1⟩) SoftL.nil
end
theorem book_changed {A : Ad} {H H' : Hp} {b dx nd mt pt nd' mt' : Addr} {qs : List Addr} {hist : List Page} {cur cur' : Page} (hb : H b = some (.ins A.cBook dx (bookF nd mt pt))) (hs : StateAt H nd mt cur) (hp : PastAt H qs hist)
    (c : Changed A H b dx nd mt qs H' nd' mt') (h' : StateAt H' nd' mt' cur') : Ex [b] H H' ∧ BookAt A H' b dx (hist ++ [cur]) cur' := by
  obtain ⟨pt', q', x, h1, h2, h3⟩ := c
  have s : SoftL [b] H := SoftL.cons (.inr ⟨_, _, _, hb⟩) SoftL.nil
  exact ⟨x, nd', mt', pt', h1, _, h2, h', PastAt.snoc h3 (hs.softL s x.t) (hp.softL s x.t)⟩
/-- the error that a deed's words tell -/
def ErrAt (A : Ad) (H : Hp) (cls : Value) (d : Option Addr) (es : List Str) : Prop :=
  (∃ t dd, es = [("UnknownName" : Str), showS t] ∧ (showS t).length ≤ 1000 ∧ cls = .ref A.cUnknownName ∧ d = some dd ∧ H dd = some (.xd [("given", .str t)])) ∨
  (∃ (k : Nat) (dd : Addr), es = [("InvalidIndex" : Str), showI k] ∧ k ≤ 2000 ∧ cls = .ref A.cInvalidIndex ∧ d = some dd ∧ H dd = some (.xd [("given", .int (k : Nat))])) ∨
  (∃ (k : Nat) (dd : Addr), es = [("Broken" : Str), showI k] ∧ k ≤ 2000 ∧ cls = .ref A.cBroken ∧ d = some dd ∧ H dd = some (.xd [("index", .int (k : Nat))])) ∨
  (∃ (k : Nat) (dd : Addr), es = [("InUse" : Str), showI k] ∧ k ≤ 2000 ∧ cls = .ref A.cInUse ∧ d = some dd ∧ H dd = some (.xd [("index", .int (k : Nat))])) ∨
  (es = [("NothingToUndo" : Str)] ∧ cls = .ref A.cNothingToUndo ∧ d = none)
def spDone (A : Ad) : Sp := fun vs H Q E => ∃ b dx hist cur dd de, vs = [.ref b, .ref dd] ∧ BookAt A H b dx hist cur ∧ DeedAt H dd de ∧ Page.Ok cur ∧ cur.2.length ≤ 900 ∧ hist.length ≤ 1000 ∧
  ((behind cur de).1 = [] → ∀ H', Ex [b] H H' → BookAt A H' b dx (hist ++ [cur]) (behind cur de).2 → Q .non H') ∧
  ((behind cur de).1 ≠ [] → ∀ cls d H', Ex [] H H' → ErrAt A H' cls d (behind cur de).1 → E cls d H')
section
variable {P : Program} {w : World} {K : PySem.W.Frag} {mg : Str → Option Value} {base : Heap} {A : Ad}
theorem shelf_len {S : Shelf} {ws : List Wish} (h : Page.Ok (S, ws)) : S.length ≤ 3 := by
  have h1 := nodup_titles h.nd (fun z hz => by
    obtain ⟨e, he, hz2⟩ := List.mem_map.mp hz
    rw [← hz2]
    exact h.ti e he)
  rw [List.length_map] at h1
  exact h1
theorem sc__law_done : FnScope ["_law_book_here", "_law_deed"] ["_law_book_here", "_law_deed"] (defScope s__law_done) :=
  ⟨rfl, rfl, rfl, by decide +kernel, rfl, by decide +kernel, by decide +kernel⟩
theorem b__law_done {K : PySem.W.Frag} {x q : Str} {f : Addr} {fd : FuncData} (F : Fun K x q s__law_done f fd) : Binds K fd ["_law_book_here", "_law_deed"] [] := F.binds (fun _ _ _ _ _ _ us hl => match us, hl with | [_, _], _ => rfl)
theorem w__law_done (T : Tx K mg) (TF : TxF K mg w) (B : TxB K mg A) (O : Exs P w K mg base A) : Can P w K mg base (L2N.CX P w) 13 "_law_done" ["_law_book_here", "_law_deed"] (spDone A) := by
  have c_drop := w_drop T B O
  have c_wish := w_wish T TF B O
  have c_lift := w_lift T B O
  have c__law_pair := w__law_pair (P := P) (w := w) (base := base) T
  obtain ⟨fc, fg, fs, fl, fdc, fdg, fds, fdl, B0, Fc, Fg, Fs, Fl⟩ := B.book0
  obtain ⟨fd2, Fs2, bs⟩ := (w_setitem T B O Fs).ex
  refine canX T.d__law_done sc__law_done b__law_done (fun vs H Q E ⟨b, _, _, _, _, _, e, _⟩ => by rw [e]; rfl) fun f cdv Ar outer s H vs Q E hr ⟨b, dx, hist, cur, dd, de, ev, hbk, hde, hok, hwl, hhl, q1, q2⟩ => ?_
  subst ev
  refine ⟨_, (pss_cons (ps_if (pt_cmpR op_eq (pe_ix ix_list (pv 1) pe_int (fun _ _ => rfl)) pe_str (nomark _)) (pss_cons (ps_asg (pe_can c__law_pair (hr.mono (by decide)) (by rfl) pass0 (pa_cons (pe_ix ix_tup (pe_ix ix_list (pv 1) pe_int (fun _ _ => rfl)) pe_int (fun _ _ => rfl)) (pa_cons (pe_ix ix_tup (pe_ix ix_list (pv 1) pe_int (fun _ _ => rfl)) pe_int (fun _ _ => rfl)) pa_nil))) (pg_sub (pv 0) (pe_ix ix_list (pv 1) pe_int (fun _ _ => rfl)) (set_own B0 Fs2 (hr.mono (by decide)) bs (L2N.passes_call (E := E) (L2N.takes_of rfl rfl rfl rfl) (fun _ _ _ _ h => h)))))
    (pss_one (ps_ret pe_non))) pss_nil)
    (pss_cons (ps_if (pt_cmpR op_eq (pe_ix ix_list (pv 1) pe_int (fun _ _ => rfl)) pe_str (nomark _)) (pss_one (ps_ret (pe_canM (pv 0) B.clB c_drop (hr.mono (by decide)) (L2N.passes_call (E := E) (L2N.takes_of rfl rfl rfl rfl) (fun _ _ _ _ h => h)) (pa_cons (pe_ix ix_list (pv 1) pe_int (fun _ _ => rfl)) pa_nil)))) pss_nil)
    (pss_one (ps_ret (pe_ifExp (pt_cmpR op_eq (pe_ix ix_list (pv 1) pe_int (fun _ _ => rfl)) pe_str (nomark _)) (pe_canM (pv 0) B.clB c_wish (hr.mono (by decide)) (L2N.passes_call (E := E) (L2N.takes_of rfl rfl rfl rfl) (fun _ _ _ _ h => h)) (pa_cons (pe_ix ix_list (pv 1) pe_int (fun _ _ => rfl)) pa_nil)) (pe_canM (pv 0) B.clB c_lift (hr.mono (by decide)) (L2N.passes_call (E := E) (L2N.takes_of rfl rfl rfl rfl) (fun _ _ _ _ h => h)) (pa_cons (pe_ix ix_list (pv 1) pe_int (fun _ _ => rfl)) pa_nil))))))), ?_⟩
  obtain ⟨nd, mt, pt, hb, qs, hpt, hst, hpast⟩ := id hbk
  have hql := hpast.len
  obtain ⟨S, ws⟩ := cur
  obtain ⟨hn, hm⟩ := id hst
  have h3 := shelf_len hok
  have hwl : ws.length ≤ 900 := hwl
  cases de with
  | wish wi =>
    obtain ⟨a, hdd, hw⟩ := hde
    refine ⟨_, rfl, _, _, _, _, rfl, rfl, SqL.of hdd, rfl, rfl, _, rfl, ?_⟩
    refine ⟨_, rfl, _, _, _, _, rfl, rfl, SqL.of hdd, rfl, rfl, _, rfl, ?_⟩
    refine ⟨_, rfl, _, _, _, _, rfl, rfl, SqL.of hdd, rfl, rfl, _, rfl, ?_⟩
    refine ⟨_, rfl, b, dx, _, rfl, hb, rfl, _, rfl, _, _, _, _, rfl, rfl, SqL.of hdd, rfl, ?_⟩
    refine ⟨b, dx, nd, mt, pt, S, ws, qs, a, wi, rfl, hb, hpt, by omega, hn, hm, by omega, hw, fun ha H1 d hx hd => ?_, fun ha mt' H' hc hn' hm' => ?_⟩
    · have e : brk S (ws ++ [wi]) = some ws.length := by
        rw [brk_snoc hok.ok, ha]
        rfl
      rw [behind_wish1 e] at q2
      exact q2 (by simp) _ _ _ (hx.new hd) (.inr (.inr (.inl ⟨ws.length, d, rfl, by omega, rfl, rfl, upd_same⟩)))
    · have e : brk S (ws ++ [wi]) = none := by
        rw [brk_snoc hok.ok, ha]
        rfl
      rw [behind_wish2 e] at q1
      obtain ⟨x, z⟩ := book_changed hb hst hpast hc (cur' := (S, ws ++ [wi])) ⟨hn', hm'⟩
      exact q1 rfl H' x z
  | lift k =>
    obtain ⟨hdd, hk⟩ := hde
    refine ⟨_, rfl, _, _, _, _, rfl, rfl, SqL.of hdd, rfl, rfl, _, rfl, ?_⟩
    refine ⟨_, rfl, _, _, _, _, rfl, rfl, SqL.of hdd, rfl, rfl, _, rfl, ?_⟩
    refine ⟨_, rfl, _, _, _, _, rfl, rfl, SqL.of hdd, rfl, rfl, _, rfl, ?_⟩
    refine ⟨_, rfl, b, dx, _, rfl, hb, rfl, _, rfl, _, _, _, _, rfl, rfl, SqL.of hdd, rfl, ?_⟩
    refine ⟨b, dx, nd, mt, pt, S, ws, qs, k, rfl, hb, hpt, by omega, hn, hm, by omega, fun ha H1 d hx hd => ?_, fun ha mt' H' hc hn' hm' => ?_⟩
    · rw [behind_lift2 ha] at q2
      exact q2 (by simp) _ _ _ (hx.new hd) (.inr (.inl ⟨k, d, rfl, by omega, rfl, rfl, upd_same⟩))
    · rw [behind_lift1 ha] at q1
      obtain ⟨x, z⟩ := book_changed hb hst hpast hc (cur' := (S, ws.take k ++ ws.drop (k + 1))) ⟨hn', hm'⟩
      exact q1 rfl H' x z
  | drop t =>
    obtain ⟨hdd, ht⟩ := hde
    refine ⟨_, rfl, _, _, _, _, rfl, rfl, SqL.of hdd, rfl, rfl, _, rfl, ?_⟩
    refine ⟨_, rfl, _, _, _, _, rfl, rfl, SqL.of hdd, rfl, rfl, _, rfl, ?_⟩
    refine ⟨_, rfl, b, dx, _, rfl, hb, rfl, _, rfl, _, _, _, _, rfl, rfl, SqL.of hdd, rfl, ?_⟩
    refine ⟨b, dx, nd, mt, pt, S, ws, qs, t, rfl, hb, hpt, by omega, hn, hm, by omega, hok, fun ha d hd => ?_, fun i v ha hf H1 d hx hd => ?_, fun v ha hf nd' H' hc hn' => ?_⟩
    · rw [behind_drop0 ha] at q2
      exact q2 (by simp) _ _ _ (Ex.new0 hd) (.inl ⟨t, d, rfl, (title_str ht).2, rfl, rfl, upd_same⟩)
    · rw [behind_drop1 ha hf] at q2
      obtain ⟨w1, e1, _, _⟩ := some_fst hf
      have := (List.getElem?_eq_some_iff.mp e1).1
      exact q2 (by simp) _ _ _ (hx.new hd) (.inr (.inr (.inr (.inl ⟨i, d, rfl, by omega, rfl, rfl, upd_same⟩))))
    · rw [behind_drop2 ha hf] at q1
      have hm' : MadeAt H' mt ws := by
        obtain ⟨pt', q', x, _, _, _⟩ := id hc
        exact (hst.softL (SoftL.cons (.inr ⟨_, _, _, hb⟩) SoftL.nil) x.t).2
      obtain ⟨x, z⟩ := book_changed hb hst hpast hc (cur' := (dropS S t, ws)) ⟨hn', hm'⟩
      exact q1 rfl H' x z
  | put t sg r =>
    obtain ⟨a, hdd, ht, hs, hrok, bb, ha, hbb⟩ := hde
    refine ⟨_, rfl, _, _, _, _, rfl, rfl, SqL.of hdd, rfl, rfl, _, rfl, ?_⟩
    walk_at "w"
    walk_at "w"
    refine ⟨bb, sg, r, rfl, hbb, hrok, fun p H1 hx1 np hp => ?_⟩
    refine ⟨_, rfl, _, rfl, _, _, _, _, rfl, rfl, SqL.of (hx1 _ _ (by simp) hdd), rfl, ?_⟩
    have hb1 := hx1 _ _ (by simp) hb
    have hst1 : StateAt H1 nd mt (S, ws) := hst.softL SoftL.nil hx1.t
    have hpast1 := hpast.softL SoftL.nil hx1.t
    refine ⟨b, dx, _, rfl, hb1, b, dx, nd, mt, pt, S, ws, qs, t, p, sg, r, rfl, hb1, hx1 _ _ (by simp) hpt, by omega, hst1.1, hst1.2, by omega, h3, ht, ⟨hp, hs, hrok⟩, fun i hf H2 d hx hd => ?_, fun hf nd' H' hc hn' => ?_⟩
    · rw [behind_put1 hf] at q2
      obtain ⟨w1, e1, _, _⟩ := some_fst hf
      have := (List.getElem?_eq_some_iff.mp e1).1
      exact q2 (by simp) _ _ _ ((hx1.trans hx).new hd) (.inr (.inr (.inl ⟨i, d, rfl, by omega, rfl, rfl, upd_same⟩)))
    · rw [behind_put2 hf] at q1
      have hm' : MadeAt H' mt ws := by
        obtain ⟨pt', q', x, _, _, _⟩ := id hc
        exact (hst1.softL (SoftL.cons (.inr ⟨_, _, _, hb1⟩) SoftL.nil) x.t).2
      obtain ⟨x, z⟩ := book_changed hb1 hst1 hpast1 hc (cur' := (putS S t (sg, r), ws)) ⟨hn', hm'⟩
      exact q1 rfl H' (hx1.sub.trans x) z
end
end G
-- Yb
set_option pp.maxSteps 800
set_option Elab.async false
set_option linter.all false
set_option maxRecDepth 100000
set_option maxHeartbeats 800000
namespace G
open PySem PySem.Spec PyProof.Rows L2 LamX NdefX
local macro_rules | `(tactic| walk_at "g") => `(tactic| repeat (first | refine ⟨_, rfl, ?_⟩ | refine ⟨_, _, rfl, ?_⟩ | refine ⟨_, _, _, rfl, ?_⟩ | refine ⟨_, _, rfl, rfl, ?_⟩ | refine ⟨rfl, ?_⟩))
local macro_rules | `(tactic| walk_at "w") => `(tactic| repeat (first | refine ⟨_, rfl, ?_⟩ | refine ⟨_, _, rfl, ?_⟩ | refine ⟨_, _, _, rfl, ?_⟩ | refine ⟨_, _, rfl, rfl, ?_⟩ | refine ⟨rfl, ?_⟩ | refine Or.inl ⟨_, rfl, ?_⟩ | refine ⟨_, _, rfl, .inr ⟨_, SqT.of (by assumption), rfl⟩, ?_⟩ | refine ⟨_, _, rfl, .inl ⟨_, SqL.of (by assumption), rfl⟩, ?_⟩ | refine ⟨_, _, _, _, rfl, rfl, SqT.of (by assumption), (by rfl), ?_⟩ | refine ⟨_, _, _, _, rfl, rfl, SqL.of (by assumption), (by rfl), ?_⟩ | refine ⟨_, _, _, _, rfl, rfl, SqL.of upd_same, (by rfl), ?_⟩ | refine ⟨_, _, _, _, rfl, rfl, (by assumption), (by rfl), ?_⟩ | refine ⟨_, _, _, _, rfl, rfl, upd_same, (by rfl), ?_⟩))
section
variable {P : Program} {w : World} {K : PySem.W.Frag} {mg : Str → Option Value} {base : Heap}
end
/-! what is shown is short -/
structure Fine (dep wt : Nat) (d : PyData) : Prop where
  sh : d.showable = true
  nd : d.hasDict = false
  ls : d.leavesShort 40 = true
  dp : d.depth ≤ dep
  wt : d.weight ≤ wt
theorem fine_all {dep wt : Nat} : ∀ {ds : List PyData}, (∀ d ∈ ds, Fine dep wt d) → PyData.showableAll ds = true ∧ PyData.hasDictAll ds = false ∧ PyData.leavesShortAll 40 ds = true ∧ PyData.depthAll ds ≤ dep ∧ PyData.weightAll ds ≤ ds.length * (wt + 1)
  | [], _ => ⟨rfl, rfl, rfl, Nat.zero_le _, Nat.zero_le _⟩
  | d :: ds, h => by
    obtain ⟨a, b, c, e, f⟩ := fine_all (ds := ds) fun x hx => h x (List.mem_cons_of_mem _ hx)
    have z := h d List.mem_cons_self
    refine ⟨?_, ?_, ?_, ?_, ?_⟩
    · simp only [PyData.showableAll, z.sh, a, Bool.and_self]
    · simp only [PyData.hasDictAll, z.nd, b, Bool.or_self]
    · simp only [PyData.leavesShortAll, z.ls, c, Bool.and_self]
    · simp only [PyData.depthAll]
      have := z.dp
      omega
    · simp only [PyData.weightAll, List.length_cons]
      have := z.wt
      rw [Nat.add_mul, Nat.one_mul]
      omega
theorem Fine.tup {dep wt : Nat} {ds : List PyData} (h : ∀ d ∈ ds, Fine dep wt d) : Fine (dep + 1) (ds.length * (wt + 1)) (.tuple ds) := by
  obtain ⟨a, b, c, e, f⟩ := fine_all h
  exact ⟨by simp only [PyData.showable, a], by simp only [PyData.hasDict, b], by simp only [PyData.leavesShort, c], by simp only [PyData.depth]; omega, by simp only [PyData.weight]; exact f⟩
theorem Fine.lst {dep wt : Nat} {ds : List PyData} (h : ∀ d ∈ ds, Fine dep wt d) : Fine (dep + 1) (ds.length * (wt + 1)) (.list ds) := by
  obtain ⟨a, b, c, e, f⟩ := fine_all h
  exact ⟨by simp only [PyData.showable, a], by simp only [PyData.hasDict, b], by simp only [PyData.leavesShort, c], by simp only [PyData.depth]; omega, by simp only [PyData.weight]; exact f⟩
theorem Fine.mono {dep wt dep' wt' : Nat} {d : PyData} (h : Fine dep wt d) (a : dep ≤ dep') (b : wt ≤ wt') : Fine dep' wt' d := ⟨h.sh, h.nd, h.ls, Nat.le_trans h.dp a, Nat.le_trans h.wt b⟩
theorem Fine.int {i : Int} (h : i.natAbs < 10 ^ 32) : Fine 0 120 (.int i) := by
  have hl : i.natAbs.log2 < 110 := PySem.Flt.log2_lt_of (by decide) (Nat.lt_trans h (by decide +kernel))
  refine ⟨?_, rfl, ?_, Nat.zero_le _, ?_⟩
  · simp only [PyData.showable]
    exact decide_eq_true (by omega)
  · simp only [PyData.leavesShort]
    have := int_text_length_le10 (a := i) (k := 32) (by decide) h
    refine decide_eq_true ?_
    rw [PyData.shown_int]
    show (Str.ofString (toString i)).length ≤ 40
    rw [PySem.ofString_length]
    omega
  · simp only [PyData.weight]
    split <;> omega
theorem Fine.bl (b : Bool) : Fine 0 120 (.bool b) := ⟨rfl, rfl, rfl, Nat.zero_le _, Nat.zero_le _⟩
theorem Fine.str {z : Str} (h : z.cps.size ≤ 120) (h2 : (z.cps.toList.all fun c => decide (c < 16 ^ 8)) = true) : Fine 0 120 (.str z) := ⟨rfl, rfl, by simp only [PyData.leavesShort]; exact h2, Nat.zero_le _, by simp only [PyData.weight]; exact h⟩
theorem Fine.title {z : Str} (h : Title z) : Fine 0 120 (.str z) := by
  rcases h with e | e | e <;> subst e <;> exact Fine.str (by decide +kernel) (by decide +kernel)
theorem Fine.word (w : Wish) : Fine 0 120 (.str w.word) := by
  have h : w.word = ("always" : Str) ∨ w.word = ("alike" : Str) ∨ w.word = ("splits" : Str) ∨ w.word = ("whole" : Str) := by
    rcases w with t | ⟨t, u⟩ | ⟨sp, t, n⟩
    · exact .inl rfl
    · exact .inr (.inl rfl)
    · cases sp
      · exact .inr (.inr (.inr rfl))
      · exact .inr (.inr (.inl rfl))
  rcases h with e | e | e | e <;> rw [e] <;> exact Fine.str (by decide +kernel) (by decide +kernel)
theorem Fine.len {dep wt : Nat} {d : PyData} (h : Fine dep wt d) : d.shown.length ≤ 42 * wt + 40 := by
  have e := PyData.shown_le 40 (by decide) d h.ls
  have := h.wt
  have : 42 * d.weight ≤ 42 * wt := Nat.mul_le_mul_left _ this
  omega
/-! the data of a page's side -/
def restD : Wish → List PyData
  | .always _ => []
  | .alike _ u => [.str u]
  | .num _ _ n => [.int (n : Nat)]
def wishD (w : Wish) : PyData := .tuple (.str w.word :: .str w.one :: restD w)
theorem wish_fine {w : Wish} (h : w.Ok) : Fine 1 400 (wishD w) := by
  have all : ∀ d ∈ (.str w.word :: .str w.one :: restD w : List PyData), Fine 0 120 d := by
    intro d hd
    rcases List.mem_cons.mp hd with e | hd
    · rw [e]
      exact Fine.word w
    rcases List.mem_cons.mp hd with e | hd
    · rw [e]
      rcases w with t | ⟨t, u⟩ | ⟨sp, t, n⟩
      · exact Fine.title h
      · exact Fine.title h.1
      · exact Fine.title h.1
    · rcases w with t | ⟨t, u⟩ | ⟨sp, t, n⟩
      · cases hd
      · rw [List.mem_singleton.mp hd]
        exact Fine.title h.2
      · rw [List.mem_singleton.mp hd]
        refine Fine.int ?_
        rw [Int.natAbs_natCast]
        exact Nat.lt_of_le_of_lt h.2.2 (by decide +kernel)
  refine (Fine.tup all).mono (Nat.le_refl _) ?_
  have : (restD w).length ≤ 1 := by rcases w with t | ⟨t, u⟩ | ⟨sp, t, n⟩ <;> simp [restD]
  simp only [List.length_cons]
  have h2 : ((restD w).length + 1 + 1) * (120 + 1) ≤ 3 * 121 := Nat.mul_le_mul_right _ (by omega)
  omega
theorem rest_dp {K : PySem.W.Frag} {H : Hp} (w : Wish) : DpAll K H w.rest (restD w) := by
  rcases w with t | ⟨t, u⟩ | ⟨sp, t, n⟩
  · exact .nil
  · exact .cons (.str _) .nil
  · exact .cons (.int _) .nil
theorem WishAt.dp {K : PySem.W.Frag} {H : Hp} {p : Addr} {w : Wish} (h : WishAt H p w) : Dp K H (.ref p) (wishD w) := .tup (SqT.of h.1) (.cons (.str _) (.cons (.str _) (rest_dp w)))
theorem WishesAt.dp {K : PySem.W.Frag} {H : Hp} : ∀ {ps : List Addr} {ws : List Wish}, WishesAt H ps ws → DpAll K H (ps.map V.ref) (ws.map wishD)
  | _, _, .nil => .nil
  | _, _, .cons a r => .cons a.dp (WishesAt.dp r)
theorem WishesAt.ok {H : Hp} : ∀ {ps : List Addr} {ws : List Wish}, WishesAt H ps ws → ∀ w ∈ ws, w.Ok
  | _, _, .nil, _, h => by cases h
  | _, _, .cons a r, w, h => by
    rcases List.mem_cons.mp h with e | e
    · rw [e]
      exact a.2
    · exact WishesAt.ok r w e
theorem strs_dp {K : PySem.W.Frag} {H : Hp} : ∀ ys : List Str, DpAll K H (ys.map V.str) (ys.map PyData.str)
  | [] => .nil
  | y :: ys => .cons (.str y) (strs_dp ys)
def toldD (ys : List Str) (ws : List Wish) (c n : Nat) (e : Bool) : PyData := .list [.tuple (ys.map PyData.str), .tuple (ws.map wishD), .int (c : Nat), .int (n : Nat), .bool e]
theorem told_fine {ys : List Str} {ws : List Wish} {c n : Nat} {e : Bool} (hy : ∀ y ∈ ys, Title y) (hy3 : ys.length ≤ 3) (hw : ∀ w ∈ ws, w.Ok) (hwl : ws.length ≤ 900) (hc : c ≤ 2000) (hn : n ≤ 2000) :
    (toldD ys ws c n e).showable = true ∧ (toldD ys ws c n e).hasDict = false ∧ (toldD ys ws c n e).shown.length ≤ 16777216 ∧ (toldD ys ws c n e).depth ≤ 40 := by
  have h1 : Fine 1 400 (.tuple (ys.map PyData.str)) := by
    refine (Fine.tup (dep := 0) (wt := 120) fun d hd => ?_).mono (Nat.le_refl _) ?_
    · obtain ⟨y, h, rfl⟩ := List.mem_map.mp hd
      exact Fine.title (hy y h)
    · rw [List.length_map]
      have : ys.length * (120 + 1) ≤ 3 * 121 := Nat.mul_le_mul_right _ hy3
      omega
  have h2 : Fine 2 361000 (.tuple (ws.map wishD)) := by
    refine (Fine.tup (dep := 1) (wt := 400) fun d hd => ?_).mono (Nat.le_refl _) ?_
    · obtain ⟨y, h, rfl⟩ := List.mem_map.mp hd
      exact wish_fine (hw y h)
    · rw [List.length_map]
      have : ws.length * (400 + 1) ≤ 900 * 401 := Nat.mul_le_mul_right _ hwl
      omega
  have hi : ∀ k : Nat, k ≤ 2000 → Fine 0 120 (.int (k : Nat)) := fun k hk => Fine.int (by rw [Int.natAbs_natCast]; exact Nat.lt_of_le_of_lt hk (by decide +kernel))
  have w1 := h1.wt
  have w2 := h2.wt
  have w3 := (hi c hc).wt
  have w4 := (hi n hn).wt
  have w5 := (Fine.bl e).wt
  have d1 := h1.dp
  have d2 := h2.dp
  have d3 := (hi c hc).dp
  have d4 := (hi n hn).dp
  have d5 := (Fine.bl e).dp
  have hf : Fine 40 362000 (toldD ys ws c n e) := by
    unfold toldD
    refine ⟨?_, ?_, ?_, ?_, ?_⟩
    · simp only [PyData.showable, PyData.showableAll] at *
      simp only [h1.sh, h2.sh, (hi c hc).sh, (hi n hn).sh, (Fine.bl e).sh, PyData.showable, Bool.and_self, Bool.and_true]
      have a := h1.sh
      have b := h2.sh
      have c1 := (hi c hc).sh
      have c2 := (hi n hn).sh
      simp only [PyData.showable] at a b c1 c2
      simp only [a, b, c1, c2, Bool.and_self]
    · have a := h1.nd
      have b := h2.nd
      simp only [PyData.hasDict] at a b
      simp only [PyData.hasDict, PyData.hasDictAll, a, b, Bool.or_self]
    · have a := h1.ls
      have b := h2.ls
      have c1 := (hi c hc).ls
      have c2 := (hi n hn).ls
      simp only [PyData.leavesShort] at a b c1 c2
      simp only [PyData.leavesShort, PyData.leavesShortAll, a, b, c1, c2, Bool.and_self]
    · show PyData.depthAll _ + 1 ≤ 40
      simp only [PyData.depthAll]
      omega
    · show PyData.weightAll _ ≤ _
      simp only [PyData.weightAll]
      omega
  exact ⟨hf.sh, hf.nd, Nat.le_trans hf.len (by decide), hf.dp⟩
theorem told_dp {K : PySem.W.Frag} {H : Hp} {l pn pw : Addr} {ys : List Str} {ps : List Addr} {ws : List Wish} {c n : Nat} {e : Bool} (hl : H l = some (.lst [.ref pn, .ref pw, .int (c : Nat), .int (n : Nat), .bl e])) (hn : H pn = some (.tup (ys.map V.str))) (hw : H pw = some (.tup (ps.map V.ref))) (hW : WishesAt H ps ws) :
    Dp K H (.ref l) (toldD ys ws c n e) := .lst (SqL.of hl) (.cons (.tup (SqT.of hn) (strs_dp ys)) (.cons (.tup (SqT.of hw) hW.dp) (.cons (.int _) (.cons (.int _) (.cons (.bl _) .nil)))))
theorem shaped_pair (a b : Int) : SeqAt.shaped (.tuple [.int a, .int b]) = true := by
  unfold SeqAt.shaped
  simp only [PyData.canLay0, PyData.canLayAll0, PyData.depth, PyData.depthAll, Bool.and_true, Bool.true_and]
  exact decide_eq_true (by decide)
theorem eqv_pair (a b : Int) : PyData.eqv (.tuple [.int a, .int b]) (.tuple [.int a, .int b]) = true := by
  simp only [PyData.eqv, PyData.eqvAll]
  simp
theorem pair_dp {K : PySem.W.Frag} {H : Hp} {p : Addr} {a b : Int} (h : H p = some (.tup [.int a, .int b])) : Dp K H (.ref p) (.tuple [.int a, .int b]) := .tup (SqT.of h) (.cons (.int _) (.cons (.int _) .nil))
theorem op_neDc {X : Cx} {K : PySem.W.Frag} (hu : X.A.units + 64 < cLine) (h : X.K = K := by rfl) : OpR X (compareOp .NotEq) (rNeD K) := h ▸ op_neD hu
def spBookIs (A : Ad) : Sp := fun vs H Q _ => ∃ b dx hist cur g, vs = [.ref b, .ref g, .int (hist.length : Nat)] ∧ BookAt A H b dx hist cur ∧ PageAt H g cur ∧ Page.Ok cur ∧ cur.2.length ≤ 900 ∧ hist.length ≤ 1000 ∧ ∀ H', Ex [] H H' → Q (.bl true) H'
section
variable {P : Program} {w : World} {K : PySem.W.Frag} {mg : Str → Option Value} {base : Heap} {A : Ad}
theorem sc__law_book_is : FnScope ["_law_book_here", "_law_page", "_law_many", "_law_shelf", "_law_wishes_here", "_law_told", "_law_title"] ["_law_book_here", "_law_page", "_law_many"] (defScope s__law_book_is) :=
  ⟨rfl, rfl, rfl, by decide +kernel, rfl, by decide +kernel, by decide +kernel⟩
theorem b__law_book_is {K : PySem.W.Frag} {x q : Str} {f : Addr} {fd : FuncData} (F : Fun K x q s__law_book_is f fd) : Binds K fd ["_law_book_here", "_law_page", "_law_many"] [] := F.binds (fun _ _ _ _ _ _ us hl => match us, hl with | [_, _, _], _ => rfl)
theorem w__law_book_is (T : Tx K mg) (B : TxB K mg A) (O : Exs P w K mg base A) : CanG P w K mg base CX0 8 "_law_book_is" ["_law_book_here", "_law_page", "_law_many"] (spBookIs A) := by
  obtain ⟨pn, gn, fdn, Pn, Fn, bn⟩ := w_names (P := P) (w := w) (base := base) T B
  obtain ⟨pw, gw, fdw, Pw, Fw, bw⟩ := w_wishes (P := P) (w := w) (base := base) B
  obtain ⟨pc, gc, fdc, Pc, Fc, bc⟩ := w_changes (P := P) (w := w) (base := base) T B
  have c__law_pair := w__law_pair (P := P) (w := w) (base := base) T
  obtain ⟨fc, fg, fs, fl, fdc0, fdg, fds, fdl, B0, Fc0, Fg, Fs, Fl⟩ := B.book0
  obtain ⟨fd2, Fg2, bg⟩ := (w_getitem T B O Fg).ex
  obtain ⟨fd3, Fl2, bl⟩ := (w_len (P := P) (w := w) (base := base) T B Fl).ex
  refine canG0 T.d__law_book_is sc__law_book_is b__law_book_is (fun vs H Q E ⟨b, _, _, _, _, e, _⟩ => by rw [e]; rfl) fun f cdv Ar outer s H vs Q E hr hgd hcd ⟨b, dx, hist, cur, g, ev, hbk, hpg, hok, hwl, hhl, q⟩ => ?_
  subst ev
  refine ⟨_, (pss_cons (ps_asg (pv 1) (pg_tup (by rfl) (pgs_cons (pg_name (i := 3) sc__law_book_is.nd rfl (Or.inr rfl)) (pgs_cons (pg_name (i := 4) sc__law_book_is.nd rfl (Or.inl rfl)) pgs_nil))))
    (pss_cons (ps_set (i := 5) sc__law_book_is.nd rfl (Or.inl rfl) (pe_lst (pa_cons (pe_prop (dvs := []) (pv 0) B.clB Pn Fn (hr.mono (by decide)) bn .nil pass0 rfl) (pa_cons (pe_prop (dvs := []) (pv 0) B.clB Pw Fw (hr.mono (by decide)) bw .nil pass0 rfl) (pa_cons (pe_prop (dvs := []) (pv 0) B.clB Pc Fc (hr.mono (by decide)) bc .nil pass0 rfl) (pa_cons ((pe_callB (call_lenO B0 Fl2 (hr.mono (by decide)) bl) (by rfl) T.m_len (by decide +kernel) (pa_cons (pv 0) pa_nil))) (pa_cons ((pe_callTy (call_boolO B0 Fl2 (hr.mono (by decide)) bl) (by rfl) T.m_bool (by decide +kernel) (pa_cons (pv 0) pa_nil))) pa_nil)))))))
    (pss_cons (ps_if (pt_cmpR op_ne (pe_callB (call_repr hgd hr.units) (by rfl) T.m_repr (by decide +kernel) (pa_cons (pv 5) pa_nil)) (pe_callB (call_repr hgd hr.units) (by rfl) T.m_repr (by decide +kernel) (pa_cons (pe_lst (pa_cons (pe_callTy call_tuple_of (by rfl) T.m_tuple (by decide +kernel) (pa_cons ((pe_callB (call_sortedD rfl) (by rfl) T.m_sorted (by decide +kernel) (pa_cons (pv 3) pa_nil))) pa_nil)) (pa_cons (pe_callTy call_tuple_of (by rfl) T.m_tuple (by decide +kernel) (pa_cons (pv 4) pa_nil)) (pa_cons (pv 2) (pa_cons ((pe_callB call_lenD (by rfl) T.m_len (by decide +kernel) (pa_cons (pv 3) pa_nil))) (pa_cons (pe_cmpR (op_neDE hr.units0) (pv 3) pe_dnewK (nomark _)) pa_nil)))))) pa_nil)) (nomark _)) (pss_one (ps_ret pe_bl)) pss_nil)
    (pss_one (ps_ret (pe_cmpR (op_eqE hr.units0) (pe_lock (pe_lc (own := [("_law_title", 6)]) (g := gName 6) (by rfl) sc__law_book_is.nd (pi_keys (pv 3)) (blkOk_by (own := [("_law_title", 6)]) (N := ["_law_book_here", "_law_page", "_law_many", "_law_shelf", "_law_wishes_here", "_law_told", "_law_title"]) (sc := defScope s__law_book_is) (by decide +kernel)) (fun _ _ _ _ _ => (pg_name (i := 6) sc__law_book_is.nd rfl (Or.inl rfl))) (fun _ _ _ _ _ => (pts_one (pt_cmpR (op_neDc (K := K) hr.units) (pe_itemO B0 Fg2 (hr.mono (by decide)) bg passF (pv 0) (pv 6)) (pe_can c__law_pair (hr.mono (by decide)) (by rfl) pass0 (pa_cons (pe_ix (ix_tupE (K := K)) (pe_dget (hu_of hr) (pv 3) (pv 6) (fun _ _ => rfl)) pe_int (fun _ _ => rfl)) (pa_cons (pe_ix (ix_tupE (K := K)) (pe_dget (hu_of hr) (pv 3) (pv 6) (fun _ _ => rfl)) pe_int (fun _ _ => rfl)) pa_nil))) (nomark _)))) (fun _ _ _ _ _ => (pv 6)))) (pe_lst pa_nil) (nomark _))))))), ?_⟩
  obtain ⟨nd, mt, pt, hb, qs, hpt, hst, hpast⟩ := id hbk
  obtain ⟨S, ws⟩ := cur
  obtain ⟨hn, mps, hmt, hmW⟩ := id hst
  obtain ⟨d, l, ps, hg, hS, hl, hW⟩ := hpg
  have h3 := shelf_len hok
  have hwl : ws.length ≤ 900 := hwl
  have hql := hpast.len
  have hS : ShelfAt H d S := hS
  have hW : WishesAt H ps ws := hW
  refine ⟨_, rfl, _, _, rfl, SqT.of hg, rfl, ?_⟩
  walk_at "g"
  refine ⟨b, dx, _, rfl, hb, b, dx, nd, mt, pt, S, rfl, hb, hn, h3, fun pnm ys H1 hx1 hperm hsort hpn => ?_⟩
  have hb1 := hx1 _ _ (by simp) hb
  have hn1 : NumsAt H1 nd S := NumsAt.soft hn Soft.nil hx1.t
  refine ⟨_, rfl, b, dx, _, rfl, hb1, b, dx, nd, mt, pt, rfl, hb1, ?_⟩
  refine ⟨_, rfl, b, dx, _, rfl, hb1, b, dx, nd, mt, pt, qs.map V.ref, rfl, hb1, hx1 _ _ (by simp) hpt, ?_⟩
  refine ⟨_, rfl, b, dx, _, rfl, hb1, b, dx, nd, mt, pt, S, rfl, hb1, hn1, S.length, rfl, by omega, ?_⟩
  refine ⟨_, rfl, b, dx, _, rfl, hb1, b, dx, nd, mt, pt, S, rfl, hb1, hn1, S.length, rfl, by omega, ?_⟩
  refine ⟨by show 5 ≤ sizeLine; decide, fun tl ntl => ?_⟩
  have hx2 := hx1.new (o := .lst [.ref pnm, .ref mt, .int (qs.map V.ref).length, .int S.length, .bl (decide (S.length ≠ 0))]) ntl
  have htl : upd H1 tl (.lst [.ref pnm, .ref mt, .int (qs.map V.ref).length, .int S.length, .bl (decide (S.length ≠ 0))]) tl = some (.lst [.ref pnm, .ref mt, .int (qs.map V.ref).length, .int S.length, .bl (decide (S.length ≠ 0))]) := upd_same
  have hpn2 := upN (o := .lst [.ref pnm, .ref mt, .int (qs.map V.ref).length, .int S.length, .bl (decide (S.length ≠ 0))]) ntl hpn
  generalize upd H1 tl (.lst [.ref pnm, .ref mt, .int (qs.map V.ref).length, .int S.length, .bl (decide (S.length ≠ 0))]) = H2 at hx2 htl hpn2
  have hti : ∀ z ∈ S.map (·.1), Title z := fun z hz => by
    obtain ⟨e, he, hz2⟩ := List.mem_map.mp hz
    rw [← hz2]
    exact hok.ti e he
  have hyt : ∀ ys' : List Str, ys'.Perm (S.map (·.1)) → (∀ y ∈ ys', Title y) ∧ ys'.length ≤ 3 := fun ys' hp => ⟨fun y hy => hti y (hp.mem_iff.mp hy), by rw [hp.length_eq, List.length_map]; exact h3⟩
  obtain ⟨hy1, hy2⟩ := hyt ys hperm
  have hdp1 := told_dp (K := K) htl hpn2 (hx2 _ _ (by simp) hmt) (hmW.ex hx2)
  rw [List.length_map] at hdp1
  obtain ⟨f1, f2, f3, f4⟩ := told_fine (ys := ys) (ws := ws) (c := qs.length) (n := S.length) (e := decide (S.length ≠ 0)) hy1 hy2 hW.ok hwl (by omega) (by omega)
  refine ⟨_, rfl, _, _, rfl, hdp1, f1, f2, f3, f4, ?_⟩
  obtain ⟨kvs, hd, hit⟩ := id hS
  have hd2 := hx2 _ _ (by simp) hd
  have hkl := hit.len
  refine ⟨_, rfl, d, kvs, S.map (·.1), rfl, .inl hd2, hit.keys, by rw [List.length_map]; omega, fun ys2 p2 hperm2 hsort2 np2 => ?_⟩
  refine ⟨p2, _, rfl, .inl ⟨SqL.of upd_same, fun p3 np3 => ?_⟩⟩
  have hx3 := (hx2.new (o := .lst (ys2.map V.str)) np2).new (o := .tup (ys2.map V.str)) np3
  refine ⟨_, rfl, l, _, rfl, .inl ⟨SqL.of (hx3 _ _ (by simp) hl), fun p4 np4 => ?_⟩⟩
  have hx4 := hx3.new (o := .tup (ps.map V.ref)) np4
  refine ⟨_, rfl, _, rfl, d, kvs, rfl, hx4 _ _ (by simp) hd, _, rfl, fun e4 ne4 => ⟨d, e4, kvs, rfl, rfl, .inl (upN ne4 (hx4 _ _ (by simp) hd)), upd_same, ?_⟩⟩
  refine ⟨by show 5 ≤ sizeLine; decide, fun tl2 ntl2 => ?_⟩
  have hys : ys2 = ys := sorted_one hti hok.nd hperm2 hperm hsort2 hsort
  subst hys
  have hx5 := (hx4.new (o := .dK []) ne4).new (o := .lst [.ref p3, .ref p4, .int (hist.length : Nat), .int (kvs.length : Nat), .bl (!kvs.isEmpty)]) ntl2
  have hdp2 := told_dp (K := K) (c := hist.length) (n := kvs.length) (e := !kvs.isEmpty) (ws := ws) (ps := ps) (ys := ys2) (l := tl2) (pn := p3) (pw := p4) upd_same (upN ntl2 (upN ne4 (upN np4 upd_same))) (upN ntl2 (upN ne4 upd_same)) (hW.ex hx5)
  have hem : (!kvs.isEmpty) = decide (S.length ≠ 0) := by
    cases kvs with
    | nil => rw [← hkl]; rfl
    | cons a r => rw [← hkl]; simp
  have hdE : toldD ys2 ws hist.length kvs.length (!kvs.isEmpty) = toldD ys2 ws qs.length S.length (decide (S.length ≠ 0)) := by rw [hem, hkl, hql]
  rw [hdE] at hdp2
  refine ⟨_, _, rfl, hdp2, f1, f2, f3, f4, ?_⟩
  refine ⟨rfl, _, rfl, ?_⟩
  refine ite2 (fun c => ?_) fun _ => ?_
  · exfalso
    rw [show (!decide (V.str (toldD ys2 ws qs.length S.length (decide (S.length ≠ 0))).shown = V.str (toldD ys2 ws qs.length S.length (decide (S.length ≠ 0))).shown)) = false by simp] at c
    cases c
  generalize (upd _ tl2 _ : Hp) = H5 at hx5 ⊢
  have hnd : (kvs.map (·.1)).Nodup := by
    rw [hit.keys]
    exact inr_nodup hok.nd
  have hd5 := hx5 _ _ (by simp) hd
  have hb5 := hx5 _ _ (by simp) hb
  have hbd : b ≠ d := fun z => by rw [z, hd] at hb; cases hb
  refine ⟨d, _, hd5, trivial, fun od => ?_⟩
  have hfd : upd H5 d (.frz od (.dK kvs)) d = some (.frz od (.dK kvs)) := upd_same
  have hfb : upd H5 d (.frz od (.dK kvs)) b = some (.ins A.cBook dx (bookF nd mt pt)) := by
    rw [upd_ne hbd]
    exact hb5
  refine ⟨_, rfl, d, od, rfl, .inl ⟨kvs, hfd, fun D nD => lc_keys (fun i H' => Ex [] (upd H5 d (.frz od (.dK kvs))) H' ∧ H' D = some (.lst [])) ⟨Ex.new0 nD, upd_same⟩ (fun i H' h => h.1 _ _ (by simp) hfd) (fun i k v H' hi ⟨hx, hD⟩ => ?_) fun H' ⟨hx, hD⟩ => ?_⟩⟩
  · have hk : ∃ z : Str, k = Sum.inr z := by
      have hm : k ∈ kvs.map (·.1) := List.mem_map.mpr ⟨(k, v), List.mem_of_getElem? hi, rfl⟩
      rw [hit.keys] at hm
      obtain ⟨z, _, e⟩ := List.mem_map.mp hm
      exact ⟨z, e.symm⟩
    obtain ⟨z, rfl⟩ := hk
    have hva := val_at hnd hi
    have hxd : Ex [d] H H' := ((hx5.sub (M := [d])).put (o := .frz od (.dK kvs)) (by simp)).trans hx.sub
    have ned : ∀ {p : Addr} {o : HO}, H p = some o → (∀ x, o ≠ .dK x) → H' p = some o := fun {p o} h n => hxd _ _ (by
      intro y
      rw [List.mem_singleton.mp y, hd] at h
      exact n _ (Option.some.inj h).symm) h
    obtain ⟨kvn, hkn, hin⟩ := id hn
    obtain ⟨p, sg, r, hg1, hv1, hpl⟩ : ∃ p sg r, getS S z = some (sg, r) ∧ valV kvs (Sum.inr z : Key) = some (.ref p) ∧ PlanAt H p sg r := by
      rcases hit.get (t := z) with ⟨_, e⟩ | e
      · rw [hva] at e
        cases e
      · exact e
    have hne : nd ≠ d := fun y => by
      rcases hin.get (t := z) with ⟨e, _⟩ | ⟨p2, sg2, r2, _, hv2, hnum⟩
      · rw [hg1] at e
        cases e
      · rw [y, hd] at hkn
        cases hkn
        rw [hv1] at hv2
        cases hv2
        obtain ⟨_, _, bb, e1, _⟩ := hpl
        have e2 := hnum.1
        rw [e1] at e2
        cases e2
    have hn' : NumsAt H' nd S := ⟨kvn, hxd _ _ (by simpa using hne) hkn, hin.mono fun _ _ _ y => ⟨ned y.1 (fun x q => by cases q), y.2⟩⟩
    obtain ⟨hs1, hrok, bb, hp1, hbb⟩ := hpl
    have hp1' := ned hp1 (fun x q => by cases q)
    have hbb' := ned hbb (fun x q => by cases q)
    have hb' := hx _ _ (by simp) hfb
    have hfd' := hx _ _ (by simp) hfd
    have hvv : v = .ref p := by
      rw [hv1] at hva
      exact (Option.some.inj hva).symm
    subst hvv
    refine ⟨rfl, _, rfl, _, rfl, b, dx, _, rfl, hb', b, dx, nd, mt, pt, S, z, rfl, hb', hn', by rw [hg1]; rfl, fun p2 sg2 r2 e2 hnum => ?_⟩
    rw [hg1] at e2
    cases e2
    refine ⟨_, rfl, _, rfl, d, _, rfl, .inl ⟨kvs, Sum.inr z, .inr ⟨od, hfd'⟩, rfl, hv1.symm⟩, _, _, _, _, rfl, rfl, SqT.of hp1', rfl, ?_⟩
    refine ⟨_, rfl, _, rfl, d, _, rfl, .inl ⟨kvs, Sum.inr z, .inr ⟨od, hfd'⟩, rfl, hv1.symm⟩, _, _, _, _, rfl, rfl, SqT.of hp1', rfl, ?_⟩
    refine ⟨bb, sg, r, rfl, hbb', hrok, fun p3 H3 hx3 np3 hp3 => ?_⟩
    refine ⟨_, _, pair_dp (hx3 _ _ (by simp) hnum.1), pair_dp hp3, shaped_pair _ _, shaped_pair _ _, _, rfl, ?_⟩
    rw [eqv_pair]
    exact ⟨hx.trans hx3, hx3 _ _ (by simp) hD⟩
  · have hxu := Ex.unlock hd5 hx
    have hnD : D ≠ d := fun z => by
      rw [z, hfd] at nD
      cases nD
    refine ⟨hx _ _ (by simp) hfd, by show 0 ≤ sizeLine; decide, fun e ne => ?_⟩
    refine ⟨D, e, [], [], rfl, rfl, .inl ⟨SqL.of (upN ne (by rw [upd_ne hnD]; exact hD)), SqL.of upd_same⟩, .inl rfl, ?_⟩
    exact q _ ((hx5.trans hxu).new ne)
end
end G
-- Yc
set_option pp.maxSteps 800
set_option Elab.async false
set_option linter.all false
set_option maxRecDepth 100000
set_option maxHeartbeats 800000
namespace G
open PySem PySem.Spec PyProof.Rows L2 LamX NdefX
local macro_rules | `(tactic| walk_at "g") => `(tactic| repeat (first | refine ⟨_, rfl, ?_⟩ | refine ⟨_, _, rfl, ?_⟩ | refine ⟨_, _, _, rfl, ?_⟩ | refine ⟨_, _, rfl, rfl, ?_⟩ | refine ⟨rfl, ?_⟩))
local macro_rules | `(tactic| walk_at "w") => `(tactic| repeat (first | refine ⟨_, rfl, ?_⟩ | refine ⟨_, _, rfl, ?_⟩ | refine ⟨_, _, _, rfl, ?_⟩ | refine ⟨_, _, rfl, rfl, ?_⟩ | refine ⟨rfl, ?_⟩ | refine Or.inl ⟨_, rfl, ?_⟩ | refine ⟨_, _, rfl, .inr ⟨_, SqT.of (by assumption), rfl⟩, ?_⟩ | refine ⟨_, _, rfl, .inl ⟨_, SqL.of (by assumption), rfl⟩, ?_⟩ | refine ⟨_, _, _, _, rfl, rfl, SqT.of (by assumption), (by rfl), ?_⟩ | refine ⟨_, _, _, _, rfl, rfl, SqL.of (by assumption), (by rfl), ?_⟩ | refine ⟨_, _, _, _, rfl, rfl, SqL.of upd_same, (by rfl), ?_⟩ | refine ⟨_, _, _, _, rfl, rfl, (by assumption), (by rfl), ?_⟩ | refine ⟨_, _, _, _, rfl, rfl, upd_same, (by rfl), ?_⟩))
section
variable {P : Program} {w : World} {K : PySem.W.Frag} {mg : Str → Option Value} {base : Heap}
end
/-- what K tells of an own class of exceptions, and of isinstance -/
structure Kin (K : PySem.W.Frag) (A : Ad) (D : Addr) (v n a br iu ii nu un : Bool) : Prop where
  C : ExcC K D
  X : XfC K D
  ni : PySem.W.findIn K (.ref D) "index" = some none
  ng : PySem.W.findIn K (.ref D) "given" = some none
  wv : PySem.W.kitOne K (.ref D) (.ref A.cWrongValue) = some v
  wn : PySem.W.kitOne K (.ref D) (.ref A.cWrongName) = some n
  na : PySem.W.kitOne K (.ref D) (.ref A.cNoAnswer) = some a
  ve : PySem.W.kitOne K (.ref D) (.type "ValueError") = some v
  le : PySem.W.kitOne K (.ref D) (.type "LookupError") = some n
  ae : PySem.W.kitOne K (.ref D) (.type "ArithmeticError") = some a
  br : PySem.W.kitOne K (.ref D) (.ref A.cBroken) = some br
  iu : PySem.W.kitOne K (.ref D) (.ref A.cInUse) = some iu
  ii : PySem.W.kitOne K (.ref D) (.ref A.cInvalidIndex) = some ii
  nu : PySem.W.kitOne K (.ref D) (.ref A.cNothingToUndo) = some nu
  un : PySem.W.kitOne K (.ref D) (.ref A.cUnknownName) = some un
  ex : PySem.W.exmAny K (.ref D) [.ref A.cWrongValue, .ref A.cWrongName, .ref A.cNoAnswer] = some true
structure TxE (K : PySem.W.Frag) (mg : Str → Option Value) (A : Ad) : Prop where
  gWV : mg "WrongValue" = some (.ref A.cWrongValue)
  gWN : mg "WrongName" = some (.ref A.cWrongName)
  gNA : mg "NoAnswer" = some (.ref A.cNoAnswer)
  gBr : mg "Broken" = some (.ref A.cBroken)
  gIU : mg "InUse" = some (.ref A.cInUse)
  gII : mg "InvalidIndex" = some (.ref A.cInvalidIndex)
  gNU : mg "NothingToUndo" = some (.ref A.cNothingToUndo)
  gUN : mg "UnknownName" = some (.ref A.cUnknownName)
  kBr : Kin K A A.cBroken false false true true false false false false
  kIU : Kin K A A.cInUse false false true false true false false false
  kII : Kin K A A.cInvalidIndex true false false false false true false false
  kNU : Kin K A A.cNothingToUndo false false true false false false true false
  kUN : Kin K A A.cUnknownName false true false false false false false true
  keA : PySem.W.exmAny K (.type "KeyError") [.ref A.cWrongValue, .ref A.cWrongName, .ref A.cNoAnswer] = some false
  keK : PySem.W.exmOne K (.type "KeyError") (.type "KeyError") = some true
theorem slip_put {H H3 : Hp} {p1 p2 p3 q1 : Addr} {a b : V} {xs ys zs : List V} (hx : Ex [] H H3) (h1 : H3 p1 = some (.lst (a :: xs))) (h2 : H3 p2 = some (.lst (b :: ys))) (h3 : H3 p3 = some (.lst [])) (n3 : H p3 = none) (nq : H3 q1 = none) :
    Ex [] H (upd (upd H3 q1 (.lst zs)) p3 (.lst [.ref q1])) ∧ upd (upd H3 q1 (.lst zs)) p3 (.lst [.ref q1]) p1 = some (.lst (a :: xs)) ∧ upd (upd H3 q1 (.lst zs)) p3 (.lst [.ref q1]) p2 = some (.lst (b :: ys)) ∧ upd (upd H3 q1 (.lst zs)) p3 (.lst [.ref q1]) p3 = some (.lst [.ref q1]) ∧ upd (upd H3 q1 (.lst zs)) p3 (.lst [.ref q1]) q1 = some (.lst zs) := by
  have e1 : p1 ≠ p3 := fun z => by rw [z, h3] at h1; cases h1
  have e2 : p2 ≠ p3 := fun z => by rw [z, h3] at h2; cases h2
  have e3 : q1 ≠ p3 := fun z => by rw [z, h3] at nq; cases nq
  exact ⟨(hx.new nq).mut n3, by rw [upd_ne e1]; exact upN nq h1, by rw [upd_ne e2]; exact upN nq h2, upd_same, by rw [upd_ne e3, upd_same]⟩
theorem slip_dict {H H' : Hp} {d : Option Addr} (hd : d = none ∨ ∃ dx fs, d = some dx ∧ H dx = some (.xd fs)) (x : Ex [] H H') : d = none ∨ ∃ dx fs, d = some dx ∧ H' dx = some (.xd fs) := by
  rcases hd with e | ⟨dx, fs, e, z⟩
  · exact .inl e
  · exact .inr ⟨dx, fs, e, x _ _ (by simp) z⟩
theorem sc__law_slip : FnScope ["_law_e", "_law_bases", "_law_kinds", "_law_found"] ["_law_e"] (defScope s__law_slip) :=
  ⟨rfl, rfl, rfl, by decide +kernel, rfl, by decide +kernel, by decide +kernel⟩
theorem b__law_slip {K : PySem.W.Frag} {x q : Str} {f : Addr} {fd : FuncData} (F : Fun K x q s__law_slip f fd) : Binds K fd ["_law_e"] [] := F.binds (fun _ _ _ _ _ _ us hl => match us, hl with | [_], _ => rfl)
section
variable {P : Program} {w : World} {K : PySem.W.Frag} {mg : Str → Option Value} {base : Heap} {A : Ad}
theorem slip_walk (T : Tx K mg) (TE : TxE K mg A) {D : Addr} {v n a br iu ii nu un : Bool} (Kn : Kin K A D v n a br iu ii nu un) {f : Addr} {cdv : Value} {Ar : Around} {outer : List Env} {s : Shared} {H : Hp} {Q : VK} {E : XK} {p : Addr × Obj} {d : Option Addr} {k : Nat} (hot : L2H.Hot1 Ar p) (hr : L2H.RoomH k (Ar.deeper (envOfC "_law_slip" (defScope s__law_slip) s.heap.objs.size f cdv))) (ex : ExAt p (.ref D) d) (hd : d = none ∨ ∃ dx fs, d = some dx ∧ H dx = some (.xd fs)) {es : List Str}
    (cnt : ([v, n, a] : List Bool).countP id = 1) (one : (br = true ∧ iu = false ∧ ii = false ∧ nu = false ∧ un = false ∧ ∃ (k : Nat) (dd : Addr), es = [("Broken" : Str), showI k] ∧ k ≤ 2000 ∧ d = some dd ∧ H dd = some (.xd [("index", .int (k : Nat))])) ∨
      (br = false ∧ iu = true ∧ ii = false ∧ nu = false ∧ un = false ∧ ∃ (k : Nat) (dd : Addr), es = [("InUse" : Str), showI k] ∧ k ≤ 2000 ∧ d = some dd ∧ H dd = some (.xd [("index", .int (k : Nat))])) ∨
      (br = false ∧ iu = false ∧ ii = true ∧ nu = false ∧ un = false ∧ ∃ (k : Nat) (dd : Addr), es = [("InvalidIndex" : Str), showI k] ∧ k ≤ 2000 ∧ d = some dd ∧ H dd = some (.xd [("given", .int (k : Nat))])) ∨
      (br = false ∧ iu = false ∧ ii = false ∧ nu = true ∧ un = false ∧ es = [("NothingToUndo" : Str)] ∧ d = none) ∨
      (br = false ∧ iu = false ∧ ii = false ∧ nu = false ∧ un = true ∧ ∃ (t : Str) (dd : Addr), es = [("UnknownName" : Str), showS t] ∧ (showS t).length ≤ 1000 ∧ d = some dd ∧ H dd = some (.xd [("given", .str t)])))
    (q : ∀ R H', Ex [] H H' → H' R = some (.lst (es.map V.str)) → Q (.ref R) H') :
    ∃ t, PSs (L2H.cxH C8.CX0 P w K mg base ["_law_e", "_law_bases", "_law_kinds", "_law_found"] "_law_slip" (defScope s__law_slip) f cdv Ar outer s H E p) (defBody s__law_slip) t ∧ t { nx := fun _ H' => Q .non H', rt := Q } (L2.start ["_law_e", "_law_bases", "_law_kinds", "_law_found"] [.ref p.1]) H := by
  have hp : p ∈ [p] := List.mem_singleton.mpr rfl
  have hu : (Ar.deeper (envOfC "_law_slip" (defScope s__law_slip) s.heap.objs.size f cdv)).units + 64 < cLine := by have := hr.un; omega
  refine ⟨_, (pss_cons (ps_set (i := 1) sc__law_slip.nd rfl (Or.inl rfl) (pe_lst (pa_cons (pe_callB (call_isP Kn.C ex hp) (by rfl) T.m_isinstance (by decide +kernel) (pa_cons (pv 0) (pa_cons (pe_glob (v := .ref A.cWrongValue) (by rfl) TE.gWV rfl) pa_nil))) (pa_cons (pe_callB (call_isP Kn.C ex hp) (by rfl) T.m_isinstance (by decide +kernel) (pa_cons (pv 0) (pa_cons (pe_glob (v := .ref A.cWrongName) (by rfl) TE.gWN rfl) pa_nil))) (pa_cons (pe_callB (call_isP Kn.C ex hp) (by rfl) T.m_isinstance (by decide +kernel) (pa_cons (pv 0) (pa_cons (pe_glob (v := .ref A.cNoAnswer) (by rfl) TE.gNA rfl) pa_nil))) pa_nil)))))
    (pss_cons (ps_parH (i := 2) (j := 3) ⟨p, hot, hp⟩ sc__law_slip.nd rfl rfl (by decide) rfl rfl (pa_cons (pe_lst (pa_cons (pe_callB (call_isP Kn.C ex hp) (by rfl) T.m_isinstance (by decide +kernel) (pa_cons (pv 0) (pa_cons (pe_bltn (v := .ty "ValueError") (by rfl) T.m_ValueError (by decide +kernel) rfl) pa_nil))) (pa_cons (pe_callB (call_isP Kn.C ex hp) (by rfl) T.m_isinstance (by decide +kernel) (pa_cons (pv 0) (pa_cons (pe_bltn (v := .ty "LookupError") (by rfl) T.m_LookupError (by decide +kernel) rfl) pa_nil))) (pa_cons (pe_callB (call_isP Kn.C ex hp) (by rfl) T.m_isinstance (by decide +kernel) (pa_cons (pv 0) (pa_cons (pe_bltn (v := .ty "ArithmeticError") (by rfl) T.m_ArithmeticError (by decide +kernel) rfl) pa_nil))) pa_nil)))) (pa_cons (pe_lst pa_nil) pa_nil)) (by rfl))
    (pss_cons (ps_if (pt_val (pe_callB (call_isP Kn.C ex hp) (by rfl) T.m_isinstance (by decide +kernel) (pa_cons (pv 0) (pa_cons (pe_glob (v := .ref A.cBroken) (by rfl) TE.gBr rfl) pa_nil)))) (pss_one (ps_expr (pe_bm PySem.F.plainAttrs_list PySem.F.slot_list_append PySem.F.type_list_append mt_append (pv 3) (pa_cons (pe_lst (pa_cons pe_str (pa_cons (pe_callB call_reprL (by rfl) T.m_repr (by decide +kernel) (pa_cons (pe_xfP Kn.X Kn.ni ex hp (pv 0) rfl) pa_nil)) pa_nil))) pa_nil)))) pss_nil)
    (pss_cons (ps_if (pt_val (pe_callB (call_isP Kn.C ex hp) (by rfl) T.m_isinstance (by decide +kernel) (pa_cons (pv 0) (pa_cons (pe_glob (v := .ref A.cInUse) (by rfl) TE.gIU rfl) pa_nil)))) (pss_one (ps_expr (pe_bm PySem.F.plainAttrs_list PySem.F.slot_list_append PySem.F.type_list_append mt_append (pv 3) (pa_cons (pe_lst (pa_cons pe_str (pa_cons (pe_callB call_reprL (by rfl) T.m_repr (by decide +kernel) (pa_cons (pe_xfP Kn.X Kn.ni ex hp (pv 0) rfl) pa_nil)) pa_nil))) pa_nil)))) pss_nil)
    (pss_cons (ps_if (pt_val (pe_callB (call_isP Kn.C ex hp) (by rfl) T.m_isinstance (by decide +kernel) (pa_cons (pv 0) (pa_cons (pe_glob (v := .ref A.cInvalidIndex) (by rfl) TE.gII rfl) pa_nil)))) (pss_one (ps_expr (pe_bm PySem.F.plainAttrs_list PySem.F.slot_list_append PySem.F.type_list_append mt_append (pv 3) (pa_cons (pe_lst (pa_cons pe_str (pa_cons (pe_callB call_reprL (by rfl) T.m_repr (by decide +kernel) (pa_cons (pe_xfP Kn.X Kn.ng ex hp (pv 0) rfl) pa_nil)) pa_nil))) pa_nil)))) pss_nil)
    (pss_cons (ps_if (pt_val (pe_callB (call_isP Kn.C ex hp) (by rfl) T.m_isinstance (by decide +kernel) (pa_cons (pv 0) (pa_cons (pe_glob (v := .ref A.cNothingToUndo) (by rfl) TE.gNU rfl) pa_nil)))) (pss_one (ps_expr (pe_bm PySem.F.plainAttrs_list PySem.F.slot_list_append PySem.F.type_list_append mt_append (pv 3) (pa_cons (pe_lst (pa_cons pe_str pa_nil)) pa_nil)))) pss_nil)
    (pss_cons (ps_if (pt_val (pe_callB (call_isP Kn.C ex hp) (by rfl) T.m_isinstance (by decide +kernel) (pa_cons (pv 0) (pa_cons (pe_glob (v := .ref A.cUnknownName) (by rfl) TE.gUN rfl) pa_nil)))) (pss_one (ps_expr (pe_bm PySem.F.plainAttrs_list PySem.F.slot_list_append PySem.F.type_list_append mt_append (pv 3) (pa_cons (pe_lst (pa_cons pe_str (pa_cons (pe_callB call_reprL (by rfl) T.m_repr (by decide +kernel) (pa_cons (pe_xfP Kn.X Kn.ng ex hp (pv 0) rfl) pa_nil)) pa_nil))) pa_nil)))) pss_nil)
    (pss_one (ps_ret (pe_ifExp (PW.pt (pw_and (pt_cmpR op_eq (pe_callB call_len (by rfl) T.m_len (by decide +kernel) (pa_cons (pv 3) pa_nil)) pe_int (nomark _)) (pw_and (pt_cmpR (op_eqD hu) (pv 1) (pv 2) (nomark _)) (pw_and1 (pt_cmpR op_eq (pe_bm PySem.F.plainAttrs_list PySem.F.slot_list_count PySem.F.type_list_count mt_cntB (pv 1) (pa_cons pe_bl pa_nil)) pe_int (nomark _)))))) (pe_ix ix_list (pv 3) pe_int (fun _ _ => rfl)) (pe_lst (pa_cons pe_str pa_nil)))))))))))), ?_⟩
  refine ⟨_, rfl, _, _, v, rfl, (fun u h => h), Kn.wv, hd, _, rfl, _, _, n, rfl, (fun u h => h), Kn.wn, hd, _, rfl, _, _, a, rfl, (fun u h => h), Kn.na, hd, ?_⟩
  refine ⟨by show 3 ≤ sizeLine; decide, fun p1 n1 => ?_⟩
  have hd1 : d = none ∨ ∃ dx fs, d = some dx ∧ upd H p1 (.lst [.bl v, .bl n, .bl a]) dx = some (.xd fs) := by
    rcases hd with e | ⟨dx, fs, e, z⟩
    · exact .inl e
    · exact .inr ⟨dx, fs, e, upN n1 z⟩
  refine ⟨_, rfl, _, _, v, rfl, (fun u h => h), Kn.ve, hd1, _, rfl, _, _, n, rfl, (fun u h => h), Kn.le, hd1, _, rfl, _, _, a, rfl, (fun u h => h), Kn.ae, hd1, ?_⟩
  refine ⟨by show 3 ≤ sizeLine; decide, fun p2 n2 => ⟨by show 0 ≤ sizeLine; decide, fun p3 n3 => ?_⟩⟩
  have hxx : Ex [] H (upd (upd (upd H p1 (.lst [.bl v, .bl n, .bl a])) p2 (.lst [.bl v, .bl n, .bl a])) p3 (.lst [])) := ((Ex.new0 n1).new n2).new n3
  have hp1 := upN (o := .lst []) n3 (upN (o := .lst [.bl v, .bl n, .bl a]) n2 (show upd H p1 (.lst [.bl v, .bl n, .bl a]) p1 = _ from upd_same))
  have hp2 := upN (o := .lst []) n3 (show upd (upd H p1 (.lst [.bl v, .bl n, .bl a])) p2 (.lst [.bl v, .bl n, .bl a]) p2 = _ from upd_same)
  have hp3 : upd (upd (upd H p1 (.lst [.bl v, .bl n, .bl a])) p2 (.lst [.bl v, .bl n, .bl a])) p3 (.lst []) p3 = _ := upd_same
  have hn3 : H p3 = none := ((Ex.new0 (M := []) n1).new n2).none_back (by simp) n3
  generalize upd (upd (upd H p1 (.lst [.bl v, .bl n, .bl a])) p2 (.lst [.bl v, .bl n, .bl a])) p3 (.lst []) = H3 at hxx hp1 hp2 hp3 ⊢
  have hd3 : d = none ∨ ∃ dx fs, d = some dx ∧ H3 dx = some (.xd fs) := by
    rcases hd with e | ⟨dx, fs, e, z⟩
    · exact .inl e
    · exact .inr ⟨dx, fs, e, hxx _ _ (by simp) z⟩
  have fin : ∀ (q1 : Addr) (H4 : Hp), Ex [] H H4 → H4 p1 = some (.lst [.bl v, .bl n, .bl a]) → H4 p2 = some (.lst [.bl v, .bl n, .bl a]) → H4 p3 = some (.lst [.ref q1]) → H4 q1 = some (.lst (es.map V.str)) →
      tRet (tIf (tAnd (tTest (tOp rEq (tCB (fun xs H Q => ∃ x n, xs = [x] ∧ LenV K x H n ∧ Q (.int n) H) (tCons (tVar 3) tNil)) (tC (.int 1)))) (tAnd (tTest (tOp (rEqD K) (tVar 1) (tVar 2))) (tTest (tOp rEq (tBM K "list" (rCntB K) (tVar 1) (tCons (tC (.bl true)) tNil)) (tC (.int 1))))))
        (tOp (rIxL K) (tVar 3) (tC (.int 0))) (tLst (tCons (tC (.str "other")) tNil))) { nx := fun _ H' => Q .non H', rt := Q } [some (.ref p.1), some (.ref p1), some (.ref p2), some (.ref p3)] H4 := fun q1 H4 hx h1 h2 h3 h4 => by
    refine ⟨_, rfl, _, _, rfl, .inl ⟨_, SqL.of h3, rfl⟩, rfl, _, rfl, ?_⟩
    have dp : ∀ {p : Addr}, H4 p = some (.lst [.bl v, .bl n, .bl a]) → Dp K H4 (.ref p) (.list [.bool v, .bool n, .bool a]) := fun h => .lst (SqL.of h) (.cons (.bl _) (.cons (.bl _) (.cons (.bl _) .nil)))
    have sh : SeqAt.shaped (.list [.bool v, .bool n, .bool a]) = true := by
      unfold SeqAt.shaped
      simp only [PyData.canLay0, PyData.canLayAll0, PyData.depth, PyData.depthAll, Bool.and_true, Bool.true_and]
      exact decide_eq_true (by decide)
    refine ⟨_, rfl, _, rfl, _, _, dp h1, dp h2, sh, sh, ?_⟩
    have eq : PyData.eqv (.list [.bool v, .bool n, .bool a]) (.list [.bool v, .bool n, .bool a]) = true := by
      simp only [PyData.eqv, PyData.eqvAll]
      simp
    rw [eq]
    refine ⟨_, rfl, _, rfl, .inl ⟨rfl, _, SqL.of h1⟩, p1, [v, n, a], rfl, rfl, SqL.of h1, ?_⟩
    rw [cnt]
    refine ⟨rfl, _, rfl, ?_⟩
    exact ⟨_, rfl, _, _, _, _, rfl, rfl, SqL.of h3, rfl, q q1 H4 hx h4⟩
  rcases one with ⟨rfl, rfl, rfl, rfl, rfl, k, dd, rfl, hk, rfl, hdd⟩ | ⟨rfl, rfl, rfl, rfl, rfl, k, dd, rfl, hk, rfl, hdd⟩ | ⟨rfl, rfl, rfl, rfl, rfl, k, dd, rfl, hk, rfl, hdd⟩ | ⟨rfl, rfl, rfl, rfl, rfl, rfl, rfl⟩ | ⟨rfl, rfl, rfl, rfl, rfl, t, dd, rfl, ht, rfl, hdd⟩
  · refine ⟨_, _, rfl, ?_⟩
    refine ⟨_, rfl, _, _, _, rfl, (fun u h => h), Kn.br, hd3, _, rfl, ?_⟩
    refine ⟨_, rfl, .inl ⟨rfl, _, SqL.of hp3⟩, _, rfl, rfl, rfl, dd, _, _, rfl, hxx _ _ (by simp) hdd, rfl, .inl ⟨k, rfl, by show k < _; omega, by show 2 ≤ sizeLine; decide, fun q1 nq1 => ?_⟩⟩
    refine ⟨p3, _, _, rfl, rfl, upN nq1 hp3, by decide, ?_⟩
    obtain ⟨hx4, h41, h42, h43, h44⟩ := slip_put hxx hp1 hp2 hp3 hn3 nq1
    have hd4 := slip_dict hd hx4
    refine ⟨_, rfl, _, _, _, rfl, (fun u h => h), Kn.iu, hd4, _, rfl, ?_⟩
    refine ⟨_, rfl, _, _, _, rfl, (fun u h => h), Kn.ii, hd4, _, rfl, ?_⟩
    refine ⟨_, rfl, _, _, _, rfl, (fun u h => h), Kn.nu, hd4, _, rfl, ?_⟩
    refine ⟨_, rfl, _, _, _, rfl, (fun u h => h), Kn.un, hd4, _, rfl, ?_⟩
    exact fin _ _ hx4 h41 h42 h43 h44
  · refine ⟨_, _, rfl, ?_⟩
    refine ⟨_, rfl, _, _, _, rfl, (fun u h => h), Kn.br, hd3, _, rfl, ?_⟩
    refine ⟨_, rfl, _, _, _, rfl, (fun u h => h), Kn.iu, hd3, _, rfl, ?_⟩
    refine ⟨_, rfl, .inl ⟨rfl, _, SqL.of hp3⟩, _, rfl, rfl, rfl, dd, _, _, rfl, hxx _ _ (by simp) hdd, rfl, .inl ⟨k, rfl, by show k < _; omega, by show 2 ≤ sizeLine; decide, fun q1 nq1 => ?_⟩⟩
    refine ⟨p3, _, _, rfl, rfl, upN nq1 hp3, by decide, ?_⟩
    obtain ⟨hx4, h41, h42, h43, h44⟩ := slip_put hxx hp1 hp2 hp3 hn3 nq1
    have hd4 := slip_dict hd hx4
    refine ⟨_, rfl, _, _, _, rfl, (fun u h => h), Kn.ii, hd4, _, rfl, ?_⟩
    refine ⟨_, rfl, _, _, _, rfl, (fun u h => h), Kn.nu, hd4, _, rfl, ?_⟩
    refine ⟨_, rfl, _, _, _, rfl, (fun u h => h), Kn.un, hd4, _, rfl, ?_⟩
    exact fin _ _ hx4 h41 h42 h43 h44
  · refine ⟨_, _, rfl, ?_⟩
    refine ⟨_, rfl, _, _, _, rfl, (fun u h => h), Kn.br, hd3, _, rfl, ?_⟩
    refine ⟨_, rfl, _, _, _, rfl, (fun u h => h), Kn.iu, hd3, _, rfl, ?_⟩
    refine ⟨_, rfl, _, _, _, rfl, (fun u h => h), Kn.ii, hd3, _, rfl, ?_⟩
    refine ⟨_, rfl, .inl ⟨rfl, _, SqL.of hp3⟩, _, rfl, rfl, rfl, dd, _, _, rfl, hxx _ _ (by simp) hdd, rfl, .inl ⟨k, rfl, by show k < _; omega, by show 2 ≤ sizeLine; decide, fun q1 nq1 => ?_⟩⟩
    refine ⟨p3, _, _, rfl, rfl, upN nq1 hp3, by decide, ?_⟩
    obtain ⟨hx4, h41, h42, h43, h44⟩ := slip_put hxx hp1 hp2 hp3 hn3 nq1
    have hd4 := slip_dict hd hx4
    refine ⟨_, rfl, _, _, _, rfl, (fun u h => h), Kn.nu, hd4, _, rfl, ?_⟩
    refine ⟨_, rfl, _, _, _, rfl, (fun u h => h), Kn.un, hd4, _, rfl, ?_⟩
    exact fin _ _ hx4 h41 h42 h43 h44
  · refine ⟨_, _, rfl, ?_⟩
    refine ⟨_, rfl, _, _, _, rfl, (fun u h => h), Kn.br, hd3, _, rfl, ?_⟩
    refine ⟨_, rfl, _, _, _, rfl, (fun u h => h), Kn.iu, hd3, _, rfl, ?_⟩
    refine ⟨_, rfl, _, _, _, rfl, (fun u h => h), Kn.ii, hd3, _, rfl, ?_⟩
    refine ⟨_, rfl, _, _, _, rfl, (fun u h => h), Kn.nu, hd3, _, rfl, ?_⟩
    refine ⟨_, rfl, .inl ⟨rfl, _, SqL.of hp3⟩, by show 1 ≤ sizeLine; decide, fun q1 nq1 => ?_⟩
    refine ⟨p3, _, _, rfl, rfl, upN nq1 hp3, by decide, ?_⟩
    obtain ⟨hx4, h41, h42, h43, h44⟩ := slip_put hxx hp1 hp2 hp3 hn3 nq1
    have hd4 := slip_dict hd hx4
    refine ⟨_, rfl, _, _, _, rfl, (fun u h => h), Kn.un, hd4, _, rfl, ?_⟩
    exact fin _ _ hx4 h41 h42 h43 h44
  · refine ⟨_, _, rfl, ?_⟩
    refine ⟨_, rfl, _, _, _, rfl, (fun u h => h), Kn.br, hd3, _, rfl, ?_⟩
    refine ⟨_, rfl, _, _, _, rfl, (fun u h => h), Kn.iu, hd3, _, rfl, ?_⟩
    refine ⟨_, rfl, _, _, _, rfl, (fun u h => h), Kn.ii, hd3, _, rfl, ?_⟩
    refine ⟨_, rfl, _, _, _, rfl, (fun u h => h), Kn.nu, hd3, _, rfl, ?_⟩
    refine ⟨_, rfl, _, _, _, rfl, (fun u h => h), Kn.un, hd3, _, rfl, ?_⟩
    refine ⟨_, rfl, .inl ⟨rfl, _, SqL.of hp3⟩, _, rfl, rfl, rfl, dd, _, _, rfl, hxx _ _ (by simp) hdd, rfl, .inr ⟨t, rfl, Nat.le_trans ht (by decide), by show 2 ≤ sizeLine; decide, fun q1 nq1 => ?_⟩⟩
    refine ⟨p3, _, _, rfl, rfl, upN nq1 hp3, by decide, ?_⟩
    obtain ⟨hx4, h41, h42, h43, h44⟩ := slip_put hxx hp1 hp2 hp3 hn3 nq1
    have hd4 := slip_dict hd hx4
    exact fin _ _ hx4 h41 h42 h43 h44
theorem slip_to (T : Tx K mg) (TE : TxE K mg A) {cls : Value} {f : Addr} {cdv : Value} {Ar : Around} {outer : List Env} {s : Shared} {H : Hp} {Q : VK} {E : XK} {p : Addr × Obj} {d : Option Addr} {k : Nat} {es : List Str} (hot : L2H.Hot1 Ar p) (hr : L2H.RoomH k (Ar.deeper (envOfC "_law_slip" (defScope s__law_slip) s.heap.objs.size f cdv)))
    (ex : ExAt p cls d) (he : ErrAt A H cls d es) (q : ∀ R H', Ex [] H H' → H' R = some (.lst (es.map V.str)) → Q (.ref R) H') :
    ∃ t, PSs (L2H.cxH C8.CX0 P w K mg base ["_law_e", "_law_bases", "_law_kinds", "_law_found"] "_law_slip" (defScope s__law_slip) f cdv Ar outer s H E p) (defBody s__law_slip) t ∧ t { nx := fun _ H' => Q .non H', rt := Q } (L2.start ["_law_e", "_law_bases", "_law_kinds", "_law_found"] [.ref p.1]) H := by
  rcases he with ⟨t, dd, e, ht, rfl, rfl, hd⟩ | ⟨k1, dd, e, hk, rfl, rfl, hd⟩ | ⟨k1, dd, e, hk, rfl, rfl, hd⟩ | ⟨k1, dd, e, hk, rfl, rfl, hd⟩ | ⟨e, rfl, rfl⟩
  · exact slip_walk T TE TE.kUN hot hr ex (.inr ⟨dd, _, rfl, hd⟩) rfl (.inr (.inr (.inr (.inr ⟨rfl, rfl, rfl, rfl, rfl, t, dd, e, ht, rfl, hd⟩)))) q
  · exact slip_walk T TE TE.kII hot hr ex (.inr ⟨dd, _, rfl, hd⟩) rfl (.inr (.inr (.inl ⟨rfl, rfl, rfl, rfl, rfl, k1, dd, e, hk, rfl, hd⟩))) q
  · exact slip_walk T TE TE.kBr hot hr ex (.inr ⟨dd, _, rfl, hd⟩) rfl (.inl ⟨rfl, rfl, rfl, rfl, rfl, k1, dd, e, hk, rfl, hd⟩) q
  · exact slip_walk T TE TE.kIU hot hr ex (.inr ⟨dd, _, rfl, hd⟩) rfl (.inr (.inl ⟨rfl, rfl, rfl, rfl, rfl, k1, dd, e, hk, rfl, hd⟩)) q
  · exact slip_walk T TE TE.kNU hot hr ex (.inl rfl) rfl (.inr (.inr (.inr (.inl ⟨rfl, rfl, rfl, rfl, rfl, e, rfl⟩)))) q
/-- what is asked where slip is called with the exception at a -/
def slipTl (A : Ad) (a : Addr) (cls : Value) (d : Option Addr) : List V → Hp → VK → Prop := fun vs H Q => vs = [.ref a] ∧ ∃ es, ErrAt A H cls d es ∧ ∀ R H', Ex [] H H' → H' R = some (.lst (es.map V.str)) → Q (.ref R) H'
end
theorem sc__law_heard : FnScope ["_law_call_here", "_law_got", "_law_e"] ["_law_call_here"] (defScope s__law_heard) :=
  ⟨rfl, rfl, rfl, by decide +kernel, rfl, by decide +kernel, by decide +kernel⟩
theorem b__law_heard {K : PySem.W.Frag} {x q : Str} {f : Addr} {fd : FuncData} (F : Fun K x q s__law_heard f fd) : Binds K fd ["_law_call_here"] [] := F.binds (fun _ _ _ _ _ _ us hl => match us, hl with | [_], _ => rfl)
/-- the ends of the call -/
def dHeard (K : PySem.W.Frag) (Q : VK) : Ends := { nx := tRet (tLst (tCons (tC (.str "told")) (tCons (tCB (rRepr K) (tCons (tVar 1) tNil)) tNil))) { nx := fun _ H' => Q .non H', rt := Q }, rt := Q }
def xHeard (A : Ad) (K : PySem.W.Frag) (Q : VK) : XK := fun cls d H' => ∀ σ' : L2.St, σ'.length = 3 → wHeard K (.ref A.cWrongValue) (.ref A.cWrongName) (.ref A.cNoAnswer) (.type "KeyError") 2
  (fun a cls d => tRet fun σ H Q => tCons (tVar 2) tNil σ H fun vs H1 => vs.length = 1 ∧ slipTl A a cls d vs H1 Q) (fun _ _ _ => tRet (tLst (tCons (tC (.str "plain")) tNil))) (dHeard K Q) cls d σ' H'
def qHeard (K : PySem.W.Frag) (Q : VK) : VK := fun x H1 => (dHeard K Q).nx [none, some x, none] H1
def THeard (A : Ad) (K : PySem.W.Frag) : (XK → Hp → VK → Prop) → Hp → VK → Prop := fun tl H Q => tl (xHeard A K Q) H (qHeard K Q)
theorem qHeard_of {K : PySem.W.Frag} {Q : VK} {x : V} {H : Hp} {dt : PyData} (hd : Dp K H x dt) (h1 : dt.showable = true) (h2 : dt.hasDict = false) (h3 : dt.shown.length ≤ sizeLine) (h4 : dt.depth ≤ 40) (q : ∀ l H', Ex [] H H' → H l = none → H' l = some (.lst [.str "told", .str dt.shown]) → Q (.ref l) H') : qHeard K Q x H :=
  ⟨_, rfl, _, _, rfl, hd, h1, h2, h3, h4, by show 2 ≤ sizeLine; decide, fun l nl => q l _ (Ex.new0 nl) nl upd_same⟩
theorem xHeard_err {K : PySem.W.Frag} {mg : Str → Option Value} {A : Ad} (TE : TxE K mg A) {Q : VK} {cls : Value} {d : Option Addr} {H : Hp} {es : List Str} (he : ErrAt A H cls d es) (q : ∀ R H', Ex [] H H' → H' R = some (.lst (es.map V.str)) → Q (.ref R) H') : xHeard A K Q cls d H := by
  intro σ' hl
  have hex : PySem.W.exmAny K cls [.ref A.cWrongValue, .ref A.cWrongName, .ref A.cNoAnswer] = some true := by
    rcases he with ⟨_, _, _, _, rfl, _⟩ | ⟨_, _, _, _, rfl, _⟩ | ⟨_, _, _, _, rfl, _⟩ | ⟨_, _, _, _, rfl, _⟩ | ⟨_, rfl, _⟩
    · exact TE.kUN.ex
    · exact TE.kII.ex
    · exact TE.kBr.ex
    · exact TE.kIU.ex
    · exact TE.kNU.ex
  refine ⟨true, hex, fun _ a na => ?_, fun z => nomatch z⟩
  refine ⟨_, ?_, rfl, rfl, es, he, q⟩
  rw [List.getElem?_set_self (by omega)]
theorem xHeard_key {K : PySem.W.Frag} {mg : Str → Option Value} {A : Ad} (TE : TxE K mg A) {Q : VK} {d : Option Addr} {H : Hp} (q : ∀ l H', Ex [] H H' → H l = none → H' l = some (.lst [.str "plain"]) → Q (.ref l) H') : xHeard A K Q (.type "KeyError") d H := by
  intro σ' hl
  refine ⟨false, TE.keA, (fun z => nomatch z), fun _ => ⟨TE.keK, fun a na => ?_⟩⟩
  exact ⟨by show 1 ≤ sizeLine; decide, fun l nl => q l _ (Ex.new0 nl) nl upd_same⟩
theorem heard_to {X : Cx} {A : Ad} {g : Addr} {cdg : Value} {n : Nat} (T : Tx X.K X.mg) (TE : TxE X.K X.mg A) (hgd : Gd X.A) (hn : 3 ≤ n) : HearTo X n ["_law_call_here", "_law_got", "_law_e"] "_law_heard" (defScope s__law_heard) g cdg (defBody s__law_heard) "_law_call_here" (THeard A X.K) := by
  intro f s H Q tl hr hcall hT
  obtain ⟨fs, fds, ms, Fs⟩ := T.d__law_slip
  have hrh := L2H.roomH_of (hr.mono (j := 2) (by omega))
  refine ⟨_, pss_cons (ps_try_heard (i := 2) rfl rfl sc__law_heard.nd rfl rfl ⟨by rfl, by decide, .inl TE.gWV⟩ ⟨by rfl, by decide, .inl TE.gWN⟩ ⟨by rfl, by decide, .inl TE.gNA⟩ (c4 := .type "KeyError") ⟨by rfl, by decide, .inr ⟨T.m_KeyError, by decide +kernel, by decide⟩⟩
    (fun W pn xe tk _ => pss_one (ps_set (i := 1) sc__law_heard.nd rfl (.inl rfl) (hcall W pn xe (fun cls d H' => ∀ σ' : L2.St, σ'.length = 3 → W cls d σ' H') _ _ tk (fun _ _ σ' _ hl z => z σ' hl))))
    (fun a oe cls d pn hz hf => pss_one (ps_ret (pe_callSH (CX := C8.CX0) (k := 1) (E := E0) (p := (a, oe)) (tl := slipTl A a cls d) Fs sc__law_slip (b__law_slip Fs) ⟨hrh.dp, hrh.un⟩ List.mem_cons_self (by rfl) ms pass0 (pa_cons (pv 2) pa_nil)
      (fun cdv s H vs Q hr' hl htl => by
        obtain ⟨rfl, es, he, q⟩ := htl
        obtain ⟨vs, hv⟩ := hf
        exact slip_to T TE ⟨rfl, vs, hv, hz.2.2 vs hv⟩ hr' ⟨hz, vs, hv⟩ he q))))
    (fun a oe cls d pn hz hf => pss_one (ps_ret (pe_lst (pa_cons pe_str pa_nil)))))
    (pss_one (ps_ret (pe_lst (pa_cons pe_str (pa_cons (pe_callB (call_repr hgd hr.units) (by rfl) T.m_repr (by decide +kernel) (pa_cons (pv 1) pa_nil)) pa_nil))))), ?_⟩
  exact ⟨rfl, hT⟩
end G
-- Yd
set_option pp.maxSteps 800
set_option Elab.async false
set_option linter.all false
set_option maxRecDepth 100000
set_option maxHeartbeats 800000
namespace G
open PySem PySem.Spec PyProof.Rows L2 LamX NdefX
local macro_rules | `(tactic| walk_at "g") => `(tactic| repeat (first | refine ⟨_, rfl, ?_⟩ | refine ⟨_, _, rfl, ?_⟩ | refine ⟨_, _, _, rfl, ?_⟩ | refine ⟨_, _, rfl, rfl, ?_⟩ | refine ⟨rfl, ?_⟩))
local macro_rules | `(tactic| walk_at "w") => `(tactic| repeat (first | refine ⟨_, rfl, ?_⟩ | refine ⟨_, _, rfl, ?_⟩ | refine ⟨_, _, _, rfl, ?_⟩ | refine ⟨_, _, rfl, rfl, ?_⟩ | refine ⟨rfl, ?_⟩ | refine Or.inl ⟨_, rfl, ?_⟩ | refine ⟨_, _, rfl, .inr ⟨_, SqT.of (by assumption), rfl⟩, ?_⟩ | refine ⟨_, _, rfl, .inl ⟨_, SqL.of (by assumption), rfl⟩, ?_⟩ | refine ⟨_, _, _, _, rfl, rfl, SqT.of (by assumption), (by rfl), ?_⟩ | refine ⟨_, _, _, _, rfl, rfl, SqL.of (by assumption), (by rfl), ?_⟩ | refine ⟨_, _, _, _, rfl, rfl, SqL.of upd_same, (by rfl), ?_⟩ | refine ⟨_, _, _, _, rfl, rfl, (by assumption), (by rfl), ?_⟩ | refine ⟨_, _, _, _, rfl, rfl, upd_same, (by rfl), ?_⟩))
section
variable {P : Program} {w : World} {K : PySem.W.Frag} {mg : Str → Option Value} {base : Heap}
end
section
variable {X : Cx}
theorem strs_at {es : List Str} : ∀ {j : Nat} {its : List Value} {v : Value}, Vals (es.map V.str) its → its[j]? = some v → ∃ z t, es[j]? = some z ∧ v = .str z t := by
  intro j its v h hv
  have hl := h.length
  rw [List.length_map] at hl
  have hj : j < its.length := (List.getElem?_eq_some_iff.mp hv).1
  have hz : (es.map V.str)[j]? = some (.str es[j]) := by simp [show j < es.length by omega]
  obtain ⟨u, hu, ru⟩ := h.get hz
  rw [hv] at hu
  cases hu
  obtain ⟨t, rfl⟩ := ru
  exact ⟨es[j], t, by simp [show j < es.length by omega], rfl⟩
/-- ["..", ..] == the same; != -/
def rEqS (K : PySem.W.Frag) (r : Bool) : R2 := fun x y H Q => ∃ (a b : Addr) (es : List Str), x = .ref a ∧ y = .ref b ∧ SqL K H a (es.map V.str) ∧ SqL K H b (es.map V.str) ∧ Q (.bl r) H
theorem eqS_items {pins : List (Addr × Obj)} {σ : L2.St} {H : Hp} {s : Shared} {es : List Str} {i1 i2 : List Value} (r1 : Vals (es.map V.str) i1) (r2 : Vals (es.map V.str) i2) (A : Around) (j : Nat) (h1 : j < i1.toArray.size) (h2 : j < i2.toArray.size) : SeqAt.EqAt A s i1.toArray[j] i2.toArray[j] true := by
  simp only [List.size_toArray] at h1 h2
  obtain ⟨z, t, e1, e2⟩ := strs_at (j := j) (v := i1[j]) r1 (by simp [h1])
  obtain ⟨z2, t2, e3, e4⟩ := strs_at (j := j) (v := i2[j]) r2 (by simp [h2])
  rw [e1] at e3
  cases e3
  simp only [List.getElem_toArray]
  rw [e2, e4]
  have e := SeqAt.EqAt.str_str (A := A) (s := s) z t z t2
  rw [beq_self_eq_true] at e
  exact e
theorem op_eqS (hu : X.A.units < cLine) : OpR X (compareOp .Eq) (rEqS X.K true) := by
  intro pins s σ H x y v u Q I rx ry h
  obtain ⟨a, b, es, rfl, rfl, h1, h2, q⟩ := h
  obtain rfl : v = Value.ref a := rx
  obtain rfl : u = Value.ref b := ry
  obtain ⟨i1, r1, p1, _⟩ := I.list h1
  obtain ⟨i2, r2, p2, _⟩ := I.list h2
  refine SeqAt.eq_listAt (e := fun _ => true) p1.isList p2.isList (by simp only [List.size_toArray]; rw [← r1.length, ← r2.length]) hu (fun j h1 h2 => eqS_items (pins := pins) (σ := σ) (H := H) r1 r2 _ j h1 h2) (fin_bl I q (by simp))
theorem op_neS (hu : X.A.units < cLine) : OpR X (compareOp .NotEq) (rEqS X.K false) := by
  intro pins s σ H x y v u Q I rx ry h
  obtain ⟨a, b, es, rfl, rfl, h1, h2, q⟩ := h
  obtain rfl : v = Value.ref a := rx
  obtain rfl : u = Value.ref b := ry
  obtain ⟨i1, r1, p1, _⟩ := I.list h1
  obtain ⟨i2, r2, p2, _⟩ := I.list h2
  refine SeqAt.RcNeAt.lists (e := fun _ => true) p1.isList p2.isList (by simp only [List.size_toArray]; rw [← r1.length, ← r2.length]) hu (fun j h1 h2 => eqS_items (pins := pins) (σ := σ) (H := H) r1 r2 _ j h1 h2) X.prog X.w _ _ (fin_bl I q (by simp))
end
/-! ### the tables -/
section
variable {PT PR : Addr} {q1 q2 q3 : Str} {H H1 : Hp}
theorem Tab1.some {H : Hp} {P : Addr} {q : Str} {φ : Addr → Prop} (t : Tab1 H P q φ) : H P ≠ none := by
  obtain ⟨ps, h, _⟩ := t
  rw [h]
  exact fun z => nomatch z
theorem tinv_turn {φ : Addr → Prop} {pos : Pos} {c' P' : Addr} (T : TInv PT PR q1 q2 q3 H) (ne : PT ≠ PR) (g : Grew H PT q1 φ pos c' P' H1) : TInv PT PR q1 q2 q3 H1 := by
  rcases g with ⟨e, _, _⟩ | ⟨o, ps, hP, nC, nT, n, z, e⟩
  · rw [e]
    exact T
  · rw [e]
    refine ⟨grown_own hP nC nT n T.t z (fun _ h => h) ⟨fun y => T.t.some (by rw [← y]; exact nT), fun y => T.r.some (by rw [← y]; exact nT)⟩, ?_⟩
    exact grown_tab hP nC nT n T.r (Ne.symm ne) fun P ⟨a, b, c⟩ => ⟨a, b, grown_tab hP nC nT n c a fun _ h => h⟩
theorem tinv_tried {pos : Pos} {c' P' : Addr} (T : TInv PT PR q1 q2 q3 H) (ne : PT ≠ PR) (g : Grew H PR q2 (fun P => P ≠ PT ∧ P ≠ PR ∧ Tab1 H P q3 fun _ => True) pos c' P' H1) : TInv PT PR q1 q2 q3 H1 ∧ P' ≠ PT ∧ P' ≠ PR ∧ Tab1 H1 P' q3 fun _ => True := by
  rcases g with ⟨e, h, _⟩ | ⟨o, ps, hP, nC, nT, n, z, e⟩
  · rw [e]
    exact ⟨T, h⟩
  · rw [e]
    have hn : P' ≠ PT ∧ P' ≠ PR ∧ Tab1 (grown H PR c' P' o (ps ++ #[rawInt pos.line, rawInt pos.col, .ref c'])) P' q3 fun _ => True := ⟨fun y => T.t.some (by rw [← y]; exact nT), fun y => T.r.some (by rw [← y]; exact nT), Tab1.nil (grown_at hP nC nT n).2.1⟩
    refine ⟨⟨grown_tab hP nC nT n T.t ne fun _ h => h, ?_⟩, hn⟩
    exact grown_own hP nC nT n T.r z (fun P ⟨a, b, c⟩ => ⟨a, b, grown_tab hP nC nT n c b fun _ h => h⟩) hn
theorem tinv_in {pos : Pos} {P3 c' P' : Addr} (T : TInv PT PR q1 q2 q3 H) (n1 : P3 ≠ PT) (n2 : P3 ≠ PR) (t3 : Tab1 H P3 q3 fun _ => True) (g : Grew H P3 q3 (fun _ => True) pos c' P' H1) : TInv PT PR q1 q2 q3 H1 := by
  rcases g with ⟨e, h, _⟩ | ⟨o, ps, hP, nC, nT, n, z, e⟩
  · rw [e]
    exact T
  · rw [e]
    refine ⟨grown_tab hP nC nT n T.t (Ne.symm n1) fun _ h => h, grown_tab hP nC nT n T.r (Ne.symm n2) fun P ⟨a, b, c⟩ => ⟨a, b, ?_⟩⟩
    by_cases y : P = P3
    · subst y
      exact grown_own hP nC nT n t3 z (fun _ h => h) trivial
    · exact grown_tab hP nC nT n c y fun _ h => h
theorem Ex.ext0 {Ms : List Addr} (s : SoftL Ms H) (x : Ex Ms H H1) : Ext0 H H1 := ⟨fun c o e => x c _ (fun z => by
  rcases s c z with ⟨xs, h⟩ | ⟨C, dx, fs, h⟩ <;> rw [h] at e <;> cases e) e, fun P ps e => x P _ (fun z => by
  rcases s P z with ⟨xs, h⟩ | ⟨C, dx, fs, h⟩ <;> rw [h] at e <;> cases e) e⟩
theorem TInv.ex {Ms : List Addr} (T : TInv PT PR q1 q2 q3 H) (s : SoftL Ms H) (x : Ex Ms H H1) : TInv PT PR q1 q2 q3 H1 := T.ext (x.ext0 s)
end
/-! ### what the law's turns promise -/
def PagesAt (H : Hp) (gs : List Addr) (ps : List Page) : Prop := Paired (fun g p => PageAt H g p) gs ps
theorem PagesAt.soft {Ms : List Addr} {H H' : Hp} {gs : List Addr} {ps : List Page} (h : PagesAt H gs ps) (s : Soft Ms H) (x : ExT Ms H H') : PagesAt H' gs ps := Paired.mapP h fun _ _ z => z.soft s x
theorem PagesAt.len {H : Hp} {gs : List Addr} {ps : List Page} (h : PagesAt H gs ps) : gs.length = ps.length := Paired.length h
theorem PagesAt.snoc {H : Hp} {g : Addr} {p : Page} (e : PageAt H g p) : ∀ {gs : List Addr} {ps : List Page}, PagesAt H gs ps → PagesAt H (gs ++ [g]) (ps ++ [p])
  | _, _, .nil => .cons e .nil
  | _, _, .cons a r => .cons a (PagesAt.snoc e r)
/-- good pages, at most n and of at most n wishes -/
structure PgOk (n : Nat) (ps : List Page) : Prop where
  len : ps.length ≤ n
  ok : ∀ p ∈ ps, p.Ok ∧ p.2.length ≤ n
abbrev qTurn : Str := ("_law_turn" : Str) ++ ".<locals>." ++ "<lambda>"
abbrev qOut : Str := ("_law_tried" : Str) ++ ".<locals>." ++ "<lambda>"
abbrev qIn : Str := qOut ++ ".<locals>." ++ "<lambda>"
abbrev TI (PT PR : Addr) (H : Hp) : Prop := TInv PT PR qTurn qOut qIn H
/-- the law's state: the jug, the book, its pages, the tables -/
structure Here (A : Ad) (PT PR : Addr) (H : Hp) (j b dx l : Addr) (gs : List Addr) (hist : List Page) (cur : Page) (n : Nat) : Prop where
  j : JugAt H j
  b : BookAt A H b dx hist cur
  l : H l = some (.lst (gs.map V.ref))
  g : PagesAt H gs (hist ++ [cur])
  ok : PgOk n (hist ++ [cur])
  t : TI PT PR H
def spTurn (A : Ad) (PT PR : Addr) (d : Nat) : Sp := fun vs H Q _ => ∃ j b dx l gs hist cur n, vs = [.ref j, .ref b, .ref l, .int (d : Nat)] ∧ Here A PT PR H j b dx l gs hist cur n ∧ n + 10 * d ≤ 500 ∧ d ≤ 10 ∧
  ∀ l' gs' hist' cur' H', ExT [j, b] H H' → Here A PT PR H' j b dx l' gs' hist' cur' (n + 1) → Q (.ref l') H'
def spTried (A : Ad) (PT PR : Addr) (d : Nat) : Sp := fun vs H Q _ => ∃ j b dx l gs hist cur n, vs = [.ref j, .ref b, .ref l, .int (d : Nat)] ∧ Here A PT PR H j b dx l gs hist cur n ∧ n + 10 * d ≤ 500 ∧ d ≤ 10 ∧
  ∀ H', ExT [j, b] H H' → Here A PT PR H' j b dx l gs hist cur n → Q (.ref l) H'
/-- what a def does whose code object is at c, its table tracked -/
def DfT (K : PySem.W.Frag) (mg : Str → Option Value) (base : Heap) (x : Str) (st : Stmt) (P : Addr) : Prop := ∃ f fd c, mg x = some (.ref f) ∧ Fun K x x st f fd ∧ fd.code = .ref c ∧ TabB base mg c P
structure TxL (K : PySem.W.Frag) (mg : Str → Option Value) (base : Heap) (PT PR : Addr) : Prop where
  turn : DfT K mg base "_law_turn" s__law_turn PT
  tried : DfT K mg base "_law_tried" s__law_tried PR
  ne : PT ≠ PR
theorem canGT {P : Program} {w : World} {K : PySem.W.Frag} {mg : Str → Option Value} {base : Heap} {x : Str} {st : Stmt} {N ps : List Str} {k : Nat} {sp : Sp} {PT : Addr} (D : DfT K mg base x st PT) (S : FnScope N ps (defScope st)) (hb : ∀ {f fd}, Fun K x x st f fd → Binds K fd ps []) (len : ∀ vs H Q E, sp vs H Q E → vs.length = ps.length)
    (hbody : ∀ (f c : Addr) (A : Around) (outer : List Env) (s : Shared) (H : Hp) (vs : List V) (Q : VK) (E : XK), Room k (A.deeper (envOfC x (defScope st) s.heap.objs.size f (.ref c))) → Gd (A.deeper (envOfC x (defScope st) s.heap.objs.size f (.ref c))) → TabB base mg c PT → sp vs H Q E →
      ∃ t, PSs (cxOf CX0 P w K mg base N x (defScope st) f (.ref c) A outer s H E).nox (defBody st) t ∧ t { nx := fun _ H' => Q .non H', rt := Q } (L2.start N vs) H) : CanG P w K mg base CX0 (k + 1) x ps sp := by
  obtain ⟨f, fd, c, hm, F, hc, tb⟩ := D
  refine ⟨f, fd, hm, F.kp, ?_, hb F⟩
  obtain ⟨oc, od, kV, doc, pm, an, cdv, ct, osl, rfl, lk, hcd⟩ := F.ex
  obtain rfl : cdv = .ref c := hc
  exact ⟨len, fun A outer s H args us vs Q E hr hg e0 hb r hsp => run_ofS lk hcd S hr e0 hb r (len _ _ _ _ hsp) fun hr' => let ⟨t, h, q⟩ := hbody f c A outer s H vs Q E hr' (hg.deeper _) tb hsp; ⟨t, h.nox, q⟩⟩
end G
-- Ye
set_option pp.maxSteps 800
set_option Elab.async false
set_option linter.all false
set_option maxRecDepth 100000
set_option maxHeartbeats 800000
namespace G
open PySem PySem.Spec PyProof.Rows L2 LamX NdefX
local macro_rules | `(tactic| walk_at "g") => `(tactic| repeat (first | refine ⟨_, rfl, ?_⟩ | refine ⟨_, _, rfl, ?_⟩ | refine ⟨_, _, _, rfl, ?_⟩ | refine ⟨_, _, rfl, rfl, ?_⟩ | refine ⟨rfl, ?_⟩))
local macro_rules | `(tactic| walk_at "w") => `(tactic| repeat (first | refine ⟨_, rfl, ?_⟩ | refine ⟨_, _, rfl, ?_⟩ | refine ⟨_, _, _, rfl, ?_⟩ | refine ⟨_, _, rfl, rfl, ?_⟩ | refine ⟨rfl, ?_⟩ | refine Or.inl ⟨_, rfl, ?_⟩ | refine ⟨_, _, rfl, .inr ⟨_, SqT.of (by assumption), rfl⟩, ?_⟩ | refine ⟨_, _, rfl, .inl ⟨_, SqL.of (by assumption), rfl⟩, ?_⟩ | refine ⟨_, _, _, _, rfl, rfl, SqT.of (by assumption), (by rfl), ?_⟩ | refine ⟨_, _, _, _, rfl, rfl, SqL.of (by assumption), (by rfl), ?_⟩ | refine ⟨_, _, _, _, rfl, rfl, SqL.of upd_same, (by rfl), ?_⟩ | refine ⟨_, _, _, _, rfl, rfl, (by assumption), (by rfl), ?_⟩ | refine ⟨_, _, _, _, rfl, rfl, upd_same, (by rfl), ?_⟩))
section
variable {P : Program} {w : World} {K : PySem.W.Frag} {mg : Str → Option Value} {base : Heap}
end
section
variable {A : Ad} {PT PR : Addr} {H H' : Hp} {j b dx l : Addr} {gs : List Addr} {hist : List Page} {cur : Page} {n : Nat}
theorem Here.soft {Ms : List Addr} (h : Here A PT PR H j b dx l gs hist cur n) (s : Soft Ms H) (x : ExT Ms H H') (hj : JugAt H' j) (hb : BookAt A H' b dx hist cur) (ht : TI PT PR H') : Here A PT PR H' j b dx l gs hist cur n :=
  ⟨hj, hb, s.lst x (noJug_refs gs) h.l, h.g.soft s x, h.ok, ht⟩
theorem Here.bj (h : Here A PT PR H j b dx l gs hist cur n) : b ≠ j := fun z => by
  obtain ⟨nd, mt, pt, hb, _⟩ := h.b
  obtain ⟨d, m, c, hj⟩ := h.j
  rw [z, hj] at hb
  cases hb
theorem Here.jug (h : Here A PT PR H j b dx l gs hist cur n) (x : Ex [j] H H') (hj : JugAt H' j) : Here A PT PR H' j b dx l gs hist cur n :=
  h.soft (Soft.jug h.j) x.t hj (h.b.softL (Soft.jug h.j).l x.t (by simpa using h.bj)) (h.t.ex (Soft.jug h.j).l x)
theorem Here.ex (h : Here A PT PR H j b dx l gs hist cur n) (x : Ex [] H H') : Here A PT PR H' j b dx l gs hist cur n := h.jug x.sub (by
  obtain ⟨d, m, c, hj⟩ := h.j
  exact ⟨d, m, c, x _ _ (by simp) hj⟩)
theorem JugAt.ext (hj : JugAt H j) (x : ExT [] H H') : JugAt H' j := by
  obtain ⟨d, m, c, hj⟩ := hj
  exact ⟨d, m, c, x _ _ (by simp) (fun ps z => by cases z) hj⟩
theorem Here.tab {φ : Addr → Prop} {pos : Pos} {c' P' : Addr} (h : Here A PT PR H j b dx l gs hist cur n) (ne : PT ≠ PR) (g : Grew H PT qTurn φ pos c' P' H') : Here A PT PR H' j b dx l gs hist cur n :=
  have x : ExT [] H H' := ExT.ofN g.ext
  h.soft Soft.nil x (h.j.ext x) (h.b.softL SoftL.nil x (by simp)) (tinv_turn h.t ne g)
theorem PastAt.last {p : Page} : ∀ {hist : List Page} {qs : List Addr}, PastAt H qs (hist ++ [p]) → ∃ qs0 q0 nd mt, qs = qs0 ++ [q0] ∧ PastAt H qs0 hist ∧ H q0 = some (.tup [.ref nd, .ref mt]) ∧ StateAt H nd mt p
  | [], _, .cons ⟨nd, mt, h1, h2⟩ .nil => ⟨[], _, nd, mt, rfl, .nil, h1, h2⟩
  | _ :: _, _, .cons a r => by
    obtain ⟨qs0, q0, nd, mt, e, h1, h2, h3⟩ := PastAt.last r
    exact ⟨_ :: qs0, q0, nd, mt, by rw [e]; rfl, .cons a h1, h2, h3⟩
theorem PgOk.mono {ps : List Page} (h : PgOk n ps) : PgOk (n + 1) ps := ⟨by have := h.len; omega, fun p hp => ⟨(h.ok p hp).1, by have := (h.ok p hp).2; omega⟩⟩
theorem PgOk.front {ps : List Page} {p : Page} (h : PgOk n (ps ++ [p])) : PgOk (n + 1) ps := ⟨by have := h.len; rw [List.length_append] at this; omega, fun x hx => by
  have := h.ok x (List.mem_append_left _ hx)
  exact ⟨this.1, by have := this.2; omega⟩⟩
theorem PagesAt.last {H : Hp} {p : Page} : ∀ {ps : List Page} {gs : List Addr}, PagesAt H gs (ps ++ [p]) → ∃ gs0 g, gs = gs0 ++ [g] ∧ PagesAt H gs0 ps ∧ PageAt H g p
  | [], _, .cons a .nil => ⟨[], _, rfl, .nil, a⟩
  | _ :: _, _, .cons a r => by
    obtain ⟨gs0, g, e, h1, h2⟩ := PagesAt.last r
    exact ⟨_ :: gs0, g, by rw [e]; rfl, .cons a h1, h2⟩
theorem PagesAt.front {H : Hp} {p : Page} {ps : List Page} {gs : List Addr} (h : PagesAt H gs (ps ++ [p])) : PagesAt H (gs.take (gs.length - 1)) ps := by
  obtain ⟨gs0, g, e, h1, h2⟩ := h.last
  subst e
  simpa using h1
theorem atI_last {gs0 : List Addr} {g : Addr} : atI ((gs0 ++ [g]).map V.ref) (-1) = some (.ref g) := by
  unfold atI ixN
  rw [if_neg (by decide), if_pos (by simp; omega)]
  show ((gs0 ++ [g]).map V.ref)[(-1 + ((((gs0 ++ [g]).map V.ref).length : Nat) : Int)).toNat]? = _
  rw [List.length_map, List.length_append, show (-1 + (((gs0.length + [g].length : Nat)) : Int)).toNat = gs0.length by simp; omega]
  simp
theorem if_else {p : Bool} {A B : Prop} (h : p = true → B → A) (b : B) : if p = true then A else B := by
  cases p
  · exact b
  · exact h rfl b
theorem DeedAt.title {H : Hp} {p : Addr} {t : Str} {sg : Int} {r : M.Row} (h : DeedAt H p (.put t sg r)) : Title t := by
  obtain ⟨a, _, ht, _⟩ := h
  exact ht
theorem behind_err {p : Page} {d : Deed} (h : (behind p d).1 ≠ []) : (behind p d).2 = p := by
  cases d with
  | lift k =>
    by_cases hk : k < p.2.length
    · rw [behind_lift1 hk] at h
      exact absurd rfl h
    · rw [behind_lift2 hk]
  | drop t =>
    cases hg : getS p.1 t with
    | none => rw [behind_drop0 hg]
    | some v =>
      cases hf : fst (notIn t) p.2 with
      | some i => rw [behind_drop1 hg hf]
      | none =>
        rw [behind_drop2 hg hf] at h
        exact absurd rfl h
  | wish w =>
    cases hb : brk p.1 (p.2 ++ [w]) with
    | some i => rw [behind_wish1 hb]
    | none =>
      rw [behind_wish2 hb] at h
      exact absurd rfl h
  | put t sg r =>
    cases hb : brk (putS p.1 t (sg, r)) p.2 with
    | some i => rw [behind_put1 hb]
    | none =>
      rw [behind_put2 hb] at h
      exact absurd rfl h
theorem behind_len (p : Page) (d : Deed) : ((behind p d).2).2.length ≤ p.2.length + 1 := by
  by_cases h : (behind p d).1 = []
  · cases d with
    | lift k =>
      by_cases hk : k < p.2.length
      · rw [behind_lift1 hk]
        show (p.2.take k ++ p.2.drop (k + 1)).length ≤ _
        rw [List.length_append, List.length_take, List.length_drop]
        omega
      · rw [behind_lift2 hk]
        exact Nat.le_succ _
    | drop t =>
      cases hg : getS p.1 t with
      | none =>
        rw [behind_drop0 hg]
        exact Nat.le_succ _
      | some v =>
        cases hf : fst (notIn t) p.2 with
        | some i =>
          rw [behind_drop1 hg hf]
          exact Nat.le_succ _
        | none =>
          rw [behind_drop2 hg hf]
          exact Nat.le_succ _
    | wish w =>
      cases hb : brk p.1 (p.2 ++ [w]) with
      | some i =>
        rw [behind_wish1 hb]
        exact Nat.le_succ _
      | none =>
        rw [behind_wish2 hb]
        show (p.2 ++ [w]).length ≤ _
        rw [List.length_append]
        exact Nat.le_refl _
    | put t sg r =>
      cases hb : brk (putS p.1 t (sg, r)) p.2 with
      | some i =>
        rw [behind_put1 hb]
        exact Nat.le_succ _
      | none =>
        rw [behind_put2 hb]
        exact Nat.le_succ _
  · rw [behind_err h]
    exact Nat.le_succ _
theorem cut_takeR {ps : List Addr} {k : Nat} : cutV (ps.map V.ref) none (some (k : Int)) = (ps.take k).map V.ref := by
  unfold cutV
  rw [HT.sIx_none, HT.sIx_nat, List.drop_zero, Nat.sub_zero, List.map_take, List.length_map]
  rcases Nat.le_total k ps.length with h | h
  · rw [Nat.min_eq_left h]
  · rw [Nat.min_eq_right h, List.take_of_length_le (by simp), List.take_of_length_le (by simpa using h)]
theorem undo_at {Q : VK} {E : XK} (hbk : BookAt A H b dx hist cur) (hl : hist.length ≤ 1000) (h0 : hist = [] → ∀ H1, Ex [] H H1 → E (.ref A.cNothingToUndo) none H1)
    (h1 : ∀ hist0 p0, hist = hist0 ++ [p0] → ∀ H', Ex [b] H H' → BookAt A H' b dx hist0 p0 → Q .non H') : spUndo A [.ref b] H Q E := by
  obtain ⟨nd, mt, pt, hb, qs, hpt, hst, hpast⟩ := hbk
  have hql := hpast.len
  rcases List.eq_nil_or_concat hist with e | ⟨hist0, p0, e⟩
  · subst e
    refine ⟨b, dx, nd, mt, pt, qs, rfl, hb, hpt, by omega, fun _ => h0 rfl, fun qs0 q0 nd0 mt0 e => ?_, fun e => ?_⟩
    · rw [e] at hql
      simp at hql
    · exact absurd (List.length_eq_zero_iff.mp hql) e
  · rw [List.concat_eq_append] at e
    subst e
    obtain ⟨qs0, q0, nd0, mt0, e, k1, k2, k3⟩ := hpast.last
    refine ⟨b, dx, nd, mt, pt, qs, rfl, hb, hpt, by omega, fun e2 => ?_, fun qs1 q1 nd1 mt1 e1 hq1 pt' H2 hx hb2 hpt2 => ?_, fun _ => ⟨qs0, q0, nd0, mt0, e, k2⟩⟩
    · rw [e2] at e
      simp at e
    · rw [e] at e1
      obtain ⟨e3, e4⟩ := List.append_inj' e1 rfl
      cases e4
      subst e3
      rw [k2] at hq1
      cases hq1
      have s : SoftL [b] H := SoftL.cons (.inr ⟨_, _, _, hb⟩) SoftL.nil
      exact h1 hist0 p0 rfl H2 hx ⟨nd0, mt0, pt', hb2, qs0, hpt2, k3.softL s hx.t, k1.softL s hx.t⟩
end
section
variable {P : Program} {w : World} {K : PySem.W.Frag} {mg : Str → Option Value} {base : Heap} {A : Ad} {PT PR : Addr}
theorem sc__law_turn : FnScope ["_law_jug_here", "_law_book_here", "_law_pages", "_law_deep", "_law_way", "_law_due", "_law_told", "_law_deed", "_law_later"] ["_law_jug_here", "_law_book_here", "_law_pages", "_law_deep"] (defScope s__law_turn) :=
  ⟨rfl, rfl, rfl, by decide +kernel, rfl, by decide +kernel, by decide +kernel⟩
theorem b__law_turn {K : PySem.W.Frag} {x q : Str} {f : Addr} {fd : FuncData} (F : Fun K x q s__law_turn f fd) : Binds K fd ["_law_jug_here", "_law_book_here", "_law_pages", "_law_deep"] [] := F.binds (fun _ _ _ _ _ _ us hl => match us, hl with | [_, _, _, _], _ => rfl)
theorem w__law_turn (T : Tx K mg) (TF : TxF K mg w) (B : TxB K mg A) (O : Exs P w K mg base A) (TE : TxE K mg A) (TL : TxL K mg base PT PR) (d k : Nat) (hk : 15 ≤ k)
    (c__law_tried : CanG P w K mg base CX0 k "_law_tried" ["_law_jug_here", "_law_book_here", "_law_pages", "_law_deep"] fun vs H Q E => 0 < d ∧ spTried A PT PR d vs H Q E) :
    CanG P w K mg base CX0 (k + 1) "_law_turn" ["_law_jug_here", "_law_book_here", "_law_pages", "_law_deep"] (spTurn A PT PR d) := by
  have c_undo := w_undo (P := P) (w := w) (base := base) B O
  have c__law_done := w__law_done T TF B O
  have c__law_pull := w__law_pull (P := P) (w := w) (base := base) T
  have c__law_new_deed := w__law_new_deed (P := P) (w := w) (base := base) T
  have c__law_behind := w__law_behind (P := P) (w := w) (base := base) T
  obtain ⟨gh, fdh, mh, Fh⟩ := id T.d__law_heard
  refine canGT TL.turn sc__law_turn b__law_turn (fun vs H Q E ⟨j, _, _, _, _, _, _, _, e, _⟩ => by rw [e]; rfl) fun f c Ar outer s H vs Q E hr hgd tb ⟨j, b, dx, l, gs, hist, cur, n, ev, hH, hn, hd, q⟩ => ?_
  subst ev
  have hr13 : Room 15 _ := hr.mono hk
  refine ⟨_, (pss_cons (ps_set (i := 4) sc__law_turn.nd rfl (Or.inl rfl) (pe_can c__law_pull (hr.mono (by omega)) (by rfl) pass0 (pa_cons (pv 0) (pa_cons pe_int pa_nil))))
    (pss_cons (ps_if (pt_cmpR op_eq (pv 4) pe_int (nomark _)) (pss_cons (ps_set (i := 5) sc__law_turn.nd rfl (Or.inl rfl) (pe_ifExp (pt_cmpR op_gt (pe_callB call_len (by rfl) T.m_len (by decide +kernel) (pa_cons (pv 2) pa_nil)) pe_int (nomark _)) (pe_lst (pa_cons pe_str (pa_cons pe_str pa_nil))) (pe_lst (pa_cons pe_str pa_nil))))
    (pss_cons (ps_set (i := 6) sc__law_turn.nd rfl (Or.inl rfl) (pe_heard (N := ["_law_book_here"]) (fr := ["_law_book_here"]) (js := [1]) (k := 13) (φ := fun P => P ≠ PT ∧ P ≠ PR) (by rfl) mh Fh (b__law_heard Fh) sc__law_heard rfl (.inl rfl) (fun _ => heard_to T TE hgd (by decide)) tb.bm rfl tb.code rfl (nscope_by (by decide +kernel)) (by show ndefB (defScope s__law_turn) _ _ = true; decide +kernel) rfl hr13 hgd rfl (fun _ _ _ _ _ => rfl)
      (fun A2 outer2 s2 H2 E2 f2 c2 P2 cl ws hr2 hgd2 L => pe_canM0 (pv 0) B.clB c_undo (hr2.mono (by decide)) (L2N.passes_call (E := E2) (L2N.takes_of rfl rfl rfl rfl) (fun _ _ _ _ h => h)))))
    (pss_one (ps_ret (pe_ifExp (pt_cmpR (op_eqS hr.units0) (pv 6) (pv 5) (nomark _)) (pe_slice sl_list (pv 2) po_none (po_some (pe_callB (call_max2 rfl) (by rfl) T.m_max (by decide +kernel) (pa_cons pe_int (pa_cons (pe_op op_sub (pe_callB call_len (by rfl) T.m_len (by decide +kernel) (pa_cons (pv 2) pa_nil)) pe_int) pa_nil))))) (pe_lst pa_nil)))))) pss_nil)
    (pss_cons (ps_if (PW.pt (pw_and (pt_cmpR op_lt (pv 4) pe_int (nomark _)) (pw_and1 (pt_cmpR op_gt (pv 3) pe_int (nomark _))))) (pss_one (ps_ret (pe_canG c__law_tried hr hgd (by rfl) pass0 (pa_cons (pv 0) (pa_cons (pv 1) (pa_cons (pv 2) (pa_cons (pv 3) pa_nil))))))) pss_nil)
    (pss_cons (ps_set (i := 7) sc__law_turn.nd rfl (Or.inr rfl) (pe_can c__law_new_deed (hr.mono (by omega)) (by rfl) pass0 (pa_cons (pv 0) (pa_cons (pe_ix ix_list (pv 2) (pe_un un_neg pe_int) (fun _ _ => rfl)) pa_nil))))
    (pss_cons (ps_asg (pe_can c__law_behind (hr.mono (by omega)) (by rfl) pass0 (pa_cons (pe_ix ix_list (pv 2) (pe_un un_neg pe_int) (fun _ _ => rfl)) (pa_cons (pv 7) pa_nil))) (pg_tup (by rfl) (pgs_cons (pg_name (i := 5) sc__law_turn.nd rfl (Or.inl rfl)) (pgs_cons (pg_name (i := 8) sc__law_turn.nd rfl (Or.inl rfl)) pgs_nil))))
    (pss_cons (ps_if (pt_cmpR (op_neS hr.units0) (pe_heard (N := ["_law_book_here", "_law_deed"]) (fr := ["_law_book_here", "_law_deed"]) (js := [1, 7]) (k := 13) (φ := fun P => P ≠ PT ∧ P ≠ PR) (by rfl) mh Fh (b__law_heard Fh) sc__law_heard rfl (.inl rfl) (fun _ => heard_to T TE hgd (by decide)) tb.bm rfl tb.code rfl (nscope_by (by decide +kernel)) (by show ndefB (defScope s__law_turn) _ _ = true; decide +kernel) rfl hr13 hgd rfl (fun _ _ _ _ _ => rfl)
      (fun A2 outer2 s2 H2 E2 f2 c2 P2 cl ws hr2 hgd2 L => pe_can c__law_done hr2 (by rfl) (L2N.passes_call (E := E2) (L2N.takes_of rfl rfl rfl rfl) (fun _ _ _ _ h => h)) (pa_cons (pv 0) (pa_cons (pv 1) pa_nil)))) (pe_ifExp (pt_cmpR (op_neE hr.units0) (pv 5) (pe_lst pa_nil) (nomark _)) (pv 5) (pe_lst (pa_cons pe_str (pa_cons pe_str pa_nil)))) (nomark _)) (pss_one (ps_ret (pe_lst pa_nil))) pss_nil)
    (pss_one (ps_ret (pe_op op_cat (pv 2) (pe_ifExp (pt_cmpR (op_eqE hr.units0) (pv 5) (pe_lst pa_nil) (nomark _)) (pe_lst (pa_cons (pv 8) pa_nil)) (pe_lst pa_nil))))))))))), ?_⟩
  refine ⟨_, rfl, j, 6, rfl, hH.j, by decide, by decide, fun way H1 hway hx1 hj1 => ?_⟩
  walk_at "g"
  have hH1 := hH.jug hx1 hj1
  have hlen := hH.ok.len
  rw [List.length_append, List.length_singleton] at hlen
  have hgl := hH.g.len
  rw [List.length_append, List.length_singleton] at hgl
  refine ite2 (fun cw => ?_) fun cw => ?_
  · refine ⟨_, rfl, _, _, rfl, .inl ⟨_, SqL.of hH1.l, rfl⟩, _, _, rfl, rfl, _, rfl, ?_⟩
    rw [List.length_map]
    rcases List.eq_nil_or_concat hist with e | ⟨hist0, p0, e⟩
    · subst e
      have hgl : gs.length = 1 := hgl
      refine ite2 (fun c => absurd (dT c) (by omega)) fun _ => ?_
      refine ⟨by show 1 ≤ sizeLine; decide, fun du ndu => ?_⟩
      have hH2 := hH1.ex (Ex.new0 (o := .lst ([("NothingToUndo" : Str)].map V.str)) ndu)
      refine ⟨hH2.t.t, fun c' P' H3 gr => ?_⟩
      have hH3 := hH2.tab TL.ne gr
      have hx23 : ExT [] H1 H3 := (Ex.new0 ndu).t.trans (ExT.ofN gr.ext)
      have hdu3 : H3 du = some (.lst ([("NothingToUndo" : Str)].map V.str)) := gr.ext du _ upd_same (fun ps z => by cases z)
      obtain ⟨nd, mt, pt, hb3, _⟩ := id hH3.b
      refine ⟨_, rfl, b, dx, _, rfl, hb3, rfl, ?_⟩
      refine undo_at hH3.b (by show 0 ≤ 1000; decide) (fun _ H4 hx4 => ?_) (fun hist1 p1 e1 => absurd e1 (by simp))
      refine xHeard_err TE (es := [("NothingToUndo" : Str)]) (.inr (.inr (.inr (.inr ⟨rfl, rfl, rfl⟩)))) fun R H5 hx5 hR => ?_
      have hx35 := hx4.trans hx5
      have hH5 := hH3.ex hx35
      refine ⟨_, rfl, _, rfl, R, du, [("NothingToUndo" : Str)], rfl, rfl, SqL.of hR, SqL.of (hx35 _ _ (by simp) hdu3), _, rfl, ?_⟩
      refine ⟨_, rfl, _, rfl, _, _, rfl, .inl ⟨_, SqL.of hH5.l, rfl⟩, _, _, rfl, rfl, _, _, rfl, _, rfl, ?_⟩
      refine ⟨_, _, rfl, SqL.of hH5.l, fun l1 nl1 => ?_⟩
      rw [List.length_map, hgl, if_neg (by decide), show (1 : Int) = ((1 : Nat) : Int) from rfl, cut_takeR, List.take_of_length_le (by omega)]
      have hH6 := hH5.ex (Ex.new0 (o := .lst (gs.map V.ref)) nl1)
      exact q l1 gs [] cur _ (((hx1.t.trans (hx23.mono (by simp))).trans (hx35.t.mono (by simp))).trans (Ex.new0 nl1).t |>.mono (by simp)) ⟨hH6.j, hH6.b, upd_same, hH6.g, hH6.ok.mono, hH6.t⟩
    · rw [List.concat_eq_append] at e
      subst e
      have hgl2 : gs.length ≥ 2 := by rw [hgl]; simp
      refine ite2 (fun _ => ?_) fun c => absurd (decide_eq_true (by omega)) c
      refine ⟨by show 2 ≤ sizeLine; decide, fun du ndu => ?_⟩
      have hH2 := hH1.ex (Ex.new0 (o := .lst ([("told" : Str), ("None" : Str)].map V.str)) ndu)
      refine ⟨hH2.t.t, fun c' P' H3 gr => ?_⟩
      have hH3 := hH2.tab TL.ne gr
      have hx23 : ExT [] H1 H3 := (Ex.new0 ndu).t.trans (ExT.ofN gr.ext)
      have hdu3 : H3 du = some (.lst ([("told" : Str), ("None" : Str)].map V.str)) := gr.ext du _ upd_same (fun ps z => by cases z)
      obtain ⟨nd, mt, pt, hb3, _⟩ := id hH3.b
      refine ⟨_, rfl, b, dx, _, rfl, hb3, rfl, ?_⟩
      refine undo_at hH3.b (by omega) (fun z => absurd z (by simp)) (fun hist1 p1 e1 H4 hx4 hbk4 => ?_)
      obtain ⟨e2, e3⟩ := List.append_inj' e1 rfl
      cases e3
      subst e2
      refine qHeard_of (dt := .none) .non rfl rfl (by decide +kernel) (by decide) fun R H5 hx5 nR hR => ?_
      have hx35 := hx4.trans hx5.sub
      have hsB : Soft [b] H3 := Soft.cons (.inr ⟨_, _, _, hb3⟩) Soft.nil
      have hl5 := hsB.lst hx35.t (noJug_refs gs) hH3.l
      have hj5 : JugAt H5 j := by
        obtain ⟨d1, m1, c1, hj⟩ := hH3.j
        exact ⟨d1, m1, c1, hx35 _ _ (by simpa using Ne.symm hH3.bj) hj⟩
      have hdu5 : H5 du = some (.lst [.str "told", .str "None"]) := hsB.lst hx35.t trivial hdu3
      refine ⟨_, rfl, _, rfl, R, du, [("told" : Str), "None"], rfl, rfl, SqL.of hR, SqL.of hdu5, _, rfl, ?_⟩
      refine ⟨_, rfl, _, rfl, _, _, rfl, .inl ⟨_, SqL.of hl5, rfl⟩, _, _, rfl, rfl, _, _, rfl, _, rfl, ?_⟩
      refine ⟨_, _, rfl, SqL.of hl5, fun l1 nl1 => ?_⟩
      rw [List.length_map, show (if ((gs.length : Nat) : Int) - 1 > 1 then ((gs.length : Nat) : Int) - 1 else 1) = ((gs.length - 1 : Nat) : Int) by split <;> omega, cut_takeR]
      have hxn : ∀ o, Ex [] H5 (upd H5 l1 o) := fun o => Ex.new0 nl1
      have hall : ExT [j, b] H H5 := ((hx1.t.mono (by simp)).trans (hx23.mono (by simp))).trans (hx35.t.mono (by simp))
      refine q l1 (gs.take (gs.length - 1)) hist0 p0 _ (hall.trans ((hxn _).sub (M := [j, b])).t) ⟨hj5.ext (hxn _).t, (hbk4.ex hx5).ex (hxn _), upd_same, ?_, hH3.ok.front, (hH3.t.ex hsB.l hx35).ex SoftL.nil (hxn _)⟩
      exact ((hH3.g.front).soft hsB hx35.t).soft Soft.nil (hxn _).t
  · walk_at "g"
    refine if_else (fun c1 z => ?_) ?_
    · walk_at "g"
      refine ite2 (fun c2 => ?_) fun _ => z
      refine ⟨_, rfl, _, rfl, _, rfl, _, rfl, by have := dT c2; omega, j, b, dx, l, gs, hist, cur, n, rfl, hH1, hn, hd, fun H' x h => ?_⟩
      exact q l gs hist cur H' ((hx1.t.mono (by simp)).trans x) ⟨h.j, h.b, h.l, h.g, h.ok.mono, h.t⟩
    · obtain ⟨gs0, g, egs, hg0, hpg⟩ := hH1.g.last
      have hat : atI (gs.map V.ref) (-1) = some (.ref g) := by rw [egs]; exact atI_last
      obtain ⟨dd, ll, ps, hg, hS, hl, hW⟩ := id hpg
      have hcur := hH.ok.ok cur (by simp)
      have hpl := hW.len
      refine ⟨_, rfl, _, rfl, _, rfl, _, _, _, .ref g, rfl, rfl, SqL.of hH1.l, hat, j, g, dd, ll, ps, rfl, hj1, hg, hl, by omega, fun p de H2 hx2 hj2 np hde => ?_⟩
      have hH2 := hH1.jug hx2 hj2
      have hpg2 : PageAt H2 g cur := hpg.soft (Soft.jug hj1) hx2.t
      refine ⟨_, rfl, _, rfl, _, _, _, .ref g, rfl, rfl, SqL.of hH2.l, hat, _, rfl, g, p, cur, de, rfl, hpg2, hcur.1, by omega, hde, fun R H3 hx3 hR => ?_⟩
      obtain ⟨du, g2, hR1, hdu, hg2⟩ := hR
      have hH3 := hH2.ex hx3
      have hde3 : DeedAt H3 p de := hde.soft Soft.nil hx3.t
      refine ⟨_, _, rfl, SqT.of hR1, rfl, ?_⟩
      walk_at "g"
      refine ⟨hH3.t.t, fun c' P' H4 gr => ?_⟩
      have hH4 := hH3.tab TL.ne gr
      have hx34 : ExT [] H3 H4 := ExT.ofN gr.ext
      have hde4 : DeedAt H4 p de := hde3.soft Soft.nil hx34
      have hdu4 : H4 du = some (.lst ((behind cur de).1.map V.str)) := hx34 _ _ (by simp) (fun ps z => by cases z) hdu
      have hg4 : PageAt H4 g2 (behind cur de).2 := hg2.soft Soft.nil hx34
      refine ⟨_, rfl, _, rfl, b, dx, hist, cur, p, de, rfl, hH4.b, hde4, hcur.1, by omega, by omega, fun hz H5 hx5 hbk5 => ?_, fun hz cls d5 H5 hx5 he => ?_⟩
      · rw [hz] at hdu4
        refine qHeard_of (dt := .none) .non rfl rfl (by decide +kernel) (by decide) fun R2 H6 hx6 nR2 hR2 => ?_
        have hx46 := hx5.trans hx6.sub
        obtain ⟨nd, mt, pt, hb4, _⟩ := id hH4.b
        have hsB : Soft [b] H4 := Soft.cons (.inr ⟨_, _, _, hb4⟩) Soft.nil
        have hl6 := hsB.lst hx46.t (noJug_refs gs) hH4.l
        have hj6 : JugAt H6 j := by
          obtain ⟨d1, m1, c1, hj⟩ := hH4.j
          exact ⟨d1, m1, c1, hx46 _ _ (by simpa using Ne.symm hH4.bj) hj⟩
        have hdu6 : H6 du = some (.lst []) := hsB.lst hx46.t trivial hdu4
        have hg6 : PageAt H6 g2 (behind cur de).2 := hg4.soft hsB hx46.t
        have hG6 : PagesAt H6 gs (hist ++ [cur]) := hH4.g.soft hsB hx46.t
        have hT6 : TI PT PR H6 := hH4.t.ex hsB.l hx46
        have hbk6 := hbk5.ex hx6
        refine ⟨_, rfl, by show 0 ≤ sizeLine; decide, fun e1 ne1 => ?_⟩
        refine ⟨du, e1, [], [], rfl, rfl, ⟨SqL.of (upN ne1 hdu6), SqL.of upd_same⟩, .inl rfl, _, rfl, ?_⟩
        refine ⟨by show 2 ≤ sizeLine; decide, fun e2 ne2 => ?_⟩
        have hxe := (Ex.new0 (M := []) (o := .lst []) ne1).new (o := .lst [.str "told", .str "None"]) ne2
        refine ⟨R2, e2, [("told" : Str), "None"], rfl, rfl, SqL.of (hxe _ _ (by simp) hR2), SqL.of upd_same, _, rfl, ?_⟩
        refine ⟨_, rfl, _, rfl, by show 0 ≤ sizeLine; decide, fun e3 ne3 => ?_⟩
        have hx3e := hxe.new (o := .lst []) ne3
        refine ⟨du, e3, [], [], rfl, rfl, .inl ⟨SqL.of (hx3e _ _ (by simp) hdu6), SqL.of upd_same⟩, .inl rfl, _, rfl, ?_⟩
        refine ⟨_, rfl, by show 1 ≤ sizeLine; decide, fun e4 ne4 => ?_⟩
        have hx4e := hx3e.new (o := .lst [.ref g2]) ne4
        refine ⟨_, _, _, _, rfl, rfl, hx4e _ _ (by simp) hl6, upd_same, ?_, fun l7 nl7 => ?_⟩
        · rw [List.length_map]
          show gs.length + 1 ≤ sizeLine
          have : 2000 ≤ sizeLine := by decide
          omega
        · have hx7 := hx4e.new (o := .lst (gs.map V.ref ++ [.ref g2])) nl7
          have hall : ExT [j, b] H H6 := ((((hx1.t.mono (by simp)).trans (hx2.t.mono (by simp))).trans (hx3.t.mono (by simp))).trans (hx34.mono (by simp))).trans (hx46.t.mono (by simp))
          refine q l7 (gs ++ [g2]) (hist ++ [cur]) (behind cur de).2 _ (hall.trans (hx7.sub (M := [j, b])).t) ⟨hj6.ext hx7.t, hbk6.ex hx7, by rw [upd_same]; simp, PagesAt.snoc (hg6.soft Soft.nil hx7.t) (hG6.soft Soft.nil hx7.t), ?_, hT6.ex SoftL.nil hx7⟩
          refine ⟨by rw [List.length_append (as := hist ++ [cur])]; exact Nat.succ_le_succ hH.ok.len, fun x hx => ?_⟩
          rcases List.mem_append.mp hx with y | y
          · exact ⟨(hH.ok.ok x y).1, by have := (hH.ok.ok x y).2; omega⟩
          · rw [List.mem_singleton.mp y]
            exact ⟨behind_ok hcur.1 (fun t sg r e => by subst e; exact hde.title), by have := behind_len cur de; omega⟩
      · have hbe := behind_err (p := cur) (d := de) hz
        refine xHeard_err TE he fun R2 H6 hx6 hR2 => ?_
        have hx46 := hx5.trans hx6
        have hH6 := hH4.ex hx46
        have hdu6 := hx46 _ _ (by simp) hdu4
        refine ⟨_, rfl, by show 0 ≤ sizeLine; decide, fun e1 ne1 => ?_⟩
        refine ⟨du, e1, _, [], rfl, rfl, ⟨SqL.of (upN ne1 hdu6), SqL.of upd_same⟩, .inr rfl, _, rfl, ?_⟩
        have hne : ¬ ((behind cur de).1.map V.str) = [] := fun y => hz (List.map_eq_nil_iff.mp y)
        rw [decide_eq_false hne]
        refine ⟨_, rfl, R2, du, (behind cur de).1, rfl, rfl, SqL.of (upN ne1 hR2), SqL.of (upN ne1 hdu6), _, rfl, ?_⟩
        refine ⟨_, rfl, _, rfl, by show 0 ≤ sizeLine; decide, fun e3 ne3 => ?_⟩
        have hx3e := (Ex.new0 (M := []) (o := .lst []) ne1).new (o := .lst []) ne3
        refine ⟨du, e3, _, [], rfl, rfl, .inl ⟨SqL.of (hx3e _ _ (by simp) hdu6), SqL.of upd_same⟩, .inr rfl, _, rfl, ?_⟩
        rw [decide_eq_false hne]
        refine ⟨by show 0 ≤ sizeLine; decide, fun e4 ne4 => ?_⟩
        have hx4e := hx3e.new (o := .lst []) ne4
        refine ⟨_, _, _, _, rfl, rfl, hx4e _ _ (by simp) hH6.l, upd_same, ?_, fun l7 nl7 => ?_⟩
        · rw [List.length_map]
          show gs.length + 0 ≤ sizeLine
          have : 2000 ≤ sizeLine := by decide
          omega
        · have hx7 := hx4e.new (o := .lst (gs.map V.ref ++ [])) nl7
          have hall : ExT [j, b] H H6 := ((((hx1.t.mono (by simp)).trans (hx2.t.mono (by simp))).trans (hx3.t.mono (by simp))).trans (hx34.mono (by simp))).trans (hx46.t.mono (by simp))
          have hH7 := hH6.ex hx7
          exact q l7 gs hist cur _ (hall.trans (hx7.sub (M := [j, b])).t) ⟨hH7.j, hH7.b, by rw [upd_same]; simp, hH7.g, hH7.ok.mono, hH7.t⟩
end
end G
-- Yf
set_option pp.maxSteps 800
set_option Elab.async false
set_option linter.all false
set_option maxRecDepth 100000
set_option maxHeartbeats 800000
namespace G
open PySem PySem.Spec PyProof.Rows L2 LamX NdefX
local macro_rules | `(tactic| walk_at "g") => `(tactic| repeat (first | refine ⟨_, rfl, ?_⟩ | refine ⟨_, _, rfl, ?_⟩ | refine ⟨_, _, _, rfl, ?_⟩ | refine ⟨_, _, rfl, rfl, ?_⟩ | refine ⟨rfl, ?_⟩))
local macro_rules | `(tactic| walk_at "w") => `(tactic| repeat (first | refine ⟨_, rfl, ?_⟩ | refine ⟨_, _, rfl, ?_⟩ | refine ⟨_, _, _, rfl, ?_⟩ | refine ⟨_, _, rfl, rfl, ?_⟩ | refine ⟨rfl, ?_⟩ | refine Or.inl ⟨_, rfl, ?_⟩ | refine ⟨_, _, rfl, .inr ⟨_, SqT.of (by assumption), rfl⟩, ?_⟩ | refine ⟨_, _, rfl, .inl ⟨_, SqL.of (by assumption), rfl⟩, ?_⟩ | refine ⟨_, _, _, _, rfl, rfl, SqT.of (by assumption), (by rfl), ?_⟩ | refine ⟨_, _, _, _, rfl, rfl, SqL.of (by assumption), (by rfl), ?_⟩ | refine ⟨_, _, _, _, rfl, rfl, SqL.of upd_same, (by rfl), ?_⟩ | refine ⟨_, _, _, _, rfl, rfl, (by assumption), (by rfl), ?_⟩ | refine ⟨_, _, _, _, rfl, rfl, upd_same, (by rfl), ?_⟩))
section
variable {P : Program} {w : World} {K : PySem.W.Frag} {mg : Str → Option Value} {base : Heap}
end
/-- what a function tried leaves -/
structure Ran (A : Ad) (PT PR : Addr) (H H' : Hp) (j b dx no : Addr) : Prop where
  x : ExT [j, b, no] H H'
  j : JugAt H' j
  b : ∃ nd mt pt, H' b = some (.ins A.cBook dx (bookF nd mt pt))
  no : H' no = some (.lst [.str "fine"])
  t : TI PT PR H'
theorem Ran.ex {A : Ad} {PT PR : Addr} {H H' H2 : Hp} {j b dx no : Addr} (h : Ran A PT PR H H' j b dx no) (x : Ex [] H' H2) : Ran A PT PR H H2 j b dx no := by
  obtain ⟨d, m, c, hj⟩ := h.j
  obtain ⟨nd, mt, pt, hb⟩ := h.b
  exact ⟨h.x.trans (x.sub (M := [j, b, no])).t, ⟨d, m, c, x _ _ (by simp) hj⟩, ⟨nd, mt, pt, x _ _ (by simp) hb⟩, x _ _ (by simp) h.no, h.t.ex SoftL.nil x⟩
def spInside (A : Ad) (PT PR : Addr) (d : Nat) : Sp := fun vs H Q E => ∃ j b dx l gs hist cur n ab no, ∃ ed : Nat, vs = [.ref j, .ref b, .ref ab] ∧ Here A PT PR H j b dx l gs hist cur n ∧ H ab = some (.lst [.ref b, .ref l, .int (d : Nat), .int (ed : Nat), .ref no]) ∧ H no = some (.lst []) ∧ n + 10 * d ≤ 500 ∧ 1 ≤ d ∧ d ≤ 10 ∧
  (ed = 0 → ∀ p H', Ran A PT PR H H' j b dx no → H' p = some (.tup [.str "end", .int (d : Nat)]) → Q (.ref p) H') ∧
  (ed ≠ 0 → ed ≠ 2 → ed ≠ 3 → ∀ H', Ran A PT PR H H' j b dx no → Q .non H') ∧
  (ed = 2 → ∀ dd H', Ran A PT PR H H' j b dx no → H' dd = some (.xd [("given", .str "qq")]) → E (.ref A.cUnknownName) (some dd) H') ∧
  (ed = 3 → ∀ dd H', Ran A PT PR H H' j b dx no → E (.type "KeyError") dd H')
section
variable {P : Program} {w : World} {K : PySem.W.Frag} {mg : Str → Option Value} {base : Heap} {A : Ad} {PT PR : Addr}
theorem sc__law_inside : FnScope ["_law_jug_here", "_law_held", "_law_about", "_law_book_here", "_law_pages", "_law_deep", "_law_ended", "_law_notes", "_law_here", "_law_lacking", "_law_turn_here", "_law_fine"] ["_law_jug_here", "_law_held", "_law_about"] (defScope s__law_inside) :=
  ⟨rfl, rfl, rfl, by decide +kernel, rfl, by decide +kernel, by decide +kernel⟩
theorem b__law_inside {K : PySem.W.Frag} {x q : Str} {f : Addr} {fd : FuncData} (F : Fun K x q s__law_inside f fd) : Binds K fd ["_law_jug_here", "_law_held", "_law_about"] [] := F.binds (fun _ _ _ _ _ _ us hl => match us, hl with | [_, _, _], _ => rfl)
theorem w__law_inside (T : Tx K mg) (B : TxB K mg A) (O : Exs P w K mg base A) (hcmp : cmpIn K A.cBook = true) (d k : Nat) (hk : 8 ≤ k)
    (c__law_turn : CanG P w K mg base CX0 k "_law_turn" ["_law_jug_here", "_law_book_here", "_law_pages", "_law_deep"] (spTurn A PT PR d)) :
    CanG P w K mg base (L2N.CX P w) (k + 1) "_law_inside" ["_law_jug_here", "_law_held", "_law_about"] (spInside A PT PR (d + 1)) := by
  have c_drop := w_drop T B O
  have c__law_pull := w__law_pull (P := P) (w := w) (base := base) T
  have c__law_one_of := w__law_one_of (P := P) (w := w) (base := base) T
  have c__law_book_is := w__law_book_is (P := P) (w := w) (base := base) T B O
  refine canGX T.d__law_inside sc__law_inside b__law_inside (fun vs H Q E ⟨j, _, _, _, _, _, _, _, _, _, _, e, _⟩ => by rw [e]; rfl) fun f cdv Ar outer s H vs Q E hr hgd hcd ⟨j, b, dx, l, gs, hist, cur, n, ab, no, ed, ev, hH, hab, hno, hn, hd1, hd, q0, q1, q2, q3⟩ => ?_
  subst ev
  refine ⟨_, (pss_cons (ps_asg (pv 2) (pg_lst (by rfl) (pgs_cons (pg_name (i := 3) sc__law_inside.nd rfl (Or.inl rfl)) (pgs_cons (pg_name (i := 4) sc__law_inside.nd rfl (Or.inl rfl)) (pgs_cons (pg_name (i := 5) sc__law_inside.nd rfl (Or.inl rfl)) (pgs_cons (pg_name (i := 6) sc__law_inside.nd rfl (Or.inl rfl)) (pgs_cons (pg_name (i := 7) sc__law_inside.nd rfl (Or.inl rfl)) pgs_nil)))))))
    (pss_cons (ps_par (i := 8) (j := 9) (by rfl) sc__law_inside.nd rfl rfl (by decide) rfl rfl (pa_cons (pe_ifExp (pt_cmpR (op_eqSelf hr.units0 hcmp) (pv 1) (pv 3) (nomark _)) (pv 4) (pe_lst pa_nil)) (pa_cons pe_dnewK pa_nil)) (by rfl))
    (pss_cons (ps_for PassesOwn.leaving (by rfl) (pi_range1 (by rfl) T.m_range (pa_cons (pe_can c__law_pull (hr.mono (by omega)) (by rfl) pass0 (pa_cons (pv 0) (pa_cons pe_int pa_nil))) pa_nil)) (pg_name (i := 10) sc__law_inside.nd rfl (Or.inl rfl)) (pss_one (ps_if (pt_cmpR (op_neE hr.units0) (pv 8) (pe_lst pa_nil) (nomark _)) (pss_one (ps_set (i := 8) sc__law_inside.nd rfl (Or.inl rfl) (pe_canG c__law_turn hr hgd (by rfl) pass0 (pa_cons (pv 0) (pa_cons (pe_can c__law_one_of (hr.mono (by omega)) (by rfl) pass0 (pa_cons (pv 0) (pa_cons (pe_lst (pa_cons (pv 1) (pa_cons (pv 3) pa_nil))) pa_nil))) (pa_cons (pv 8) (pa_cons (pe_op op_sub (pv 5) pe_int) pa_nil))))))) pss_nil)))
    (pss_cons (ps_set (i := 11) sc__law_inside.nd rfl (Or.inl rfl) (pe_and (pe_cmpR (op_neE hr.units0) (pv 8) (pe_lst pa_nil) (nomark _)) (pe_one (pe_canG c__law_book_is (hr.mono (by omega)) hgd (by rfl) pass0 (pa_cons (pv 1) (pa_cons (pe_ix ix_list (pv 8) (pe_un un_neg pe_int) (fun _ _ => rfl)) (pa_cons (pe_op op_sub (pe_callB call_len (by rfl) T.m_len (by decide +kernel) (pa_cons (pv 8) pa_nil)) pe_int) pa_nil)))))))
    (pss_cons (ps_expr (pe_bm PySem.F.plainAttrs_list PySem.F.slot_list_append PySem.F.type_list_append mt_append (pv 7) (pa_cons (pe_ifExp (pt_val (pv 11)) pe_str pe_str) pa_nil)))
    (pss_cons (ps_if (pt_cmpR op_eq (pv 6) pe_int (nomark _)) (pss_one (ps_expr (pe_canM (pv 1) B.clB c_drop (hr.mono (by omega)) (L2N.passes_call (E := E) (L2N.takes_of rfl rfl rfl rfl) (fun _ _ _ _ h => h)) (pa_cons pe_str pa_nil)))) pss_nil)
    (pss_cons (ps_if (pt_cmpR op_eq (pv 6) pe_int (nomark _)) (pss_one (ps_ret (pe_dgetXN rfl (hu_of hr) (L2N.takes_of rfl rfl rfl rfl) (pv 9) (pv 6) (fun _ _ => rfl)))) pss_nil)
    (pss_one (ps_ret (pe_ifExp (pt_cmpR op_eq (pv 6) pe_int (nomark _)) (pe_tup (pa_cons pe_str (pa_cons (pv 5) pa_nil))) pe_non)))))))))), ?_⟩
  obtain ⟨nd, mt, pt, hb, _⟩ := id hH.b
  have hnoj : no ≠ j := hH.j.no hno trivial
  have habj : ab ≠ j := hH.j.no hab trivial
  have hnob : no ≠ b := fun z => by rw [z, hb] at hno; cases hno
  have habb : ab ≠ b := fun z => by rw [z, hb] at hab; cases hab
  refine ⟨_, rfl, ab, _, rfl, SqL.of hab, rfl, ?_⟩
  walk_at "g"
  refine ⟨b, dx, _, rfl, rfl, hb, _, rfl, ?_⟩
  refine ⟨_, rfl, fun lk nlk => ⟨_, _, rfl, ?_⟩⟩
  have hx0 := Ex.new0 (M := []) (o := .dK []) nlk
  have hH0 := hH.ex hx0
  refine ⟨_, rfl, j, 4, rfl, hH0.j, by decide, by decide, fun m H1 hm hx1 hj1 => ?_⟩
  have hH1 := hH0.jug hx1 hj1
  have hxH1 : ExT [j, b] H H1 := (hx0.t.mono (by simp)).trans (hx1.t.mono (by simp))
  refine ⟨m, rfl, by omega, by omega, for_range (n := m) (fun i σ H' => ∃ l' gs' hist' cur' t, ExT [j, b] H1 H' ∧ Here A PT PR H' j b dx l' gs' hist' cur' (n + i) ∧
    σ = [some (.ref j), some (.ref b), some (.ref ab), some (.ref b), some (.ref l), some (.int ((d + 1 : Nat) : Int)), some (.int (ed : Nat)), some (.ref no), some (.ref l'), some (.ref lk), t, none]) ⟨l, gs, hist, cur, none, ExT.refl _ _, hH1, rfl⟩ ?_ ?_⟩
  · rintro i σ H' hi ⟨l', gs', hist', cur', t, hx, hHi, rfl⟩
    have hgl := hHi.g.len
    rw [List.length_append, List.length_singleton] at hgl
    have hne : ¬ (gs'.map V.ref) = [] := fun y => by
      have := List.map_eq_nil_iff.mp y
      rw [this] at hgl
      simp at hgl
    refine ⟨_, rfl, by show 0 ≤ sizeLine; decide, fun e ne => ?_⟩
    refine ⟨l', e, _, [], rfl, rfl, ⟨SqL.of (upN ne hHi.l), SqL.of upd_same⟩, .inr rfl, _, rfl, ?_⟩
    rw [decide_eq_false hne]
    have hHe := hHi.ex (Ex.new0 (o := .lst []) ne)
    refine ⟨_, rfl, _, rfl, _, rfl, _, rfl, by show 2 ≤ sizeLine; decide, fun p np => ?_⟩
    have hHp := hHe.ex (Ex.new0 (o := .lst [.ref b, .ref b]) np)
    refine ⟨j, p, [.ref b, .ref b], rfl, hHp.j, upd_same, hHe.j.ne np, by show 0 < 2; decide, by show 2 < 1000; decide, fun i2 x H3 hi2 hx3 hj3 => ?_⟩
    have hxb : x = .ref b := by
      rcases i2 with _ | _ | i2
      · exact (Option.some.inj hi2).symm
      · exact (Option.some.inj hi2).symm
      · simp at hi2
    subst hxb
    have hH3 := hHp.jug hx3 hj3
    have hxa : ExT [j, b] H1 H3 := (hx.trans (((Ex.new0 (M := [j, b]) (o := .lst []) ne).new (o := .lst [.ref b, .ref b]) np).t)).trans (hx3.t.mono (by simp))
    refine ⟨_, rfl, _, rfl, _, _, rfl, rfl, j, b, dx, l', gs', hist', cur', n + i, ?_, hH3, by omega, by omega, fun l2 gs2 hist2 cur2 H4 hx4 hH4 => ?_⟩
    · show [V.ref j, V.ref b, V.ref l', V.int (((d + 1 : Nat) : Int) - 1)] = _
      rw [show ((d + 1 : Nat) : Int) - 1 = (d : Int) by omega]
    · exact ⟨l2, gs2, hist2, cur2, _, hxa.trans hx4, hH4, rfl⟩
  · rintro σ H' ⟨l', gs', hist', cur', t, hx, hHi, rfl⟩
    have hgl := hHi.g.len
    rw [List.length_append, List.length_singleton] at hgl
    have hle := hHi.ok.len
    rw [List.length_append, List.length_singleton] at hle
    have hcur := hHi.ok.ok cur' (by simp)
    have hne : ¬ (gs'.map V.ref) = [] := fun y => by
      have := List.map_eq_nil_iff.mp y
      rw [this] at hgl
      simp at hgl
    obtain ⟨gs0, g, egs, _, hpg⟩ := hHi.g.last
    have hat : atI (gs'.map V.ref) (-1) = some (.ref g) := by rw [egs]; exact atI_last
    refine ⟨_, rfl, by show 0 ≤ sizeLine; decide, fun e ne => ?_⟩
    refine ⟨l', e, _, [], rfl, rfl, ⟨SqL.of (upN ne hHi.l), SqL.of upd_same⟩, .inr rfl, _, rfl, ?_⟩
    rw [decide_eq_false hne]
    have hHe := hHi.ex (Ex.new0 (o := .lst []) ne)
    refine ⟨_, rfl, _, rfl, _, rfl, _, _, _, .ref g, rfl, rfl, SqL.of hHe.l, hat, _, rfl, _, _, rfl, .inl ⟨_, SqL.of hHe.l, rfl⟩, _, _, rfl, rfl, ?_⟩
    refine ⟨b, dx, hist', cur', g, ?_, hHe.b, hpg.soft Soft.nil (Ex.new0 ne).t, hcur.1, by omega, by omega, fun H2 hx2 => ?_⟩
    · show [V.ref b, V.ref g, V.int (((gs'.map V.ref).length : Nat) - 1)] = _
      rw [List.length_map, show ((gs'.length : Nat) : Int) - 1 = (hist'.length : Int) by omega]
    have hH2 := hHe.ex hx2
    have hxall : ExT [j, b] H H2 := ((hxH1.trans hx).trans ((Ex.new0 ne).sub (M := [j, b])).t).trans (hx2.sub (M := [j, b])).t
    have hno2 : H2 no = some (.lst []) := hxall _ _ (by simp [hnoj, hnob]) (fun ps z => by cases z) hno
    have hlkj : lk ≠ j := hH.j.ne nlk
    have hlkb : lk ≠ b := fun z => by rw [z, hb] at nlk; cases nlk
    have hlk2 : H2 lk = some (.dK []) := ((hx.trans ((Ex.new0 ne).sub (M := [j, b])).t).trans (hx2.sub (M := [j, b])).t) _ _ (by simp [hlkj, hlkb]) (fun ps z => by cases z) (hx1 _ _ (by simpa using hlkj) upd_same)
    refine ⟨_, rfl, .inl ⟨rfl, _, SqL.of hno2⟩, _, rfl, _, rfl, no, [], _, rfl, rfl, hno2, by show 0 < sizeLine; decide, ?_⟩
    show tSeq _ _ _ _ (upd H2 no (.lst [.str "fine"]))
    obtain ⟨nd2, mt2, pt2, hb2, hback⟩ := id hH2.b
    have hsN : SoftL [no] H2 := SoftL.cons (.inl ⟨_, hno2⟩) SoftL.nil
    have hxN : Ex [no] H2 (upd H2 no (.lst [.str "fine"])) := (Ex.refl _ _).put (by simp)
    have hbN : BookAt A (upd H2 no (.lst [.str "fine"])) b dx hist' cur' := hH2.b.softL hsN hxN.t (by simpa using Ne.symm hnob)
    have hran : Ran A PT PR H (upd H2 no (.lst [.str "fine"])) j b dx no := by
      refine ⟨(hxall.mono (by simp)).trans (hxN.t.mono (by simp)), ?_, ⟨nd2, mt2, pt2, by rw [upd_ne (Ne.symm hnob)]; exact hb2⟩, upd_same, hH2.t.ex hsN hxN⟩
      obtain ⟨d1, m1, c1, hj⟩ := hH2.j
      exact ⟨d1, m1, c1, by rw [upd_ne (Ne.symm hnoj)]; exact hj⟩
    have hlkN : upd H2 no (.lst [.str "fine"]) lk = some (.dK []) := by
      rw [upd_ne (fun z => by rw [z, hno2] at hlk2; cases hlk2)]
      exact hlk2
    generalize upd H2 no (.lst [.str "fine"]) = HN at hbN hran hlkN ⊢
    obtain ⟨nd3, mt3, pt3, hb3, qs3, hpt3, ⟨hn3, hm3⟩, hpast3⟩ := id hbN
    have hql := hpast3.len
    have hqq : getS cur'.1 "qq" = none := by
      unfold getS
      rw [List.find?_eq_none.mpr fun e he => ?_]
      · rfl
      · rcases hcur.1.ti e he with z | z | z <;> rw [z] <;> decide +kernel
    walk_at "g"
    refine ite2 (fun c2 => ?_) fun c2 => ?_
    · have he2 : ed = 2 := by
        have z := intEq c2
        omega
      refine ⟨_, rfl, b, dx, _, rfl, hb3, rfl, b, dx, nd3, mt3, pt3, cur'.1, cur'.2, qs3, "qq", rfl, hb3, hpt3, by omega, hn3, hm3, by omega, hcur.1, fun _ dd hd => ?_, fun i v hv => ?_, fun v hv => ?_⟩
      · exact q2 he2 dd _ (hran.ex (Ex.new0 hd)) upd_same
      · rw [hqq] at hv
        cases hv
      · rw [hqq] at hv
        cases hv
    · have he2 : ed ≠ 2 := fun z => c2 (by rw [z]; rfl)
      walk_at "g"
      refine ite2 (fun c3 => ?_) fun c3 => ?_
      · have he3 : ed = 3 := by
          have z := intEq c3
          omega
        refine ⟨_, rfl, _, rfl, lk, none, rfl, DGet.k (k := Sum.inl (ed : Int)) hlkN, (fun v z => nomatch z), fun _ dd => q3 he3 dd HN hran⟩
      · have he3 : ed ≠ 3 := fun z => c3 (by rw [z]; rfl)
        walk_at "g"
        refine ite2 (fun c0 => ?_) fun c0 => ?_
        · have he0 : ed = 0 := by
            have z := intEq c0
            omega
          refine ⟨_, rfl, by show 2 ≤ sizeLine; decide, fun p np => ?_⟩
          exact q0 he0 p _ (hran.ex (Ex.new0 np)) upd_same
        · exact q1 (fun z => c0 (by rw [z]; rfl)) he2 he3 HN hran
end
end G
-- Yg
set_option pp.maxSteps 800
set_option Elab.async false
set_option linter.all false
set_option maxRecDepth 100000
set_option maxHeartbeats 800000
namespace G
open PySem PySem.Spec PyProof.Rows L2 LamX NdefX
local macro_rules | `(tactic| walk_at "g") => `(tactic| repeat (first | refine ⟨_, rfl, ?_⟩ | refine ⟨_, _, rfl, ?_⟩ | refine ⟨_, _, _, rfl, ?_⟩ | refine ⟨_, _, rfl, rfl, ?_⟩ | refine ⟨rfl, ?_⟩))
local macro_rules | `(tactic| walk_at "w") => `(tactic| repeat (first | refine ⟨_, rfl, ?_⟩ | refine ⟨_, _, rfl, ?_⟩ | refine ⟨_, _, _, rfl, ?_⟩ | refine ⟨_, _, rfl, rfl, ?_⟩ | refine ⟨rfl, ?_⟩ | refine Or.inl ⟨_, rfl, ?_⟩ | refine ⟨_, _, rfl, .inr ⟨_, SqT.of (by assumption), rfl⟩, ?_⟩ | refine ⟨_, _, rfl, .inl ⟨_, SqL.of (by assumption), rfl⟩, ?_⟩ | refine ⟨_, _, _, _, rfl, rfl, SqT.of (by assumption), (by rfl), ?_⟩ | refine ⟨_, _, _, _, rfl, rfl, SqL.of (by assumption), (by rfl), ?_⟩ | refine ⟨_, _, _, _, rfl, rfl, SqL.of upd_same, (by rfl), ?_⟩ | refine ⟨_, _, _, _, rfl, rfl, (by assumption), (by rfl), ?_⟩ | refine ⟨_, _, _, _, rfl, rfl, upd_same, (by rfl), ?_⟩))
section
variable {P : Program} {w : World} {K : PySem.W.Frag} {mg : Str → Option Value} {base : Heap}
end
theorem pe_any {α : Type} {X : Cx} {e : Expr} {t : α → TE} (h : ∀ a, PE X e (t a)) : PE X e (fun σ H Q => ∃ a, t a σ H Q) := ⟨fun pins s σ H Q I ⟨a, q⟩ => (h a).run pins s σ H Q I q⟩
theorem Grew.none {H H1 : Hp} {P c' P' a : Addr} {q : Str} {φ : Addr → Prop} {pos : Pos} (g : Grew H P q φ pos c' P' H1) (h : H1 a = none) : H a = none := by
  rcases g with ⟨e, _, _⟩ | ⟨o, ps, hP, nC, nT, n, z, e⟩
  · rw [← e]
    exact h
  · rw [e] at h
    obtain ⟨a1, a2, a3, a4⟩ := grown_at (o := o) (more := ps ++ #[rawInt pos.line, rawInt pos.col, .ref c']) hP nC nT n
    rw [a4 a (fun y => by rw [y, a1] at h; cases h) (fun y => by rw [y, a2] at h; cases h) (fun y => by rw [y, a3] at h; cases h)] at h
    exact h
theorem exit_to {A : Ad} {H H2 : Hp} {b dx nd mt pt t dxt k dxk nd2 mt2 pt2 : Addr} {G : VK} {E : XK} (nt : H t = none) (nk : H k = none) (hb : H b = some (.ins A.cBook dx (bookF nd mt pt)))
    (ht : H2 t = some (.ins A.cTrial dxt (trialF (.ref b) (.ref k)))) (hk : H2 k = some (.ins A.cKept dxk (keptF (.ref nd) (.ref mt) (.ref pt) .non))) (hb2 : H2 b = some (.ins A.cBook dx (bookF nd2 mt2 pt2)))
    (q : ∀ H3, Ex [b, t] H2 H3 → H3 b = some (.ins A.cBook dx (bookF nd mt pt)) → G .non H3) (e1 e2 e3 : V) : spExit A [.ref t, e1, e2, e3] H2 G E := by
  refine ⟨t, dxt, b, dx, nd2, mt2, pt2, k, dxk, nd, mt, pt, .non, e1, e2, e3, rfl, ht, hk, hb2, fun z => ?_, fun z => ?_, fun H3 hx h3 _ => q H3 hx h3⟩
  · rw [z, hb] at nt
    cases nt
  · rw [z, hb] at nk
    cases nk
/-- what is told of a function that ended so -/
def endD (d : Nat) : PyData := .tuple [.str "end", .int (d : Nat)]
def dueS (ed d : Nat) : List Str := match ed with
  | 0 => ["told", (endD d).shown]
  | 1 => ["told", "None"]
  | 2 => ["UnknownName", "'qq'"]
  | _ => ["plain"]
theorem end_fine {d : Nat} (h : d ≤ 100) : (endD d).showable = true ∧ (endD d).hasDict = false ∧ (endD d).shown.length ≤ sizeLine ∧ (endD d).depth ≤ 40 := by
  have hf : Fine 1 300 (endD d) := by
    refine (Fine.tup (dep := 0) (wt := 120) fun x hx => ?_).mono (Nat.le_refl _) (by show 2 * 121 ≤ 300; decide)
    rcases List.mem_cons.mp hx with e | hx
    · rw [e]
      exact Fine.str (by decide +kernel) (by decide +kernel)
    · rw [List.mem_singleton.mp hx]
      exact Fine.int (by rw [Int.natAbs_natCast]; exact Nat.lt_of_le_of_lt h (by decide +kernel))
  exact ⟨hf.sh, hf.nd, Nat.le_trans hf.len (by decide), Nat.le_trans hf.dp (by decide)⟩
theorem due_at {H : Hp} {ed d p1 p2 p3 p4 pl : Nat} (h : ed < 4) (n1 : H p1 = none) (n2 : upd H p1 (.lst [.str "told", .str (endD d).shown]) p2 = none) (n3 : upd (upd H p1 (.lst [.str "told", .str (endD d).shown])) p2 (.lst [.str "told", .str "None"]) p3 = none)
    (n4 : upd (upd (upd H p1 (.lst [.str "told", .str (endD d).shown])) p2 (.lst [.str "told", .str "None"])) p3 (.lst [.str "UnknownName", .str "'qq'"]) p4 = none)
    (n5 : upd (upd (upd (upd H p1 (.lst [.str "told", .str (endD d).shown])) p2 (.lst [.str "told", .str "None"])) p3 (.lst [.str "UnknownName", .str "'qq'"])) p4 (.lst [.str "plain"]) pl = none) :
    ∃ du, atI [V.ref p1, V.ref p2, V.ref p3, V.ref p4] (ed : Nat) = some (V.ref du) ∧ upd (upd (upd (upd (upd H p1 (.lst [.str "told", .str (endD d).shown])) p2 (.lst [.str "told", .str "None"])) p3 (.lst [.str "UnknownName", .str "'qq'"])) p4 (.lst [.str "plain"])) pl (.lst [.ref p1, .ref p2, .ref p3, .ref p4]) du = some (.lst ((dueS ed d).map V.str)) := by
  match ed, h with
  | 0, _ => exact ⟨p1, rfl, upN n5 (upN n4 (upN n3 (upN n2 upd_same)))⟩
  | 1, _ => exact ⟨p2, rfl, upN n5 (upN n4 (upN n3 upd_same))⟩
  | 2, _ => exact ⟨p3, rfl, upN n5 (upN n4 upd_same)⟩
  | 3, _ => exact ⟨p4, rfl, upN n5 upd_same⟩
section
variable {K : PySem.W.Frag} {mg : Str → Option Value} {A : Ad} {PT PR : Addr}
/-- a function tried, heard -/
theorem heard_inside (TE : TxE K mg A) (ne : PT ≠ PR) {H0 H : Hp} {j b dx l ab no : Addr} {gs : List Addr} {hist : List Page} {cur : Page} {n d ed : Nat} {lp1 lp2 : Pos} {Q : VK} (h0 : Here A PT PR H0 j b dx l gs hist cur n) (hx0 : Ex [j] H0 H) (nno : H0 no = none) (hh : Here A PT PR H j b dx l gs hist cur n)
    (hab : H ab = some (.lst [.ref b, .ref l, .int ((d + 1 : Nat) : Int), .int (ed : Nat), .ref no])) (hno : H no = some (.lst [])) (hn : n + 10 * (d + 1) ≤ 500) (hd : d + 1 ≤ 10) (hed : ed < 4)
    (q : ∀ R H', ExT [j, b] H0 H' → Here A PT PR H' j b dx l gs hist cur n → H' no = some (.lst [.str "fine"]) → H' R = some (.lst ((dueS ed (d + 1)).map V.str)) → Q (.ref R) H') :
    ∃ φ, tHeard PR qOut φ lp1 (fun σ => startF ["_law_book_here", "_law_jug_here", "_law_about"] [] ([1, 0, 6].map (slotAt σ))) (THeard A K)
      (fun P2 E2 => tTried A.cBook "tried" P2 qIn (fun _ => True) lp2 (tVar 0) (fun σ x => startF ["_law_held", "_law_jug_here", "_law_about"] [x] ([1, 2].map (slotAt σ))) (TTried A) (fun E3 => tCall (spInside A PT PR (d + 1)) [] E3 (tCons (tVar 1) (tCons (tVar 0) (tCons (tVar 2) tNil)))) E2) [some (.ref j), some (.ref b), some (.ref l), some (.int ((d + 1 : Nat) : Int)), some (.int (ed : Nat)), some (.ref no), some (.ref ab), none, none, none] H Q := by
  refine ⟨fun P => P ≠ PT ∧ P ≠ PR ∧ Tab1 H P qIn fun _ => True, hh.t.r, fun c' P' H1 gr => ?_⟩
  obtain ⟨hT1, n1, n2, t3⟩ := tinv_tried hh.t ne gr
  have hx1 : ExT [] H H1 := ExT.ofN gr.ext
  obtain ⟨nd, mt, pt, hb, hback⟩ := id hh.b
  refine ⟨_, rfl, b, dx, _, rfl, hx1 _ _ (by simp) (fun ps z => by cases z) hb, rfl, t3, fun c3 P3 H2 gr2 => ?_⟩
  have hT2 := tinv_in hT1 n1 n2 t3 gr2
  have hx2 : ExT [] H H2 := hx1.trans (ExT.ofN gr2.ext)
  have hb2 := hx2 _ _ (by simp) (fun ps z => by cases z) hb
  refine ⟨b, dx, nd, mt, pt, rfl, hb2, fun t dxt k dxk H3 hx3 nt nk ht hk => ?_⟩
  have hx03 : ExT [] H H3 := hx2.trans hx3.t
  have hH2 : Here A PT PR H2 j b dx l gs hist cur n := hh.soft Soft.nil hx2 (hh.j.ext hx2) (hh.b.softL SoftL.nil hx2 (by simp)) hT2
  have hH3 := hH2.ex hx3
  have hno3 := hx03 _ _ (by simp) (fun ps z => by cases z) hno
  have hab3 := hx03 _ _ (by simp) (fun ps z => by cases z) hab
  have hb3 := hx3 _ _ (by simp) hb2
  have htN : H t = none := gr.none (gr2.none nt)
  have hnoj : no ≠ j := fun z => by
    obtain ⟨d1, m1, c1, hj⟩ := h0.j
    rw [z, hj] at nno
    cases nno
  have hnob : no ≠ b := fun z => by rw [z, hb] at hno; cases hno
  have hbj := hh.bj
  have htj : t ≠ j := hh.j.ne htN
  have htb : t ≠ b := fun z => by rw [z, hb] at htN; cases htN
  have htno : t ≠ no := fun z => by rw [z, hno] at htN; cases htN
  have hkN : H k = none := gr.none (gr2.none nk)
  have hkj : k ≠ j := hh.j.ne hkN
  have hkb : k ≠ b := fun z => by rw [z, hb] at hkN; cases hkN
  have hkno : k ≠ no := fun z => by rw [z, hno] at hkN; cases hkN
  have ht0 : H0 t = none := hx0.none_back (by simpa using htj) htN
  have at4 : ∀ H4, Ran A PT PR H3 H4 j b dx no → H4 t = some (.ins A.cTrial dxt (trialF (.ref b) (.ref k))) ∧ H4 k = some (.ins A.cKept dxk (keptF (.ref nd) (.ref mt) (.ref pt) .non)) := fun H4 hr =>
    ⟨hr.x _ _ (by simp [htj, htb, htno]) (fun ps z => by cases z) ht, hr.x _ _ (by simp [hkj, hkb, hkno]) (fun ps z => by cases z) hk⟩
  -- behind
  have back : ∀ (H4 H5 : Hp), Ran A PT PR H3 H4 j b dx no → Ex [b, t] H4 H5 → H5 b = some (.ins A.cBook dx (bookF nd mt pt)) → ExT [j, b] H0 H5 ∧ Here A PT PR H5 j b dx l gs hist cur n ∧ H5 no = some (.lst [.str "fine"]) := by
    intro H4 H5 hr hx5 hb5
    obtain ⟨ht4, hk4⟩ := at4 H4 hr
    obtain ⟨nd4, mt4, pt4, hb4⟩ := hr.b
    have hxc : ExT ([j, b, no] ++ [t]) H H5 := ((hx03.mono (by simp)).trans (hr.x.mono (by simp))).trans (hx5.t.mono (by simp))
    have hxd : ExT [j, b, no] H H5 := hxc.cut fun a ha => by rw [List.mem_singleton.mp ha]; exact htN
    have hxe : ExT ([j, b] ++ [no, t]) H0 H5 := (hx0.t.mono (by simp)).trans (hxc.mono (by simp))
    have hxf : ExT [j, b] H0 H5 := hxe.cut fun a ha => by
      rcases List.mem_cons.mp ha with e | e
      · rw [e]
        exact nno
      · rw [List.mem_singleton.mp e]
        exact ht0
    obtain ⟨d1, m1, c1, hj0⟩ := id h0.j
    obtain ⟨d2, m2, c2, hjh⟩ := id hh.j
    obtain ⟨d3, m3, c3, hj4⟩ := id hr.j
    obtain ⟨nd0, mt0, pt0, hb0, _⟩ := id h0.b
    have hs0 : Soft [j, b] H0 := Soft.cons (.inl h0.j) (Soft.cons (.inr ⟨_, _, _, hb0⟩) Soft.nil)
    have hsL : SoftL [j, b, no] H := SoftL.cons (.inl ⟨_, hjh⟩) (SoftL.cons (.inr ⟨_, _, _, hb⟩) (SoftL.cons (.inl ⟨_, hno⟩) SoftL.nil))
    have hs4 : SoftL [b, t] H4 := SoftL.cons (.inr ⟨_, _, _, hb4⟩) (SoftL.cons (.inr ⟨_, _, _, ht4⟩) SoftL.nil)
    refine ⟨hxf, ⟨⟨d3, m3, c3, hx5 _ _ (by simp [Ne.symm hbj, Ne.symm htj]) hj4⟩, ⟨nd, mt, pt, hb5, hback.softL hsL hxd⟩, hs0.lst hxf (noJug_refs gs) h0.l, h0.g.soft hs0 hxf, h0.ok, hr.t.ex hs4 hx5⟩, hx5 _ _ (by simp [hnob, Ne.symm htno]) hr.no⟩
  have exits : ∀ (H4 : Hp) (G : VK) (E : XK), Ran A PT PR H3 H4 j b dx no → (∀ H5, Ex [b, t] H4 H5 → H5 b = some (.ins A.cBook dx (bookF nd mt pt)) → G .non H5) → ∀ e1 e2 e3, spExit A [.ref t, e1, e2, e3] H4 G E := by
    intro H4 G E hr hq e1 e2 e3
    obtain ⟨ht4, hk4⟩ := at4 H4 hr
    obtain ⟨nd4, mt4, pt4, hb4⟩ := hr.b
    exact exit_to nt nk hb2 ht4 hk4 hb4 hq e1 e2 e3
  refine ⟨_, rfl, _, rfl, _, rfl, j, b, dx, l, gs, hist, cur, n, ab, no, ed, rfl, hH3, hab3, hno3, hn, by omega, hd, fun he p H4 hr hp => ?_, fun e0 e2 e3 H4 hr => ?_, fun he dd H4 hr hdd => ?_, fun he dd H4 hr => ?_⟩
  · subst he
    refine exits H4 _ _ hr (fun H5 hx5 hb5 => ?_) _ _ _
    obtain ⟨k1, k2, k3⟩ := back H4 H5 hr hx5 hb5
    have hp5 : H5 p = some (.tup [.str "end", .int ((d + 1 : Nat) : Int)]) := by
      obtain ⟨ht4, hk4⟩ := at4 H4 hr
      obtain ⟨nd4, mt4, pt4, hb4⟩ := hr.b
      exact hx5 _ _ (by
        intro z
        rcases List.mem_cons.mp z with e | e
        · rw [e, hb4] at hp
          cases hp
        · rw [List.mem_singleton.mp e, ht4] at hp
          cases hp) hp
    obtain ⟨f1, f2, f3, f4⟩ := end_fine (d := d + 1) (by omega)
    refine qHeard_of (dt := endD (d + 1)) (.tup (SqT.of hp5) (.cons (.str _) (.cons (.int _) .nil))) f1 f2 f3 f4 fun R H6 hx6 nR hR => ?_
    exact q R H6 (k1.trans (hx6.sub (M := [j, b])).t) (k2.ex hx6) (hx6 _ _ (by simp) k3) hR
  · refine exits H4 _ _ hr (fun H5 hx5 hb5 => ?_) _ _ _
    obtain ⟨k1, k2, k3⟩ := back H4 H5 hr hx5 hb5
    refine qHeard_of (dt := .none) .non rfl rfl (by decide +kernel) (by decide) fun R H6 hx6 nR hR => ?_
    refine q R H6 (k1.trans (hx6.sub (M := [j, b])).t) (k2.ex hx6) (hx6 _ _ (by simp) k3) ?_
    have e1 : ed = 1 := by omega
    rw [hR, e1]
    rfl
  · subst he
    intro σ'
    refine ⟨⟨.ref A.cUnknownName, rfl⟩, exits H4 _ _ hr fun H5 hx5 hb5 => ⟨rfl, ?_⟩⟩
    obtain ⟨k1, k2, k3⟩ := back H4 H5 hr hx5 hb5
    have hdd5 : H5 dd = some (.xd [("given", .str "qq")]) := by
      obtain ⟨ht4, hk4⟩ := at4 H4 hr
      obtain ⟨nd4, mt4, pt4, hb4⟩ := hr.b
      exact hx5 _ _ (by
        intro z
        rcases List.mem_cons.mp z with e | e
        · rw [e, hb4] at hdd
          cases hdd
        · rw [List.mem_singleton.mp e, ht4] at hdd
          cases hdd) hdd
    refine xHeard_err TE (es := [("UnknownName" : Str), showS "qq"]) (.inl ⟨"qq", dd, rfl, by rw [showS, PyData.shown_str]; decide +kernel, rfl, rfl, hdd5⟩) fun R H6 hx6 hR => ?_
    refine q R H6 (k1.trans (hx6.sub (M := [j, b])).t) (k2.ex hx6) (hx6 _ _ (by simp) k3) ?_
    rw [hR]
    have e : showS "qq" = ("'qq'" : Str) := by
      rw [showS, PyData.shown_str]
      decide +kernel
    rw [e]
    rfl
  · subst he
    intro σ'
    refine ⟨⟨.ty "KeyError", rfl⟩, exits H4 _ _ hr fun H5 hx5 hb5 => ⟨rfl, ?_⟩⟩
    obtain ⟨k1, k2, k3⟩ := back H4 H5 hr hx5 hb5
    refine xHeard_key TE fun R H6 hx6 nR hR => ?_
    exact q R H6 (k1.trans (hx6.sub (M := [j, b])).t) (k2.ex hx6) (hx6 _ _ (by simp) k3) hR
end
section
variable {P : Program} {w : World} {K : PySem.W.Frag} {mg : Str → Option Value} {base : Heap} {A : Ad} {PT PR : Addr}
theorem sc__law_tried : FnScope ["_law_jug_here", "_law_book_here", "_law_pages", "_law_deep", "_law_ended", "_law_notes", "_law_about", "_law_told", "_law_due", "_law_fine"] ["_law_jug_here", "_law_book_here", "_law_pages", "_law_deep"] (defScope s__law_tried) :=
  ⟨rfl, rfl, rfl, by decide +kernel, rfl, by decide +kernel, by decide +kernel⟩
theorem b__law_tried {K : PySem.W.Frag} {x q : Str} {f : Addr} {fd : FuncData} (F : Fun K x q s__law_tried f fd) : Binds K fd ["_law_jug_here", "_law_book_here", "_law_pages", "_law_deep"] [] := F.binds (fun _ _ _ _ _ _ us hl => match us, hl with | [_, _, _, _], _ => rfl)
theorem w__law_tried (T : Tx K mg) (TF : TxF K mg w) (B : TxB K mg A) (O : Exs P w K mg base A) (TE : TxE K mg A) (TL : TxL K mg base PT PR) (d k : Nat) (hk : 8 ≤ k)
    (c__law_inside : CanG P w K mg base (L2N.CX P w) k "_law_inside" ["_law_jug_here", "_law_held", "_law_about"] (spInside A PT PR (d + 1))) :
    CanG P w K mg base CX0 (k + 5) "_law_tried" ["_law_jug_here", "_law_book_here", "_law_pages", "_law_deep"] (spTried A PT PR (d + 1)) := by
  have c__law_pull := w__law_pull (P := P) (w := w) (base := base) T
  have c__law_book_is := w__law_book_is (P := P) (w := w) (base := base) T B O
  obtain ⟨gh, fdh, mh, Fh⟩ := id T.d__law_heard
  obtain ⟨gt, fdt, mt, Ft⟩ := id B.d_tried
  obtain ⟨oc2, od2, kV2, doc2, pm2, an2, cdvt, ct2, osl2, efd2, lkt, hct⟩ := Ft.ex
  subst efd2
  refine canGT TL.tried sc__law_tried b__law_tried (fun vs H Q E ⟨j, _, _, _, _, _, _, _, e, _⟩ => by rw [e]; rfl) fun f c Ar outer s H vs Q E hr hgd tb ⟨j, b, dx, l, gs, hist, cur, n, ev, hH, hn, hd, q⟩ => ?_
  subst ev
  refine ⟨_, (pss_cons (ps_par (i := 4) (j := 5) (by rfl) sc__law_tried.nd rfl rfl (by decide) rfl rfl (pa_cons (pe_can c__law_pull (hr.mono (by omega)) (by rfl) pass0 (pa_cons (pv 0) (pa_cons pe_int pa_nil))) (pa_cons (pe_lst pa_nil) pa_nil)) (by rfl))
    (pss_cons (ps_set (i := 6) sc__law_tried.nd rfl (Or.inr rfl) (pe_lst (pa_cons (pv 1) (pa_cons (pv 2) (pa_cons (pv 3) (pa_cons (pv 4) (pa_cons (pv 5) pa_nil)))))))
    (pss_cons (ps_if (pt_cmpR op_eq (pe_can c__law_pull (hr.mono (by omega)) (by rfl) pass0 (pa_cons (pv 0) (pa_cons pe_int pa_nil))) pe_int (nomark _)) (pss_one (ps_set (i := 7) sc__law_tried.nd rfl (Or.inl rfl) (pe_any fun φ => pe_heard (N := ["_law_book_here", "_law_jug_here", "_law_about"]) (fr := ["_law_book_here", "_law_jug_here", "_law_about"]) (js := [1, 0, 6]) (k := k + 2) (φ := φ) (t := fun P2 E2 => tTried A.cBook "tried" P2 qIn (fun _ => True) _ (tVar 0) (fun σ x => startF ["_law_held", "_law_jug_here", "_law_about"] [x] ([1, 2].map (slotAt σ))) (TTried A) (fun E3 => tCall (spInside A PT PR (d + 1)) [] E3 (tCons (tVar 1) (tCons (tVar 0) (tCons (tVar 2) tNil)))) E2) (by rfl) mh Fh (b__law_heard Fh) sc__law_heard rfl (.inl rfl) (fun _ => heard_to T TE hgd (by omega)) tb.bm rfl tb.code rfl (nscope_by (by decide +kernel)) (by show ndefB (defScope s__law_tried) _ _ = true; decide +kernel) rfl hr hgd rfl (fun _ _ _ _ _ => rfl)
      (fun A2 outer2 s2 H2 E2 f2 c2 P2 cl ws hr2 hgd2 L => pe_triedK (N := ["_law_held", "_law_jug_here", "_law_about"]) (fr := ["_law_jug_here", "_law_about"]) (js := [1, 2]) (k := k) (φ := fun _ => True) (E := E2) (pv 0) B.clB mt lkt hct (fun s u v _ => BindsTo.of_eq rfl) sc_Book_tried rfl (.inl rfl) (tried_to B (by omega)) tb.bm rfl (fun pins σ H s I => L.hd I) L.cnf (nscope_by (by decide +kernel)) (by kernel_rfl) rfl hr2 hgd2 rfl (L2N.passes_call (E := E2) (L2N.takes_of rfl rfl rfl rfl) (fun _ _ _ _ h => h)) (fun _ _ _ _ _ us hl => match us, hl with | [_], _ => rfl)
        (fun A3 outer3 s3 H3 E3 f3 c3 P3 cl3 ws3 hr3 hgd3 L3 => pe_canG c__law_inside hr3 hgd3 (by rfl) (L2N.passes_call (E := E3) (L2N.takes_of rfl rfl rfl rfl) (fun _ _ _ _ h => h)) (pa_cons (pv 1) (pa_cons (pv 0) (pa_cons (pv 2) pa_nil)))))))) (pss_one (ps_set (i := 7) sc__law_tried.nd rfl (Or.inl rfl) (pe_any fun φ => pe_heard (N := ["_law_book_here", "_law_jug_here", "_law_about"]) (fr := ["_law_book_here", "_law_jug_here", "_law_about"]) (js := [1, 0, 6]) (k := k + 2) (φ := φ) (t := fun P2 E2 => tTried A.cBook "tried" P2 qIn (fun _ => True) _ (tVar 0) (fun σ x => startF ["_law_held", "_law_jug_here", "_law_about"] [x] ([1, 2].map (slotAt σ))) (TTried A) (fun E3 => tCall (spInside A PT PR (d + 1)) [] E3 (tCons (tVar 1) (tCons (tVar 0) (tCons (tVar 2) tNil)))) E2) (by rfl) mh Fh (b__law_heard Fh) sc__law_heard rfl (.inl rfl) (fun _ => heard_to T TE hgd (by omega)) tb.bm rfl tb.code rfl (nscope_by (by decide +kernel)) (by show ndefB (defScope s__law_tried) _ _ = true; decide +kernel) rfl hr hgd rfl (fun _ _ _ _ _ => rfl)
      (fun A2 outer2 s2 H2 E2 f2 c2 P2 cl ws hr2 hgd2 L => pe_tried (kpos := ⟨0, 0, 0, 0⟩) (N := ["_law_held", "_law_jug_here", "_law_about"]) (fr := ["_law_jug_here", "_law_about"]) (js := [1, 2]) (k := k) (φ := fun _ => True) (E := E2) (pv 0) B.clB mt lkt hct (b_Book_tried Ft) sc_Book_tried rfl (.inl rfl) (tried_to B (by omega)) tb.bm rfl (fun pins σ H s I => L.hd I) L.cnf (nscope_by (by decide +kernel)) (by kernel_rfl) rfl hr2 hgd2 rfl (L2N.passes_call (E := E2) (L2N.takes_of rfl rfl rfl rfl) (fun _ _ _ _ h => h)) (fun _ _ _ _ _ us hl => match us, hl with | [_], _ => rfl)
        (fun A3 outer3 s3 H3 E3 f3 c3 P3 cl3 ws3 hr3 hgd3 L3 => pe_canG c__law_inside hr3 hgd3 (by rfl) (L2N.passes_call (E := E3) (L2N.takes_of rfl rfl rfl rfl) (fun _ _ _ _ h => h)) (pa_cons (pv 1) (pa_cons (pv 0) (pa_cons (pv 2) pa_nil)))))))))
    (pss_cons (ps_set (i := 8) sc__law_tried.nd rfl (Or.inl rfl) (pe_ix ix_list (pe_lst (pa_cons (pe_lst (pa_cons pe_str (pa_cons (pe_callB (call_repr hgd hr.units) (by rfl) T.m_repr (by decide +kernel) (pa_cons (pe_tup (pa_cons pe_str (pa_cons (pv 3) pa_nil))) pa_nil)) pa_nil))) (pa_cons (pe_lst (pa_cons pe_str (pa_cons pe_str pa_nil))) (pa_cons (pe_lst (pa_cons pe_str (pa_cons pe_str pa_nil))) (pa_cons (pe_lst (pa_cons pe_str pa_nil)) pa_nil))))) (pv 4) (fun _ _ => rfl)))
    (pss_cons (ps_set (i := 9) sc__law_tried.nd rfl (Or.inl rfl) (pe_and (pe_cmpR (op_eqS hr.units0) (pv 7) (pv 8) (nomark _)) (pe_one (pe_cmpR (op_eqS hr.units0) (pv 5) (pe_lst (pa_cons pe_str pa_nil)) (nomark _)))))
    (pss_one (ps_ret (pe_ifExp (PW.pt (pw_and (pt_val (pv 9)) (pw_and1 (pt_val (pe_canG c__law_book_is (hr.mono (by omega)) hgd (by rfl) pass0 (pa_cons (pv 1) (pa_cons (pe_ix ix_list (pv 2) (pe_un un_neg pe_int) (fun _ _ => rfl)) (pa_cons (pe_op op_sub (pe_callB call_len (by rfl) T.m_len (by decide +kernel) (pa_cons (pv 2) pa_nil)) pe_int) pa_nil)))))))) (pv 2) (pe_lst pa_nil))))))))), ?_⟩
  obtain ⟨nd, mt0, pt, hb, _⟩ := id hH.b
  refine ⟨_, rfl, j, 4, rfl, hH.j, by decide, by decide, fun ed H1 hed hx1 hj1 => ?_⟩
  have hH1 := hH.jug hx1 hj1
  refine ⟨by show 0 ≤ sizeLine; decide, fun no nno => ⟨_, _, rfl, ?_⟩⟩
  have hH2 := hH1.ex (Ex.new0 (o := .lst []) nno)
  refine ⟨_, rfl, _, rfl, _, rfl, _, rfl, _, rfl, by show 5 ≤ sizeLine; decide, fun ab nab => ?_⟩
  have hno3 := upN (o := .lst [.ref b, .ref l, .int ((d + 1 : Nat) : Int), .int (ed : Nat), .ref no]) nab (show upd H1 no (.lst []) no = _ from upd_same)
  have hab3 : upd (upd H1 no (.lst [])) ab (.lst [.ref b, .ref l, .int ((d + 1 : Nat) : Int), .int (ed : Nat), .ref no]) ab = _ := upd_same
  have hH3 := hH2.ex (Ex.new0 (o := .lst [.ref b, .ref l, .int ((d + 1 : Nat) : Int), .int (ed : Nat), .ref no]) nab)
  have hx13 : Ex [] H1 (upd (upd H1 no (.lst [])) ab (.lst [.ref b, .ref l, .int ((d + 1 : Nat) : Int), .int (ed : Nat), .ref no])) := (Ex.new0 nno).new nab
  generalize upd (upd H1 no (.lst [])) ab (.lst [.ref b, .ref l, .int ((d + 1 : Nat) : Int), .int (ed : Nat), .ref no]) = H3 at hno3 hab3 hH3 hx13 ⊢
  refine ⟨_, rfl, j, 2, rfl, hH3.j, by decide, by decide, fun wy H4 hwy hx4 hj4 => ?_⟩
  have hH4 := hH3.jug hx4 hj4
  have hnoj : no ≠ j := hH1.j.ne nno
  have habj : ab ≠ j := hH3.j.no hab3 trivial
  have hno4 := hx4 _ _ (by simpa using hnoj) hno3
  have hab4 := hx4 _ _ (by simpa using habj) hab3
  have hx14 : Ex [j] H1 H4 := hx13.sub.trans hx4
  walk_at "g"
  refine ite2 (fun _ => ?_) fun _ => ?_
  · refine heard_inside TE TL.ne hH1 hx14 nno hH4 hab4 hno4 hn hd hed fun R H5 hx5 hH5 hno5 hR => ?_
    obtain ⟨f1, f2, f3, f4⟩ := end_fine (d := d + 1) (by omega)
    refine ⟨_, rfl, by show 2 ≤ sizeLine; decide, fun tp ntp => ?_⟩
    refine ⟨_, endD (d + 1), rfl, .tup (SqT.of upd_same) (.cons (.str _) (.cons (.int _) .nil)), f1, f2, f3, f4, by show 2 ≤ sizeLine; decide, fun p1 np1 => ⟨by show 2 ≤ sizeLine; decide, fun p2 np2 => ⟨by show 2 ≤ sizeLine; decide, fun p3 np3 => ⟨by show 1 ≤ sizeLine; decide, fun p4 np4 => ⟨by show 4 ≤ sizeLine; decide, fun pl npl => ?_⟩⟩⟩⟩⟩
    obtain ⟨du, hat, hdu⟩ := due_at (d := d + 1) (H := upd H5 tp (.tup [.str "end", .int ((d + 1 : Nat) : Int)])) hed np1 np2 np3 np4 npl
    have hx6 := (((((Ex.new0 (M := []) (o := .tup [.str "end", .int ((d + 1 : Nat) : Int)]) ntp).new (o := .lst [.str "told", .str (endD (d + 1)).shown]) np1).new (o := .lst [.str "told", .str "None"]) np2).new (o := .lst [.str "UnknownName", .str "'qq'"]) np3).new (o := .lst [.str "plain"]) np4).new (o := .lst [.ref p1, .ref p2, .ref p3, .ref p4]) npl
    refine ⟨_, rfl, _, _, _, .ref du, rfl, rfl, SqL.of upd_same, hat, ?_⟩
    show tSeq _ _ _ _ (upd (upd (upd (upd (upd (upd H5 tp (.tup [.str "end", .int ((d + 1 : Nat) : Int)])) p1 (.lst [.str "told", .str (endD (d + 1)).shown])) p2 (.lst [.str "told", .str "None"])) p3 (.lst [.str "UnknownName", .str "'qq'"])) p4 (.lst [.str "plain"])) pl (.lst [.ref p1, .ref p2, .ref p3, .ref p4]))
    generalize upd (upd (upd (upd (upd (upd H5 tp (.tup [.str "end", .int ((d + 1 : Nat) : Int)])) p1 (.lst [.str "told", .str (endD (d + 1)).shown])) p2 (.lst [.str "told", .str "None"])) p3 (.lst [.str "UnknownName", .str "'qq'"])) p4 (.lst [.str "plain"])) pl (.lst [.ref p1, .ref p2, .ref p3, .ref p4]) = H6 at hx6 hdu ⊢
    have hH6 := hH5.ex hx6
    refine ⟨_, rfl, _, rfl, R, du, _, rfl, rfl, SqL.of (hx6 _ _ (by simp) hR), SqL.of hdu, _, rfl, ?_⟩
    refine ⟨_, rfl, by show 1 ≤ sizeLine; decide, fun pf npf => ?_⟩
    have hH7 := hH6.ex (Ex.new0 (o := .lst [.str "fine"]) npf)
    have hx7 := hx6.new (o := .lst [.str "fine"]) npf
    refine ⟨no, pf, [("fine" : Str)], rfl, rfl, SqL.of (hx7 _ _ (by simp) hno5), SqL.of upd_same, ?_⟩
    obtain ⟨gs0, g, egs, _, hpg⟩ := hH7.g.last
    have hat2 : atI (gs.map V.ref) (-1) = some (.ref g) := by rw [egs]; exact atI_last
    have hgl := hH7.g.len
    rw [List.length_append, List.length_singleton] at hgl
    have hle := hH7.ok.len
    rw [List.length_append, List.length_singleton] at hle
    have hcur := hH7.ok.ok cur (by simp)
    refine ⟨_, rfl, _, rfl, _, rfl, _, rfl, _, rfl, _, _, _, .ref g, rfl, rfl, SqL.of hH7.l, hat2, _, rfl, _, _, rfl, .inl ⟨_, SqL.of hH7.l, rfl⟩, _, _, rfl, rfl, b, dx, hist, cur, g, ?_, hH7.b, hpg, hcur.1, by omega, by omega, fun H8 hx8 => ?_⟩
    · show [V.ref b, V.ref g, V.int (((gs.map V.ref).length : Nat) - 1)] = _
      rw [List.length_map, show ((gs.length : Nat) : Int) - 1 = (hist.length : Int) by omega]
    · refine ⟨_, rfl, _, rfl, ?_⟩
      exact q H8 ((hx1.t.mono (by simp)).trans ((hx5.trans (hx7.sub (M := [j, b])).t).trans (hx8.sub (M := [j, b])).t)) (hH7.ex hx8)
  · refine heard_inside TE TL.ne hH1 hx14 nno hH4 hab4 hno4 hn hd hed fun R H5 hx5 hH5 hno5 hR => ?_
    obtain ⟨f1, f2, f3, f4⟩ := end_fine (d := d + 1) (by omega)
    refine ⟨_, rfl, by show 2 ≤ sizeLine; decide, fun tp ntp => ?_⟩
    refine ⟨_, endD (d + 1), rfl, .tup (SqT.of upd_same) (.cons (.str _) (.cons (.int _) .nil)), f1, f2, f3, f4, by show 2 ≤ sizeLine; decide, fun p1 np1 => ⟨by show 2 ≤ sizeLine; decide, fun p2 np2 => ⟨by show 2 ≤ sizeLine; decide, fun p3 np3 => ⟨by show 1 ≤ sizeLine; decide, fun p4 np4 => ⟨by show 4 ≤ sizeLine; decide, fun pl npl => ?_⟩⟩⟩⟩⟩
    obtain ⟨du, hat, hdu⟩ := due_at (d := d + 1) (H := upd H5 tp (.tup [.str "end", .int ((d + 1 : Nat) : Int)])) hed np1 np2 np3 np4 npl
    have hx6 := (((((Ex.new0 (M := []) (o := .tup [.str "end", .int ((d + 1 : Nat) : Int)]) ntp).new (o := .lst [.str "told", .str (endD (d + 1)).shown]) np1).new (o := .lst [.str "told", .str "None"]) np2).new (o := .lst [.str "UnknownName", .str "'qq'"]) np3).new (o := .lst [.str "plain"]) np4).new (o := .lst [.ref p1, .ref p2, .ref p3, .ref p4]) npl
    refine ⟨_, rfl, _, _, _, .ref du, rfl, rfl, SqL.of upd_same, hat, ?_⟩
    show tSeq _ _ _ _ (upd (upd (upd (upd (upd (upd H5 tp (.tup [.str "end", .int ((d + 1 : Nat) : Int)])) p1 (.lst [.str "told", .str (endD (d + 1)).shown])) p2 (.lst [.str "told", .str "None"])) p3 (.lst [.str "UnknownName", .str "'qq'"])) p4 (.lst [.str "plain"])) pl (.lst [.ref p1, .ref p2, .ref p3, .ref p4]))
    generalize upd (upd (upd (upd (upd (upd H5 tp (.tup [.str "end", .int ((d + 1 : Nat) : Int)])) p1 (.lst [.str "told", .str (endD (d + 1)).shown])) p2 (.lst [.str "told", .str "None"])) p3 (.lst [.str "UnknownName", .str "'qq'"])) p4 (.lst [.str "plain"])) pl (.lst [.ref p1, .ref p2, .ref p3, .ref p4]) = H6 at hx6 hdu ⊢
    have hH6 := hH5.ex hx6
    refine ⟨_, rfl, _, rfl, R, du, _, rfl, rfl, SqL.of (hx6 _ _ (by simp) hR), SqL.of hdu, _, rfl, ?_⟩
    refine ⟨_, rfl, by show 1 ≤ sizeLine; decide, fun pf npf => ?_⟩
    have hH7 := hH6.ex (Ex.new0 (o := .lst [.str "fine"]) npf)
    have hx7 := hx6.new (o := .lst [.str "fine"]) npf
    refine ⟨no, pf, [("fine" : Str)], rfl, rfl, SqL.of (hx7 _ _ (by simp) hno5), SqL.of upd_same, ?_⟩
    obtain ⟨gs0, g, egs, _, hpg⟩ := hH7.g.last
    have hat2 : atI (gs.map V.ref) (-1) = some (.ref g) := by rw [egs]; exact atI_last
    have hgl := hH7.g.len
    rw [List.length_append, List.length_singleton] at hgl
    have hle := hH7.ok.len
    rw [List.length_append, List.length_singleton] at hle
    have hcur := hH7.ok.ok cur (by simp)
    refine ⟨_, rfl, _, rfl, _, rfl, _, rfl, _, rfl, _, _, _, .ref g, rfl, rfl, SqL.of hH7.l, hat2, _, rfl, _, _, rfl, .inl ⟨_, SqL.of hH7.l, rfl⟩, _, _, rfl, rfl, b, dx, hist, cur, g, ?_, hH7.b, hpg, hcur.1, by omega, by omega, fun H8 hx8 => ?_⟩
    · show [V.ref b, V.ref g, V.int (((gs.map V.ref).length : Nat) - 1)] = _
      rw [List.length_map, show ((gs.length : Nat) : Int) - 1 = (hist.length : Int) by omega]
    · refine ⟨_, rfl, _, rfl, ?_⟩
      exact q H8 ((hx1.t.mono (by simp)).trans ((hx5.trans (hx7.sub (M := [j, b])).t).trans (hx8.sub (M := [j, b])).t)) (hH7.ex hx8)
end
end G
-- Yh
set_option pp.maxSteps 800
set_option Elab.async false
set_option linter.all false
set_option maxRecDepth 100000
set_option maxHeartbeats 800000
namespace G
open PySem PySem.Spec PyProof.Rows L2 LamX NdefX
local macro_rules | `(tactic| walk_at "g") => `(tactic| repeat (first | refine ⟨_, rfl, ?_⟩ | refine ⟨_, _, rfl, ?_⟩ | refine ⟨_, _, _, rfl, ?_⟩ | refine ⟨_, _, rfl, rfl, ?_⟩ | refine ⟨rfl, ?_⟩))
local macro_rules | `(tactic| walk_at "w") => `(tactic| repeat (first | refine ⟨_, rfl, ?_⟩ | refine ⟨_, _, rfl, ?_⟩ | refine ⟨_, _, _, rfl, ?_⟩ | refine ⟨_, _, rfl, rfl, ?_⟩ | refine ⟨rfl, ?_⟩ | refine Or.inl ⟨_, rfl, ?_⟩ | refine ⟨_, _, rfl, .inr ⟨_, SqT.of (by assumption), rfl⟩, ?_⟩ | refine ⟨_, _, rfl, .inl ⟨_, SqL.of (by assumption), rfl⟩, ?_⟩ | refine ⟨_, _, _, _, rfl, rfl, SqT.of (by assumption), (by rfl), ?_⟩ | refine ⟨_, _, _, _, rfl, rfl, SqL.of (by assumption), (by rfl), ?_⟩ | refine ⟨_, _, _, _, rfl, rfl, SqL.of upd_same, (by rfl), ?_⟩ | refine ⟨_, _, _, _, rfl, rfl, (by assumption), (by rfl), ?_⟩ | refine ⟨_, _, _, _, rfl, rfl, upd_same, (by rfl), ?_⟩))
section
variable {P : Program} {w : World} {K : PySem.W.Frag} {mg : Str → Option Value} {base : Heap}
variable {A : Ad} {PT PR : Addr}
theorem CanG.imp {CX : CXT} {x : Str} {ps : List Str} {k : Nat} {sp sp' : Sp} (c : CanG P w K mg base CX k x ps sp) (h : ∀ vs H Q E, sp' vs H Q E → sp vs H Q E) : CanG P w K mg base CX k x ps sp' := by
  obtain ⟨f, fd, hm, hk, F, b⟩ := c
  exact ⟨f, fd, hm, hk, ⟨fun vs H Q E z => F.len vs H Q E (h _ _ _ _ z), fun A outer s H args us vs Q E hr hg e0 hb r z => F.run A outer s H args us vs Q E hr hg e0 hb r (h _ _ _ _ z)⟩, b⟩
theorem turn_all (T : Tx K mg) (TF : TxF K mg w) (B : TxB K mg A) (O : Exs P w K mg base A) (TE : TxE K mg A) (TL : TxL K mg base PT PR) (hcmp : cmpIn K A.cBook = true) : ∀ d : Nat,
    CanG P w K mg base CX0 (16 + 7 * d) "_law_turn" ["_law_jug_here", "_law_book_here", "_law_pages", "_law_deep"] (spTurn A PT PR d)
  | 0 => w__law_turn T TF B O TE TL 0 15 (by decide) (by
      obtain ⟨f, fd, hm, F⟩ := T.d__law_tried
      exact ⟨f, fd, hm, F.kp, ⟨fun vs H Q E z => absurd z.1 (by decide), fun A outer s H args us vs Q E hr hg e0 hb r z => absurd z.1 (by decide)⟩, b__law_tried F⟩)
  | d + 1 => by
    have ih := turn_all T TF B O TE TL hcmp d
    have hi := w__law_inside T B O hcmp d (16 + 7 * d) (by omega) ih
    have ht := w__law_tried T TF B O TE TL d (16 + 7 * d + 1) (by omega) hi
    have hl := w__law_turn T TF B O TE TL (d + 1) (16 + 7 * d + 1 + 5) (by omega) (ht.imp fun vs H Q E z => z.2)
    rw [show 16 + 7 * (d + 1) = 16 + 7 * d + 1 + 5 + 1 by omega]
    exact hl
def spRight (PT PR : Addr) : Sp := fun vs H Q _ => ∃ j, vs = [.ref j] ∧ JugAt H j ∧ TI PT PR H ∧ ∀ H', ExT [j] H H' → TI PT PR H' → Q (.bl true) H'
theorem sc__law_right : FnScope ["_law_jug_here", "_law_book_here", "_law_pages", "_law_turn_here"] ["_law_jug_here"] (defScope s__law_right) :=
  ⟨rfl, rfl, rfl, by decide +kernel, rfl, by decide +kernel, by decide +kernel⟩
theorem b__law_right {K : PySem.W.Frag} {x q : Str} {f : Addr} {fd : FuncData} (F : Fun K x q s__law_right f fd) : Binds K fd ["_law_jug_here"] [] := F.binds (fun _ _ _ _ _ _ us hl => match us, hl with | [_], _ => rfl)
theorem w__law_right (T : Tx K mg) (TF : TxF K mg w) (B : TxB K mg A) (O : Exs P w K mg base A) (TE : TxE K mg A) (TL : TxL K mg base PT PR) (hcmp : cmpIn K A.cBook = true) :
    CanG P w K mg base CX0 38 "_law_right" ["_law_jug_here"] (spRight PT PR) := by
  have c__law_turn := turn_all T TF B O TE TL hcmp 3
  have c_Book := w_Book_init (P := P) (w := w) (base := base) B
  have c_trial := w_trial (P := P) (w := w) (base := base) B
  have c__law_book_is := w__law_book_is (P := P) (w := w) (base := base) T B O
  refine canG0 T.d__law_right sc__law_right b__law_right (fun vs H Q E ⟨j, e, _⟩ => by rw [e]; rfl) fun f cdv Ar outer s H vs Q E hr hgd hcd ⟨j, ev, hj, ht, q⟩ => ?_
  subst ev
  refine ⟨_, (pss_cons (ps_par (i := 1) (j := 2) (by rfl) sc__law_right.nd rfl rfl (by decide) rfl rfl (pa_cons (pe_canI0 c_Book (hr.mono (by decide)) (by rfl) B.gB pass0) (pa_cons (pe_lst (pa_cons (pe_tup (pa_cons pe_dnewK (pa_cons (pe_lst pa_nil) pa_nil))) pa_nil)) pa_nil)) (by rfl))
    (pss_cons (ps_for PassesOwn.never (by rfl) (pi_range1 (by rfl) T.m_range (pa_cons pe_int pa_nil)) (pg_name (i := 3) sc__law_right.nd rfl (Or.inl rfl)) (pss_cons (ps_set (i := 2) sc__law_right.nd rfl (Or.inl rfl) (pe_canG c__law_turn (hr.mono (by decide)) hgd (by rfl) pass0 (pa_cons (pv 0) (pa_cons (pv 1) (pa_cons (pv 2) (pa_cons pe_int pa_nil))))))
    (pss_one (ps_if (PW.pt (pw_or (pt_cmpR (op_eqE hr.units0) (pv 2) (pe_lst pa_nil) (nomark _)) (pw_or (pt_cmpR op_isN (pe_canM0 (pv 1) B.clB c_trial (hr.mono (by decide)) pass0) pe_non (nomark _)) (pw_or1 (pt_not (pt_val (pe_canG c__law_book_is (hr.mono (by decide)) hgd (by rfl) pass0 (pa_cons (pv 1) (pa_cons (pe_ix ix_list (pv 2) (pe_un un_neg pe_int) (fun _ _ => rfl)) (pa_cons (pe_op op_sub (pe_callB call_len (by rfl) T.m_len (by decide +kernel) (pa_cons (pv 2) pa_nil)) pe_int) pa_nil)))))))))) (pss_one (ps_ret pe_bl)) pss_nil))))
    (pss_one (ps_ret pe_bl)))), ?_⟩
  refine fun b dx nb ndx nex => ⟨b, dx, rfl, upd_same, fun nd mt pt H1 hx1 hb1 hnd hmt hpt => ⟨rfl, ?_⟩⟩
  have hx1' : Ex [] H H1 := fun a o n e => hx1 a o (by simp; exact ne_of_none e nb) (by
    rw [upd_ne (ne_of_none e nb), upd_ne (ne_of_none e ndx)]
    exact e)
  refine fun d0 nd0 => ⟨by show 0 ≤ sizeLine; decide, fun l0 nl0 => ⟨by show 2 ≤ sizeLine; decide, fun g0 ng0 => ⟨by show 1 ≤ sizeLine; decide, fun lp nlp => ⟨_, _, rfl, ?_⟩⟩⟩⟩
  have hx2 := (((Ex.new0 (M := []) (o := .dK []) nd0).new (o := .lst []) nl0).new (o := .tup [.ref d0, .ref l0]) ng0).new (o := .lst [.ref g0]) nlp
  have hg0 := upN (o := .lst [.ref g0]) nlp (upN (o := .tup [.ref d0, .ref l0]) ng0 (upN (o := .lst []) nl0 (show upd H1 d0 (.dK []) d0 = _ from upd_same)))
  have hg1 := upN (o := .lst [.ref g0]) nlp (upN (o := .tup [.ref d0, .ref l0]) ng0 (show upd (upd H1 d0 (.dK [])) l0 (.lst []) l0 = _ from upd_same))
  have hg2 := upN (o := .lst [.ref g0]) nlp (show upd (upd (upd H1 d0 (.dK [])) l0 (.lst [])) g0 (.tup [.ref d0, .ref l0]) g0 = _ from upd_same)
  have hg3 : upd (upd (upd (upd H1 d0 (.dK [])) l0 (.lst [])) g0 (.tup [.ref d0, .ref l0])) lp (.lst [.ref g0]) lp = _ := upd_same
  generalize upd (upd (upd (upd H1 d0 (.dK [])) l0 (.lst [])) g0 (.tup [.ref d0, .ref l0])) lp (.lst [.ref g0]) = H2 at hx2 hg0 hg1 hg2 hg3 ⊢
  have hx02 := hx1'.trans hx2
  have hH2 : Here A PT PR H2 j b dx lp [g0] [] ([], []) 1 := by
    obtain ⟨d1, m1, c1, hj1⟩ := hj
    refine ⟨⟨d1, m1, c1, hx02 _ _ (by simp) hj1⟩, ⟨nd, mt, pt, hx2 _ _ (by simp) hb1, [], hx2 _ _ (by simp) hpt, ⟨⟨[], hx2 _ _ (by simp) hnd, .nil⟩, [], hx2 _ _ (by simp) hmt, .nil⟩, .nil⟩, hg3, .cons ⟨d0, l0, [], hg2, ⟨[], hg0, .nil⟩, hg1, .nil⟩ .nil, ⟨Nat.le_refl _, fun p hp => ?_⟩, ht.ex SoftL.nil hx02⟩
    rw [show p = ([], []) by simpa using hp]
    exact ⟨⟨List.nodup_nil, fun e he => (by cases he), rfl⟩, Nat.zero_le _⟩
  refine ⟨8, rfl, by decide, by decide, for_range (n := 8) (fun i σ H' => ∃ l gs hist cur t, ExT [j, b] H2 H' ∧ Here A PT PR H' j b dx l gs hist cur (1 + i) ∧ σ = [some (.ref j), some (.ref b), some (.ref l), t]) ⟨lp, [g0], [], ([], []), none, ExT.refl _ _, hH2, rfl⟩ ?_ ?_⟩
  · rintro i σ H' hi ⟨l, gs, hist, cur, t, hx, hHi, rfl⟩
    refine ⟨_, rfl, _, rfl, _, rfl, j, b, dx, l, gs, hist, cur, 1 + i, rfl, hHi, by omega, by omega, fun l2 gs2 hist2 cur2 H4 hx4 hH4 => ?_⟩
    have hgl := hH4.g.len
    rw [List.length_append, List.length_singleton] at hgl
    have hne : ¬ (gs2.map V.ref) = [] := fun y => by
      have := List.map_eq_nil_iff.mp y
      rw [this] at hgl
      simp at hgl
    refine ⟨_, rfl, by show 0 ≤ sizeLine; decide, fun e ne => ?_⟩
    refine ⟨l2, e, _, [], rfl, rfl, .inl ⟨SqL.of (upN ne hH4.l), SqL.of upd_same⟩, .inr rfl, _, rfl, ?_⟩
    rw [decide_eq_false hne]
    have hHe := hH4.ex (Ex.new0 (o := .lst []) ne)
    obtain ⟨nd5, mt5, pt5, hb5, _⟩ := id hHe.b
    refine ⟨_, rfl, b, dx, _, rfl, hb5, rfl, b, rfl, fun tr dxt H5 hx5 ntr htr => ?_⟩
    have hH5 := hHe.ex hx5
    refine ⟨rfl, _, rfl, ?_⟩
    obtain ⟨gs0, g, egs, _, hpg⟩ := hH5.g.last
    have hat2 : atI (gs2.map V.ref) (-1) = some (.ref g) := by rw [egs]; exact atI_last
    have hle := hH5.ok.len
    rw [List.length_append, List.length_singleton] at hle
    have hcur := hH5.ok.ok cur2 (by simp)
    refine ⟨_, rfl, _, rfl, _, rfl, _, _, _, .ref g, rfl, rfl, SqL.of hH5.l, hat2, _, rfl, _, _, rfl, .inl ⟨_, SqL.of hH5.l, rfl⟩, _, _, rfl, rfl, b, dx, hist2, cur2, g, ?_, hH5.b, hpg, hcur.1, by omega, by omega, fun H6 hx6 => ?_⟩
    · show [V.ref b, V.ref g, V.int (((gs2.map V.ref).length : Nat) - 1)] = _
      rw [List.length_map, show ((gs2.length : Nat) : Int) - 1 = (hist2.length : Int) by omega]
    · refine ⟨_, rfl, ?_⟩
      have hH6 := hH5.ex hx6
      exact ⟨l2, gs2, hist2, cur2, _, ((hx.trans hx4).trans ((Ex.new0 ne).sub (M := [j, b])).t).trans ((hx5.trans hx6).sub (M := [j, b])).t, by rw [show 1 + (i + 1) = 1 + i + 1 by omega]; exact hH6, rfl⟩
  · rintro σ H' ⟨l, gs, hist, cur, t, hx, hHi, rfl⟩
    refine q H' ?_ hHi.t
    exact ExT.cut (Ns := [b]) ((hx02.t.mono (by simp)).trans (hx.mono (by simp))) fun a ha => by rw [List.mem_singleton.mp ha]; exact nb
def spLaw (K : PySem.W.Frag) (PT PR : Addr) : Sp := fun vs H Q _ => ∃ (a : Addr) (ns : List Int), vs = [.ref a] ∧ SqL K H a (ns.map V.int) ∧ ns.length ≤ 1000 ∧ TI PT PR H ∧ ∀ H', Q (.bl true) H'
theorem sqL_ext {K : PySem.W.Frag} {H H' : Hp} {a : Addr} {xs : List V} (h : SqL K H a xs) (x : ExT [] H H') : SqL K H' a xs := by
  rcases h with (h | ⟨o, h⟩) | h
  · exact .inl (.inl (x _ _ (by simp) (fun ps z => by cases z) h))
  · exact .inl (.inr ⟨o, x _ _ (by simp) (fun ps z => by cases z) h⟩)
  · exact .inr h
theorem sc_law : FnScope ["_law_cells", "_law_k"] ["_law_cells"] (defScope s_law) :=
  ⟨rfl, rfl, rfl, by decide +kernel, rfl, by decide +kernel, by decide +kernel⟩
theorem b_law {K : PySem.W.Frag} {x q : Str} {f : Addr} {fd : FuncData} (F : Fun K x q s_law f fd) : Binds K fd ["_law_cells"] [] := F.binds (fun _ _ _ _ _ _ us hl => match us, hl with | [_], _ => rfl)
theorem w_law (T : Tx K mg) (TF : TxF K mg w) (B : TxB K mg A) (O : Exs P w K mg base A) (TE : TxE K mg A) (TL : TxL K mg base PT PR) (hcmp : cmpIn K A.cBook = true) :
    CanG P w K mg base CX0 40 "law" ["_law_cells"] (spLaw K PT PR) := by
  have c__law_right := w__law_right T TF B O TE TL hcmp
  have c__law_jug := w__law_jug (P := P) (w := w) (base := base) T
  refine canG0 T.d_law sc_law b_law (fun vs H Q E ⟨a, ns, e, _⟩ => by rw [e]; rfl) fun f cdv Ar outer s H vs Q E hr hgd hcd ⟨a, ns, ev, ha, hn, ht, q⟩ => ?_
  subst ev
  refine ⟨_, (pss_cons (ps_for PassesOwn.never (by rfl) (pi_range1 (by rfl) T.m_range (pa_cons (pe_callB (call_max2 rfl) (by rfl) T.m_max (by decide +kernel) (pa_cons pe_int (pa_cons (pe_callB (call_min2 rfl) (by rfl) T.m_min (by decide +kernel) (pa_cons (pe_callB call_len (by rfl) T.m_len (by decide +kernel) (pa_cons (pv 0) pa_nil)) (pa_cons pe_int pa_nil))) pa_nil))) pa_nil)) (pg_name (i := 1) sc_law.nd rfl (Or.inl rfl)) (pss_one (ps_if (pt_not (pt_val (pe_canG c__law_right (hr.mono (by decide)) hgd (by rfl) pass0 (pa_cons (pe_can c__law_jug (hr.mono (by decide)) (by rfl) pass0 (pa_cons (pv 0) (pa_cons (pv 1) pa_nil))) pa_nil)))) (pss_one (ps_ret pe_bl)) pss_nil)))
    (pss_one (ps_ret pe_bl))), ?_⟩
  refine ⟨_, rfl, _, _, rfl, .inl ⟨_, ha, rfl⟩, _, _, rfl, _, _, rfl, _, rfl, ?_, ?_, for_range (fun i σ H' => ExT [] H H' ∧ TI PT PR H' ∧ ∃ t, σ = [some (.ref a), t]) ⟨ExT.refl _ _, ht, none, rfl⟩ ?_ ?_⟩
  · split <;> split <;> omega
  · split <;> split <;> omega
  · rintro i σ H' hi ⟨hx, ht', t, rfl⟩
    have hi2 : i < 1000 := by
      refine Nat.lt_of_lt_of_le hi ?_
      split <;> split <;> omega
    refine ⟨_, rfl, _, rfl, a, ns, i, ?_, sqL_ext ha hx, hn, by omega, fun H2 x2 => sqL_ext (sqL_ext ha hx) x2.t, fun p H2 hx2 hj2 np => ?_⟩
    · show [V.ref a, V.int (0 + (i : Nat))] = _
      rw [Int.zero_add]
    · have hT2 := ht'.ex SoftL.nil hx2
      refine ⟨p, rfl, hj2, hT2, fun H3 hx3 ht3 => ⟨_, rfl, ?_⟩⟩
      exact ⟨hx.trans (ExT.cut (Ms := []) (Ns := [p]) ((hx2.t.mono (by simp)).trans (hx3.mono (by simp))) (fun b hb => by rw [List.mem_singleton.mp hb]; exact np)), ht3, _, rfl⟩
  · rintro σ H' ⟨hx, ht', t, rfl⟩
    exact q H'
end
end G
-- Zhead
set_option Elab.async false
set_option linter.all false
set_option maxRecDepth 100000
set_option maxHeartbeats 0
/-! the head: what the program's top leaves, by a kernel run -/
namespace G
open PySem PySem.Spec PyProof.Rows L2
def d_InvalidName_init : He.DefD := ⟨("InvalidName", some "__init__"), "__init__", "InvalidName.__init__", defArgs s_InvalidName_init, defBody s_InvalidName_init, defScope s_InvalidName_init, [], []⟩
def d_InvalidNumber_init : He.DefD := ⟨("InvalidNumber", some "__init__"), "__init__", "InvalidNumber.__init__", defArgs s_InvalidNumber_init, defBody s_InvalidNumber_init, defScope s_InvalidNumber_init, [], []⟩
def d_InvalidWish_init : He.DefD := ⟨("InvalidWish", some "__init__"), "__init__", "InvalidWish.__init__", defArgs s_InvalidWish_init, defBody s_InvalidWish_init, defScope s_InvalidWish_init, [], []⟩
def d_InvalidIndex_init : He.DefD := ⟨("InvalidIndex", some "__init__"), "__init__", "InvalidIndex.__init__", defArgs s_InvalidIndex_init, defBody s_InvalidIndex_init, defScope s_InvalidIndex_init, [], []⟩
def d_UnknownName_init : He.DefD := ⟨("UnknownName", some "__init__"), "__init__", "UnknownName.__init__", defArgs s_UnknownName_init, defBody s_UnknownName_init, defScope s_UnknownName_init, [], []⟩
def d_Broken_init : He.DefD := ⟨("Broken", some "__init__"), "__init__", "Broken.__init__", defArgs s_Broken_init, defBody s_Broken_init, defScope s_Broken_init, [], []⟩
def d_InUse_init : He.DefD := ⟨("InUse", some "__init__"), "__init__", "InUse.__init__", defArgs s_InUse_init, defBody s_InUse_init, defScope s_InUse_init, [], []⟩
def d_is_integer : He.DefD := ⟨("is_integer", none), "is_integer", "is_integer", defArgs s_is_integer, defBody s_is_integer, defScope s_is_integer, [], []⟩
def d_is_between : He.DefD := ⟨("is_between", none), "is_between", "is_between", defArgs s_is_between, defBody s_is_between, defScope s_is_between, [], []⟩
def d_is_name : He.DefD := ⟨("is_name", none), "is_name", "is_name", defArgs s_is_name, defBody s_is_name, defScope s_is_name, [], []⟩
def d_power_of : He.DefD := ⟨("power_of", none), "power_of", "power_of", defArgs s_power_of, defBody s_power_of, defScope s_power_of, [], []⟩
def d_common_divisor : He.DefD := ⟨("common_divisor", none), "common_divisor", "common_divisor", defArgs s_common_divisor, defBody s_common_divisor, defScope s_common_divisor, [], []⟩
def d_floor_root : He.DefD := ⟨("floor_root", none), "floor_root", "floor_root", defArgs s_floor_root, defBody s_floor_root, defScope s_floor_root, [], []⟩
def d_is_power : He.DefD := ⟨("is_power", none), "is_power", "is_power", defArgs s_is_power, defBody s_is_power, defScope s_is_power, [], []⟩
def d_prime_divisors : He.DefD := ⟨("prime_divisors", none), "prime_divisors", "prime_divisors", defArgs s_prime_divisors, defBody s_prime_divisors, defScope s_prime_divisors, [], []⟩
def d_is_number : He.DefD := ⟨("is_number", none), "is_number", "is_number", defArgs s_is_number, defBody s_is_number, defScope s_is_number, [], []⟩
def d_check_number : He.DefD := ⟨("check_number", none), "check_number", "check_number", defArgs s_check_number, defBody s_check_number, defScope s_check_number, [], []⟩
def d_lowest : He.DefD := ⟨("lowest", none), "lowest", "lowest", defArgs s_lowest, defBody s_lowest, defScope s_lowest, [], []⟩
def d_raised : He.DefD := ⟨("raised", none), "raised", "raised", defArgs s_raised, defBody s_raised, defScope s_raised, [], []⟩
def d_whole_root : He.DefD := ⟨("whole_root", none), "whole_root", "whole_root", defArgs s_whole_root, defBody s_whole_root, defScope s_whole_root, [], []⟩
def d_base_and_exponent : He.DefD := ⟨("base_and_exponent", none), "base_and_exponent", "base_and_exponent", defArgs s_base_and_exponent, defBody s_base_and_exponent, defScope s_base_and_exponent, [], []⟩
def d_base_for : He.DefD := ⟨("base_for", none), "base_for", "base_for", defArgs s_base_for, defBody s_base_for, defScope s_base_for, [], []⟩
def d_root_for : He.DefD := ⟨("root_for", none), "root_for", "root_for", defArgs s_root_for, defBody s_root_for, defScope s_root_for, [], []⟩
def d_four_for : He.DefD := ⟨("four_for", none), "four_for", "four_for", defArgs s_four_for, defBody s_four_for, defScope s_four_for, [], []⟩
def d_primes_for : He.DefD := ⟨("primes_for", none), "primes_for", "primes_for", defArgs s_primes_for, defBody s_primes_for, defScope s_primes_for, [], []⟩
def d_own_kind : He.DefD := ⟨("own_kind", none), "own_kind", "own_kind", defArgs s_own_kind, defBody s_own_kind, defScope s_own_kind, [], []⟩
def d_kind_of : He.DefD := ⟨("kind_of", none), "kind_of", "kind_of", defArgs s_kind_of, defBody s_kind_of, defScope s_kind_of, [], []⟩
def d_odd_part : He.DefD := ⟨("odd_part", none), "odd_part", "odd_part", defArgs s_odd_part, defBody s_odd_part, defScope s_odd_part, [], []⟩
def d_shared : He.DefD := ⟨("shared", none), "shared", "shared", defArgs s_shared, defBody s_shared, defScope s_shared, [], []⟩
def d_is_split_by_four : He.DefD := ⟨("is_split_by_four", none), "is_split_by_four", "is_split_by_four", defArgs s_is_split_by_four, defBody s_is_split_by_four, defScope s_is_split_by_four, [], []⟩
def d_does_split : He.DefD := ⟨("does_split", none), "does_split", "does_split", defArgs s_does_split, defBody s_does_split, defScope s_does_split, [], []⟩
def d_is_always : He.DefD := ⟨("is_always", none), "is_always", "is_always", defArgs s_is_always, defBody s_is_always, defScope s_is_always, [], []⟩
def d_begins_with_word : He.DefD := ⟨("begins_with_word", none), "begins_with_word", "begins_with_word", defArgs s_begins_with_word, defBody s_begins_with_word, defScope s_begins_with_word, [], []⟩
def d_is_wish : He.DefD := ⟨("is_wish", none), "is_wish", "is_wish", defArgs s_is_wish, defBody s_is_wish, defScope s_is_wish, [], []⟩
def d_names_in : He.DefD := ⟨("names_in", none), "names_in", "names_in", defArgs s_names_in, defBody s_names_in, defScope s_names_in, [], []⟩
def d_holds : He.DefD := ⟨("holds", none), "holds", "holds", defArgs s_holds, defBody s_holds, defScope s_holds, [], []⟩
def d_Kept_init : He.DefD := ⟨("Kept", some "__init__"), "__init__", "Kept.__init__", defArgs s_Kept_init, defBody s_Kept_init, defScope s_Kept_init, [], []⟩
def d_Trial_init : He.DefD := ⟨("Trial", some "__init__"), "__init__", "Trial.__init__", defArgs s_Trial_init, defBody s_Trial_init, defScope s_Trial_init, [], []⟩
def d_Trial_enter : He.DefD := ⟨("Trial", some "__enter__"), "__enter__", "Trial.__enter__", defArgs s_Trial_enter, defBody s_Trial_enter, defScope s_Trial_enter, [], []⟩
def d_Trial_exit : He.DefD := ⟨("Trial", some "__exit__"), "__exit__", "Trial.__exit__", defArgs s_Trial_exit, defBody s_Trial_exit, defScope s_Trial_exit, [], []⟩
def d_Book_init : He.DefD := ⟨("Book", some "__init__"), "__init__", "Book.__init__", defArgs s_Book_init, defBody s_Book_init, defScope s_Book_init, [], []⟩
def d_Book_names : He.DefD := ⟨("Book", some "names"), "names", "Book.names", defArgs s_Book_names, defBody s_Book_names, defScope s_Book_names, [], []⟩
def d_Book_wishes : He.DefD := ⟨("Book", some "wishes"), "wishes", "Book.wishes", defArgs s_Book_wishes, defBody s_Book_wishes, defScope s_Book_wishes, [], []⟩
def d_Book_changes : He.DefD := ⟨("Book", some "changes"), "changes", "Book.changes", defArgs s_Book_changes, defBody s_Book_changes, defScope s_Book_changes, [], []⟩
def d_Book_become : He.DefD := ⟨("Book", some "become"), "become", "Book.become", defArgs s_Book_become, defBody s_Book_become, defScope s_Book_become, [], []⟩
def d_Book_check_known : He.DefD := ⟨("Book", some "check_known"), "check_known", "Book.check_known", defArgs s_Book_check_known, defBody s_Book_check_known, defScope s_Book_check_known, [], []⟩
def d_Book_setitem : He.DefD := ⟨("Book", some "__setitem__"), "__setitem__", "Book.__setitem__", defArgs s_Book_setitem, defBody s_Book_setitem, defScope s_Book_setitem, [], []⟩
def d_Book_getitem : He.DefD := ⟨("Book", some "__getitem__"), "__getitem__", "Book.__getitem__", defArgs s_Book_getitem, defBody s_Book_getitem, defScope s_Book_getitem, [], []⟩
def d_Book_contains : He.DefD := ⟨("Book", some "__contains__"), "__contains__", "Book.__contains__", defArgs s_Book_contains, defBody s_Book_contains, defScope s_Book_contains, [], []⟩
def d_Book_len : He.DefD := ⟨("Book", some "__len__"), "__len__", "Book.__len__", defArgs s_Book_len, defBody s_Book_len, defScope s_Book_len, [], []⟩
def d_Book_drop : He.DefD := ⟨("Book", some "drop"), "drop", "Book.drop", defArgs s_Book_drop, defBody s_Book_drop, defScope s_Book_drop, [], []⟩
def d_Book_wish : He.DefD := ⟨("Book", some "wish"), "wish", "Book.wish", defArgs s_Book_wish, defBody s_Book_wish, defScope s_Book_wish, [], []⟩
def d_Book_lift : He.DefD := ⟨("Book", some "lift"), "lift", "Book.lift", defArgs s_Book_lift, defBody s_Book_lift, defScope s_Book_lift, [], []⟩
def d_Book_undo : He.DefD := ⟨("Book", some "undo"), "undo", "Book.undo", defArgs s_Book_undo, defBody s_Book_undo, defScope s_Book_undo, [], []⟩
def d_Book_trial : He.DefD := ⟨("Book", some "trial"), "trial", "Book.trial", defArgs s_Book_trial, defBody s_Book_trial, defScope s_Book_trial, [], []⟩
def d_Book_tried : He.DefD := ⟨("Book", some "tried"), "tried", "Book.tried", defArgs s_Book_tried, defBody s_Book_tried, defScope s_Book_tried, [], []⟩
def d__law_jug : He.DefD := ⟨("_law_jug", none), "_law_jug", "_law_jug", defArgs s__law_jug, defBody s__law_jug, defScope s__law_jug, [], []⟩
def d__law_pull : He.DefD := ⟨("_law_pull", none), "_law_pull", "_law_pull", defArgs s__law_pull, defBody s__law_pull, defScope s__law_pull, [], []⟩
def d__law_one_of : He.DefD := ⟨("_law_one_of", none), "_law_one_of", "_law_one_of", defArgs s__law_one_of, defBody s__law_one_of, defScope s__law_one_of, [], []⟩
def d__law_common : He.DefD := ⟨("_law_common", none), "_law_common", "_law_common", defArgs s__law_common, defBody s__law_common, defScope s__law_common, [], []⟩
def d__law_power : He.DefD := ⟨("_law_power", none), "_law_power", "_law_power", defArgs s__law_power, defBody s__law_power, defScope s__law_power, [], []⟩
def d__law_pair : He.DefD := ⟨("_law_pair", none), "_law_pair", "_law_pair", defArgs s__law_pair, defBody s__law_pair, defScope s__law_pair, [], []⟩
def d__law_small : He.DefD := ⟨("_law_small", none), "_law_small", "_law_small", defArgs s__law_small, defBody s__law_small, defScope s__law_small, [], []⟩
def d__law_plan : He.DefD := ⟨("_law_plan", none), "_law_plan", "_law_plan", defArgs s__law_plan, defBody s__law_plan, defScope s__law_plan, [], []⟩
def d__law_is_four : He.DefD := ⟨("_law_is_four", none), "_law_is_four", "_law_is_four", defArgs s__law_is_four, defBody s__law_is_four, defScope s__law_is_four, [], []⟩
def d__law_splits : He.DefD := ⟨("_law_splits", none), "_law_splits", "_law_splits", defArgs s__law_splits, defBody s__law_splits, defScope s__law_splits, [], []⟩
def d__law_is_always : He.DefD := ⟨("_law_is_always", none), "_law_is_always", "_law_is_always", defArgs s__law_is_always, defBody s__law_is_always, defScope s__law_is_always, [], []⟩
def d__law_some_n : He.DefD := ⟨("_law_some_n", none), "_law_some_n", "_law_some_n", defArgs s__law_some_n, defBody s__law_some_n, defScope s__law_some_n, [], []⟩
def d__law_kind : He.DefD := ⟨("_law_kind", none), "_law_kind", "_law_kind", defArgs s__law_kind, defBody s__law_kind, defScope s__law_kind, [], []⟩
def d__law_answer : He.DefD := ⟨("_law_answer", none), "_law_answer", "_law_answer", defArgs s__law_answer, defBody s__law_answer, defScope s__law_answer, [], []⟩
def d__law_new_wish : He.DefD := ⟨("_law_new_wish", none), "_law_new_wish", "_law_new_wish", defArgs s__law_new_wish, defBody s__law_new_wish, defScope s__law_new_wish, [], []⟩
def d__law_broken : He.DefD := ⟨("_law_broken", none), "_law_broken", "_law_broken", defArgs s__law_broken, defBody s__law_broken, defScope s__law_broken, [], []⟩
def d__law_named : He.DefD := ⟨("_law_named", none), "_law_named", "_law_named", defArgs s__law_named, defBody s__law_named, defScope s__law_named, [], []⟩
def d__law_behind : He.DefD := ⟨("_law_behind", none), "_law_behind", "_law_behind", defArgs s__law_behind, defBody s__law_behind, defScope s__law_behind, [], []⟩
def d__law_new_deed : He.DefD := ⟨("_law_new_deed", none), "_law_new_deed", "_law_new_deed", defArgs s__law_new_deed, defBody s__law_new_deed, defScope s__law_new_deed, [], []⟩
def d__law_done : He.DefD := ⟨("_law_done", none), "_law_done", "_law_done", defArgs s__law_done, defBody s__law_done, defScope s__law_done, [], []⟩
def d__law_book_is : He.DefD := ⟨("_law_book_is", none), "_law_book_is", "_law_book_is", defArgs s__law_book_is, defBody s__law_book_is, defScope s__law_book_is, [], []⟩
def d__law_slip : He.DefD := ⟨("_law_slip", none), "_law_slip", "_law_slip", defArgs s__law_slip, defBody s__law_slip, defScope s__law_slip, [], []⟩
def d__law_heard : He.DefD := ⟨("_law_heard", none), "_law_heard", "_law_heard", defArgs s__law_heard, defBody s__law_heard, defScope s__law_heard, [], []⟩
def d__law_turn : He.DefD := ⟨("_law_turn", none), "_law_turn", "_law_turn", defArgs s__law_turn, defBody s__law_turn, defScope s__law_turn, [], []⟩
def d__law_tried : He.DefD := ⟨("_law_tried", none), "_law_tried", "_law_tried", defArgs s__law_tried, defBody s__law_tried, defScope s__law_tried, [], []⟩
def d__law_inside : He.DefD := ⟨("_law_inside", none), "_law_inside", "_law_inside", defArgs s__law_inside, defBody s__law_inside, defScope s__law_inside, [], []⟩
def d__law_right : He.DefD := ⟨("_law_right", none), "_law_right", "_law_right", defArgs s__law_right, defBody s__law_right, defScope s__law_right, [], []⟩
def d_law : He.DefD := ⟨("law", none), "law", "law", defArgs s_law, defBody s_law, defScope s_law, [], []⟩

def fnl : List He.DefD := [d_InvalidName_init, d_InvalidNumber_init, d_InvalidWish_init, d_InvalidIndex_init, d_UnknownName_init, d_Broken_init, d_InUse_init, d_is_integer, d_is_between, d_is_name, d_power_of, d_common_divisor, d_floor_root, d_is_power, d_prime_divisors, d_is_number, d_check_number, d_lowest, d_raised, d_whole_root, d_base_and_exponent, d_base_for, d_root_for, d_four_for, d_primes_for, d_own_kind, d_kind_of, d_odd_part, d_shared, d_is_split_by_four, d_does_split, d_is_always, d_begins_with_word, d_is_wish, d_names_in, d_holds, d_Kept_init, d_Trial_init, d_Trial_enter, d_Trial_exit, d_Book_init, d_Book_become, d_Book_check_known, d_Book_setitem, d_Book_getitem, d_Book_contains, d_Book_len, d_Book_drop, d_Book_wish, d_Book_lift, d_Book_undo, d_Book_trial, d_Book_tried, d__law_jug, d__law_pull, d__law_one_of, d__law_common, d__law_power, d__law_pair, d__law_small, d__law_plan, d__law_is_four, d__law_splits, d__law_is_always, d__law_some_n, d__law_kind, d__law_answer, d__law_new_wish, d__law_broken, d__law_named, d__law_behind, d__law_new_deed, d__law_done, d__law_book_is, d__law_slip, d__law_heard, d__law_turn, d__law_tried, d__law_inside, d__law_right, d_law]
def nm0 : List Str := ["_wall", "WrongValue", "InvalidName", "InvalidNumber", "InvalidWish", "InvalidIndex", "WrongName", "UnknownName", "NoAnswer", "Broken", "InUse", "NothingToUndo", "LETTERS", "MOST_LETTERS", "is_integer", "is_between", "is_name", "power_of", "common_divisor", "floor_root", "is_power", "prime_divisors", "MOST_SIZE", "is_number", "check_number", "lowest", "raised", "whole_root", "base_and_exponent", "base_for"]
def nm1 : List Str := ["root_for", "four_for", "ALL", "primes_for", "own_kind", "kind_of", "odd_part", "shared", "is_split_by_four", "does_split", "is_always", "FORMS", "begins_with_word", "is_wish", "names_in", "holds", "Kept", "Trial", "Book", "_law_jug", "_law_pull", "_law_one_of", "_law_common", "_law_power", "_law_pair", "_law_small", "_law_plan", "_law_is_four", "_law_splits", "_law_is_always"]
def nm2 : List Str := ["_law_some_n", "_law_kind", "_law_answer", "_law_new_wish", "_law_broken", "_law_named", "_law_behind", "_law_new_deed", "_law_done", "_law_book_is", "_law_slip", "_law_heard", "_law_turn", "_law_tried", "_law_inside", "_law_right"]
abbrev loose : List Str := nm0 ++ nm1 ++ nm2
def fal : List He.Fa := [.glo "WrongValue", .glo "InvalidName", .glo "InvalidNumber", .glo "InvalidWish", .glo "InvalidIndex", .glo "WrongName", .glo "UnknownName", .glo "NoAnswer", .glo "Broken", .glo "InUse", .glo "NothingToUndo", .glo "is_integer", .glo "is_between", .glo "is_name", .glo "power_of", .glo "common_divisor", .glo "floor_root", .glo "is_power", .glo "prime_divisors", .glo "is_number", .glo "check_number", .glo "lowest", .glo "raised", .glo "whole_root", .glo "base_and_exponent", .glo "base_for", .glo "root_for", .glo "four_for", .glo "primes_for", .glo "own_kind", .glo "kind_of", .glo "odd_part", .glo "shared", .glo "is_split_by_four", .glo "does_split", .glo "is_always", .glo "begins_with_word", .glo "is_wish", .glo "names_in", .glo "holds", .glo "Kept", .glo "Trial", .glo "Book", .glo "_law_jug", .glo "_law_pull", .glo "_law_one_of", .glo "_law_common", .glo "_law_power", .glo "_law_pair", .glo "_law_small", .glo "_law_plan", .glo "_law_is_four", .glo "_law_splits", .glo "_law_is_always", .glo "_law_some_n", .glo "_law_kind", .glo "_law_answer", .glo "_law_new_wish", .glo "_law_broken", .glo "_law_named", .glo "_law_behind", .glo "_law_new_deed", .glo "_law_done", .glo "_law_book_is", .glo "_law_slip", .glo "_law_heard", .glo "_law_turn", .glo "_law_tried", .glo "_law_inside", .glo "_law_right", .glo "law", .free "isinstance", .free "int", .free "bool", .free "str", .free "tuple", .free "len", .free "all", .free "range", .free "abs", .free "max", .free "sorted", .free "list", .free "dict", .free "enumerate", .free "repr", .free "min", .free "zip", .free "KeyError", .free "ValueError", .free "LookupError", .free "ArithmeticError", .cls "Kept", .mkr "Kept", .cls "Trial", .mkr "Trial", .cls "Book", .mkr "Book", .int "MOST_LETTERS" 8, .int "MOST_SIZE" (10 ^ 30), .str "LETTERS" "abcdefghijklmnopqrstuvwxyz", .str "ALL" "all", .glo "FORMS", .noat "Book" "numbers", .noat "Book" "made", .noat "Book" "past", .noat "Kept" "numbers", .noat "Kept" "made", .noat "Kept" "past", .noat "Kept" "around", .noat "Trial" "book", .noat "Trial" "held", .meth "Book" "become", .meth "Book" "check_known", .meth "Book" "drop", .meth "Book" "wish", .meth "Book" "lift", .meth "Book" "undo", .meth "Book" "trial", .meth "Book" "tried", .meth "Trial" "__enter__", .meth "Trial" "__exit__"]
def tsl : List He.Tab := [(fun K => He.ga K "FORMS", ["splits", "whole", "always", "alike"])]
def tfl : List He.Defn := [("_law_turn", none), ("_law_tried", none)]
abbrev R : PySem.W.OpenRow := PySem.W.OpenLaw.row PySem.Challenge.rw_purepowers_k63_whole_book_trials
/-! ### properties' getters -/
def pgA (K : PySem.W.Frag) (p : Str × Option Str) : Addr := match p.2 with
  | some m => (match PySem.W.recIn K (He.ma K (He.ga K p.1) m) "property" with
    | some (.ref g :: _) => g
    | _ => 0)
  | none => 0
def gW (K : PySem.W.Frag) (d : He.DefD) : He.FnW := match K.lookup (pgA K d.at_) with
  | some ⟨_, _, .func z, _⟩ => some (z.name, z.qualname, z.params, z.body, z.scope, z.globals, z.closure, z.builtins)
  | _ => none
def gOk (K : PySem.W.Frag) (d : He.DefD) : Bool := PySem.W.keepIn K (.ref (pgA K d.at_)) && (match K.lookup (pgA K d.at_) with
  | some ⟨_, _, .func z, _⟩ => PySem.W.codeIn K z.code d.qual && (match z.defaults with
    | .none => true
    | _ => false)
  | _ => false)
def pgl : List He.DefD := [d_Book_names, d_Book_wishes, d_Book_changes]
/-! ### further facts -/
def isT (o : Option Bool) : Bool := o == some true
def isB (o : Option Bool) (b : Bool) : Bool := o == some b
def vEq (o : Option Value) (v : Value) : Bool := decide (o = some v)
def fProp (K : PySem.W.Frag) (C f : Str) : Bool := He.eqO (PySem.W.findIn K (.ref (He.ga K C)) f) (some (some (.ref (He.ma K (He.ga K C) f)))) && (He.eqO (PySem.W.specialIn K (.ref (He.ma K (He.ga K C) f)) "__get__") (some (some (.builtin "property.__get__"))) && (isT (PySem.W.takesIn K (.ref (He.ma K (He.ga K C) f))) &&
  (match PySem.W.recIn K (He.ma K (He.ga K C) f) "property" with
  | some (.ref _ :: _) => true
  | _ => false)))
def fOx (K : PySem.W.Frag) (x newId : String) (bm : List Value) (f : Str) : Bool := PySem.W.excInitIn K (He.ga K x) bm newId && (PySem.W.excOver K (He.ga K x) bm && (PySem.W.hasDictIn K (He.ga K x) && (He.eqO (PySem.W.findIn K (.ref (He.ga K x)) "__setattr__") (some (some (.builtin "object.__setattr__"))) &&
  (isT (PySem.W.subIn K (.ref (He.ga K x)) (.type "BaseException")) && (vEq (PySem.W.typeIn K (.ref (He.ga K x))) (.type "type") && (PySem.W.keepIn K (.ref (He.ga K x)) && (He.eqO (PySem.W.findIn K (.ref (He.ga K x)) f) (some none) &&
  (He.eqO (PySem.W.findIn K (.ref (He.ga K x)) "__init__") (some (some (.ref (He.ma K (He.ga K x) "__init__")))) && vEq (PySem.W.typeIn K (.ref (He.ma K (He.ga K x) "__init__"))) (.type "function")))))))))
def fKin (K : PySem.W.Frag) (x : Str) (v n a br iu ii nu un : Bool) : Bool :=
  He.eqO (PySem.W.findIn K (.ref (He.ga K x)) "__getattribute__") (some (some (.builtin "BaseException.__getattribute__"))) && (He.eqO (PySem.W.findIn K (.ref (He.ga K x)) "__getattr__") (some none) && (isT (PySem.W.subIn K (.ref (He.ga K x)) (.type "BaseException")) && (PySem.W.hasDictIn K (He.ga K x) &&
  (He.eqO (PySem.W.findIn K (.ref (He.ga K x)) "__class__") (some (some (.builtin "object.__class__"))) && (He.eqO (PySem.W.specialIn K (.builtin "object.__class__") "__get__") (some (some (.builtin "getset_descriptor.__get__"))) && (isT (PySem.W.takesIn K (.builtin "object.__class__")) && (isT (PySem.W.mroIn K (He.ga K x) (.type "object")) &&
  (He.eqO (PySem.W.findIn K (.ref (He.ga K x)) "index") (some none) && (He.eqO (PySem.W.findIn K (.ref (He.ga K x)) "given") (some none) &&
  (isB (PySem.W.kitOne K (.ref (He.ga K x)) (.ref (He.ga K "WrongValue"))) v && (isB (PySem.W.kitOne K (.ref (He.ga K x)) (.ref (He.ga K "WrongName"))) n && (isB (PySem.W.kitOne K (.ref (He.ga K x)) (.ref (He.ga K "NoAnswer"))) a &&
  (isB (PySem.W.kitOne K (.ref (He.ga K x)) (.type "ValueError")) v && (isB (PySem.W.kitOne K (.ref (He.ga K x)) (.type "LookupError")) n && (isB (PySem.W.kitOne K (.ref (He.ga K x)) (.type "ArithmeticError")) a &&
  (isB (PySem.W.kitOne K (.ref (He.ga K x)) (.ref (He.ga K "Broken"))) br && (isB (PySem.W.kitOne K (.ref (He.ga K x)) (.ref (He.ga K "InUse"))) iu && (isB (PySem.W.kitOne K (.ref (He.ga K x)) (.ref (He.ga K "InvalidIndex"))) ii &&
  (isB (PySem.W.kitOne K (.ref (He.ga K x)) (.ref (He.ga K "NothingToUndo"))) nu && (isB (PySem.W.kitOne K (.ref (He.ga K x)) (.ref (He.ga K "UnknownName"))) un &&
  isT (PySem.W.exmAny K (.ref (He.ga K x)) [.ref (He.ga K "WrongValue"), .ref (He.ga K "WrongName"), .ref (He.ga K "NoAnswer")])))))))))))))))))))))
def fSpec (K : PySem.W.Frag) (m : Str) : Bool := He.eqO (PySem.W.findIn K (.ref (He.ga K "Book")) m) (some (some (.ref (He.ma K (He.ga K "Book") m)))) && PySem.W.isFn K (.ref (He.ma K (He.ga K "Book") m))
def fRest (K : PySem.W.Frag) : Bool := PySem.W.fnIn K (He.ma K (He.ga K "Book") "__getitem__") && (He.eqO (PySem.W.findIn K (.ref (He.ga K "Book")) "__bool__") (some none) && (PySem.W.noSeq K (He.ga K "Book") && (cmpIn K (He.ga K "Book") &&
  (PySem.W.excIn K (He.ga K "NothingToUndo") [.type "ArithmeticError", .type "Exception", .type "BaseException", .type "object"] "ArithmeticError.__new__" && (PySem.W.keepIn K (.ref (He.ga K "NothingToUndo")) && (isT (PySem.W.subIn K (.ref (He.ga K "NothingToUndo")) (.type "BaseException")) && (vEq (PySem.W.typeIn K (.ref (He.ga K "NothingToUndo"))) (.type "type") &&
  (isB (PySem.W.exmAny K (.type "KeyError") [.ref (He.ga K "WrongValue"), .ref (He.ga K "WrongName"), .ref (He.ga K "NoAnswer")]) false && (isT (PySem.W.exmOne K (.type "KeyError") (.type "KeyError")) &&
  (decide ((He.cT K ("_law_turn", none)).2 ≠ (He.cT K ("_law_tried", none)).2) && He.valsB K (He.ga K "FORMS") [("splits", .int 3), ("whole", .int 3), ("always", .int 2), ("alike", .int 3)]))))))))))
def bmsL : List Value := [.type "LookupError", .type "Exception", .type "BaseException", .type "object"]
def bmsV : List Value := [.type "ValueError", .type "Exception", .type "BaseException", .type "object"]
def bmsA : List Value := [.type "ArithmeticError", .type "Exception", .type "BaseException", .type "object"]
def exL (K : PySem.W.Frag) : List Bool := [
  fProp K "Book" "names", fProp K "Book" "wishes", fProp K "Book" "changes", gOk K d_Book_names, gOk K d_Book_wishes, gOk K d_Book_changes,
  fOx K "UnknownName" "LookupError.__new__" bmsL "given", fOx K "InvalidIndex" "ValueError.__new__" bmsV "given", fOx K "Broken" "ArithmeticError.__new__" bmsA "index", fOx K "InUse" "ArithmeticError.__new__" bmsA "index",
  fKin K "Broken" false false true true false false false false, fKin K "InUse" false false true false true false false false, fKin K "InvalidIndex" true false false false false true false false, fKin K "NothingToUndo" false false true false false false true false, fKin K "UnknownName" false true false false false false false true,
  fSpec K "__contains__", fSpec K "__getitem__", fSpec K "__setitem__", fSpec K "__len__", fRest K]
def exB (K : PySem.W.Frag) : Bool := (exL K).all id
/-- the addresses that the facts speak of: the module's names, their code objects and namespaces, the methods, their code objects -/
def vals (g : Addr → Option Obj) (a : Addr) : List Addr := match g a with
  | some ⟨_, _, .dict es _, _⟩ => es.toList.flatMap fun e => He.refV e.val
  | _ => []
def insd (g : Addr → Option Obj) (a : Addr) : List Addr := match g a with
  | some ⟨_, _, .func fd, _⟩ => He.refV fd.code
  | some ⟨_, _, .cls cd, _⟩ => [cd.ns]
  | some ⟨_, _, .fields vs, _⟩ => vs.toList.flatMap He.refV
  | _ => []
def asM (g : Addr → Option Obj) : List Addr :=
  let l1 := vals g mainGlobals
  let l2 := l1.flatMap (insd g)
  let l3 := l2.flatMap (vals g)
  let l4 := l3.flatMap (insd g)
  let l5 := l4.flatMap (insd g)
  mainGlobals :: (l1 ++ (l2 ++ (l3 ++ (l4 ++ l5))))

def obM (fa : List He.Fa) (fn : List He.DefD) (ts : List He.Tab) (tf : List He.Defn) (ex : PySem.W.Frag → Bool) (g : Addr → Option Obj) : He.AlX :=
  (He.obsT fa fn ts (He.frT g (asM g)), ex (He.frT g (asM g)) && He.tabsB g tf (He.frT g (asM g)))
theorem saysM_of {fa : List He.Fa} {fn : List He.DefD} {ts : List He.Tab} {tf : List He.Defn} {ex : PySem.W.Frag → Bool} {w : World} {h : Heap} (e : obM fa fn ts tf ex h.get? = He.valX fn ts w) : He.SaysX fa fn ts tf ex w h (He.frT h.get? (asM h.get?)) := by
  have e1 : He.obsT fa fn ts (He.frT h.get? (asM h.get?)) = He.valT fn ts w := congrArg (fun z : He.AlX => z.1) e
  have e2 : (ex (He.frT h.get? (asM h.get?)) && He.tabsB h.get? tf (He.frT h.get? (asM h.get?))) = true := congrArg (fun z : He.AlX => z.2) e
  obtain ⟨h1, h2⟩ := He.ba e2
  have key : ∀ p ∈ tf, PySem.W.codeHdIn (He.frT h.get? (asM h.get?)) (He.cT (He.frT h.get? (asM h.get?)) p).1 (He.cT (He.frT h.get? (asM h.get?)) p).2 = true ∧ ∃ o, h.get? (He.cT (He.frT h.get? (asM h.get?)) p).2 = some o ∧ He.emptyTab o = true := fun p hp => by
    obtain ⟨h3, h4⟩ := He.ba (List.all_eq_true.mp h2 p hp)
    refine ⟨h3, ?_⟩
    cases q : h.get? (He.cT (He.frT h.get? (asM h.get?)) p).2 with
    | none =>
      rw [q] at h4
      cases h4
    | some o =>
      rw [q] at h4
      exact ⟨o, rfl, h4⟩
  exact ⟨e1, h1, fun p hp => (key p hp).1, fun p hp => by
    obtain ⟨_, o, q, z⟩ := key p hp
    exact He.frT_none q z, fun p hp => by
    obtain ⟨_, o, q, z⟩ := key p hp
    rw [q, He.emptyTab_eq z]⟩
def hookM (fa : List He.Fa) (fn : List He.DefD) (ts : List He.Tab) (tf : List He.Defn) (ex : PySem.W.Frag → Bool) : PySem.W.Hook where
  α := He.AlX
  obs := fun s => obM fa fn ts tf ex s.heap.get?
  val := fun w => He.valX fn ts w
  says := fun w h => ∃ K : PySem.W.Frag, K.In h ∧ He.SaysX fa fn ts tf ex w h K
  of := fun _ _ e => ⟨_, He.frT_in, saysM_of e⟩
  keeps := fun _ _ _ ⟨K, hK, c⟩ k => ⟨K, PySem.W.Frag.In.keeps hK k, ⟨c.t, c.more, c.hd, c.out, fun p hp => k _ _ (c.empty p hp)⟩⟩
theorem obM_eq {fa : List He.Fa} {fn : List He.DefD} {ts : List He.Tab} {tf : List He.Defn} {ex : PySem.W.Frag → Bool} {g : Addr → Option Obj} {s : Shared} (h : ∀ a, g a = s.heap.get? a) : obM fa fn ts tf ex g = (hookM fa fn ts tf ex).obs s := by
  have e : g = s.heap.get? := funext h
  rw [e] <;> rfl

/-- .. with the getters -/
def hookP : PySem.W.Hook where
  α := He.AlX × List He.FnW
  obs := fun s => (obM fal fnl tsl tfl exB s.heap.get?, pgl.map (gW (He.frT s.heap.get? (asM s.heap.get?))))
  val := fun w => (He.valX fnl tsl w, pgl.map He.DefD.val)
  says := fun w h => ∃ K : PySem.W.Frag, K.In h ∧ He.SaysX fal fnl tsl tfl exB w h K ∧ pgl.map (gW K) = pgl.map He.DefD.val
  of := fun _ _ e => ⟨_, He.frT_in, saysM_of (congrArg Prod.fst e), congrArg Prod.snd e⟩
  keeps := fun _ _ _ ⟨K, hK, c, g⟩ k => ⟨K, PySem.W.Frag.In.keeps hK k, ⟨c.t, c.more, c.hd, c.out, fun p hp => k _ _ (c.empty p hp)⟩, g⟩
abbrev hk : PySem.W.Hook := hookP
def ob (s : PySem.W.SharedT) : He.AlX × List He.FnW := (obM fal fnl tsl tfl exB (HandSHeadRun.getT s), pgl.map (gW (He.frT (HandSHeadRun.getT s) (asM (HandSHeadRun.getT s)))))
theorem ob_eq (s : PySem.W.SharedT) : ob s = hk.obs s.abs := by
  have e : HandSHeadRun.getT s = s.abs.heap.get? := funext (HandSHeadRun.getT_eq s)
  unfold ob
  rw [e] <;> rfl
open PySem.W PySem.Calls in
theorem runF (w : World) : HandSHeadRun.RunEq R (PySem.W.view R.prog [83]) hk ob 9000 loose (w.withFollow "special-get-raises" false) := by
  intro os
  kernel_rfl
open PySem.W PySem.Calls in
theorem runT (w : World) : HandSHeadRun.RunEq R (PySem.W.view R.prog [83]) hk ob 9000 loose (w.withFollow "special-get-raises" true) := by
  intro os
  kernel_rfl
open PySem.W PySem.Calls in
theorem run (w : World) : HandSHeadRun.RunEq R (PySem.W.view R.prog [83]) hk ob 9000 loose w :=
  PySem.W.byRow2 "special-get-raises" (P := fun w => HandSHeadRun.RunEq R (PySem.W.view R.prog [83]) hk ob 9000 loose w) runF runT w
end G
-- Zfacts
set_option Elab.async false
set_option linter.all false
set_option maxRecDepth 100000
set_option maxHeartbeats 0
/-! the text's facts out of the head's -/
namespace G
open PySem PySem.Spec PyProof.Rows L2 LamX NdefX
def adOf (K : PySem.W.Frag) : Ad := ⟨He.ga K "Book", He.ga K "Kept", He.ga K "Trial", He.ga K "WrongValue", He.ga K "WrongName", He.ga K "NoAnswer", He.ga K "InvalidIndex", He.ga K "UnknownName", He.ga K "Broken", He.ga K "InUse", He.ga K "NothingToUndo"⟩
theorem fun_of {K : PySem.W.Frag} {x q : Str} {st : Stmt} {f : Addr} {fd : FuncData} (F : FunD K x q (defArgs st) (defBody st) (defScope st) [] [] f fd) : Fun K x q st f fd := by
  obtain ⟨ex, kp⟩ := F
  obtain ⟨k1, k2, k3, k4, k5, k6, k7, k8, k9, k10, e, lk, hc, hd, _⟩ := ex
  have e3 : k3 = .none := by
    rcases hd with ⟨_, z⟩ | ⟨z, _⟩
    · exact z
    · exact absurd rfl z
  rw [e3] at e
  exact ⟨⟨k1, k2, k4, k5, k6, k7, k8, k9, k10, e, lk, hc⟩, kp⟩
theorem fun_get {K : PySem.W.Frag} {d : He.DefD} {x q : Str} {st : Stmt} (hd : d.val = some (x, q, defArgs st, .stmts (defBody st), defScope st, mainGlobals, [], builtinsNs)) (hq : d.qual = q) (e : gW K d = d.val) (h : gOk K d = true) : ∃ fd, Fun K x q st (pgA K d.at_) fd := by
  obtain ⟨kp, h2⟩ := He.ba h
  unfold gW at e
  rw [hd] at e
  cases lk : K.lookup (pgA K d.at_) with
  | none =>
    rw [lk] at e
    cases e
  | some o =>
    obtain ⟨o1, o2, o3, o4⟩ := o
    rw [lk] at e h2
    cases o3 with
    | func z =>
      obtain ⟨z1, z2, z3, z4, z5, z6, z7, z8, z9, z10, z11, z12, z13, z14, z15⟩ := z
      have e2 : (some (z1, z2, z3, z4, z5, z6, z7, z15) : He.FnW) = some (x, q, defArgs st, .stmts (defBody st), defScope st, mainGlobals, [], builtinsNs) := e
      simp only [Option.some.injEq, Prod.mk.injEq] at e2
      obtain ⟨y1, y2, y3, y4, y5, y6, y7, y8⟩ := e2
      subst y1 y2 y3 y4 y5 y6 y7 y8
      obtain ⟨y9, y10⟩ := He.ba h2
      rw [hq] at y9
      have y11 : z8 = .none := by
        cases z8 with
        | none => rfl
        | _ => cases y10
      rw [y11] at lk
      exact ⟨_, ⟨o1, o2, z9, z10, z11, z12, z13, z14, o4, rfl, lk, y9⟩, kp⟩
    | _ => cases e
theorem isT_ok {o : Option Bool} (h : isT o = true) : o = some true := eq_of_beq h
theorem isB_ok {o : Option Bool} {b : Bool} (h : isB o b = true) : o = some b := eq_of_beq h
theorem vEq_ok {o : Option Value} {v : Value} (h : vEq o v = true) : o = some v := of_decide_eq_true h
theorem ex_at {K : PySem.W.Frag} (h : exB K = true) (i : Nat) {b : Bool} (e : (exL K)[i]? = some b) : b = true := List.all_eq_true.mp h b (List.mem_of_getElem? e)
theorem prop_ok {K : PySem.W.Frag} {f : Str} (h : fProp K "Book" f = true) : PropOf K (He.ga K "Book") f (He.ma K (He.ga K "Book") f) (pgA K ("Book", some f)) := by
  obtain ⟨h1, h⟩ := He.ba h
  obtain ⟨h2, h⟩ := He.ba h
  obtain ⟨h3, h⟩ := He.ba h
  refine ⟨He.eqO_ok h1, He.eqO_ok h2, isT_ok h3, ?_⟩
  unfold pgA
  show ∃ rest, PySem.W.recIn K (He.ma K (He.ga K "Book") f) "property" = some (.ref (match PySem.W.recIn K (He.ma K (He.ga K "Book") f) "property" with
    | some (.ref g :: _) => g
    | _ => 0) :: rest)
  split at h
  · rename_i g r hr
    rw [hr]
    exact ⟨r, rfl⟩
  · cases h
theorem ox_ok {K : PySem.W.Frag} {mg : Str → Option Value} {x newId : String} {bm : List Value} {f : Str} {st : Stmt} (gx : mg (Str.ofString x) = some (.ref (He.ga K x))) (h : fOx K x newId bm f = true) (F : ∃ fd, Fun K "__init__" (Str.ofString x ++ ".__init__") st (He.ma K (He.ga K x) "__init__") fd) :
    TxO K mg x st f newId bm (He.ga K x) := by
  obtain ⟨h1, h⟩ := He.ba h
  obtain ⟨h2, h⟩ := He.ba h
  obtain ⟨h3, h⟩ := He.ba h
  obtain ⟨h4, h⟩ := He.ba h
  obtain ⟨h5, h⟩ := He.ba h
  obtain ⟨h6, h⟩ := He.ba h
  obtain ⟨h7, h⟩ := He.ba h
  obtain ⟨h8, h⟩ := He.ba h
  obtain ⟨h9, h10⟩ := He.ba h
  obtain ⟨fd, F⟩ := F
  exact ⟨gx, ⟨h1, h2, h3, He.eqO_ok h4, isT_ok h5, vEq_ok h6, h7⟩, He.eqO_ok h8, _, fd, He.eqO_ok h9, vEq_ok h10, F⟩
theorem kin_ok {K : PySem.W.Frag} {x : Str} {v n a br iu ii nu un : Bool} (h : fKin K x v n a br iu ii nu un = true) : Kin K (adOf K) (He.ga K x) v n a br iu ii nu un := by

  obtain ⟨h1, h⟩ := He.ba h
  obtain ⟨h2, h⟩ := He.ba h
  obtain ⟨h3, h⟩ := He.ba h
  obtain ⟨h4, h⟩ := He.ba h
  obtain ⟨h5, h⟩ := He.ba h
  obtain ⟨h6, h⟩ := He.ba h
  obtain ⟨h7, h⟩ := He.ba h
  obtain ⟨h8, h⟩ := He.ba h
  obtain ⟨h9, h⟩ := He.ba h
  obtain ⟨h10, h⟩ := He.ba h
  obtain ⟨h11, h⟩ := He.ba h
  obtain ⟨h12, h⟩ := He.ba h
  obtain ⟨h13, h⟩ := He.ba h
  obtain ⟨h14, h⟩ := He.ba h
  obtain ⟨h15, h⟩ := He.ba h
  obtain ⟨h16, h⟩ := He.ba h
  obtain ⟨h17, h⟩ := He.ba h
  obtain ⟨h18, h⟩ := He.ba h
  obtain ⟨h19, h⟩ := He.ba h
  obtain ⟨h20, h⟩ := He.ba h
  obtain ⟨h21, h22⟩ := He.ba h
  exact ⟨⟨He.eqO_ok h1, He.eqO_ok h2, isT_ok h3, h4, He.eqO_ok h5, He.eqO_ok h6, isT_ok h7, isT_ok h8⟩, ⟨He.eqO_ok h1, He.eqO_ok h2, isT_ok h3, h4⟩, He.eqO_ok h9, He.eqO_ok h10, isB_ok h11, isB_ok h12, isB_ok h13, isB_ok h14, isB_ok h15, isB_ok h16, isB_ok h17, isB_ok h18, isB_ok h19, isB_ok h20, isB_ok h21, isT_ok h22⟩
section
variable {h : Heap} {K : PySem.W.Frag} {mg : Str → Option Value} {w : World}
theorem facts_tx (X : K.In h) (G : h.Ns mainGlobals mg) (c : He.SaysX fal fnl tsl tfl exB w h K) : Tx K mg where
  d_is_integer := let ⟨fd, F⟩ := (c.t.d.def_ 7 (d := d_is_integer) rfl); ⟨_, fd, He.glo_ok X G (c.t.d.fact 11 (f := .glo "is_integer") rfl), fun_of F⟩
  d_is_between := let ⟨fd, F⟩ := (c.t.d.def_ 8 (d := d_is_between) rfl); ⟨_, fd, He.glo_ok X G (c.t.d.fact 12 (f := .glo "is_between") rfl), fun_of F⟩
  d_is_name := let ⟨fd, F⟩ := (c.t.d.def_ 9 (d := d_is_name) rfl); ⟨_, fd, He.glo_ok X G (c.t.d.fact 13 (f := .glo "is_name") rfl), fun_of F⟩
  d_power_of := let ⟨fd, F⟩ := (c.t.d.def_ 10 (d := d_power_of) rfl); ⟨_, fd, He.glo_ok X G (c.t.d.fact 14 (f := .glo "power_of") rfl), fun_of F⟩
  d_common_divisor := let ⟨fd, F⟩ := (c.t.d.def_ 11 (d := d_common_divisor) rfl); ⟨_, fd, He.glo_ok X G (c.t.d.fact 15 (f := .glo "common_divisor") rfl), fun_of F⟩
  d_floor_root := let ⟨fd, F⟩ := (c.t.d.def_ 12 (d := d_floor_root) rfl); ⟨_, fd, He.glo_ok X G (c.t.d.fact 16 (f := .glo "floor_root") rfl), fun_of F⟩
  d_is_power := let ⟨fd, F⟩ := (c.t.d.def_ 13 (d := d_is_power) rfl); ⟨_, fd, He.glo_ok X G (c.t.d.fact 17 (f := .glo "is_power") rfl), fun_of F⟩
  d_prime_divisors := let ⟨fd, F⟩ := (c.t.d.def_ 14 (d := d_prime_divisors) rfl); ⟨_, fd, He.glo_ok X G (c.t.d.fact 18 (f := .glo "prime_divisors") rfl), fun_of F⟩
  d_is_number := let ⟨fd, F⟩ := (c.t.d.def_ 15 (d := d_is_number) rfl); ⟨_, fd, He.glo_ok X G (c.t.d.fact 19 (f := .glo "is_number") rfl), fun_of F⟩
  d_check_number := let ⟨fd, F⟩ := (c.t.d.def_ 16 (d := d_check_number) rfl); ⟨_, fd, He.glo_ok X G (c.t.d.fact 20 (f := .glo "check_number") rfl), fun_of F⟩
  d_lowest := let ⟨fd, F⟩ := (c.t.d.def_ 17 (d := d_lowest) rfl); ⟨_, fd, He.glo_ok X G (c.t.d.fact 21 (f := .glo "lowest") rfl), fun_of F⟩
  d_raised := let ⟨fd, F⟩ := (c.t.d.def_ 18 (d := d_raised) rfl); ⟨_, fd, He.glo_ok X G (c.t.d.fact 22 (f := .glo "raised") rfl), fun_of F⟩
  d_whole_root := let ⟨fd, F⟩ := (c.t.d.def_ 19 (d := d_whole_root) rfl); ⟨_, fd, He.glo_ok X G (c.t.d.fact 23 (f := .glo "whole_root") rfl), fun_of F⟩
  d_base_and_exponent := let ⟨fd, F⟩ := (c.t.d.def_ 20 (d := d_base_and_exponent) rfl); ⟨_, fd, He.glo_ok X G (c.t.d.fact 24 (f := .glo "base_and_exponent") rfl), fun_of F⟩
  d_base_for := let ⟨fd, F⟩ := (c.t.d.def_ 21 (d := d_base_for) rfl); ⟨_, fd, He.glo_ok X G (c.t.d.fact 25 (f := .glo "base_for") rfl), fun_of F⟩
  d_root_for := let ⟨fd, F⟩ := (c.t.d.def_ 22 (d := d_root_for) rfl); ⟨_, fd, He.glo_ok X G (c.t.d.fact 26 (f := .glo "root_for") rfl), fun_of F⟩
  d_four_for := let ⟨fd, F⟩ := (c.t.d.def_ 23 (d := d_four_for) rfl); ⟨_, fd, He.glo_ok X G (c.t.d.fact 27 (f := .glo "four_for") rfl), fun_of F⟩
  d_primes_for := let ⟨fd, F⟩ := (c.t.d.def_ 24 (d := d_primes_for) rfl); ⟨_, fd, He.glo_ok X G (c.t.d.fact 28 (f := .glo "primes_for") rfl), fun_of F⟩
  d_own_kind := let ⟨fd, F⟩ := (c.t.d.def_ 25 (d := d_own_kind) rfl); ⟨_, fd, He.glo_ok X G (c.t.d.fact 29 (f := .glo "own_kind") rfl), fun_of F⟩
  d_kind_of := let ⟨fd, F⟩ := (c.t.d.def_ 26 (d := d_kind_of) rfl); ⟨_, fd, He.glo_ok X G (c.t.d.fact 30 (f := .glo "kind_of") rfl), fun_of F⟩
  d_odd_part := let ⟨fd, F⟩ := (c.t.d.def_ 27 (d := d_odd_part) rfl); ⟨_, fd, He.glo_ok X G (c.t.d.fact 31 (f := .glo "odd_part") rfl), fun_of F⟩
  d_shared := let ⟨fd, F⟩ := (c.t.d.def_ 28 (d := d_shared) rfl); ⟨_, fd, He.glo_ok X G (c.t.d.fact 32 (f := .glo "shared") rfl), fun_of F⟩
  d_is_split_by_four := let ⟨fd, F⟩ := (c.t.d.def_ 29 (d := d_is_split_by_four) rfl); ⟨_, fd, He.glo_ok X G (c.t.d.fact 33 (f := .glo "is_split_by_four") rfl), fun_of F⟩
  d_does_split := let ⟨fd, F⟩ := (c.t.d.def_ 30 (d := d_does_split) rfl); ⟨_, fd, He.glo_ok X G (c.t.d.fact 34 (f := .glo "does_split") rfl), fun_of F⟩
  d_is_always := let ⟨fd, F⟩ := (c.t.d.def_ 31 (d := d_is_always) rfl); ⟨_, fd, He.glo_ok X G (c.t.d.fact 35 (f := .glo "is_always") rfl), fun_of F⟩
  d_begins_with_word := let ⟨fd, F⟩ := (c.t.d.def_ 32 (d := d_begins_with_word) rfl); ⟨_, fd, He.glo_ok X G (c.t.d.fact 36 (f := .glo "begins_with_word") rfl), fun_of F⟩
  d_is_wish := let ⟨fd, F⟩ := (c.t.d.def_ 33 (d := d_is_wish) rfl); ⟨_, fd, He.glo_ok X G (c.t.d.fact 37 (f := .glo "is_wish") rfl), fun_of F⟩
  d_names_in := let ⟨fd, F⟩ := (c.t.d.def_ 34 (d := d_names_in) rfl); ⟨_, fd, He.glo_ok X G (c.t.d.fact 38 (f := .glo "names_in") rfl), fun_of F⟩
  d_holds := let ⟨fd, F⟩ := (c.t.d.def_ 35 (d := d_holds) rfl); ⟨_, fd, He.glo_ok X G (c.t.d.fact 39 (f := .glo "holds") rfl), fun_of F⟩
  d__law_jug := let ⟨fd, F⟩ := (c.t.d.def_ 53 (d := d__law_jug) rfl); ⟨_, fd, He.glo_ok X G (c.t.d.fact 43 (f := .glo "_law_jug") rfl), fun_of F⟩
  d__law_pull := let ⟨fd, F⟩ := (c.t.d.def_ 54 (d := d__law_pull) rfl); ⟨_, fd, He.glo_ok X G (c.t.d.fact 44 (f := .glo "_law_pull") rfl), fun_of F⟩
  d__law_one_of := let ⟨fd, F⟩ := (c.t.d.def_ 55 (d := d__law_one_of) rfl); ⟨_, fd, He.glo_ok X G (c.t.d.fact 45 (f := .glo "_law_one_of") rfl), fun_of F⟩
  d__law_common := let ⟨fd, F⟩ := (c.t.d.def_ 56 (d := d__law_common) rfl); ⟨_, fd, He.glo_ok X G (c.t.d.fact 46 (f := .glo "_law_common") rfl), fun_of F⟩
  d__law_power := let ⟨fd, F⟩ := (c.t.d.def_ 57 (d := d__law_power) rfl); ⟨_, fd, He.glo_ok X G (c.t.d.fact 47 (f := .glo "_law_power") rfl), fun_of F⟩
  d__law_pair := let ⟨fd, F⟩ := (c.t.d.def_ 58 (d := d__law_pair) rfl); ⟨_, fd, He.glo_ok X G (c.t.d.fact 48 (f := .glo "_law_pair") rfl), fun_of F⟩
  d__law_small := let ⟨fd, F⟩ := (c.t.d.def_ 59 (d := d__law_small) rfl); ⟨_, fd, He.glo_ok X G (c.t.d.fact 49 (f := .glo "_law_small") rfl), fun_of F⟩
  d__law_plan := let ⟨fd, F⟩ := (c.t.d.def_ 60 (d := d__law_plan) rfl); ⟨_, fd, He.glo_ok X G (c.t.d.fact 50 (f := .glo "_law_plan") rfl), fun_of F⟩
  d__law_is_four := let ⟨fd, F⟩ := (c.t.d.def_ 61 (d := d__law_is_four) rfl); ⟨_, fd, He.glo_ok X G (c.t.d.fact 51 (f := .glo "_law_is_four") rfl), fun_of F⟩
  d__law_splits := let ⟨fd, F⟩ := (c.t.d.def_ 62 (d := d__law_splits) rfl); ⟨_, fd, He.glo_ok X G (c.t.d.fact 52 (f := .glo "_law_splits") rfl), fun_of F⟩
  d__law_is_always := let ⟨fd, F⟩ := (c.t.d.def_ 63 (d := d__law_is_always) rfl); ⟨_, fd, He.glo_ok X G (c.t.d.fact 53 (f := .glo "_law_is_always") rfl), fun_of F⟩
  d__law_some_n := let ⟨fd, F⟩ := (c.t.d.def_ 64 (d := d__law_some_n) rfl); ⟨_, fd, He.glo_ok X G (c.t.d.fact 54 (f := .glo "_law_some_n") rfl), fun_of F⟩
  d__law_kind := let ⟨fd, F⟩ := (c.t.d.def_ 65 (d := d__law_kind) rfl); ⟨_, fd, He.glo_ok X G (c.t.d.fact 55 (f := .glo "_law_kind") rfl), fun_of F⟩
  d__law_answer := let ⟨fd, F⟩ := (c.t.d.def_ 66 (d := d__law_answer) rfl); ⟨_, fd, He.glo_ok X G (c.t.d.fact 56 (f := .glo "_law_answer") rfl), fun_of F⟩
  d__law_new_wish := let ⟨fd, F⟩ := (c.t.d.def_ 67 (d := d__law_new_wish) rfl); ⟨_, fd, He.glo_ok X G (c.t.d.fact 57 (f := .glo "_law_new_wish") rfl), fun_of F⟩
  d__law_broken := let ⟨fd, F⟩ := (c.t.d.def_ 68 (d := d__law_broken) rfl); ⟨_, fd, He.glo_ok X G (c.t.d.fact 58 (f := .glo "_law_broken") rfl), fun_of F⟩
  d__law_named := let ⟨fd, F⟩ := (c.t.d.def_ 69 (d := d__law_named) rfl); ⟨_, fd, He.glo_ok X G (c.t.d.fact 59 (f := .glo "_law_named") rfl), fun_of F⟩
  d__law_behind := let ⟨fd, F⟩ := (c.t.d.def_ 70 (d := d__law_behind) rfl); ⟨_, fd, He.glo_ok X G (c.t.d.fact 60 (f := .glo "_law_behind") rfl), fun_of F⟩
  d__law_new_deed := let ⟨fd, F⟩ := (c.t.d.def_ 71 (d := d__law_new_deed) rfl); ⟨_, fd, He.glo_ok X G (c.t.d.fact 61 (f := .glo "_law_new_deed") rfl), fun_of F⟩
  d__law_done := let ⟨fd, F⟩ := (c.t.d.def_ 72 (d := d__law_done) rfl); ⟨_, fd, He.glo_ok X G (c.t.d.fact 62 (f := .glo "_law_done") rfl), fun_of F⟩
  d__law_book_is := let ⟨fd, F⟩ := (c.t.d.def_ 73 (d := d__law_book_is) rfl); ⟨_, fd, He.glo_ok X G (c.t.d.fact 63 (f := .glo "_law_book_is") rfl), fun_of F⟩
  d__law_slip := let ⟨fd, F⟩ := (c.t.d.def_ 74 (d := d__law_slip) rfl); ⟨_, fd, He.glo_ok X G (c.t.d.fact 64 (f := .glo "_law_slip") rfl), fun_of F⟩
  d__law_heard := let ⟨fd, F⟩ := (c.t.d.def_ 75 (d := d__law_heard) rfl); ⟨_, fd, He.glo_ok X G (c.t.d.fact 65 (f := .glo "_law_heard") rfl), fun_of F⟩
  d__law_turn := let ⟨fd, F⟩ := (c.t.d.def_ 76 (d := d__law_turn) rfl); ⟨_, fd, He.glo_ok X G (c.t.d.fact 66 (f := .glo "_law_turn") rfl), fun_of F⟩
  d__law_tried := let ⟨fd, F⟩ := (c.t.d.def_ 77 (d := d__law_tried) rfl); ⟨_, fd, He.glo_ok X G (c.t.d.fact 67 (f := .glo "_law_tried") rfl), fun_of F⟩
  d__law_inside := let ⟨fd, F⟩ := (c.t.d.def_ 78 (d := d__law_inside) rfl); ⟨_, fd, He.glo_ok X G (c.t.d.fact 68 (f := .glo "_law_inside") rfl), fun_of F⟩
  d__law_right := let ⟨fd, F⟩ := (c.t.d.def_ 79 (d := d__law_right) rfl); ⟨_, fd, He.glo_ok X G (c.t.d.fact 69 (f := .glo "_law_right") rfl), fun_of F⟩
  d_law := let ⟨fd, F⟩ := (c.t.d.def_ 80 (d := d_law) rfl); ⟨_, fd, He.glo_ok X G (c.t.d.fact 70 (f := .glo "law") rfl), fun_of F⟩
  m_abs := He.free_ok X G (c.t.d.fact 79 (f := .free "abs") rfl)
  m_all := He.free_ok X G (c.t.d.fact 77 (f := .free "all") rfl)
  m_bool := He.free_ok X G (c.t.d.fact 73 (f := .free "bool") rfl)
  m_dict := He.free_ok X G (c.t.d.fact 83 (f := .free "dict") rfl)
  m_enumerate := He.free_ok X G (c.t.d.fact 84 (f := .free "enumerate") rfl)
  m_int := He.free_ok X G (c.t.d.fact 72 (f := .free "int") rfl)
  m_isinstance := He.free_ok X G (c.t.d.fact 71 (f := .free "isinstance") rfl)
  m_len := He.free_ok X G (c.t.d.fact 76 (f := .free "len") rfl)
  m_list := He.free_ok X G (c.t.d.fact 82 (f := .free "list") rfl)
  m_max := He.free_ok X G (c.t.d.fact 80 (f := .free "max") rfl)
  m_min := He.free_ok X G (c.t.d.fact 86 (f := .free "min") rfl)
  m_range := He.free_ok X G (c.t.d.fact 78 (f := .free "range") rfl)
  m_repr := He.free_ok X G (c.t.d.fact 85 (f := .free "repr") rfl)
  m_sorted := He.free_ok X G (c.t.d.fact 81 (f := .free "sorted") rfl)
  m_str := He.free_ok X G (c.t.d.fact 74 (f := .free "str") rfl)
  m_tuple := He.free_ok X G (c.t.d.fact 75 (f := .free "tuple") rfl)
  m_zip := He.free_ok X G (c.t.d.fact 87 (f := .free "zip") rfl)
  m_ValueError := He.free_ok X G (c.t.d.fact 89 (f := .free "ValueError") rfl)
  m_LookupError := He.free_ok X G (c.t.d.fact 90 (f := .free "LookupError") rfl)
  m_ArithmeticError := He.free_ok X G (c.t.d.fact 91 (f := .free "ArithmeticError") rfl)
  m_KeyError := He.free_ok X G (c.t.d.fact 88 (f := .free "KeyError") rfl)
  g_LETTERS := He.str_ok X G (c.t.d.fact 100 (f := .str "LETTERS" "abcdefghijklmnopqrstuvwxyz") rfl)
  g_MOST_LETTERS := He.int_ok X G (c.t.d.fact 98 (f := .int "MOST_LETTERS" 8) rfl)
  g_MOST_SIZE := He.int_ok X G (c.t.d.fact 99 (f := .int "MOST_SIZE" (10 ^ 30)) rfl)
  g_ALL := He.str_ok X G (c.t.d.fact 101 (f := .str "ALL" "all") rfl)
theorem facts_txb (X : K.In h) (G : h.Ns mainGlobals mg) (c : He.SaysX fal fnl tsl tfl exB w h K) (g : pgl.map (gW K) = pgl.map He.DefD.val) : TxB K mg (adOf K) where
  clB := He.cls_ok (c.t.d.fact 96 (f := .cls "Book") rfl)
  clK := He.cls_ok (c.t.d.fact 92 (f := .cls "Kept") rfl)
  clT := He.cls_ok (c.t.d.fact 94 (f := .cls "Trial") rfl)
  nB1 := He.noat_ok (c.t.d.fact 103 (f := .noat "Book" "numbers") rfl)
  nB2 := He.noat_ok (c.t.d.fact 104 (f := .noat "Book" "made") rfl)
  nB3 := He.noat_ok (c.t.d.fact 105 (f := .noat "Book" "past") rfl)
  nK1 := He.noat_ok (c.t.d.fact 106 (f := .noat "Kept" "numbers") rfl)
  nK2 := He.noat_ok (c.t.d.fact 107 (f := .noat "Kept" "made") rfl)
  nK3 := He.noat_ok (c.t.d.fact 108 (f := .noat "Kept" "past") rfl)
  nK4 := He.noat_ok (c.t.d.fact 109 (f := .noat "Kept" "around") rfl)
  nT1 := He.noat_ok (c.t.d.fact 110 (f := .noat "Trial" "book") rfl)
  nT2 := He.noat_ok (c.t.d.fact 111 (f := .noat "Trial" "held") rfl)
  gB := He.glo_ok X G (c.t.d.fact 42 (f := .glo "Book") rfl)
  gK := He.glo_ok X G (c.t.d.fact 40 (f := .glo "Kept") rfl)
  gT := He.glo_ok X G (c.t.d.fact 41 (f := .glo "Trial") rfl)
  mkB := let ⟨fd, F⟩ := (c.t.d.def_ 40 (d := d_Book_init) rfl); ⟨_, fd, He.mkr_ok (c.t.d.fact 97 (f := .mkr "Book") rfl), fun_of F⟩
  mkK := let ⟨fd, F⟩ := (c.t.d.def_ 36 (d := d_Kept_init) rfl); ⟨_, fd, He.mkr_ok (c.t.d.fact 93 (f := .mkr "Kept") rfl), fun_of F⟩
  mkT := let ⟨fd, F⟩ := (c.t.d.def_ 37 (d := d_Trial_init) rfl); ⟨_, fd, He.mkr_ok (c.t.d.fact 95 (f := .mkr "Trial") rfl), fun_of F⟩
  d_become := let ⟨fd, F⟩ := (c.t.d.def_ 41 (d := d_Book_become) rfl); ⟨_, fd, He.meth_ok (c.t.d.fact 112 (f := .meth "Book" "become") rfl), fun_of F⟩
  d_check_known := let ⟨fd, F⟩ := (c.t.d.def_ 42 (d := d_Book_check_known) rfl); ⟨_, fd, He.meth_ok (c.t.d.fact 113 (f := .meth "Book" "check_known") rfl), fun_of F⟩
  d_drop := let ⟨fd, F⟩ := (c.t.d.def_ 47 (d := d_Book_drop) rfl); ⟨_, fd, He.meth_ok (c.t.d.fact 114 (f := .meth "Book" "drop") rfl), fun_of F⟩
  d_wish := let ⟨fd, F⟩ := (c.t.d.def_ 48 (d := d_Book_wish) rfl); ⟨_, fd, He.meth_ok (c.t.d.fact 115 (f := .meth "Book" "wish") rfl), fun_of F⟩
  d_lift := let ⟨fd, F⟩ := (c.t.d.def_ 49 (d := d_Book_lift) rfl); ⟨_, fd, He.meth_ok (c.t.d.fact 116 (f := .meth "Book" "lift") rfl), fun_of F⟩
  d_undo := let ⟨fd, F⟩ := (c.t.d.def_ 50 (d := d_Book_undo) rfl); ⟨_, fd, He.meth_ok (c.t.d.fact 117 (f := .meth "Book" "undo") rfl), fun_of F⟩
  d_trial := let ⟨fd, F⟩ := (c.t.d.def_ 51 (d := d_Book_trial) rfl); ⟨_, fd, He.meth_ok (c.t.d.fact 118 (f := .meth "Book" "trial") rfl), fun_of F⟩
  d_tried := let ⟨fd, F⟩ := (c.t.d.def_ 52 (d := d_Book_tried) rfl); ⟨_, fd, He.meth_ok (c.t.d.fact 119 (f := .meth "Book" "tried") rfl), fun_of F⟩
  d_enter := let ⟨fd, F⟩ := (c.t.d.def_ 38 (d := d_Trial_enter) rfl); ⟨_, fd, He.meth_ok (c.t.d.fact 120 (f := .meth "Trial" "__enter__") rfl), fun_of F⟩
  d_exit := let ⟨fd, F⟩ := (c.t.d.def_ 39 (d := d_Trial_exit) rfl); ⟨_, fd, He.meth_ok (c.t.d.fact 121 (f := .meth "Trial" "__exit__") rfl), fun_of F⟩
  p_names := by
    have e : (pgl.map (gW K))[0]? = (pgl.map He.DefD.val)[0]? := by rw [g]
    obtain ⟨fd, F⟩ := fun_get (d := d_Book_names) (st := s_Book_names) rfl rfl (Option.some.inj e) (ex_at c.more 3 rfl)
    exact ⟨_, _, fd, prop_ok (ex_at c.more 0 rfl), F⟩
  p_wishes := by
    have e : (pgl.map (gW K))[1]? = (pgl.map He.DefD.val)[1]? := by rw [g]
    obtain ⟨fd, F⟩ := fun_get (d := d_Book_wishes) (st := s_Book_wishes) rfl rfl (Option.some.inj e) (ex_at c.more 4 rfl)
    exact ⟨_, _, fd, prop_ok (ex_at c.more 1 rfl), F⟩
  p_changes := by
    have e : (pgl.map (gW K))[2]? = (pgl.map He.DefD.val)[2]? := by rw [g]
    obtain ⟨fd, F⟩ := fun_get (d := d_Book_changes) (st := s_Book_changes) rfl rfl (Option.some.inj e) (ex_at c.more 5 rfl)
    exact ⟨_, _, fd, prop_ok (ex_at c.more 2 rfl), F⟩
  book0 := by
    obtain ⟨f1, F1⟩ := (c.t.d.def_ 45 (d := d_Book_contains) rfl)
    obtain ⟨f2, F2⟩ := (c.t.d.def_ 44 (d := d_Book_getitem) rfl)
    obtain ⟨f3, F3⟩ := (c.t.d.def_ 43 (d := d_Book_setitem) rfl)
    obtain ⟨f4, F4⟩ := (c.t.d.def_ 46 (d := d_Book_len) rfl)
    obtain ⟨a1, a2⟩ := He.ba (ex_at c.more 15 rfl)
    obtain ⟨b1, b2⟩ := He.ba (ex_at c.more 16 rfl)
    obtain ⟨c1, c2⟩ := He.ba (ex_at c.more 17 rfl)
    obtain ⟨e1, e2⟩ := He.ba (ex_at c.more 18 rfl)
    obtain ⟨r1, r⟩ := He.ba (ex_at c.more 19 rfl)
    obtain ⟨r2, r⟩ := He.ba r
    obtain ⟨r3, r⟩ := He.ba r
    exact ⟨_, _, _, _, f1, f2, f3, f4, ⟨He.cls_ok (c.t.d.fact 96 (f := .cls "Book") rfl), He.eqO_ok a1, a2, He.eqO_ok b1, b2, r1, He.eqO_ok c1, c2, He.eqO_ok e1, e2, He.eqO_ok r2, r3⟩, fun_of F1, fun_of F2, fun_of F3, fun_of F4⟩
theorem facts_exs {P : Program} {base : Heap} (X : K.In h) (G : h.Ns mainGlobals mg) (c : He.SaysX fal fnl tsl tfl exB w h K) : Exs P w K mg base (adOf K) where
  un := i_UnknownName (ox_ok (st := s_UnknownName_init) (He.glo_ok X G (c.t.d.fact 6 (f := .glo "UnknownName") rfl)) (ex_at c.more 6 rfl) (let ⟨fd, F⟩ := (c.t.d.def_ 4 (d := d_UnknownName_init) rfl); ⟨fd, fun_of F⟩))
  ii := i_InvalidIndex (ox_ok (st := s_InvalidIndex_init) (He.glo_ok X G (c.t.d.fact 4 (f := .glo "InvalidIndex") rfl)) (ex_at c.more 7 rfl) (let ⟨fd, F⟩ := (c.t.d.def_ 3 (d := d_InvalidIndex_init) rfl); ⟨fd, fun_of F⟩))
  br := i_Broken (ox_ok (st := s_Broken_init) (He.glo_ok X G (c.t.d.fact 8 (f := .glo "Broken") rfl)) (ex_at c.more 8 rfl) (let ⟨fd, F⟩ := (c.t.d.def_ 5 (d := d_Broken_init) rfl); ⟨fd, fun_of F⟩))
  iu := i_InUse (ox_ok (st := s_InUse_init) (He.glo_ok X G (c.t.d.fact 9 (f := .glo "InUse") rfl)) (ex_at c.more 9 rfl) (let ⟨fd, F⟩ := (c.t.d.def_ 6 (d := d_InUse_init) rfl); ⟨fd, fun_of F⟩))
  ng := He.glo_ok X G (c.t.d.fact 10 (f := .glo "NothingToUndo") rfl)
  nx := (He.ba (He.ba (He.ba (He.ba (He.ba (ex_at c.more 19 rfl)).2).2).2).2).1
  nk := (He.ba (He.ba (He.ba (He.ba (He.ba (He.ba (ex_at c.more 19 rfl)).2).2).2).2).2).1
  nb := isT_ok (He.ba (He.ba (He.ba (He.ba (He.ba (He.ba (He.ba (ex_at c.more 19 rfl)).2).2).2).2).2).2).1
  nt := vEq_ok (He.ba (He.ba (He.ba (He.ba (He.ba (He.ba (He.ba (He.ba (ex_at c.more 19 rfl)).2).2).2).2).2).2).2).1
theorem facts_txe (X : K.In h) (G : h.Ns mainGlobals mg) (c : He.SaysX fal fnl tsl tfl exB w h K) : TxE K mg (adOf K) where
  gWV := He.glo_ok X G (c.t.d.fact 0 (f := .glo "WrongValue") rfl)
  gWN := He.glo_ok X G (c.t.d.fact 5 (f := .glo "WrongName") rfl)
  gNA := He.glo_ok X G (c.t.d.fact 7 (f := .glo "NoAnswer") rfl)
  gBr := He.glo_ok X G (c.t.d.fact 8 (f := .glo "Broken") rfl)
  gIU := He.glo_ok X G (c.t.d.fact 9 (f := .glo "InUse") rfl)
  gII := He.glo_ok X G (c.t.d.fact 4 (f := .glo "InvalidIndex") rfl)
  gNU := He.glo_ok X G (c.t.d.fact 10 (f := .glo "NothingToUndo") rfl)
  gUN := He.glo_ok X G (c.t.d.fact 6 (f := .glo "UnknownName") rfl)
  kBr := kin_ok (ex_at c.more 10 rfl)
  kIU := kin_ok (ex_at c.more 11 rfl)
  kII := kin_ok (ex_at c.more 12 rfl)
  kNU := kin_ok (ex_at c.more 13 rfl)
  kUN := kin_ok (ex_at c.more 14 rfl)
  keA := isB_ok (He.ba (He.ba (He.ba (He.ba (He.ba (He.ba (He.ba (He.ba (He.ba (ex_at c.more 19 rfl)).2).2).2).2).2).2).2).2).1
  keK := isT_ok (He.ba (He.ba (He.ba (He.ba (He.ba (He.ba (He.ba (He.ba (He.ba (He.ba (ex_at c.more 19 rfl)).2).2).2).2).2).2).2).2).2).1
theorem facts_rest (c : He.SaysX fal fnl tsl tfl exB w h K) : cmpIn K (adOf K).cBook = true ∧ (He.cT K ("_law_turn", none)).2 ≠ (He.cT K ("_law_tried", none)).2 ∧ He.valsB K (He.ga K "FORMS") [("splits", .int 3), ("whole", .int 3), ("always", .int 2), ("alike", .int 3)] = true := by
  obtain ⟨_, r⟩ := He.ba (ex_at c.more 19 rfl)
  obtain ⟨_, r⟩ := He.ba r
  obtain ⟨_, r⟩ := He.ba r
  obtain ⟨r1, r⟩ := He.ba r
  obtain ⟨_, r⟩ := He.ba r
  obtain ⟨_, r⟩ := He.ba r
  obtain ⟨_, r⟩ := He.ba r
  obtain ⟨_, r⟩ := He.ba r
  obtain ⟨_, r⟩ := He.ba r
  obtain ⟨_, r⟩ := He.ba r
  obtain ⟨r2, r3⟩ := He.ba r
  exact ⟨r1, of_decide_eq_true r2, r3⟩
theorem facts_txf (X : K.In h) (G : h.Ns mainGlobals mg) (c : He.SaysX fal fnl tsl tfl exB w h K) : TxF K mg w := by
  obtain ⟨_, _, v⟩ := facts_rest c
  obtain ⟨es, n, kd⟩ := c.t.tab 0 rfl
  have at_ : ∀ (k : Str) (i : Int), (k, He.Dv.int i) ∈ ([("splits", .int 3), ("whole", .int 3), ("always", .int 2), ("alike", .int 3)] : List (Str × He.Dv)) → ∃ t, PySem.W.nsIn K (He.ga K "FORMS") k = some (some (.int i t)) := fun k i hm => by
    obtain ⟨u, e, r⟩ := He.valsB_ok v hm
    obtain ⟨t, rfl⟩ := r
    exact ⟨t, e⟩
  exact ⟨_, es, n, He.glo_ok X G (c.t.d.fact 102 (f := .glo "FORMS") rfl), kd, at_ "splits" 3 (by simp), at_ "whole" 3 (by simp), at_ "always" 2 (by simp), at_ "alike" 3 (by simp)⟩
theorem dft (X : K.In h) (G : h.Ns mainGlobals mg) {base : Heap} {x : Str} {st : Stmt} (gx : mg x = some (.ref (He.ga K x))) (F : ∃ fd, Fun K x x st (He.fAd K (x, none)) fd) (tb : TabB base mg (He.cT K (x, none)).1 (He.cT K (x, none)).2) : DfT K mg base x st (He.cT K (x, none)).2 := by
  obtain ⟨fd, F⟩ := F
  obtain ⟨k1, k2, k3, k4, k5, k6, k7, k8, k9, e, lk, hc⟩ := F.ex
  obtain ⟨z, ez⟩ := He.codeIn_ref hc
  have e2 : fd.code = .ref z := by rw [e]; exact ez
  refine ⟨_, fd, z, gx, F, e2, ?_⟩
  have e3 : He.codeOf K (x, none) = z := He.codeOf_eq lk e2
  have e4 : (He.cT K (x, none)).1 = z := e3
  rw [e4] at tb
  exact tb
theorem facts_txl (X : K.In h) (G : h.Ns mainGlobals mg) (c : He.SaysX fal fnl tsl tfl exB w h K) {base : Heap} (tb : ∀ p ∈ tfl.map (He.cT K), TabB base mg p.1 p.2) : TxL K mg base (He.cT K ("_law_turn", none)).2 (He.cT K ("_law_tried", none)).2 :=
  ⟨dft X G (He.glo_ok X G (c.t.d.fact 66 (f := .glo "_law_turn") rfl)) (let ⟨fd, F⟩ := (c.t.d.def_ 76 (d := d__law_turn) rfl); ⟨fd, fun_of F⟩) (tb _ (by simp [tfl])), dft X G (He.glo_ok X G (c.t.d.fact 67 (f := .glo "_law_tried") rfl)) (let ⟨fd, F⟩ := (c.t.d.def_ 77 (d := d__law_tried) rfl); ⟨fd, fun_of F⟩) (tb _ (by simp [tfl])), (facts_rest c).2.1⟩
end
end G
-- Zend
set_option Elab.async false
set_option linter.all false
set_option maxRecDepth 100000
set_option maxHeartbeats 0
/-! the end: the law called where no repr is under way -/
namespace G
open PySem PySem.Spec PyProof.Rows L2 LamX NdefX
/-- an empty table, the script's object -/
abbrev tabO : Obj := { cls := .none, data := .fields #[] }
abbrev lisO (vs : List Value) : Obj := { cls := .type "list", data := .seq vs.toArray }
/-- what is tracked at first: the tables, the script unless it is written -/
def HS (K : PySem.W.Frag) (tabs : List Addr) (a : Addr) (vs : List Value) (ns : List Int) : Hp := fun x =>
  if x ∈ tabs then some (.tbl #[]) else if x = a ∧ (K.lookup a).isNone = true then some (.frz (lisO vs) (.lst (ns.map V.int))) else none
section
variable {K : PySem.W.Frag} {tabs : List Addr} {a : Addr} {vs : List Value} {ns : List Int} {h : Heap}
theorem HS_tab {x : Addr} (hx : x ∈ tabs) : HS K tabs a vs ns x = some (.tbl #[]) := if_pos hx
theorem HS_cases {x : Addr} {u : HO} (e : HS K tabs a vs ns x = some u) : (x ∈ tabs ∧ u = .tbl #[]) ∨ (x ∉ tabs ∧ x = a ∧ (K.lookup a).isNone = true ∧ u = .frz (lisO vs) (.lst (ns.map V.int))) := by
  unfold HS at e
  split at e
  · rename_i hx
    exact .inl ⟨hx, (Option.some.inj e).symm⟩
  · rename_i hx
    split at e
    · rename_i hy
      exact .inr ⟨hx, hy.1, hy.2, (Option.some.inj e).symm⟩
    · cases e
theorem HS_out (hT : ∀ x ∈ tabs, h.get? x = some tabO) (ha : h.get? a = some (lisO vs)) {x : Addr} {o : Obj} (e : h.get? x = some o) (n1 : o.data ≠ .fields #[]) (n2 : ∀ zs n, o.data ≠ .seq zs n) : HS K tabs a vs ns x = none := by
  cases q : HS K tabs a vs ns x with
  | none => rfl
  | some u =>
    rcases HS_cases q with ⟨hx, _⟩ | ⟨_, hx, _⟩
    · rw [hT x hx] at e
      cases e
      exact absurd rfl n1
    · rw [hx, ha] at e
      cases e
      exact absurd rfl (n2 _ _)
theorem HS_frag (KX : K.In h) (nT : ∀ x ∈ tabs, K.lookup x = none) : K.In (hidT h (HS K tabs a vs ns)) := fun x o e => by
  refine hidT_get (KX x o e) ?_
  cases q : HS K tabs a vs ns x with
  | none => rfl
  | some u =>
    rcases HS_cases q with ⟨hx, _⟩ | ⟨_, hx, hy, _⟩
    · rw [nT x hx] at e
      cases e
    · rw [hx] at e
      rw [e] at hy
      cases hy
theorem HS_ns (hT : ∀ x ∈ tabs, h.get? x = some tabO) (ha : h.get? a = some (lisO vs)) {x : Addr} {m : Str → Option Value} (z : h.Ns x m) : (hidT h (HS K tabs a vs ns)).Ns x m := by
  obtain ⟨o, es, ep, e, dd, r⟩ := z
  refine ⟨o, es, ep, hidT_get e (HS_out hT ha e ?_ ?_), dd, r⟩
  · rw [dd]
    exact fun y => nomatch y
  · intro zs n
    rw [dd]
    exact fun y => nomatch y
theorem HS_sq (hi : IntsAre vs ns) (hl : ns.length ≤ sizeLine) (KX : K.In h) (ha : h.get? a = some (lisO vs)) (hT : ∀ x ∈ tabs, h.get? x = some tabO) : SqL K (HS K tabs a vs ns) a (ns.map V.int) := by
  have rv := vals_ints hi
  cases q : K.lookup a with
  | none =>
    have na : a ∉ tabs := fun z => by
      have e := hT a z
      rw [ha] at e
      cases e
    refine .inl (.inr ⟨lisO vs, ?_⟩)
    unfold HS
    rw [if_neg na, if_pos ⟨rfl, by rw [q]; rfl⟩]
  | some o =>
    have e := KX a o q
    rw [ha] at e
    have eo := Option.some.inj e
    subst eo
    exact .inr ⟨_, vs.toArray, _, q, rfl, rfl, rfl, by rw [List.size_toArray, hi.length]; exact hl, by simpa using rv⟩
theorem HS_ok {P : Program} {w : World} (hi : IntsAre vs ns) (hl : ns.length ≤ sizeLine) (ha : h.get? a = some (lisO vs)) (hT : ∀ x ∈ tabs, h.get? x = some tabO) : HOk P w (HS K tabs a vs ns) h := fun x u e => by
  rcases HS_cases e with ⟨hx, z⟩ | ⟨_, hx, _, z⟩
  · rw [z]
    exact hT x hx
  · rw [z, hx]
    exact ⟨ha, by rw [List.length_map]; exact hl, vs, _, vals_ints hi, ha⟩
end
theorem call_end {P : Program} {w : World} {K : PySem.W.Frag} {mg mb : Str → Option Value} {k : Nat} {fa a : Addr} {cs : List (Addr × Addr)} {y : Str} {sp : Sp} {s : Shared} {vs : List Value} {ns : List Int}
    (KX : K.In s.heap) (gN : s.heap.Ns mainGlobals mg) (bN : s.heap.Ns builtinsNs mb) (bB : ∀ z : Str, z ≠ "__name__" → mb z = bootBuiltins z) (nl : s.heap.NoLimit) (gz : s.gens = #[])
    (tE : ∀ p ∈ cs, s.heap.get? p.2 = some tabO) (tN : ∀ p ∈ cs, K.lookup p.2 = none) (tC : ∀ p ∈ cs, PySem.W.CodeHd s.heap p.1 p.2)
    (bM : ∃ (bm : Addr) (ob : Obj), mg "__builtins__" = some (.ref bm) ∧ bm ≠ builtinsNs ∧ s.heap.get? bm = some ob ∧ ob.cls = .type "module" ∧ ob.dict = some builtinsNs ∧ ob.data = .plain)
    (ha : s.heap.get? a = some (lisO vs)) (hi : IntsAre vs ns) (hl : ns.length ≤ sizeLine) (hr : Room k callerA)
    (F : ∀ base : Heap, K.In base → base.Ns mainGlobals mg → (∀ p ∈ cs, TabB base mg p.1 p.2) → ∃ fd, FnG P w K mg base C8.CX0 k fa fd [y] sp ∧ L2.Binds K fd [y] [])
    (ask : ∀ H : Hp, (∀ p ∈ cs, H p.2 = some (.tbl #[])) → SqL K H a (ns.map V.int) → sp [.ref a] H (fun v _ => v = .bl true) fun _ _ _ => False) :
    codeAny (model P w) callerA (.call (.ref fa) ⟨[.ref a], []⟩) (fun r s' => r = .ok (.ret (.bool true)) ∧ OldK s.heap s'.heap ∧ s'.os = s.os ∧ AllBare s'.gens) s := by
  have tA : ∀ x ∈ cs.map Prod.snd, s.heap.get? x = some tabO := fun x hx => by
    obtain ⟨p, hp, e⟩ := List.mem_map.mp hx
    rw [← e]
    exact tE p hp
  have tL : ∀ x ∈ cs.map Prod.snd, K.lookup x = none := fun x hx => by
    obtain ⟨p, hp, e⟩ := List.mem_map.mp hx
    rw [← e]
    exact tN p hp
  have mem : ∀ p ∈ cs, p.2 ∈ cs.map Prod.snd := fun p hp => List.mem_map.mpr ⟨p, hp, rfl⟩
  generalize hH : HS K (cs.map Prod.snd) a vs ns = H
  have kIn : K.In (hidT s.heap H) := by rw [← hH]; exact HS_frag KX tL
  have nsB : ∀ {x : Addr} {m : Str → Option Value}, s.heap.Ns x m → (hidT s.heap H).Ns x m := fun z => by rw [← hH]; exact HS_ns tA ha z
  have out : ∀ {x : Addr} {o : Obj}, s.heap.get? x = some o → o.data ≠ .fields #[] → (∀ zs n, o.data ≠ .seq zs n) → (hidT s.heap H).get? x = some o := fun e n1 n2 => hidT_get e (by rw [← hH]; exact HS_out tA ha e n1 n2)
  have md : L2.Mod K mg (hidT s.heap H) := by
    obtain ⟨mc, e1, e2⟩ := nl
    exact ⟨kIn, nsB gN, ⟨mb, nsB bN, bB⟩, ⟨mc, nsB e1, e2⟩⟩
  have hTab : ∀ p ∈ cs, TabB (hidT s.heap H) mg p.1 p.2 := by
    intro p hp
    refine ⟨?_, ?_, ?_⟩
    · obtain ⟨oc, us, fl, u1, u2, u3, u4, u5, u6, g0, g1, g2, g3, rest⟩ := tC p hp
      refine ⟨oc, us, fl, u1, u2, u3, u4, u5, u6, out g0 (fun z => ?_) (fun zs n z => ?_), g1, g2, g3, rest⟩
      · rw [g2] at z
        cases z
        cases g3
      · rw [g2] at z
        cases z
    · obtain ⟨bm, ob, m1, m2, m3, m4, m5, m6⟩ := bM
      refine ⟨bm, ob, m1, m2, fun z => ?_, fun z => ?_, out m3 (fun z => ?_) (fun zs n z => ?_), m4, m5, m6⟩
      · obtain ⟨o, es, ep, e, dd, _⟩ := gN
        rw [← z, m3] at e
        cases e
        rw [m6] at dd
        cases dd
      · rw [z, tE p hp] at m3
        cases m3
        cases m6
      · rw [m6] at z
        cases z
      · rw [m6] at z
        cases z
    · intro z
      obtain ⟨o, es, ep, e, dd, _⟩ := gN
      rw [z, tE p hp] at e
      cases e
      cases dd
  have hok : HOk P w H s.heap := by rw [← hH]; exact HS_ok hi hl ha tA
  have e0 : Env0 P w K mg (hidT s.heap H) callerA [] s H := ⟨rfl, md, fun x o e => of_hidT e, Nat.le_of_eq (hidT_size _ _), trivial, (fun x hx => nomatch hx), hok, .of_eq gz⟩
  have tH : ∀ p ∈ cs, H p.2 = some (.tbl #[]) := fun p hp => by rw [← hH]; exact HS_tab (mem p hp)
  have sq : SqL K H a (ns.map V.int) := by rw [← hH]; exact HS_sq hi hl KX ha tA
  obtain ⟨fd, Fn, bd⟩ := F _ kIn (nsB gN) hTab
  refine codeAny_mono (Fn.run callerA [] s H ⟨[.ref a], []⟩ [.ref a] [.ref a] _ _ hr rfl e0 (bd s [.ref a] KX rfl) (.cons rfl .nil) (ask H tH sq)) fun r s' z => ?_
  cases r with
  | error e => exact False.elim z
  | ok fl =>
    cases fl with
    | next => exact False.elim z
    | brk => exact False.elim z
    | cont => exact False.elim z
    | ret u =>
      obtain ⟨v, H', os, bare, un, hok', rv, ev⟩ := z
      have ev : v = .bl true := ev
      subst ev
      obtain rfl : u = Value.bool true := rv
      have tab' : ∀ x ∈ cs.map Prod.snd, ∃ more : Array Value, s'.heap.get? x = some { cls := .none, data := .fields more } := fun x hx => by
        obtain ⟨more, g⟩ := un.tbls x #[] (by rw [← hH]; exact HS_tab hx)
        exact ⟨_, hok' x _ g⟩
      have same : ∀ x o, x ∉ cs.map Prod.snd → s.heap.get? x = some o → s'.heap.get? x = some o := fun x o nx e => by
        cases q : H x with
        | none => exact un.keep x o e q (fun z => nomatch z) (fun z => nomatch z)
        | some t =>
          rw [← hH] at q
          rcases HS_cases q with ⟨hx, _⟩ | ⟨_, hx, _, ht⟩
          · exact absurd hx nx
          · have g1 := un.frzs x (lisO vs) (.lst (ns.map V.int)) (by rw [← hH, q, ht])
            have g2 := (hok' x _ g1).1
            rw [hx, ha] at e
            rw [hx] at g2 ⊢
            rw [g2, Option.some.inj e]
      refine ⟨rfl, ⟨fun x o e => ?_, fun x o e => ?_⟩, os, bare⟩
      · by_cases hx : x ∈ cs.map Prod.snd
        · obtain ⟨more, g⟩ := tab' x hx
          obtain ⟨p, hp, ep⟩ := List.mem_map.mp hx
          have e2 := tA x hx
          rw [e] at e2
          cases e2
          refine .inr (.inl ⟨?_, rfl, #[], more, rfl, by rw [Array.empty_append]; exact g⟩)
          rw [← ep]
          exact ((tC p hp).tab (tE p hp)).isCodeTable
        · exact .inl (same x o hx e)
      · by_cases hx : x ∈ cs.map Prod.snd
        · obtain ⟨more, g⟩ := tab' x hx
          exact ⟨_, g⟩
        · exact ⟨o, same x o hx e⟩
theorem law_at {h : Heap} {K : PySem.W.Frag} {mg : Str → Option Value} {w : World} {P : Program} {base : Heap} {fa : Addr} (X : K.In h) (G : h.Ns mainGlobals mg) (c : He.SaysX fal fnl tsl tfl exB w h K) (g : pgl.map (gW K) = pgl.map He.DefD.val) (hm : mg "law" = some (.ref fa)) (tb : ∀ p ∈ tfl.map (He.cT K), TabB base mg p.1 p.2) :
    ∃ fd, FnG P w K mg base C8.CX0 40 fa fd ["_law_cells"] (spLaw K (He.cT K ("_law_turn", none)).2 (He.cT K ("_law_tried", none)).2) ∧ L2.Binds K fd ["_law_cells"] [] := by
  obtain ⟨f, fd, e, _, F, b⟩ := w_law (P := P) (w := w) (base := base) (facts_tx X G c) (facts_txf X G c) (facts_txb X G c g) (facts_exs X G c) (facts_txe X G c) (facts_txl X G c tb) (facts_rest c).1
  rw [hm] at e
  cases e
  exact ⟨fd, F, b⟩
theorem law_ask {K : PySem.W.Frag} {a : Addr} {ns : List Int} {H : Hp} (hn : ns.length ≤ 63) (hT : ∀ p ∈ tfl.map (He.cT K), H p.2 = some (.tbl #[])) (hS : SqL K H a (ns.map V.int)) :
    spLaw K (He.cT K ("_law_turn", none)).2 (He.cT K ("_law_tried", none)).2 [.ref a] H (fun v _ => v = .bl true) fun _ _ _ => False :=
  ⟨a, ns, rfl, hS, by omega, ⟨Tab1.nil (hT _ (by simp [tfl])), Tab1.nil (hT _ (by simp [tfl]))⟩, fun _ => rfl⟩
end G
open PySem PySem.W PySem.Calls PyProof.Rows
theorem PySem.Challenge.cw_purepowers_k63_whole_book_trials_holds : PySem.Challenge.rw_purepowers_k63_whole_book_trials.Holds := by
  w_on; o_law
  refine HandSHeadRun.head_any (r := OpenLaw.row PySem.Challenge.rw_purepowers_k63_whole_book_trials) (q := view (OpenLaw.row PySem.Challenge.rw_purepowers_k63_whole_book_trials).prog [83]) (H := G.hk) (ob := G.ob) (M := 9000) (loose := G.loose) (d := HandSHeadRun.topDef (OpenLaw.row PySem.Challenge.rw_purepowers_k63_whole_book_trials).prog 83) (kwd := []) G.ob_eq
    (by kernel_rfl) (fun s => by kernel_rfl) G.run (by kernel_rfl) (by kernel_rfl) (by kernel_rfl) (by rfl) (by first | assumption | decide +kernel) (by decide +kernel) ⟨rfl, rfl, rfl, rfl, rfl, by decide +kernel⟩ ?hw ?hc
  case hw => w_witness2
  case hc =>
    refine Att.attach_callB (l := PySem.Challenge.rw_purepowers_k63_whole_book_trials) (n := 63) rfl (by kernel_rfl) fun w s₀ s₁ mg mb fa o pm cd doc a vs ns Gr Y ho hd hcd hmg0 hobj hints hlen hbits hg => ?_
    obtain ⟨K, KX, c, g⟩ := Y
    have hmg : mg ("law" : PySem.Str) = some (.ref fa) := by
      have e : (HandSHeadRun.topDef (OpenLaw.row PySem.Challenge.rw_purepowers_k63_whole_book_trials).prog 83).name = ("law" : PySem.Str) := by kernel_rfl
      rw [← e]
      exact hmg0
    have tE : ∀ p ∈ G.tfl.map (He.cT K), s₁.heap.get? p.2 = some G.tabO := fun p hp => by
      obtain ⟨z, hz, e⟩ := List.mem_map.mp hp
      rw [← e]
      exact c.empty z hz
    have tN : ∀ p ∈ G.tfl.map (He.cT K), K.lookup p.2 = none := fun p hp => by
      obtain ⟨z, hz, e⟩ := List.mem_map.mp hp
      rw [← e]
      exact c.out z hz
    have tC : ∀ p ∈ G.tfl.map (He.cT K), PySem.W.CodeHd s₁.heap p.1 p.2 := fun p hp => by
      obtain ⟨z, hz, e⟩ := List.mem_map.mp hp
      rw [← e]
      exact PySem.W.codeHd_of_K KX (c.hd z hz)
    exact G.call_end (k := 40) KX Gr.T.g Gr.T.b Gr.T.builtins Gr.T.nolimit hg tE tN tC Gr.T.bmain hobj hints (Nat.le_trans hlen (by decide)) ⟨rfl, by decide, by decide⟩ (fun base _ _ tb => G.law_at KX Gr.T.g c g hmg tb) (fun H hT hS => G.law_ask hlen hT hS)
