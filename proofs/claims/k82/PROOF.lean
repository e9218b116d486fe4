import PyProof.Rows.All
import Wide.All
import OpenK.AllK
import Wide.FinOn
import HandS.ForMost
import HandS.Text
import HandS.Exc
import HandS.ExcInit
import HandS.ExcField
import HandS.FStr
import HandS.CallRecv
import HandS.HeadWalk
import KE.KExcSuper
import HandS.ExcCtx
import HandS.ExcOwn
import HandS.TryOnly
import HandS.WordsExc
import HandS.Lambda
import HandS.Deep
import HandS.TupAny
import HandS.TupMul
import HandS.Style
import HandS.Wide
import HandS.IsInst
import HandS.Replace
import HandS.Iter
import HandS.Zip
import HandS.CallLocal
import HandS.HotCalls
import HandS.HeadHook1
import HandS.ExcIs
import HandS.ReplaceLit
import PyProof.Rows.StrStrike
import PyProof.ExcBaseAll.ValueError
import HandS.Hot
import HandS.Defaults
import HandS.Head0
import HandS.Head1
import HandS.Head2
import HandS.HeadEnd
import HandS.HeadHook2
import HandS.HeadHook3
import HandS.HeadHook4
import KE.KStateDown
import HandS.More
import PySem.Challenge.RW_anylights_k82_whole_tiles_written_and_re
set_option Elab.async false
set_option linter.all false
set_option maxRecDepth 100000
set_option maxHeartbeats 2000000
/-! Rx0: min of a list of tuples of ints. -/
namespace RT
open PySem PySem.Spec PyProof.Rows L2
/-- a tuple of ints, where it lies -/
def TupAt (h : Heap) (v : Value) (ns : List Int) : Prop := ∃ (a : Addr) (its : Array Value), v = .ref a ∧ IsTup h a its ∧ IntsAre its.toList ns
theorem TupAt.keep {h h' : Heap} {v : Value} {ns : List Int} (t : TupAt h v ns) (k : ∀ b o, h.get? b = some o → h'.get? b = some o) : TupAt h' v ns := by
  obtain ⟨a, its, rfl, ⟨o, ho, hc, n, hd⟩, hi⟩ := t
  exact ⟨a, its, rfl, ⟨o, k a o ho, hc, n, hd⟩, hi⟩
section
variable {prog : Program} {w : World} {A : Around} {E : Value → Shared → Prop} {R : Result → Shared → Prop}
abbrev better (nss : Nat → List Int) : Nat → Nat → Bool := fun i j => HT.lexLt (nss i) (nss j)
theorem tupLess {i j : Nat} {nss : Nat → List Int} {x y : Value} {t : Shared} {Q : Value → Shared → Prop} (hx : TupAt t.heap x (nss i)) (hy : TupAt t.heap y (nss j)) (room : A.units < cLine) (q : Q (.bool (better nss i j)) t) :
    wpAny (model prog w) A (richCompare .Lt x y) Q E t := by
  obtain ⟨a, us, rfl, p1, i1⟩ := hx
  obtain ⟨b, vs, rfl, p2, i2⟩ := hy
  exact HT.lt_tupInts p1 p2 i1 i2 room q
theorem loopT (calm : A.handled = none) (room : A.in1.units < cLine) {l I S : Addr} {its : Array Value} {nss : Nat → List Int} {B : Heap} (tups : ∀ j (hj : j < its.size), TupAt B its[j] (nss j)) (hI : l ≠ I) (hSI : S ≠ I) (hSl : S ≠ l) (nI : B.get? I = none) (nS : B.get? S = none) :
    ∀ (k j : Nat) (t : Shared) (best : Value) (cap : Nat), its.size - (j + 1) = k → j + 1 ≤ its.size → (t.heap.IsListIter I l (j + 1) ∧ t.heap.IsList l its) → (∀ b o, B.get? b = some o → t.heap.get? b = some o) → its[argBest (better nss) j]? = some best →
    t.heap.get? S = some { cls := .type "list", dict := none, data := .seq #[best, best] cap, slots := #[] } →
    (∀ v H tk, its[argBest (better nss) (its.size - 1)]? = some v → (∀ b o, B.get? b = some o → H.get? b = some o) → R (.ok (.ret v)) { t with heap := H, toks := tk }) →
    codeAny (model prog w) A (.builtin "min.loop" ⟨[.ref I, .none, .ref S], []⟩) R t := by
  have wk := Walks.list (prog := prog) (w := w) (A := A.in1) calm I l hI its
  have nm : (toString "min" ++ toString ".loop" : String) = "min.loop" := by decide
  have alive : ∀ {b : Addr} {o : Obj}, B.get? b = some o → b ≠ I ∧ b ≠ S := @fun b o q => ⟨fun e => (by rw [e, nI] at q; cases q), fun e => (by rw [e, nS] at q; cases q)⟩
  have dif : ∀ {b : Addr}, b ∈ [I, l] → S ≠ b := @fun b hb e => by
    subst e
    simp only [List.mem_cons, List.mem_nil_iff, or_false] at hb
    rcases hb with e | e
    · exact hSI e
    · exact hSl e
  have hSn : S ∉ [I] := by simpa using hSI
  intro k
  induction k with
  | zero =>
    intro j t best cap hk hj hi hB hb hS hR
    have last : j + 1 = its.size := by omega
    refine codeAny_builtin PySem.F.entry_min_loop ?_
    rw [Around.under_plainId PySem.F.plain_min_loop _]
    show wpAny _ _ (seqItems? (.ref S) >>= _) _ _ t
    refine wpAny_bind (wpAny_seqItems hS rfl ?_)
    show wpAny _ _ (tryCatch (pyNext (.ref I)) _ >>= _) _ _ t
    refine wpAny_bind (wpAny_tryCatch (wk.done t _ _ (last ▸ hi) fun H tk kk => ?_))
    have hT := kk S _ hSn hS
    show wpAny _ _ (updateSeq S (fun _ => #[]) >>= _) _ _ _
    refine wpAny_bind ?_
    refine wpAny_updateSeq hT rfl (wpAny_bind (wpAny_letGo (wpAny_pure ?_)))
    exact hR best _ tk (by rw [← last]; exact hb) fun b o q => (Heap.get?_update_other _ _ (Ne.symm (alive q).2)).trans (kk b o (by simpa using (alive q).1) (hB b o q))
  | succ k ih =>
    intro j t best cap hk hj hi hB hb hS hR
    have more : j + 1 < its.size := by omega
    refine codeAny_builtin PySem.F.entry_min_loop ?_
    rw [Around.under_plainId PySem.F.plain_min_loop _]
    show wpAny _ _ (seqItems? (.ref S) >>= _) _ _ t
    refine wpAny_bind (wpAny_seqItems hS rfl ?_)
    show wpAny _ _ (tryCatch (pyNext (.ref I)) _ >>= _) _ _ t
    refine wpAny_bind (wpAny_tryCatch (wk.item (j + 1) t _ _ more hi fun u H tk hu hi2 kk => ?_))
    have hT := kk S _ hSn hS
    have hB2 : ∀ b o, B.get? b = some o → H.get? b = some o := fun b o q => kk b o (by simpa using (alive q).1) (hB b o q)
    have lt0 : argBest (better nss) j < its.size := (Array.getElem?_eq_some_iff.mp hb).1
    have tu : TupAt H u (nss (j + 1)) := by
      obtain ⟨z, e⟩ := Array.getElem?_eq_some_iff.mp hu
      rw [← e]
      exact (tups _ z).keep hB2
    have tb : TupAt H best (nss (argBest (better nss) j)) := by
      obtain ⟨z, e⟩ := Array.getElem?_eq_some_iff.mp hb
      rw [← e]
      exact (tups _ z).keep hB2
    show wpAny _ _ (tryCatch (holding [u, u] (richCompare .Lt u best >>= _)) _ >>= _) _ _ _
    refine wpAny_bind (wpAny_tryCatch (wpAny_holding (wpAny_bind (tupLess (t := { t with heap := H, toks := tk }) tu tb room ?_))))
    refine wpAny_bind (wpAny_holding (wpAny_truthy_bool ?_))
    refine wpAny_bind (wpAny_letGo (wpAny_pure ?_))
    cases hbt : better nss (j + 1) (argBest (better nss) j) with
    | true =>
      simp only [if_true]
      refine wpAny_bind ?_
      refine wpAny_updateSeq hT rfl (wpAny_bind (wpAny_letGo ?_))
      rw [nm]
      refine wpAny_pure ⟨plainId_quiet PySem.F.plain_min_loop _, ih (j + 1) _ u _ (by omega) more (wk.frame _ _ _ hi2 fun b hf o e => ?_) (fun b o q => ?_) (by simp only [argBest, hbt, if_true]; exact hu) (Heap.get?_update_self _ hT rfl) fun v H2 tk2 q1 q2 => hR v H2 tk2 q1 q2⟩
      · exact (Heap.get?_update_other _ _ (dif hf)).trans e
      · exact (Heap.get?_update_other _ _ (Ne.symm (alive q).2)).trans (hB2 b o q)
    | false =>
      simp only [Bool.false_eq_true, if_false]
      refine wpAny_bind (wpAny_letGo ?_)
      rw [nm]
      exact wpAny_pure ⟨plainId_quiet PySem.F.plain_min_loop _, ih (j + 1) _ best cap (by omega) more hi2 hB2 (by simp only [argBest, hbt, Bool.false_eq_true, if_false]; exact hb) hT fun v H2 tk2 q1 q2 => hR v H2 tk2 q1 q2⟩
theorem firstT (calm : A.handled = none) (room : A.in1.units < cLine) {l I S : Addr} {its : Array Value} {nss : Nat → List Int} {B : Heap} {t : Shared} {cap : Nat} (tups : ∀ j (hj : j < its.size), TupAt B its[j] (nss j)) (hI : l ≠ I) (hSI : S ≠ I) (hSl : S ≠ l) (nI : B.get? I = none) (nS : B.get? S = none)
    (pos : 0 < its.size) (hi : t.heap.IsListIter I l 0 ∧ t.heap.IsList l its) (hB : ∀ b o, B.get? b = some o → t.heap.get? b = some o) (hS : t.heap.get? S = some { cls := .type "list", dict := none, data := .seq #[] cap, slots := #[] })
    (hR : ∀ v H tk, its[argBest (better nss) (its.size - 1)]? = some v → (∀ b o, B.get? b = some o → H.get? b = some o) → R (.ok (.ret v)) { t with heap := H, toks := tk }) :
    codeAny (model prog w) A (.builtin "min.loop" ⟨[.ref I, .none, .ref S], []⟩) R t := by
  have wk := Walks.list (prog := prog) (w := w) (A := A.in1) calm I l hI its
  have nm : (toString "min" ++ toString ".loop" : String) = "min.loop" := by decide
  have hSn : S ∉ [I] := by simpa using hSI
  have alive : ∀ {b : Addr} {o : Obj}, B.get? b = some o → b ≠ I ∧ b ≠ S := @fun b o q => ⟨fun e => (by rw [e, nI] at q; cases q), fun e => (by rw [e, nS] at q; cases q)⟩
  refine codeAny_builtin PySem.F.entry_min_loop ?_
  rw [Around.under_plainId PySem.F.plain_min_loop _]
  show wpAny _ _ (seqItems? (.ref S) >>= _) _ _ t
  refine wpAny_bind (wpAny_seqItems hS rfl ?_)
  show wpAny _ _ (tryCatch (pyNext (.ref I)) _ >>= _) _ _ t
  refine wpAny_bind (wpAny_tryCatch (wk.item 0 t _ _ pos hi fun u H tk hu hi2 kk => ?_))
  have hT := kk S _ hSn hS
  show wpAny _ _ (updateSeq S (fun _ => #[u, u]) >>= _) _ _ _
  refine wpAny_bind ?_
  refine wpAny_updateSeq hT rfl ?_
  rw [nm]
  refine wpAny_pure ⟨plainId_quiet PySem.F.plain_min_loop _, loopT calm room tups hI hSI hSl nI nS _ 0 _ u _ rfl pos (wk.frame _ _ _ hi2 fun b hf o e => ?_) (fun b o q => ?_) hu (Heap.get?_update_self _ hT rfl) fun v H2 tk2 q1 q2 => hR v H2 tk2 q1 q2⟩
  · have : S ≠ b := fun e => by
      subst e
      simp only [List.mem_cons, List.mem_nil_iff, or_false] at hf
      rcases hf with e | e
      · exact hSI e
      · exact hSl e
    exact (Heap.get?_update_other _ _ this).trans e
  · exact (Heap.get?_update_other _ _ (Ne.symm (alive q).2)).trans (kk b o (by simpa using (alive q).1) (hB b o q))
theorem min_tups (calm : A.handled = none) (room : A.in1.units < cLine) {l : Addr} {its : Array Value} {nss : Nat → List Int} {t : Shared} {Q : Value → Shared → Prop} (hl : t.heap.IsList l its) (tups : ∀ j (hj : j < its.size), TupAt t.heap its[j] (nss j)) (pos : 0 < its.size)
    (q : ∀ v H tk, its[argBest (better nss) (its.size - 1)]? = some v → (∀ b o, t.heap.get? b = some o → H.get? b = some o) → Q v { t with heap := H, toks := tk }) :
    wpAny (model prog w) A (call (.builtin "min") [.ref l]) Q E t := by
  have nm : (toString "min" ++ toString ".loop" : String) = "min.loop" := by decide
  have lt : l < t.heap.objs.size := by
    obtain ⟨_, e, _⟩ := hl
    exact Heap.lt_size e
  refine call_function_tree PySem.F.kind_min PySem.F.plain_min PySem.F.entry_min (PySem.F.args_min1 _) ?_
  show wpAny _ _ (Builtin.Builtins.bindParams "min" ["key", "default"] 0 ⟨[], []⟩ >>= _) _ _ t
  refine wpAny_bind (wpAny_of_eq (show Builtin.Builtins.bindParams "min" ["key", "default"] 0 ⟨[], []⟩ = pure [none, none] from rfl) ?_)
  refine wpAny_bind (wpAny_pure ?_)
  refine wpAny_bind (wpAny_pyIter_list hl ?_)
  refine wpAny_bind (wpAny_newObj_type ?_)
  rw [nm]
  have none1 : t.heap.get? t.heap.objs.size = none := Heap.get?_none_of_le (Nat.le_refl _)
  refine wpAny_pure ⟨plainId_quiet PySem.F.plain_min_loop _, firstT (B := t.heap) calm room tups (Nat.ne_of_lt lt) ?_ ?_ none1 ?_ pos ⟨?_, ?_⟩ (fun b o e => Heap.get?_push_of_some _ (Heap.get?_push_of_some _ e)) (Heap.get?_push_size _ rfl) fun v H tk q1 q2 => q v H tk q1 q2⟩
  · rw [Heap.size_push]
    exact Nat.succ_ne_self _
  · rw [Heap.size_push]
    exact Nat.ne_of_gt (Nat.lt_succ_of_lt lt)
  · exact Heap.get?_none_of_le (by rw [Heap.size_push]; exact Nat.le_succ _)
  · exact ⟨_, Heap.get?_push_of_some _ (Heap.get?_push_size _ rfl), rfl, rfl⟩
  · exact (hl.push _).push _
end
end RT
set_option Elab.async false
set_option linter.all false
set_option maxRecDepth 100000
set_option maxHeartbeats 2000000
/-! Rx20: an exception whose __init__ says super().__init__(text), then self.field = value. -/
namespace SI
open PySem PySem.Spec PyProof.Rows L2
section
variable {X : Cx} {pins : List (Addr × Obj)} {σ : L2.St} {H : Hp} {s : Shared} {a C u : Addr} {Q : Value → Shared → Prop} {E : Value → Shared → Prop} {A : Around}
/-- the built-in __init__, bound to the exception, called -/
theorem bound_init {us : List Value} (T : OexC X.K C) (I : Inv X pins σ H s) (e : H a = some (exo a C none)) (hu : s.heap.get? u = some (PySem.W.kxs_mw "ValueError.__init__" a)) (hl : us.length ≤ sizeLine) (h : ∀ s', Inv X pins σ H s' → Q .none s') :
    wpAny (model X.prog X.w) A (call (.ref u) us) Q E s := by
  obtain ⟨nm, q, N, bs, bm, sn, sub, ab, col, dd, k0, k1, k2, k3, k5, hC, hbm⟩ := T.cls
  obtain ⟨t1, ho⟩ := exo_at I.hok e
  have hCs := I.kIn _ _ hC
  obtain ⟨hp, g, d, t, os⟩ := s
  have fin : ∀ h', (∀ b o, b ≠ a → hp.get? b = some o → h'.get? b = some o) → h'.get? a = some (PySem.W.excObj C hp.objs.size none .none) → Q .none ⟨h', g, d, t, os⟩ := fun h' k hx => by
    have J := I.write (t' := t) (x := a) (e := a) (o := exo a C none) (by rw [e]; exact True.intro) (.inl rfl) k ⟨_, hx⟩ (exo_ok hx)
    have eu : upd H a (exo a C none) = H := by
      funext b
      by_cases hb : b = a
      · rw [hb, upd_same, e]
      · rw [upd_ne hb]
    rw [eu] at J
    exact h _ J
  refine wpAny_call (codeAny_of_tree ?_)
  show wpAny _ _ (callAny (.ref u) ⟨us, []⟩) _ _ _
  simp only [callAny]
  refine wpAny_bind (wpAny_load hu ?_)
  simp only [PySem.W.kxs_mw, show (Value.type "method-wrapper" == Value.type "method" || Value.type "method-wrapper" == Value.type "builtin_function_or_method" || Value.type "method-wrapper" == Value.type "method-wrapper") = true by decide, if_true]
  refine PySem.W.KFB.if_so (by decide) ?_
  refine wpAny_bind (PySem.W.check_bound_init F.excBase_ValueError.toExcCallFacts hCs ho rfl ?_)
  refine wpAny_bind (wpAny_pure (wpAny_pure ?_))
  refine ⟨plainId_quiet F.excBase_ValueError.init.plain _, codeAny_builtin F.excBase_ValueError.initEntry ?_⟩
  exact PySem.W.exc_init_tree (cls := .ref C) (t0 := t1) (dv := none) (c2 := .none) (c3 := .none) (b4 := .bool false) ho hl fun h' k hx _ => fin h' k hx
end
/-- what the class and its __init__ are known by -/
structure IniC (K : PySem.W.Frag) (file : Str) (C f cc cda : Addr) (fd : FuncData) (sf : Str) : Prop where
  x : OexC K C
  ve : PySem.W.subIn K (.ref C) (.type "ValueError") = some true
  own : PySem.W.mroIn K C (.ref C) = some true
  sup : PySem.W.ks_superIn K C C "__init__" = some (some (.builtin "ValueError.__init__"))
  any : PySem.W.nsIn K PySem.cStatics "thirdparty.any" = some none
  fn : ∃ oc od osl, K.lookup f = some ⟨oc, od, .func fd, osl⟩
  hd : ∃ ar : Arg, (fd.params.posonlyargs ++ fd.params.args).head? = some ar ∧ ar.arg = sf
  code : ∃ ccl cdd ccs vs tf, K.lookup cda = some ⟨ccl, cdd, .fields vs, ccs⟩ ∧ vs[2]? = some (.str file tf)
  cell : ∃ cl cld csl, K.lookup cc = some ⟨cl, cld, .cell (some (.ref C)), csl⟩
section
variable {X : Cx} {pins : List (Addr × Obj)} {σ : L2.St} {H : Hp} {s : Shared} {a C f cc cda : Addr} {fd : FuncData} {self : Str} {e : Expr} {ta : TA} {p0 p1 apos pos pos' : Pos} {body : List Stmt} {pl : Sem Bool} {Q : Flow → Shared → Prop}
theorem super_line (I : Inv X pins σ H s) (D : IniC X.K X.prog.main.file C f cc cda fd self) (hfu : X.env.func = some f) (hco : X.env.code = .ref cda) (hcl : X.env.cells.lookup ("__class__" : Str) = some cc) (hks : X.env.kindOf "super" = some .globalImplicit) (hkc : X.env.kindOf "__class__" = some .free) (hka : X.env.kindOf self = some .local)
    (htop : (X.prog.main.scope.names.lookup ("super" : Str)).isSome = false) (hm : X.mg "super" = none) (hN : X.N[0]? = some self) (h0 : σ[0]? = some (some (.ref a))) (he : H a = some (exo a C none)) (ha : PA X [e] ta)
    (hi : interactive X.env = false) (hs : swapsWith (.Call (.Attribute (.Call (.Name "super" p0) [] [] p1) "__init__" apos) [e] [] pos) none pos'.line X.env = pure false) (hst : starEach [e] X.env = (false, eval e X.env) :: starEach [] X.env)
    (hev : eval (.Call (.Attribute (.Call (.Name "super" p0) [] [] p1) "__init__" apos) [e] [] pos) X.env = (do
      let ov ← attributeBase (.Call (.Name "super" p0) [] [] p1) "__init__" X.env (eval (.Call (.Name "super" p0) [] [] p1) X.env)
      standAt apos.atName
      let (f, first) ← holding [ov] (getMethod ov "__init__" pl)
      callWith pos f first (backTo pos (starEach [e] X.env)) []))
    (q : ta σ H fun vs H' => vs.length ≤ 1000 ∧ H' a = some (exo a C none) ∧ ∀ s', Inv X pins σ H' s' → Q .next s') :
    _root_.PySem.wpAt (model X.prog X.w) X.A (.func body X.env) (exec (.Expr (.Call (.Attribute (.Call (.Name "super" p0) [] [] p1) "__init__" apos) [e] [] pos) pos') X.env) Q X.xe s := by
  obtain ⟨nm, qn, N', bs, bm, sn, sub, ab, col, dd, k0, k1, k2, k3, k5, hC, hbm⟩ := D.x.cls
  obtain ⟨oc, od, osl, hf⟩ := D.fn
  obtain ⟨ar, har, harn⟩ := D.hd
  obtain ⟨ccl, cdd, ccs, vs, tf, hcode, hvs⟩ := D.code
  obtain ⟨cl, cld, csl, hcell⟩ := D.cell
  obtain ⟨t1, ho⟩ := exo_at I.hok he
  have KI := I.kIn
  obtain ⟨m, hns, look⟩ := I.loc
  obtain ⟨us, ru, lk⟩ := look 0 self (.ref a) hN h0 (.inl hka)
  cases ru
  have hself : m self = some (.ref a) := by
    rcases lk with ⟨_, lk⟩ | ⟨lk, _⟩
    · exact lk
    · rcases lk with lk | lk <;> (rw [lk] at hka; cases hka)
  have cd : PySem.W.clsIn X.K C = some { name := nm, bases := bs, mro := .ref C :: bm, ns := N', qualname := qn, hasDict := true, slotNames := sn, subclasses := sub, abstract := ab, collection := col, hasDel := false } := by
    unfold PySem.W.clsIn
    rw [hC] <;> rfl
  obtain ⟨mb, b1, b2⟩ := I.mod.blt
  refine PySem.ks_wpAt_Expr_any (PySem.ks_wpAt_MethodCall (pl := pl) (PySem.ks_wpAt_super_base (body := body) hks hkc (by decide) hfu (KI _ _ hf) rfl har hco (KI _ _ hcode) rfl hvs (by simp) htop ?_) hev) hi hs
  refine PySem.W.ks_loadName_global I.ok.kind hks (Calls.loadGlobal_builtin (by rw [I.ok.glob]; exact I.mod.glob.keeps I.bk) hm (by rw [I.ok.blt]; exact b1.keeps I.bk) ((b2 _ (by decide)).trans (show bootBuiltins "super" = some (.type "super") by kernel_rfl)) ⟨rfl, ?_⟩)
  refine wpAny_loadName_free I.ok.kind hkc hcl ⟨_, KI _ _ hcell, rfl⟩ ?_
  rw [harn]
  refine wpAny_loadName_local I.ok.kind hka hns hself ?_
  obtain ⟨hp, g, d, t, os⟩ := s
  refine PySem.ks_wpAny_isType_cls (KI _ _ hC) rfl ⟨rfl, ?_⟩
  refine PySem.ks_wpAny_call_super (KI _ _ hC) rfl ho rfl (fun c z => by cases z) (PySem.W.looks_mroIn KI D.own) (fun h1 hso k1 => ?_)
  have I1 : Inv X pins σ H ⟨h1, g, d, t, os⟩ := I.kept k1
  have ho1 := k1 _ _ ho
  have ia : PySem.W.InstAt h1 a _ C none := ⟨ho1, rfl, rfl, trivial⟩
  refine PySem.W.kxs_getMethod PySem.W.kxs_ValueError hso (PySem.W.looks_opaque I1.kIn D.any) (l₀ := .ref C :: bm) (fun A Q E s k z => wpAny_bind ((PySem.W.looks_clsIn I1.kIn cd) A _ E s k (wpAny_pure z))) rfl I1.kIn (by
    have := D.sup
    unfold PySem.W.ks_superIn at this
    rw [cd] at this
    exact this) (ia.type.andThen (PySem.W.looks_subIn I1.kIn D.ve)) (PySem.W.ks_ne I1.kIn ia cd) (by decide) ?_
  have k2 : ∀ b o, h1.get? b = some o → (h1.push (PySem.W.kxs_mw "ValueError.__init__" a)).get? b = some o := fun b o z => Heap.get?_push_of_some _ z
  have I2 : Inv X pins σ H ⟨h1.push (PySem.W.kxs_mw "ValueError.__init__" a), g, d, t + 1, os⟩ := I1.kept (t' := t + 1) k2
  have hu : (h1.push (PySem.W.kxs_mw "ValueError.__init__" a)).get? h1.objs.size = some (PySem.W.kxs_mw "ValueError.__init__" a) := Heap.get?_push_size _ rfl
  have lt1 : X.env.locals < h1.objs.size := I1.lt
  have I3 : Inv X ((h1.objs.size, PySem.W.kxs_mw "ValueError.__init__" a) :: pins) σ H ⟨h1.push (PySem.W.kxs_mw "ValueError.__init__" a), g, d, t + 1, os⟩ := I2.pins_of fun p hp => by
    rcases List.mem_cons.mp hp with rfl | hp
    · refine ⟨hu, I1.hok.fresh (Nat.le_refl _), Nat.ne_of_gt lt1, fun z => ?_, fun v z => by cases z⟩
      have z1 := I1.sz
      obtain ⟨o, z2⟩ := (I1.ok.funs.mem z).2
      have z3 : h1.objs.size < X.s_0.heap.objs.size := Heap.lt_size z2.1
      exact absurd z3 (Nat.not_lt_of_le z1)
    · exact I2.pin p (List.mem_append_right _ hp)
  show wpAny _ _ (callWith pos (.ref h1.objs.size) [] (backTo pos (starEach [e] X.env)) []) _ _ _
  have hr := ha.run pos _ _ σ H _ I3 q
  rw [hst] at hr ⊢
  refine PySem.W.kxs_callWith (i := "ValueError.__init__") (x := a) rfl ?_
  refine PySem.Calls.evalArgs_plain (thn hr fun us s4 ⟨vs', H4, I4, rv, hl, he4, fin⟩ => ?_)
  have pu := (I4.pin _ (List.mem_append_right _ (List.mem_cons_self ..))).1
  refine ⟨pu, ?_⟩
  have hl' : us.length ≤ sizeLine := by
    rw [← Paired.length rv, sizeLine_eq]
    omega
  exact bound_init D.x I4 he4 pu hl' fun s5 I5 => fin s5 (I5.pins_of fun p hp => I5.pin p (List.mem_append_right _ (List.mem_cons_of_mem _ hp)))
end
section
variable {CX : CXT} {P : Program} {w : World} {K : PySem.W.Frag} {mg : Str → Option Value} {base : Heap}
def cxS (CX : CXT) (P : Program) (w : World) (K : PySem.W.Frag) (mg : Str → Option Value) (base : Heap) (N : List Str) (qual : Str) (scope : Scope) (f cda cc : Addr) (A : Around) (outer : List Env) (s : Shared) (H : Hp) (E : XK) : Cx where
  prog := P
  w := w
  K := K
  mg := mg
  base := base
  A := A.deeper (PySem.W.ksEnv qual scope s.heap.objs.size f (.ref cda) cc)
  N := N
  s_0 := s
  H_0 := H
  env := PySem.W.ksEnv qual scope s.heap.objs.size f (.ref cda) cc
  outer := outer
  stack := PySem.W.ksEnv qual scope s.heap.objs.size f (.ref cda) cc :: outer
  ex := []
  fn := fun _ => false
  calm := true
  pn := []
  xe := fun e s' => wpAny (model P w) (A.deeper (PySem.W.ksEnv qual scope s.heap.objs.size f (.ref cda) cc)) (leaving (PySem.W.ksEnv qual scope s.heap.objs.size f (.ref cda) cc) e) (fun _ s'' => CX outer H s E e s'') (fun e' s'' => CX outer H s E e' s'') s'
/-- the scope of such an __init__ -/
structure ScS (sf pt : Str) (scope : Scope) : Prop where
  kind : scope.kind = .function
  co : scope.isCoroutine = false
  gen : scope.isGenerator = false
  nocell : ∀ x ∈ scope.names, x.2 ≠ .cell
  free : ∀ x, scope.names.lookup x = some .free → x = "__class__"
  cls : scope.names.lookup ("__class__" : Str) = some .free
  sup : scope.names.lookup ("super" : Str) = some .globalImplicit
  lsf : scope.names.lookup sf = some .local
  lpt : scope.names.lookup pt = some .local
  ne : pt ≠ sf
theorem start_S {sf pt qual : Str} {scope : Scope} {f cda cc C : Addr} {cl : Value} {cld : Option Addr} {csl : Array (Option Value)} {A : Around} {outer : List Env} {s : Shared} {H : Hp} {E : XK} {u0 u1 : Value} {v0 v1 : V} {h1 : Heap} {tk : Nat}
    (S : ScS sf pt scope) (hd : A.handled = none) (e0 : Env0 P w K mg base A outer s H) (lc : K.lookup cc = some ⟨cl, cld, .cell (some (.ref C)), csl⟩) (r0 : RelV v0 u0) (r1 : RelV v1 u1)
    (hns : h1.Ns s.heap.objs.size fun x => ([(sf, u0), (pt, u1)] : List (Str × Value)).reverse.lookup x) (hk : ∀ b o, s.heap.get? b = some o → h1.get? b = some o) :
    Inv (cxS CX P w K mg base [sf, pt] qual scope f cda cc A outer s H E) [] [some v0, some v1] H { s with heap := h1, toks := tk } := by
  have KX : K.In s.heap := e0.mod.kin.keeps fun b o e => (e0.bs b o e).1
  have ccb := e0.mod.kin _ _ lc
  have one : ∀ {x : Str} {c : Addr}, (cxS CX P w K mg base [sf, pt] qual scope f cda cc A outer s H E).env.cells.lookup x = some c → x = "__class__" ∧ c = cc := fun {x c} h => by
    have h : List.lookup x [(("__class__" : Str), cc)] = some c := h
    unfold List.lookup at h
    split at h
    · rename_i e
      exact ⟨by simpa using e, (Option.some.inj h).symm⟩
    · cases h
  refine ⟨⟨e0.mod, S.kind, rfl, rfl, Nat.le_refl _, fun x y c a b => (one a).1.trans (one b).1.symm, fun x hx => ?_, fun x c z => Bool.noConfusion z, fun _ => hd, Around.frames_deeper e0.frames, .inr ⟨rfl, rfl⟩, fun b z => absurd (show b ∈ ([] : List Addr) from z) (by simp), e0.bs, e0.bsz, fun b _ _ z => absurd (show b ∈ ([] : List Addr) from z) (by simp), fun b z => absurd (show b ∈ ([] : List Addr) from z) (by simp), e0.funs, e0.frf⟩,
    rfl, e0.bare, Un.kept hk, ⟨_, hns, fun i x v h2 h3 h4 => ?_⟩, fun x c h => ?_, e0.hok.fresh (Nat.le_refl _), fun x c h => ?_, fun p hp => absurd (show p ∈ ([] : List (Addr × Obj)) from hp) (by simp), e0.hok.kept hk, rfl⟩
  · have hx : scope.names.lookup x = some .cell ∨ scope.names.lookup x = some .free := hx
    rcases hx with hx | hx
    · exact absurd rfl (S.nocell _ (PySem.mem_of_lookup hx))
    · rw [S.free x hx]
      exact ⟨cc, rfl⟩
  · have l0 : ([(sf, u0), (pt, u1)] : List (Str × Value)).reverse.lookup sf = some u0 := by
      show List.lookup sf [(pt, u1), (sf, u0)] = some u0
      have e1 : (sf == pt) = false := by
        rw [Bool.eq_false_iff]
        intro z
        exact S.ne (by simpa using z : sf = pt).symm
      simp [List.lookup, e1]
    have l1 : ([(sf, u0), (pt, u1)] : List (Str × Value)).reverse.lookup pt = some u1 := by
      show List.lookup pt [(pt, u1), (sf, u0)] = some u1
      simp [List.lookup]
    match i, h2, h3 with
    | 0, h2, h3 =>
      cases h2
      cases h3
      exact ⟨u0, r0, .inl ⟨S.lsf, l0⟩⟩
    | 1, h2, h3 =>
      cases h2
      cases h3
      exact ⟨u1, r1, .inl ⟨S.lpt, l1⟩⟩
    | n + 2, h2, h3 => cases h2
  · rw [(one h).2]
    exact ⟨some (.ref C), _, hk _ _ (KX _ _ lc), rfl⟩
  · rw [(one h).2]
    exact (e0.bs _ _ ccb).2
end
section
variable {CX : CXT} {P : Program} {w : World} {K : PySem.W.Frag} {mg : Str → Option Value} {base : Heap}
def spI (C : Addr) (fl : Str) : Sp := fun vs H Q E => ∃ (a : Addr) (i : Int), vs = [.ref a, .int i] ∧ i.natAbs < 10 ^ 7 ∧ H a = some (exo a C none) ∧ ∀ dx, H dx = none → dx ≠ a → Q .non (upd (upd H dx (exd dx [(fl, .int i)])) a (exo a C (some dx)))
theorem eval_super {env : Env} {p0 p1 apos pos : Pos} {e : Expr} (hl : (apos.endLine == pos.line) = true) (hst : starEach [e] env = (false, eval e env) :: starEach [] env) : eval (.Call (.Attribute (.Call (.Name "super" p0) [] [] p1) "__init__" apos) [e] [] pos) env = (do
      let ov ← attributeBase (.Call (.Name "super" p0) [] [] p1) "__init__" env (eval (.Call (.Name "super" p0) [] [] p1) env)
      standAt apos.atName
      let (f, first) ← holding [ov] (getMethod ov "__init__" (plainOf (.Call (.Name "super" p0) [] [] p1) env))
      callWith pos f first (backTo pos (starEach [e] env)) []) := by
  rw [arm_eval_Call]
  have h : ∀ ov, methodCall (.Call (.Name "super" p0) [] [] p1) "__init__" apos pos env ov ([e].length + ([] : List Keyword).length) (backTo pos (starEach [e] env)) (backToKw pos (keywordEach [] env)) = (do
      let (f, first) ← holding [ov] (getMethod ov "__init__" (plainOf (.Call (.Name "super" p0) [] [] p1) env))
      callWith pos f first (backTo pos (starEach [e] env)) []) := fun ov => mcall_line (by rw [hst]; rfl) hl
  exact congrArg (attributeBase (.Call (.Name "super" p0) [] [] p1) "__init__" env (eval (.Call (.Name "super" p0) [] [] p1) env) >>= ·) (funext fun ov => congrArg (standAt apos.atName >>= ·) (funext fun _ => h ov))
theorem init_ok {C f cc cda : Addr} {name qual : Str} {params : Arguments} {scope : Scope} {dV kV doc pm ct : Value} {an : Option Addr} {sf pt fl lit : Str} {j : Nat} {p0 p1 p2 p3 p4 p5 p6 p7 p8 p9 apos pos pos' : Pos} {body : List Stmt}
    (hbody : body = [.Expr (.Call (.Attribute (.Call (.Name "super" p0) [] [] p1) "__init__" apos) [.JoinedStr [.Constant (.str lit) j p2, .FormattedValue (.Name pt p3) (-1) none p4] p5] [] pos) pos', .Assign [.Attribute (.Name sf p6) fl p7] (.Name pt p8) p9])
    (D : IniC K P.main.file C f cc cda (PySem.W.ksFn name qual params body scope dV kV doc pm an (.ref cda) ct cc) sf) (hcd : PySem.W.codeIn K (.ref cda) qual = true) (S : ScS sf pt scope) (hno : PySem.W.findIn K (.ref C) fl = some none) (hlit : lit.length ≤ 1000)
    (hl : (apos.endLine == pos.line) = true) (htop : (P.main.scope.names.lookup ("super" : Str)).isSome = false) (hm : mg "super" = none) (hsf : (sf == ("__debug__" : Str)) = false ∧ (sf == ("__classdict__" : Str)) = false) (hpt : (pt == ("__debug__" : Str)) = false ∧ (pt == ("__classdict__" : Str)) = false) :
    FnOk P w K mg base CX 1 f (PySem.W.ksFn name qual params body scope dV kV doc pm an (.ref cda) ct cc) [sf, pt] (spI C fl) := by
  refine ⟨fun vs H Q E ⟨a, i, e, _⟩ => by rw [e]; rfl, fun A outer s H args us vs Q E hr e0 hb r hsp => ?_⟩
  obtain ⟨a, i, rfl, hi, ha, q⟩ := hsp
  obtain ⟨oc, od, osl, lk⟩ := D.fn
  obtain ⟨cl, cld, csl, lc⟩ := D.cell
  have KX : K.In s.heap := e0.mod.kin.keeps fun b o e => (e0.bs b o e).1
  have lim : s.heap.NoLimit := e0.mod.nolimit.keeps fun b o e => (e0.bs b o e).1
  cases r with
  | cons r0 r' =>
  cases r' with
  | cons r1 r'' =>
  cases r''
  rename_i u0 u1
  have hloc : ∀ y ∈ [(sf, u0), (pt, u1)], scope.names.lookup y.1 = some .local := fun y hy => by
    simp only [List.mem_cons, List.mem_nil_iff, or_false] at hy
    rcases hy with rfl | rfl
    · exact S.lsf
    · exact S.lpt
  refine PySem.ks_codeAny_call_defAt (fd := PySem.W.ksFn name qual params body scope dV kV doc pm an (.ref cda) ct cc) (body := body) (binds := [(sf, u0), (pt, u1)]) hr.depth (KX _ _ lk) rfl lim (PySem.W.codeRec_of KX hcd) rfl hb S.nocell hloc (fun h₁ hns hk₁ => ?_) S.co S.gen S.kind
  have I : Inv (cxS CX P w K mg base [sf, pt] qual scope f cda cc A outer s H E) [] [some (.ref a), some (.int i)] H { s with heap := h₁, toks := s.toks + 2 } := start_S S hr.hd e0 lc r0 r1 hns hk₁
  have v0 : Vis (cxS CX P w K mg base [sf, pt] qual scope f cda cc A outer s H E).env.scope sf := .inl S.lsf
  have v1 : Vis (cxS CX P w K mg base [sf, pt] qual scope f cda cc A outer s H E).env.scope pt := .inl S.lpt
  have pp1 : ∀ p : Pos, PE (cxS CX P w K mg base [sf, pt] qual scope f cda cc A outer s H E) (.Name pt p) (tVar 1) := fun p => pe_var (i := 1) rfl v1 hpt.1 hpt.2
  have pp0 : ∀ p : Pos, PE (cxS CX P w K mg base [sf, pt] qual scope f cda cc A outer s H E) (.Name sf p) (tVar 0) := fun p => pe_var (i := 0) rfl v0 hsf.1 hsf.2
  have two := ps_ost (f := fl) (p' := p7) (pos := p9) (pp0 p6) (pp1 p8)
  have pj := pe_joined (pos := p5) (PJ.cons (pe_str (X := cxS CX P w K mg base [sf, pt] qual scope f cda cc A outer s H E) (x := lit) (j := j) (pos := p2)) (PJ.cons (pe_fmt (pos := p4) (pp1 p3)) .nil))
  have z1 : (Str.empty ++ lit).length ≤ sizeLine := by
    rw [sizeLine_eq, Str.length_append]
    show 0 + lit.length ≤ _
    omega
  have z2 : (Str.empty ++ lit ++ (Str.ofString (toString i))).length ≤ sizeLine := by
    rw [sizeLine_eq]
    have := int_text_length_le10 (k := 7) (by decide) hi
    rw [Str.length_append, Str.length_append, PySem.ofString_length]
    show 0 + lit.length + _ ≤ _
    omega
  have hlog : i.natAbs.log2 < 1920 := by
    have : i.natAbs < 2 ^ 24 := Nat.lt_of_lt_of_le hi (by decide)
    rcases Nat.eq_zero_or_pos i.natAbs with z | z
    · rw [z]
      decide
    · have := (Nat.log2_lt (by omega)).mpr this
      omega
  subst hbody
  refine PySem.ks_wpAt_execs_cons ?_
  refine super_line (X := cxS CX P w K mg base [sf, pt] qual scope f cda cc A outer s H E) (ta := tCons _ tNil) I D rfl rfl rfl S.sup S.cls S.lsf htop hm rfl rfl ha (pa_cons pj pa_nil) (show (scope.kind == .module && _) = false by rw [S.kind]; rfl) rfl rfl (eval_super hl rfl) ?_
  refine ⟨lit, rfl, z1, _, rfl, .inr ⟨i, rfl, hlog, _, rfl, z2, ?_⟩⟩
  refine ⟨by simp, ha, fun s' J => ?_⟩
  refine wpAt_of_wpAny (wpAny_mono ((pss_one two).run [] s' _ H { nx := fun _ H' => Q .non H', rt := Q } J ?_) (fun fl' s'' hs => ?_) fun e s'' hs => hs)
  · exact ⟨_, rfl, _, rfl, a, C, rfl, D.x, hno, .inl ⟨ha, fun dx n ne => q dx n ne⟩⟩
  · have fin : ∀ {σ' : L2.St} {H' : Hp} {v : V} {u : Value}, Inv (cxS CX P w K mg base [sf, pt] qual scope f cda cc A outer s H E) [] σ' H' s'' → RelV v u → Q v H' → CE outer P w H s Q u s'' :=
      fun {σ' H' v u} J rv q => ⟨v, H', J.os, J.bare, J.base, J.hok, rv, q⟩
    cases fl' with
    | ret u =>
      obtain ⟨v, σ', H', J, rv, q⟩ := hs
      exact fin J rv q
    | next =>
      obtain ⟨σ', H', J, q⟩ := hs
      exact fin (v := V.non) (u := Value.none) J rfl q
    | brk =>
      obtain ⟨_, _, _, q⟩ := hs
      exact False.elim q
    | cont =>
      obtain ⟨_, _, _, q⟩ := hs
      exact False.elim q
end
end SI
set_option Elab.async false
set_option linter.all false
set_option maxRecDepth 100000
set_option maxHeartbeats 2000000
/-! Rx21: such an exception made, to be raised. -/
namespace SI
open PySem PySem.Spec PyProof.Rows L2
theorem made_end {X : Cx} {pins : List (Addr × Obj)} {σ : L2.St} {Hb He : Hp} {Q : XK} {hb0 hb2 hE : Heap} {gA gB : Array GenState} {dA dB : Drawn} {tA tB : Nat} {oA oB : OsState} {a C dx : Addr} {fs : List (Str × V)} (T : Raises X (.ref C)) (I0 : Inv X pins σ Hb ⟨hb0, gA, dA, tA, oA⟩)
    (fresh : hb0.objs.size ≤ a) (keep : ∀ b o, hb0.get? b = some o → hb2.get? b = some o) (un : Un (frs X.stack) [] (upd Hb a (exo a C none)) He hb2 hE) (hok : HOk X.prog X.w He hE) (ho : oB = oA) (hg : AllBare gB)
    (ea : He a = some (exo a C (some dx))) (ed : He dx = some (exd dx fs)) (nd : Hb dx = none) (q : Q (.ref C) (some dx) (upd (del He a) dx (.xd fs))) : L2N.MkP X pins σ Q (.ref a) ⟨hE, gB, dB, tB, oB⟩ := by
  obtain ⟨t0, G, J, kG, ge, hoe, na⟩ := mk_end0 (d2 := dB) (t2 := tB) I0 fresh keep un hok ho hg ea ed nd
  exact ⟨a, _, _, ⟨G, gB, dB, tB, oB⟩, _, .ref C, some dx, rfl, J, kG, ge, hoe, ⟨rfl, rfl, by first | exact .inl rfl | exact ⟨_, rfl, .inl rfl⟩ | (unfold PXN.CtxN; simp)⟩, rfl, rfl, na, rfl, hg, T, q⟩
theorem pmk_ini {X : Cx} {x : Str} {C fI : Addr} {k : Nat} {fd : FuncData} {ps : List Str} {sp : Sp} {e : Expr} {es : List Expr} {ta : TA} {p pos : Pos} (T : OexC X.K C) (iC : PySem.W.findIn X.K (.ref C) "__init__" = some (some (.ref fI))) (tI : PySem.W.typeIn X.K (.ref fI) = some (.type "function"))
    (F1 : FnOk X.prog X.w X.K X.mg X.base (L2N.CX X.prog X.w) k fI fd ps sp) (room : Room (k + 1) X.A) (hb : Binds X.K fd ps []) (hg : Gl X x) (hm : X.mg x = some (.ref C)) (ha : PA X (e :: es) ta)
    (hdb : (x == ("__debug__" : Str)) = false) (he : starEach (e :: es) X.env = (false, eval e X.env) :: starEach es X.env) (hpl : (backTo pos (starEach es X.env)).any (·.1) = false) :
    L2N.PMk X (.Call (.Name x p) (e :: es) [] pos) (tMkO C sp [] ta) := by
  intro pins s σ H Q I h
  obtain ⟨nm, qn, N', bs, bm, sn, sub, ab, col, dd, k0, k1, k2, k3, k5, lC, hbm⟩ := T.cls
  refine wpAny_Call_Name_kw (ld_glob I hg hm ?_ hdb)
  refine PySem.W.callWith_K (h₀ := X.base) I.ok.mod.kin T.kC (thn (ha.run pos pins s σ H _ I h) fun us sA ⟨vs, HA, IA, rv, few, promise⟩ => ⟨IA.kIn, ?_⟩) he hpl
  show wpAny _ _ (call (.ref C) us) _ _ _
  obtain ⟨hA, gA, dA, tA, oA⟩ := sA
  have up : hA.objs.size ≤ hA.objs.size + 1 := Nat.le_succ _
  have no : HA (hA.objs.size + 1) = none := IA.hok.fresh up
  have pr := promise (hA.objs.size + 1) no
  have old : ∀ b o, hA.get? b = some o → ((hA.push (PySem.W.kdv_tup us)).push (PySem.HandSPX.excO C hA.objs.size)).get? b = some o := fun b o z => Heap.get?_push_of_some _ (Heap.get?_push_of_some _ z)
  have got : ((hA.push (PySem.W.kdv_tup us)).push (PySem.HandSPX.excO C hA.objs.size)).get? (hA.objs.size + 1) = some (PySem.HandSPX.excO C hA.objs.size) := by heap_get
  have IB : Inv X pins σ (upd HA (hA.objs.size + 1) (exo (hA.objs.size + 1) C none)) ⟨(hA.push (PySem.W.kdv_tup us)).push (PySem.HandSPX.excO C hA.objs.size), gA, dA, tA, oA⟩ :=
    IA.laid (t' := tA) (a := hA.objs.size + 1) (o := exo (hA.objs.size + 1) C none) (h' := (hA.push (PySem.W.kdv_tup us)).push (PySem.HandSPX.excO C hA.objs.size)) old up (exo_ok got)
  have rB : Vals (V.ref (hA.objs.size + 1) :: (vs ++ [])) (Value.ref (hA.objs.size + 1) :: (us ++ [])) := .cons rfl (rv.append .nil)
  have many : (Value.ref (hA.objs.size + 1) :: us ++ ([] : List Value)).length = ps.length := by
    have z := rB.length
    rw [F1.len _ _ _ _ pr] at z
    exact z.symm
  have fits : us.length ≤ sizeLine := by
    rw [← Paired.length rv, sizeLine_eq]
    omega
  refine wpAny_call (PySem.HandSPX.call_own PySem.F.excBase_ValueError (fun Y => PySem.HandSPX.refsVE_contains Y bm hbm) (IA.kIn _ _ lC) (PySem.W.looks_findIn IA.kIn iC) (fun o => PySem.W.bind_fn IA.kIn o tI) fits
    (codeAny_mono (F1.run _ X.stack _ _ ⟨Value.ref (hA.objs.size + 1) :: us, []⟩ (Value.ref (hA.objs.size + 1) :: (us ++ [])) _ _ (fun _ _ _ => False) (room.make C us []) (IB.env0.make C us []) (by
      have z := hb _ (Value.ref (hA.objs.size + 1) :: us) IB.kIn many
      rw [List.cons_append] at z
      exact z) rB pr) fun r sE rE => ?_))
  cases r with
  | error er =>
    obtain ⟨_, _, _, _, _, _, _, _, _, _, _, _, z⟩ := rE
    exact z.elim
  | ok fl =>
    cases fl with
    | ret u =>
      obtain ⟨v, HE, oE, bE, unE, okE, rvE, ev, dx, fs, ea, ed, nd, qE⟩ := rE
      subst ev
      obtain ⟨hE, gE, dE, tE, oE'⟩ := sE
      exact ⟨rvE, made_end (raises_own T.exC T.tyC) IA up old unE okE oE bE ea ed nd qE⟩
    | next => exact False.elim rE
    | brk => exact False.elim rE
    | cont => exact False.elim rE
end SI
set_option Elab.async false
set_option linter.all false
set_option maxRecDepth 100000
/-! Rx1: plain data, the intermediate form (IR), its interpreter. -/
namespace Rx
/-- plain data; ref: a place of the store; fn: a def of the text by its number; clo: a lambda with what it captured; scr: the law's own list of ints, only read -/
inductive D where
  | non
  | bl (b : Bool)
  | int (i : Int)
  | str (s : List Nat)
  | tup (xs : List D)
  | lst (xs : List D)
  | ref (l : Nat)
  | fn (f : Nat)
  | clo (k : Nat) (vs : List D)
  | scr (ns : List Int)
  deriving Inhabited
/-- what changes -/
inductive O where
  | lst (xs : List D)
  | ins (c : Nat) (fs : List D)
  | dic (kvs : List (D × D))
  deriving Inhabited
abbrev Store := List O
abbrev Env := List (Option D)
inductive R (α : Type) where
  | ok (a : α) (S : Store)
  | ex (k : Nat) (p : D) (S : Store)
  | st
def R.bind {α β : Type} (r : R α) (f : α → Store → R β) : R β := match r with
  | .ok a S => f a S
  | .ex k p S => .ex k p S
  | .st => .st
/-- no exception is carried -/
def R.nox {α : Type} (r : R α) : R α := match r with
  | .ok a S => .ok a S
  | _ => .st
@[simp] theorem R.nox_ok {α : Type} (a : α) (S : Store) : (R.ok a S).nox = .ok a S := rfl
@[simp] theorem R.nox_ex {α : Type} (k : Nat) (p : D) (S : Store) : (R.ex k p S : R α).nox = .st := rfl
@[simp] theorem R.nox_st {α : Type} : (R.st : R α).nox = .st := rfl
def R.of {α : Type} (o : Option α) (S : Store) : R α := match o with
  | some a => .ok a S
  | none => .st
@[simp] theorem R.bind_ok {α β : Type} (a : α) (S : Store) (f : α → Store → R β) : (R.ok a S).bind f = f a S := rfl
@[simp] theorem R.bind_ex {α β : Type} (k : Nat) (p : D) (S : Store) (f : α → Store → R β) : (R.ex k p S).bind f = .ex k p S := rfl
@[simp] theorem R.bind_st {α β : Type} (f : α → Store → R β) : (R.st : R α).bind f = .st := rfl
@[simp] theorem R.of_some {α : Type} (a : α) (S : Store) : R.of (some a) S = .ok a S := rfl
@[simp] theorem R.of_none {α : Type} (S : Store) : R.of (none : Option α) S = .st := rfl
/-- behind a statement -/
inductive FR where
  | nx (e : Env) (S : Store)
  | rt (d : D) (S : Store)
  | bk (e : Env) (S : Store)
  | ct (e : Env) (S : Store)
  | ex (k : Nat) (p : D) (e : Env) (S : Store)
  | st
inductive Bop where
  | add | sub | mul | fdiv | mod | pow
  deriving DecidableEq
inductive Cop where
  | eq | ne | lt | le | gt | ge | is_ | isnt | in_ | nin
  deriving DecidableEq
/-- built-ins -/
inductive Bi where
  | len | isInt | isBool | isStr | isTuple | int_ | bool_ | str_ | tuple_ | list_ | min2 | max2 | min1 | max1 | sum_ | all_ | any_ | sorted_ | set_ | abs_
  deriving DecidableEq
/-- methods of built-in types -/
inductive Me where
  | join | split | find | count | index | get | repl
  deriving DecidableEq
/-- a target: one name, several, ((a, b), c) -/
inductive Tg where
  | nm (i : Nat)
  | tp (is : List Nat)
  | tq (is : List Nat) (j : Nat)
  deriving DecidableEq
mutual
inductive E where
  | var (i : Nat)
  | cint (i : Int)
  | cstr (s : List Nat)
  | cbl (b : Bool)
  | cnon
  | gl (g : Nat)
  | fnv (f : Nat)
  | tup (es : Es)
  | lst (es : Es)
  | alc (e : E)
  | bin (op : Bop) (a b : E)
  | neg (a : E)
  | cmp (op : Cop) (a b : E)
  | chn (op op' : Cop) (a b c : E)
  | andE (a b : E)
  | orE (a b : E)
  | notE (a : E)
  | ite (c a b : E)
  | idx (a b : E)
  | slc (a : E) (lo hi : Op)
  | rev (a : E)
  | call (f : Nat) (es : Es)
  | callv (i n : Nat) (es : Es)
  | refu (g : Nat) (b : E)
  | isx (i j : Nat)
  | bi (b : Bi) (es : Es)
  | mth (m : Me) (o : E) (es : Es)
  | comp (own : List Nat) (tg : Tg) (it : I) (elt : E) (c : Op)
  | comp2 (own : List Nat) (tg : Tg) (it : I) (own2 : List Nat) (tg2 : Tg) (it2 : I) (elt : E) (c : Op)
inductive Es where
  | nil
  | cons (e : E) (es : Es)
inductive Op where
  | no
  | yes (e : E)
inductive I where
  | seq (e : E)
  | rng (es : Es)
  | enm (e : E)
  | zip (a b : E)
  /-- a list that nothing writes -/
  | lsq (e : E)
end
/-! ### plain functions on data -/
/-- == of data (none where it is not carried) -/
def D.plain : Nat → D → Bool
  | _, .non => true
  | _, .bl _ => true
  | _, .int _ => true
  | _, .str _ => true
  | n + 1, .tup xs => xs.all (D.plain n)
  | n + 1, .lst xs => xs.all (D.plain n)
  | _, _ => false
mutual
def D.eqv : D → D → Bool
  | .non, .non => true
  | .bl a, .bl b => a == b
  | .bl a, .int b => (if a then 1 else 0) == b
  | .int a, .bl b => a == (if b then 1 else 0)
  | .int a, .int b => a == b
  | .str a, .str b => a == b
  | .tup a, .tup b => D.eqvs a b
  | .lst a, .lst b => D.eqvs a b
  | _, _ => false
def D.eqvs : List D → List D → Bool
  | [], [] => true
  | a :: as, b :: bs => D.eqv a b && D.eqvs as bs
  | _, _ => false
end
/-- not a closure -/
def noC : D → Bool
  | .clo _ _ => false
  | _ => true
/-- truth -/
def truth (S : Store) : D → Option Bool
  | .non => some false
  | .bl b => some b
  | .int i => some (i != 0)
  | .str s => some (!s.isEmpty)
  | .tup xs => some (!xs.isEmpty)
  | .lst xs => some (!xs.isEmpty)
  | .ref l => match S[l]? with
    | some (.lst xs) => some (!xs.isEmpty)
    | _ => none
  | _ => none
/-- a list of the store as it stands -/
def view (S : Store) : D → D
  | .ref l => match S[l]? with
    | some (.lst xs) => .lst xs
    | _ => .ref l
  | d => d
def sizeL : Nat := 16777216
def mulOk (i j : Int) : Bool := (decide (-(2 ^ 64) < i) && decide (i < 2 ^ 64)) || (decide (-(2 ^ 64) < j) && decide (j < 2 ^ 64)) || (decide (i.natAbs < 2 ^ 4000) && decide (j.natAbs < 2 ^ 4000))
def divOk (j : Int) : Bool := decide (0 < j) && decide (j.natAbs < 2 ^ 4000)
def bin (op : Bop) (a b : D) : Option D := match op, a, b with
  | .add, .int i, .int j => some (.int (i + j))
  | .add, .str s, .str t => if s.length + t.length ≤ sizeL then some (.str (s ++ t)) else none
  | .add, .lst s, .lst t => if s.length + t.length ≤ sizeL then some (.lst (s ++ t)) else none
  | .add, .tup s, .tup t => if s.length + t.length ≤ sizeL then some (.tup (s ++ t)) else none
  | .sub, .int i, .int j => some (.int (i - j))
  | .mul, .int i, .int j => if mulOk i j then some (.int (i * j)) else none
  | .mul, .str s, .int j => if 0 ≤ j ∧ j ≤ 1000 ∧ s.length ≤ 1000 then some (.str (List.replicate j.toNat s).flatten) else none
  | .mul, .lst s, .int j => if 0 ≤ j ∧ j ≤ 1000 ∧ s.length ≤ 1000 then some (.lst (List.replicate j.toNat s).flatten) else none
  | .mul, .tup s, .int j => if 1 ≤ j ∧ j ≤ 1000 ∧ s ≠ [] ∧ s.length ≤ 1000 then some (.tup (List.replicate j.toNat s).flatten) else none
  | .fdiv, .int i, .int j => if divOk j then some (.int (i / j)) else none
  | .mod, .int i, .int j => if 0 < j then some (.int (i % j)) else none
  | .pow, .int i, .int j => if 0 ≤ j ∧ j ≤ 1000 ∧ i.natAbs < 2 ^ 64 then some (.int (i ^ j.toNat)) else none
  | _, _, _ => none
def ltInts : List Int → List Int → Bool
  | [], [] => false
  | [], _ :: _ => true
  | _ :: _, [] => false
  | x :: xs, y :: ys => if x = y then ltInts xs ys else decide (x < y)
def D.ints : List D → Option (List Int)
  | [] => some []
  | .int i :: r => (D.ints r).map (i :: ·)
  | _ => none
def D.strs : List D → Option (List (List Nat))
  | [] => some []
  | .str s :: r => (D.strs r).map (s :: ·)
  | _ => none
def D.bls : List D → Option (List Bool)
  | [] => some []
  | .bl b :: r => (D.bls r).map (b :: ·)
  | _ => none
def isNon : D → Bool
  | .non => true
  | _ => false
def cmp (op : Cop) (a b : D) : Option Bool := match op with
  | .eq => if a.plain 12 && b.plain 12 then some (a.eqv b) else none
  | .ne => if a.plain 12 && b.plain 12 then some (!a.eqv b) else none
  | .lt => (match a, b with
    | .int i, .int j => some (decide (i < j))
    | .tup xs, .tup ys => (match D.ints xs, D.ints ys with
      | some ns, some ms => some (ltInts ns ms)
      | _, _ => none)
    | _, _ => none)
  | .le => (match a, b with
    | .int i, .int j => some (decide (i ≤ j))
    | _, _ => none)
  | .gt => (match a, b with
    | .int i, .int j => some (decide (j < i))
    | _, _ => none)
  | .ge => (match a, b with
    | .int i, .int j => some (decide (j ≤ i))
    | _, _ => none)
  | .is_ => (match b with
    | .non => some (isNon a)
    | .bl y => (match a with
      | .bl x => some (decide (x = y))
      | _ => none)
    | _ => none)
  | .isnt => (match b with
    | .non => some (!isNon a)
    | .bl y => (match a with
      | .bl x => some (!decide (x = y))
      | _ => none)
    | _ => none)
  | .in_ => (match a, b with
    | .str [c], .str s => some (decide (c ∈ s))
    | a, .lst xs => if a.plain 10 && xs.all (D.plain 10) then some (xs.any fun x => x.eqv a) else none
    | .str s, .tup xs => (match D.strs xs with
      | some ss => some (ss.any fun t => t == s)
      | none => none)
    | _, _ => none)
  | .nin => (match a, b with
    | .str [c], .str s => some (!decide (c ∈ s))
    | a, .lst xs => if a.plain 10 && xs.all (D.plain 10) then some (!xs.any fun x => x.eqv a) else none
    | .str s, .tup xs => (match D.strs xs with
      | some ss => some (!ss.any fun t => t == s)
      | none => none)
    | _, _ => none)
/-- the place that an index of any sign means -/
def ix (n : Nat) (i : Int) : Option Nat := if 0 ≤ i then (if i < n then some i.toNat else none) else if -(n : Int) ≤ i then some (i + n).toNat else none
def at_ {α : Type} (xs : List α) (i : Int) : Option α := (ix xs.length i).bind fun j => xs[j]?
def idx (a b : D) : Option D := match a, b with
  | .tup xs, .int i => at_ xs i
  | .lst xs, .int i => at_ xs i
  | .str s, .int i => (at_ s i).map fun c => .str [c]
  | .scr ns, .int i => (at_ ns i).map .int
  | _, _ => none
def six (n d : Nat) : Option Int → Nat
  | none => d
  | some v => if v < 0 then (v + (n : Int)).toNat else min v.toNat n
def cut {α : Type} (xs : List α) (lo hi : Option Int) : List α := (xs.drop (six xs.length 0 lo)).take (six xs.length xs.length hi - six xs.length 0 lo)
def slc (a : D) (lo hi : Option Int) : Option D := match a with
  | .tup xs => some (.tup (cut xs lo hi))
  | .lst xs => some (.lst (cut xs lo hi))
  | .str s => some (.str (cut s lo hi))
  | _ => none
def rev (a : D) : Option D := match a with
  | .tup xs => some (.tup xs.reverse)
  | .lst xs => some (.lst xs.reverse)
  | .str s => some (.str s.reverse)
  | _ => none
def isIn (b : Bi) (a : D) : Option Bool := match a with
  | .non => some false
  | .bl _ => some (b == .isInt || b == .isBool)
  | .int _ => some (b == .isInt)
  | .str _ => some (b == .isStr)
  | .tup _ => some (b == .isTuple)
  | .lst _ => some false
  | _ => none
def join (sep : List Nat) : List (List Nat) → List Nat
  | [] => []
  | [a] => a
  | a :: b :: r => a ++ sep ++ join sep (b :: r)
/-- text.split(one sign) -/
def split1 (c : Nat) : List Nat → List Nat → List (List Nat)
  | acc, [] => [acc]
  | acc, x :: r => if x = c then acc :: split1 c [] r else split1 c (acc ++ [x]) r
/-- text.find(one sign) -/
def find1 (c : Nat) : Nat → List Nat → Int
  | _, [] => -1
  | n, x :: r => if x = c then (n : Int) else find1 c (n + 1) r
def minI : Int → List Int → Int
  | m, [] => m
  | m, x :: r => minI (if x < m then x else m) r
def maxI : Int → List Int → Int
  | m, [] => m
  | m, x :: r => maxI (if x > m then x else m) r
def minT : List Int → List (List Int) → List Int
  | m, [] => m
  | m, x :: r => minT (if ltInts x m then x else m) r
def D.tupInts : List D → Option (List (List Int))
  | [] => some []
  | .tup xs :: r => (D.ints xs).bind fun ns => (D.tupInts r).map (ns :: ·)
  | _ => none
def insI (x : Int) : List Int → List Int
  | [] => [x]
  | y :: r => if x < y then x :: y :: r else if x = y then y :: r else y :: insI x r
def sortI : List Int → List Int
  | [] => []
  | x :: r => insI x (sortI r)
def insT (x : List Int) : List (List Int) → List (List Int)
  | [] => [x]
  | y :: r => if ltInts x y then x :: y :: r else if x = y then y :: r else y :: insT x r
def sortT : List (List Int) → List (List Int)
  | [] => []
  | x :: r => insT x (sortT r)
/-- built-ins by values (lists of the store are viewed ahead) -/
def biLen : List D → Option D
  | [.str s] => some (.int s.length)
  | [.tup xs] => some (.int xs.length)
  | [.lst xs] => some (.int xs.length)
  | [.scr ns] => some (.int ns.length)
  | _ => none
def biInt : List D → Option D
  | [.int i] => some (.int i)
  | [.bl b] => some (.int (if b then 1 else 0))
  | _ => none
def biBool : List D → Option D
  | [.int i] => some (.bl (i != 0))
  | [.bl b] => some (.bl b)
  | _ => none
def biTuple : List D → Option D
  | [.lst xs] => some (.tup xs)
  | [.tup xs] => some (.tup xs)
  | _ => none
def biList : List D → Option D
  | [.lst xs] => some (.lst xs)
  | [.tup xs] => some (.lst xs)
  | _ => none
def biMin2 : List D → Option D
  | [.int i, .int j] => some (.int (if j < i then j else i))
  | _ => none
def biMax2 : List D → Option D
  | [.int i, .int j] => some (.int (if j > i then j else i))
  | _ => none
def biSum : List D → Option D
  | [.lst xs] => (D.ints xs).map fun ns => .int ns.sum
  | _ => none
def biAll : List D → Option D
  | [.lst xs] => (D.bls xs).map fun bs => .bl (bs.all id)
  | _ => none
def biAny : List D → Option D
  | [.lst xs] => (D.bls xs).map fun bs => .bl (bs.any id)
  | _ => none
def biMin1 : List D → Option D
  | [.lst xs] => (match D.ints xs with
    | some (n :: ns) => some (.int (minI n ns))
    | some [] => none
    | none => (match D.tupInts xs with
      | some ts => xs[PySem.argBest (fun i j => ltInts (ts.getD i []) (ts.getD j [])) (xs.length - 1)]?
      | none => none))
  | _ => none
def biMax1 : List D → Option D
  | [.lst xs] => (match D.ints xs with
    | some (n :: ns) => some (.int (maxI n ns))
    | _ => none)
  | _ => none
def biAbs : List D → Option D
  | [.int i] => some (.int (if i < 0 then -i else i))
  | _ => none
def biStr : List D → Option D
  | [.int i] => if 0 ≤ i ∧ i < 10 ^ 100 then some (.str (TL.numL i.toNat)) else none
  | _ => none
def biIs (b : Bi) : List D → Option D
  | [a] => (isIn b a).map .bl
  | _ => none
def biV (b : Bi) (args : List D) : Option D := match b with
  | .len => biLen args
  | .isInt => biIs .isInt args
  | .isBool => biIs .isBool args
  | .isStr => biIs .isStr args
  | .isTuple => biIs .isTuple args
  | .int_ => biInt args
  | .bool_ => biBool args
  | .str_ => biStr args
  | .tuple_ => biTuple args
  | .list_ => biList args
  | .min2 => biMin2 args
  | .max2 => biMax2 args
  | .min1 => biMin1 args
  | .max1 => biMax1 args
  | .sum_ => biSum args
  | .all_ => biAll args
  | .any_ => biAny args
  | .abs_ => biAbs args
  | _ => none
def joinOk (s : List Nat) (ss : List (List Nat)) : Bool := decide (s.length ≤ 1000) && decide (ss.length ≤ 1000) && ss.all fun t => decide (t.length ≤ 1000)
def meJoin : D → List D → Option D
  | .str s, [.lst xs] => (match D.strs xs with
    | some ss => if joinOk s ss then some (.str (join s ss)) else none
    | none => none)
  | .str s, [.tup xs] => (match D.strs xs with
    | some ss => if joinOk s ss then some (.str (join s ss)) else none
    | none => none)
  | _, _ => none
def meSplit : D → List D → Option D
  | .str s, [.str [c]] => if c < 256 ∧ s.length ≤ 100000 then some (.lst ((split1 c [] s).map .str)) else none
  | _, _ => none
def meRepl : D → List D → Option D
  | .str s, [.str [c], .str []] => if s.length ≤ 100000 then some (.str (s.filter fun x => x != c)) else none
  | _, _ => none
def meV (m : Me) (o : D) (args : List D) : Option D := match m with
  | .join => meJoin o args
  | .split => meSplit o args
  | .repl => meRepl o args
  | _ => none
/-- the assignment of a target -/
def setAll : List Nat → List D → Env → Option Env
  | [], [], e => some e
  | i :: is, d :: ds, e => setAll is ds (e.set i (some d))
  | _, _, _ => none
def setTg (t : Tg) (d : D) (e : Env) : Option Env := match t with
  | .nm i => some (e.set i (some d))
  | .tp is => (match d with
    | .tup ds => setAll is ds e
    | _ => none)
  | .tq is j => (match d with
    | .tup [.tup ds, x] => (setAll is ds e).map fun e => e.set j (some x)
    | _ => none)
def wipe (e : Env) : List Nat → Env
  | [] => e
  | v :: vs => (wipe e vs).set v none
/-- the items that a sequence yields -/
def items (d : D) : Option (List D) := match d with
  | .tup xs => some xs
  | .lst xs => some xs
  | .str s => some (s.map fun c => .str [c])
  | _ => none
def rangeL (lo : Int) (n : Nat) : List D := (List.range n).map fun i => .int (lo + (i : Nat))
def rngOk (i : Int) : Bool := decide (-(2 ^ 62) ≤ i) && decide (i < 2 ^ 62)
def rng (args : List D) : Option (List D) := match args with
  | [.int j] => if rngOk j then some (rangeL 0 j.toNat) else none
  | [.int i, .int j] => if rngOk i && rngOk j then some (rangeL i (j - i).toNat) else none
  | _ => none
def enumL : Nat → List D → List D
  | _, [] => []
  | n, d :: r => .tup [.int n, d] :: enumL (n + 1) r
/-- both lists or both tuples -/
def sameSq : D → D → Bool
  | .lst _, .lst _ => true
  | .tup _, .tup _ => true
  | _, _ => false
def zipL : List D → List D → List D
  | a :: as, b :: bs => .tup [a, b] :: zipL as bs
  | _, _ => []
section
variable {α : Type}
def getV (e : Env) (i : Nat) (S : Store) : R D := match e[i]? with
  | some (some d) => .ok d S
  | _ => .st
def asInt (d : D) (k : Int → R α) : R α := match d with
  | .int i => k i
  | _ => .st
def asBl (d : D) (k : Bool → R α) : R α := match d with
  | .bl b => k b
  | _ => .st
def asStr (d : D) (k : List Nat → R α) : R α := match d with
  | .str s => k s
  | _ => .st
def asLst (d : D) (k : List D → R α) : R α := match d with
  | .lst ds => k ds
  | _ => .st
def asSq (d : D) (k : List D → R α) : R α := match d with
  | .lst ds => k ds
  | .tup ds => k ds
  | _ => .st
def asExn (d : D) (k : Nat → R α) : R α := match d with
  | .clo c [] => k c
  | _ => .st
def asFn (d : D) (k : Nat → R α) : R α := match d with
  | .fn f => k f
  | _ => .st
def asO {β : Type} (o : Option β) (k : β → R α) : R α := match o with
  | some b => k b
  | none => .st
def gd (b : Bool) (r : R α) : R α := match b with
  | true => r
  | false => .st
def two (b : Bool) (r q : R α) : R α := match b with
  | true => r
  | false => q
@[simp] theorem asInt_int (i : Int) (k : Int → R α) : asInt (.int i) k = k i := rfl
@[simp] theorem asBl_bl (i : Bool) (k : Bool → R α) : asBl (.bl i) k = k i := rfl
@[simp] theorem asStr_str (i : List Nat) (k : List Nat → R α) : asStr (.str i) k = k i := rfl
@[simp] theorem asLst_lst (i : List D) (k : List D → R α) : asLst (.lst i) k = k i := rfl
@[simp] theorem asSq_lst (i : List D) (k : List D → R α) : asSq (.lst i) k = k i := rfl
@[simp] theorem asSq_tup (i : List D) (k : List D → R α) : asSq (.tup i) k = k i := rfl
@[simp] theorem asFn_fn (i : Nat) (k : Nat → R α) : asFn (.fn i) k = k i := rfl
@[simp] theorem asO_some {β : Type} (b : β) (k : β → R α) : asO (some b) k = k b := rfl
@[simp] theorem asO_none {β : Type} (k : β → R α) : asO none k = .st := rfl
@[simp] theorem gd_true (r : R α) : gd true r = r := rfl
@[simp] theorem gd_false (r : R α) : gd false r = .st := rfl
@[simp] theorem two_true (r q : R α) : two true r q = r := rfl
@[simp] theorem two_false (r q : R α) : two false r q = q := rfl
end
/-- one comprehension's loop -/
def compL (g : D → Option Env) (c : Env → Store → R D) (f : Env → Store → R D) : List D → List D → Store → R (List D)
  | [], acc, S => .ok acc S
  | x :: r, acc, S => asO (g x) fun e => (c e S).nox.bind fun t S1 => asO (truth S1 t) fun k =>
      two k ((f e S1).nox.bind fun d S2 => gd (decide (acc.length < sizeL) && noC d) (compL g c f r (acc ++ [d]) S2)) (compL g c f r acc S1)
/-- two clauses: f gives the items of a turn of the outer one, behind acc -/
def compL2 (g : D → Option Env) (f : List D → Env → Store → R (List D)) : List D → List D → Store → R (List D)
  | [], acc, S => .ok acc S
  | x :: r, acc, S => asO (g x) fun e => (f acc e S).nox.bind fun acc1 S1 => compL2 g f r acc1 S1
/-- the calls: of a def by its number, of a closure -/
abbrev Orc := D → List D → Store → R D
/-- what is told of a refusal: nothing, or the word for the exception's class (the oracle's second part) -/
def R.refu (F : Orc) (r : R D) : R D := match r with
  | .ok _ S => .ok (.str []) S
  | .ex k p S => F (.clo k []) [p] S
  | .st => .st
@[simp] theorem R.refu_ok (F : Orc) (d : D) (S : Store) : R.refu F (.ok d S) = .ok (.str []) S := rfl
@[simp] theorem R.refu_ex (F : Orc) (k : Nat) (p : D) (S : Store) : R.refu F (.ex k p S) = F (.clo k []) [p] S := rfl
variable (G : Nat → Option D) (F : Orc)
mutual
def evE : E → Env → Store → R D
  | .var i, e, S => getV e i S
  | .cint i, _, S => .ok (.int i) S
  | .cstr s, _, S => .ok (.str s) S
  | .cbl b, _, S => .ok (.bl b) S
  | .cnon, _, S => .ok .non S
  | .gl g, _, S => R.of (G g) S
  | .fnv f, _, S => .ok (.fn f) S
  | .tup es, e, S => (evEs es e S).bind fun ds S => gd (ds.all noC) (.ok (.tup ds) S)
  | .lst es, e, S => (evEs es e S).bind fun ds S => gd (ds.all noC) (.ok (.lst ds) S)
  | .alc a, e, S => (evE a e S).bind fun d S => asLst d fun ds => .ok (.ref S.length) (S ++ [.lst ds])
  | .bin op a b, e, S => (evE a e S).bind fun x S => (evE b e S).bind fun y S => R.of (bin op (view S x) (view S y)) S
  | .neg a, e, S => (evE a e S).bind fun x S => asInt x fun i => .ok (.int (-i)) S
  | .cmp op a b, e, S => (evE a e S).bind fun x S => (evE b e S).bind fun y S => asO (cmp op (view S x) (view S y)) fun k => .ok (.bl k) S
  | .chn op op' a b c, e, S => (evE a e S).bind fun x S => (evE b e S).bind fun y S => asO (cmp op (view S x) (view S y)) fun k =>
      two k ((evE c e S).bind fun z S => asO (cmp op' (view S y) (view S z)) fun k => .ok (.bl k) S) (.ok (.bl false) S)
  | .andE a b, e, S => (evE a e S).bind fun x S => asBl x fun k => two k (evE b e S) (.ok (.bl false) S)
  | .orE a b, e, S => (evE a e S).bind fun x S => asBl x fun k => two k (.ok (.bl true) S) (evE b e S)
  | .notE a, e, S => (evE a e S).bind fun x S => asBl x fun k => .ok (.bl (!k)) S
  | .ite c a b, e, S => (evE c e S).bind fun x S => asO (truth S x) fun k => two k (evE a e S) (evE b e S)
  | .idx a b, e, S => (evE a e S).bind fun x S => (evE b e S).bind fun y S => R.of (idx (view S x) y) S
  | .slc a lo hi, e, S => (evE a e S).bind fun x S => (evOp lo e S).bind fun l S => (evOp hi e S).bind fun h S => R.of (slc (view S x) l h) S
  | .rev a, e, S => (evE a e S).bind fun x S => R.of (rev (view S x)) S
  | .call f es, e, S => (evEs es e S).bind fun ds S => F (.fn f) ds S
  | .callv i n es, e, S => (getV e i S).bind fun d S => asFn d fun f => gd (decide (f < n)) ((evEs es e S).bind fun ds S => F (.fn f) ds S)
  | .refu _ b, e, S => (evE b e S).refu F
  | .isx i j, e, S => (getV e i S).bind fun d S => asExn d fun k => F (.clo k [.int j]) [] S
  | .bi b es, e, S => (evEs es e S).bind fun ds S => R.of (biV b (ds.map (view S))) S
  | .mth m o es, e, S => (evE o e S).bind fun x S => asStr x fun s => (evEs es e S).bind fun ds S => R.of (meV m (.str s) (ds.map (view S))) S
  | .comp own tg it elt c, e, S => (evI it e S).bind fun xs S =>
      (compL (fun x => setTg tg x (wipe e own)) (evC c) (evE elt) xs [] S).nox.bind fun ds S => .ok (.lst ds) S
  | .comp2 own tg it own2 tg2 it2 elt c, e, S => (evI it e S).bind fun xs S =>
      (compL2 (fun x => setTg tg x (wipe e own)) (fun acc e1 S1 => (evI it2 e1 S1).bind fun ys S2 =>
        compL (fun y => setTg tg2 y (wipe e1 own2)) (evC c) (evE elt) ys acc S2) xs [] S).nox.bind fun ds S => .ok (.lst ds) S
def evEs : Es → Env → Store → R (List D)
  | .nil, _, S => .ok [] S
  | .cons a es, e, S => (evE a e S).bind fun d S => (evEs es e S).bind fun ds S => .ok (d :: ds) S
def evOp : Op → Env → Store → R (Option Int)
  | .no, _, S => .ok none S
  | .yes a, e, S => (evE a e S).bind fun d S => asInt d fun i => .ok (some i) S
/-- a clause's test -/
def evC : Op → Env → Store → R D
  | .no, _, S => .ok (.bl true) S
  | .yes a, e, S => evE a e S
def evI : I → Env → Store → R (List D)
  | .seq a, e, S => (evE a e S).bind fun d S => R.of (items d) S
  | .rng es, e, S => (evEs es e S).bind fun ds S => R.of (rng ds) S
  | .enm a, e, S => (evE a e S).bind fun d S => asLst d fun xs => .ok (enumL 0 xs) S
  | .zip a b, e, S => (evE a e S).bind fun d S => (evE b e S).bind fun d' S => asSq d fun xs => asSq d' fun ys => gd (sameSq d d') (.ok (zipL xs ys) S)
  | .lsq a, e, S => (evE a e S).bind fun d S => asLst d fun xs => .ok xs S
end
/-! ### statements -/
mutual
inductive St where
  | asg (i : Nat) (e : E)
  | par (is : List Nat) (es : Es)
  | unp (tg : Tg) (e : E)
  | setI (a i v : E)
  | app (a v : E)
  | expr (e : E)
  | ret (e : E)
  | retN
  | ite (c : E) (a b : Ss)
  | for_ (tg : Tg) (it : I) (body : Ss)
  | while_ (c : E) (body : Ss)
  | rais (k : Nat)
  | raiV (k : Nat) (e : E)
  | tryH (body : Ss) (k : Nat) (h : Hd)
  | pass
  | brk
  | cont
inductive Ss where
  | nil
  | cons (s : St) (r : Ss)
/-- what an except suite does: return f(e); x = f(e); return e.field -/
inductive Hd where
  | ret (f : Nat)
  | set (i : Nat) (f : Nat)
  | fld
end
def FR.gd (b : Bool) (r : FR) : FR := match b with
  | true => r
  | false => .st
def FR.two (b : Bool) (r q : FR) : FR := match b with
  | true => r
  | false => q
@[simp] theorem FR.gd_true (r : FR) : FR.gd true r = r := rfl
@[simp] theorem FR.gd_false (r : FR) : FR.gd false r = .st := rfl
@[simp] theorem FR.two_true (r q : FR) : FR.two true r q = r := rfl
@[simp] theorem FR.two_false (r q : FR) : FR.two false r q = q := rfl
def FR.ofR {α : Type} (r : R α) (e : Env) (f : α → Store → FR) : FR := match r with
  | .ok a S => f a S
  | .ex k p S => .ex k p e S
  | .st => .st
def FR.ofO {α : Type} (o : Option α) (f : α → FR) : FR := match o with
  | some a => f a
  | none => .st
@[simp] theorem FR.ofR_ok {α : Type} (a : α) (S : Store) (e : Env) (f : α → Store → FR) : FR.ofR (.ok a S) e f = f a S := rfl
@[simp] theorem FR.ofR_ex {α : Type} (k : Nat) (p : D) (S : Store) (e : Env) (f : α → Store → FR) : FR.ofR (.ex k p S) e f = .ex k p e S := rfl
@[simp] theorem FR.ofR_st {α : Type} (e : Env) (f : α → Store → FR) : FR.ofR (.st : R α) e f = .st := rfl
@[simp] theorem FR.ofO_some {α : Type} (a : α) (f : α → FR) : FR.ofO (some a) f = f a := rfl
@[simp] theorem FR.ofO_none {α : Type} (f : α → FR) : FR.ofO (none : Option α) f = .st := rfl
/-- behind a loop's body: on (g), or out -/
def FR.turn (r : FR) (g : Env → Store → FR) : FR := match r with
  | .nx e S => g e S
  | .ct e S => g e S
  | .bk e S => .nx e S
  | .rt d S => .rt d S
  | .ex k p e S => .ex k p e S
  | .st => .st
/-- on behind a statement -/
def FR.thn (r : FR) (g : Env → Store → FR) : FR := match r with
  | .nx e S => g e S
  | .ct e S => .ct e S
  | .bk e S => .bk e S
  | .rt d S => .rt d S
  | .ex k p e S => .ex k p e S
  | .st => .st
@[simp] theorem FR.turn_nx (e : Env) (S : Store) (g : Env → Store → FR) : (FR.nx e S).turn g = g e S := rfl
@[simp] theorem FR.turn_ct (e : Env) (S : Store) (g : Env → Store → FR) : (FR.ct e S).turn g = g e S := rfl
@[simp] theorem FR.turn_bk (e : Env) (S : Store) (g : Env → Store → FR) : (FR.bk e S).turn g = .nx e S := rfl
@[simp] theorem FR.turn_rt (d : D) (S : Store) (g : Env → Store → FR) : (FR.rt d S).turn g = .rt d S := rfl
@[simp] theorem FR.turn_ex (k : Nat) (p : D) (e : Env) (S : Store) (g : Env → Store → FR) : (FR.ex k p e S).turn g = .ex k p e S := rfl
@[simp] theorem FR.turn_st (g : Env → Store → FR) : FR.st.turn g = .st := rfl
@[simp] theorem FR.thn_nx (e : Env) (S : Store) (g : Env → Store → FR) : (FR.nx e S).thn g = g e S := rfl
@[simp] theorem FR.thn_ct (e : Env) (S : Store) (g : Env → Store → FR) : (FR.ct e S).thn g = .ct e S := rfl
@[simp] theorem FR.thn_bk (e : Env) (S : Store) (g : Env → Store → FR) : (FR.bk e S).thn g = .bk e S := rfl
@[simp] theorem FR.thn_rt (d : D) (S : Store) (g : Env → Store → FR) : (FR.rt d S).thn g = .rt d S := rfl
@[simp] theorem FR.thn_ex (k : Nat) (p : D) (e : Env) (S : Store) (g : Env → Store → FR) : (FR.ex k p e S).thn g = .ex k p e S := rfl
@[simp] theorem FR.thn_st (g : Env → Store → FR) : FR.st.thn g = .st := rfl
def forL (g : D → Env → Option Env) (body : Env → Store → FR) : List D → Env → Store → FR
  | [], e, S => .nx e S
  | x :: r, e, S => FR.ofO (g x e) fun e1 => (body e1 S).turn (forL g body r)
def whileL (c : Env → Store → R D) (body : Env → Store → FR) : Nat → Env → Store → FR
  | 0, _, _ => .st
  | n + 1, e, S => FR.ofR (c e S) e fun t S1 => FR.ofO (truth S1 t) fun k => FR.two k ((body e S1).turn (whileL c body n)) (.nx e S1)
/-- the list at a place of the store -/
def getL (S : Store) (d : D) : Option (Nat × List D) := match d with
  | .ref l => match S[l]? with
    | some (.lst xs) => some (l, xs)
    | _ => none
  | _ => none
def isRf : D → Bool
  | .ref _ => true
  | _ => false
def ixD (n : Nat) : D → Option Nat
  | .int j => ix n j
  | _ => none
def raiseOk : D → Bool
  | .int i => decide (0 ≤ i) && decide (i < 1000000)
  | _ => false
variable (X : Nat → Nat → Option Bool) (HF : Nat → Nat → Option D)
/-- an except suite -/
def evH (h : Hd) (k0 k : Nat) (p : D) (e : Env) (S : Store) : FR := match h with
  | .ret f => .ofO (HF f k) fun d => .rt d S
  | .set i f => .ofO (HF f k) fun d => .nx (e.set i (some d)) S
  | .fld => .gd (decide (k = k0)) (.rt p S)
/-- behind a try suite -/
def FR.try_ (r : FR) (X : Nat → Option Bool) (g : Nat → D → Env → Store → FR) : FR := match r with
  | .ex k p e S => .ofO (X k) fun b => .two b (g k p e S) (.ex k p e S)
  | .nx e S => .nx e S
  | .ct e S => .ct e S
  | .bk e S => .bk e S
  | .rt d S => .rt d S
  | .st => .st
mutual
def evS : St → Env → Store → FR
  | .asg i a, e, S => .ofR (evE G F a e S) e fun d S => .nx (e.set i (some d)) S
  | .par is es, e, S => .ofR (evEs G F es e S) e fun ds S => .ofO (setAll is ds e) fun e => .nx e S
  | .unp tg a, e, S => .ofR (evE G F a e S) e fun d S => .ofO (setTg tg d e) fun e => .nx e S
  | .setI a i v, e, S => .ofR (evE G F v e S) e fun d S => .ofR (evE G F a e S) e fun x S => .ofR (evE G F i e S) e fun y S =>
      .ofO (getL S x) fun p => .ofO (ixD p.2.length y) fun n => .gd (noC d) (.nx e (S.set p.1 (.lst (p.2.set n d))))
  | .app a v, e, S => .ofR (evE G F a e S) e fun x S => .gd (isRf x) (.ofR (evE G F v e S) e fun d S =>
      .ofO (getL S x) fun p => .gd (decide (p.2.length < sizeL) && noC d) (.nx e (S.set p.1 (.lst (p.2 ++ [d])))))
  | .expr a, e, S => .ofR (evE G F a e S) e fun _ S => .nx e S
  | .ret a, e, S => .ofR (evE G F a e S) e fun d S => .rt d S
  | .retN, _, S => .rt .non S
  | .ite c a b, e, S => .ofR (evE G F c e S) e fun x S => .ofO (truth S x) fun k => .two k (evSs a e S) (evSs b e S)
  | .for_ tg it body, e, S => .ofR (evI G F it e S) e fun xs S => forL (setTg tg) (evSs body) xs e S
  | .while_ c body, e, S => whileL (evE G F c) (evSs body) 1000 e S
  | .rais k, e, S => .ex k .non e S
  | .raiV k a, e, S => .ofR (evE G F a e S) e fun d S => .gd (raiseOk d) (.ex k d e S)
  | .tryH body k h, e, S => (evSs body e S).try_ (fun k' => X k' k) (fun k' p e1 S1 => evH HF h k k' p e1 S1)
  | .pass, e, S => .nx e S
  | .brk, e, S => .bk e S
  | .cont, e, S => .ct e S
def evSs : Ss → Env → Store → FR
  | .nil, e, S => .nx e S
  | .cons s r, e, S => (evS s e S).thn (evSs r)
end
/-! ### defs -/
/-- no reference beyond n, no closure -/
def lowD (n : Nat) : Nat → D → Bool
  | _, .non => true
  | _, .bl _ => true
  | _, .int _ => true
  | _, .str _ => true
  | _, .fn _ => true
  | _, .scr _ => true
  | _, .ref l => decide (l < n)
  | k + 1, .tup xs => xs.all (lowD n k)
  | k + 1, .lst xs => xs.all (lowD n k)
  | _, _ => false
def lowO (n k : Nat) : O → Bool
  | .lst xs => xs.all (lowD n k)
  | .ins _ fs => fs.all (lowD n k)
  | .dic kvs => kvs.all fun p => lowD n k p.1 && lowD n k p.2
/-- a def of the text: how many names, parameters, its body; cut: what it laid in the store goes at its end -/
structure Fn where
  slots : Nat
  params : Nat
  body : Ss
  cut : Bool := true
def start (n : Nat) (ds : List D) : Env := ds.map some ++ List.replicate (n - ds.length) none
def cutR (b : Bool) (n : Nat) (d : D) (S : Store) : R D :=
  if b then (if lowD n 12 d && (S.take n).all (lowO n 12) then .ok d (S.take n) else .st) else (if noC d then .ok d S else .st)
def ofFR (b : Bool) (n : Nat) : FR → R D
  | .rt d S => cutR b n d S
  | .nx _ S => cutR b n .non S
  | .ex k p _ S => if b then (if lowD n 12 p && (S.take n).all (lowO n 12) then .ex k p (S.take n) else .st) else .ex k p S
  | _ => .st
structure Pg where
  fns : List Fn
  gl : Nat → Option D
  exm : Nat → Nat → Option Bool
  hot : Nat → Nat → Option D
  err : Nat → Option D
def run (p : Pg) : Nat → Orc
  | 0, _, _, _ => .st
  | n + 1, .fn f, ds, S => (match p.fns[f]? with
    | some d => if ds.length = d.params then ofFR d.cut S.length (evSs p.gl (run p n) p.exm p.hot d.body (start d.slots ds) S) else .st
    | none => .st)
  | _ + 1, .clo k [], _, S => asO (p.err k) fun d => .ok d S
  | _ + 1, .clo k [.int j], _, S => asO (p.exm k j.toNat) fun b => .ok (.bl b) S
  | _ + 1, _, _, _ => .st
end Rx
set_option Elab.async false
set_option linter.all false
set_option maxRecDepth 100000
/-! Rx2: how plain data stands in the heap. -/
namespace Rx
open PySem PySem.Spec PyProof.Rows L2
/-- the store's addresses (they may be written); further lists that no datum names; the tables of code objects -/
structure Wd where
  rho : List Addr
  old : List Addr
  tb : List (Addr × Str)
def Wd.res (w : Wd) : List Addr := w.rho ++ w.old
theorem Wd.out {w : Wd} {a : Addr} (n : a ∉ w.res) : a ∉ w.rho := fun h => n (List.mem_append_left _ h)
/-- nothing but a table is known to stand there -/
def Fre (H : Hp) (a : Addr) : Prop := ∀ o, H a = some o → ∃ ps, o = .tbl ps
theorem Fre.none {H : Hp} {a : Addr} (h : H a = none) : Fre H a := fun o e => by
  rw [h] at e
  cases e
theorem nfre {H : Hp} {a : Addr} {o : HO} (h : H a = some o) (n : ∀ ps, o ≠ .tbl ps) : ¬ Fre H a := fun f => by
  obtain ⟨ps, e⟩ := f o h
  exact n ps e
section
/-- where the defs stand; the tables of code objects, and what their lambdas are called -/
structure Fa where
  at_ : Nat → Addr
  tb : List (Addr × Str)
instance : CoeFun Fa fun _ => Nat → Addr := ⟨Fa.at_⟩
/-- where a list that nothing writes stands: tracked, or known once and for all -/
def ScrAt (K : PySem.W.Frag) (w : Wd) (H : Hp) (a : Addr) (xs : List V) : Prop := (Rd H a (.lst xs) ∧ a ∉ w.res) ∨ ∀ H1 : Hp, SqL K H1 a xs
theorem ScrAt.sql {K : PySem.W.Frag} {w : Wd} {H : Hp} {a : Addr} {xs : List V} (h : ScrAt K w H a xs) : SqL K H a xs := h.elim (fun z => .inl z.1) fun z => z H
theorem ScrAt.of {K : PySem.W.Frag} {w : Wd} {H : Hp} {a : Addr} {xs : List V} (h : SqL K H a xs) (n : a ∉ w.res) : ScrAt K w H a xs := h.elim (fun z => .inl ⟨z, n⟩) fun z => .inr fun _ => .inr z
theorem ScrAt.fewer {K : PySem.W.Frag} {w w' : Wd} {H : Hp} {a : Addr} {xs : List V} (h : ScrAt K w H a xs) (hs : ∀ a ∈ w'.res, a ∈ w.res) : ScrAt K w' H a xs := h.elim (fun z => .inl ⟨z.1, fun y => z.2 (hs _ y)⟩) .inr
variable (K : PySem.W.Frag) (fa : Fa)
mutual
inductive Rep (w : Wd) (H : Hp) : V → D → Prop where
  | non : Rep w H .non .non
  | bl (b : Bool) : Rep w H (.bl b) (.bl b)
  | int (i : Int) : Rep w H (.int i) (.int i)
  | str {s : List Nat} (h : s.length ≤ sizeLine) (o : ∀ c ∈ s, c < 1114112) : Rep w H (.str ⟨s.toArray⟩) (.str s)
  | tup {a : Addr} {xs : List V} {ds : List D} (h : SqT K H a xs) (r : Reps w H xs ds) : Rep w H (.ref a) (.tup ds)
  | lst {a : Addr} {xs : List V} {ds : List D} (h : H a = some (.lst xs)) (n : a ∉ w.res) (r : Reps w H xs ds) : Rep w H (.ref a) (.lst ds)
  | scr {a : Addr} {ns : List Int} (h : ScrAt K w H a (ns.map V.int)) : Rep w H (.ref a) (.scr ns)
  | ref {a : Addr} {l : Nat} (h : w.rho[l]? = some a) : Rep w H (.ref a) (.ref l)
  | fn (f : Nat) : Rep w H (.ref (fa f)) (.fn f)
inductive Reps (w : Wd) (H : Hp) : List V → List D → Prop where
  | nil : Reps w H [] []
  | cons {x : V} {xs : List V} {d : D} {ds : List D} (r : Rep w H x d) (t : Reps w H xs ds) : Reps w H (x :: xs) (d :: ds)
end
end
/-- what the heap holds of the store's object -/
inductive OR (K : PySem.W.Frag) (fa : Fa) (w : Wd) (H : Hp) (a : Addr) : O → Prop where
  | lst {xs : List V} {ds : List D} (h : H a = some (.lst xs)) (r : Reps K fa w H xs ds) : OR K fa w H a (.lst ds)
structure SR (K : PySem.W.Frag) (fa : Fa) (w : Wd) (H : Hp) (S : Store) : Prop where
  len : S.length = w.rho.length
  nd : w.rho.Nodup
  trk : ∀ a ∈ w.res, ∃ xs, H a = some (.lst xs)
  tab : w.tb = fa.tb ∧ LamX.Tabs w.tb H
  at_ : ∀ (l : Nat) (o : O) (a : Addr), (S : List O)[l]? = some o → w.rho[l]? = some a → OR K fa w H a o
/-- what may have come about -/
structure Ext (w : Wd) (H : Hp) (w' : Wd) (H' : Hp) : Prop where
  rho : ∃ more, w'.rho = w.rho ++ more ∧ ∀ a ∈ more, Fre H a
  sub : ∀ a ∈ w.res, a ∈ w'.res
  new : ∀ a ∈ w'.res, a ∈ w.res ∨ Fre H a
  trk : ∀ a, Fre H' a → Fre H a
  tups : ∀ a xs, H a = some (.tup xs) → H' a = some (.tup xs)
  frzs : ∀ a o u, H a = some (.frz o u) → H' a = some (.frz o u)
  exts : ∀ a φ, H a = some (.ext φ) → H' a = some (.ext φ)
  lsts : ∀ a xs, H a = some (.lst xs) → a ∉ w.rho → H' a = some (.lst xs)
  tb : w'.tb = w.tb
  tabs : ∀ P q, (P, q) ∈ w.tb → LamX.TabS H P q → LamX.TabS H' P q
theorem tabS_of {tb : List (Addr × Str)} {H H' : Hp} (e1 : ∀ a ps, H a = some (.tbl ps) → H' a = some (.tbl ps)) (e2 : ∀ a φ, H a = some (.ext φ) → H' a = some (.ext φ)) : ∀ P q, (P, q) ∈ tb → LamX.TabS H P q → LamX.TabS H' P q := fun P q _ ⟨ps, h1, h2, h3⟩ => ⟨ps, e1 _ _ h1, h2, fun pos cv hc => by
  obtain ⟨c, g1, g2⟩ := h3 pos cv hc
  exact ⟨c, g1, e2 _ _ g2⟩⟩
theorem tab_on {tb tb0 : List (Addr × Str)} {w : Wd} {H H' : Hp} (h : w.tb = tb0 ∧ LamX.Tabs w.tb H) (e : tb = w.tb) (k : ∀ P q, (P, q) ∈ w.tb → LamX.TabS H P q → LamX.TabS H' P q) : tb = tb0 ∧ LamX.Tabs tb H' := by
  subst e
  exact ⟨h.1, fun p hp => k p.1 p.2 hp (h.2 p hp)⟩
theorem Ext.refl (w : Wd) (H : Hp) : Ext w H w H := ⟨⟨[], by simp, by simp⟩, fun _ h => h, fun _ h => .inl h, fun _ h => h, fun _ _ h => h, fun _ _ _ h => h, fun _ _ h => h, fun _ _ h _ => h, rfl, fun _ _ _ h => h⟩
theorem Ext.trans {w w1 w2 : Wd} {H H1 H2 : Hp} (a : Ext w H w1 H1) (b : Ext w1 H1 w2 H2) : Ext w H w2 H2 := by
  refine ⟨?_, fun x h => b.sub x (a.sub x h), fun x h => ?_, fun x h => a.trk x (b.trk x h), fun x o h => b.tups x o (a.tups x o h), fun x o u h => b.frzs x o u (a.frzs x o u h), fun x o h => b.exts x o (a.exts x o h), fun x o h n => ?_, b.tb.trans a.tb, fun P q m h => b.tabs P q (by rw [a.tb]; exact m) (a.tabs P q m h)⟩
  · obtain ⟨m1, e1, n1⟩ := a.rho
    obtain ⟨m2, e2, n2⟩ := b.rho
    refine ⟨m1 ++ m2, by rw [e2, e1, List.append_assoc], fun x hx => ?_⟩
    rcases List.mem_append.mp hx with h | h
    · exact n1 x h
    · exact a.trk x (n2 x h)
  · rcases b.new x h with h | h
    · exact a.new x h
    · exact .inr (a.trk x h)
  · refine b.lsts x o (a.lsts x o h n) (fun hx => ?_)
    obtain ⟨m1, e1, n1⟩ := a.rho
    rw [e1] at hx
    rcases List.mem_append.mp hx with h1 | h1
    · exact n h1
    · exact absurd (n1 x h1) (nfre h (fun ps z => by cases z))
section
variable {K : PySem.W.Frag} {fa : Fa} {w w' : Wd} {H H' : Hp}
theorem Ext.out (e : Ext w H w' H') {a : Addr} (h : ¬ Fre H a) (n : a ∉ w.res) : a ∉ w'.res := fun hx => by
  rcases e.new a hx with h1 | h1
  · exact n h1
  · exact h h1
theorem Ext.rd (e : Ext w H w' H') {a : Addr} {xs : List V} (h : Rd H a (.lst xs)) (n : a ∉ w.res) : Rd H' a (.lst xs) ∧ a ∉ w'.res := by
  rcases h with h | ⟨o, h⟩
  · exact ⟨.inl (e.lsts a xs h (Wd.out n)), e.out (nfre h (fun ps z => by cases z)) n⟩
  · exact ⟨.inr ⟨o, e.frzs _ _ _ h⟩, e.out (nfre h (fun ps z => by cases z)) n⟩
theorem Ext.sql (e : Ext w H w' H') {a : Addr} {xs : List V} (h : SqL K H a xs) (n : a ∉ w.res) : SqL K H' a xs := by
  rcases h with h | h
  · exact .inl (e.rd h n).1
  · exact .inr h
theorem Ext.tup (e : Ext w H w' H') {a : Addr} {xs : List V} (h : SqT K H a xs) : SqT K H' a xs := by
  rcases h with (h | ⟨o, h⟩) | h
  · exact .inl (.inl (e.tups _ _ h))
  · exact .inl (.inr ⟨o, e.frzs _ _ _ h⟩)
  · exact .inr h
theorem Ext.rho_at (e : Ext w H w' H') {l : Nat} {a : Addr} (h : w.rho[l]? = some a) : w'.rho[l]? = some a := by
  obtain ⟨m, e1, _⟩ := e.rho
  rw [e1, List.getElem?_append_left (List.getElem?_eq_some_iff.mp h).1]
  exact h
mutual
theorem Rep.ext (e : Ext w H w' H') : ∀ {v : V} {d : D}, Rep K fa w H v d → Rep K fa w' H' v d
  | _, _, .non => .non
  | _, _, .bl b => .bl b
  | _, _, .int i => .int i
  | _, _, .str h o => .str h o
  | _, _, .tup h r => .tup (e.tup h) (Reps.ext e r)
  | _, _, .lst h n r => .lst (e.lsts _ _ h (Wd.out n)) (e.out (nfre h (fun ps z => by cases z)) n) (Reps.ext e r)
  | _, _, .scr h => .scr (h.elim (fun z => .inl (e.rd z.1 z.2)) .inr)
  | _, _, .ref h => .ref (e.rho_at h)
  | _, _, .fn f => .fn f
theorem Reps.ext (e : Ext w H w' H') : ∀ {vs : List V} {ds : List D}, Reps K fa w H vs ds → Reps K fa w' H' vs ds
  | _, _, .nil => .nil
  | _, _, .cons r t => .cons (Rep.ext e r) (Reps.ext e t)
end
theorem Reps.len : ∀ {vs : List V} {ds : List D}, Reps K fa w H vs ds → vs.length = ds.length
  | _, _, .nil => rfl
  | _, _, .cons _ t => by simp [Reps.len t]
theorem Reps.get : ∀ {vs : List V} {ds : List D} {i : Nat} {d : D}, Reps K fa w H vs ds → ds[i]? = some d → ∃ v, vs[i]? = some v ∧ Rep K fa w H v d
  | _, _, _, _, .nil, e => by simp at e
  | _, _, 0, _, .cons r _, e => by
    simp at e
    subst e
    exact ⟨_, rfl, r⟩
  | _, _, i + 1, d, .cons _ t, e => by
    obtain ⟨v, h1, h2⟩ := Reps.get (i := i) (d := d) t (by simpa using e)
    exact ⟨v, by simpa using h1, h2⟩
theorem Reps.getV : ∀ {vs : List V} {ds : List D} {i : Nat} {v : V}, Reps K fa w H vs ds → vs[i]? = some v → ∃ d, ds[i]? = some d ∧ Rep K fa w H v d
  | _, _, _, _, .nil, e => by simp at e
  | _, _, 0, _, .cons r _, e => by
    simp at e
    subst e
    exact ⟨_, rfl, r⟩
  | _, _, i + 1, d, .cons _ t, e => by
    obtain ⟨v, h1, h2⟩ := Reps.getV (i := i) (v := d) t (by simpa using e)
    exact ⟨v, by simpa using h1, h2⟩
theorem Reps.append : ∀ {vs us : List V} {ds es : List D}, Reps K fa w H vs ds → Reps K fa w H us es → Reps K fa w H (vs ++ us) (ds ++ es)
  | _, _, _, _, .nil, s => s
  | _, _, _, _, .cons r t, s => .cons r (Reps.append t s)
theorem Reps.take : ∀ {vs : List V} {ds : List D} (n : Nat), Reps K fa w H vs ds → Reps K fa w H (vs.take n) (ds.take n)
  | _, _, 0, _ => .nil
  | _, _, _ + 1, .nil => .nil
  | _, _, n + 1, .cons r t => .cons r (Reps.take n t)
theorem Reps.drop : ∀ {vs : List V} {ds : List D} (n : Nat), Reps K fa w H vs ds → Reps K fa w H (vs.drop n) (ds.drop n)
  | _, _, 0, r => r
  | _, _, _ + 1, .nil => .nil
  | _, _, n + 1, .cons _ t => Reps.drop n t
theorem Reps.set {x : V} {d : D} (r : Rep K fa w H x d) : ∀ {vs : List V} {ds : List D} (i : Nat), Reps K fa w H vs ds → Reps K fa w H (vs.set i x) (ds.set i d)
  | _, _, _, .nil => .nil
  | _, _, 0, .cons _ t => .cons r t
  | _, _, i + 1, .cons q t => .cons q (Reps.set r i t)
theorem Reps.reverse {vs : List V} {ds : List D} (r : Reps K fa w H vs ds) : Reps K fa w H vs.reverse ds.reverse := by
  induction vs generalizing ds with
  | nil => cases r; exact .nil
  | cons v vs ih =>
    cases r with
    | cons r t =>
      rw [List.reverse_cons, List.reverse_cons]
      exact (ih t).append (.cons r .nil)
theorem Reps.rep {vs : List V} {ds : List D} (r : Reps K fa w H vs ds) : ∀ k : Nat, Reps K fa w H (List.replicate k vs).flatten (List.replicate k ds).flatten
  | 0 => .nil
  | k + 1 => by
    rw [List.replicate_succ, List.replicate_succ, List.flatten_cons, List.flatten_cons]
    exact r.append (r.rep k)
end
/-! ### the slots -/
section
variable (K : PySem.W.Frag) (fa : Fa) (lm : Addr → Nat → Prop)
inductive RepC (w : Wd) (H : Hp) : V → D → Prop where
  | of {v : V} {d : D} (r : Rep K fa w H v d) : RepC w H v d
  /-- an exception of the class k that is handled -/
  | clo {a : Addr} {k : Nat} (h : lm a k) : RepC w H (.ref a) (.clo k [])
inductive RepsC (w : Wd) (H : Hp) : List V → List D → Prop where
  | nil : RepsC w H [] []
  | cons {x : V} {xs : List V} {d : D} {ds : List D} (r : RepC K fa lm w H x d) (t : RepsC w H xs ds) : RepsC w H (x :: xs) (d :: ds)
/-- the slots' values -/
inductive ER (w : Wd) (H : Hp) : L2.St → Env → Prop where
  | nil : ER w H [] []
  | no {σ : L2.St} {e : Env} (o : Option V) (t : ER w H σ e) : ER w H (o :: σ) (none :: e)
  | yes {σ : L2.St} {e : Env} {x : V} {d : D} (r : RepC K fa lm w H x d) (t : ER w H σ e) : ER w H (some x :: σ) (some d :: e)
end
section
variable {K : PySem.W.Frag} {fa : Fa} {lm : Addr → Nat → Prop} {w w' : Wd} {H H' : Hp}
theorem RepC.ext (e : Ext w H w' H') {v : V} {d : D} (r : RepC K fa lm w H v d) : RepC K fa lm w' H' v d := by
  cases r with
  | of r => exact .of (r.ext e)
  | clo h => exact .clo h
theorem RepsC.ext (e : Ext w H w' H') : ∀ {vs : List V} {ds : List D}, RepsC K fa lm w H vs ds → RepsC K fa lm w' H' vs ds
  | _, _, .nil => .nil
  | _, _, .cons r t => .cons (r.ext e) (RepsC.ext e t)
theorem ER.ext (e : Ext w H w' H') : ∀ {σ : L2.St} {en : Env}, ER K fa lm w H σ en → ER K fa lm w' H' σ en
  | _, _, .nil => .nil
  | _, _, .no o t => .no o (ER.ext e t)
  | _, _, .yes r t => .yes (r.ext e) (ER.ext e t)
theorem RepC.rep {v : V} {d : D} (r : RepC K fa lm w H v d) (n : noC d = true) : Rep K fa w H v d := by
  cases r with
  | of r => exact r
  | clo _ => cases n
theorem RepsC.reps : ∀ {vs : List V} {ds : List D}, RepsC K fa lm w H vs ds → ds.all noC = true → Reps K fa w H vs ds
  | _, _, .nil, _ => .nil
  | _, _, .cons r t, n => by
    rw [List.all_cons, Bool.and_eq_true] at n
    exact .cons (r.rep n.1) (RepsC.reps t n.2)
theorem Reps.toC : ∀ {vs : List V} {ds : List D}, Reps K fa w H vs ds → RepsC K fa lm w H vs ds
  | _, _, .nil => .nil
  | _, _, .cons r t => .cons (.of r) (Reps.toC t)
theorem RepsC.len : ∀ {vs : List V} {ds : List D}, RepsC K fa lm w H vs ds → vs.length = ds.length
  | _, _, .nil => rfl
  | _, _, .cons _ t => by simp [RepsC.len t]
theorem ER.get : ∀ {σ : L2.St} {e : Env} {i : Nat} {d : D}, ER K fa lm w H σ e → e[i]? = some (some d) → ∃ v, σ[i]? = some (some v) ∧ RepC K fa lm w H v d
  | _, _, _, _, .nil, h => by simp at h
  | _, _, 0, _, .no _ _, h => by simp at h
  | _, _, 0, _, .yes r _, h => by
    simp at h
    subst h
    exact ⟨_, rfl, r⟩
  | _, _, i + 1, d, .no _ t, h => by
    obtain ⟨v, h1, h2⟩ := ER.get (i := i) (d := d) t (by simpa using h)
    exact ⟨v, by simpa using h1, h2⟩
  | _, _, i + 1, d, .yes _ t, h => by
    obtain ⟨v, h1, h2⟩ := ER.get (i := i) (d := d) t (by simpa using h)
    exact ⟨v, by simpa using h1, h2⟩
theorem ER.len : ∀ {σ : L2.St} {e : Env}, ER K fa lm w H σ e → σ.length = e.length
  | _, _, .nil => rfl
  | _, _, .no _ t => by simp [ER.len t]
  | _, _, .yes _ t => by simp [ER.len t]
theorem ER.set {x : V} {d : D} (r : RepC K fa lm w H x d) : ∀ {σ : L2.St} {e : Env} (i : Nat), ER K fa lm w H σ e → ER K fa lm w H (σ.set i (some x)) (e.set i (some d))
  | _, _, _, .nil => .nil
  | _, _, 0, .no _ t => .yes r t
  | _, _, 0, .yes _ t => .yes r t
  | _, _, i + 1, .no o t => .no o (ER.set r i t)
  | _, _, i + 1, .yes q t => .yes q (ER.set r i t)
theorem ER.setNone : ∀ {σ : L2.St} {e : Env} (i : Nat), ER K fa lm w H σ e → ER K fa lm w H (σ.set i none) (e.set i none)
  | _, _, _, .nil => .nil
  | _, _, 0, .no _ t => .no _ t
  | _, _, 0, .yes _ t => .no _ t
  | _, _, i + 1, .no o t => .no o (ER.setNone i t)
  | _, _, i + 1, .yes q t => .yes q (ER.setNone i t)
theorem ER.wipe {σ : L2.St} {e : Env} (h : ER K fa lm w H σ e) : ∀ vs : List Nat, ER K fa lm w H (L2.wipe σ vs) (Rx.wipe e vs)
  | [] => h
  | v :: vs => ER.setNone v (ER.wipe h vs)
theorem ER.start {vs : List V} {ds : List D} (r : RepsC K fa lm w H vs ds) (n : Nat) (N : List Str) (hn : N.length = n) : ER K fa lm w H (L2.start N vs) (Rx.start n ds) := by
  unfold L2.start Rx.start
  rw [hn, ← r.len]
  generalize n - vs.length = m
  induction r with
  | nil =>
    simp only [List.map_nil, List.nil_append]
    induction m with
    | zero => exact .nil
    | succ m ih => exact .no _ ih
  | cons r t ih => exact .yes r ih
end
/-! ### steps of the heap -/
section
variable {K : PySem.W.Frag} {fa : Fa} {w : Wd} {H : Hp} {S : Store}
/-- an object that is neither of the store nor written -/
theorem Ext.upd (w : Wd) {H : Hp} {p : Addr} (o : HO) (hp : H p = none) : Ext w H w (L2.upd H p o) := by
  have ne : ∀ a, H a ≠ none → a ≠ p := fun a h z => h (by rw [z]; exact hp)
  have key : ∀ a u, H a = some u → L2.upd H p o a = some u := fun a u h => by rw [upd_ne (ne a (by rw [h]; simp))]; exact h
  refine ⟨⟨[], by simp, by simp⟩, fun _ h => h, fun _ h => .inl h, fun a h o q => h o (key a o q), fun a _ h => key a _ h, fun a _ _ h => key a _ h, fun a _ h => key a _ h, fun a _ h _ => key a _ h, rfl, tabS_of (fun a _ h => key a _ h) fun a _ h => key a _ h⟩
theorem SR.upd (s : SR K fa w H S) {p : Addr} (o : HO) (hp : H p = none) : SR K fa w (L2.upd H p o) S := by
  have e := Ext.upd w o hp
  refine ⟨s.len, s.nd, fun a ha => ?_, tab_on s.tab e.tb e.tabs, fun l u a h1 h2 => ?_⟩
  · obtain ⟨xs, h⟩ := s.trk a ha
    exact ⟨xs, by rw [upd_ne (fun z => by rw [z, hp] at h; cases h)]; exact h⟩
  · cases s.at_ l u a h1 h2 with
    | lst h r => exact .lst (by rw [upd_ne (fun z => by rw [z, hp] at h; cases h)]; exact h) (r.ext e)
/-- a new place of the store -/
theorem res_alc {w : Wd} {p a : Addr} : a ∈ (⟨w.rho ++ [p], w.old, w.tb⟩ : Wd).res ↔ a ∈ w.res ∨ a = p := by
  unfold Wd.res
  simp [or_assoc, or_comm, or_left_comm]
theorem Ext.alc {p : Addr} {xs : List V} (hp : H p = none) : Ext w H ⟨w.rho ++ [p], w.old, w.tb⟩ (L2.upd H p (.lst xs)) := by
  have e := Ext.upd w (.lst xs) hp
  refine ⟨⟨[p], rfl, fun a ha => ?_⟩, fun a h => res_alc.mpr (.inl h), fun a h => ?_, e.trk, e.tups, e.frzs, e.exts, e.lsts, rfl, e.tabs⟩
  · rw [List.mem_singleton.mp ha]
    exact .none hp
  · rcases res_alc.mp h with h | h
    · exact .inl h
    · exact .inr (by rw [h]; exact .none hp)
theorem SR.alc (s : SR K fa w H S) {p : Addr} {xs : List V} {ds : List D} (hp : H p = none) (r : Reps K fa w H xs ds) : SR K fa ⟨w.rho ++ [p], w.old, w.tb⟩ (L2.upd H p (.lst xs)) (S ++ [.lst ds]) := by
  have e := Ext.alc (w := w) (xs := xs) hp
  have s1 := s.upd (.lst xs) hp
  have nr : p ∉ w.res := fun h => by
    obtain ⟨ys, z⟩ := s.trk p h
    rw [hp] at z
    cases z
  refine ⟨by simp [s.len], ?_, fun a ha => ?_, tab_on s.tab e.tb e.tabs, fun l u a h1 h2 => ?_⟩
  · rw [List.nodup_append]
    refine ⟨s.nd, by simp, fun a ha b hb z => nr ?_⟩
    rw [← List.mem_singleton.mp hb, ← z]
    exact List.mem_append_left _ ha
  · rcases res_alc.mp ha with h | h
    · exact s1.trk a h
    · rw [h]
      exact ⟨xs, upd_same⟩
  · by_cases hl : l < S.length
    · rw [List.getElem?_append_left hl] at h1
      rw [List.getElem?_append_left (by rw [← s.len]; exact hl)] at h2
      cases s.at_ l u a h1 h2 with
      | lst h r => exact .lst (by rw [upd_ne (fun z => by rw [z, hp] at h; cases h)]; exact h) (r.ext e)
    · have hl2 : l = S.length := by
        have q := (List.getElem?_eq_some_iff.mp h1).1
        simp at q
        omega
      subst hl2
      simp at h1
      rw [s.len] at h2
      simp at h2
      subst h1 h2
      exact .lst upd_same (r.ext e)
/-- a place of the store is written -/
theorem Ext.put {p : Addr} {xs ys : List V} (hp : p ∈ w.rho) (h : H p = some (.lst ys)) : Ext w H w (L2.upd H p (.lst xs)) := by
  have key : ∀ a u, H a = some u → (∀ zs, u ≠ .lst zs) → L2.upd H p (.lst xs) a = some u := fun a u q n => by
    rw [upd_ne (fun z => by rw [z, h] at q; exact n ys (Option.some.inj q).symm)]
    exact q
  refine ⟨⟨[], by simp, by simp⟩, fun _ h => h, fun _ h => .inl h, fun a q => ?_, fun a _ q => key a _ q (fun _ z => by cases z), fun a _ _ q => key a _ q (fun _ z => by cases z), fun a _ q => key a _ q (fun _ z => by cases z), fun a zs q n => ?_, rfl, tabS_of (fun a _ q => key a _ q (fun _ z => by cases z)) fun a _ q => key a _ q (fun _ z => by cases z)⟩
  · intro o e
    by_cases z : a = p
    · rw [z, h] at e
      cases e
      obtain ⟨ps, e2⟩ := q _ (by rw [z]; exact upd_same)
      cases e2
    · exact q o (by rw [upd_ne z]; exact e)
  · rw [upd_ne (fun z => n (by rw [z]; exact hp))]
    exact q
theorem SR.put (s : SR K fa w H S) {l : Nat} {p : Addr} {xs : List V} {ds : List D} (hp : w.rho[l]? = some p) (r : Reps K fa w H xs ds) : SR K fa w (L2.upd H p (.lst xs)) (S.set l (.lst ds)) := by
  have hr : p ∈ w.rho := List.mem_of_getElem? hp
  obtain ⟨ys, hy⟩ := s.trk p (List.mem_append_left _ hr)
  have e := Ext.put (xs := xs) hr hy
  refine ⟨by simp [s.len], s.nd, fun a ha => ?_, tab_on s.tab e.tb e.tabs, fun k u a h1 h2 => ?_⟩
  · by_cases z : a = p
    · rw [z, upd_same]
      exact ⟨xs, rfl⟩
    · rw [upd_ne z]
      exact s.trk a ha
  · by_cases hk : k = l
    · subst hk
      rw [hp] at h2
      cases h2
      have hlt : k < S.length := by
        have q := (List.getElem?_eq_some_iff.mp hp).1
        rw [s.len]
        exact q
      rw [List.getElem?_set_self hlt] at h1
      cases h1
      exact .lst upd_same (r.ext e)
    · rw [List.getElem?_set_ne (Ne.symm hk)] at h1
      have na : a ≠ p := fun z => hk (nd_ix s.nd h2 (by rw [z]; exact hp))
      cases s.at_ k u a h1 h2 with
      | lst h r => exact .lst (by rw [upd_ne na]; exact h) (r.ext e)
theorem SR.get (s : SR K fa w H S) {l : Nat} {ds : List D} (h : (S : List O)[l]? = some (.lst ds)) : ∃ p xs, w.rho[l]? = some p ∧ H p = some (.lst xs) ∧ Reps K fa w H xs ds := by
  have hl : l < w.rho.length := by
    rw [← s.len]
    exact (List.getElem?_eq_some_iff.mp h).1
  cases s.at_ l _ _ h (List.getElem?_eq_getElem hl) with
  | lst hp r => exact ⟨_, _, List.getElem?_eq_getElem hl, hp, r⟩
/-- what of a datum may be read: a list of the store as it stands -/
inductive RepR (K : PySem.W.Frag) (fa : Fa) (w : Wd) (H : Hp) : V → D → Prop where
  | of {v : V} {d : D} (r : Rep K fa w H v d) : RepR K fa w H v d
  | lst {a : Addr} {xs : List V} {ds : List D} (h : H a = some (.lst xs)) (r : Reps K fa w H xs ds) : RepR K fa w H (.ref a) (.lst ds)
  | clo {a : Addr} (k : Nat) (vs : List D) : RepR K fa w H (.ref a) (.clo k vs)
theorem SR.view (s : SR K fa w H S) {lm : Addr → Nat → Prop} {v : V} {d : D} (r : RepC K fa lm w H v d) : RepR K fa w H v (Rx.view S d) := by
  cases r with
  | clo _ => exact .clo _ _
  | of r =>
    cases r with
    | @ref a l h =>
      show RepR K fa w H (.ref a) (match (S : List O)[l]? with
        | some (.lst xs) => .lst xs
        | _ => .ref l)
      split
      · rename_i ds q
        obtain ⟨p, xs, h1, h2, h3⟩ := s.get q
        rw [h] at h1
        cases h1
        exact .lst h2 h3
      · exact .of (.ref h)
    | non => exact .of .non
    | bl b => exact .of (.bl b)
    | int i => exact .of (.int i)
    | str h o => exact .of (.str h o)
    | scr h => exact .of (.scr h)
    | tup h r => exact .of (.tup h r)
    | lst h n r => exact .of (.lst h n r)
    | fn f => exact .of (.fn f)
end
end Rx
set_option Elab.async false
set_option linter.all false
set_option maxRecDepth 100000
/-! Rx3: the operators by data. -/
namespace Rx
open PySem PySem.Spec PyProof.Rows L2 TL
section
variable {K : PySem.W.Frag} {fa : Fa} {w w' : Wd} {H H' : Hp} {S : Store} {x y v : V} {d : D} {Q : VK}
theorem Rep.int_of {i : Int} (r : Rep K fa w H x (.int i)) : x = .int i := by cases r; rfl
theorem Rep.bl_of {b : Bool} (r : Rep K fa w H x (.bl b)) : x = .bl b := by cases r; rfl
theorem Rep.non_of (r : Rep K fa w H x .non) : x = .non := by cases r; rfl
theorem Rep.str_of {s : List Nat} (r : Rep K fa w H x (.str s)) : x = .str ⟨s.toArray⟩ ∧ s.length ≤ sizeLine ∧ ∀ c ∈ s, c < 1114112 := by cases r; exact ⟨rfl, ‹_›, ‹_›⟩
theorem Rep.tup_of {ds : List D} (r : Rep K fa w H x (.tup ds)) : ∃ a xs, x = .ref a ∧ SqT K H a xs ∧ Reps K fa w H xs ds := by cases r; exact ⟨_, _, rfl, ‹_›, ‹_›⟩
theorem Rep.lst_of {ds : List D} (r : Rep K fa w H x (.lst ds)) : ∃ a xs, x = .ref a ∧ H a = some (.lst xs) ∧ a ∉ w.res ∧ Reps K fa w H xs ds := by cases r; exact ⟨_, _, rfl, ‹_›, ‹_›, ‹_›⟩
theorem RepR.int_of {i : Int} (r : RepR K fa w H x (.int i)) : x = .int i := by cases r; exact Rep.int_of ‹_›
theorem RepR.bl_of {b : Bool} (r : RepR K fa w H x (.bl b)) : x = .bl b := by cases r; exact Rep.bl_of ‹_›
theorem RepR.non_of (r : RepR K fa w H x .non) : x = .non := by cases r; exact Rep.non_of ‹_›
theorem RepR.str_of {s : List Nat} (r : RepR K fa w H x (.str s)) : x = .str ⟨s.toArray⟩ ∧ s.length ≤ sizeLine ∧ ∀ c ∈ s, c < 1114112 := by cases r; exact Rep.str_of ‹_›
theorem RepR.tup_of {ds : List D} (r : RepR K fa w H x (.tup ds)) : ∃ a xs, x = .ref a ∧ SqT K H a xs ∧ Reps K fa w H xs ds := by cases r; exact Rep.tup_of ‹_›
theorem RepR.lst_of {ds : List D} (r : RepR K fa w H x (.lst ds)) : ∃ a xs, x = .ref a ∧ H a = some (.lst xs) ∧ Reps K fa w H xs ds := by
  cases r with
  | of r =>
    obtain ⟨a, xs, h1, h2, h3, h4⟩ := r.lst_of
    exact ⟨a, xs, h1, h2, h4⟩
  | lst h r => exact ⟨_, _, rfl, h, r⟩
theorem RepR.scr_of {ns : List Int} (r : RepR K fa w H x (.scr ns)) : ∃ a, x = .ref a ∧ SqL K H a (ns.map V.int) := by
  cases r with
  | of r => cases r with
    | scr h => exact ⟨_, rfl, h.sql⟩
theorem Reps.ints : ∀ {vs : List V} {ds : List D} {ns : List Int}, Reps K fa w H vs ds → D.ints ds = some ns → vs = ns.map V.int
  | _, _, _, .nil, e => by
    cases e
    rfl
  | _, _, ns, .cons (d := d) (ds := ds) r t, e => by
    cases r with
    | int i =>
      unfold D.ints at e
      cases q : D.ints ds with
      | none => rw [q] at e; cases e
      | some ms =>
        rw [q] at e
        cases e
        rw [Reps.ints t q]
        rfl
    | _ => exact nomatch e
theorem Reps.bls : ∀ {vs : List V} {ds : List D} {ns : List Bool}, Reps K fa w H vs ds → D.bls ds = some ns → vs = ns.map V.bl
  | _, _, _, .nil, e => by
    cases e
    rfl
  | _, _, ns, .cons (d := d) (ds := ds) r t, e => by
    cases r with
    | bl i =>
      unfold D.bls at e
      cases q : D.bls ds with
      | none => rw [q] at e; cases e
      | some ms =>
        rw [q] at e
        cases e
        rw [Reps.bls t q]
        rfl
    | _ => exact nomatch e
def mkS (s : List Nat) : Str := ⟨s.toArray⟩
theorem Reps.strs : ∀ {vs : List V} {ds : List D} {ns : List (List Nat)}, Reps K fa w H vs ds → D.strs ds = some ns → vs = (ns.map mkS).map V.str ∧ ∀ s ∈ ns, s.length ≤ sizeLine ∧ ∀ c ∈ s, c < 1114112
  | _, _, _, .nil, e => by
    cases e
    exact ⟨rfl, by simp⟩
  | _, _, ns, .cons (d := d) (ds := ds) r t, e => by
    cases r with
    | str h o =>
      unfold D.strs at e
      cases q : D.strs ds with
      | none => rw [q] at e; cases e
      | some ms =>
        rw [q] at e
        cases e
        obtain ⟨h1, h2⟩ := Reps.strs t q
        rw [h1]
        exact ⟨rfl, fun s hs => (List.mem_cons.mp hs).elim (fun z => z ▸ ⟨h, o⟩) (h2 s)⟩
    | _ => exact nomatch e
end
/-- what follows where the value is d: from any state that may have come about -/
def Aft (K : PySem.W.Frag) (fa : Fa) (w : Wd) (H : Hp) (S : Store) (d : D) (Q : VK) : Prop := ∀ v w' H', Ext w H w' H' → Rep K fa w' H' v d → SR K fa w' H' S → Q v H'
section
variable {K : PySem.W.Frag} {fa : Fa} {w w' : Wd} {H H' : Hp} {S : Store} {v : V} {d : D} {Q : VK}
theorem Aft.same (a : Aft K fa w H S d Q) (s : SR K fa w H S) (r : Rep K fa w H v d) : Q v H := a v w H (Ext.refl w H) r s
theorem SR.res_none (s : SR K fa w H S) {p : Addr} (hp : H p = none) : p ∉ w.res := fun h => by
  obtain ⟨ys, z⟩ := s.trk p h
  rw [hp] at z
  cases z
theorem Aft.newT {xs : List V} {ds : List D} (a : Aft K fa w H S (.tup ds) Q) (s : SR K fa w H S) (r : Reps K fa w H xs ds) {p : Addr} (hp : H p = none) : Q (.ref p) (L2.upd H p (.tup xs)) :=
  a _ w _ (Ext.upd w _ hp) (.tup (.of upd_same) (r.ext (Ext.upd w _ hp))) (s.upd _ hp)
theorem Aft.newL {xs : List V} {ds : List D} (a : Aft K fa w H S (.lst ds) Q) (s : SR K fa w H S) (r : Reps K fa w H xs ds) {p : Addr} (hp : H p = none) : Q (.ref p) (L2.upd H p (.lst xs)) :=
  a _ w _ (Ext.upd w _ hp) (.lst upd_same (s.res_none hp) (r.ext (Ext.upd w _ hp))) (s.upd _ hp)
end
theorem str_len (s : List Nat) : Str.length ⟨s.toArray⟩ = s.length := by
  show s.toArray.size = s.length
  rw [List.size_toArray]
theorem str_eta (x : Str) : (⟨x.cps.toList.toArray⟩ : Str) = x := by
  cases x
  rfl
theorem str_ext {x : Str} {l : List Nat} (h : tl x = l) : x = ⟨l.toArray⟩ := by
  subst h
  exact (str_eta x).symm
theorem str_app (a b : List Nat) : (⟨a.toArray⟩ ++ ⟨b.toArray⟩ : Str) = ⟨(a ++ b).toArray⟩ := str_ext (by rw [tl_append, tl_mk, tl_mk])
theorem mul_str_eq (s : List Nat) (n : Int) (h : 0 ≤ n) : Txt.mul ⟨s.toArray⟩ n = ⟨(List.replicate n.toNat s).flatten.toArray⟩ := by
  unfold Txt.mul
  by_cases h1 : n < 1
  · rw [if_pos h1]
    have e : n = 0 := by omega
    subst e
    rfl
  · rw [if_neg h1]
    have key : ∀ m : Nat, (List.replicate m s.toArray).foldl (· ++ ·) #[] = (List.replicate m s).flatten.toArray := fun m => by
      have g : ∀ (m : Nat) (acc : List Nat), (List.replicate m s.toArray).foldl (· ++ ·) acc.toArray = (acc ++ (List.replicate m s).flatten).toArray := by
        intro m
        induction m with
        | zero => intro acc; simp
        | succ m ih =>
          intro acc
          rw [List.replicate_succ, List.foldl_cons, List.append_toArray, ih, List.replicate_succ, List.flatten_cons, List.append_assoc]
      simpa using g m []
    split
    · rename_i h2
      rw [Bool.or_eq_true] at h2
      rcases h2 with h2 | h2
      · have e : n = 1 := by simpa using h2
        subst e
        simp
      · have e : s = [] := by
          have := str_len s
          rw [eq_of_beq h2] at this
          exact List.eq_nil_of_length_eq_zero this.symm
        subst e
        have : ∀ m : Nat, (List.replicate m ([] : List Nat)).flatten = [] := fun m => by
          induction m with
          | zero => rfl
          | succ m ih => rw [List.replicate_succ, List.flatten_cons, ih]; rfl
        rw [this]
    · rw [key]
theorem mem_rep {α : Type} {s : List α} {c : α} {n : Nat} (h : c ∈ (List.replicate n s).flatten) : c ∈ s := by
  obtain ⟨l, h1, h2⟩ := List.mem_flatten.mp h
  rw [List.eq_of_mem_replicate h1] at h2
  exact h2
theorem len_rep {α : Type} (s : List α) : ∀ n : Nat, (List.replicate n s).flatten.length = n * s.length
  | 0 => by simp
  | n + 1 => by rw [List.replicate_succ, List.flatten_cons, List.length_append, len_rep s n, Nat.succ_mul, Nat.add_comm]
/-! ### t * 1 -/
theorem tuple_mul1 (l : Addr) (items : Array Value) (n : Nat) (dd : Option Addr) (sl : Array (Option Value)) (u : Tok) :
    Meets (Builtin.«tuple.__mul__» ⟨[.ref l, .int 1 u], []⟩) (fun _ R s => s.heap.get? l = some { cls := .type "tuple", dict := dd, data := .seq items n, slots := sl } ∧
      R (.ok (.ret (Value.ref l))) { s with toks := s.toks }) :=
  .of_wp fun prog w A R s h => by
    obtain ⟨hp, g, d, tk, os⟩ := s
    obtain ⟨hl, h⟩ := h
    have f1 := AutoSeq1.idx_int
    have c0 : (decide ((1 : Int) < -(2 ^ 63)) || decide ((1 : Int) ≥ 2 ^ 63)) = false := by decide
    have c1 : (items.isEmpty || (1 : Int) == 1) = true := by simp
    wp_walk using wpAny_loadPart' hl
    repeat (first
      | (refine wpAny_ite_false (decide_eq_false (by rw [c0]; exact Bool.false_ne_true)) ?_; wp_walk using wpAny_loadPart' hl)
      | (refine wpAny_ite_true (decide_eq_true c1) ?_; wp_walk using wpAny_loadPart' hl))
    exact ⟨_, rfl, h⟩
def rMulT1 (K : PySem.W.Frag) : R2 := fun x y H Q => ∃ l xs, x = .ref l ∧ y = .int 1 ∧ SqT K H l xs ∧ Q (.ref l) H
theorem op_mulT1 {X : Cx} : OpR X (binaryOp .Mult) (rMulT1 X.K) := by
  intro pins s σ H x y v u Q I rx ry h
  obtain ⟨l, xs, rfl, rfl, hT, q⟩ := h
  cases rx
  obtain ⟨t, rfl⟩ := ry
  obtain ⟨its, r, ⟨⟨cls, dd, data, sl⟩, ho, hc, n, hd⟩, hs⟩ := I.tuple hT
  simp only at hc hd
  subst hc hd
  exact wpAny_binaryOp_repeat_ref (T := "tuple") (U := "int") (by decide) ⟨_, ho, rfl⟩ (fun s' => typeIs_int s' 1 t) noFill_tuple_mul F.fills_int_mul F.slot_int_rmul repeat_tuple F.slot_int_index.lookup
    (call_meets F.slot_int_rmul (typeIs_int s 1 t) F.entry_int_rmul (F.args_int_rmul_2 _ _) (int_rmul_tuple 1 t l its.toArray n dd sl)
      ⟨ho, rfl, ⟨_, ho, rfl⟩, call_meets F.slot_tuple_mul ⟨_, ho, rfl⟩ F.entry_tuple_mul (F.args_tuple_mul_2 _ _) (tuple_mul1 l its.toArray n dd sl t) ⟨ho, ⟨.ref l, H, I, rfl, q⟩⟩⟩)
/-! ### a op b -/
def rBin (K : PySem.W.Frag) (fa : Fa) (op : Bop) : R2 := fun x y H Q => ∃ w S d1 d2 d, SR K fa w H S ∧ RepR K fa w H x d1 ∧ RepR K fa w H y d2 ∧ bin op d1 d2 = some d ∧ Aft K fa w H S d Q
def opOf : Bop → Operator
  | .add => .Add
  | .sub => .Sub
  | .mul => .Mult
  | .fdiv => .FloorDiv
  | .mod => .Mod
  | .pow => .Pow
section
variable {X : Cx} {fa : Fa}
theorem mul_ok {i j : Int} (h : mulOk i j = true) : IntMulOk i j := by
  unfold mulOk at h
  rw [Bool.or_eq_true, Bool.or_eq_true] at h
  rcases h with (h | h) | h
  · rw [Bool.and_eq_true] at h
    exact (show CMul i j from .inl ⟨of_decide_eq_true h.1, of_decide_eq_true h.2⟩).ok
  · rw [Bool.and_eq_true] at h
    exact (show CMul i j from .inr ⟨of_decide_eq_true h.1, of_decide_eq_true h.2⟩).ok
  · rw [Bool.and_eq_true] at h
    have b : ∀ n : Nat, n < 2 ^ 4000 → n.log2 < 4001 := fun n hn => by
      by_cases z : n = 0
      · subst z; decide
      · exact Nat.lt_succ_of_lt ((Nat.log2_lt z).mpr hn)
    refine CMulW.ok (show CMulW i j from ?_)
    unfold CMulW
    have h1 := b _ (of_decide_eq_true h.1)
    have h2 := b _ (of_decide_eq_true h.2)
    omega
theorem op_bin (op : Bop) : OpR X (binaryOp (opOf op)) (rBin X.K fa op) := by
  intro pins s σ H x y v u Q I rx ry h
  obtain ⟨w, S, d1, d2, d, sr, r1, r2, e, a⟩ := h
  unfold bin at e
  split at e
  -- add ints
  · cases r1.int_of
    cases r2.int_of
    cases e
    exact op_add pins s σ H _ _ v u Q I rx ry ⟨_, _, rfl, rfl, a.same sr (.int _)⟩
  -- add strs
  · split at e
    · rename_i hz
      cases e
      obtain ⟨rfl, h1, o1⟩ := r1.str_of
      obtain ⟨rfl, h2, o2⟩ := r2.str_of
      refine op_add_str pins s σ H _ _ v u Q I rx ry ⟨_, _, rfl, rfl, by rw [str_len, str_len]; exact hz, ?_⟩
      rw [str_app]
      exact a.same sr (.str (by rw [List.length_append]; exact hz) fun c hc => (List.mem_append.mp hc).elim (o1 c) (o2 c))
    · cases e
  -- add lists
  · split at e
    · rename_i hz
      cases e
      obtain ⟨p, xs, rfl, h1, q1⟩ := r1.lst_of
      obtain ⟨p2, ys, rfl, h2, q2⟩ := r2.lst_of
      refine op_cat pins s σ H _ _ v u Q I rx ry ⟨_, _, xs, ys, rfl, rfl, h1, h2, by rw [q1.len, q2.len]; exact hz, fun p hp => ?_⟩
      exact a.newL sr (q1.append q2) hp
    · cases e
  -- add tuples
  · split at e
    · rename_i hz
      cases e
      obtain ⟨p, xs, rfl, h1, q1⟩ := r1.tup_of
      obtain ⟨p2, ys, rfl, h2, q2⟩ := r2.tup_of
      refine op_catA pins s σ H _ _ v u Q I rx ry ⟨_, _, xs, ys, rfl, rfl, h1, h2, by rw [q1.len, q2.len]; exact hz, fun z => ?_, fun _ z => ?_, fun _ _ p hp => ?_⟩
      · subst z
        cases q1
        exact a.same sr (.tup h2 q2)
      · subst z
        cases q2
        rw [List.append_nil] at a
        exact a.same sr (.tup h1 q1)
      · exact a.newT sr (q1.append q2) hp
    · cases e
  -- sub
  · cases r1.int_of
    cases r2.int_of
    cases e
    exact op_sub pins s σ H _ _ v u Q I rx ry ⟨_, _, rfl, rfl, a.same sr (.int _)⟩
  -- mul ints
  · split at e
    · rename_i hz
      cases e
      cases r1.int_of
      cases r2.int_of
      exact (opI (g := fun i j => i * j) (C := fun i j => mulOk i j = true) fun _ _ _ _ _ _ _ hc q => mul_int q (mul_ok hc)) pins s σ H _ _ v u Q I rx ry ⟨_, _, rfl, rfl, hz, a.same sr (.int _)⟩
    · cases e
  -- mul str int
  · split at e
    · rename_i hz
      cases e
      obtain ⟨rfl, h1, o1⟩ := r1.str_of
      cases r2.int_of
      obtain ⟨t, rfl⟩ := rx
      obtain ⟨t', rfl⟩ := ry
      rename_i s0 j
      obtain ⟨z0, z1, z2⟩ := hz
      have b : (List.replicate j.toNat s0).flatten.length ≤ 1000000 := by
        rw [len_rep]
        have : j.toNat * s0.length ≤ 1000 * 1000 := Nat.mul_le_mul (by omega) z2
        omega
      refine SB.mul ⟨?_, fun _ _ => ?_, fun _ _ => ?_⟩ fun t2 k => ?_
      · rw [decide_eq_false (by omega), decide_eq_false (by omega)]
        rfl
      · rw [str_len]
        intro z
        have b1 : ((s0.length : Nat) : Int) ≤ 1000 := by omega
        have b2 : (1000 : Int) ≤ (2 ^ 63 - 1) / j := by
          refine (Int.le_ediv_iff_mul_le (by omega)).mpr ?_
          omega
        omega
      · rw [str_len]
        have : s0.length * j.toNat ≤ 1000 * 1000 := Nat.mul_le_mul z2 (by omega)
        unfold Builtin.Str.tooLong
        rw [sizeLine_eq]
        exact decide_eq_false (by omega)
      · rw [mul_str_eq _ _ z0]
        refine ⟨.str _, H, I.tok k, ⟨t2, rfl⟩, a.same sr (.str ?_ fun c hc => o1 c (mem_rep hc))⟩
        rw [sizeLine_eq]
        omega
    · cases e
  -- mul list int
  · split at e
    · rename_i hz
      cases e
      obtain ⟨p, xs, rfl, h1, q1⟩ := r1.lst_of
      cases r2.int_of
      rename_i s0 j
      obtain ⟨z0, z1, z2⟩ := hz
      refine op_rep pins s σ H _ _ v u Q I rx ry ⟨_, _, xs, rfl, rfl, h1, by omega, by omega, ?_, fun p hp => ?_⟩
      · rw [q1.len, sizeLine_eq]
        have : s0.length * j.toNat ≤ 1000 * 1000 := Nat.mul_le_mul z2 (by omega)
        omega
      · exact a.newL sr (q1.rep _) hp
    · cases e
  -- mul tuple int
  · split at e
    · rename_i hz
      cases e
      obtain ⟨p, xs, rfl, h1, q1⟩ := r1.tup_of
      cases r2.int_of
      rename_i s0 j
      obtain ⟨z0, z1, z2, z3⟩ := hz
      have ne : xs ≠ [] := fun z => z2 (List.eq_nil_of_length_eq_zero (by rw [← q1.len, z]; rfl))
      by_cases j1 : j = 1
      · subst j1
        refine op_mulT1 pins s σ H _ _ v u Q I rx ry ⟨_, xs, rfl, rfl, h1, ?_⟩
        have e1 : (List.replicate (Int.toNat 1) s0).flatten = s0 := by simp
        rw [e1] at a
        exact a.same sr (.tup h1 q1)
      · exact op_repT pins s σ H _ _ v u Q I rx ry ⟨_, _, xs, rfl, rfl, h1, ne, by omega, z1, by rw [q1.len]; exact z3, fun p hp => a.newT sr (q1.rep _) hp⟩
    · cases e
  -- fdiv
  · split at e
    · rename_i hz
      cases e
      cases r1.int_of
      cases r2.int_of
      rename_i i j
      unfold divOk at hz
      rw [Bool.and_eq_true] at hz
      have h0 := of_decide_eq_true hz.1
      have h1 := of_decide_eq_true hz.2
      refine op_fdivW pins s σ H _ _ v u Q I rx ry ⟨_, _, rfl, rfl, ⟨h0, ?_⟩, a.same sr (.int _)⟩
      have := (Nat.log2_lt (n := j.natAbs) (k := 4000) (by omega)).mpr h1
      omega
    · cases e
  -- mod
  · split at e
    · rename_i hz
      cases e
      cases r1.int_of
      cases r2.int_of
      exact op_mod pins s σ H _ _ v u Q I rx ry ⟨_, _, rfl, rfl, hz, a.same sr (.int _)⟩
    · cases e
  -- pow
  · split at e
    · rename_i hz
      cases e
      cases r1.int_of
      cases r2.int_of
      exact op_pow pins s σ H _ _ v u Q I rx ry ⟨_, _, rfl, rfl, ⟨hz.1, by omega, hz.2.2⟩, a.same sr (.int _)⟩
    · cases e
  · cases e
end
end Rx
set_option Elab.async false
set_option linter.all false
set_option maxRecDepth 100000
/-! Rx4: comparisons, items, slices by data. -/
namespace Rx
open PySem PySem.Spec PyProof.Rows L2 TL
/-! ### == -/
mutual
def toP : D → PyData
  | .bl b => .bool b
  | .int i => .int i
  | .str s => .str ⟨s.toArray⟩
  | .tup xs => .tuple (toPs xs)
  | .lst xs => .list (toPs xs)
  | _ => .none
def toPs : List D → List PyData
  | [] => []
  | x :: xs => toP x :: toPs xs
end
theorem eqS (a b : List Nat) : ((⟨a.toArray⟩ : Str) == ⟨b.toArray⟩) = (a == b) := by
  by_cases h : a = b
  · subst h
    simp
  · rw [beq_eq_false_iff_ne.mpr h]
    refine beq_eq_false_iff_ne.mpr fun z => h ?_
    injection z with z
    simpa using congrArg Array.toList z
theorem strOk_of {s : List Nat} (h : ∀ c ∈ s, c < 1114112) : PyData.strOk ⟨s.toArray⟩ = true := by
  unfold PyData.strOk
  rw [List.all_toArray]
  exact List.all_eq_true.mpr fun c hc => decide_eq_true (h c hc)
theorem eqv_all {ds es : List D} (h : ∀ a ∈ ds, ∀ b, b ∈ es → PyData.eqv (toP a) (toP b) = a.eqv b) : PyData.eqvAll (toPs ds) (toPs es) = D.eqvs ds es := by
  induction ds generalizing es with
  | nil => cases es <;> simp [toPs, PyData.eqvAll, D.eqvs]
  | cons a as ih =>
    cases es with
    | nil => simp [toPs, PyData.eqvAll, D.eqvs]
    | cons b bs =>
      simp only [toPs, PyData.eqvAll, D.eqvs]
      rw [h a (by simp) b (by simp), ih fun x hx y hy => h x (List.mem_cons_of_mem _ hx) y (List.mem_cons_of_mem _ hy)]
theorem eqv_eq : ∀ (n : Nat) (a b : D), a.plain n = true → b.plain n = true → PyData.eqv (toP a) (toP b) = a.eqv b := by
  intro n
  induction n with
  | zero =>
    intro a b ha hb
    cases a <;> first | (exfalso; simp [D.plain] at ha; done) | (cases b <;> first | (exfalso; simp [D.plain] at hb; done) | (simp [toP, PyData.eqv, D.eqv, eqS]; done))
  | succ n ih =>
    intro a b ha hb
    have ht : ∀ xs ys : List D, xs.all (D.plain n) = true → ys.all (D.plain n) = true → PyData.eqvAll (toPs xs) (toPs ys) = D.eqvs xs ys := fun xs ys h1 h2 =>
      eqv_all fun x hx y hy => ih x y (List.all_eq_true.mp h1 x hx) (List.all_eq_true.mp h2 y hy)
    cases a <;> first | (exfalso; simp [D.plain] at ha; done) | (cases b <;> first | (exfalso; simp [D.plain] at hb; done) | (simp [toP, PyData.eqv, D.eqv, eqS]; done) | (simp only [toP, PyData.eqv, D.eqv]; simp only [D.plain] at ha hb; exact ht _ _ ha hb))
section
variable {K : PySem.W.Frag} {fa : Fa} {w : Wd} {H : Hp}
def DpOk (K : PySem.W.Frag) (H : Hp) (n : Nat) (x : V) (d : D) : Prop := Dp K H x (toP d) ∧ (toP d).canLay0 = true ∧ (toP d).depth ≤ n
theorem dp_all {n : Nat} (f : ∀ (x : V) (d : D), Rep K fa w H x d → d.plain n = true → DpOk K H n x d) : ∀ {xs : List V} {ds : List D}, Reps K fa w H xs ds → ds.all (D.plain n) = true →
    DpAll K H xs (toPs ds) ∧ PyData.canLayAll0 (toPs ds) = true ∧ PyData.depthAll (toPs ds) ≤ n
  | _, _, .nil, _ => ⟨by simp only [toPs]; exact .nil, by simp [toPs, PyData.canLayAll0], by simp [toPs, PyData.depthAll]⟩
  | _, _, .cons r t, h => by
    rw [List.all_cons, Bool.and_eq_true] at h
    obtain ⟨a1, a2, a3⟩ := f _ _ r h.1
    obtain ⟨b1, b2, b3⟩ := dp_all f t h.2
    exact ⟨by simp only [toPs]; exact .cons a1 b1, by simp [toPs, PyData.canLayAll0, a2, b2], by simp only [toPs, PyData.depthAll]; omega⟩
theorem dp_of : ∀ (n : Nat) (x : V) (d : D), Rep K fa w H x d → d.plain n = true → DpOk K H n x d := by
  intro n
  induction n with
  | zero =>
    intro x d r h
    cases r with
    | non => exact ⟨by simp only [toP]; exact .non, by simp [toP, PyData.canLay0], by simp [toP, PyData.depth]⟩
    | bl b => exact ⟨by simp only [toP]; exact .bl b, by simp [toP, PyData.canLay0], by simp [toP, PyData.depth]⟩
    | int i => exact ⟨by simp only [toP]; exact .int i, by simp [toP, PyData.canLay0], by simp [toP, PyData.depth]⟩
    | str h o => exact ⟨by simp only [toP]; exact .str _, by simp [toP, PyData.canLay0, strOk_of o], by simp [toP, PyData.depth]⟩
    | _ => simp [D.plain] at h
  | succ n ih =>
    intro x d r h
    cases r with
    | non => exact ⟨by simp only [toP]; exact .non, by simp [toP, PyData.canLay0], by simp [toP, PyData.depth]⟩
    | bl b => exact ⟨by simp only [toP]; exact .bl b, by simp [toP, PyData.canLay0], by simp [toP, PyData.depth]⟩
    | int i => exact ⟨by simp only [toP]; exact .int i, by simp [toP, PyData.canLay0], by simp [toP, PyData.depth]⟩
    | str h o => exact ⟨by simp only [toP]; exact .str _, by simp [toP, PyData.canLay0, strOk_of o], by simp [toP, PyData.depth]⟩
    | tup hq r =>
      simp only [D.plain] at h
      obtain ⟨a, b, c⟩ := dp_all ih r h
      exact ⟨by simp only [toP]; exact .tup hq a, by simp [toP, PyData.canLay0, b], by simp only [toP, PyData.depth]; omega⟩
    | lst hq _ r =>
      simp only [D.plain] at h
      obtain ⟨a, b, c⟩ := dp_all ih r h
      exact ⟨by simp only [toP]; exact .lst (.of hq) a, by simp [toP, PyData.canLay0, b], by simp only [toP, PyData.depth]; omega⟩
    | _ => simp [D.plain] at h
theorem dp_ofR {n : Nat} {x : V} {d : D} (r : RepR K fa w H x d) (h : d.plain n = true) : DpOk K H n x d := by
  cases r with
  | clo k vs => cases n <;> simp [D.plain] at h
  | of r => exact dp_of n x d r h
  | lst hq r =>
    cases n with
    | zero => simp [D.plain] at h
    | succ n =>
      simp only [D.plain] at h
      obtain ⟨a, b, c⟩ := dp_all (dp_of n) r h
      exact ⟨by simp only [toP]; exact .lst (.of hq) a, by simp [toP, PyData.canLay0, b], by simp only [toP, PyData.depth]; omega⟩
theorem DpOk.shaped {n : Nat} {x : V} {d : D} (h : DpOk K H n x d) (hn : n ≤ 64 := by decide) : SeqAt.shaped (toP d) = true := by
  unfold SeqAt.shaped
  rw [h.2.1, decide_eq_true (Nat.le_trans h.2.2 hn)]
  rfl
end
/-! ### comparisons -/
def rCmp (K : PySem.W.Frag) (fa : Fa) (op : Cop) : R2 := fun x y H Q => ∃ w S d1 d2 b, SR K fa w H S ∧ RepR K fa w H x d1 ∧ RepR K fa w H y d2 ∧ cmp op d1 d2 = some b ∧ Q (.bl b) H
def cpOf : Cop → CmpOp
  | .eq => .Eq
  | .ne => .NotEq
  | .lt => .Lt
  | .le => .LtE
  | .gt => .Gt
  | .ge => .GtE
  | .is_ => .Is
  | .isnt => .IsNot
  | .in_ => .In
  | .nin => .NotIn
theorem ltInts_lex : ∀ ns ms : List Int, ltInts ns ms = HT.lexLt ns ms := by
  intro ns
  induction ns with
  | nil => intro ms; cases ms <;> rfl
  | cons a as ih =>
    intro ms
    cases ms with
    | nil => rfl
    | cons b bs =>
      unfold ltInts HT.lexLt
      rw [ih]
theorem RepR.non_iff {K : PySem.W.Frag} {fa : Fa} {w : Wd} {H : Hp} {x : V} {d : D} (r : RepR K fa w H x d) : decide (x = .non) = isNon d := by
  cases r with
  | of r => cases r <;> rfl
  | lst _ _ => rfl
  | clo _ _ => rfl
section
variable {X : Cx} {fa : Fa}
theorem inList (neg : Bool) {n : Nat} (hu : X.A.units + 64 + 1 < cLine) {pins : List (Addr × Obj)} {s : Shared} {σ : L2.St} {H : Hp} {x y : V} {v u : Value} {Q : VK} {w : Wd} {d1 : D} {xs : List D} (I : Inv X pins σ H s) (rx : RelV x v) (ry : RelV y u)
    (r1 : RepR X.K fa w H x d1) (r2 : RepR X.K fa w H y (.lst xs)) (h1 : d1.plain 10 = true) (h2 : xs.all (D.plain 10) = true) (q : Q (.bl (if neg then !xs.any (fun z => z.eqv d1) else xs.any (fun z => z.eqv d1))) H) :
    wpAny (model X.prog X.w) X.A (compareOp (if neg then .NotIn else .In) v u) (EP X pins σ Q) X.xe s := by
  have a1 := dp_ofR r1 h1
  have a2 : DpOk X.K H 11 y (.lst xs) := dp_ofR r2 (by simp only [D.plain]; exact h2)
  have e1 : ∀ (zs : List D), zs.all (D.plain 10) = true → (toPs zs).any (fun z => PyData.eqv z (toP d1)) = zs.any fun z => z.eqv d1 := by
    intro zs
    induction zs with
    | nil => intro _; rfl
    | cons z zs ih =>
      intro h
      rw [List.all_cons, Bool.and_eq_true] at h
      simp only [toPs, List.any_cons]
      rw [ih h.2, eqv_eq 10 z d1 h.1 h1]
  have p2 := a2.1
  simp only [toP] at p2
  have s2 := a2.shaped
  simp only [toP] at s2
  cases neg with
  | true => exact op_notInD hu pins s σ H x y v u Q I rx ry ⟨_, _, a1.1, p2, a1.shaped, s2, by rw [e1 xs h2]; exact q⟩
  | false => exact op_inD hu pins s σ H x y v u Q I rx ry ⟨_, _, a1.1, p2, a1.shaped, s2, by rw [e1 xs h2]; exact q⟩
theorem flat_strs (xs : List Str) : (xs.map V.str).all flatV = true := by
  rw [List.all_map]
  exact List.all_eq_true.mpr fun _ _ => rfl
theorem inTup (neg : Bool) {pins : List (Addr × Obj)} {s : Shared} {σ : L2.St} {H : Hp} {x y : V} {v u : Value} {Q : VK} {w : Wd} {t : List Nat} {xs : List D} {ss : List (List Nat)} (I : Inv X pins σ H s) (rx : RelV x v) (ry : RelV y u)
    (r1 : RepR X.K fa w H x (.str t)) (r2 : RepR X.K fa w H y (.tup xs)) (h : D.strs xs = some ss) (q : Q (.bl (if neg then !ss.any (fun z => z == t) else ss.any (fun z => z == t))) H) :
    wpAny (model X.prog X.w) X.A (compareOp (if neg then .NotIn else .In) v u) (EP X pins σ Q) X.xe s := by
  obtain ⟨rfl, _, _⟩ := r1.str_of
  obtain ⟨a, vs, rfl, h1, h2⟩ := r2.tup_of
  obtain ⟨rfl, _⟩ := h2.strs h
  have e : inV (.str ⟨t.toArray⟩) ((ss.map mkS).map V.str) = ss.any fun z => z == t := by
    unfold inV
    rw [List.any_map, List.any_map]
    congr 1
    funext z
    show ((⟨z.toArray⟩ : Str) == ⟨t.toArray⟩) = _
    exact eqS z t
  cases neg with
  | true => exact op_notIn_seq pins s σ H _ _ v u Q I rx ry ⟨a, _, rfl, .inr h1, rfl, flat_strs _, by rw [e]; exact q⟩
  | false => exact op_in_seq pins s σ H _ _ v u Q I rx ry ⟨a, _, rfl, .inr h1, rfl, flat_strs _, by rw [e]; exact q⟩
theorem op_cmp (hu : X.A.units + 66 < cLine) (op : Cop) : OpR X (compareOp (cpOf op)) (rCmp X.K fa op) := by
  intro pins s σ H x y v u Q I rx ry h
  obtain ⟨w, S, d1, d2, b, sr, r1, r2, e, q⟩ := h
  cases op with
  | eq =>
    unfold cmp at e
    simp only at e
    split at e
    · rename_i hp
      cases e
      rw [Bool.and_eq_true] at hp
      have a1 := dp_ofR r1 hp.1
      have a2 := dp_ofR r2 hp.2
      exact op_eqD (by omega) pins s σ H x y v u Q I rx ry ⟨_, _, a1.1, a2.1, a1.shaped, a2.shaped, by rw [eqv_eq 12 _ _ hp.1 hp.2]; exact q⟩
    · cases e
  | ne =>
    unfold cmp at e
    simp only at e
    split at e
    · rename_i hp
      cases e
      rw [Bool.and_eq_true] at hp
      have a1 := dp_ofR r1 hp.1
      have a2 := dp_ofR r2 hp.2
      exact op_neD (by omega) pins s σ H x y v u Q I rx ry ⟨_, _, a1.1, a2.1, a1.shaped, a2.shaped, by rw [eqv_eq 12 _ _ hp.1 hp.2]; exact q⟩
    · cases e
  | lt =>
    unfold cmp at e
    simp only at e
    split at e
    · cases e
      cases r1.int_of
      cases r2.int_of
      exact op_lt pins s σ H _ _ v u Q I rx ry ⟨_, _, rfl, rfl, q⟩
    · split at e
      · rename_i h1 h2
        cases e
        obtain ⟨a, vs, rfl, g1, g2⟩ := r1.tup_of
        obtain ⟨a', vs', rfl, g1', g2'⟩ := r2.tup_of
        cases g2.ints h1
        cases g2'.ints h2
        exact op_ltT (by omega) pins s σ H _ _ v u Q I rx ry ⟨_, _, _, _, rfl, rfl, g1, g1', by rw [← ltInts_lex]; exact q⟩
      · cases e
    · cases e
  | le =>
    unfold cmp at e
    simp only at e
    split at e
    · cases e
      cases r1.int_of
      cases r2.int_of
      exact op_le pins s σ H _ _ v u Q I rx ry ⟨_, _, rfl, rfl, q⟩
    · cases e
  | gt =>
    unfold cmp at e
    simp only at e
    split at e
    · cases e
      cases r1.int_of
      cases r2.int_of
      exact op_gt pins s σ H _ _ v u Q I rx ry ⟨_, _, rfl, rfl, q⟩
    · cases e
  | ge =>
    unfold cmp at e
    simp only at e
    split at e
    · cases e
      cases r1.int_of
      cases r2.int_of
      exact op_ge pins s σ H _ _ v u Q I rx ry ⟨_, _, rfl, rfl, q⟩
    · cases e
  | is_ =>
    unfold cmp at e
    simp only at e
    split at e
    · cases e
      cases r2.non_of
      exact op_isN pins s σ H _ _ v u Q I rx ry ⟨rfl, by rw [r1.non_iff]; exact q⟩
    · split at e
      · cases e
        cases r1.bl_of
        cases r2.bl_of
        exact op_isBl pins s σ H _ _ v u Q I rx ry ⟨_, _, rfl, rfl, q⟩
      · cases e
    · cases e
  | isnt =>
    unfold cmp at e
    simp only at e
    split at e
    · cases e
      cases r2.non_of
      exact op_notN pins s σ H _ _ v u Q I rx ry ⟨rfl, by rw [r1.non_iff]; exact q⟩
    · split at e
      · cases e
        cases r1.bl_of
        cases r2.bl_of
        exact op_notBl pins s σ H _ _ v u Q I rx ry ⟨_, _, rfl, rfl, q⟩
      · cases e
    · cases e
  | in_ =>
    unfold cmp at e
    simp only at e
    split at e
    · cases e
      obtain ⟨rfl, _, _⟩ := r1.str_of
      obtain ⟨rfl, _, _⟩ := r2.str_of
      exact op_in_sign pins s σ H _ _ v u Q I rx ry ⟨_, _, rfl, rfl, q⟩
    · split at e
      · rename_i hp
        cases e
        rw [Bool.and_eq_true] at hp
        exact inList false (n := 0) (by omega) I rx ry r1 r2 hp.1 hp.2 q
      · cases e
    · split at e
      · cases e
        exact inTup false I rx ry r1 r2 ‹_› q
      · cases e
    · cases e
  | nin =>
    unfold cmp at e
    simp only at e
    split at e
    · cases e
      obtain ⟨rfl, _, _⟩ := r1.str_of
      obtain ⟨rfl, _, _⟩ := r2.str_of
      exact op_notIn_sign pins s σ H _ _ v u Q I rx ry ⟨_, _, rfl, rfl, q⟩
    · split at e
      · rename_i hp
        cases e
        rw [Bool.and_eq_true] at hp
        exact inList true (n := 0) (by omega) I rx ry r1 r2 hp.1 hp.2 q
      · cases e
    · split at e
      · cases e
        exact inTup true I rx ry r1 r2 ‹_› q
      · cases e
    · cases e
/-! ### items -/
def rIdx (K : PySem.W.Frag) (fa : Fa) : R2 := fun x y H Q => ∃ w S d1 d2 d, SR K fa w H S ∧ RepR K fa w H x d1 ∧ RepR K fa w H y d2 ∧ idx d1 d2 = some d ∧ Aft K fa w H S d Q
theorem at_reps {K : PySem.W.Frag} {w : Wd} {H : Hp} {xs : List V} {ds : List D} {i : Int} {d : D} (r : Reps K fa w H xs ds) (h : at_ ds i = some d) : ∃ v, atI xs i = some v ∧ Rep K fa w H v d := by
  unfold at_ at h
  unfold atI
  rw [r.len]
  cases q : ix ds.length i with
  | none => rw [q] at h; cases h
  | some j =>
    rw [q] at h
    obtain ⟨v, h1, h2⟩ := r.get (i := j) (d := d) h
    exact ⟨v, by rw [show ixN ds.length i = some j from q]; exact h1, h2⟩
theorem ix_idx : IxR X (rIdx X.K fa) := by
  intro value slice pins s σ H x y v u Q I rx ry h hs
  obtain ⟨w, S, d1, d2, d, sr, r1, r2, e, a⟩ := h
  unfold idx at e
  split at e
  · obtain ⟨p, xs, rfl, g1, g2⟩ := r1.tup_of
    cases r2.int_of
    obtain ⟨z, h1, h2⟩ := at_reps g2 e
    exact ix_tup value slice pins s σ H _ _ v u Q I rx ry ⟨_, _, _, z, rfl, rfl, g1, h1, a.same sr h2⟩ hs
  · obtain ⟨p, xs, rfl, g1, g2⟩ := r1.lst_of
    cases r2.int_of
    obtain ⟨z, h1, h2⟩ := at_reps g2 e
    exact ix_list value slice pins s σ H _ _ v u Q I rx ry ⟨_, _, _, z, rfl, rfl, .of g1, h1, a.same sr h2⟩ hs
  · obtain ⟨rfl, l1, o1⟩ := r1.str_of
    cases r2.int_of
    rename_i t i
    cases q : at_ t i with
    | none => rw [q] at e; cases e
    | some c =>
      rw [q] at e
      cases e
      have mem : c ∈ t := by
        unfold at_ at q
        cases q2 : ix t.length i with
        | none => rw [q2] at q; cases q
        | some j =>
          rw [q2] at q
          exact List.mem_of_getElem? q
      exact ix_str value slice pins s σ H _ _ v u Q I rx ry ⟨_, _, c, rfl, rfl, by rw [str_len]; exact l1, q, a.same sr (.str (s := [c]) (by rw [sizeLine_eq]; simp) (by simpa using o1 c mem))⟩ hs
  · obtain ⟨p, rfl, g1⟩ := r1.scr_of
    cases r2.int_of
    rename_i ns i
    cases q : at_ ns i with
    | none => rw [q] at e; cases e
    | some c =>
      rw [q] at e
      cases e
      have h1 : atI (ns.map V.int) i = some (.int c) := by
        unfold at_ at q
        unfold atI
        rw [List.length_map]
        cases q2 : ix ns.length i with
        | none => rw [q2] at q; cases q
        | some j =>
          rw [q2] at q
          have q' : ns[j]? = some c := q
          rw [show ixN ns.length i = some j from q2]
          show (ns.map V.int)[j]? = _
          rw [List.getElem?_map, q']
          rfl
      exact ix_list value slice pins s σ H _ _ v u Q I rx ry ⟨_, _, _, _, rfl, rfl, g1, h1, a.same sr (.int c)⟩ hs
  · cases e
/-! ### slices -/
def rSlc (K : PySem.W.Frag) (fa : Fa) : V → Option Int → Option Int → Hp → VK → Prop := fun x lo hi H Q => ∃ w S d1 d, SR K fa w H S ∧ RepR K fa w H x d1 ∧ slc d1 lo hi = some d ∧ Aft K fa w H S d Q
theorem cut_mem {α : Type} {xs : List α} {lo hi : Option Int} {c : α} (h : c ∈ cut xs lo hi) : c ∈ xs := List.mem_of_mem_drop (List.mem_of_mem_take h)
theorem cut_len {α : Type} (xs : List α) (lo hi : Option Int) : (cut xs lo hi).length ≤ xs.length := by
  unfold cut
  rw [List.length_take, List.length_drop]
  omega
theorem cut_reps {K : PySem.W.Frag} {w : Wd} {H : Hp} {xs : List V} {ds : List D} (r : Reps K fa w H xs ds) (lo hi : Option Int) : Reps K fa w H (cutV xs lo hi) (cut ds lo hi) := by
  have e : cutV xs lo hi = cut xs lo hi := rfl
  rw [e]
  unfold cut
  rw [r.len]
  exact (r.drop _).take _
theorem sl_slc : SlR X (rSlc X.K fa) := by
  intro pins s σ H x v vl vu lo hi sl Q I rx hs pl pu h
  obtain ⟨w, S, d1, d, sr, r1, e, a⟩ := h
  unfold slc at e
  split at e
  · cases e
    obtain ⟨p, xs, rfl, g1, g2⟩ := r1.tup_of
    refine sl_tupA pins s σ H _ v vl vu lo hi sl Q I rx hs pl pu ⟨p, xs, rfl, g1, fun z => ?_, fun _ q hq => a.newT sr (cut_reps g2 lo hi) hq⟩
    have e1 : cutV xs lo hi = xs := by
      unfold cutV
      rw [z.1, z.2]
      simp
    have r3 := cut_reps g2 lo hi
    rw [e1] at r3
    exact a.same sr (.tup g1 r3)
  · cases e
    obtain ⟨p, xs, rfl, g1, g2⟩ := r1.lst_of
    exact sl_list pins s σ H _ v vl vu lo hi sl Q I rx hs pl pu ⟨p, xs, rfl, .of g1, fun q hq => a.newL sr (cut_reps g2 lo hi) hq⟩
  · cases e
    obtain ⟨rfl, l1, o1⟩ := r1.str_of
    rename_i t
    refine sl_str pins s σ H _ v vl vu lo hi sl Q I rx hs pl pu ⟨_, rfl, by rw [str_len]; exact l1, ?_⟩
    have e1 : cutS ⟨t.toArray⟩ lo hi = ⟨(cut t lo hi).toArray⟩ := by
      unfold cutS
      rw [str_len]
      rfl
    rw [e1]
    exact a.same sr (.str (Nat.le_trans (cut_len t lo hi) l1) fun c hc => o1 c (cut_mem hc))
  · cases e
end
end Rx
set_option Elab.async false
set_option linter.all false
set_option maxRecDepth 100000
/-! Rx5: a text or list turned round, built-in functions, methods by data. -/
namespace HT
open PySem PySem.Spec PyProof.Rows L2
section
variable {prog : Program} {w : World} {A : Around} {E : Value → Shared → Prop} {s : Shared}
theorem sliceApplied_rev {sl : Addr} {t : Tok} {n : Nat} {Q : Int × Int × Nat → Shared → Prop} (hs : s.heap.IsSliceOf sl .none .none (.int (-1) t))
    (h : Q ((n : Int) - 1, -1, n) s) : wpAny (model prog w) A (Builtin.Slice.sliceApplied (.ref sl) (pure (n : Int))) Q E s := by
  obtain ⟨os, hos, hcs, hds⟩ := id hs
  unfold Builtin.Slice.sliceApplied Builtin.Slice.sliceFields
  refine wpAny_bind (wpAny_bind (wpAny_field hos hds (x := .none) rfl (wpAny_bind (wpAny_field hos hds (x := .none) rfl (wpAny_bind (wpAny_field hos hds (x := .int (-1) t) rfl (wpAny_pure ?_)))))))
  refine wpAny_bind (slicePart_int ?_)
  show wpAny _ _ (if ((-1 : Int) == 0) = true then _ else _) _ _ s
  rw [if_neg (by decide)]
  refine wpAny_bind (slicePart_none (wpAny_bind (slicePart_none (wpAny_bind (wpAny_pure ?_)))))
  have e1 : Builtin.Slice.sliceAdjust none none (-1) (n : Int) = ((n : Int) - 1, -1) := rfl
  have e2 : Builtin.Slice.slicePlaces ((n : Int) - 1) (-1) (-1) = n := by
    unfold Builtin.Slice.slicePlaces
    have h1 : ¬ ((-1 : Int) > 0) := by omega
    simp only [h1, if_false]
    have h2 : (- (-1) : Int) = 1 := by omega
    rw [h2, Int.ediv_one]
    split <;> omega
  show wpAny _ _ (match Builtin.Slice.sliceAdjust none none (-1) (n : Int) with | (lo, hi) => pure (lo, (-1 : Int), Builtin.Slice.slicePlaces lo hi (-1))) _ _ s
  rw [e1]
  show wpAny _ _ (pure ((n : Int) - 1, (-1 : Int), Builtin.Slice.slicePlaces ((n : Int) - 1) (-1) (-1))) _ _ s
  rw [e2]
  exact wpAny_pure h
theorem fm_congr {α β : Type} {f g : α → Option β} : ∀ {l : List α}, (∀ x ∈ l, f x = g x) → l.filterMap f = l.filterMap g
  | [], _ => rfl
  | a :: l, h => by
    rw [List.filterMap_cons, List.filterMap_cons, h a (by simp), fm_congr fun x hx => h x (List.mem_cons_of_mem _ hx)]
theorem pick_rev (xs : Array Value) : ((List.range xs.size).filterMap fun (m : Nat) => xs[(((xs.size : Int) - 1) + (m : Int) * (-1)).toNat]?).toArray = xs.toList.reverse.toArray := by
  have e : (List.range xs.size).filterMap (fun (m : Nat) => xs[(((xs.size : Int) - 1) + (m : Int) * (-1)).toNat]?) = ((List.range xs.size).map fun k => xs.size - 1 - k).filterMap fun j => xs[j]? := by
    rw [List.filterMap_map]
    apply fm_congr
    intro m hm
    have := List.mem_range.mp hm
    have q : (((xs.size : Int) - 1) + (m : Int) * (-1)).toNat = xs.size - 1 - m := by omega
    show xs[(((xs.size : Int) - 1) + (m : Int) * (-1)).toNat]? = xs[xs.size - 1 - m]?
    rw [q]
  rw [e, PySem.W.krv_range, List.filterMap_reverse, PySem.W.krv_all]
theorem getItem_tuple_rev {t sl : Addr} {items : Array Value} {tk : Tok} {Q : Value → Shared → Prop} (ht : IsTup s.heap t items) (hs : s.heap.IsSliceOf sl .none .none (.int (-1) tk))
    (h : Q (.ref s.heap.objs.size) { s with heap := s.heap.push { cls := .type "tuple", data := .seq items.toList.reverse.toArray } })
    (hsz : items.size ≤ sizeLine) : wpAny (model prog w) A (getItem (.ref t) (.ref sl)) Q E s := by
  have htake : sizeOk (.seq items.toList.reverse.toArray) := by
    show items.toList.reverse.toArray.size ≤ sizeLine
    rw [List.size_toArray, List.length_reverse, Array.length_toList]
    exact hsz
  obtain ⟨os, hos, hcs, hds⟩ := id hs
  have hTs : s.TypeIs (.ref sl) "slice" := ⟨os, hos, hcs⟩
  unfold getItem
  try with_reducible refine wpAny_holding ?_
  first | refine wpAny_bind (wpAny_pure ?_) | skip
  refine wpAny_bind (wpAny_sequenceKey ht.typeIs (by decide) ?_)
  refine wpAny_bind (wpAny_callSpecial?_slot (name := Str.ofString "__getitem__") ht.typeIs PyProof.Rows.slot_tuple_getitem
    (wpAny_call_entry PyProof.Rows.slot_tuple_getitem ht.typeIs entry_tuple_getitem ?_ (args_tuple_getitem _ _)))
  show wpAny _ _ (Builtin.Tuple.tupleItemsOf (.ref t) >>= _) _ _ s
  refine wpAny_bind (tupleItemsOf_ ht ?_)
  refine wpAny_bind (wpAny_typeOf hTs ?_)
  rw [if_pos (by decide)]
  refine wpAny_bind (sliceApplied_rev hs ?_)
  have hno : ¬ ((((items.size : Int) - 1) == 0 && (-1 : Int) == 1 && items.size == items.size) = true) := by
    intro q
    rw [Bool.and_eq_true, Bool.and_eq_true] at q
    exact absurd q.1.2 (by decide)
  show wpAny _ _ (if ((((items.size : Int) - 1) == 0 && (-1 : Int) == 1 && items.size == items.size)) = true then _ else _) _ _ s
  rw [if_neg hno, pick_rev]
  first
    | exact wpAny_bind (m := Builtin.Tuple.tupleExact _) (wpAny_newObj_type (wpAny_pure ⟨_, rfl, wpAny_pure h⟩) htake)
    | exact wpAny_bind (m := Builtin.Tuple.tupleExact _) (wpAny_newObj_type (wpAny_bind (wpAny_pure (wpAny_pure ⟨_, rfl, wpAny_pure h⟩))) htake)
    | exact wpAny_bind (wpAny_bind (m := Builtin.Tuple.tupleExact _) (wpAny_newObj_type (wpAny_pure (wpAny_pure ⟨_, rfl, wpAny_pure h⟩)) htake))
    | exact wpAny_bind (wpAny_bind (m := Builtin.Tuple.tupleExact _) (wpAny_newObj_type (wpAny_pure ⟨_, rfl, wpAny_pure h⟩) htake))
end
end HT
namespace Rx
open PySem PySem.Spec PyProof.Rows L2 TL
/-! ### e[::-1] -/
theorem list_of_getD {l : List Nat} {x : List Nat} (h : l = (List.range x.length).map fun k => x.toArray.getD (x.length - 1 - k) 0) : l = x.reverse := by
  subst h
  apply List.ext_getElem
  · simp
  · intro i h1 h2
    simp at h1
    rw [List.getElem_map, List.getElem_range, List.getElem_reverse]
    have : x.length - 1 - i < x.length := by omega
    simp [Array.getD, this]
def tRev (K : PySem.W.Frag) (fa : Fa) (te : TE) : TE := fun σ H Q => te σ H fun x H1 => ∃ w S d1 d, SR K fa w H1 S ∧ RepR K fa w H1 x d1 ∧ rev d1 = some d ∧ Aft K fa w H1 S d Q
section
variable {X : Cx} {fa : Fa}
theorem pe_rev {e : Expr} {te : TE} {k : Nat} {p1 p2 p3 pos : Pos} (he : PE X e te) : PE X (.Subscript e (.Slice none none (some (.UnaryOp .USub (.Constant (.int 1) k p1) p2)) p3) pos) (tRev X.K fa te) := by
  refine ⟨fun pins s σ H Q I h => ?_⟩
  refine Subscript_ (thn (he.run pins s σ H _ I h) fun v s1 ⟨x, H1, I1, r1, q1⟩ => ?_)
  obtain ⟨w, S, d1, d, sr, rr, e1, af⟩ := q1
  have hst : PO X (some (.UnaryOp .USub (.Constant (.int 1) k p1) p2)) (tPart (tUn (rU fun i => .int (-i)) (tC (.int 1)))) := po_some (pe_un un_neg pe_int)
  refine wpAny_Slice (thn (po_none.run pins s1 σ H1 (fun o H2 => o = none ∧ H2 = H1) I1 ⟨rfl, rfl⟩) fun vl s2 ⟨l, H2, I2, pl, el, e2⟩ => ?_)
  subst el e2
  refine thn (po_none.run pins s2 σ H2 (fun o H3 => o = none ∧ H3 = H2) I2 ⟨rfl, rfl⟩) fun vu s3 ⟨u, H3, I3, pu, eu, e3⟩ => ?_
  subst eu e3
  refine thn (hst.run pins s3 σ H3 (fun o H4 => o = some (-1) ∧ H4 = H3) I3 ⟨1, rfl, -1, rfl, rfl, rfl⟩) fun vs s4 ⟨o, H4, I4, ps, eo, e4⟩ => ?_
  subst eo e4
  have I5 : Inv X pins σ H4 { s4 with heap := s4.heap.push { cls := .type "slice", data := .fields #[vl, vu, vs] } } := I4.kept (t' := s4.toks) fun b ob q => Heap.get?_push_of_some _ q
  have hsl := Heap.IsSliceOf.new s4.heap vl vu vs
  show wpAny (model X.prog X.w) X.A (subscriptTail e (.Slice none none (some (.UnaryOp .USub (.Constant (.int 1) k p1) p2)) p3) v (.ref s4.heap.objs.size)) (EP X pins σ Q) X.xe { s4 with heap := s4.heap.push { cls := .type "slice", data := .fields #[vl, vu, vs] } }
  unfold rev at e1
  split at e1
  · cases e1
    obtain ⟨a, xs, rfl, hx, g2⟩ := rr.tup_of
    cases r1
    obtain ⟨its, r, ht, hz⟩ := I5.tuple hx
    have hlen := r.length
    refine tail_any (ops := [.ref a, .ref s4.heap.objs.size]) ht.typeIs PyProof.Rows.slot_tuple_getitem.lookup ?_ (by with_unfolding_all rfl)
    cases pl
    cases pu
    cases ps
    refine HT.getItem_tuple_rev ht hsl ?_ (by rw [List.size_toArray]; omega)
    refine ⟨.ref _, _, I5.laid (t' := s4.toks) (o := .tup xs.reverse) (fun b ob q => Heap.get?_push_of_some _ q) (Nat.le_refl _) ?_, rfl, af.newT sr g2.reverse (I5.hok.fresh (Nat.le_refl _))⟩
    exact ⟨by rw [List.length_reverse]; exact hz, _, r.reverse, IsTup.new _ _⟩
  · cases e1
    obtain ⟨a, xs, rfl, hx, g2⟩ := rr.lst_of
    cases r1
    obtain ⟨its, r, ht, hz⟩ := I5.list (.of hx)
    have hlen := r.length
    refine tail_any (ops := [.ref a, .ref s4.heap.objs.size]) ht.isList.typeIs (PySem.slot_list_getitem.lookup) ?_ (by with_unfolding_all rfl)
    refine wpAny_getItem_list_slice ht.isList hsl pl pu ps (by decide) ?_ (by rw [List.size_toArray]; omega)
    rw [PySem.W.krv_pick]
    refine ⟨.ref _, _, I5.laid (t' := s4.toks) (o := .lst xs.reverse) (fun b ob q => Heap.get?_push_of_some _ q) (Nat.le_refl _) ?_, rfl, af.newL sr g2.reverse (I5.hok.fresh (Nat.le_refl _))⟩
    exact ⟨by rw [List.length_reverse]; exact hz, _, 0, r.reverse, Heap.get?_push_size _ rfl⟩
  · cases e1
    obtain ⟨rfl, l1, o1⟩ := rr.str_of
    rename_i x
    obtain ⟨t, rfl⟩ := r1
    refine tail_any (ops := [.str ⟨x.toArray⟩ t, .ref s4.heap.objs.size]) (typeIs_str _ _ _) F.slot_str_getitem.lookup ?_ (by with_unfolding_all rfl)
    cases pl
    cases pu
    obtain ⟨tk, rfl⟩ : ∃ tk, vs = .int (-1) tk := by
      cases ps with
      | int i tk => exact ⟨tk, rfl⟩
    obtain ⟨os, hos, hcs, hds⟩ := hsl
    refine wpAny_getItem_str_slice (l := none) (u := none) (st := some (-1, tk)) ⟨os, hos, hcs, hds⟩ rfl ?_
    have key : Txt.sliceBy ⟨x.toArray⟩ none none (-1, tk) = ⟨x.reverse.toArray⟩ := by
      refine str_ext ?_
      have := step_rev_list ⟨x.toArray⟩ tk
      rw [str_len] at this
      exact list_of_getD this
    have hno : ¬ (((((some ((-1 : Int), tk)).map (·.1)).getD 1 == 1) && (slicePicked ⟨x.toArray⟩ none none (some (-1, tk))).length == Str.length ⟨x.toArray⟩) = true) := by
      intro q
      rw [Bool.and_eq_true] at q
      exact absurd (show ((-1 : Int) == 1) = true from q.1) (by decide)
    unfold sliceMade
    rw [if_neg hno]
    unfold Txt.sliceBy at key
    rw [if_neg hno] at key
    rw [key]
    refine ⟨by rw [str_len, List.length_reverse]; exact l1, .str _, _, I5.tok _, ⟨_, rfl⟩, af.same sr (.str (by rw [List.length_reverse]; exact l1) fun c hc => o1 c (List.mem_reverse.mp hc))⟩
  · cases e1
end
/-! ### built-in functions -/
inductive RepsR (K : PySem.W.Frag) (fa : Fa) (w : Wd) (H : Hp) : List V → List D → Prop where
  | nil : RepsR K fa w H [] []
  | cons {x : V} {xs : List V} {d : D} {ds : List D} (r : RepR K fa w H x d) (t : RepsR K fa w H xs ds) : RepsR K fa w H (x :: xs) (d :: ds)
theorem RepsR.one {K : PySem.W.Frag} {fa : Fa} {w : Wd} {H : Hp} {vs : List V} {d : D} (r : RepsR K fa w H vs [d]) : ∃ x, vs = [x] ∧ RepR K fa w H x d := by
  cases r with
  | cons r t =>
    cases t
    exact ⟨_, rfl, r⟩
theorem RepsR.two {K : PySem.W.Frag} {fa : Fa} {w : Wd} {H : Hp} {vs : List V} {d e : D} (r : RepsR K fa w H vs [d, e]) : ∃ x y, vs = [x, y] ∧ RepR K fa w H x d ∧ RepR K fa w H y e := by
  cases r with
  | cons r t =>
    obtain ⟨y, rfl, q⟩ := t.one
    exact ⟨_, _, rfl, r, q⟩
theorem minI_spec : ∀ (r : List Int) (m : Int), minI m r ∈ m :: r ∧ ∀ y ∈ m :: r, minI m r ≤ y
  | [], m => ⟨by simp [minI], by simp [minI]⟩
  | x :: r, m => by
    obtain ⟨h1, h2⟩ := minI_spec r (if x < m then x else m)
    unfold minI
    by_cases c : x < m
    · rw [if_pos c] at h1 h2 ⊢
      refine ⟨by simp at h1 ⊢; rcases h1 with h1 | h1 <;> simp [h1], fun y hy => ?_⟩
      simp at hy h2
      rcases hy with rfl | rfl | hy
      · have := h2.1; omega
      · exact h2.1
      · exact h2.2 y hy
    · rw [if_neg c] at h1 h2 ⊢
      refine ⟨by simp at h1 ⊢; rcases h1 with h1 | h1 <;> simp [h1], fun y hy => ?_⟩
      simp at hy h2
      rcases hy with rfl | rfl | hy
      · exact h2.1
      · have := h2.1; omega
      · exact h2.2 y hy
theorem maxI_spec : ∀ (r : List Int) (m : Int), maxI m r ∈ m :: r ∧ ∀ y ∈ m :: r, y ≤ maxI m r
  | [], m => ⟨by simp [maxI], by simp [maxI]⟩
  | x :: r, m => by
    obtain ⟨h1, h2⟩ := maxI_spec r (if x > m then x else m)
    unfold maxI
    by_cases c : x > m
    · rw [if_pos c] at h1 h2 ⊢
      refine ⟨by simp at h1 ⊢; rcases h1 with h1 | h1 <;> simp [h1], fun y hy => ?_⟩
      simp at hy h2
      rcases hy with rfl | rfl | hy
      · have := h2.1; omega
      · exact h2.1
      · exact h2.2 y hy
    · rw [if_neg c] at h1 h2 ⊢
      refine ⟨by simp at h1 ⊢; rcases h1 with h1 | h1 <;> simp [h1], fun y hy => ?_⟩
      simp at hy h2
      rcases hy with rfl | rfl | hy
      · exact h2.1
      · have := h2.1; omega
      · exact h2.2 y hy
def rBi (K : PySem.W.Frag) (fa : Fa) (b : Bi) : List V → Hp → VK → Prop := fun vs H Q => ∃ w S ds d, SR K fa w H S ∧ RepsR K fa w H vs ds ∧ biV b ds = some d ∧ Aft K fa w H S d Q
def tyOfB : Bi → String
  | .isInt => "int"
  | .isBool => "bool"
  | .isStr => "str"
  | _ => "tuple"
def isB : Bi → Bool
  | .isInt => true
  | .isBool => true
  | .isStr => true
  | .isTuple => true
  | _ => false
/-- isinstance(x, T) -/
def rIs (K : PySem.W.Frag) (fa : Fa) (b : Bi) : List V → Hp → VK → Prop := fun vs H Q => ∃ w S x d r, vs = [x, .ty (tyOfB b)] ∧ SR K fa w H S ∧ RepR K fa w H x d ∧ isIn b d = some r ∧ Q (.bl r) H
section
variable {X : Cx} {fa : Fa}
theorem call_is {b : Bi} (hb : isB b = true) : CallR X (.builtin "isinstance") (rIs X.K fa b) := by
  intro pins s σ H xs us Q I r h
  obtain ⟨w, S, x, d, k, rfl, sr, rr, e, q⟩ := h
  have go : ∀ {t : String}, TyX X.K H x (.type t) → kitB t (tyOfB b) = some k → wpAny (model X.prog X.w) X.A (call (.builtin "isinstance") us) (EP X pins σ Q) X.xe s := fun {t} h1 h2 =>
    call_isi pins s σ H _ us Q I r ⟨x, _, .type t, .type (tyOfB b), k, rfl, .ty _, h1, kit_ty h2, q⟩
  unfold isIn at e
  split at e
  · cases rr.non_of
    cases e
    refine go (.base .non) ?_
    cases b <;> first | (simp [isB] at hb; done) | decide +kernel
  · cases rr.bl_of
    cases e
    refine go (.base (.bl _)) ?_
    cases b <;> first | (simp [isB] at hb; done) | decide +kernel
  · cases rr.int_of
    cases e
    refine go (.base (.int _)) ?_
    cases b <;> first | (simp [isB] at hb; done) | decide +kernel
  · obtain ⟨rfl, _, _⟩ := rr.str_of
    cases e
    refine go (.base (.str _)) ?_
    cases b <;> first | (simp [isB] at hb; done) | decide +kernel
  · obtain ⟨a, vs, rfl, h1, _⟩ := rr.tup_of
    cases e
    have k : kitB "tuple" (tyOfB b) = some (b == .isTuple) := by
      cases b <;> first | (simp [isB] at hb; done) | decide +kernel
    rcases h1 with (h1 | ⟨o, h1⟩) | ⟨o, its, n, hk, hc, _⟩
    · exact go (.base (.tup h1)) k
    · exact go (.fTuple h1) k
    · exact go (.kTuple hk hc) k
  · obtain ⟨a, vs, rfl, h1, _⟩ := rr.lst_of
    cases e
    refine go (.base (.lst h1)) ?_
    cases b <;> first | (simp [isB] at hb; done) | decide +kernel
  · cases e
theorem call_lenD : CallR X (.builtin "len") (rBi X.K fa .len) := by
  intro pins s σ H xs us Q I r h
  obtain ⟨w, S, ds, d, sr, rr, e, af⟩ := h
  replace e : biLen ds = some d := e
  unfold biLen at e
  split at e
  · obtain ⟨x, rfl, q⟩ := rr.one
    cases e
    obtain ⟨rfl, l1, _⟩ := q.str_of
    exact call_len pins s σ H _ us Q I r ⟨_, _, rfl, ⟨by rw [str_len]; exact l1, (str_len _).symm⟩, af.same sr (.int _)⟩
  · obtain ⟨x, rfl, q⟩ := rr.one
    cases e
    obtain ⟨a, vs, rfl, h1, h2⟩ := q.tup_of
    exact call_len pins s σ H _ us Q I r ⟨_, _, rfl, .inr ⟨_, h1, h2.len.symm⟩, af.same sr (.int _)⟩
  · obtain ⟨x, rfl, q⟩ := rr.one
    cases e
    obtain ⟨a, vs, rfl, h1, h2⟩ := q.lst_of
    exact call_len pins s σ H _ us Q I r ⟨_, _, rfl, .inl ⟨_, .of h1, h2.len.symm⟩, af.same sr (.int _)⟩
  · obtain ⟨x, rfl, q⟩ := rr.one
    cases e
    obtain ⟨a, rfl, h1⟩ := q.scr_of
    exact call_len pins s σ H _ us Q I r ⟨_, _, rfl, .inl ⟨_, h1, by rw [List.length_map]⟩, af.same sr (.int _)⟩
  · cases e
theorem call_intD : CallR X (.type "int") (rBi X.K fa .int_) := by
  intro pins s σ H xs us Q I r h
  obtain ⟨w, S, ds, d, sr, rr, e, af⟩ := h
  replace e : biInt ds = some d := e
  unfold biInt at e
  split at e
  · obtain ⟨x, rfl, q⟩ := rr.one
    cases e
    cases q.int_of
    exact call_int1 pins s σ H _ us Q I r (.inl ⟨_, rfl, af.same sr (.int _)⟩)
  · obtain ⟨x, rfl, q⟩ := rr.one
    cases e
    cases q.bl_of
    exact call_int1 pins s σ H _ us Q I r (.inr ⟨_, rfl, af.same sr (.int _)⟩)
  · cases e
theorem call_boolD : CallR X (.type "bool") (rBi X.K fa .bool_) := by
  intro pins s σ H xs us Q I r h
  obtain ⟨w, S, ds, d, sr, rr, e, af⟩ := h
  replace e : biBool ds = some d := e
  unfold biBool at e
  split at e
  · obtain ⟨x, rfl, q⟩ := rr.one
    cases e
    cases q.int_of
    exact call_bool1 pins s σ H _ us Q I r (.inl ⟨_, rfl, af.same sr (.bl _)⟩)
  · obtain ⟨x, rfl, q⟩ := rr.one
    cases e
    cases q.bl_of
    exact call_bool1 pins s σ H _ us Q I r (.inr ⟨_, rfl, af.same sr (.bl _)⟩)
  · cases e
theorem call_tupleD : CallR X (.type "tuple") (rBi X.K fa .tuple_) := by
  intro pins s σ H xs us Q I r h
  obtain ⟨w, S, ds, d, sr, rr, e, af⟩ := h
  replace e : biTuple ds = some d := e
  unfold biTuple at e
  split at e
  · obtain ⟨x, rfl, q⟩ := rr.one
    cases e
    obtain ⟨a, vs, rfl, h1, h2⟩ := q.lst_of
    exact call_tuple_of pins s σ H _ us Q I r ⟨a, vs, rfl, .inl ⟨.of h1, fun l hl => af.newT sr h2 hl⟩⟩
  · obtain ⟨x, rfl, q⟩ := rr.one
    cases e
    obtain ⟨a, vs, rfl, h1, h2⟩ := q.tup_of
    exact call_tuple_of pins s σ H _ us Q I r ⟨a, vs, rfl, .inr ⟨h1, af.same sr (.tup h1 h2)⟩⟩
  · cases e
theorem call_listD : CallR X (.type "list") (rBi X.K fa .list_) := by
  intro pins s σ H xs us Q I r h
  obtain ⟨w, S, ds, d, sr, rr, e, af⟩ := h
  replace e : biList ds = some d := e
  unfold biList at e
  split at e
  · obtain ⟨x, rfl, q⟩ := rr.one
    cases e
    obtain ⟨a, vs, rfl, h1, h2⟩ := q.lst_of
    exact call_list_of pins s σ H _ us Q I r ⟨a, vs, rfl, .inl (.of h1), fun l hl => af.newL sr h2 hl⟩
  · obtain ⟨x, rfl, q⟩ := rr.one
    cases e
    obtain ⟨a, vs, rfl, h1, h2⟩ := q.tup_of
    exact call_list_of pins s σ H _ us Q I r ⟨a, vs, rfl, .inr h1, fun l hl => af.newL sr h2 hl⟩
  · cases e
theorem call_strD : CallR X (.type "str") (rBi X.K fa .str_) := by
  intro pins s σ H xs us Q I r h
  obtain ⟨w, S, ds, d, sr, rr, e, af⟩ := h
  replace e : biStr ds = some d := e
  unfold biStr at e
  split at e
  · split at e
    · rename_i i hz
      obtain ⟨x, rfl, q⟩ := rr.one
      cases e
      cases q.int_of
      have hlt : i.natAbs < 10 ^ 100 := by omega
      have hlog : i.natAbs.log2 < 1920 := by
        by_cases z : i.natAbs = 0
        · rw [z]; decide
        · have : i.natAbs.log2 < 400 := (Nat.log2_lt z).mpr (Nat.lt_trans hlt (by decide +kernel))
          omega
      refine call_str_int pins s σ H _ us Q I r ⟨_, rfl, hlog, ?_⟩
      have e1 : (i : Int) = ((i.toNat : Nat) : Int) := by omega
      have e2 : Str.ofString (toString i) = ⟨(numL i.toNat).toArray⟩ := str_ext (by rw [e1]; exact tl_num _)
      show Q (.str (Str.ofString (toString i))) H
      rw [e2]
      have hd : ∀ c ∈ numL i.toNat, c < 1114112 := fun c hc => by
        unfold numL at hc
        obtain ⟨ch, _, rfl⟩ := List.mem_map.mp hc
        have z : ch.toNat < 55296 ∨ 57343 < ch.toNat ∧ ch.toNat < 1114112 := ch.valid
        omega
      refine af.same sr (.str ?_ hd)
      have := numL_len (n := i.toNat) (k := 100) (by decide) (by omega)
      rw [sizeLine_eq]
      omega
    · cases e
  · cases e
theorem call_min2D (hc : X.calm = true) : CallR X (.builtin "min") (rBi X.K fa .min2) := by
  intro pins s σ H xs us Q I r h
  obtain ⟨w, S, ds, d, sr, rr, e, af⟩ := h
  replace e : biMin2 ds = some d := e
  unfold biMin2 at e
  split at e
  · obtain ⟨x, y, rfl, q1, q2⟩ := rr.two
    cases e
    cases q1.int_of
    cases q2.int_of
    exact call_min2 hc pins s σ H _ us Q I r ⟨_, _, rfl, af.same sr (.int _)⟩
  · cases e
theorem call_max2D (hc : X.calm = true) : CallR X (.builtin "max") (rBi X.K fa .max2) := by
  intro pins s σ H xs us Q I r h
  obtain ⟨w, S, ds, d, sr, rr, e, af⟩ := h
  replace e : biMax2 ds = some d := e
  unfold biMax2 at e
  split at e
  · obtain ⟨x, y, rfl, q1, q2⟩ := rr.two
    cases e
    cases q1.int_of
    cases q2.int_of
    exact call_max2 hc pins s σ H _ us Q I r ⟨_, _, rfl, af.same sr (.int _)⟩
  · cases e
theorem call_absD : CallR X (.builtin "abs") (rBi X.K fa .abs_) := by
  intro pins s σ H xs us Q I r h
  obtain ⟨w, S, ds, d, sr, rr, e, af⟩ := h
  replace e : biAbs ds = some d := e
  unfold biAbs at e
  split at e
  · obtain ⟨x, rfl, q⟩ := rr.one
    cases e
    cases q.int_of
    exact call_abs pins s σ H _ us Q I r ⟨_, rfl, af.same sr (.int _)⟩
  · cases e
theorem call_sumD (hc : X.calm = true) : CallR X (.builtin "sum") (rBi X.K fa .sum_) := by
  intro pins s σ H xs us Q I r h
  obtain ⟨w, S, ds, d, sr, rr, e, af⟩ := h
  replace e : biSum ds = some d := e
  unfold biSum at e
  split at e
  · rename_i ys
    obtain ⟨x, rfl, q⟩ := rr.one
    cases hi : D.ints ys with
    | none => rw [hi] at e; cases e
    | some ns =>
      rw [hi] at e
      cases e
      obtain ⟨a, vs, rfl, h1, h2⟩ := q.lst_of
      cases h2.ints hi
      exact cr_sum hc pins s σ H _ us Q I r ⟨a, ns, rfl, .of h1, af.same sr (.int _)⟩
  · cases e
theorem tups_are {w : Wd} {pins : List (Addr × Obj)} {σ : L2.St} {H : Hp} {s : Shared} (I : Inv X pins σ H s) : ∀ {vs : List V} {us : List Value} {ys : List D} {ts : List (List Int)}, Reps X.K fa w H vs ys → Vals vs us → D.tupInts ys = some ts →
    us.length = ys.length ∧ ∀ (j : Nat) (u : Value), us[j]? = some u → RT.TupAt s.heap u (ts.getD j [])
  | _, _, _, ts, .nil, .nil, _ => ⟨rfl, fun j u h => by simp at h⟩
  | _, _, _, ts, .cons (ds := ds) (d := d) r rs, .cons q qs, h => by
    cases d with
    | tup xs =>
      obtain ⟨a, vs', rfl, g1, g2⟩ := r.tup_of
      cases q
      cases hx : D.ints xs with
      | none =>
        rw [show D.tupInts (.tup xs :: ds) = (D.ints xs).bind fun ns => (D.tupInts ds).map (ns :: ·) from rfl, hx] at h
        cases h
      | some ns =>
        cases hd : D.tupInts ds with
        | none =>
          rw [show D.tupInts (.tup xs :: ds) = (D.ints xs).bind fun ns => (D.tupInts ds).map (ns :: ·) from rfl, hx, hd] at h
          cases h
        | some tt =>
          rw [show D.tupInts (.tup xs :: ds) = (D.ints xs).bind fun ns => (D.tupInts ds).map (ns :: ·) from rfl, hx, hd] at h
          cases h
          obtain ⟨n1, n2⟩ := tups_are I rs qs hd
          refine ⟨by simp [n1], fun j u hj => ?_⟩
          cases j with
          | zero =>
            cases hj
            cases g2.ints hx
            obtain ⟨its, rv, p, _⟩ := I.tuple g1
            exact ⟨a, its.toArray, rfl, p, by simpa using L2.intsAre_of rv⟩
          | succ j => exact n2 j u hj
    | _ => cases h
theorem rep_at {w : Wd} {H : Hp} : ∀ {vs : List V} {us : List Value} {ys : List D}, Reps X.K fa w H vs ys → Vals vs us → ∀ (j : Nat) (u : Value) (d : D), us[j]? = some u → ys[j]? = some d → ∃ v, RelV v u ∧ Rep X.K fa w H v d
  | _, _, _, .nil, .nil, j, u, d, h, _ => by simp at h
  | _, _, _, .cons r rs, .cons q qs, 0, u, d, h, h' => by
    cases h
    cases h'
    exact ⟨_, q, r⟩
  | _, _, _, .cons r rs, .cons q qs, j + 1, u, d, h, h' => rep_at rs qs j u d h h'
theorem call_min1D (hc : X.calm = true) (hu : X.A.units + 64 + 1 < cLine) : CallR X (.builtin "min") (rBi X.K fa .min1) := by
  intro pins s σ H xs us Q I r h
  obtain ⟨w, S, ds, d, sr, rr, e, af⟩ := h
  replace e : biMin1 ds = some d := e
  unfold biMin1 at e
  split at e
  · rename_i ys
    obtain ⟨x, rfl, q⟩ := rr.one
    split at e
    · rename_i n ns hi
      cases e
      obtain ⟨a, vs, rfl, h1, h2⟩ := q.lst_of
      cases h2.ints hi
      refine cr_min hc pins s σ H _ us Q I r ⟨a, n :: ns, rfl, .of h1, by simp, fun m hm hl => ?_⟩
      obtain ⟨m1, m2⟩ := minI_spec ns n
      have e1 : m = minI n ns := by
        have a1 := hl _ m1
        have a2 := m2 _ hm
        omega
      rw [e1]
      exact af.same sr (.int _)
    · cases e
    · rename_i hi
      split at e
      · rename_i ts ht
        obtain ⟨a, vs, rfl, h1, h2⟩ := q.lst_of
        obtain ⟨its, rv, hl, _⟩ := I.list (.of h1)
        rw [Vals.ref1 r]
        obtain ⟨n1, n2⟩ := tups_are I h2 rv ht
        have pos : 0 < its.toArray.size := by
          have : 0 < ys.length := by
            cases ys with
            | nil => cases hi
            | cons _ _ => simp
          simpa [n1] using this
        refine RT.min_tups (nss := fun j => ts.getD j []) (I.ok.hd hc) (show X.A.units + 1 < cLine by omega) hl.isList (fun j hj => n2 j _ (by simp at hj ⊢)) pos fun v H' tk hv hk => ?_
        have hv' : its[PySem.argBest (fun i j => ltInts (ts.getD i []) (ts.getD j [])) (ys.length - 1)]? = some v := by
          have e0 : (fun i j => ltInts (ts.getD i []) (ts.getD j [])) = RT.better fun j => ts.getD j [] := funext fun i => funext fun j => ltInts_lex _ _
          rw [e0, ← n1]
          simpa using hv
        obtain ⟨x, rx, rp⟩ := rep_at h2 rv _ v d hv' e
        exact ⟨x, H, I.kept hk, rx, af.same sr rp⟩
      · cases e
  · cases e
theorem call_max1D (hc : X.calm = true) : CallR X (.builtin "max") (rBi X.K fa .max1) := by
  intro pins s σ H xs us Q I r h
  obtain ⟨w, S, ds, d, sr, rr, e, af⟩ := h
  replace e : biMax1 ds = some d := e
  unfold biMax1 at e
  split at e
  · rename_i ys
    obtain ⟨x, rfl, q⟩ := rr.one
    split at e
    · rename_i n ns hi
      cases e
      obtain ⟨a, vs, rfl, h1, h2⟩ := q.lst_of
      cases h2.ints hi
      refine cr_max hc pins s σ H _ us Q I r ⟨a, n :: ns, rfl, .of h1, by simp, fun m hm hl => ?_⟩
      obtain ⟨m1, m2⟩ := maxI_spec ns n
      have e1 : m = maxI n ns := by
        have a1 := hl _ m1
        have a2 := m2 _ hm
        omega
      rw [e1]
      exact af.same sr (.int _)
    · cases e
  · cases e
theorem call_allD (hc : X.calm = true) : CallR X (.builtin "all") (rBi X.K fa .all_) := by
  intro pins s σ H xs us Q I r h
  obtain ⟨w, S, ds, d, sr, rr, e, af⟩ := h
  replace e : biAll ds = some d := e
  unfold biAll at e
  split at e
  · rename_i ys
    obtain ⟨x, rfl, q⟩ := rr.one
    cases hi : D.bls ys with
    | none => rw [hi] at e; cases e
    | some ns =>
      rw [hi] at e
      cases e
      obtain ⟨a, vs, rfl, h1, h2⟩ := q.lst_of
      cases h2.bls hi
      exact cr_all hc pins s σ H _ us Q I r ⟨a, ns, rfl, .of h1, af.same sr (.bl _)⟩
  · cases e
theorem call_anyD (hc : X.calm = true) : CallR X (.builtin "any") (rBi X.K fa .any_) := by
  intro pins s σ H xs us Q I r h
  obtain ⟨w, S, ds, d, sr, rr, e, af⟩ := h
  replace e : biAny ds = some d := e
  unfold biAny at e
  split at e
  · rename_i ys
    obtain ⟨x, rfl, q⟩ := rr.one
    cases hi : D.bls ys with
    | none => rw [hi] at e; cases e
    | some ns =>
      rw [hi] at e
      cases e
      obtain ⟨a, vs, rfl, h1, h2⟩ := q.lst_of
      cases h2.bls hi
      exact cr_any hc pins s σ H _ us Q I r ⟨a, ns, rfl, .of h1, af.same sr (.bl _)⟩
  · cases e
/-! ### methods of texts -/
def rMe (K : PySem.W.Frag) (fa : Fa) (m : Me) : V → List V → Hp → VK → Prop := fun x vs H Q => ∃ w S d1 ds d, SR K fa w H S ∧ RepR K fa w H x d1 ∧ RepsR K fa w H vs ds ∧ meV m d1 ds = some d ∧ Aft K fa w H S d Q
theorem join_joinL (s : List Nat) : ∀ ss : List (List Nat), join s ss = joinL s ss
  | [] => rfl
  | [_] => rfl
  | a :: b :: r => by
    unfold join joinL
    rw [join_joinL s (b :: r), List.append_assoc]
theorem join_mem {s : List Nat} {c : Nat} : ∀ {ss : List (List Nat)}, c ∈ join s ss → c ∈ s ∨ ∃ t ∈ ss, c ∈ t
  | [], h => by simp [join] at h
  | [a], h => .inr ⟨a, by simp, h⟩
  | a :: b :: r, h => by
    unfold join at h
    rw [List.mem_append, List.mem_append] at h
    rcases h with (h | h) | h
    · exact .inr ⟨a, by simp, h⟩
    · exact .inl h
    · rcases join_mem h with h | ⟨t, h1, h2⟩
      · exact .inl h
      · exact .inr ⟨t, List.mem_cons_of_mem _ h1, h2⟩
theorem join_len {s : List Nat} : ∀ {ss : List (List Nat)}, (∀ t ∈ ss, t.length ≤ 1000) → s.length ≤ 1000 → (join s ss).length ≤ 2000 * ss.length
  | [], _, _ => by simp [join]
  | [a], h, _ => by
    have := h a (by simp)
    simp [join]
    omega
  | a :: b :: r, h, hs => by
    have h1 := h a (by simp)
    have h2 := join_len (ss := b :: r) (fun t ht => h t (List.mem_cons_of_mem _ ht)) hs
    unfold join
    simp only [List.length_append, List.length_cons] at h2 ⊢
    omega
theorem sum_len {ss : List (List Nat)} (h : ∀ t ∈ ss, t.length ≤ 1000) : ((ss.map mkS).map (·.length)).sum ≤ 1000 * ss.length := by
  induction ss with
  | nil => simp
  | cons a r ih =>
    have h1 := h a (by simp)
    have h2 := ih fun t ht => h t (List.mem_cons_of_mem _ ht)
    have e : Str.length (mkS a) = a.length := str_len a
    simp only [List.map_cons, List.sum_cons, List.length_cons]
    rw [e]
    omega
theorem mt_joinD : MtR X "str.join" (rMe X.K fa .join) := by
  intro pins s σ H x xs v us Q I rx rv h
  obtain ⟨w, S, d1, ds, d, sr, r1, rr, e, af⟩ := h
  replace e : meJoin d1 ds = some d := e
  have go : ∀ {sp : List Nat} {ss : List (List Nat)} {a : Addr} {vs : List V} {ys : List D}, d1 = .str sp → xs = [.ref a] → (SqL X.K H a vs ∨ SqT X.K H a vs) → Reps X.K fa w H vs ys → D.strs ys = some ss → joinOk sp ss = true → d = .str (join sp ss) →
      wpAny (model X.prog X.w) X.A (call (.builtin "str.join") (v :: us)) (EP X pins σ Q) X.xe s := by
    intro sp ss a vs ys e1 e2 hq hr hs hok e3
    subst e1 e2 e3
    obtain ⟨rfl, l1, o1⟩ := r1.str_of
    obtain ⟨rfl, hss⟩ := hr.strs hs
    unfold joinOk at hok
    rw [Bool.and_eq_true, Bool.and_eq_true, List.all_eq_true] at hok
    obtain ⟨⟨k1, k2⟩, k3⟩ := hok
    have k1 := of_decide_eq_true k1
    have k2 := of_decide_eq_true k2
    have k3 : ∀ t ∈ ss, t.length ≤ 1000 := fun t ht => of_decide_eq_true (k3 t ht)
    refine mt_join pins s σ H _ _ v us Q I rx rv ⟨_, a, ss.map mkS, rfl, rfl, hq, ?_, ?_⟩
    · have b1 := sum_len k3
      rw [List.length_map, str_len]
      have b2 : ss.length * sp.length ≤ 1000 * 1000 := Nat.mul_le_mul k2 k1
      have b3 : 1000 * ss.length ≤ 1000 * 1000 := Nat.mul_le_mul_left _ k2
      omega
    · have e4 : Txt.join ⟨sp.toArray⟩ (ss.map mkS) = ⟨(join sp ss).toArray⟩ := by
        refine str_ext ?_
        rw [join_eq, tl_join, tl_mk, List.map_map, join_joinL]
        congr 1
        exact List.map_id'' (fun z => tl_mk z) ss
      rw [e4]
      refine af.same sr (.str ?_ fun c hc => ?_)
      · have := join_len (s := sp) k3 k1
        rw [sizeLine_eq]
        have b3 : 2000 * ss.length ≤ 2000 * 1000 := Nat.mul_le_mul_left _ k2
        omega
      · rcases join_mem hc with z | ⟨t, h1, h2⟩
        · exact o1 c z
        · exact (hss t h1).2 c h2
  unfold meJoin at e
  split at e
  · split at e
    · split at e
      · cases e
        obtain ⟨y, rfl, q⟩ := rr.one
        obtain ⟨a, vs, rfl, h1, h2⟩ := q.lst_of
        exact go rfl rfl (.inl (.of h1)) h2 ‹_› ‹_› rfl
      · cases e
    · cases e
  · split at e
    · split at e
      · cases e
        obtain ⟨y, rfl, q⟩ := rr.one
        obtain ⟨a, vs, rfl, h1, h2⟩ := q.tup_of
        exact go rfl rfl (.inr h1) h2 ‹_› ‹_› rfl
      · cases e
    · cases e
  · cases e
theorem split_spl1 (c : Nat) : ∀ (l acc : List Nat), split1 c acc l = spl [c] 0 acc l
  | [], acc => rfl
  | x :: r, acc => by
    have hp : pre [c] (x :: r) = (x == c) := by
      show ([x] == [c]) = (x == c)
      simp
    unfold split1
    by_cases h : x = c
    · rw [if_pos h, spl_hit (by rw [hp, h]; simp), split_spl1 c r []]
      rfl
    · rw [if_neg h, spl_miss (by rw [hp]; exact beq_eq_false_iff_ne.mpr h), split_spl1 c r (acc ++ [x])]
theorem split1_mem {c y : Nat} : ∀ {l acc t : List Nat}, t ∈ split1 c acc l → y ∈ t → y ∈ acc ∨ y ∈ l
  | [], acc, t, h, hy => by
    rw [show split1 c acc [] = [acc] from rfl, List.mem_singleton] at h
    subst h
    exact .inl hy
  | x :: r, acc, t, h, hy => by
    unfold split1 at h
    by_cases e : x = c
    · rw [if_pos e] at h
      rcases List.mem_cons.mp h with h | h
      · subst h
        exact .inl hy
      · rcases split1_mem h hy with z | z
        · cases z
        · exact .inr (List.mem_cons_of_mem _ z)
    · rw [if_neg e] at h
      rcases split1_mem h hy with z | z
      · rcases List.mem_append.mp z with z | z
        · exact .inl z
        · rw [List.mem_singleton.mp z]
          exact .inr (by simp)
      · exact .inr (List.mem_cons_of_mem _ z)
theorem split1_len {c : Nat} : ∀ {l acc t : List Nat}, t ∈ split1 c acc l → t.length ≤ acc.length + l.length
  | [], acc, t, h => by
    rw [show split1 c acc [] = [acc] from rfl, List.mem_singleton] at h
    subst h
    simp
  | x :: r, acc, t, h => by
    unfold split1 at h
    by_cases e : x = c
    · rw [if_pos e] at h
      rcases List.mem_cons.mp h with h | h
      · subst h
        simp
      · have := split1_len h
        simp at this ⊢
        omega
    · rw [if_neg e] at h
      have := split1_len h
      simp at this ⊢
      omega
theorem reps_strs {K : PySem.W.Frag} {w : Wd} {H : Hp} : ∀ {ss : List (List Nat)}, (∀ t ∈ ss, t.length ≤ sizeLine ∧ ∀ c ∈ t, c < 1114112) → Reps K fa w H ((ss.map mkS).map V.str) (ss.map .str)
  | [], _ => .nil
  | t :: r, h => .cons (.str (h t (by simp)).1 (h t (by simp)).2) (reps_strs fun t ht => h t (List.mem_cons_of_mem _ ht))
theorem mt_splitD : MtR X "str.split" (rMe X.K fa .split) := by
  intro pins s σ H x xs v us Q I rx rv h
  obtain ⟨w, S, d1, ds, d, sr, r1, rr, e, af⟩ := h
  replace e : meSplit d1 ds = some d := e
  unfold meSplit at e
  split at e
  · rename_i t c
    split at e
    · rename_i hz
      cases e
      obtain ⟨y, rfl, q⟩ := rr.one
      obtain ⟨rfl, l1, o1⟩ := r1.str_of
      obtain ⟨rfl, l2, o2⟩ := q.str_of
      refine mt_split pins s σ H _ _ v us Q I rx rv ⟨_, _, rfl, rfl, rfl, by rw [str_len, sizeLine_eq]; omega, fun p hp => ?_⟩
      have e1 : (Txt.split ⟨t.toArray⟩ ⟨[c].toArray⟩) = (split1 c [] t).map mkS := by
        have k := split_spl ⟨t.toArray⟩ ⟨[c].toArray⟩ (by simp) (kind_ok (by simp; exact hz.1))
        rw [tl_mk, tl_mk, ← split_spl1] at k
        rw [← k, List.map_map]
        have : ∀ z : Str, (mkS ∘ tl) z = z := fun z => str_eta z
        exact (List.map_id'' (fun z => this z) _).symm
      rw [e1]
      exact af.newL sr (reps_strs fun u hu => ⟨by have := split1_len hu; simp at this; rw [sizeLine_eq]; omega, fun y hy => (split1_mem hu hy).elim (fun z => nomatch z) (o1 y)⟩) hp
    · cases e
  · cases e
end
end Rx
set_option Elab.async false
set_option linter.all false
set_option maxRecDepth 100000
/-! Rx6: readings: what a piece of code computes on data. -/
namespace L2
open PySem PySem.Spec PyProof.Rows
section
variable {X : Cx}
theorem PE.imp {e : Expr} {t u : TE} (h : PE X e t) (f : ∀ σ H Q, u σ H Q → t σ H Q) : PE X e u := ⟨fun pins s σ H Q I q => h.run pins s σ H Q I (f σ H Q q)⟩
theorem PT.imp {e : Expr} {t u : TT} (h : PT X e t) (f : ∀ σ H Q, u σ H Q → t σ H Q) : PT X e u := ⟨fun pins s σ H Q I q => h.run pins s σ H Q I (f σ H Q q)⟩
theorem PW.imp {e : Expr} {t u : TT} (h : PW X e t) (f : ∀ σ H Q, u σ H Q → t σ H Q) : PW X e u := ⟨fun wh pins s σ H Q I q => h.run wh pins s σ H Q I (f σ H Q q)⟩
theorem PTs.imp {e : List Expr} {t u : TT} (h : PTs X e t) (f : ∀ σ H Q, u σ H Q → t σ H Q) : PTs X e u := ⟨fun pins s σ H Q I q => h.run pins s σ H Q I (f σ H Q q)⟩
theorem PA.imp {e : List Expr} {t u : TA} (h : PA X e t) (f : ∀ σ H Q, u σ H Q → t σ H Q) : PA X e u := ⟨fun pos pins s σ H Q I q => h.run pos pins s σ H Q I (f σ H Q q)⟩
theorem PO.imp {e : Option Expr} {t u : TO} (h : PO X e t) (f : ∀ σ H Q, u σ H Q → t σ H Q) : PO X e u := ⟨fun pins s σ H Q I q => h.run pins s σ H Q I (f σ H Q q)⟩
theorem PI.imp {tg e : Expr} {t u : TI} (h : PI X tg e t) (f : ∀ σ H Q, u σ H Q → t σ H Q) : PI X tg e u := ⟨fun pins s σ H Q I q => h.run pins s σ H Q I (f σ H Q q)⟩
theorem PS.imp {e : Stmt} {t u : TS} (h : PS X e t) (f : ∀ D σ H, u D σ H → t D σ H) : PS X e u := ⟨fun pins s σ H D I q => h.run pins s σ H D I (f D σ H q)⟩
theorem PSs.imp {e : List Stmt} {t u : TS} (h : PSs X e t) (f : ∀ D σ H, u D σ H → t D σ H) : PSs X e u := ⟨fun pins s σ H D I q => h.run pins s σ H D I (f D σ H q)⟩
end
end L2
namespace Rx
open PySem PySem.Spec PyProof.Rows L2 TL
/-- where defs, exception classes stand (lm: the class of an exception that is handled); an exception's one field -/
structure Ze where
  fa : Fa
  lm : Addr → Nat → Prop
  ec : Nat → Value
  fld : Nat → Option Str
/-- an exception's class, its own dict -/
def XR (Z : Ze) (K : PySem.W.Frag) (w : Wd) (H : Hp) (cls : Value) (dd : Option Addr) (k : Nat) (p : D) : Prop :=
  cls = Z.ec k ∧ match Z.fld k with
    | none => p = .non ∧ dd = none
    | some f => ∃ dx v, dd = some dx ∧ H dx = some (.xd [(f, v)]) ∧ Rep K Z.fa w H v p
section
variable {α β γ δ : Type} (Z : Ze) (K : PySem.W.Frag) (W : WX)
/-- the wish, by what is computed -/
def Fin (rel : Wd → Hp → β → α → Prop) (σ : L2.St) (w : Wd) (H : Hp) (r : R α) (Q : β → Hp → Prop) : Prop := match r with
  | .ok a S' => ∀ b w' H', Ext w H w' H' → rel w' H' b a → SR K Z.fa w' H' S' → Q b H'
  | .ex k p S' => ∀ cls dd w' H', Ext w H w' H' → XR Z K w' H' cls dd k p → SR K Z.fa w' H' S' → W cls dd σ H'
  | .st => False
/-- a state of slots and heap stands for a state of data -/
structure StR (σ : L2.St) (w : Wd) (H : Hp) (e : Env) (S : Store) : Prop where
  er : ER K Z.fa Z.lm w H σ e
  sr : SR K Z.fa w H S
def tG (rel : Wd → Hp → β → α → Prop) (f : Env → Store → R α) : L2.St → Hp → (β → Hp → Prop) → Prop := fun σ H Q => ∃ w e S, StR Z K σ w H e S ∧ Fin Z K W rel σ w H (f e S) Q
abbrev relE (w : Wd) (H : Hp) : V → D → Prop := RepC K Z.fa Z.lm w H
abbrev relA (w : Wd) (H : Hp) : List V → List D → Prop := RepsC K Z.fa Z.lm w H
abbrev relT (_ : Wd) (_ : Hp) : Bool → Bool → Prop := fun a b => a = b
abbrev relO (_ : Wd) (_ : Hp) : Option Int → Option Int → Prop := fun a b => a = b
abbrev tE (f : Env → Store → R D) : TE := tG Z K W (relE Z K) f
abbrev tA (f : Env → Store → R (List D)) : TA := tG Z K W (relA Z K) f
abbrev tT (f : Env → Store → R Bool) : TT := tG Z K W relT f
abbrev tO (f : Env → Store → R (Option Int)) : TO := tG Z K W relO f
end
section
variable {α β γ δ : Type} {Z : Ze} {K : PySem.W.Frag} {W : WX} {rel : Wd → Hp → β → α → Prop} {rel' : Wd → Hp → δ → γ → Prop} {σ : L2.St} {w w1 : Wd} {H H1 : Hp} {e : Env} {S : Store} {r : R α} {Q : β → Hp → Prop} {P : δ → Hp → Prop}
theorem Fin.ext (x : Ext w H w1 H1) (f : Fin Z K W rel σ w H r Q) : Fin Z K W rel σ w1 H1 r Q := by
  cases r with
  | ok a S' => exact fun b w' H' x' => f b w' H' (x.trans x')
  | ex k p S' => exact fun c d w' H' x' => f c d w' H' (x.trans x')
  | st => exact f
theorem StR.ext (x : Ext w H w1 H1) {S1 : Store} (s : StR Z K σ w H e S) (s1 : SR K Z.fa w1 H1 S1) : StR Z K σ w1 H1 e S1 := ⟨s.er.ext x, s1⟩
/-- a step, then the rest -/
theorem Fin.bind {q : R γ} {g : γ → Store → R α} (f : Fin Z K W rel σ w H (q.bind g) Q)
    (k : ∀ c S1 d w1 H1, q = .ok c S1 → Ext w H w1 H1 → rel' w1 H1 d c → SR K Z.fa w1 H1 S1 → Fin Z K W rel σ w1 H1 (g c S1) Q → P d H1) : Fin Z K W rel' σ w H q P := by
  cases q with
  | ok c S1 => exact fun d w1 H1 x rr s1 => k c S1 d w1 H1 rfl x rr s1 (Fin.ext x f)
  | ex k p S' => exact f
  | st => exact f
theorem Fin.of {o : Option α} (f : Fin Z K W rel σ w H (R.of o S) Q) : ∃ a, o = some a ∧ ∀ b w' H', Ext w H w' H' → rel w' H' b a → SR K Z.fa w' H' S → Q b H' := by
  cases o with
  | none => exact False.elim f
  | some a => exact ⟨a, rfl, f⟩
theorem Fin.now {a : α} {b : β} (f : Fin Z K W rel σ w H (.ok a S) Q) (s : SR K Z.fa w H S) (r : rel w H b a) : Q b H := f b w H (Ext.refl w H) r s
end
/-! ### expressions -/
section
variable {α β γ : Type} {Z : Ze} {K : PySem.W.Frag} {W : WX} {rel : Wd → Hp → β → α → Prop} {σ : L2.St} {w : Wd} {H : Hp} {S : Store} {Q : β → Hp → Prop}
theorem Fin.asO {o : Option γ} {k : γ → R α} (f : Fin Z K W rel σ w H (Rx.asO o k) Q) : ∃ c, o = some c ∧ Fin Z K W rel σ w H (k c) Q := by
  cases o with
  | none => exact False.elim f
  | some c => exact ⟨c, rfl, f⟩
theorem Fin.gd {b : Bool} {r : R α} (f : Fin Z K W rel σ w H (Rx.gd b r) Q) : b = true ∧ Fin Z K W rel σ w H r Q := by
  cases b with
  | false => exact False.elim f
  | true => exact ⟨rfl, f⟩
theorem Fin.asInt {d : D} {k : Int → R α} (f : Fin Z K W rel σ w H (Rx.asInt d k) Q) : ∃ i, d = .int i ∧ Fin Z K W rel σ w H (k i) Q := by
  cases d with
  | int i => exact ⟨i, rfl, f⟩
  | _ => exact False.elim f
theorem Fin.asBl {d : D} {k : Bool → R α} (f : Fin Z K W rel σ w H (Rx.asBl d k) Q) : ∃ i, d = .bl i ∧ Fin Z K W rel σ w H (k i) Q := by
  cases d with
  | bl i => exact ⟨i, rfl, f⟩
  | _ => exact False.elim f
theorem Fin.asExn {d : D} {k : Nat → R α} (f : Fin Z K W rel σ w H (Rx.asExn d k) Q) : ∃ i, d = .clo i [] ∧ Fin Z K W rel σ w H (k i) Q := by
  unfold Rx.asExn at f
  split at f
  · exact ⟨_, rfl, f⟩
  · exact False.elim f
theorem Fin.asStr {d : D} {k : List Nat → R α} (f : Fin Z K W rel σ w H (Rx.asStr d k) Q) : ∃ i, d = .str i ∧ Fin Z K W rel σ w H (k i) Q := by
  cases d with
  | str i => exact ⟨i, rfl, f⟩
  | _ => exact False.elim f
theorem Fin.asLst {d : D} {k : List D → R α} (f : Fin Z K W rel σ w H (Rx.asLst d k) Q) : ∃ i, d = .lst i ∧ Fin Z K W rel σ w H (k i) Q := by
  cases d with
  | lst i => exact ⟨i, rfl, f⟩
  | _ => exact False.elim f
theorem Fin.getV {e : Env} {i : Nat} {Q : V → Hp → Prop} (f : Fin Z K W (relE Z K) σ w H (Rx.getV e i S) Q) : ∃ d, e[i]? = some (some d) ∧ Fin Z K W (relE Z K) σ w H (.ok d S) Q := by
  unfold Rx.getV at f
  split at f
  · exact ⟨_, ‹_›, f⟩
  · exact False.elim f
end
section
variable {Z : Ze} {X : Cx} {W : WX} {G : Nat → Option D} {F : Orc} {a b c e : Expr} {es : List Expr} {pos : Pos} {ia ib ic : E} {ies : Es}
abbrev SE (Z : Ze) (X : Cx) (W : WX) (G : Nat → Option D) (F : Orc) (ia : E) (a : Expr) : Prop := PE X a (tE Z X.K W (evE G F ia))
abbrev SA (Z : Ze) (X : Cx) (W : WX) (G : Nat → Option D) (F : Orc) (ies : Es) (es : List Expr) : Prop := PA X es (tA Z X.K W (evEs G F ies))
abbrev SO (Z : Ze) (X : Cx) (W : WX) (G : Nat → Option D) (F : Orc) (io : Op) (o : Option Expr) : Prop := PO X o (tO Z X.K W (evOp G F io))
theorem RepC.int_of {w : Wd} {H : Hp} {x : V} {k : Int} (r : RepC X.K Z.fa Z.lm w H x (.int k)) : x = .int k := by
  cases r with
  | of r => exact r.int_of
/-- a bool, by its value -/
theorem RepC.bl_of {w : Wd} {H : Hp} {x : V} {k : Bool} (r : RepC X.K Z.fa Z.lm w H x (.bl k)) : x = .bl k := by
  cases r with
  | of r => exact r.bl_of
theorem sE_const {v : V} {d : D} (h : PE X a (tC v)) (r : ∀ w H, Rep X.K Z.fa w H v d) (he : ∀ e S, evE G F ia e S = .ok d S) : SE Z X W G F ia a :=
  h.imp fun σ H Q ⟨w, e, S, st, f⟩ => by
    rw [he] at f
    exact f.now st.sr (.of (r w H))
theorem sE_var {i : Nat} (h : PE X a (tVar i)) : SE Z X W G F (.var i) a := h.imp fun σ H Q ⟨w, e, S, st, f⟩ => by
  obtain ⟨d, q, f⟩ := Fin.getV f
  obtain ⟨v, h1, h2⟩ := st.er.get q
  exact ⟨v, h1, f.now st.sr h2⟩
theorem aft_of {w : Wd} {H : Hp} {S : Store} {d : D} {Q : VK} (f : ∀ b w' H', Ext w H w' H' → RepC X.K Z.fa Z.lm w' H' b d → SR X.K Z.fa w' H' S → Q b H') : Aft X.K Z.fa w H S d Q :=
  fun v w' H' x r s => f v w' H' x (.of r) s
theorem aft_ok {w : Wd} {H : Hp} {S : Store} {d : D} {Q : VK} {σ : L2.St} (f : Fin Z X.K W (relE Z X.K) σ w H (.ok d S) Q) : Aft X.K Z.fa w H S d Q := aft_of f
/-- two values, then a rule by them -/
theorem two2 {r : R2} {g : D → D → Store → R D} (hr : ∀ w H x y d1 d2 S σ Q, SR X.K Z.fa w H S → RepC X.K Z.fa Z.lm w H x d1 → RepC X.K Z.fa Z.lm w H y d2 → Fin Z X.K W (relE Z X.K) σ w H (g d1 d2 S) Q → r x y H Q) :
    ∀ σ H Q, tE Z X.K W (fun e S => (evE G F ia e S).bind fun x S => (evE G F ib e S).bind fun y S => g x y S) σ H Q → tOp r (tE Z X.K W (evE G F ia)) (tE Z X.K W (evE G F ib)) σ H Q := by
  rintro σ H Q ⟨w, e, S, st, f⟩
  refine ⟨w, e, S, st, f.bind fun x S1 v w1 H1 _ x1 r1 s1 f1 => ⟨w1, e, S1, st.ext x1 s1, f1.bind fun y S2 u w2 H2 _ x2 r2 s2 f2 => ?_⟩⟩
  exact hr w2 H2 v u x y S2 σ Q s2 (r1.ext x2) r2 f2
theorem sE_bin {op : Bop} (ha : SE Z X W G F ia a) (hb : SE Z X W G F ib b) : SE Z X W G F (.bin op ia ib) (.BinOp a (opOf op) b pos) :=
  (pe_op (op_bin (fa := Z.fa) op) ha hb).imp (two2 fun w H x y d1 d2 S σ Q s r1 r2 f => by
    obtain ⟨d, e, q⟩ := f.of
    exact ⟨w, S, _, _, d, s, s.view r1, s.view r2, e, aft_of q⟩)
theorem sE_cmp {op : Cop} (hu : X.A.units + 66 < cLine) (ha : SE Z X W G F ia a) (hb : SE Z X W G F ib b) (hm : behindInMarks (cpOf op) b = false) : SE Z X W G F (.cmp op ia ib) (.Compare a [cpOf op] [b] pos) :=
  (pe_cmpR (op_cmp (fa := Z.fa) hu op) ha hb hm).imp (two2 fun w H x y d1 d2 S σ Q s r1 r2 f => by
    obtain ⟨k, e, q⟩ := f.asO
    exact ⟨w, S, _, _, k, s, s.view r1, s.view r2, e, q.now s (.of (.bl k))⟩)
theorem sE_neg (ha : SE Z X W G F ia a) : SE Z X W G F (.neg ia) (.UnaryOp .USub a pos) := (pe_un un_neg ha).imp fun σ H Q ⟨w, e, S, st, f⟩ => ⟨w, e, S, st, f.bind fun x S1 v w1 H1 _ x1 r1 s1 f1 => by
  obtain ⟨i, rfl, f1⟩ := f1.asInt
  cases r1.int_of
  exact ⟨_, rfl, f1.now s1 (.of (.int _))⟩⟩
theorem sE_and {rest : List Expr} (ha : SE Z X W G F ia a) (hb : SE Z X W G F ib (.BoolOp .And (b :: rest) pos)) : SE Z X W G F (.andE ia ib) (.BoolOp .And (a :: b :: rest) pos) := (pe_and ha hb).imp fun σ H Q ⟨w, e, S, st, f⟩ => ⟨w, e, S, st, f.bind fun x S1 v w1 H1 _ x1 r1 s1 f1 => by
  obtain ⟨k, rfl, f1⟩ := f1.asBl
  cases r1.bl_of
  refine ⟨k, rfl, ?_⟩
  cases k with
  | true => exact ⟨w1, e, S1, st.ext x1 s1, f1⟩
  | false => exact Fin.now f1 s1 (.of (.bl _))⟩
theorem sE_or {rest : List Expr} (ha : SE Z X W G F ia a) (hb : SE Z X W G F ib (.BoolOp .Or (b :: rest) pos)) : SE Z X W G F (.orE ia ib) (.BoolOp .Or (a :: b :: rest) pos) := (pe_or ha hb).imp fun σ H Q ⟨w, e, S, st, f⟩ => ⟨w, e, S, st, f.bind fun x S1 v w1 H1 _ x1 r1 s1 f1 => by
  obtain ⟨k, rfl, f1⟩ := f1.asBl
  cases r1.bl_of
  refine ⟨k, rfl, ?_⟩
  cases k with
  | true => exact Fin.now f1 s1 (.of (.bl _))
  | false => exact ⟨w1, e, S1, st.ext x1 s1, f1⟩⟩
theorem sE_not (ha : SE Z X W G F ia a) : SE Z X W G F (.notE ia) (.UnaryOp .Not a pos) := (pe_not ha).imp fun σ H Q ⟨w, e, S, st, f⟩ => ⟨w, e, S, st, f.bind fun x S1 v w1 H1 _ x1 r1 s1 f1 => by
  obtain ⟨k, rfl, f1⟩ := f1.asBl
  cases r1.bl_of
  exact ⟨_, rfl, f1.now s1 (.of (.bl _))⟩⟩
theorem sE_idx (hs : PlainIx b) (ha : SE Z X W G F ia a) (hb : SE Z X W G F ib b) : SE Z X W G F (.idx ia ib) (.Subscript a b pos) :=
  (pe_ix (ix_idx (fa := Z.fa)) ha hb hs).imp (two2 fun w H x y d1 d2 S σ Q s r1 r2 f => by
    obtain ⟨d, e, q⟩ := f.of
    refine ⟨w, S, _, d2, d, s, s.view r1, ?_, e, aft_of q⟩
    cases r2 with
    | of r2 => exact .of r2
    | clo _ => exact .clo _ _)
theorem sE_slc {lo hi : Option Expr} {il ih : Op} {p2 : Pos} (ha : SE Z X W G F ia a) (hl : SO Z X W G F il lo) (hh : SO Z X W G F ih hi) : SE Z X W G F (.slc ia il ih) (.Subscript a (.Slice lo hi none p2) pos) :=
  (pe_slice (sl_slc (fa := Z.fa)) ha hl hh).imp fun σ H Q ⟨w, e, S, st, f⟩ => ⟨w, e, S, st, f.bind fun x S1 v w1 H1 _ x1 r1 s1 f1 => ⟨w1, e, S1, st.ext x1 s1, f1.bind fun l S2 l' w2 H2 _ x2 r2 s2 f2 =>
    ⟨w2, e, S2, (st.ext x1 s1).ext x2 s2, f2.bind fun h S3 h' w3 H3 _ x3 r3 s3 f3 => by
      subst r2 r3
      obtain ⟨d, e, q⟩ := f3.of
      exact ⟨w3, S3, _, d, s3, s3.view ((r1.ext x2).ext x3), e, aft_of q⟩⟩⟩⟩
theorem sE_rev {k : Nat} {p1 p2 p3 : Pos} (ha : SE Z X W G F ia a) : SE Z X W G F (.rev ia) (.Subscript a (.Slice none none (some (.UnaryOp .USub (.Constant (.int 1) k p1) p2)) p3) pos) :=
  (pe_rev (fa := Z.fa) ha).imp fun σ H Q ⟨w, e, S, st, f⟩ => ⟨w, e, S, st, f.bind fun x S1 v w1 H1 _ x1 r1 s1 f1 => by
    obtain ⟨d, e, q⟩ := f1.of
    exact ⟨w1, S1, _, d, s1, s1.view r1, e, aft_of q⟩⟩
theorem sO_no : SO Z X W G F .no none := po_none.imp fun σ H Q ⟨w, e, S, st, f⟩ => Fin.now f st.sr rfl
theorem sO_yes (ha : SE Z X W G F ia a) : SO Z X W G F (.yes ia) (some a) := (po_some ha).imp fun σ H Q ⟨w, e, S, st, f⟩ => ⟨w, e, S, st, f.bind fun x S1 v w1 H1 _ x1 r1 s1 f1 => by
  obtain ⟨i, rfl, f1⟩ := f1.asInt
  cases r1.int_of
  exact ⟨_, rfl, f1.now s1 rfl⟩⟩
/-! ### argument lists, displays -/
theorem sA_nil : SA Z X W G F .nil [] := pa_nil.imp fun σ H Q ⟨w, e, S, st, f⟩ => Fin.now f st.sr .nil
theorem sA_cons (ha : SE Z X W G F ia a) (hr : SA Z X W G F ies es) (hs : starEach (a :: es) X.env = (false, eval a X.env) :: starEach es X.env) : SA Z X W G F (.cons ia ies) (a :: es) :=
  (pa_cons ha hr hs).imp fun σ H Q ⟨w, e, S, st, f⟩ => ⟨w, e, S, st, f.bind fun x S1 v w1 H1 _ x1 r1 s1 f1 => ⟨w1, e, S1, st.ext x1 s1, f1.bind fun xs S2 vs w2 H2 _ x2 r2 s2 f2 => f2.now s2 (.cons (r1.ext x2) r2)⟩⟩
def Es.len : Es → Nat
  | .nil => 0
  | .cons _ r => r.len + 1
theorem evEs_len : ∀ (ies : Es) {e : Env} {S S' : Store} {ds : List D}, evEs G F ies e S = .ok ds S' → ds.length = ies.len
  | .nil, e, S, S', ds, h => by
    have h : (R.ok [] S : R (List D)) = .ok ds S' := h
    cases h
    rfl
  | .cons a r, e, S, S', ds, h => by
    have h : ((evE G F a e S).bind fun d S => (evEs G F r e S).bind fun ds S => .ok (d :: ds) S) = .ok ds S' := h
    cases q : evE G F a e S with
    | ok d S1 =>
      rw [q] at h
      simp only [R.bind_ok] at h
      cases q2 : evEs G F r e S1 with
      | ok ds2 S2 =>
        rw [q2] at h
        cases h
        show ds2.length + 1 = r.len + 1
        rw [evEs_len r q2]
      | ex k p S' => rw [q2] at h; cases h
      | st => rw [q2] at h; cases h
    | ex k p S' => rw [q] at h; cases h
    | st => rw [q] at h; cases h
theorem sE_tup {x1 : Nat} (h : SA Z X W G F ies es) (hn : ies.len ≤ 1000) : SE Z X W G F (.tup ies) (.Tuple es x1 pos) :=
  (pe_tup h).imp fun σ H Q ⟨w, e, S, st, f⟩ => ⟨w, e, S, st, f.bind fun xs S1 vs w1 H1 q1 x1 r1 s1 f1 => by
    obtain ⟨hc, f1⟩ := f1.gd
    have rr := r1.reps hc
    refine ⟨by rw [r1.len, evEs_len _ q1, sizeLine_eq]; omega, fun p hp => (aft_ok f1).newT s1 rr hp⟩⟩
theorem sE_lst (h : SA Z X W G F ies es) (hn : ies.len ≤ 1000) : SE Z X W G F (.lst ies) (.List es pos) :=
  (pe_lst h).imp fun σ H Q ⟨w, e, S, st, f⟩ => ⟨w, e, S, st, f.bind fun xs S1 vs w1 H1 q1 x1 r1 s1 f1 => by
    obtain ⟨hc, f1⟩ := f1.gd
    have rr := r1.reps hc
    refine ⟨by rw [r1.len, evEs_len _ q1, sizeLine_eq]; omega, fun p hp => (aft_ok f1).newL s1 rr hp⟩⟩
/-- a list in the store -/
theorem alc_new {w : Wd} {H : Hp} {S : Store} {xs : List V} {ds : List D} {Q : VK} {σ : L2.St} (s : SR X.K Z.fa w H S) (r : Reps X.K Z.fa w H xs ds) (f : Fin Z X.K W (relE Z X.K) σ w H (.ok (.ref S.length) (S ++ [.lst ds])) Q) {p : Addr} (hp : H p = none) : Q (.ref p) (L2.upd H p (.lst xs)) :=
  f _ _ _ (Ext.alc hp) (.of (.ref (by
    show (w.rho ++ [p])[S.length]? = some p
    rw [s.len]
    simp))) (s.alc hp r)
theorem bind_assoc {α β γ : Type} (r : R α) (f : α → Store → R β) (g : β → Store → R γ) : (r.bind f).bind g = r.bind fun a S => (f a S).bind g := by
  cases r <;> rfl
theorem gd_bind {α β : Type} (b : Bool) (r : R α) (g : α → Store → R β) : (gd b r).bind g = gd b (r.bind g) := by
  cases b <;> rfl
theorem sE_alcL (h : SA Z X W G F ies es) (hn : ies.len ≤ 1000) : SE Z X W G F (.alc (.lst ies)) (.List es pos) :=
  (pe_lst h).imp fun σ H Q ⟨w, e, S, st, f⟩ => by
    have f : Fin Z X.K W (relE Z X.K) σ w H (((evEs G F ies e S).bind fun ds S => gd (ds.all noC) (.ok (.lst ds) S)).bind fun d S => asLst d fun ds => .ok (.ref S.length) (S ++ [.lst ds])) Q := f
    rw [bind_assoc] at f
    refine ⟨w, e, S, st, f.bind fun xs S1 vs w1 H1 q1 x1 r1 s1 f1 => ?_⟩
    rw [gd_bind] at f1
    obtain ⟨hc, f1⟩ := f1.gd
    exact ⟨by rw [r1.len, evEs_len _ q1, sizeLine_eq]; omega, fun p hp => alc_new s1 (r1.reps hc) f1 hp⟩
/-! ### built-in functions, methods -/
theorem view_all {w : Wd} {H : Hp} {S : Store} (s : SR X.K Z.fa w H S) : ∀ {vs : List V} {ds : List D}, RepsC X.K Z.fa Z.lm w H vs ds → RepsR X.K Z.fa w H vs (ds.map (view S))
  | _, _, .nil => .nil
  | _, _, .cons r t => .cons (s.view r) (view_all s t)
theorem sE_bi {k : Bi} (he : PE X a (tCB (rBi X.K Z.fa k) (tA Z X.K W (evEs G F ies)))) : SE Z X W G F (.bi k ies) a :=
  he.imp fun σ H Q ⟨w, e, S, st, f⟩ => ⟨w, e, S, st, f.bind fun xs S1 vs w1 H1 q1 x1 r1 s1 f1 => by
    obtain ⟨d, e, q⟩ := f1.of
    exact ⟨w1, S1, _, d, s1, view_all s1 r1, e, aft_of q⟩⟩
/-- isinstance(a, T) -/
theorem sE_is {k : Bi} (hk : isB k = true) (he : PE X c (tCB (rIs X.K Z.fa k) (tCons (tE Z X.K W (evE G F ia)) (tCons (tC (.ty (tyOfB k))) tNil)))) : SE Z X W G F (.bi k (.cons ia .nil)) c :=
  he.imp fun σ H Q ⟨w, e, S, st, f⟩ => by
    have f : Fin Z X.K W (relE Z X.K) σ w H (((evE G F ia e S).bind fun d S => (R.ok [] S : R (List D)).bind fun ds S => .ok (d :: ds) S).bind fun ds S => R.of (biV k (ds.map (view S))) S) Q := f
    rw [bind_assoc] at f
    refine ⟨w, e, S, st, f.bind fun d S1 v w1 H1 q1 x1 r1 s1 f1 => ?_⟩
    obtain ⟨d2, e2, q⟩ := Fin.of f1
    have e3 : biV k [view S1 d] = (isIn k (view S1 d)).map .bl := by cases k <;> first | rfl | exact absurd hk (by decide)
    rw [show biV k (List.map (view S1) [d]) = (isIn k (view S1 d)).map .bl from e3] at e2
    cases q2 : isIn k (view S1 d) with
    | none => rw [q2] at e2; cases e2
    | some b =>
      rw [q2] at e2
      cases e2
      exact ⟨w1, S1, v, _, b, rfl, s1, s1.view r1, q2, q _ w1 H1 (Ext.refl _ _) (.of (.bl b)) s1⟩
/-- o.m(..), o a text -/
theorem sE_mth {m : Me} (he : PE X c (tBM X.K "str" (rMe X.K Z.fa m) (tE Z X.K W (evE G F ia)) (tA Z X.K W (evEs G F ies)))) : SE Z X W G F (.mth m ia ies) c :=
  he.imp fun σ H Q ⟨w, e, S, st, f⟩ => ⟨w, e, S, st, f.bind fun x S1 v w1 H1 q1 x1 r1 s1 f1 => by
    obtain ⟨t, rfl, f1⟩ := f1.asStr
    cases r1 with
    | of r1 =>
      obtain ⟨rfl, l1, o1⟩ := r1.str_of
      refine ⟨rfl, w1, e, S1, st.ext x1 s1, f1.bind fun ds S2 vs w2 H2 q2 x2 r2 s2 f2 => ?_⟩
      obtain ⟨d, e2, q⟩ := f2.of
      exact ⟨w2, S2, _, _, d, s2, .of (.str l1 o1), view_all s2 r2, e2, aft_of q⟩⟩
/-! ### tests -/
theorem truth_V {w : Wd} {H : Hp} {S : Store} {v : V} {d : D} {k : Bool} (s : SR X.K Z.fa w H S) (r : RepC X.K Z.fa Z.lm w H v d) (h : truth S d = some k) : TruV X.K v H k := by
  have emp : ∀ {xs : List V} {ds : List D}, Reps X.K Z.fa w H xs ds → (!ds.isEmpty) = !xs.isEmpty := fun r => by
    cases r <;> rfl
  cases r with
  | clo _ => cases h
  | of r =>
    cases r with
    | non => cases h; rfl
    | bl b => cases h; rfl
    | int i => cases h; rfl
    | str l o =>
      cases h
      rename_i s0
      refine ⟨by rw [str_len]; exact l, ?_⟩
      rw [str_len]
      cases s0 with
      | nil => rfl
      | cons c r =>
        show true = ((((c :: r).length : Nat) : Int) != 0)
        rw [List.length_cons]
        exact (bne_iff_ne.mpr (by omega)).symm
    | tup q r =>
      cases h
      exact .inr (.inl ⟨_, q, emp r⟩)
    | lst q _ r =>
      cases h
      exact .inl ⟨_, .of q, emp r⟩
    | @ref a l q =>
      unfold truth at h
      dsimp only at h
      split at h
      · rename_i ds q2
        cases h
        obtain ⟨p, xs, h1, h2, h3⟩ := s.get q2
        rw [q] at h1
        cases h1
        exact .inl ⟨_, .of h2, emp h3⟩
      · cases h
    | scr _ => cases h
    | fn _ => cases h
/-- a test, by its value -/
def tst (G : Nat → Option D) (F : Orc) (ia : E) : Env → Store → R Bool := fun e S => (evE G F ia e S).bind fun x S => R.of (truth S x) S
abbrev ST (Z : Ze) (X : Cx) (W : WX) (G : Nat → Option D) (F : Orc) (ia : E) (a : Expr) : Prop := PT X a (tT Z X.K W (tst G F ia))
abbrev SW (Z : Ze) (X : Cx) (W : WX) (G : Nat → Option D) (F : Orc) (ia : E) (a : Expr) : Prop := PW X a (tT Z X.K W (tst G F ia))
theorem sT_truth (he : ∀ whole, isTrue a X.env whole = (do let v ← whole; standAt a.pos; holding [v] (truthy v))) (h : SE Z X W G F ia a) : ST Z X W G F ia a :=
  (pt_truth h he).imp fun σ H Q ⟨w, e, S, st, f⟩ => ⟨w, e, S, st, f.bind fun x S1 v w1 H1 q1 x1 r1 s1 f1 => by
    obtain ⟨k, e2, q⟩ := f1.of
    exact ⟨k, truth_V s1 r1 e2, q k w1 H1 (Ext.refl _ _) rfl s1⟩⟩
theorem sE_ite (hc : ST Z X W G F ic c) (ha : SE Z X W G F ia a) (hb : SE Z X W G F ib b) : SE Z X W G F (.ite ic ia ib) (.IfExp c a b pos) :=
  (pe_ifExp hc ha hb).imp fun σ H Q ⟨w, e, S, st, f⟩ => by
    have f : Fin Z X.K W (relE Z X.K) σ w H ((evE G F ic e S).bind fun x S => asO (truth S x) fun k => Rx.two k (evE G F ia e S) (evE G F ib e S)) Q := f
    have f' : Fin Z X.K W (relE Z X.K) σ w H ((tst G F ic e S).bind fun k S => Rx.two k (evE G F ia e S) (evE G F ib e S)) Q := by
      unfold tst
      rw [bind_assoc]
      cases q : evE G F ic e S with
      | ok x S1 =>
        rw [q] at f
        simp only [R.bind_ok] at f ⊢
        cases q2 : truth S1 x with
        | none => rw [q2] at f; exact f
        | some k => rw [q2] at f; exact f
      | ex k p S' => rw [q] at f; exact f
      | st => rw [q] at f; exact f
    refine ⟨w, e, S, st, f'.bind fun k S1 k' w1 H1 q1 x1 r1 s1 f1 => ?_⟩
    have r1 : k' = k := r1
    subst r1
    cases k' with
    | true => exact ⟨w1, e, S1, st.ext x1 s1, f1⟩
    | false => exact ⟨w1, e, S1, st.ext x1 s1, f1⟩
theorem sT_not (ha : ST Z X W G F ia a) : ST Z X W G F (.notE ia) (.UnaryOp .Not a pos) :=
  (pt_not ha).imp fun σ H Q ⟨w, e, S, st, f⟩ => by
    have f : Fin Z X.K W relT σ w H (((evE G F ia e S).bind fun x S => asBl x fun k => .ok (.bl (!k)) S).bind fun x S => R.of (truth S x) S) Q := f
    rw [bind_assoc] at f
    have f' : Fin Z X.K W relT σ w H ((tst G F ia e S).bind fun k S => .ok (!k) S) Q := by
      unfold tst
      rw [bind_assoc]
      cases q : evE G F ia e S with
      | ok x S1 =>
        rw [q] at f
        simp only [R.bind_ok] at f ⊢
        cases x with
        | bl b => exact f
        | _ => exact False.elim f
      | ex k p S' => rw [q] at f; exact f
      | st => rw [q] at f; exact f
    refine ⟨w, e, S, st, f'.bind fun k S1 k' w1 H1 q1 x1 r1 s1 f1 => ?_⟩
    have r1 : k' = k := r1
    subst r1
    exact f1.now s1 rfl
theorem sT_and {rest : List Expr} (ha : ST Z X W G F ia a) (hb : SW Z X W G F ib (.BoolOp .And (b :: rest) pos)) : SW Z X W G F (.andE ia ib) (.BoolOp .And (a :: b :: rest) pos) :=
  (pw_and ha hb).imp fun σ H Q ⟨w, e, S, st, f⟩ => by
    have f : Fin Z X.K W relT σ w H (((evE G F ia e S).bind fun x S => asBl x fun k => Rx.two k (evE G F ib e S) (.ok (.bl false) S)).bind fun x S => R.of (truth S x) S) Q := f
    rw [bind_assoc] at f
    have f' : Fin Z X.K W relT σ w H ((tst G F ia e S).bind fun k S => Rx.two k (tst G F ib e S) (.ok false S)) Q := by
      unfold tst
      rw [bind_assoc]
      cases q : evE G F ia e S with
      | ok x S1 =>
        rw [q] at f
        simp only [R.bind_ok] at f ⊢
        cases x with
        | bl b => cases b <;> exact f
        | _ => exact False.elim f
      | ex k p S' => rw [q] at f; exact f
      | st => rw [q] at f; exact f
    refine ⟨w, e, S, st, f'.bind fun k S1 k' w1 H1 q1 x1 r1 s1 f1 => ?_⟩
    have r1 : k' = k := r1
    subst r1
    cases k' with
    | true => exact ⟨w1, e, S1, st.ext x1 s1, f1⟩
    | false => exact Fin.now f1 s1 rfl
theorem sT_or {rest : List Expr} (ha : ST Z X W G F ia a) (hb : SW Z X W G F ib (.BoolOp .Or (b :: rest) pos)) : SW Z X W G F (.orE ia ib) (.BoolOp .Or (a :: b :: rest) pos) :=
  (pw_or ha hb).imp fun σ H Q ⟨w, e, S, st, f⟩ => by
    have f : Fin Z X.K W relT σ w H (((evE G F ia e S).bind fun x S => asBl x fun k => Rx.two k (.ok (.bl true) S) (evE G F ib e S)).bind fun x S => R.of (truth S x) S) Q := f
    rw [bind_assoc] at f
    have f' : Fin Z X.K W relT σ w H ((tst G F ia e S).bind fun k S => Rx.two k (.ok true S) (tst G F ib e S)) Q := by
      unfold tst
      rw [bind_assoc]
      cases q : evE G F ia e S with
      | ok x S1 =>
        rw [q] at f
        simp only [R.bind_ok] at f ⊢
        cases x with
        | bl b => cases b <;> exact f
        | _ => exact False.elim f
      | ex k p S' => rw [q] at f; exact f
      | st => rw [q] at f; exact f
    refine ⟨w, e, S, st, f'.bind fun k S1 k' w1 H1 q1 x1 r1 s1 f1 => ?_⟩
    have r1 : k' = k := r1
    subst r1
    cases k' with
    | true => exact Fin.now f1 s1 rfl
    | false => exact ⟨w1, e, S1, st.ext x1 s1, f1⟩
theorem sT_cmp {op : Cop} (hu : X.A.units + 66 < cLine) (ha : SE Z X W G F ia a) (hb : SE Z X W G F ib b) (hm : behindInMarks (cpOf op) b = false) : ST Z X W G F (.cmp op ia ib) (.Compare a [cpOf op] [b] pos) :=
  (pt_cmpR (op_cmp (fa := Z.fa) hu op) ha hb hm).imp fun σ H Q ⟨w, e, S, st, f⟩ => by
    have f : Fin Z X.K W relT σ w H (((evE G F ia e S).bind fun x S => (evE G F ib e S).bind fun y S => asO (cmp op (view S x) (view S y)) fun k => .ok (.bl k) S).bind fun x S => R.of (truth S x) S) Q := f
    rw [bind_assoc] at f
    refine ⟨w, e, S, st, f.bind fun x S1 v w1 H1 _ x1 r1 s1 f1 => ⟨w1, e, S1, st.ext x1 s1, ?_⟩⟩
    rw [bind_assoc] at f1
    refine f1.bind fun y S2 u w2 H2 _ x2 r2 s2 f2 => ?_
    cases q : cmp op (view S2 x) (view S2 y) with
    | none => rw [q] at f2; exact False.elim f2
    | some k =>
      rw [q] at f2
      exact ⟨w2, S2, _, _, k, s2, s2.view (r1.ext x2), s2.view r2, q, k, rfl, Fin.now f2 s2 rfl⟩
theorem sE_chn {op op' : Cop} (hu : X.A.units + 66 < cLine) (ha : SE Z X W G F ia a) (hb : SE Z X W G F ib b) (hc : SE Z X W G F ic c) (hm : lastMarks [cpOf op, cpOf op'] [b, c] = false) :
    SE Z X W G F (.chn op op' ia ib ic) (.Compare a [cpOf op, cpOf op'] [b, c] pos) :=
  (pe_chain (op_cmp (fa := Z.fa) hu op) (op_cmp (fa := Z.fa) hu op') ha hb hc hm).imp fun σ H Q ⟨w, e, S, st, f⟩ => ⟨w, e, S, st, f.bind fun x S1 v w1 H1 _ x1 r1 s1 f1 => ⟨w1, e, S1, st.ext x1 s1, f1.bind fun y S2 u w2 H2 _ x2 r2 s2 f2 => by
    obtain ⟨k, e2, f2⟩ := f2.asO
    refine ⟨w2, S2, _, _, k, s2, s2.view (r1.ext x2), s2.view r2, e2, k, rfl, ?_⟩
    cases k with
    | true =>
      refine ⟨w2, e, S2, (st.ext x1 s1).ext x2 s2, Fin.bind f2 fun z S3 t w3 H3 _ x3 r3 s3 f3 => ?_⟩
      obtain ⟨k, e3, f3⟩ := f3.asO
      exact ⟨w3, S3, _, _, k, s3, s3.view (r2.ext x3), s3.view r3, e3, f3.now s3 (.of (.bl k))⟩
    | false => exact Fin.now f2 s2 (.of (.bl _))⟩⟩
theorem sT_chn {op op' : Cop} (hu : X.A.units + 66 < cLine) (ha : SE Z X W G F ia a) (hb : SE Z X W G F ib b) (hc : SE Z X W G F ic c) (hm : lastMarks [cpOf op, cpOf op'] [b, c] = false) :
    ST Z X W G F (.chn op op' ia ib ic) (.Compare a [cpOf op, cpOf op'] [b, c] pos) :=
  (pt_chain (op_cmp (fa := Z.fa) hu op) (op_cmp (fa := Z.fa) hu op') ha hb hc hm).imp fun σ H Q ⟨w, e, S, st, f⟩ => by
    have f : Fin Z X.K W relT σ w H (((evE G F ia e S).bind fun x S => (evE G F ib e S).bind fun y S => asO (cmp op (view S x) (view S y)) fun k =>
      Rx.two k ((evE G F ic e S).bind fun z S => asO (cmp op' (view S y) (view S z)) fun k => .ok (.bl k) S) (.ok (.bl false) S)).bind fun x S => R.of (truth S x) S) Q := f
    rw [bind_assoc] at f
    refine ⟨w, e, S, st, f.bind fun x S1 v w1 H1 _ x1 r1 s1 f1 => ⟨w1, e, S1, st.ext x1 s1, ?_⟩⟩
    rw [bind_assoc] at f1
    refine f1.bind fun y S2 u w2 H2 _ x2 r2 s2 f2 => ?_
    cases q : cmp op (view S2 x) (view S2 y) with
    | none => rw [q] at f2; exact False.elim f2
    | some k =>
      rw [q] at f2
      refine ⟨w2, S2, _, _, k, s2, s2.view (r1.ext x2), s2.view r2, q, k, rfl, ?_⟩
      cases k with
      | true =>
        have f2 : Fin Z X.K W relT σ w2 H2 (((evE G F ic e S2).bind fun z S => asO (cmp op' (view S y) (view S z)) fun k => .ok (.bl k) S).bind fun x S => R.of (truth S x) S) Q := f2
        rw [bind_assoc] at f2
        refine ⟨w2, e, S2, (st.ext x1 s1).ext x2 s2, f2.bind fun z S3 t w3 H3 _ x3 r3 s3 f3 => ?_⟩
        cases q3 : cmp op' (view S3 y) (view S3 z) with
        | none => rw [q3] at f3; exact False.elim f3
        | some k =>
          rw [q3] at f3
          exact ⟨w3, S3, _, _, k, s3, s3.view (r2.ext x3), s3.view r3, q3, k, rfl, Fin.now f3 s3 rfl⟩
      | false => exact ⟨false, rfl, Fin.now f2 s2 rfl⟩
theorem sT_ite (hc : ST Z X W G F ic c) (ha : ST Z X W G F ia a) (hb : ST Z X W G F ib b) : ST Z X W G F (.ite ic ia ib) (.IfExp c a b pos) := by
  refine ⟨fun pins s σ H Q I h => ?_⟩
  obtain ⟨w, e, S, st, f⟩ := h
  have f : Fin Z X.K W relT σ w H (((evE G F ic e S).bind fun x S => asO (truth S x) fun k => Rx.two k (evE G F ia e S) (evE G F ib e S)).bind fun x S => R.of (truth S x) S) Q := f
  rw [bind_assoc] at f
  have f' : Fin Z X.K W relT σ w H ((tst G F ic e S).bind fun k S => Rx.two k (tst G F ia e S) (tst G F ib e S)) Q := by
    unfold tst
    rw [bind_assoc]
    cases q : evE G F ic e S with
    | ok x S1 =>
      rw [q] at f
      simp only [R.bind_ok] at f ⊢
      cases q2 : truth S1 x with
      | none => rw [q2] at f; exact f
      | some k => rw [q2] at f; cases k <;> exact f
    | ex k p S' => rw [q] at f; exact f
    | st => rw [q] at f; exact f
  refine isTrue_IfExp (thn (hc.run pins s σ H (fun k H1 => Rx.two k (R.ok () []) .st = .ok () [] ∧ tT Z X.K W (tst G F ia) σ H1 Q ∨ Rx.two k (R.ok () []) .st = .st ∧ tT Z X.K W (tst G F ib) σ H1 Q) I ⟨w, e, S, st, f'.bind fun k S1 k' w1 H1 q1 x1 r1 s1 f1 => ?_⟩) fun d s1 ⟨H1, I1, q1⟩ => ?_)
  · have r1 : k' = k := r1
    subst r1
    cases k' with
    | true => exact .inl ⟨rfl, w1, e, S1, st.ext x1 s1, f1⟩
    | false => exact .inr ⟨rfl, w1, e, S1, st.ext x1 s1, f1⟩
  · cases d with
    | true =>
      rcases q1 with ⟨_, q1⟩ | ⟨z, _⟩
      · exact ha.run pins s1 σ H1 Q I1 q1
      · cases z
    | false =>
      rcases q1 with ⟨z, _⟩ | ⟨_, q1⟩
      · cases z
      · exact hb.run pins s1 σ H1 Q I1 q1
end
end Rx
set_option Elab.async false
set_option linter.all false
set_option maxRecDepth 100000
/-! Rx7: what is walked, targets, comprehensions. -/
namespace Rx
open PySem PySem.Spec PyProof.Rows L2 TL RZ
/-- J walks the data ds -/
inductive Itm (Z : Ze) (K : PySem.W.Frag) (w : Wd) (H : Hp) : It → List D → Prop where
  | list {a : Addr} {xs : List V} {ds : List D} (h : H a = some (.lst xs)) (n : a ∉ w.res) (r : Reps K Z.fa w H xs ds) : Itm Z K w H (Itl K a) ds
  | tup {a : Addr} {xs : List V} {ds : List D} (h : SqT K H a xs) (r : Reps K Z.fa w H xs ds) : Itm Z K w H (Itt K a) ds
  | str {s : List Nat} (o : ∀ c ∈ s, c < 1114112) : Itm Z K w H (Its ⟨s.toArray⟩) (s.map fun c => .str [c])
  | rng (lo : Int) (n : Nat) : Itm Z K w H (Itr lo n) (rangeL lo n)
  | enm {a : Addr} {xs : List V} {ds : List D} (h : H a = some (.lst xs)) (n : a ∉ w.res) (r : Reps K Z.fa w H xs ds) : Itm Z K w H (Ite K a) (enumL 0 ds)
  | zipL {a b : Addr} {xs ys : List V} {ds es : List D} (h : H a = some (.lst xs)) (n : a ∉ w.res) (r : Reps K Z.fa w H xs ds) (h2 : H b = some (.lst ys)) (n2 : b ∉ w.res) (r2 : Reps K Z.fa w H ys es) : Itm Z K w H (Itz K a b) (Rx.zipL ds es)
  | zipT {a b : Addr} {xs ys : List V} {ds es : List D} (h : SqT K H a xs) (r : Reps K Z.fa w H xs ds) (h2 : SqT K H b ys) (r2 : Reps K Z.fa w H ys es) : Itm Z K w H (ItzT K a b) (Rx.zipL ds es)
/-- a turn -/
def Trn (Z : Ze) (K : PySem.W.Frag) (w : Wd) (H : Hp) (J : It) (ds : List D) (i : Nat) : Prop :=
  (∀ d, ds[i]? = some d → J.go i H ∧ ∀ x H'', J.yld i H x H'' → Ext w H w H'' ∧ (∀ S, SR K Z.fa w H S → SR K Z.fa w H'' S) ∧ Rep K Z.fa w H'' x d) ∧ (ds.length ≤ i → J.stop i H)
abbrev relI (Z : Ze) (K : PySem.W.Frag) (w : Wd) (H : Hp) : It → List D → Prop := Itm Z K w H
abbrev tI (Z : Ze) (K : PySem.W.Frag) (W : WX) (f : Env → Store → R (List D)) : TI := tG Z K W (relI Z K) f
abbrev WF : WX := fun _ _ _ _ => False
section
variable {Z : Ze} {K : PySem.W.Frag} {w w1 : Wd} {H H1 : Hp} {J : It} {ds : List D}
theorem Itm.ext (x : Ext w H w1 H1) (t : Itm Z K w H J ds) : Itm Z K w1 H1 J ds := by
  have o : ∀ {a : Addr} {xs : List V}, H a = some (.lst xs) → a ∉ w.res → a ∉ w1.res := fun h n => x.out (nfre h (fun ps z => by cases z)) n
  cases t with
  | list h n r => exact .list (x.lsts _ _ h (Wd.out n)) (o h n) (r.ext x)
  | tup h r => exact .tup (x.tup h) (r.ext x)
  | str o => exact .str o
  | rng lo n => exact .rng lo n
  | enm h n r => exact .enm (x.lsts _ _ h (Wd.out n)) (o h n) (r.ext x)
  | zipL h n r h2 n2 r2 => exact .zipL (x.lsts _ _ h (Wd.out n)) (o h n) (r.ext x) (x.lsts _ _ h2 (Wd.out n2)) (o h2 n2) (r2.ext x)
  | zipT h r h2 r2 => exact .zipT (x.tup h) (r.ext x) (x.tup h2) (r2.ext x)
theorem Trn.list {a : Addr} {xs : List V} (h : H a = some (.lst xs)) (n : a ∉ w.res) (r : Reps K Z.fa w H xs ds) (i : Nat) : Trn Z K w H (Itl K a) ds i := by
  have h' := h
  have r' := r
  refine ⟨fun d hd => ?_, fun hi => ⟨xs, .of h', by rw [r.len]; exact hi⟩⟩
  obtain ⟨v, h1, h2⟩ := r'.get hd
  refine ⟨⟨xs, v, .of h', h1⟩, fun y H'' hy => ?_⟩
  obtain ⟨rfl, q⟩ := hy
  have e := q xs (.of h')
  rw [h1] at e
  cases e
  exact ⟨Ext.refl _ _, fun S s => s, h2⟩
theorem Trn.tup {a : Addr} {xs : List V} (h : SqT K H a xs) (r : Reps K Z.fa w H xs ds) (i : Nat) : Trn Z K w H (Itt K a) ds i := by
  have h' := h
  have r' := r
  refine ⟨fun d hd => ?_, fun hi => ⟨xs, h', by rw [r.len]; exact hi⟩⟩
  obtain ⟨v, h1, h2⟩ := r'.get hd
  refine ⟨⟨xs, v, h', h1⟩, fun y H'' hy => ?_⟩
  obtain ⟨rfl, q⟩ := hy
  have e := q xs h'
  rw [h1] at e
  cases e
  exact ⟨Ext.refl _ _, fun S s => s, h2⟩
theorem Trn.str {s : List Nat} (o : ∀ c ∈ s, c < 1114112) (i : Nat) : Trn Z K w H (Its ⟨s.toArray⟩) (s.map fun c => .str [c]) i := by
  refine ⟨fun d hd => ?_, fun hi => ?_⟩
  · rw [List.getElem?_map] at hd
    cases q : s[i]? with
    | none => rw [q] at hd; cases hd
    | some c =>
      rw [q] at hd
      cases hd
      have hlt := (List.getElem?_eq_some_iff.mp q).1
      refine ⟨by show i < s.toArray.size; simpa using hlt, fun y H'' hy => ?_⟩
      obtain ⟨rfl, c', e, rfl⟩ := hy
      have e' : s[i]? = some c' := by simpa using e
      rw [q] at e'
      cases e'
      exact ⟨Ext.refl _ _, fun S s => s, .str (s := [c]) (by rw [sizeLine_eq]; simp) (by simpa using o c (List.mem_of_getElem? q))⟩
  · show s.toArray.size ≤ i
    simpa using hi
theorem Trn.rng (lo : Int) (n : Nat) (i : Nat) : Trn Z K w H (Itr lo n) (rangeL lo n) i := by
  refine ⟨fun d hd => ?_, fun hi => ?_⟩
  · unfold rangeL at hd
    rw [List.getElem?_map] at hd
    cases q : (List.range n)[i]? with
    | none => rw [q] at hd; cases hd
    | some c =>
      rw [q] at hd
      cases hd
      have hlt := (List.getElem?_eq_some_iff.mp q).1
      have hc : c = i := by
        rw [List.getElem?_range (by simpa using hlt)] at q
        exact (Option.some.inj q).symm
      subst hc
      refine ⟨by show c < n; simpa using hlt, fun y H'' hy => ?_⟩
      obtain ⟨rfl, rfl⟩ := hy
      exact ⟨Ext.refl _ _, fun S s => s, .int _⟩
  · show n ≤ i
    unfold rangeL at hi
    simpa using hi
theorem enumL_get : ∀ (xs : List D) (n i : Nat), (enumL n xs)[i]? = (xs[i]?).map fun d => .tup [.int ((n + i : Nat) : Int), d]
  | [], n, i => by simp [enumL]
  | x :: r, n, 0 => by simp [enumL]
  | x :: r, n, i + 1 => by
    have h := enumL_get r (n + 1) i
    have e : n + 1 + i = n + (i + 1) := by omega
    rw [e] at h
    simpa [enumL] using h
theorem enumL_len : ∀ (xs : List D) (n : Nat), (enumL n xs).length = xs.length
  | [], _ => rfl
  | _ :: r, n => by simp [enumL, enumL_len r]
theorem Trn.enm {a : Addr} {xs : List V} (h : H a = some (.lst xs)) (n : a ∉ w.res) (r : Reps K Z.fa w H xs ds) (i : Nat) : Trn Z K w H (Ite K a) (enumL 0 ds) i := by
  have h' := h
  have r' := r
  refine ⟨fun d hd => ?_, fun hi => ⟨xs, .of h', by rw [r.len]; rw [enumL_len] at hi; exact hi⟩⟩
  rw [enumL_get] at hd
  cases q : ds[i]? with
  | none => rw [q] at hd; cases hd
  | some d0 =>
    rw [q] at hd
    cases hd
    obtain ⟨v, h1, h2⟩ := r'.get q
    refine ⟨⟨xs, v, .of h', h1⟩, fun y H'' hy => ?_⟩
    obtain ⟨T, x0, rfl, hT, rfl, q2⟩ := hy
    have e := q2 xs (.of h')
    rw [h1] at e
    cases e
    refine ⟨Ext.upd w _ hT, fun S s => s.upd _ hT, .tup (.of upd_same) (.cons ?_ (.cons (h2.ext (Ext.upd w _ hT)) .nil))⟩
    rw [Nat.zero_add]
    exact .int _
theorem zipL_get : ∀ (xs ys : List D) (i : Nat), (zipL xs ys)[i]? = (xs[i]?).bind fun d => (ys[i]?).map fun e => .tup [d, e]
  | [], ys, i => by simp [zipL]
  | x :: r, [], i => by cases h : (x :: r)[i]? <;> simp [zipL]
  | x :: r, y :: q, 0 => by simp [zipL]
  | x :: r, y :: q, i + 1 => by simpa [zipL] using zipL_get r q i
theorem zipL_len : ∀ (xs ys : List D), (zipL xs ys).length = min xs.length ys.length
  | [], ys => by simp [zipL]
  | x :: r, [] => by simp [zipL]
  | x :: r, y :: q => by simp [zipL, zipL_len r q]
theorem Trn.zipL {a b : Addr} {xs ys : List V} {es : List D} (h : H a = some (.lst xs)) (n : a ∉ w.res) (r : Reps K Z.fa w H xs ds) (h2 : H b = some (.lst ys)) (n2 : b ∉ w.res) (r2 : Reps K Z.fa w H ys es) (i : Nat) : Trn Z K w H (Itz K a b) (Rx.zipL ds es) i := by
  have h' := h
  have r' := r
  have h2' := h2
  have r2' := r2
  refine ⟨fun d hd => ?_, fun hi => ⟨xs, ys, .of h', .of h2', ?_⟩⟩
  · rw [zipL_get] at hd
    cases q : ds[i]? with
    | none => rw [q] at hd; cases hd
    | some d0 =>
      rw [q] at hd
      cases q2 : es[i]? with
      | none => rw [q2] at hd; cases hd
      | some d1 =>
        rw [q2] at hd
        cases hd
        obtain ⟨v, g1, g2⟩ := r'.get q
        obtain ⟨u, g3, g4⟩ := r2'.get q2
        refine ⟨⟨xs, ys, v, u, .of h', .of h2', g1, g3⟩, fun y H'' hy => ?_⟩
        obtain ⟨T, x0, y0, rfl, hT, rfl, q3, q4⟩ := hy
        have e := q3 xs (.of h')
        rw [g1] at e
        cases e
        have e := q4 ys (.of h2')
        rw [g3] at e
        cases e
        exact ⟨Ext.upd w _ hT, fun S s => s.upd _ hT, .tup (.of upd_same) (.cons (g2.ext (Ext.upd w _ hT)) (.cons (g4.ext (Ext.upd w _ hT)) .nil))⟩
  · rw [zipL_len] at hi
    rw [r.len, r2.len]
    omega
theorem Trn.zipT {a b : Addr} {xs ys : List V} {es : List D} (h : SqT K H a xs) (r : Reps K Z.fa w H xs ds) (h2 : SqT K H b ys) (r2 : Reps K Z.fa w H ys es) (i : Nat) : Trn Z K w H (ItzT K a b) (Rx.zipL ds es) i := by
  have h' := h
  have r' := r
  have h2' := h2
  have r2' := r2
  refine ⟨fun d hd => ?_, fun hi => ⟨xs, ys, h', h2', ?_⟩⟩
  · rw [zipL_get] at hd
    cases q : ds[i]? with
    | none => rw [q] at hd; cases hd
    | some d0 =>
      rw [q] at hd
      cases q2 : es[i]? with
      | none => rw [q2] at hd; cases hd
      | some d1 =>
        rw [q2] at hd
        cases hd
        obtain ⟨v, g1, g2⟩ := r'.get q
        obtain ⟨u, g3, g4⟩ := r2'.get q2
        refine ⟨⟨xs, ys, v, u, h', h2', g1, g3⟩, fun y H'' hy => ?_⟩
        obtain ⟨T, x0, y0, rfl, hT, rfl, q3, q4⟩ := hy
        have e := q3 xs h'
        rw [g1] at e
        cases e
        have e := q4 ys h2'
        rw [g3] at e
        cases e
        exact ⟨Ext.upd w _ hT, fun S s => s.upd _ hT, .tup (.of upd_same) (.cons (g2.ext (Ext.upd w _ hT)) (.cons (g4.ext (Ext.upd w _ hT)) .nil))⟩
  · rw [zipL_len] at hi
    rw [r.len, r2.len]
    omega
theorem Itm.turn (t : Itm Z K w H J ds) (i : Nat) : Trn Z K w H J ds i := by
  cases t with
  | list h n r => exact .list h n r i
  | tup h r => exact .tup h r i
  | str o => exact .str o i
  | rng lo n => exact .rng lo n i
  | enm h n r => exact .enm h n r i
  | zipL h n r h2 n2 r2 => exact .zipL h n r h2 n2 r2 i
  | zipT h r h2 r2 => exact .zipT h r h2 r2 i
end
section
variable {Z : Ze} {X : Cx} {W : WX} {G : Nat → Option D} {F : Orc} {tg a b : Expr} {p pos tpos : Pos} {ia ib : E} {ies : Es} {elts : List Expr} {kk : Nat}
abbrev SI (Z : Ze) (X : Cx) (W : WX) (G : Nat → Option D) (F : Orc) (ii : I) (tg it : Expr) : Prop := PI X tg it (tI Z X.K W (evI G F ii))
theorem sI_seq (ha : SE Z X W G F ia a) : SI Z X W G F (.seq ia) tg a := by
  refine ⟨fun pins s σ H R I ⟨w, e, S, st, f⟩ => ?_⟩
  have f : Fin Z X.K W (relI Z X.K) σ w H ((evE G F ia e S).bind fun d S => Rx.R.of (items d) S) R := f
  cases q : evE G F ia e S with
  | st => rw [q] at f; exact False.elim f
  | ex k pl S' =>
    rw [q] at f
    exact (pi_list ha).run pins s σ H R I ⟨w, e, S, st, by rw [q]; exact f⟩
  | ok d S1 =>
    rw [q] at f
    obtain ⟨ds, hi, g⟩ := Fin.of (show Fin Z X.K W (relI Z X.K) σ w H (Rx.R.of (items d) S1) R from f)
    cases d with
    | lst ys =>
      cases hi
      refine (pi_list ha).run pins s σ H R I ⟨w, e, S, st, ?_⟩
      rw [q]
      intro v w' H' x r s'
      cases r with
      | of r =>
        obtain ⟨c, xs, rfl, h1, h2, h3⟩ := r.lst_of
        exact ⟨c, rfl, ⟨xs, .of h1⟩, g _ w' H' x (.list h1 h2 h3) s'⟩
    | tup ys =>
      cases hi
      refine (pi_tup ha).run pins s σ H R I ⟨w, e, S, st, ?_⟩
      rw [q]
      intro v w' H' x r s'
      cases r with
      | of r =>
        obtain ⟨c, xs, rfl, h1, h3⟩ := r.tup_of
        exact ⟨c, rfl, ⟨xs, h1⟩, g _ w' H' x (.tup h1 h3) s'⟩
    | str t =>
      cases hi
      refine (pi_str ha).run pins s σ H R I ⟨w, e, S, st, ?_⟩
      rw [q]
      intro v w' H' x r s'
      cases r with
      | of r =>
        obtain ⟨rfl, h1, h3⟩ := r.str_of
        exact ⟨_, rfl, g _ w' H' x (.str h3) s'⟩
    | _ => cases hi
theorem sI_enm (hg : Gl X "enumerate") (hm : X.mg "enumerate" = none) (ha : SE Z X W G F ia a) (hs : starEach [a] X.env = [(false, eval a X.env)]) : SI Z X W G F (.enm ia) (.Tuple elts kk tpos) (.Call (.Name "enumerate" p) [a] [] pos) :=
  (pi_enum hg hm (pa_cons ha pa_nil hs) hs).imp fun σ H R ⟨w, e, S, st, f⟩ => ⟨w, e, S, st, f.bind fun d S1 v w1 H1 q1 x1 r1 s1 f1 => by
    obtain ⟨ys, rfl, f1⟩ := f1.asLst
    cases r1 with
    | of r =>
      obtain ⟨c, xs, rfl, h1, h2, h3⟩ := r.lst_of
      exact ⟨c, xs, rfl, .of h1, f1 _ w1 H1 (Ext.refl _ _) (.enm h1 h2 h3) s1⟩⟩
theorem sI_zip (hg : Gl X "zip") (hm : X.mg "zip" = none) (ha : SE Z X W G F ia a) (hb : SE Z X W G F ib b) (hi : PI X tg (.Call (.Name "zip" p) [a, b] [] pos) (iZipA X.K (tCons (tE Z X.K W (evE G F ia)) (tCons (tE Z X.K W (evE G F ib)) tNil)))) :
    SI Z X W G F (.zip ia ib) tg (.Call (.Name "zip" p) [a, b] [] pos) :=
  hi.imp fun σ H R ⟨w, e, S, st, f⟩ => ⟨w, e, S, st, f.bind fun d S1 v w1 H1 q1 x1 r1 s1 f1 => ⟨w1, e, S1, st.ext x1 s1, f1.bind fun d2 S2 v2 w2 H2 q2 x2 r2 s2 f2 => by
    cases d with
    | lst ys =>
      cases d2 with
      | lst zs =>
        cases r1 with
        | of r1 =>
          cases r2 with
          | of r2 =>
            obtain ⟨c, xs, rfl, h1, h2, h3⟩ := (r1.ext x2).lst_of
            obtain ⟨c', xs', rfl, h1', h2', h3'⟩ := r2.lst_of
            exact ⟨c, c', xs, xs', rfl, .inl ⟨.of h1, .of h1', f2 _ w2 H2 (Ext.refl _ _) (.zipL h1 h2 h3 h1' h2' h3') s2⟩⟩
      | tup zs => exact False.elim f2
      | _ => exact False.elim f2
    | tup ys =>
      cases d2 with
      | tup zs =>
        cases r1 with
        | of r1 =>
          cases r2 with
          | of r2 =>
            obtain ⟨c, xs, rfl, h1, h3⟩ := (r1.ext x2).tup_of
            obtain ⟨c', xs', rfl, h1', h3'⟩ := r2.tup_of
            exact ⟨c, c', xs, xs', rfl, .inr ⟨h1, h1', f2 _ w2 H2 (Ext.refl _ _) (.zipT h1 h3 h1' h3') s2⟩⟩
      | lst zs => exact False.elim f2
      | _ => exact False.elim f2
    | _ => exact False.elim f2⟩⟩
theorem rngOk_b {i : Int} (h : rngOk i = true) : -(2 ^ 62) ≤ i ∧ i < 2 ^ 62 := by
  unfold rngOk at h
  rw [Bool.and_eq_true] at h
  exact ⟨of_decide_eq_true h.1, of_decide_eq_true h.2⟩
theorem sI_rng1 (hg : Gl X "range") (hm : X.mg "range" = none) (ha : SE Z X W G F ia a) (hs : starEach [a] X.env = [(false, eval a X.env)]) : SI Z X W G F (.rng (.cons ia .nil)) tg (.Call (.Name "range" p) [a] [] pos) :=
  (pi_range1 hg hm (sA_cons ha sA_nil hs) hs).imp fun σ H R ⟨w, e, S, st, f⟩ => ⟨w, e, S, st, f.bind fun ds S1 vs w1 H1 q1 x1 r1 s1 f1 => by
    have hl := evEs_len _ q1
    match ds, hl, r1, f1 with
    | [d], _, .cons r .nil, f1 =>
      cases d with
      | int j =>
        cases r.int_of
        obtain ⟨xs, hr, g⟩ := Fin.of f1
        unfold rng at hr
        dsimp only at hr
        split at hr
        · cases hr
          have b := rngOk_b ‹_›
          exact ⟨j, rfl, b.1, b.2, g _ w1 H1 (Ext.refl _ _) (.rng 0 j.toNat) s1⟩
        · cases hr
      | _ => exact False.elim f1⟩
theorem sI_rng2 (hg : Gl X "range") (hm : X.mg "range" = none) (ha : SE Z X W G F ia a) (hb : SE Z X W G F ib b) (hs : starEach [a, b] X.env = [(false, eval a X.env), (false, eval b X.env)]) (hs2 : starEach [b] X.env = [(false, eval b X.env)]) :
    SI Z X W G F (.rng (.cons ia (.cons ib .nil))) tg (.Call (.Name "range" p) [a, b] [] pos) :=
  (pi_range2 hg hm (sA_cons ha (sA_cons hb sA_nil hs2) (by rw [hs, hs2])) hs hs2).imp fun σ H R ⟨w, e, S, st, f⟩ => ⟨w, e, S, st, f.bind fun ds S1 vs w1 H1 q1 x1 r1 s1 f1 => by
    have hl := evEs_len _ q1
    match ds, hl, r1, f1 with
    | [d, d2], _, .cons r (.cons r2 .nil), f1 =>
      cases d with
      | int i =>
        cases d2 with
        | int j =>
          cases r.int_of
          cases r2.int_of
          obtain ⟨xs, hr, g⟩ := Fin.of f1
          unfold rng at hr
          dsimp only at hr
          split at hr
          · rename_i hb
            cases hr
            rw [Bool.and_eq_true] at hb
            have b := rngOk_b hb.1
            have b2 := rngOk_b hb.2
            exact ⟨i, j, rfl, ⟨b.1, b.2, b2.1, b2.2⟩, g _ w1 H1 (Ext.refl _ _) (.rng i (j - i).toNat) s1⟩
          · cases hr
        | _ => exact False.elim f1
      | _ => exact False.elim f1⟩
end
/-! ### targets -/
def Tg.ids : Tg → List Nat
  | .nm i => [i]
  | .tp is => is
  | .tq is j => is ++ [j]
def setV : List Nat → List V → L2.St → L2.St
  | i :: is, v :: vs, σ => setV is vs (σ.set i (some v))
  | _, _, σ => σ
theorem wipe_set {σ : L2.St} {i : Nat} {o : Option V} : ∀ {vs : List Nat}, i ∈ vs → L2.wipe (σ.set i o) vs = L2.wipe σ vs
  | v :: vs, h => by
    unfold L2.wipe
    by_cases hm : i ∈ vs
    · rw [wipe_set hm]
    · have e : i = v := by
        rcases List.mem_cons.mp h with h | h
        · exact h
        · exact absurd h hm
      subst e
      have key : ∀ (us : List Nat) (τ : L2.St), i ∉ us → L2.wipe (τ.set i o) us = (L2.wipe τ us).set i o := by
        intro us
        induction us with
        | nil => intro τ _; rfl
        | cons u us ih =>
          intro τ hn
          unfold L2.wipe
          rw [ih τ fun z => hn (List.mem_cons_of_mem _ z), List.set_comm _ _ fun z => hn (by rw [z]; exact List.mem_cons_self)]
      rw [key vs σ hm, List.set_set]
theorem wipe_setV : ∀ {is : List Nat} {us : List V} {σ : L2.St} {vs : List Nat}, (∀ i ∈ is, i ∈ vs) → L2.wipe (setV is us σ) vs = L2.wipe σ vs
  | [], us, σ, vs, _ => by unfold setV; rfl
  | i :: is, [], σ, vs, _ => by unfold setV; rfl
  | i :: is, v :: us, σ, vs, h => by
    unfold setV
    rw [wipe_setV fun j hj => h j (List.mem_cons_of_mem _ hj), wipe_set (h i List.mem_cons_self)]
def gD (Z : Ze) (K : PySem.W.Frag) (t : Tg) : TG := fun v σ H Q => ∃ w e d e', ER K Z.fa Z.lm w H σ e ∧ RepC K Z.fa Z.lm w H v d ∧ setTg t d e = some e' ∧
  ∀ σ', ER K Z.fa Z.lm w H σ' e' → (∀ vs, (∀ i ∈ t.ids, i ∈ vs) → L2.wipe σ' vs = L2.wipe σ vs) → Q σ' H
def gNs (is : List Nat) : TGs := fun vs σ H Q => vs.length = is.length ∧ Q (setV is vs σ) H
section
variable {Z : Ze} {X : Cx} {t : Expr} {ts : List Expr}
theorem _root_.L2.PG.imp {t : Expr} {g g' : TG} (h : PG X t g) (f : ∀ v σ H Q, g' v σ H Q → g v σ H Q) : PG X t g' := ⟨fun pins s σ H v u Q I r q => h.run pins s σ H v u Q I r (f v σ H Q q)⟩
theorem _root_.L2.PGs.imp {t : List Expr} {g g' : TGs} (h : PGs X t g) (f : ∀ v σ H Q, g' v σ H Q → g v σ H Q) : PGs X t g' := ⟨fun pins s σ H v u Q I r q => h.run pins s σ H v u Q I r (f v σ H Q q)⟩
theorem sGs_nil : PGs X [] (gNs []) := pgs_nil.imp fun vs σ H Q ⟨h1, h2⟩ => by
  cases vs with
  | nil => exact ⟨rfl, h2⟩
  | cons _ _ => cases h1
theorem sGs_cons {i : Nat} {is : List Nat} (h1 : PG X t (gName i)) (h2 : PGs X ts (gNs is)) (hs : (assignEach (t :: ts) X.env).map (·.2) = assign t X.env :: (assignEach ts X.env).map (·.2)) : PGs X (t :: ts) (gNs (i :: is)) :=
  (pgs_cons h1 h2 hs).imp fun vs σ H Q ⟨h1, h2⟩ => by
    cases vs with
    | nil => cases h1
    | cons v vs => exact ⟨v, vs, rfl, by simpa using h1, h2⟩
theorem ER.setAll {K : PySem.W.Frag} {fa : Fa} {lm : Addr → Nat → Prop} {w : Wd} {H : Hp} : ∀ {is : List Nat} {vs : List V} {ds : List D} {σ : L2.St} {e e' : Env}, ER K fa lm w H σ e → RepsC K fa lm w H vs ds → Rx.setAll is ds e = some e' → ER K fa lm w H (setV is vs σ) e' ∧ ds.length = is.length
  | [], _, _, σ, e, e', er, .nil, h => by
    unfold Rx.setAll at h
    cases h
    unfold setV
    exact ⟨er, rfl⟩
  | i :: is, _, _, σ, e, e', er, .cons r t, h => by
    unfold Rx.setAll at h
    obtain ⟨h1, h2⟩ := ER.setAll (er.set r i) t h
    unfold setV
    exact ⟨h1, by simp [h2]⟩
  | [], _, _, _, _, _, _, .cons _ _, h => by unfold Rx.setAll at h; cases h
  | _ :: _, _, _, _, _, _, _, .nil, h => by unfold Rx.setAll at h; cases h
theorem sG_nm {i : Nat} (h : PG X t (gName i)) : PG X t (gD Z X.K (.nm i)) := h.imp fun v σ H Q ⟨w, e, d, e', er, r, hs, q⟩ => by
  cases hs
  exact q _ (er.set r i) fun vs hv => wipe_set (hv i (by simp [Tg.ids]))
theorem sG_tp {is : List Nat} {n : Nat} (h : PG X t (gTup X.K n (gNs is))) (hn : n = is.length) : PG X t (gD Z X.K (.tp is)) := h.imp fun v σ H Q ⟨w, e, d, e', er, r, hs, q⟩ => by
  cases d with
  | tup ds =>
    cases r with
    | of r =>
      obtain ⟨a, xs, rfl, h1, h2⟩ := r.tup_of
      obtain ⟨g1, g2⟩ := er.setAll h2.toC hs
      have hl : xs.length = is.length := by rw [h2.len]; exact g2
      exact ⟨a, xs, rfl, h1, by rw [hn]; exact hl, hl, q _ g1 fun vs hv => wipe_setV hv⟩
  | _ => cases hs
/-- ((a, b), c) -/
def gTq (K : PySem.W.Frag) (is : List Nat) (j : Nat) : TG := gTup K 2 (gCons (gTup K is.length (gNs is)) (gCons (gName j) gNil))
theorem sG_tq {is : List Nat} {j : Nat} (h : PG X t (gTq X.K is j)) : PG X t (gD Z X.K (.tq is j)) := h.imp fun v σ H Q ⟨w, e, d, e', er, r, hs, q⟩ => by
  unfold setTg at hs
  dsimp only at hs
  split at hs
  · rename_i ds d2
    cases r with
    | of r =>
      obtain ⟨a, xs, rfl, h1, h2⟩ := r.tup_of
      cases h2 with
      | cons r1 t1 =>
        cases t1 with
        | cons r2 t2 =>
          cases t2
          obtain ⟨a1, xs1, rfl, g1, g2⟩ := r1.tup_of
          cases q1 : setAll is ds e with
          | none => rw [q1] at hs; cases hs
          | some e1 =>
            rw [q1] at hs
            cases hs
            obtain ⟨k1, k2⟩ := er.setAll g2.toC q1
            have hl : xs1.length = is.length := by rw [g2.len]; exact k2
            refine ⟨a, _, rfl, h1, rfl, _, _, rfl, ⟨a1, xs1, rfl, g1, hl, hl, _, _, rfl, ⟨rfl, q _ (k1.set (.of r2) j) fun vs hv => ?_⟩⟩⟩
            rw [wipe_set (hv j (by simp [Tg.ids])), wipe_setV fun i hi => hv i (by simp [Tg.ids, hi])]
  · cases hs
end
end Rx
set_option Elab.async false
set_option linter.all false
set_option maxRecDepth 100000
/-! Rx8: comprehensions. -/
namespace Rx
open PySem PySem.Spec PyProof.Rows L2 TL
section
variable {α β γ δ : Type} {Z : Ze} {K : PySem.W.Frag} {W W' : WX} {rel : Wd → Hp → β → α → Prop} {rel' : Wd → Hp → δ → γ → Prop} {σ σ' : L2.St} {w w1 w2 : Wd} {H H1 H2 : Hp} {Q : β → Hp → Prop} {P : δ → Hp → Prop}
/-- a step without exceptions, from a state behind the one that is spoken of -/
theorem Fin.stepX {q : R γ} {g : γ → Store → R α} (f : Fin Z K W rel σ w1 H1 (q.nox.bind g) Q)
    (k : ∀ c S1 d w3 H3, q = .ok c S1 → Ext w2 H2 w3 H3 → rel' w3 H3 d c → SR K Z.fa w3 H3 S1 → Fin Z K W rel σ w1 H1 (g c S1) Q → P d H3) : Fin Z K W' rel' σ' w2 H2 q P := by
  cases q with
  | ok c S1 => exact fun d w3 H3 x rr s1 => k c S1 d w3 H3 rfl x rr s1 f
  | ex k p S' => exact False.elim f
  | st => exact False.elim f
end
/-! ### the list that is filled -/
section
variable {Z : Ze} {K : PySem.W.Frag} {w w' : Wd} {H H' : Hp}
mutual
theorem Rep.fewer (hr : ∀ (l : Nat) (a : Addr), w.rho[l]? = some a → w'.rho[l]? = some a) (hs : ∀ a ∈ w'.res, a ∈ w.res) : ∀ {v : V} {d : D}, Rep K Z.fa w H v d → Rep K Z.fa w' H v d
  | _, _, .non => .non
  | _, _, .bl b => .bl b
  | _, _, .int i => .int i
  | _, _, .str h o => .str h o
  | _, _, .tup h r => .tup h (Reps.fewer hr hs r)
  | _, _, .lst h n r => .lst h (fun z => n (hs _ z)) (Reps.fewer hr hs r)
  | _, _, .scr h => .scr (h.fewer hs)
  | _, _, .ref h => .ref (hr _ _ h)
  | _, _, .fn f => .fn f
theorem Reps.fewer (hr : ∀ (l : Nat) (a : Addr), w.rho[l]? = some a → w'.rho[l]? = some a) (hs : ∀ a ∈ w'.res, a ∈ w.res) : ∀ {vs : List V} {ds : List D}, Reps K Z.fa w H vs ds → Reps K Z.fa w' H vs ds
  | _, _, .nil => .nil
  | _, _, .cons r t => .cons (Rep.fewer hr hs r) (Reps.fewer hr hs t)
end
def Wd.with (w : Wd) (D : Addr) : Wd := ⟨w.rho, D :: w.old, w.tb⟩
def Wd.less (w : Wd) (D : Addr) : Wd := ⟨w.rho, w.old.filter (fun a => decide (a ≠ D)), w.tb⟩
theorem with_mem {w : Wd} {D a : Addr} : a ∈ (w.with D).res ↔ a = D ∨ a ∈ w.res := by
  unfold Wd.with Wd.res
  simp [or_left_comm]
theorem less_mem {w : Wd} {D a : Addr} (h : D ∉ w.rho) : a ∈ (w.less D).res ↔ a ∈ w.res ∧ a ≠ D := by
  unfold Wd.less Wd.res
  rw [List.mem_append, List.mem_append, List.mem_filter]
  constructor
  · rintro (z | ⟨z, q⟩)
    · exact ⟨.inl z, fun e => h (by rw [← e]; exact z)⟩
    · exact ⟨.inr z, of_decide_eq_true q⟩
  · rintro ⟨z | z, q⟩
    · exact .inl z
    · exact .inr ⟨z, decide_eq_true q⟩
theorem less_sub {w : Wd} {D : Addr} : ∀ a ∈ (w.less D).res, a ∈ w.res := fun a ha => by
  rcases List.mem_append.mp ha with z | z
  · exact List.mem_append_left _ z
  · exact List.mem_append_right _ (List.mem_filter.mp z).1
theorem Ext.filled {D : Addr} {xs : List V} (hp : H D = none) : Ext w H (w.with D) (L2.upd H D (.lst xs)) := by
  have e := Ext.upd w (.lst xs) hp
  refine ⟨⟨[], by simp [Wd.with], by simp⟩, fun a h => with_mem.mpr (.inr h), fun a h => ?_, e.trk, e.tups, e.frzs, e.exts, e.lsts, rfl, e.tabs⟩
  rcases with_mem.mp h with h | h
  · exact .inr (by rw [h]; exact .none hp)
  · exact .inl h
theorem SR.filled {S : Store} (s : SR K Z.fa w H S) {D : Addr} {xs : List V} (hp : H D = none) : SR K Z.fa (w.with D) (L2.upd H D (.lst xs)) S := by
  have e := Ext.filled (w := w) (xs := xs) hp
  have s1 := s.upd (.lst xs) hp
  refine ⟨s.len, s.nd, fun a ha => ?_, tab_on s.tab e.tb e.tabs, fun l u a h1 h2 => ?_⟩
  · rcases with_mem.mp ha with h | h
    · exact ⟨xs, by rw [h]; exact upd_same⟩
    · exact s1.trk a h
  · cases s.at_ l u a h1 h2 with
    | lst h r => exact .lst (by rw [upd_ne (fun z => by rw [z, hp] at h; cases h)]; exact h) (r.ext e)
/-- the list L as it stands -/
def relAcc (Z : Ze) (K : PySem.W.Frag) (L : Addr) (w : Wd) (H : Hp) (_ : Unit) (acc : List Rx.D) : Prop := ∃ accV, H L = some (.lst accV) ∧ Reps K Z.fa w H accV acc ∧ L ∈ w.res ∧ L ∉ w.rho
/-- behind the base, where L was not there -/
structure Bhd (L : Addr) (w : Wd) (H : Hp) (w' : Wd) (H' : Hp) : Prop where
  x : Ext w H w' H'
  n : H L = none
theorem Bhd.ext {L : Addr} {w w1 w2 : Wd} {H H1 H2 : Hp} (b : Bhd L w H w1 H1) (x : Ext w1 H1 w2 H2) : Bhd L w H w2 H2 := ⟨b.x.trans x, b.n⟩
theorem Bhd.put {L : Addr} {w w1 : Wd} {H H1 : Hp} (b : Bhd L w H w1 H1) {ys : List V} (hy : H1 L = some (.lst ys)) (o : HO) : Bhd L w H w1 (L2.upd H1 L o) := by
  have ne : ∀ a, H a ≠ none → a ≠ L := fun a h z => h (by rw [z]; exact b.n)
  have nL : ∀ a o, H a = some o → a ≠ L := fun a o h => ne a (by rw [h]; simp)
  have e := b.x
  refine ⟨⟨e.rho, e.sub, e.new, fun a h => ?_, fun a _ h => ?_, fun a _ _ h => ?_, fun a _ h => ?_, fun a _ h n => ?_, e.tb, fun P q m h => tabS_of (fun a _ h => ?_) (fun a _ h => ?_) P q m (e.tabs P q m h)⟩, b.n⟩
  · by_cases z : a = L
    · rw [z]; exact .none b.n
    · exact e.trk a fun o q => h o (by rw [upd_ne z]; exact q)
  · rw [upd_ne (ne a (by rw [h]; simp))]; exact e.tups a _ h
  · rw [upd_ne (ne a (by rw [h]; simp))]; exact e.frzs a _ _ h
  · rw [upd_ne (ne a (by rw [h]; simp))]; exact e.exts a _ h
  · rw [upd_ne (ne a (by rw [h]; simp))]; exact e.lsts a _ h n
  · rw [upd_ne (fun z => by rw [z, hy] at h; cases h)]; exact h
  · rw [upd_ne (fun z => by rw [z, hy] at h; cases h)]; exact h
theorem Bhd.done {L : Addr} {w w1 : Wd} {H H1 : Hp} {S : Store} (s : SR K Z.fa w H S) (b : Bhd L w H w1 H1) (hn : L ∉ w1.rho) : Ext w H (w1.less L) H1 := by
  have e := b.x
  have nD := s.res_none b.n
  refine ⟨e.rho, fun a ha => (less_mem hn).mpr ⟨e.sub a ha, fun z => nD (by rw [← z]; exact ha)⟩, fun a ha => e.new a (less_sub a ha), e.trk, e.tups, e.frzs, e.exts, e.lsts, e.tb, e.tabs⟩
/-! what stands while L is written -/
section
variable {L : Addr} {ys xs : List V}
mutual
theorem Rep.put (hL : L ∈ w.res) (hy : H L = some (.lst ys)) : ∀ {v : V} {d : D}, Rep K Z.fa w H v d → Rep K Z.fa w (L2.upd H L (.lst xs)) v d
  | _, _, .non => .non
  | _, _, .bl b => .bl b
  | _, _, .int i => .int i
  | _, _, .str h o => .str h o
  | _, _, .tup h r => .tup (by
      rcases h with (h | ⟨o, h⟩) | h
      · exact .inl (.inl (by rw [upd_ne (fun z => by rw [z, hy] at h; cases h)]; exact h))
      · exact .inl (.inr ⟨o, by rw [upd_ne (fun z => by rw [z, hy] at h; cases h)]; exact h⟩)
      · exact .inr h) (Reps.put hL hy r)
  | _, _, .lst h n r => .lst (by rw [upd_ne (fun z => n (by rw [z]; exact hL))]; exact h) n (Reps.put hL hy r)
  | _, _, .scr h => .scr (by
      rcases h with ⟨h | ⟨o, h⟩, n⟩ | h
      · exact .inl ⟨.inl (by rw [upd_ne (fun z => n (by rw [z]; exact hL))]; exact h), n⟩
      · exact .inl ⟨.inr ⟨o, by rw [upd_ne (fun z => n (by rw [z]; exact hL))]; exact h⟩, n⟩
      · exact .inr h)
  | _, _, .ref h => .ref h
  | _, _, .fn f => .fn f
theorem Reps.put (hL : L ∈ w.res) (hy : H L = some (.lst ys)) : ∀ {vs : List V} {ds : List D}, Reps K Z.fa w H vs ds → Reps K Z.fa w (L2.upd H L (.lst xs)) vs ds
  | _, _, .nil => .nil
  | _, _, .cons r t => .cons (Rep.put hL hy r) (Reps.put hL hy t)
end
theorem SR.putL {S : Store} (s : SR K Z.fa w H S) (hL : L ∈ w.res) (hr : L ∉ w.rho) (hy : H L = some (.lst ys)) : SR K Z.fa w (L2.upd H L (.lst xs)) S := by
  refine ⟨s.len, s.nd, fun a ha => ?_, tab_on s.tab rfl (tabS_of (fun a _ h => by rw [upd_ne (fun z => by rw [z, hy] at h; cases h)]; exact h) (fun a _ h => by rw [upd_ne (fun z => by rw [z, hy] at h; cases h)]; exact h)), fun l u a h1 h2 => ?_⟩
  · by_cases z : a = L
    · exact ⟨xs, by rw [z]; exact upd_same⟩
    · rw [upd_ne z]; exact s.trk a ha
  · cases s.at_ l u a h1 h2 with
    | lst h r => exact .lst (by rw [upd_ne (fun z => hr (by rw [← z]; exact List.mem_of_getElem? h2))]; exact h) (r.put hL hy)
theorem RepC.putL (hL : L ∈ w.res) (hy : H L = some (.lst ys)) {v : V} {d : D} (r : RepC K Z.fa Z.lm w H v d) : RepC K Z.fa Z.lm w (L2.upd H L (.lst xs)) v d := by
  cases r with
  | of r => exact .of (r.put hL hy)
  | clo h => exact .clo h
theorem ER.putL (hL : L ∈ w.res) (hy : H L = some (.lst ys)) : ∀ {σ : L2.St} {e : Env}, ER K Z.fa Z.lm w H σ e → ER K Z.fa Z.lm w (L2.upd H L (.lst xs)) σ e
  | _, _, .nil => .nil
  | _, _, .no o t => .no o (ER.putL hL hy t)
  | _, _, .yes r t => .yes (r.putL hL hy) (ER.putL hL hy t)
theorem Itm.putL (hL : L ∈ w.res) (hy : H L = some (.lst ys)) {J : It} {ds : List D} (t : Itm Z K w H J ds) : Itm Z K w (L2.upd H L (.lst xs)) J ds := by
  have ll : ∀ {a : Addr} {zs : List V}, H a = some (.lst zs) → a ∉ w.res → L2.upd H L (.lst xs) a = some (.lst zs) := fun h n => by rw [upd_ne (fun z => n (by rw [z]; exact hL))]; exact h
  have tt : ∀ {a : Addr} {zs : List V}, SqT K H a zs → SqT K (L2.upd H L (.lst xs)) a zs := fun h => by
    rcases h with (h | ⟨o, h⟩) | h
    · exact .inl (.inl (by rw [upd_ne (fun z => by rw [z, hy] at h; cases h)]; exact h))
    · exact .inl (.inr ⟨o, by rw [upd_ne (fun z => by rw [z, hy] at h; cases h)]; exact h⟩)
    · exact .inr h
  cases t with
  | list h n r => exact .list (ll h n) n (r.put hL hy)
  | tup h r => exact .tup (tt h) (r.put hL hy)
  | str o => exact .str o
  | rng lo n => exact .rng lo n
  | enm h n r => exact .enm (ll h n) n (r.put hL hy)
  | zipL h n r h2 n2 r2 => exact .zipL (ll h n) n (r.put hL hy) (ll h2 n2) n2 (r2.put hL hy)
  | zipT h r h2 r2 => exact .zipT (tt h) (r.put hL hy) (tt h2) (r2.put hL hy)
theorem relAcc.ext {w' : Wd} {H' : Hp} {acc : List D} (a : relAcc Z K L w H () acc) (x : Ext w H w' H') : relAcc Z K L w' H' () acc := by
  obtain ⟨accV, h1, h2, h3, h4⟩ := a
  refine ⟨accV, x.lsts _ _ h1 h4, h2.ext x, x.sub _ h3, fun z => ?_⟩
  obtain ⟨m, e1, n1⟩ := x.rho
  rw [e1] at z
  rcases List.mem_append.mp z with z | z
  · exact h4 z
  · exact absurd (n1 L z) (nfre h1 (fun ps z => by cases z))
end
theorem SR.less {S : Store} {D : Addr} (s : SR K Z.fa w H S) : SR K Z.fa (w.less D) H S := by
  refine ⟨s.len, s.nd, fun a ha => s.trk a (less_sub a ha), s.tab, fun l u a h1 h2 => ?_⟩
  cases s.at_ l u a h1 h2 with
  | lst h r => exact .lst h (Reps.fewer (w := w) (w' := w.less D) (fun _ _ h => h) less_sub r)
/-- the end: a list as a value -/
theorem acc_end {S : Store} {L : Addr} {w1 w : Wd} {H1 H : Hp} {acc : List Rx.D} {S' : Store} {Q : VK} {W : WX} {σ : L2.St} (s : SR K Z.fa w1 H1 S) (b : Bhd L w1 H1 w H) (a : relAcc Z K L w H () acc) (s' : SR K Z.fa w H S')
    (f : Fin Z K W (relE Z K) σ w1 H1 (.ok (.lst acc) S') Q) : Q (.ref L) H := by
  obtain ⟨accV, h1, h2, h3, h4⟩ := a
  exact f _ _ _ (b.done s h4) (.of (.lst h1 (fun z => ((less_mem h4).mp z).2 rfl) (Reps.fewer (w := w) (w' := w.less L) (fun _ _ h => h) less_sub h2))) s'.less
/-- the end: a list of the store -/
theorem acc_endA {S : Store} {L : Addr} {w1 w : Wd} {H1 H : Hp} {acc : List Rx.D} {S' : Store} {Q : VK} {W : WX} {σ : L2.St} (s : SR K Z.fa w1 H1 S) (b : Bhd L w1 H1 w H) (a : relAcc Z K L w H () acc) (s' : SR K Z.fa w H S')
    (f : Fin Z K W (relE Z K) σ w1 H1 (.ok (.ref S'.length) (S' ++ [.lst acc])) Q) : Q (.ref L) H := by
  obtain ⟨accV, h1, h2, h3, h4⟩ := a
  have rs : ∀ c, c ∈ (⟨w.rho ++ [L], w.old, w.tb⟩ : Wd).res ↔ c ∈ w.res := fun c => by
    rw [res_alc]
    exact ⟨fun z => z.elim id fun e => by rw [e]; exact h3, .inl⟩
  have y2 : Ext w1 H1 ⟨w.rho ++ [L], w.old, w.tb⟩ H := by
    obtain ⟨more, e1, n1⟩ := b.x.rho
    refine ⟨⟨more ++ [L], by show w.rho ++ [L] = _; rw [← List.append_assoc, ← e1], fun c hc => ?_⟩, fun c hc => (rs c).mpr (b.x.sub c hc), fun c hc => b.x.new c ((rs c).mp hc), b.x.trk, b.x.tups, b.x.frzs, b.x.exts, b.x.lsts, b.x.tb, b.x.tabs⟩
    rcases List.mem_append.mp hc with hc | hc
    · exact n1 c hc
    · rw [List.mem_singleton.mp hc]
      exact .none b.n
  have er : ∀ {xs : List V} {ds : List Rx.D}, Reps K Z.fa w H xs ds → Reps K Z.fa ⟨w.rho ++ [L], w.old, w.tb⟩ H xs ds := fun r => Reps.fewer (w := w) (w' := ⟨w.rho ++ [L], w.old, w.tb⟩) (fun l a h => by
    show (w.rho ++ [L])[l]? = some a
    rw [List.getElem?_append_left (List.getElem?_eq_some_iff.mp h).1]
    exact h) (fun c hc => (rs c).mp hc) r
  refine f _ _ _ y2 (.of (.ref (by
    show (w.rho ++ [L])[S'.length]? = some L
    rw [s'.len]
    simp))) ⟨by simp [s'.len], ?_, fun c hc => s'.trk c ((rs c).mp hc), s'.tab, fun l u c g1 g2 => ?_⟩
  · rw [List.nodup_append]
    refine ⟨s'.nd, by simp, fun c hc c2 hc2 z => h4 ?_⟩
    rw [← List.mem_singleton.mp hc2, ← z]
    exact hc
  · by_cases hl : l < S'.length
    · rw [List.getElem?_append_left hl] at g1
      rw [List.getElem?_append_left (by rw [← s'.len]; exact hl)] at g2
      cases s'.at_ l u c g1 g2 with
      | lst h r => exact .lst h (er r)
    · have hl2 : l = S'.length := by
        have q := (List.getElem?_eq_some_iff.mp g1).1
        simp at q
        omega
      subst hl2
      simp at g1
      rw [s'.len] at g2
      simp at g2
      subst g1 g2
      exact .lst h1 (er h2)
end
theorem wipe_wipe (σ : L2.St) (own : List Nat) : L2.wipe (L2.wipe σ own) own = L2.wipe σ own := by
  have key : ∀ (us : List Nat) (τ : L2.St), (∀ u ∈ us, u ∈ own) → L2.wipe (L2.wipe τ us) own = L2.wipe τ own := by
    intro us
    induction us with
    | nil => intro τ _; rfl
    | cons u us ih =>
      intro τ h
      show L2.wipe ((L2.wipe τ us).set u none) own = _
      rw [wipe_set (h u (by simp)), ih τ fun v hv => h v (List.mem_cons_of_mem _ hv)]
  exact key own σ fun _ h => h
abbrev tstC (G : Nat → Option D) (F : Orc) (c : Op) : Env → Store → R Bool := fun e S => (evC G F c e S).bind fun t S => R.of (truth S t) S
/-! ### the loop of a clause that fills -/
section
variable {Z : Ze} {K : PySem.W.Frag} {G : Nat → Option D} {F : Orc} {J : It} {xs : List D} {wb w1 : Wd} {Hb H1 : Hp} {S1 : Store} {σ σb : L2.St} {e : Env} {acc : List D} {L : Addr} {P : Hp → Prop} {own : List Nat} {tg : Tg} {c : Op} {elt : E}
theorem fill (b : Bhd L wb Hb w1 H1) (it : Itm Z K w1 H1 J xs) (s1 : SR K Z.fa w1 H1 S1) (a1 : relAcc Z K L w1 H1 () acc) (er : ER K Z.fa Z.lm w1 H1 σ e) (hsub : ∀ i ∈ tg.ids, i ∈ own)
    (f : Fin Z K WF (relAcc Z K L) σb wb Hb (compL (fun x => setTg tg x (Rx.wipe e own)) (evC G F c) (evE G F elt) xs acc S1) (fun _ H => P H)) :
    ∃ W : Nat → Nat → Hp → Prop, (∃ m, W 0 m H1) ∧ ∀ i m H, W i m H →
      (J.stop i H ∧ P H) ∨ (J.go i H ∧ ∃ Nx : Hp → Prop, (∀ H', Nx H' → ∃ m', m' < m ∧ W (i + 1) m' H') ∧ ∀ x H', J.yld i H x H' → gD Z K tg x (L2.wipe σ own) H' fun σ2 H2 => L2.wipe σ2 own = L2.wipe σ own ∧
        tT Z K WF (tstC G F c) σ2 H2 fun b H3 => if b = true then tE Z K WF (evE G F elt) σ2 H3 fun y H4 => ∃ acc, H4 L = some (.lst acc) ∧ acc.length < sizeLine ∧ Nx (L2.upd H4 L (.lst (acc ++ [y]))) else Nx H3) := by
  let Wf : Nat → Hp → Prop := fun i H => ∃ w S acc, Bhd L wb Hb w H ∧ Itm Z K w H J xs ∧ SR K Z.fa w H S ∧ relAcc Z K L w H () acc ∧ ER K Z.fa Z.lm w H σ e ∧ i ≤ xs.length ∧
    Fin Z K WF (relAcc Z K L) σb wb Hb (compL (fun x => setTg tg x (Rx.wipe e own)) (evC G F c) (evE G F elt) (xs.drop i) acc S) (fun _ H => P H)
  refine ⟨fun i m H => m = xs.length - i ∧ Wf i H, ⟨_, rfl, w1, S1, acc, b, it, s1, a1, er, Nat.zero_le _, f⟩, ?_⟩
  rintro i m H ⟨rfl, w, S, acc, b, it, s, a, er, hi, f⟩
  obtain ⟨t1, t2⟩ := it.turn i
  by_cases hlt : i < xs.length
  · refine .inr ?_
    have hd := List.drop_eq_getElem_cons hlt
    obtain ⟨go, ty⟩ := t1 xs[i] (List.getElem?_eq_getElem hlt)
    refine ⟨go, Wf (i + 1), fun H' p => ⟨xs.length - (i + 1), by omega, rfl, p⟩, fun y H' hy => ?_⟩
    obtain ⟨x', sr', ry⟩ := ty y H' hy
    rw [hd] at f
    obtain ⟨e', he', f⟩ := Fin.asO f
    have b' := b.ext x'
    have it' := it.ext x'
    have s' := sr' S s
    have a' := a.ext x'
    have er' := er.ext x'
    refine ⟨w, Rx.wipe e own, _, e', er'.wipe own, .of ry, he', fun σ2 er2 hw => ⟨(by
      rw [hw own hsub]
      exact wipe_wipe σ own), w, e', S, ⟨er2, s'⟩, ?_⟩⟩
    -- the test
    have f2 : Fin Z K WF (relAcc Z K L) σb wb Hb ((tstC G F c e' S).nox.bind fun k S1 => Rx.two k ((evE G F elt e' S1).nox.bind fun d S2 => Rx.gd (decide (acc.length < sizeL) && noC d) (compL (fun x => setTg tg x (Rx.wipe e own)) (evC G F c) (evE G F elt) (xs.drop (i + 1)) (acc ++ [d]) S2))
        (compL (fun x => setTg tg x (Rx.wipe e own)) (evC G F c) (evE G F elt) (xs.drop (i + 1)) acc S1)) (fun _ H => P H) := by
      show Fin _ _ _ _ _ _ _ (((evC G F c e' S).bind fun t S => R.of (truth S t) S).nox.bind _) _
      cases q : evC G F c e' S with
      | ok t S1 =>
        rw [q] at f
        simp only [R.bind_ok, R.nox_ok] at f ⊢
        cases q2 : truth S1 t with
        | none => rw [q2] at f; exact f
        | some k => rw [q2] at f; exact f
      | ex k p S' => rw [q] at f; exact f
      | st => rw [q] at f; exact f
    refine f2.stepX fun k S1 k' w2 H2 q1 x2 r2 s2 f3 => ?_
    have r2 : k' = k := r2
    subst r2
    cases k' with
    | false =>
      exact ⟨w2, S1, acc, b'.ext x2, it'.ext x2, s2, a'.ext x2, er'.ext x2, hlt, f3⟩
    | true =>
      refine ⟨w2, e', S1, ⟨er2.ext x2, s2⟩, ?_⟩
      refine Fin.stepX f3 fun d S2 v w3 H3 q3 x3 r3 s3 f4 => ?_
      obtain ⟨hg, f4⟩ := f4.gd
      rw [Bool.and_eq_true] at hg
      have hlen := of_decide_eq_true hg.1
      obtain ⟨accV, h1, h2, h3, h4⟩ := (a'.ext x2).ext x3
      have rv := r3.rep hg.2
      have hl : accV.length < sizeLine := by
        rw [h2.len, sizeLine_eq]
        exact hlen
      refine ⟨accV, h1, hl, w3, S2, acc ++ [d], ((b'.ext x2).ext x3).put h1 _, ((it'.ext x2).ext x3).putL h3 h1, s3.putL h3 h4 h1, ⟨_, upd_same, (h2.append (.cons rv .nil)).put h3 h1, h3, h4⟩, ((er'.ext x2).ext x3).putL h3 h1, hlt, f4⟩
  · have e0 : i = xs.length := by omega
    subst e0
    rw [List.drop_length] at f
    exact .inl ⟨t2 (Nat.le_refl _), f () w H b.x a s⟩
end
/-! ### comprehensions -/
section
variable {Z : Ze} {K : PySem.W.Frag} {W : WX} {G : Nat → Option D} {F : Orc} {own own2 : List Nat} {tg tg2 : Tg} {it it2 : I} {c : Op} {elt : E} {ia : E}
/-- what a comprehension's list becomes -/
def fin1 (alc : Bool) (ds : List D) (S : Store) : R D := match alc with
  | true => .ok (.ref S.length) (S ++ [.lst ds])
  | false => .ok (.lst ds) S
theorem acc_fin {alc : Bool} {S : Store} {L : Addr} {w1 w : Wd} {H1 H : Hp} {acc : List Rx.D} {S' : Store} {Q : VK} {σ : L2.St} (s : SR K Z.fa w1 H1 S) (b : Bhd L w1 H1 w H) (a : relAcc Z K L w H () acc) (s' : SR K Z.fa w H S')
    (f : Fin Z K W (relE Z K) σ w1 H1 (fin1 alc acc S') Q) : Q (.ref L) H := by
  cases alc with
  | true => exact acc_endA s b a s' f
  | false => exact acc_end s b a s' f
theorem fill_end {alc : Bool} {S1 : Store} {L : Addr} {w1 : Wd} {H1 : Hp} {σ σ' : L2.St} {q : R (List D)} {Q : VK} (s1 : SR K Z.fa w1 H1 S1) (hp : H1 L = none) (f : Fin Z K W (relE Z K) σ w1 H1 (q.nox.bind (fin1 alc)) Q) :
    Fin Z K WF (relAcc Z K L) σ' w1 H1 q (fun _ H => Q (.ref L) H) := by
  cases q with
  | ok ds S' => exact fun _ w' H' x a s' => acc_fin s1 ⟨x, hp⟩ a s' f
  | ex k p S' => exact False.elim f
  | st => exact False.elim f
theorem comp_imp {alc : Bool} {f : Env → Store → R D} (hf : ∀ e S, f e S = (evI G F it e S).bind fun xs S => (compL (fun x => setTg tg x (Rx.wipe e own)) (evC G F c) (evE G F elt) xs [] S).nox.bind (fin1 alc)) (hsub : ∀ i ∈ tg.ids, i ∈ own) :
    ∀ σ H Q, tE Z K W f σ H Q → tLc (tI Z K W (evI G F it)) (gD Z K tg) (tT Z K WF (tstC G F c)) (tE Z K WF (evE G F elt)) own σ H Q := by
  rintro σ H Q ⟨w, e, S, st, f0⟩
  rw [hf] at f0
  refine ⟨w, e, S, st, f0.bind fun xs S1 J w1 H1 q1 x1 r1 s1 f1 L hL => ?_⟩
  have xf := Ext.filled (w := w1) (xs := []) hL
  refine fill (wb := w1) (Hb := H1) (σb := σ) ⟨xf, hL⟩ (r1.ext xf) (s1.filled hL) ⟨[], upd_same, .nil, with_mem.mpr (.inl rfl), fun z => s1.res_none hL (List.mem_append_left _ z)⟩ ((st.er.ext x1).ext xf) hsub (fill_end s1 hL f1)
theorem comp2_imp {alc : Bool} {f : Env → Store → R D} (hf : ∀ e S, f e S = (evI G F it e S).bind fun xs S => (compL2 (fun x => setTg tg x (Rx.wipe e own)) (fun acc e1 S1 => (evI G F it2 e1 S1).bind fun ys S2 =>
      compL (fun y => setTg tg2 y (Rx.wipe e1 own2)) (evC G F c) (evE G F elt) ys acc S2) xs [] S).nox.bind (fin1 alc)) (hsub : ∀ i ∈ tg.ids, i ∈ own) (hsub2 : ∀ i ∈ tg2.ids, i ∈ own2) :
    ∀ σ H Q, tE Z K W f σ H Q → tLc2 (tI Z K W (evI G F it)) (gD Z K tg) tYes (tI Z K WF (evI G F it2)) (gD Z K tg2) (tT Z K WF (tstC G F c)) (tE Z K WF (evE G F elt)) own own2 σ H Q := by
  rintro σ H Q ⟨w, e, S, st, f0⟩
  rw [hf] at f0
  refine ⟨w, e, S, st, f0.bind fun xs S1 J w1 H1 q1 x1 r1 s1 f1 L hL => ?_⟩
  have xf := Ext.filled (w := w1) (xs := []) hL
  have f2 := fill_end (σ' := σ) s1 hL f1
  let Wf : Nat → Hp → Prop := fun i H => ∃ w S acc, Bhd L w1 H1 w H ∧ Itm Z K w H J xs ∧ SR K Z.fa w H S ∧ relAcc Z K L w H () acc ∧ ER K Z.fa Z.lm w H σ e ∧ i ≤ xs.length ∧
    Fin Z K WF (relAcc Z K L) σ w1 H1 (compL2 (fun x => setTg tg x (Rx.wipe e own)) (fun acc e1 S1 => (evI G F it2 e1 S1).bind fun ys S2 => compL (fun y => setTg tg2 y (Rx.wipe e1 own2)) (evC G F c) (evE G F elt) ys acc S2) (xs.drop i) acc S) (fun _ H => Q (.ref L) H)
  refine ⟨fun i m H => m = xs.length - i ∧ Wf i H, ⟨_, rfl, w1.with L, S1, [], ⟨xf, hL⟩, r1.ext xf, s1.filled hL, ⟨[], upd_same, .nil, with_mem.mpr (.inl rfl), fun z => s1.res_none hL (List.mem_append_left _ z)⟩, (st.er.ext x1).ext xf, Nat.zero_le _, f2⟩, ?_⟩
  rintro i m H ⟨rfl, w, S, acc, b, itm, s, a, er, hi, f⟩
  obtain ⟨t1, t2⟩ := itm.turn i
  by_cases hlt : i < xs.length
  · refine .inr ?_
    have hd := List.drop_eq_getElem_cons hlt
    obtain ⟨go, ty⟩ := t1 xs[i] (List.getElem?_eq_getElem hlt)
    refine ⟨go, Wf (i + 1), fun H' p => ⟨xs.length - (i + 1), by omega, rfl, p⟩, fun y H' hy => ?_⟩
    obtain ⟨x', sr', ry⟩ := ty y H' hy
    rw [hd] at f
    obtain ⟨e', he', f⟩ := Fin.asO f
    have b' := b.ext x'
    have itm' := itm.ext x'
    have s' := sr' S s
    have a' := a.ext x'
    have er' := er.ext x'
    refine ⟨w, Rx.wipe e own, _, e', er'.wipe own, .of ry, he', fun σ2 er2 hw => ⟨(by
      rw [hw own hsub]
      exact wipe_wipe σ own), ?_⟩⟩
    unfold tYes
    refine (if_pos (rfl : true = true)).mpr ?_
    refine ⟨w, e', S, ⟨er2, s'⟩, ?_⟩
    have f3 : Fin Z K WF (relAcc Z K L) σ w1 H1 ((evI G F it2 e' S).nox.bind fun ys S2 => (compL (fun y => setTg tg2 y (Rx.wipe e' own2)) (evC G F c) (evE G F elt) ys acc S2).nox.bind fun acc1 S1 =>
        compL2 (fun x => setTg tg x (Rx.wipe e own)) (fun acc e1 S1 => (evI G F it2 e1 S1).bind fun ys S2 => compL (fun y => setTg tg2 y (Rx.wipe e1 own2)) (evC G F c) (evE G F elt) ys acc S2) (xs.drop (i + 1)) acc1 S1) (fun _ H => Q (.ref L) H) := by
      dsimp only at f
      cases q : evI G F it2 e' S with
      | ok t S1 =>
        rw [q] at f
        exact f
      | ex k p S' => rw [q] at f; exact f
      | st => rw [q] at f; exact f
    refine f3.stepX fun ys S2 J1 w2 H2 q2 x2 r2 s2 f4 => ?_
    have er2' := er2.ext x2
    refine fill (wb := w1) (Hb := H1) (σb := σ) (P := Wf (i + 1)) (b'.ext x2) r2 s2 (a'.ext x2) er2' hsub2 ?_
    refine Fin.stepX (rel' := relAcc Z K L) f4 fun acc1 S3 _ w3 H3 q3 x3 r3 s3 f5 => ?_
    exact ⟨w3, S3, acc1, ⟨x3, hL⟩, r1.ext x3, s3, r3, (st.er.ext x1).ext x3, hlt, f5⟩
  · have e0 : i = xs.length := by omega
    subst e0
    rw [List.drop_length] at f
    exact .inl ⟨t2 (Nat.le_refl _), f () w H b.x a s⟩
end
end Rx
set_option Elab.async false
set_option linter.all false
set_option maxRecDepth 100000
/-! Rx9: comprehensions and calls as expressions, statements. -/
namespace Rx
open PySem PySem.Spec PyProof.Rows L2 TL
section
variable {Z : Ze} {X : Cx} {W : WX} {G : Nat → Option D} {F : Orc} {tge iter elte tge2 iter2 : Expr} {ifs ifs2 : List Expr} {scope : Scope} {pos : Pos} {own : List (Str × Nat)} {own2 : List Nat} {tg tg2 : Tg} {it it2 : I} {c : Op} {elt : E}
/-- a clause within a block -/
structure Blk (X : Cx) (scope : Scope) (φ : Cx → Prop) : Prop where
  all : ∀ (s : Shared) (H : Hp) (C : Addr) (cl : List (Str × Addr)) (fp : List Addr), φ (X.blk s H scope (compEnvC scope cl C X.env) fp)
abbrev SCs (Z : Ze) (X : Cx) (G : Nat → Option D) (F : Orc) (c : Op) (ifs : List Expr) : Prop := PTs X ifs (tT Z X.K WF (tstC G F c))
theorem sCs_no : SCs Z X G F .no [] := pts_nil.imp fun σ H Q ⟨w, e, S, st, f⟩ => Fin.now f st.sr rfl
theorem sCs_yes {ia : E} {a : Expr} (h : ST Z X WF G F ia a) : SCs Z X G F (.yes ia) [a] := pts_one h
structure CompOk (Z : Ze) (X : Cx) (W : WX) (G : Nat → Option D) (F : Orc) (own : List (Str × Nat)) (tg : Tg) (it : I) (elt : E) (c : Op) (tge iter elte : Expr) (ifs : List Expr) (scope : Scope) : Prop where
  ok : BlkOk X.N X.env.scope scope own
  hi : SI Z X W G F it tge iter
  hg : Blk X scope fun Y => PG Y tge (gD Z Y.K tg)
  ht : Blk X scope fun Y => SCs Z Y G F c ifs
  he : Blk X scope fun Y => SE Z Y WF G F elt elte
  hsub : ∀ i ∈ tg.ids, i ∈ own.map (·.2)
  hs : ∀ x, foldedSetIterable iter X.env x = pure x
structure Comp2Ok (Z : Ze) (X : Cx) (W : WX) (G : Nat → Option D) (F : Orc) (own : List (Str × Nat)) (own2 : List Nat) (tg tg2 : Tg) (it it2 : I) (elt : E) (c : Op) (tge iter tge2 iter2 elte : Expr) (ifs : List Expr) (scope : Scope) : Prop where
  ok : BlkOk X.N X.env.scope scope own
  hv : ∀ i ∈ own2, i ∈ own.map (·.2)
  hi : SI Z X W G F it tge iter
  hg : Blk X scope fun Y => PG Y tge (gD Z Y.K tg)
  hi2 : Blk X scope fun Y => SI Z Y WF G F it2 tge2 iter2
  hg2 : Blk X scope fun Y => PG Y tge2 (gD Z Y.K tg2)
  ht : Blk X scope fun Y => SCs Z Y G F c ifs
  he : Blk X scope fun Y => SE Z Y WF G F elt elte
  hsub : ∀ i ∈ tg.ids, i ∈ own.map (·.2)
  hsub2 : ∀ i ∈ tg2.ids, i ∈ own2
  hs : ∀ x, foldedSetIterable iter X.env x = pure x
  hs2 : ∀ env x, foldedSetIterable iter2 env x = pure x
abbrev tcomp (Z : Ze) (K : PySem.W.Frag) (W : WX) (G : Nat → Option D) (F : Orc) (own : List (Str × Nat)) (tg : Tg) (it : I) (elt : E) (c : Op) : TE := tLc (tI Z K W (evI G F it)) (gD Z K tg) (tT Z K WF (tstC G F c)) (tE Z K WF (evE G F elt)) (own.map (·.2))
abbrev tcomp2 (Z : Ze) (K : PySem.W.Frag) (W : WX) (G : Nat → Option D) (F : Orc) (own : List (Str × Nat)) (own2 : List Nat) (tg tg2 : Tg) (it it2 : I) (elt : E) (c : Op) : TE := tLc2 (tI Z K W (evI G F it)) (gD Z K tg) tYes (tI Z K WF (evI G F it2)) (gD Z K tg2) (tT Z K WF (tstC G F c)) (tE Z K WF (evE G F elt)) (own.map (·.2)) own2
theorem comp_v {K : PySem.W.Frag} (hsub : ∀ i ∈ tg.ids, i ∈ own.map (·.2)) : ∀ σ H Q, tE Z K W (evE G F (.comp (own.map (·.2)) tg it elt c)) σ H Q → tcomp Z K W G F own tg it elt c σ H Q :=
  comp_imp (alc := false) (fun _ _ => rfl) hsub
theorem alc_bind {r : R D} {q : R (List D)} (h : r = q.nox.bind fun ds S => .ok (.lst ds) S) : (r.bind fun d S => asLst d fun ds => (.ok (.ref S.length) (S ++ [.lst ds]) : R D)) = q.nox.bind (fin1 true) := by
  subst h
  cases q <;> rfl
theorem comp_a {K : PySem.W.Frag} (hsub : ∀ i ∈ tg.ids, i ∈ own.map (·.2)) : ∀ σ H Q, tE Z K W (evE G F (.alc (.comp (own.map (·.2)) tg it elt c))) σ H Q → tcomp Z K W G F own tg it elt c σ H Q :=
  comp_imp (alc := true) (fun e S => by
    show (((evI G F it e S).bind _).bind _) = _
    rw [bind_assoc]
    cases evI G F it e S with
    | ok xs S1 => exact alc_bind rfl
    | ex k p S' => rfl
    | st => rfl) hsub
theorem comp2_v {K : PySem.W.Frag} (hsub : ∀ i ∈ tg.ids, i ∈ own.map (·.2)) (hsub2 : ∀ i ∈ tg2.ids, i ∈ own2) : ∀ σ H Q, tE Z K W (evE G F (.comp2 (own.map (·.2)) tg it own2 tg2 it2 elt c)) σ H Q → tcomp2 Z K W G F own own2 tg tg2 it it2 elt c σ H Q :=
  comp2_imp (alc := false) (fun _ _ => rfl) hsub hsub2
theorem comp2_a {K : PySem.W.Frag} (hsub : ∀ i ∈ tg.ids, i ∈ own.map (·.2)) (hsub2 : ∀ i ∈ tg2.ids, i ∈ own2) : ∀ σ H Q, tE Z K W (evE G F (.alc (.comp2 (own.map (·.2)) tg it own2 tg2 it2 elt c))) σ H Q → tcomp2 Z K W G F own own2 tg tg2 it it2 elt c σ H Q :=
  comp2_imp (alc := true) (fun e S => by
    show (((evI G F it e S).bind _).bind _) = _
    rw [bind_assoc]
    cases evI G F it e S with
    | ok xs S1 => exact alc_bind rfl
    | ex k p S' => rfl
    | st => rfl) hsub hsub2
theorem pe_comp (hc : X.calm = true) (hN : X.N.Nodup) (h : CompOk Z X W G F own tg it elt c tge iter elte ifs scope) : PE X (.ListComp elte [⟨tge, iter, ifs, 0⟩] scope pos) (tcomp Z X.K W G F own tg it elt c) :=
  pe_lc hc hN h.hi h.ok h.hg.all h.ht.all h.he.all h.hs
theorem pe_comp2 (hc : X.calm = true) (hN : X.N.Nodup) (h : Comp2Ok Z X W G F own own2 tg tg2 it it2 elt c tge iter tge2 iter2 elte ifs scope) : PE X (.ListComp elte [⟨tge, iter, [], 0⟩, ⟨tge2, iter2, ifs, 0⟩] scope pos) (tcomp2 Z X.K W G F own own2 tg tg2 it it2 elt c) :=
  pe_lc2 hc hN h.hi h.ok h.hv h.hg.all (fun _ _ _ _ _ => pts_nil) h.hi2.all h.hg2.all h.ht.all h.he.all h.hs h.hs2
/-! ### calls -/
/-- a def's promise, by its number -/
def spF (Z : Ze) (K : PySem.W.Frag) (F : Orc) (len : Nat) (f : Nat) : Sp := fun vs H Q E => vs.length = len ∧ ∃ w ds S, RepsC K Z.fa Z.lm w H vs ds ∧ SR K Z.fa w H S ∧ Fin Z K (fun c d _ H => E c d H) (relE Z K) [] w H (F (.fn f) ds S) Q
theorem Fin.at {α β : Type} {K : PySem.W.Frag} {rel : Wd → Hp → β → α → Prop} {W W' : WX} {σ σ' : L2.St} {w : Wd} {H : Hp} {r : R α} {Q : β → Hp → Prop} (f : Fin Z K W rel σ w H r Q) (h : ∀ c d H, W c d σ H → W' c d σ' H) : Fin Z K W' rel σ' w H r Q := by
  cases r with
  | ok a S => exact f
  | ex k p S => exact fun c d w' H' x q s => h c d H' (f c d w' H' x q s)
  | st => exact f
/-- a def of the text stands ready -/
structure FnR (Z : Ze) (X : Cx) (F : Orc) (k : Nat) (f len : Nat) : Prop where
  ex : ∃ fd ps, ps.length = len ∧ FnOk X.prog X.w X.K X.mg X.base (L2N.CX X.prog X.w) k (Z.fa f) fd ps (spF Z X.K F len f) ∧ Binds X.K fd ps []
  kp : PySem.W.keepIn X.K (.ref (Z.fa f)) = true
variable {x : Str} {p : Pos} {a : Expr} {es : List Expr} {ies : Es} {k f len : Nat}
theorem call_imp {es : Es} (hl : es.len = len) : ∀ σ H Q, tE Z X.K W (evE G F (.call f es)) σ H Q → tCallS (spF Z X.K F len f) (WE W) (tA Z X.K W (evEs G F es)) σ H Q := by
  rintro σ H Q ⟨w, e, S, st, f0⟩
  exact ⟨w, e, S, st, f0.bind fun ds S1 vs w1 H1 q1 x1 r1 s1 f1 => ⟨by rw [r1.len, evEs_len _ q1, hl], w1, ds, S1, r1, s1, Fin.at f1 fun _ _ _ h => h⟩⟩
theorem sE_call (FR : FnR Z X F k f len) (hl : ies.len = len) (hr : Room k X.A) (hg : Gl X x) (hm : X.mg x = some (.ref (Z.fa f))) (tk : L2N.Takes X W) (hdb : (x == ("__debug__" : Str)) = false)
    (ha : SA Z X W G F ies (a :: es)) (he : starEach (a :: es) X.env = (false, eval a X.env) :: starEach es X.env) (hpl : (backTo pos (starEach es X.env)).any (·.1) = false) : SE Z X W G F (.call f ies) (.Call (.Name x p) (a :: es) [] pos) := by
  obtain ⟨fd, ps, _, ok, hb⟩ := FR.ex
  exact (pe_callS ok hr hg hm FR.kp hb (L2N.passAt tk) ha hdb he hpl).imp (call_imp hl)
theorem sE_call0 (FR : FnR Z X F k f len) (hl : len = 0) (hr : Room k X.A) (hg : Gl X x) (hm : X.mg x = some (.ref (Z.fa f))) (tk : L2N.Takes X W) (hdb : (x == ("__debug__" : Str)) = false) : SE Z X W G F (.call f .nil) (.Call (.Name x p) [] [] pos) := by
  obtain ⟨fd, ps, _, ok, hb⟩ := FR.ex
  have h0 : PE X (.Call (.Name x p) [] [] pos) (tCallS (spF Z X.K F len f) (WE W) tNil) := by
    refine ⟨fun pins s σ H Q I h => ?_⟩
    refine wpAny_Call_Name_kw (ld_glob I hg hm ?_ hdb)
    exact PySem.W.callWith_K0 I.kIn FR.kp (run_fnS (us := []) ok hr hb (L2N.passAt tk σ) I .nil h)
  refine h0.imp fun σ H Q ⟨w, e, S, st, f0⟩ => ?_
  exact ⟨hl.symm, w, [], S, .nil, st.sr, Fin.at (show Fin Z X.K W (relE Z X.K) σ w H (F (.fn f) [] S) Q from f0) fun _ _ _ h => h⟩
/-- a local name that holds a def -/
theorem pe_callLS {i : Nat} {fa : Addr} {fd : FuncData} {ps : List Str} {sp : Sp} {t : TA} (ok : FnOk X.prog X.w X.K X.mg X.base (L2N.CX X.prog X.w) k fa fd ps sp) (hr : Room k X.A) (hN : X.N[i]? = some x) (hv : Vis X.env.scope x) (hk : PySem.W.keepIn X.K (.ref fa) = true) (hb : Binds X.K fd ps []) (tk : L2N.Takes X W) (ha : PA X (a :: es) t)
    (hdb : (x == ("__debug__" : Str)) = false) (hcd : (x == ("__classdict__" : Str)) = false) (he : starEach (a :: es) X.env = (false, eval a X.env) :: starEach es X.env) (hpl : (backTo pos (starEach es X.env)).any (·.1) = false) :
    PE X (.Call (.Name x p) (a :: es) [] pos) (fun σ H Q => σ[i]? = some (some (.ref fa)) ∧ tCallS sp (WE W) t σ H Q) := by
  refine ⟨fun pins s σ H Q I ⟨h1, h2⟩ => wpAny_Call_Name_kw (thn ((pe_var (pos := p) hN hv hdb hcd).run pins s σ H (fun v H1 => v = .ref fa ∧ H1 = H) I ⟨_, h1, rfl, rfl⟩) fun u s1 ⟨v, H1, I1, r1, q1⟩ => ?_)⟩
  obtain ⟨rfl, rfl⟩ := q1
  cases r1
  refine PySem.W.callWith_K (h₀ := X.base) I.ok.mod.kin hk (thn (ha.run pos pins s1 σ _ _ I1 h2) fun us s2 ⟨vs, H2, I2, r, q⟩ => ⟨I2.kIn, run_fnS ok hr hb (L2N.passAt tk σ) I2 r q⟩) he hpl
end
end Rx
set_option Elab.async false
set_option linter.all false
set_option maxRecDepth 100000
/-! Rx10: statements. -/
namespace Rx
open PySem PySem.Spec PyProof.Rows L2 TL
section
variable (Z : Ze) (K : PySem.W.Frag) (W : WX)
def FinS (w : Wd) (H : Hp) (r : FR) (D : Ends) : Prop := match r with
  | .nx e S => ∀ σ' w' H', Ext w H w' H' → ER K Z.fa Z.lm w' H' σ' e → SR K Z.fa w' H' S → D.nx σ' H'
  | .bk e S => ∀ σ' w' H', Ext w H w' H' → ER K Z.fa Z.lm w' H' σ' e → SR K Z.fa w' H' S → D.bk σ' H'
  | .ct e S => ∀ σ' w' H', Ext w H w' H' → ER K Z.fa Z.lm w' H' σ' e → SR K Z.fa w' H' S → D.ct σ' H'
  | .rt d S => ∀ v w' H', Ext w H w' H' → RepC K Z.fa Z.lm w' H' v d → SR K Z.fa w' H' S → D.rt v H'
  | .ex k p e S => ∀ cls dd σ' w' H', Ext w H w' H' → ER K Z.fa Z.lm w' H' σ' e → XR Z K w' H' cls dd k p → SR K Z.fa w' H' S → W cls dd σ' H'
  | .st => False
def tS (f : Env → Store → FR) : TS := fun D σ H => ∃ w e S, StR Z K σ w H e S ∧ FinS Z K W w H (f e S) D
end
section
variable {α β : Type} {Z : Ze} {K : PySem.W.Frag} {W : WX} {rel : Wd → Hp → β → α → Prop} {σ : L2.St} {w w1 : Wd} {H H1 : Hp} {e : Env} {S : Store} {D : Ends} {P : β → Hp → Prop}
theorem FinS.ext {r : FR} (x : Ext w H w1 H1) (f : FinS Z K W w H r D) : FinS Z K W w1 H1 r D := by
  cases r with
  | nx e S => exact fun σ' w' H' y => f σ' w' H' (x.trans y)
  | bk e S => exact fun σ' w' H' y => f σ' w' H' (x.trans y)
  | ct e S => exact fun σ' w' H' y => f σ' w' H' (x.trans y)
  | rt d S => exact fun σ' w' H' y => f σ' w' H' (x.trans y)
  | ex k p e S => exact fun c d σ' w' H' y => f c d σ' w' H' (x.trans y)
  | st => exact f
theorem FinS.ofR {q : R α} {g : α → Store → FR} (st : StR Z K σ w H e S) (f : FinS Z K W w H (FR.ofR q e g) D)
    (k : ∀ a S1 b w1 H1, q = .ok a S1 → Ext w H w1 H1 → rel w1 H1 b a → SR K Z.fa w1 H1 S1 → FinS Z K W w1 H1 (g a S1) D → P b H1) : Fin Z K W rel σ w H q P := by
  cases q with
  | ok a S1 => exact fun b w1 H1 x r s => k a S1 b w1 H1 rfl x r s (FinS.ext x f)
  | ex k' p S1 => exact fun c d w1 H1 x r s => f c d σ w1 H1 x (st.er.ext x) r s
  | st => exact f
theorem FinS.ofO {γ : Type} {o : Option γ} {g : γ → FR} (f : FinS Z K W w H (FR.ofO o g) D) : ∃ a, o = some a ∧ FinS Z K W w H (g a) D := by
  cases o with
  | none => exact False.elim f
  | some a => exact ⟨a, rfl, f⟩
theorem FinS.gd {b : Bool} {r : FR} (f : FinS Z K W w H (FR.gd b r) D) : b = true ∧ FinS Z K W w H r D := by
  cases b with
  | false => exact False.elim f
  | true => exact ⟨rfl, f⟩
end
section
variable {Z : Ze} {X : Cx} {W : WX} {G : Nat → Option D} {F : Orc} {XM : Nat → Nat → Option Bool} {HF : Nat → Nat → Option D} {a b c : Expr} {st s0 : Stmt} {sts ss ss2 : List Stmt} {pos : Pos} {ia ib ic : E} {ies : Es} {is_ : St} {iss iss2 : Ss}
abbrev SS (Z : Ze) (X : Cx) (W : WX) (G : Nat → Option D) (F : Orc) (XM : Nat → Nat → Option Bool) (HF : Nat → Nat → Option D) (i : St) (s : Stmt) : Prop := PS X s (tS Z X.K W (evS G F XM HF i))
abbrev SSs (Z : Ze) (X : Cx) (W : WX) (G : Nat → Option D) (F : Orc) (XM : Nat → Nat → Option Bool) (HF : Nat → Nat → Option D) (i : Ss) (s : List Stmt) : Prop := PSs X s (tS Z X.K W (evSs G F XM HF i))
theorem sS_asg {i : Nat} {te : TE} (h : PS X s0 (tAsg te (gName i))) (hi : ∀ σ H Q, tE Z X.K W (evE G F ia) σ H Q → te σ H Q) : SS Z X W G F XM HF (.asg i ia) s0 :=
  h.imp fun D σ H ⟨w, e, S, st, f⟩ => hi σ H _ ⟨w, e, S, st, FinS.ofR st f fun d S1 v w1 H1 q x r s f1 => f1 _ w1 H1 (Ext.refl _ _) ((st.er.ext x).set r i) s⟩
theorem sS_unp {tg : Tg} {te : TE} {g : TG} (h : PS X s0 (tAsg te g)) (hi : ∀ σ H Q, tE Z X.K W (evE G F ia) σ H Q → te σ H Q) (hg : ∀ v σ H Q, gD Z X.K tg v σ H Q → g v σ H Q) : SS Z X W G F XM HF (.unp tg ia) s0 :=
  h.imp fun D σ H ⟨w, e, S, st, f⟩ => hi σ H _ ⟨w, e, S, st, FinS.ofR st f fun d S1 v w1 H1 q x r s f1 => hg _ _ _ _ (by
    obtain ⟨e', h', f1⟩ := f1.ofO
    exact ⟨w1, e, d, e', st.er.ext x, r, h', fun σ' er _ => f1 σ' w1 H1 (Ext.refl _ _) er s⟩)⟩
theorem sS_par2 {i j : Nat} (h : PS X s0 (tPar i j (tA Z X.K W (evEs G F ies)))) (hl : ies.len = 2) : SS Z X W G F XM HF (.par [i, j] ies) s0 :=
  h.imp fun D σ H ⟨w, e, S, st, f⟩ => ⟨w, e, S, st, FinS.ofR st f fun ds S1 vs w1 H1 q x r s f1 => by
    have hn := evEs_len _ q
    obtain ⟨e', h', f2⟩ := f1.ofO
    obtain ⟨er, _⟩ := (st.er.ext x).setAll r h'
    clear f1
    rw [hl] at hn
    match ds, hn, vs, r, er with
    | [d1, d2], _, [v1, v2], _, er => exact ⟨v1, v2, rfl, f2 _ w1 H1 (Ext.refl _ _) er s⟩⟩
theorem sS_par3 {i j l : Nat} (h : PS X s0 (tPar3 i j l (tA Z X.K W (evEs G F ies)))) (hl : ies.len = 3) : SS Z X W G F XM HF (.par [i, j, l] ies) s0 :=
  h.imp fun D σ H ⟨w, e, S, st, f⟩ => ⟨w, e, S, st, FinS.ofR st f fun ds S1 vs w1 H1 q x r s f1 => by
    have hn := evEs_len _ q
    obtain ⟨e', h', f2⟩ := f1.ofO
    obtain ⟨er, _⟩ := (st.er.ext x).setAll r h'
    clear f1
    rw [hl] at hn
    match ds, hn, vs, r, er with
    | [d1, d2, d3], _, [v1, v2, v3], _, er => exact ⟨v1, v2, v3, rfl, f2 _ w1 H1 (Ext.refl _ _) er s⟩⟩
theorem getL_at {w : Wd} {H : Hp} {S : Store} {x : D} {v : V} {p : Nat × List D} (s : SR X.K Z.fa w H S) (r : RepC X.K Z.fa Z.lm w H v x) (h : getL S x = some p) : ∃ a xs, v = .ref a ∧ w.rho[p.1]? = some a ∧ H a = some (.lst xs) ∧ Reps X.K Z.fa w H xs p.2 := by
  unfold getL at h
  split at h
  · split at h
    · rename_i l ds q
      cases h
      obtain ⟨a, xs, h1, h2, h3⟩ := s.get q
      cases r with
      | of r =>
        cases r with
        | ref hr =>
          rw [h1] at hr
          cases hr
          exact ⟨a, xs, rfl, h1, h2, h3⟩
    · cases h
  · cases h
theorem sS_setI {iv : E} (h : PS X s0 (tAsg (tE Z X.K W (evE G F iv)) (gSub (tE Z X.K W (evE G F ia)) (tE Z X.K W (evE G F ib)) rSetL))) : SS Z X W G F XM HF (.setI ia ib iv) s0 :=
  h.imp fun D σ H ⟨w, e, S, st, f⟩ => ⟨w, e, S, st, FinS.ofR st f fun d S1 v w1 H1 q1 x1 r1 s1 f1 => ⟨w1, e, S1, st.ext x1 s1, FinS.ofR (st.ext x1 s1) f1 fun x S2 o w2 H2 q2 x2 r2 s2 f2 => ⟨w2, e, S2, (st.ext x1 s1).ext x2 s2, FinS.ofR ((st.ext x1 s1).ext x2 s2) f2 fun y S3 i w3 H3 q3 x3 r3 s3 f3 => by
    obtain ⟨p, hp, f4⟩ := f3.ofO
    obtain ⟨n, hn, f5⟩ := f4.ofO
    obtain ⟨hc, f6⟩ := f5.gd
    obtain ⟨pa, xs, rfl, g1, g2, g3⟩ := getL_at s3 (r2.ext x3) hp
    have rv := (r1.rep hc).ext (x2.trans x3)
    cases y with
    | int j =>
      cases r3.int_of
      refine ⟨pa, xs, j, n, rfl, rfl, g2, by rw [g3.len]; exact hn, ?_⟩
      have hr : pa ∈ w3.rho := List.mem_of_getElem? g1
      have e1 := Ext.put (xs := xs.set n v) hr g2
      exact f6 _ w3 _ e1 ((((st.er.ext x1).ext x2).ext x3).ext e1) (s3.put g1 (g3.set rv n))
    | _ => cases hn⟩⟩⟩
theorem sS_app (h : PS X s0 (tDrop (tBM X.K "list" rAppend (tE Z X.K W (evE G F ia)) (tCons (tE Z X.K W (evE G F ib)) tNil)))) : SS Z X W G F XM HF (.app ia ib) s0 :=
  h.imp fun D σ H ⟨w, e, S, st, f⟩ => ⟨w, e, S, st, FinS.ofR st f fun x S1 o w1 H1 q1 x1 r1 s1 f1 => by
    obtain ⟨hx, f2⟩ := f1.gd
    cases x with
    | ref l =>
      cases r1 with
      | of r1 =>
        cases r1 with
        | @ref pa _ hr =>
          obtain ⟨xs, hxs⟩ := s1.trk pa (List.mem_append_left _ (List.mem_of_getElem? hr))
          refine ⟨.inl ⟨rfl, xs, .of hxs⟩, w1, e, S1, st.ext x1 s1, FinS.ofR (st.ext x1 s1) f2 fun d S2 v w2 H2 q2 x2 r2 s2 f3 => ?_⟩
          obtain ⟨p, hp, f4⟩ := f3.ofO
          obtain ⟨hc, f5⟩ := f4.gd
          rw [Bool.and_eq_true] at hc
          obtain ⟨pa', ys, e0, g1, g2, g3⟩ := getL_at s2 (.of (.ref (x2.rho_at hr))) hp
          cases e0
          have e1 := Ext.put (xs := ys ++ [v]) (List.mem_of_getElem? g1) g2
          exact ⟨pa, ys, v, rfl, rfl, g2, by rw [g3.len, sizeLine_eq]; exact of_decide_eq_true hc.1, f5 _ w2 _ e1 (((st.er.ext x1).ext x2).ext e1) (s2.put g1 (g3.append (.cons (r2.rep hc.2) .nil)))⟩
    | _ => cases hx⟩
theorem sS_expr (h : PS X s0 (tDrop (tE Z X.K W (evE G F ia)))) : SS Z X W G F XM HF (.expr ia) s0 :=
  h.imp fun D σ H ⟨w, e, S, st, f⟩ => ⟨w, e, S, st, FinS.ofR st f fun d S1 v w1 H1 q x r s f1 => f1 _ w1 H1 (Ext.refl _ _) (st.er.ext x) s⟩
theorem sS_ret {te : TE} (h : PE X a te) (hi : ∀ σ H Q, tE Z X.K W (evE G F ia) σ H Q → te σ H Q) : SS Z X W G F XM HF (.ret ia) (.Return (some a) pos) :=
  (ps_ret h).imp fun D σ H ⟨w, e, S, st, f⟩ => hi σ H _ ⟨w, e, S, st, FinS.ofR st f fun d S1 v w1 H1 q x r s f1 => f1 _ w1 H1 (Ext.refl _ _) r s⟩
theorem sS_retN : SS Z X W G F XM HF .retN (.Return none pos) := ps_retN.imp fun D σ H ⟨w, e, S, st, f⟩ => f _ w H (Ext.refl _ _) (.of .non) st.sr
theorem sS_pass : SS Z X W G F XM HF .pass (.Pass pos) := ps_pass.imp fun D σ H ⟨w, e, S, st, f⟩ => f σ w H (Ext.refl _ _) st.er st.sr
theorem sS_brk : SS Z X W G F XM HF .brk (.Break pos) := ps_break.imp fun D σ H ⟨w, e, S, st, f⟩ => f σ w H (Ext.refl _ _) st.er st.sr
theorem sS_cont : SS Z X W G F XM HF .cont (.Continue pos) := ps_continue.imp fun D σ H ⟨w, e, S, st, f⟩ => f σ w H (Ext.refl _ _) st.er st.sr
theorem sS_ite (hc : ST Z X W G F ic c) (ha : SSs Z X W G F XM HF iss ss) (hb : SSs Z X W G F XM HF iss2 ss2) : SS Z X W G F XM HF (.ite ic iss iss2) (.If c ss ss2 pos) :=
  (ps_if hc ha hb).imp fun D σ H ⟨w, e, S, st, f⟩ => by
    have f : FinS Z X.K W w H (.ofR (evE G F ic e S) e fun x S => .ofO (truth S x) fun k => .two k (evSs G F XM HF iss e S) (evSs G F XM HF iss2 e S)) D := f
    have f' : FinS Z X.K W w H (.ofR (tst G F ic e S) e fun k S => .two k (evSs G F XM HF iss e S) (evSs G F XM HF iss2 e S)) D := by
      unfold tst
      cases q : evE G F ic e S with
      | ok x S1 =>
        rw [q] at f
        simp only [R.bind_ok, FR.ofR_ok] at f ⊢
        cases q2 : truth S1 x with
        | none => rw [q2] at f; exact f
        | some k => rw [q2] at f; exact f
      | ex k p S' => rw [q] at f; exact f
      | st => rw [q] at f; exact f
    refine ⟨w, e, S, st, FinS.ofR st f' fun k S1 k' w1 H1 q1 x1 r1 s1 f1 => ?_⟩
    have r1 : k' = k := r1
    subst r1
    cases k' with
    | true => exact ⟨w1, e, S1, st.ext x1 s1, f1⟩
    | false => exact ⟨w1, e, S1, st.ext x1 s1, f1⟩
theorem sSs_nil : SSs Z X W G F XM HF .nil [] := pss_nil.imp fun D σ H ⟨w, e, S, st, f⟩ => f σ w H (Ext.refl _ _) st.er st.sr
theorem thn_fin {w : Wd} {H : Hp} {r : FR} {g : Env → Store → FR} {D : Ends} (f : FinS Z X.K W w H (r.thn g) D) : FinS Z X.K W w H r { D with nx := tS Z X.K W g D } := by
  cases r with
  | nx e S => exact fun σ' w' H' x er s => ⟨w', e, S, ⟨er, s⟩, FinS.ext x f⟩
  | bk e S => exact f
  | ct e S => exact f
  | rt d S => exact f
  | ex k p e S => exact f
  | st => exact f
theorem sSs_cons (h1 : SS Z X W G F XM HF is_ s0) (h2 : SSs Z X W G F XM HF iss sts) : SSs Z X W G F XM HF (.cons is_ iss) (s0 :: sts) :=
  (pss_cons h1 h2).imp fun D σ H ⟨w, e, S, st, f⟩ => ⟨w, e, S, st, thn_fin f⟩
/-! loops -/
theorem turn_fin {w : Wd} {H : Hp} {r : FR} {g : Env → Store → FR} {D : Ends} {N : L2.St → Hp → Prop} (f : FinS Z X.K W w H (r.turn g) D) (h : ∀ σ e S w' H', Ext w H w' H' → ER X.K Z.fa Z.lm w' H' σ e → SR X.K Z.fa w' H' S → FinS Z X.K W w' H' (g e S) D → N σ H') :
    FinS Z X.K W w H r { D with nx := N, ct := N, bk := D.nx } := by
  cases r with
  | nx e S => exact fun σ' w' H' x er s => h σ' e S w' H' x er s (FinS.ext x f)
  | ct e S => exact fun σ' w' H' x er s => h σ' e S w' H' x er s (FinS.ext x f)
  | bk e S => exact f
  | rt d S => exact f
  | ex k p e S => exact f
  | st => exact f
theorem sS_for {tg : Tg} {ii : I} {tge iter : Expr} (hp : PassesOwn (model X.prog X.w) X.A X.env X.xe) (hc : X.calm = true) (hi : SI Z X W G F ii tge iter) (hg : PG X tge (gD Z X.K tg)) (hb : SSs Z X W G F XM HF iss ss) (hs : ∀ x, foldedSetIterable iter X.env x = pure x) :
    SS Z X W G F XM HF (.for_ tg ii iss) (.For tge iter ss [] pos) :=
  (ps_for hp hc hi hg hb hs).imp fun D σ H ⟨w, e, S, st, f⟩ => ⟨w, e, S, st, FinS.ofR st f fun xs S1 J w1 H1 q1 x1 r1 s1 f1 => by
    let Wf : Nat → L2.St → Hp → Prop := fun i σ H => ∃ w e S, Itm Z X.K w H J xs ∧ ER X.K Z.fa Z.lm w H σ e ∧ SR X.K Z.fa w H S ∧ i ≤ xs.length ∧ FinS Z X.K W w H (forL (setTg tg) (evSs G F XM HF iss) (xs.drop i) e S) D
    refine ⟨fun i m σ H => m = xs.length - i ∧ Wf i σ H, ⟨_, rfl, w1, e, S1, r1, st.er.ext x1, s1, Nat.zero_le _, f1⟩, ?_⟩
    rintro i m σ H ⟨rfl, w, e, S, it, er, s, hi, f⟩
    obtain ⟨t1, t2⟩ := it.turn i
    by_cases hlt : i < xs.length
    · refine .inr ?_
      have hd := List.drop_eq_getElem_cons hlt
      obtain ⟨go, ty⟩ := t1 xs[i] (List.getElem?_eq_getElem hlt)
      refine ⟨go, Wf (i + 1), fun σ' H' p => ⟨xs.length - (i + 1), by omega, rfl, p⟩, fun y H' hy => ?_⟩
      obtain ⟨x', sr', ry⟩ := ty y H' hy
      rw [hd] at f
      obtain ⟨e', he', f⟩ := FinS.ofO f
      have f := FinS.ext x' f
      exact ⟨w, e, _, e', er.ext x', .of ry, he', fun σ2 er2 _ => ⟨w, e', S, ⟨er2, sr' S s⟩, turn_fin f fun σ3 e3 S3 w3 H3 x3 er3 s3 f3 => ⟨w3, e3, S3, (it.ext x').ext x3, er3, s3, hlt, f3⟩⟩⟩
    · have e0 : i = xs.length := by omega
      subst e0
      rw [List.drop_length] at f
      exact .inl ⟨t2 (Nat.le_refl _), f σ w H (Ext.refl _ _) er s⟩⟩
theorem sS_while (hp : PassesOwn (model X.prog X.w) X.A X.env X.xe) (hc : ST Z X W G F ic c) (hb : SSs Z X W G F XM HF iss ss) : SS Z X W G F XM HF (.while_ ic iss) (.While c ss [] pos) :=
  (ps_while hp hc hb).imp fun D σ H ⟨w, e, S, st, f⟩ => by
    refine ⟨fun m σ H => ∃ w e S, StR Z X.K σ w H e S ∧ FinS Z X.K W w H (whileL (evE G F ic) (evSs G F XM HF iss) m e S) D, ⟨1000, w, e, S, st, f⟩, ?_⟩
    rintro m σ H ⟨w, e, S, st, f⟩
    cases m with
    | zero => exact False.elim f
    | succ m =>
      have f : FinS Z X.K W w H (.ofR (evE G F ic e S) e fun t S1 => .ofO (truth S1 t) fun k => .two k ((evSs G F XM HF iss e S1).turn (whileL (evE G F ic) (evSs G F XM HF iss) m)) (.nx e S1)) D := f
      have f' : FinS Z X.K W w H (.ofR (tst G F ic e S) e fun k S1 => .two k ((evSs G F XM HF iss e S1).turn (whileL (evE G F ic) (evSs G F XM HF iss) m)) (.nx e S1)) D := by
        unfold tst
        cases q : evE G F ic e S with
        | ok x S1 =>
          rw [q] at f
          simp only [R.bind_ok, FR.ofR_ok] at f ⊢
          cases q2 : truth S1 x with
          | none => rw [q2] at f; exact f
          | some k => rw [q2] at f; exact f
        | ex k p S' => rw [q] at f; exact f
        | st => rw [q] at f; exact f
      refine ⟨w, e, S, st, FinS.ofR st f' fun k S1 k' w1 H1 q1 x1 r1 s1 f1 => ?_⟩
      have r1 : k' = k := r1
      subst r1
      cases k' with
      | true =>
        refine (if_pos (rfl : true = true)).mpr ⟨fun σ H => ∃ w e S, StR Z X.K σ w H e S ∧ FinS Z X.K W w H (whileL (evE G F ic) (evSs G F XM HF iss) m e S) D, fun σ' H' p => ⟨m, Nat.lt_succ_self m, p⟩, w1, e, S1, st.ext x1 s1, turn_fin f1 fun σ3 e3 S3 w3 H3 x3 er3 s3 f3 => ⟨w3, e3, S3, ⟨er3, s3⟩, f3⟩⟩
      | false =>
        exact (if_neg Bool.false_ne_true).mpr (f1 σ w1 H1 (Ext.refl _ _) (st.er.ext x1) s1)
end
end Rx
set_option Elab.async false
set_option linter.all false
set_option maxRecDepth 100000
/-! Rx11: the check that ties the form to the text: expressions. -/
namespace Rx
open PySem PySem.Spec PyProof.Rows L2 TL RZ
/-- the names of a text: its defs with their parameters' number, its constants, its exception classes, the built-in names it uses -/
structure Tab where
  fn : List (Str × Nat)
  gl : List (Str × D)
  ex : List Str
  blt : List Str
  /-- the name of the def that tells how a call is refused -/
  rfn : Str := Str.empty
  /-- which exception classes have no __init__ of their own -/
  pl : Nat → Bool := fun _ => true
  /-- the field that a class with such an __init__ keeps -/
  vf : Nat → Option Str := fun _ => none
/-- a scope, and which of its cells are its own -/
structure ScP where
  sc : Scope
  own : Str → Bool
  hot : Bool := false
  /-- lambdas may be handed there to the def that tells of refusals -/
  rf : Bool := false
def visB (q : ScP) (x : Str) : Bool := match q.sc.names.lookup x with
  | some .local => true
  | some .cell => true
  | some .free => true
  | _ => false
def glB (q : ScP) (x : Str) : Bool := decide (q.sc.names.lookup x = some .globalImplicit)
def locB (q : ScP) (x : Str) : Bool := decide (q.sc.names.lookup x = some .local)
def asnB (q : ScP) (x : Str) : Bool := locB q x || (decide (q.sc.names.lookup x = some .cell) && q.own x)
def okN (x : Str) : Bool := !(x == ("__debug__" : Str)) && !(x == ("__classdict__" : Str)) && !(x == ("__name__" : Str))
def bltB (T : Tab) (q : ScP) (x n : Str) : Bool := decide (x = n) && glB q x && T.blt.contains x
def blkP (scope : Scope) (q : ScP) : ScP := { sc := relS scope q.sc, own := fun x => decide (scope.names.lookup x = some .cell) }
def ownOf (N : List Str) (own : List Nat) : List (Str × Nat) := own.map fun i => (N.getD i Str.empty, i)
def meName : Me → Str
  | .join => "join"
  | .split => "split"
  | .find => "find"
  | .count => "count"
  | .index => "index"
  | .get => "get"
  | .repl => "replace"
def meOk : Me → Bool
  | .join => true
  | .split => true
  | _ => false
/-- the built-in's name -/
def biName : Bi → Str
  | .len => "len"
  | .int_ => "int"
  | .bool_ => "bool"
  | .str_ => "str"
  | .tuple_ => "tuple"
  | .list_ => "list"
  | .min2 => "min"
  | .max2 => "max"
  | .min1 => "min"
  | .max1 => "max"
  | .sum_ => "sum"
  | .all_ => "all"
  | .any_ => "any"
  | .abs_ => "abs"
  | _ => ""
def biOk : Bi → Bool
  | .len => true
  | .int_ => true
  | .bool_ => true
  | .str_ => true
  | .tuple_ => true
  | .list_ => true
  | .min2 => true
  | .max2 => true
  | .min1 => true
  | .max1 => true
  | .sum_ => true
  | .all_ => true
  | .any_ => true
  | .abs_ => true
  | _ => false
def notSet : Expr → Bool
  | .Set _ _ _ => false
  | _ => true
def notSlice : Expr → Bool
  | .Slice _ _ _ _ => false
  | _ => true
def notStar : Expr → Bool
  | .Starred _ _ => false
  | _ => true
/-- no super() -/
def notCall0 : Expr → Bool
  | .Call _ [] [] _ => false
  | _ => true
/-- no parameter -/
def noPar : Arguments → Bool
  | ⟨[], [], none, [], [], none, []⟩ => true
  | _ => false
def lamP (scope : Scope) : ScP := { sc := scope, own := fun _ => false }
def chkTs (N : List Str) (q : ScP) : List Nat → List Expr → Bool
  | [], [] => true
  | i :: is, .Name x _ :: ts => decide (N[i]? = some x) && asnB q x && chkTs N q is ts
  | _, _ => false
def chkT (N : List Str) (q : ScP) : Tg → Expr → Bool
  | .nm i, .Name x _ => decide (N[i]? = some x) && asnB q x
  | .tp is, .Tuple ts _ _ => !q.hot && chkTs N q is ts
  | .tq is j, .Tuple [.Tuple ts _ _, .Name x _] _ _ => !q.hot && chkTs N q is ts && (decide (N[j]? = some x) && asnB q x)
  | _, _ => false
/-- what makes a new list each time -/
def alcOk : E → Bool
  | .lst _ => true
  | .comp _ _ _ _ _ => true
  | .comp2 _ _ _ _ _ _ _ _ => true
  | .bi .list_ _ => true
  | _ => false
section
variable (T : Tab) (N : List Str)
mutual
def chkE : E → ScP → Expr → Bool
  | .var i, q, a => (match a with
    | .Name x _ => decide (N[i]? = some x) && visB q x && okN x
    | _ => false)
  | .cint i, _, a => (match a with
    | .Constant (.int j) _ _ => decide (i = j)
    | _ => false)
  | .cstr s, _, a => (match a with
    | .Constant (.str x) _ _ => decide (x = ⟨s.toArray⟩) && (s.all fun c => decide (c < 1114112)) && decide (s.length ≤ 100000)
    | _ => false)
  | .cbl b, _, a => (match a with
    | .Constant (.bool c) _ _ => decide (b = c)
    | _ => false)
  | .cnon, _, a => (match a with
    | .Constant .none _ _ => true
    | _ => false)
  | .gl g, q, a => (match a with
    | .Name x _ => glB q x && okN x && (match T.gl[g]? with
      | some p => decide (p.1 = x)
      | none => false)
    | _ => false)
  | .fnv f, q, a => (match a with
    | .Name x _ => glB q x && okN x && (match T.fn[f]? with
      | some p => decide (p.1 = x)
      | none => false)
    | _ => false)
  | .tup es, q, a => (match a with
    | .Tuple as _ _ => chkA es q as && decide (es.len ≤ 1000)
    | _ => false)
  | .lst es, q, a => (match a with
    | .List as _ => chkA es q as && decide (es.len ≤ 1000)
    | _ => false)
  | .alc e, q, a => alcOk e && chkE e q a
  | .bin op x y, q, a => (match a with
    | .BinOp l o r _ => decide (o = opOf op) && chkE x q l && chkE y q r
    | _ => false)
  | .neg x, q, a => (match a with
    | .UnaryOp .USub l _ => chkE x q l
    | _ => false)
  | .cmp op x y, q, a => (match a with
    | .Compare l [o] [r] _ => decide (o = cpOf op) && chkE x q l && chkE y q r && notSet r
    | _ => false)
  | .chn op op' x y z, q, a => (match a with
    | .Compare l [o, o'] [r, r'] _ => decide (o = cpOf op) && decide (o' = cpOf op') && chkE x q l && chkE y q r && chkE z q r' && notSet r'
    | _ => false)
  | .andE x y, q, a => (match a with
    | .BoolOp .And (l :: r :: rest) pos => chkE x q l && (match rest with
      | [] => chkE y q r
      | _ => chkE y q (.BoolOp .And (r :: rest) pos))
    | _ => false)
  | .orE x y, q, a => (match a with
    | .BoolOp .Or (l :: r :: rest) pos => chkE x q l && (match rest with
      | [] => chkE y q r
      | _ => chkE y q (.BoolOp .Or (r :: rest) pos))
    | _ => false)
  | .notE x, q, a => (match a with
    | .UnaryOp .Not l _ => chkE x q l
    | _ => false)
  | .ite c x y, q, a => (match a with
    | .IfExp t l r _ => chkE c q t && chkE x q l && chkE y q r
    | _ => false)
  | .idx x y, q, a => (match a with
    | .Subscript l r _ => notSlice r && chkE x q l && chkE y q r
    | _ => false)
  | .slc x lo hi, q, a => (match a with
    | .Subscript l (.Slice o p none _) _ => chkE x q l && chkO lo q o && chkO hi q p
    | _ => false)
  | .rev x, q, a => (match a with
    | .Subscript l (.Slice none none (some (.UnaryOp .USub (.Constant (.int i) _ _) _)) _) _ => decide (i = 1) && chkE x q l
    | _ => false)
  | .call f es, q, a => (match a with
    | .Call (.Name x _) as [] _ => !q.hot && glB q x && okN x && (match T.fn[f]? with
      | some p => decide (p.1 = x) && decide (p.2 = es.len)
      | none => false) && chkA es q as
    | _ => false)
  | .callv i n es, q, a => (match a with
    | .Call (.Name x _) as [] _ => !q.hot && decide (n = T.fn.length) && decide (N[i]? = some x) && visB q x && okN x && !as.isEmpty && chkA es q as
    | _ => false)
  | .refu _ ib, q, a => (match a with
    | .Call (.Name x _) [.Lambda params body scope _] [] _ => q.rf && !q.hot && decide (x = T.rfn) && glB q x && LamX.lamSB q.sc scope && noPar params && chkE ib (lamP scope) body
    | _ => false)
  | .isx i j, q, a => (match a with
    | .Call (.Name x _) [.Name y _, .Name t _] [] _ => bltB T q x "isinstance" && decide (N[i]? = some y) && visB q y && okN y && glB q t && okN t && decide (T.ex[j]? = some t)
    | _ => false)
  | .bi b es, q, a => (match a with
    | .Call (.Name x _) as [] _ => (match isB b with
      | true => (match as with
        | [l, .Name t _] => bltB T q x "isinstance" && bltB T q t (Str.ofString (tyOfB b)) && chkA es q [l]
        | _ => false)
      | false => !q.hot && biOk b && bltB T q x (biName b) && !as.isEmpty && chkA es q as)
    | _ => false)
  | .mth m o es, q, a => (match a with
    | .Call (.Attribute l nm apos) (r :: as) [] cpos => meOk m && decide (nm = meName m) && (apos.endLine == cpos.line) && notCall0 l && decide (as.length < 20) && chkE o q l && chkA es q (r :: as)
    | _ => false)
  | .comp own tg it e c, q, a => (match a with
    | .ListComp l [⟨t, i, ifs, z⟩] scope _ => !q.hot && decide (z = 0) && blkC N q.sc scope (ownOf N own) && (tg.ids.all fun i => own.contains i) && chkT N (blkP scope q) tg t && notSet i && chkI it q t i && chkC c (blkP scope q) ifs && chkE e (blkP scope q) l
    | _ => false)
  | .comp2 own tg it own2 tg2 it2 e c, q, a => (match a with
    | .ListComp l [⟨t, i, [], z⟩, ⟨t2, i2, ifs, z2⟩] scope _ => !q.hot && decide (z = 0) && decide (z2 = 0) && blkC N q.sc scope (ownOf N own) && (tg.ids.all fun i => own.contains i) && (tg2.ids.all fun i => own2.contains i) && (own2.all fun i => own.contains i) &&
        chkT N (blkP scope q) tg t && chkT N (blkP scope q) tg2 t2 && notSet i && notSet i2 && chkI it q t i && chkI it2 (blkP scope q) t2 i2 && chkC c (blkP scope q) ifs && chkE e (blkP scope q) l
    | _ => false)
def chkA : Es → ScP → List Expr → Bool
  | .nil, _, as => as.isEmpty
  | .cons e es, q, as => (match as with
    | a :: r => notStar a && chkE e q a && chkA es q r
    | [] => false)
def chkO : Op → ScP → Option Expr → Bool
  | .no, _, o => o.isNone
  | .yes e, q, o => (match o with
    | some a => chkE e q a
    | none => false)
def chkC : Op → ScP → List Expr → Bool
  | .no, _, as => as.isEmpty
  | .yes e, q, as => (match as with
    | [a] => chkE e q a
    | _ => false)
def chkI : I → ScP → Expr → Expr → Bool
  | .seq e, q, _, a => chkE e q a
  | .rng es, q, _, a => (match a with
    | .Call (.Name x _) as [] _ => bltB T q x "range" && chkA es q as && (decide (es.len = 1) || decide (es.len = 2))
    | _ => false)
  | .enm e, q, t, a => (match t, a with
    | .Tuple _ _ _, .Call (.Name x _) [l] [] _ => bltB T q x "enumerate" && notStar l && chkE e q l
    | _, _ => false)
  | .zip e e2, q, t, a => (match t, a with
    | .Tuple _ _ _, .Call (.Name x _) [l, r] [] _ => bltB T q x "zip" && notStar l && notStar r && chkE e q l && chkE e2 q r
    | _, _ => false)
  | .lsq _, _, _, _ => false
end
end
def G_ (T : Tab) : Nat → Option D := fun g => (T.gl[g]?).map (·.2)
/-- a class whose __init__ says super().__init__(text), then keeps a field -/
structure ExV (P : Program) (w : World) (K : PySem.W.Frag) (mg : Str → Option Value) (base : Heap) (Z : Ze) (j : Nat) (x fl : Str) : Prop where
  ex : ∃ (C fI : Addr) (fd : FuncData) (sf pt : Str), mg x = some (.ref C) ∧ Z.ec j = .ref C ∧ Z.fld j = some fl ∧ OexC K C ∧ PySem.W.findIn K (.ref C) "__init__" = some (some (.ref fI)) ∧ PySem.W.typeIn K (.ref fI) = some (.type "function") ∧
    FnOk P w K mg base (L2N.CX P w) 1 fI fd [sf, pt] (SI.spI C fl) ∧ Binds K fd [sf, pt] [] ∧ XfC K C ∧ PySem.W.findIn K (.ref C) fl = some none
/-- what the world holds for the text -/
structure Wk (Z : Ze) (T : Tab) (F : Orc) (k : Nat) (X : Cx) : Prop where
  fns : ∀ (f : Nat) (p : Str × Nat), T.fn[f]? = some p → X.mg p.1 = some (.ref (Z.fa f)) ∧ FnR Z X F k f p.2
  gls : ∀ (g : Nat) (p : Str × D), T.gl[g]? = some p → ∃ v u, X.mg p.1 = some u ∧ RelV v u ∧ ∀ w H, Rep X.K Z.fa w H v p.2
  blt : ∀ x ∈ T.blt, X.mg x = none
  out : ∀ (f : Nat) (ds : List D) (S : Store), (∀ p : Str × Nat, T.fn[f]? = some p → p.2 ≠ ds.length) → F (.fn f) ds S = .st
  exs : ∀ (j : Nat) (x : Str), T.ex[j]? = some x → ∃ C, X.mg x = some (.ref C) ∧ Z.ec j = .ref C ∧ (T.pl j = true → Z.fld j = none ∧ PySem.W.excIn X.K C He.veBase "ValueError.__new__" = true ∧ PySem.W.keepIn X.K (.ref C) = true ∧
    PySem.W.subIn X.K (.ref C) (.type "BaseException") = some true ∧ PySem.W.typeIn X.K (.ref C) = some (.type "type"))
  isx : ∀ (j i : Nat) (S : Store), F (.clo j [.int i]) [] S = .st ∨ ∃ b, F (.clo j [.int i]) [] S = .ok (.bl b) S ∧ ∀ x, T.ex[i]? = some x → ∃ C', X.mg x = some (.ref C') ∧ ∀ C, Z.ec j = .ref C → PySem.W.kitOne X.K (.ref C) (.ref C') = some b
  exv : ∀ (j : Nat) (x fl : Str), T.ex[j]? = some x → T.vf j = some fl → ExV X.prog X.w X.K X.mg X.base Z j x fl
/-- the lambda's body's context: what leaves it is told as a def's -/
abbrev lamN (X : Cx) (A : Around) (outer : List PySem.Env) (s : Shared) (H : Hp) (E : XK) (scope : Scope) (f c' : Addr) : Cx := (LamX.lamCx X A outer s H (fun _ _ _ => False) scope f c').wish fun e s' =>
  wpAny (model X.prog X.w) (A.deeper (LamX.lamEnv X scope s.heap.objs.size f c')) (leaving (LamX.lamEnv X scope s.heap.objs.size f c') e) (fun _ s'' => L2N.CX X.prog X.w outer H s E e s'') (fun e' s'' => L2N.CX X.prog X.w outer H s E e' s'') s'
/-- a lambda handed to the def that tells of refusals -/
structure RfR (Z : Ze) (T : Tab) (F : Orc) (k : Nat) (X : Cx) (W : WX) : Prop where
  rule : ∀ (g : Nat) (ib : E) (params : Arguments) (body : Expr) (scope : Scope) (p lpos pos : Pos), LamX.LamS X.env.scope scope → noPar params = true → Gl X T.rfn →
    (∀ (A : Around) (outer : List PySem.Env) (s1 : Shared) (H1 : Hp) (E : XK) (f c' : Addr), Room k (A.deeper (LamX.lamEnv X scope s1.heap.objs.size f c')) → SE Z (lamN X A outer s1 H1 E scope f c') (fun c d _ H => E c d H) (G_ T) F ib body) →
    SE Z X W (G_ T) F (.refu g ib) (.Call (.Name T.rfn p) [.Lambda params body scope lpos] [] pos)
structure Cok (Z : Ze) (T : Tab) (N : List Str) (F : Orc) (k : Nat) (X : Cx) (q : ScP) (W : WX) : Prop where
  wk : Wk Z T F k X
  calm : q.hot = false → X.calm = true
  room : q.hot = false → Room k X.A
  un : X.A.units + 200 < cLine
  tk : q.hot = false → L2N.Takes X W
  exn : ∀ a j, Z.lm a j → q.hot = true ∧ ∀ pins σ H s, Inv X pins σ H s → ∃ oe C, Z.ec j = .ref C ∧ PySem.W.InstAt s.heap a oe C none ∧ ExcC X.K C
  sc : X.env.scope = q.sc
  kind : X.env.scope.kind = .function
  hN : X.N = N
  nd : X.N.Nodup
  own : ∀ x, q.own x = true → X.fn x = true
  rf : q.rf = true → RfR Z T F k X W
section
variable {Z : Ze} {T : Tab} {N : List Str} {F : Orc} {k : Nat} {X : Cx} {q : ScP} {W : WX} {x : Str}
theorem Cok.hu (c : Cok Z T N F k X q W) : X.A.units + 66 < cLine := by
  have := c.un
  omega
theorem Cok.vis (c : Cok Z T N F k X q W) (h : visB q x = true) : Vis X.env.scope x := by
  unfold visB at h
  unfold Vis
  rw [c.sc]
  split at h <;> first | exact .inl ‹_› | exact .inr (.inl ‹_›) | exact .inr (.inr ‹_›) | cases h
theorem Cok.gl (c : Cok Z T N F k X q W) (h : glB q x = true) : Gl X x := by
  unfold Gl Env.kindOf
  rw [c.sc]
  exact of_decide_eq_true h
theorem Cok.asn (c : Cok Z T N F k X q W) (h : asnB q x = true) : L2.Loc X.env.scope x ∧ (X.fn x = true ∨ X.env.scope.names.lookup x = some .local) := by
  unfold asnB at h
  rw [Bool.or_eq_true] at h
  unfold L2.Loc
  rw [c.sc]
  rcases h with h | h
  · have h := of_decide_eq_true h
    exact ⟨.inl h, .inr h⟩
  · rw [Bool.and_eq_true] at h
    exact ⟨.inr (of_decide_eq_true h.1), .inl (c.own x h.2)⟩
theorem okN_d (h : okN x = true) : (x == ("__debug__" : Str)) = false ∧ (x == ("__classdict__" : Str)) = false ∧ x ≠ "__name__" := by
  unfold okN at h
  rw [Bool.and_eq_true, Bool.and_eq_true] at h
  refine ⟨by simpa using h.1.1, by simpa using h.1.2, fun e => ?_⟩
  have := h.2
  rw [e] at this
  simp at this
theorem Cok.blt (c : Cok Z T N F k X q W) {n : Str} (h : bltB T q x n = true) : x = n ∧ Gl X x ∧ X.mg x = none := by
  unfold bltB at h
  rw [Bool.and_eq_true, Bool.and_eq_true] at h
  exact ⟨of_decide_eq_true h.1.1, c.gl h.1.2, c.wk.blt x (by simpa using h.2)⟩
theorem takesN0 {X : Cx} : L2N.Takes X WF := fun _ _ x => by
  obtain ⟨_, _, _, _, _, _, _, _, _, _, _, _, _, _, _, _, z⟩ := x
  exact z.elim
theorem Cok.blk (c : Cok Z T N F k X q W) (hq : q.hot = false) (scope : Scope) (hk : scope.kind = .function) (s : Shared) (H : Hp) (C : Addr) (cl : List (Str × Addr)) (fp : List Addr) : Cok Z T N F k (X.blk s H scope (compEnvC scope cl C X.env) fp) (blkP scope q) WF := by
  refine ⟨⟨fun f p h => ⟨(c.wk.fns f p h).1, ⟨(c.wk.fns f p h).2.ex, (c.wk.fns f p h).2.kp⟩⟩, c.wk.gls, c.wk.blt, c.wk.out, c.wk.exs, c.wk.isx, c.wk.exv⟩, fun _ => c.calm hq, fun _ => c.room hq, c.un, fun _ => takesN0, fun a j h => absurd (c.exn a j h).1 (by rw [hq]; exact Bool.false_ne_true), ?_, hk, c.hN, c.nd, fun y hy => ?_, fun z => Bool.noConfusion (show false = true from z)⟩
  · show relabel scope X.env = relS scope q.sc
    rw [← c.sc]
    rfl
  · show (scope.names.lookup y == some .cell) = true
    have := of_decide_eq_true (show decide (scope.names.lookup y = some .cell) = true from hy)
    rw [this]
    rfl
theorem Wk.to {Y : Cx} (c : Wk Z T F k X) (h1 : Y.prog = X.prog) (h2 : Y.w = X.w) (h3 : Y.K = X.K) (h4 : Y.mg = X.mg) (h5 : Y.base = X.base) : Wk Z T F k Y := by
  refine ⟨fun f p h => ⟨by rw [h4]; exact (c.fns f p h).1, ⟨by rw [h1, h2, h3, h4, h5]; exact (c.fns f p h).2.ex, by rw [h3]; exact (c.fns f p h).2.kp⟩⟩, by rw [h4, h3]; exact c.gls, by rw [h4]; exact c.blt, c.out, by rw [h4, h3]; exact c.exs, by rw [h4, h3]; exact c.isx, by rw [h1, h2, h3, h4, h5]; exact c.exv⟩
theorem Cok.lam (c : Cok Z T N F k X q W) (hq : q.hot = false) {A : Around} {outer : List PySem.Env} {s1 : Shared} {H1 : Hp} {E : XK} {scope : Scope} {f c' : Addr} (hk : scope.kind = .function) (hr : Room k (A.deeper (LamX.lamEnv X scope s1.heap.objs.size f c'))) :
    Cok Z T N F k (lamN X A outer s1 H1 E scope f c') (lamP scope) (fun c d _ H => E c d H) := by
  refine ⟨c.wk.to rfl rfl rfl rfl rfl, fun _ => rfl, fun _ => hr, ?_, fun _ => L2N.takes_of rfl rfl rfl rfl, fun a j h => absurd (c.exn a j h).1 (by rw [hq]; exact Bool.false_ne_true), rfl, hk, c.hN, c.nd, fun y hy => Bool.noConfusion (show false = true from hy), fun z => Bool.noConfusion (show false = true from z)⟩
  have h := hr.un
  show (A.deeper (LamX.lamEnv X scope s1.heap.objs.size f c')).units + 200 < cLine
  omega
end
end Rx
set_option Elab.async false
set_option linter.all false
set_option maxRecDepth 100000
set_option maxHeartbeats 2000000
/-! Rx12: what passes the check is computed so: expressions. -/
namespace Rx
open PySem PySem.Spec PyProof.Rows L2 TL RZ
section
variable {Z : Ze} {X : Cx} {W : WX} {G : Nat → Option D} {F : Orc}
/-- an expression as a value, as a test, as a test within and / or -/
structure Snd (Z : Ze) (X : Cx) (W : WX) (G : Nat → Option D) (F : Orc) (ia : E) (a : Expr) : Prop where
  e : SE Z X W G F ia a
  t : ST Z X W G F ia a
  w : ∀ op vs pos, a = .BoolOp op vs pos → SW Z X W G F ia a
theorem Snd.of {ia : E} {a : Expr} (h : SE Z X W G F ia a) (he : ∀ whole, isTrue a X.env whole = (do let v ← whole; standAt a.pos; holding [v] (truthy v))) (hb : ∀ op vs pos, a ≠ .BoolOp op vs pos) : Snd Z X W G F ia a :=
  ⟨h, sT_truth he h, fun op vs pos e => absurd e (hb op vs pos)⟩
theorem star_cons {env : PySem.Env} {a : Expr} {es : List Expr} (h : notStar a = true) : starEach (a :: es) env = (false, eval a env) :: starEach es env := by
  cases a <;> first | rfl | cases h
theorem star_any {env : PySem.Env} {pos : Pos} : ∀ {es : List Expr}, (∀ a ∈ es, notStar a = true) → (backTo pos (starEach es env)).any (·.1) = false
  | [], _ => rfl
  | a :: es, h => by
    rw [star_cons (h a (by simp))]
    show (false || (backTo pos (starEach es env)).any (·.1)) = false
    rw [star_any fun b hb => h b (List.mem_cons_of_mem _ hb)]
    rfl
theorem star_all {env : PySem.Env} {pos : Pos} : ∀ {es : List Expr}, (∀ a ∈ es, notStar a = true) → (backTo pos (starEach es env)).all (fun x => !x.1) = true
  | [], _ => rfl
  | a :: es, h => by
    rw [star_cons (h a (by simp))]
    show (true && (backTo pos (starEach es env)).all (fun x => !x.1)) = true
    rw [star_all fun b hb => h b (List.mem_cons_of_mem _ hb)]
    rfl
theorem notSet_beh {op : CmpOp} {e : Expr} (h : notSet e = true) : behindInMarks op e = false := by
  cases e <;> first | rfl | cases h
theorem notSet_fold {e : Expr} {env : PySem.Env} (h : notSet e = true) (x : Value) : foldedSetIterable e env x = pure x := by
  cases e <;> first | rfl | cases h
theorem notSlice_ix {b : Expr} (h : notSlice b = true) : PlainIx b := by
  cases b <;> first | (intro o i; rfl) | cases h
theorem notCall_base {o : Expr} {n : Str} {env : PySem.Env} (h : notCall0 o = true) : attributeBase o n env (eval o env) = eval o env := by
  cases o <;> first
    | rfl
    | (rename_i f as kws pos
       cases as with
       | nil =>
         cases kws with
         | nil => cases h
         | cons _ _ => cases f <;> rfl
       | cons _ _ => cases f <;> rfl)
theorem bi_call {k : Bi} {a : Expr} {es : List Expr} {ies : Es} {p pos : Pos} (hk : biOk k = true) (hc : X.calm = true) (hu : X.A.units + 64 + 1 < cLine) (hg : Gl X (biName k)) (hm : X.mg (biName k) = none) (ha : SA Z X W G F ies (a :: es)) (hs : ∀ b ∈ a :: es, notStar b = true) :
    PE X (.Call (.Name (biName k) p) (a :: es) [] pos) (tCB (rBi X.K Z.fa k) (tA Z X.K W (evEs G F ies))) := by
  have he : starEach (a :: es) X.env = (false, eval a X.env) :: starEach es X.env := star_cons (hs a (by simp))
  have hpl : (backTo pos (starEach es X.env)).any (·.1) = false := star_any fun b hb => hs b (List.mem_cons_of_mem _ hb)
  cases k with
  | len => exact pe_callB call_lenD hg hm boot_len ha (by decide) (by decide) he hpl
  | int_ => exact pe_callTy call_intD hg hm boot_int ha (by decide) (by decide) he hpl
  | bool_ => exact pe_callTy call_boolD hg hm boot_bool ha (by decide) (by decide) he hpl
  | str_ => exact pe_callTy call_strD hg hm boot_str ha (by decide) (by decide) he hpl
  | tuple_ => exact pe_callTy call_tupleD hg hm boot_tuple ha (by decide) (by decide) he hpl
  | list_ => exact pe_callTy call_listD hg hm boot_list ha (by decide) (by decide) he hpl
  | min2 => exact pe_callB (call_min2D hc) hg hm boot_min ha (by decide) (by decide) he hpl
  | max2 => exact pe_callB (call_max2D hc) hg hm boot_max ha (by decide) (by decide) he hpl
  | min1 => exact pe_callB (call_min1D hc hu) hg hm boot_min ha (by decide) (by decide) he hpl
  | max1 => exact pe_callB (call_max1D hc) hg hm boot_max ha (by decide) (by decide) he hpl
  | sum_ => exact pe_callB (call_sumD hc) hg hm boot_sum ha (by decide) (by decide) he hpl
  | all_ => exact pe_callB (call_allD hc) hg hm boot_all ha (by decide) (by decide) he hpl
  | any_ => exact pe_callB (call_anyD hc) hg hm boot_any ha (by decide) (by decide) he hpl
  | abs_ => exact pe_callB call_absD hg hm boot_abs ha (by decide) (by decide) he hpl
  | _ => cases hk
theorem boot_ty {k : Bi} (hk : isB k = true) : bootBuiltins (Str.ofString (tyOfB k)) = some (.type (tyOfB k)) := by
  cases k <;> first | (simp [isB] at hk; done) | decide +kernel
theorem ty_names {k : Bi} (hk : isB k = true) : Str.ofString (tyOfB k) ≠ "__name__" ∧ (Str.ofString (tyOfB k) == ("__debug__" : Str)) = false := by
  cases k <;> first | (simp [isB] at hk; done) | (constructor <;> decide +kernel)
theorem is_call {k : Bi} {a : Expr} {ia : E} {p p2 pos : Pos} (hk : isB k = true) (hg : Gl X "isinstance") (hm : X.mg "isinstance" = none) (hg2 : Gl X (Str.ofString (tyOfB k))) (hm2 : X.mg (Str.ofString (tyOfB k)) = none) (ha : SE Z X W G F ia a) (hs : notStar a = true) :
    SE Z X W G F (.bi k (.cons ia .nil)) (.Call (.Name "isinstance" p) [a, .Name (Str.ofString (tyOfB k)) p2] [] pos) := by
  have hn : PE X (.Name (Str.ofString (tyOfB k)) p2) (tC (.ty (tyOfB k))) := pe_bltn hg2 hm2 (boot_ty hk) rfl (ty_names hk).1 (ty_names hk).2
  exact sE_is hk (pe_callB (call_is (fa := Z.fa) hk) hg hm boot_isinstance (pa_cons ha (pa_cons hn pa_nil rfl) (star_cons hs)) (by decide) (by decide) (star_cons hs) rfl)
theorem mth_call {m : Me} {o a : Expr} {es : List Expr} {io : E} {ies : Es} {apos cpos : Pos} (hm : meOk m = true) (hl : (apos.endLine == cpos.line) = true) (hb : notCall0 o = true) (hn : es.length < 20) (ho : SE Z X W G F io o) (ha : SA Z X W G F ies (a :: es)) (hs : ∀ b ∈ a :: es, notStar b = true) :
    SE Z X W G F (.mth m io ies) (.Call (.Attribute o (meName m) apos) (a :: es) [] cpos) := by
  have he : starEach (a :: es) X.env = (false, eval a X.env) :: starEach es X.env := star_cons (hs a (by simp))
  have hpl : (backTo cpos (starEach es X.env)).any (·.1) = false := star_any fun b hb => hs b (List.mem_cons_of_mem _ hb)
  have hfew : ((backTo cpos (starEach (a :: es) X.env)).all (fun x => !x.1) && (backToKw cpos (keywordEach [] X.env)).all (fun x => x.1.isSome)
      && decide ((a :: es).length + ([] : List Keyword).length + (if ([] : List Keyword).isEmpty then 0 else 1) < 30)) = true := by
    rw [star_all hs, Bool.true_and, Bool.and_eq_true]
    refine ⟨rfl, decide_eq_true ?_⟩
    show es.length + 1 + 0 + 0 < 30
    omega
  cases m with
  | join => exact sE_mth (pe_bm PySem.F.plainAttrs_str PySem.F.slot_str_join PySem.F.type_str_join mt_joinD ho ha (notCall_base hb) hfew hl he hpl)
  | split => exact sE_mth (pe_bm PySem.F.plainAttrs_str PySem.F.slot_str_split PySem.F.type_str_split mt_splitD ho ha (notCall_base hb) hfew hl he hpl)
  | _ => cases hm
end
section
variable {Z : Ze} {T : Tab} {N : List Str} {F : Orc} {k : Nat} {X : Cx} {q : ScP} {W : WX}
theorem chkA_star : ∀ {ies : Es} {es : List Expr}, chkA T N ies q es = true → (∀ a ∈ es, notStar a = true) ∧ ies.len = es.length
  | .nil, es, h => by
    cases es with
    | nil => exact ⟨by simp, rfl⟩
    | cons _ _ => cases h
  | .cons e r, es, h => by
    cases es with
    | nil => cases h
    | cons a es =>
      simp only [chkA, Bool.and_eq_true] at h
      obtain ⟨h1, h2⟩ := chkA_star h.2
      refine ⟨fun b hb => ?_, ?_⟩
      · rcases List.mem_cons.mp hb with hb | hb
        · rw [hb]; exact h.1.1
        · exact h1 b hb
      · show r.len + 1 = es.length + 1
        rw [h2]
theorem tgs_ok (c : Cok Z T N F k X q W) : ∀ {is : List Nat} {ts : List Expr}, chkTs N q is ts = true → PGs X ts (gNs is) ∧ (assignEach ts X.env).length = is.length ∧ (assignEach ts X.env).findIdx? (·.1) = none ∧ ∀ t ∈ ts, notStar t = true
  | [], [], _ => ⟨sGs_nil, rfl, rfl, by simp⟩
  | i :: is, [], h => by simp [chkTs] at h
  | [], _ :: _, h => by simp [chkTs] at h
  | i :: is, t :: ts, h => by
    cases t <;> first | (simp [chkTs] at h; done) | skip
    simp only [chkTs, Bool.and_eq_true] at h
    obtain ⟨⟨h1, h2⟩, h3⟩ := h
    obtain ⟨g1, g2, g3, g4⟩ := tgs_ok c h3
    have a := c.asn h2
    refine ⟨sGs_cons (pg_name c.nd (by rw [c.hN]; exact of_decide_eq_true h1) a.1 a.2) g1 rfl, ?_, ?_, fun b hb => ?_⟩
    · show (assignEach ts X.env).length + 1 = is.length + 1
      rw [g2]
    · show List.findIdx? (·.1) ((false, _) :: assignEach ts X.env) = none
      rw [List.findIdx?_cons, g3]
      rfl
    · rcases List.mem_cons.mp hb with hb | hb
      · rw [hb]; rfl
      · exact g4 b hb
theorem notB {b : Bool} (h : (!b) = true) : b = false := by
  cases b
  · rfl
  · cases h
theorem tg_ok (c : Cok Z T N F k X q W) {t : Tg} {e : Expr} (h : chkT N q t e = true) : PG X e (gD Z X.K t) := by
  cases t with
  | nm i =>
    cases e <;> first | (simp [chkT] at h; done) | skip
    simp only [chkT, Bool.and_eq_true] at h
    have a := c.asn h.2
    exact sG_nm (pg_name c.nd (by rw [c.hN]; exact of_decide_eq_true h.1) a.1 a.2)
  | tp is =>
    cases e <;> first | (simp [chkT] at h; done) | skip
    simp only [chkT, Bool.and_eq_true] at h
    obtain ⟨g1, g2, g3, _⟩ := tgs_ok c h.2
    exact sG_tp (pg_tup (c.calm (notB h.1)) g1 g2 g3) rfl
  | tq is j =>
    unfold chkT at h
    split at h
    · rename_i h0; cases h0
    · rename_i h0; cases h0
    · rename_i is' j' ts k1 p1 x p2 k2 p3 e1
      cases e1
      simp only [Bool.and_eq_true] at h
      obtain ⟨⟨hq, h1⟩, h2, h3⟩ := h
      have hc := c.calm (notB hq)
      obtain ⟨g1, g2, g3, _⟩ := tgs_ok c h1
      have a := c.asn h3
      exact sG_tq (pg_tup hc (pgs_cons (pg_tup hc g1 g2 g3) (pgs_cons (pg_name c.nd (by rw [c.hN]; exact of_decide_eq_true h2) a.1 a.2) pgs_nil rfl) rfl) rfl rfl)
    · cases h
theorem own_map {own : List Nat} : (ownOf N own).map (·.2) = own := by
  unfold ownOf
  rw [List.map_map]
  exact List.map_id'' (fun _ => rfl) own
theorem blk_kind {sc scope : Scope} {own : List (Str × Nat)} (h : blkC N sc scope own = true) : scope.kind = .function := (blkOk_by h).kind
/-- isinstance(e, C), e an exception that is handled -/
def rIsX (Z : Ze) (K : PySem.W.Frag) : List V → Hp → VK → Prop := fun xs H Q => ∃ a k C' b, xs = [.ref a, .ref C'] ∧ Z.lm a k ∧ (∀ C, Z.ec k = .ref C → PySem.W.kitOne K (.ref C) (.ref C') = some b) ∧ Q (.bl b) H
theorem call_isx (c : Cok Z T N F k X q W) : CallR X (.builtin "isinstance") (rIsX Z X.K) := by
  intro pins s σ H xs us Q I r h
  obtain ⟨a, kk, C', b, rfl, hl, e, qq⟩ := h
  cases r with
  | cons rx rr =>
    cases rr with
    | cons rt rr =>
      cases rr
      cases rx
      cases rt
      obtain ⟨oe, C2, e2, J, x⟩ := (c.exn a kk hl).2 pins σ H s I
      exact PySem.W.kia_one (PySem.W.handS_kitx_exc x.hg x.hk x.hs x.hd x.ha x.hn x.ht x.hm) I.kIn J (e _ e2) (fun z => nomatch z) fun tk => ⟨.bl b, H, I.kept (t' := tk) fun _ _ z => z, rfl, qq⟩
theorem sE_isx (c : Cok Z T N F k X q W) {i j : Nat} {x y t : Str} {p p2 p3 pos : Pos} (h1 : bltB T q x "isinstance" = true) (h2 : N[i]? = some y) (h3 : visB q y = true) (h4 : okN y = true) (h5 : glB q t = true) (h6 : okN t = true) (h7 : T.ex[j]? = some t) :
    SE Z X W (G_ T) F (.isx i j) (.Call (.Name x p) [.Name y p2, .Name t p3] [] pos) := by
  obtain ⟨rfl, g1, g2⟩ := c.blt h1
  obtain ⟨n1, n2, _⟩ := okN_d h4
  obtain ⟨n3, _, _⟩ := okN_d h6
  obtain ⟨C', m1, _⟩ := c.wk.exs j t h7
  have hy : PE X (.Name y p2) (tVar i) := pe_var (by rw [c.hN]; exact h2) (c.vis h3) n1 n2
  have ht : PE X (.Name t p3) (tC (.ref C')) := pe_glob (v := .ref C') (c.gl h5) m1 rfl n3
  refine (pe_callB (call_isx c) g1 g2 boot_isinstance (pa_cons hy (pa_cons ht pa_nil rfl) rfl) (by decide) (by decide) rfl rfl).imp fun σ H Q ⟨w, e, S, st, f⟩ => ?_
  have f : Fin Z X.K W (relE Z X.K) σ w H ((getV e i S).bind fun d S => asExn d fun k => F (.clo k [.int j]) [] S) Q := f
  unfold getV at f
  split at f
  · rename_i d hd
    obtain ⟨v, v1, v2⟩ := st.er.get hd
    obtain ⟨kk, rfl, f1⟩ := Fin.asExn (show Fin Z X.K W (relE Z X.K) σ w H (asExn d fun k => F (.clo k [.int j]) [] S) Q from f)
    cases v2 with
    | of r => cases r
    | clo hl =>
      rename_i a
      rcases c.wk.isx kk j S with z | ⟨b, z, hk⟩
      · rw [z] at f1
        exact False.elim f1
      · rw [z] at f1
        obtain ⟨C2, m2, hk2⟩ := hk t h7
        rw [m1] at m2
        cases m2
        exact ⟨.ref a, v1, a, kk, C', b, rfl, hl, hk2, f1.now st.sr (.of (.bl b))⟩
  · exact False.elim f
/-- a call of a local name -/
theorem sE_callv (c : Cok Z T N F k X q W) (hq : q.hot = false) {i : Nat} {x : Str} {p pos : Pos} {a : Expr} {es : List Expr} {ies : Es} (hN : N[i]? = some x) (hv : visB q x = true) (ho : okN x = true) (ha : SA Z X W (G_ T) F ies (a :: es)) (hs : ∀ b ∈ a :: es, notStar b = true) :
    SE Z X W (G_ T) F (.callv i T.fn.length ies) (.Call (.Name x p) (a :: es) [] pos) := by
  obtain ⟨n1, n2, _⟩ := okN_d ho
  refine ⟨fun pins s σ H Q I ⟨w, e, S, st, f⟩ => ?_⟩
  have f : Fin Z X.K W (relE Z X.K) σ w H ((getV e i S).bind fun d S => asFn d fun f => gd (decide (f < T.fn.length)) ((evEs (G_ T) F ies e S).bind fun ds S => F (.fn f) ds S)) Q := f
  unfold getV at f
  split at f
  · rename_i d hd
    cases d with
    | fn g =>
      obtain ⟨v, g1, g2⟩ := st.er.get hd
      obtain rfl : v = .ref (Z.fa g) := by
        cases g2 with
        | of r => cases r; rfl
      obtain ⟨hlt, f⟩ := Fin.gd (show Fin Z X.K W (relE Z X.K) σ w H (gd (decide (g < T.fn.length)) ((evEs (G_ T) F ies e S).bind fun ds S => F (.fn g) ds S)) Q from f)
      have hlt := of_decide_eq_true hlt
      cases qf : T.fn[g]? with
      | none => exact absurd (List.getElem?_eq_none_iff.mp qf) (by omega)
      | some pr =>
        obtain ⟨m1, m2⟩ := c.wk.fns g pr qf
        obtain ⟨fd, ps, hl, ok, hb⟩ := m2.ex
        refine (pe_callLS ok (c.room hq) (by rw [c.hN]; exact hN) (c.vis hv) m2.kp hb (c.tk hq) ha n1 n2 (star_cons (hs a (by simp))) (star_any fun b hb => hs b (List.mem_cons_of_mem _ hb))).run pins s σ H Q I ⟨g1, w, e, S, st, f.bind fun ds S1 vs w1 H1 q1 x1 r1 s1 f1 => ?_⟩
        by_cases hn : pr.2 = ds.length
        · exact ⟨by rw [r1.len, hn], w1, ds, S1, r1, s1, Fin.at f1 fun _ _ _ h => h⟩
        · rw [c.wk.out g ds S1 fun p hp => by rw [qf] at hp; cases hp; exact hn] at f1
          exact False.elim f1
    | _ => exact False.elim f
  · exact False.elim f
theorem comp_ok (c : Cok Z T N F k X q W) (hq : q.hot = false) {own : List Nat} {tg : Tg} {it : I} {e : E} {cc : Op} {t i l : Expr} {ifs : List Expr} {scope : Scope} (h1 : blkC N q.sc scope (ownOf N own) = true) (h2 : (tg.ids.all fun i => own.contains i) = true) (h3 : chkT N (blkP scope q) tg t = true) (h4 : notSet i = true)
    (hi : SI Z X W (G_ T) F it t i) (ht : Blk X scope fun Y => SCs Z Y (G_ T) F cc ifs) (he : Blk X scope fun Y => SE Z Y WF (G_ T) F e l) : CompOk Z X W (G_ T) F (ownOf N own) tg it e cc t i l ifs scope :=
  ⟨by rw [c.hN, c.sc]; exact blkOk_by h1, hi, ⟨fun s H C cl fp => tg_ok (c.blk hq scope (blk_kind h1) s H C cl fp) h3⟩, ht, he, fun j hj => by
    rw [own_map]
    have := List.all_eq_true.mp h2 j hj
    simpa using this, notSet_fold h4⟩
theorem comp2_ok (c : Cok Z T N F k X q W) (hq : q.hot = false) {own own2 : List Nat} {tg tg2 : Tg} {it it2 : I} {e : E} {cc : Op} {t i t2 i2 l : Expr} {ifs : List Expr} {scope : Scope} (h1 : blkC N q.sc scope (ownOf N own) = true) (h2 : (tg.ids.all fun i => own.contains i) = true) (h3 : (tg2.ids.all fun i => own2.contains i) = true) (h4 : (own2.all fun i => own.contains i) = true)
    (h5 : chkT N (blkP scope q) tg t = true) (h6 : chkT N (blkP scope q) tg2 t2 = true) (h7 : notSet i = true) (h8 : notSet i2 = true)
    (hi : SI Z X W (G_ T) F it t i) (hi2 : Blk X scope fun Y => SI Z Y WF (G_ T) F it2 t2 i2) (ht : Blk X scope fun Y => SCs Z Y (G_ T) F cc ifs) (he : Blk X scope fun Y => SE Z Y WF (G_ T) F e l) : Comp2Ok Z X W (G_ T) F (ownOf N own) own2 tg tg2 it it2 e cc t i t2 i2 l ifs scope := by
  have sub : ∀ {as bs : List Nat}, (as.all fun i => bs.contains i) = true → ∀ j ∈ as, j ∈ bs := fun h j hj => by
    have := List.all_eq_true.mp h j hj
    simpa using this
  exact ⟨by rw [c.hN, c.sc]; exact blkOk_by h1, by rw [own_map]; exact sub h4, hi, ⟨fun s H C cl fp => tg_ok (c.blk hq scope (blk_kind h1) s H C cl fp) h5⟩, hi2, ⟨fun s H C cl fp => tg_ok (c.blk hq scope (blk_kind h1) s H C cl fp) h6⟩, ht, he, by rw [own_map]; exact sub h2, sub h3, notSet_fold h7, fun _ => notSet_fold h8⟩
/-- list(..): a new one -/
def rListA (K : PySem.W.Frag) (fa : Fa) : List V → Hp → VK → Prop := fun vs H Q => ∃ w S ds d, SR K fa w H S ∧ RepsR K fa w H vs ds ∧ biList ds = some (.lst d) ∧ ∀ xs, Reps K fa w H xs d → ∀ p, H p = none → Q (.ref p) (L2.upd H p (.lst xs))
theorem call_listA {fa : Fa} : CallR X (.type "list") (rListA X.K fa) := by
  intro pins s σ H xs us Q I r h
  obtain ⟨w, S, ds, d, sr, rr, e, af⟩ := h
  unfold biList at e
  split at e
  · obtain ⟨x, rfl, q⟩ := rr.one
    cases e
    obtain ⟨a, vs, rfl, h1, h2⟩ := q.lst_of
    exact call_list_of pins s σ H _ us Q I r ⟨a, vs, rfl, .inl (.of h1), fun l hl => af vs h2 l hl⟩
  · obtain ⟨x, rfl, q⟩ := rr.one
    cases e
    obtain ⟨a, vs, rfl, h1, h2⟩ := q.tup_of
    exact call_list_of pins s σ H _ us Q I r ⟨a, vs, rfl, .inr h1, fun l hl => af vs h2 l hl⟩
  · cases e
theorem bi_listA {a : Expr} {es : List Expr} {ies : Es} {p pos : Pos} {G : Nat → Option D} (hg : Gl X "list") (hm : X.mg "list" = none) (ha : SA Z X W G F ies (a :: es)) (hs : ∀ b ∈ a :: es, notStar b = true) :
    PE X (.Call (.Name "list" p) (a :: es) [] pos) (tCB (rListA X.K Z.fa) (tA Z X.K W (evEs G F ies))) :=
  pe_callTy call_listA hg hm boot_list ha (by decide) (by decide) (star_cons (hs a (by simp))) (star_any fun b hb => hs b (List.mem_cons_of_mem _ hb))
theorem sE_alcB {G : Nat → Option D} {a : Expr} {ies : Es} (he : PE X a (tCB (rListA X.K Z.fa) (tA Z X.K W (evEs G F ies)))) : SE Z X W G F (.alc (.bi .list_ ies)) a :=
  he.imp fun σ H Q ⟨w, e, S, st, f⟩ => by
    have f : Fin Z X.K W (relE Z X.K) σ w H (((evEs G F ies e S).bind fun ds S => R.of (biList (ds.map (view S))) S).bind fun d S => asLst d fun ds => .ok (.ref S.length) (S ++ [.lst ds])) Q := f
    rw [bind_assoc] at f
    refine ⟨w, e, S, st, f.bind fun xs S1 vs w1 H1 q1 x1 r1 s1 f1 => ?_⟩
    cases q2 : biList (xs.map (view S1)) with
    | none => rw [q2] at f1; exact False.elim f1
    | some d =>
      rw [q2] at f1
      obtain ⟨ys, rfl, f2⟩ := Fin.asLst f1
      exact ⟨w1, S1, _, ys, s1, view_all s1 r1, q2, fun zs rz p hp => alc_new s1 rz f2 hp⟩
mutual
theorem sndE : ∀ (ia : E) {X : Cx} {q : ScP} {W : WX} {a : Expr}, Cok Z T N F k X q W → chkE T N ia q a = true → Snd Z X W (G_ T) F ia a
  | .var i, X, q, W, a, c, h => by
    unfold chkE at h
    split at h
    · simp only [Bool.and_eq_true] at h
      obtain ⟨⟨h1, h2⟩, h3⟩ := h
      obtain ⟨n1, n2, _⟩ := okN_d h3
      exact .of (sE_var (pe_var (by rw [c.hN]; exact of_decide_eq_true h1) (c.vis h2) n1 n2)) (fun _ => rfl) fun _ _ _ e => nomatch e
    · cases h
  | .cint i, X, q, W, a, c, h => by
    unfold chkE at h
    split at h
    · cases of_decide_eq_true h
      exact .of (sE_const pe_int (fun _ _ => .int _) fun _ _ => rfl) (fun _ => rfl) fun _ _ _ e => nomatch e
    · cases h
  | .cstr s, X, q, W, a, c, h => by
    unfold chkE at h
    split at h
    · simp only [Bool.and_eq_true] at h
      obtain ⟨⟨h1, h2⟩, h3⟩ := h
      cases of_decide_eq_true h1
      refine .of (sE_const pe_str (fun _ _ => .str ?_ fun y hy => of_decide_eq_true (List.all_eq_true.mp h2 y hy)) fun _ _ => rfl) (fun _ => rfl) fun _ _ _ e => nomatch e
      have := of_decide_eq_true h3
      rw [sizeLine_eq]
      omega
    · cases h
  | .cbl b, X, q, W, a, c, h => by
    unfold chkE at h
    split at h
    · cases of_decide_eq_true h
      exact .of (sE_const pe_bl (fun _ _ => .bl _) fun _ _ => rfl) (fun _ => rfl) fun _ _ _ e => nomatch e
    · cases h
  | .cnon, X, q, W, a, c, h => by
    unfold chkE at h
    split at h
    · exact .of (sE_const pe_non (fun _ _ => .non) fun _ _ => rfl) (fun _ => rfl) fun _ _ _ e => nomatch e
    · cases h
  | .gl g, X, q, W, a, c, h => by
    unfold chkE at h
    split at h
    · simp only [Bool.and_eq_true] at h
      obtain ⟨⟨h1, h2⟩, h3⟩ := h
      obtain ⟨n1, _, _⟩ := okN_d h2
      split at h3
      · rename_i p hp
        cases of_decide_eq_true h3
        obtain ⟨v, u, g1, g2, g3⟩ := c.wk.gls g p hp
        refine .of (sE_const (pe_glob (c.gl h1) g1 g2 n1) g3 fun _ _ => ?_) (fun _ => rfl) fun _ _ _ e => nomatch e
        show R.of ((T.gl[g]?).map (·.2)) _ = _
        rw [hp]
        rfl
      · cases h3
    · cases h
  | .fnv f, X, q, W, a, c, h => by
    unfold chkE at h
    split at h
    · simp only [Bool.and_eq_true] at h
      obtain ⟨⟨h1, h2⟩, h3⟩ := h
      obtain ⟨n1, _, _⟩ := okN_d h2
      split at h3
      · rename_i p hp
        cases of_decide_eq_true h3
        obtain ⟨g1, _⟩ := c.wk.fns f p hp
        exact .of (sE_const (pe_glob (v := .ref (Z.fa f)) (c.gl h1) g1 rfl n1) (fun _ _ => .fn f) fun _ _ => rfl) (fun _ => rfl) fun _ _ _ e => nomatch e
      · cases h3
    · cases h
  | .tup es, X, q, W, a, c, h => by
    unfold chkE at h
    split at h
    · simp only [Bool.and_eq_true] at h
      exact .of (sE_tup (sndA es c h.1) (of_decide_eq_true h.2)) (fun _ => rfl) fun _ _ _ e => nomatch e
    · cases h
  | .lst es, X, q, W, a, c, h => by
    unfold chkE at h
    split at h
    · simp only [Bool.and_eq_true] at h
      exact .of (sE_lst (sndA es c h.1) (of_decide_eq_true h.2)) (fun _ => rfl) fun _ _ _ e => nomatch e
    · cases h
  | .alc (.lst es), X, q, W, a, c, h => by
    unfold chkE at h
    replace h := (Bool.and_eq_true _ _ ▸ h).2
    unfold chkE at h
    split at h
    · simp only [Bool.and_eq_true] at h
      exact .of (sE_alcL (sndA es c h.1) (of_decide_eq_true h.2)) (fun _ => rfl) fun _ _ _ e => nomatch e
    · cases h
  | .alc (.comp own tg it e cc), X, q, W, a, c, h => by
    unfold chkE at h
    replace h := (Bool.and_eq_true _ _ ▸ h).2
    unfold chkE at h
    split at h
    · rename_i l t i ifs z scope pos
      simp only [Bool.and_eq_true] at h
      obtain ⟨⟨⟨⟨⟨⟨⟨⟨hq, h0⟩, h1⟩, h2⟩, h3⟩, h4⟩, h5⟩, h6⟩, h7⟩ := h
      have hq := notB hq
      cases of_decide_eq_true h0
      have cb := c.blk hq scope (blk_kind h1)
      have ok := comp_ok c hq h1 h2 h3 h4 (sndI it c h5) ⟨fun s H C cl fp => sndC cc (cb s H C cl fp) h6⟩ ⟨fun s H C cl fp => (sndE e (cb s H C cl fp) h7).e⟩
      have hh := (pe_comp (pos := pos) (c.calm hq) c.nd ok).imp (comp_a ok.hsub)
      rw [own_map] at hh
      exact .of hh (fun _ => rfl) fun _ _ _ e => nomatch e
    · cases h
  | .alc (.comp2 own tg it own2 tg2 it2 e cc), X, q, W, a, c, h => by
    unfold chkE at h
    replace h := (Bool.and_eq_true _ _ ▸ h).2
    unfold chkE at h
    split at h
    · rename_i l t i z t2 i2 ifs z2 scope pos
      simp only [Bool.and_eq_true] at h
      obtain ⟨⟨⟨⟨⟨⟨⟨⟨⟨⟨⟨⟨⟨⟨hq, h0⟩, h01⟩, h1⟩, h2⟩, h3⟩, h4⟩, h5⟩, h6⟩, h7⟩, h8⟩, h9⟩, h10⟩, h11⟩, h12⟩ := h
      have hq := notB hq
      cases of_decide_eq_true h0
      cases of_decide_eq_true h01
      have cb := c.blk hq scope (blk_kind h1)
      have ok := comp2_ok c hq h1 h2 h3 h4 h5 h6 h7 h8 (sndI it c h9) ⟨fun s H C cl fp => sndI it2 (cb s H C cl fp) h10⟩ ⟨fun s H C cl fp => sndC cc (cb s H C cl fp) h11⟩ ⟨fun s H C cl fp => (sndE e (cb s H C cl fp) h12).e⟩
      have hh := (pe_comp2 (pos := pos) (c.calm hq) c.nd ok).imp (comp2_a ok.hsub ok.hsub2)
      rw [own_map] at hh
      exact .of hh (fun _ => rfl) fun _ _ _ e => nomatch e
    · cases h
  | .alc (.bi .list_ es), X, q, W, a, c, h => by
    unfold chkE at h
    replace h := (Bool.and_eq_true _ _ ▸ h).2
    unfold chkE at h
    split at h
    · rename_i x p as pos
      simp only [isB, biOk, Bool.and_eq_true] at h
      obtain ⟨⟨⟨⟨hq, _⟩, h2⟩, h4⟩, h3⟩ := h
      obtain ⟨rfl, g1, g2⟩ := c.blt h2
      cases as with
      | nil => cases h4
      | cons b bs => exact .of (sE_alcB (bi_listA g1 g2 (sndA es c h3) (chkA_star h3).1)) (fun _ => rfl) fun _ _ _ e => nomatch e
    · cases h
  | .alc (.var _), _, _, _, _, _, h => by simp [chkE, alcOk] at h
  | .alc (.cint _), _, _, _, _, _, h => by simp [chkE, alcOk] at h
  | .alc (.cstr _), _, _, _, _, _, h => by simp [chkE, alcOk] at h
  | .alc (.cbl _), _, _, _, _, _, h => by simp [chkE, alcOk] at h
  | .alc (.cnon), _, _, _, _, _, h => by simp [chkE, alcOk] at h
  | .alc (.gl _), _, _, _, _, _, h => by simp [chkE, alcOk] at h
  | .alc (.fnv _), _, _, _, _, _, h => by simp [chkE, alcOk] at h
  | .alc (.tup _), _, _, _, _, _, h => by simp [chkE, alcOk] at h
  | .alc (.alc _), _, _, _, _, _, h => by simp [chkE, alcOk] at h
  | .alc (.bin _ _ _), _, _, _, _, _, h => by simp [chkE, alcOk] at h
  | .alc (.neg _), _, _, _, _, _, h => by simp [chkE, alcOk] at h
  | .alc (.cmp _ _ _), _, _, _, _, _, h => by simp [chkE, alcOk] at h
  | .alc (.chn _ _ _ _ _), _, _, _, _, _, h => by simp [chkE, alcOk] at h
  | .alc (.andE _ _), _, _, _, _, _, h => by simp [chkE, alcOk] at h
  | .alc (.orE _ _), _, _, _, _, _, h => by simp [chkE, alcOk] at h
  | .alc (.notE _), _, _, _, _, _, h => by simp [chkE, alcOk] at h
  | .alc (.ite _ _ _), _, _, _, _, _, h => by simp [chkE, alcOk] at h
  | .alc (.idx _ _), _, _, _, _, _, h => by simp [chkE, alcOk] at h
  | .alc (.slc _ _ _), _, _, _, _, _, h => by simp [chkE, alcOk] at h
  | .alc (.rev _), _, _, _, _, _, h => by simp [chkE, alcOk] at h
  | .alc (.call _ _), _, _, _, _, _, h => by simp [chkE, alcOk] at h
  | .alc (.callv _ _ _), _, _, _, _, _, h => by simp [chkE, alcOk] at h
  | .alc (.refu _ _), _, _, _, _, _, h => by simp [chkE, alcOk] at h
  | .alc (.isx _ _), _, _, _, _, _, h => by simp [chkE, alcOk] at h
  | .alc (.mth _ _ _), _, _, _, _, _, h => by simp [chkE, alcOk] at h
  | .alc (.bi .len _), _, _, _, _, _, h => by simp [chkE, alcOk] at h
  | .alc (.bi .isInt _), _, _, _, _, _, h => by simp [chkE, alcOk] at h
  | .alc (.bi .isBool _), _, _, _, _, _, h => by simp [chkE, alcOk] at h
  | .alc (.bi .isStr _), _, _, _, _, _, h => by simp [chkE, alcOk] at h
  | .alc (.bi .isTuple _), _, _, _, _, _, h => by simp [chkE, alcOk] at h
  | .alc (.bi .int_ _), _, _, _, _, _, h => by simp [chkE, alcOk] at h
  | .alc (.bi .bool_ _), _, _, _, _, _, h => by simp [chkE, alcOk] at h
  | .alc (.bi .str_ _), _, _, _, _, _, h => by simp [chkE, alcOk] at h
  | .alc (.bi .tuple_ _), _, _, _, _, _, h => by simp [chkE, alcOk] at h
  | .alc (.bi .min2 _), _, _, _, _, _, h => by simp [chkE, alcOk] at h
  | .alc (.bi .max2 _), _, _, _, _, _, h => by simp [chkE, alcOk] at h
  | .alc (.bi .min1 _), _, _, _, _, _, h => by simp [chkE, alcOk] at h
  | .alc (.bi .max1 _), _, _, _, _, _, h => by simp [chkE, alcOk] at h
  | .alc (.bi .sum_ _), _, _, _, _, _, h => by simp [chkE, alcOk] at h
  | .alc (.bi .all_ _), _, _, _, _, _, h => by simp [chkE, alcOk] at h
  | .alc (.bi .any_ _), _, _, _, _, _, h => by simp [chkE, alcOk] at h
  | .alc (.bi .sorted_ _), _, _, _, _, _, h => by simp [chkE, alcOk] at h
  | .alc (.bi .set_ _), _, _, _, _, _, h => by simp [chkE, alcOk] at h
  | .alc (.bi .abs_ _), _, _, _, _, _, h => by simp [chkE, alcOk] at h
  | .bin op x y, X, q, W, a, c, h => by
    unfold chkE at h
    split at h
    · simp only [Bool.and_eq_true] at h
      obtain ⟨⟨h1, h2⟩, h3⟩ := h
      cases of_decide_eq_true h1
      exact .of (sE_bin (sndE x c h2).e (sndE y c h3).e) (fun _ => rfl) fun _ _ _ e => nomatch e
    · cases h
  | .neg x, X, q, W, a, c, h => by
    unfold chkE at h
    split at h
    · exact .of (sE_neg (sndE x c h).e) (fun _ => rfl) fun _ _ _ e => nomatch e
    · cases h
  | .cmp op x y, X, q, W, a, c, h => by
    unfold chkE at h
    split at h
    · simp only [Bool.and_eq_true] at h
      obtain ⟨⟨⟨h1, h2⟩, h3⟩, h4⟩ := h
      cases of_decide_eq_true h1
      exact ⟨sE_cmp c.hu (sndE x c h2).e (sndE y c h3).e (notSet_beh h4), sT_cmp c.hu (sndE x c h2).e (sndE y c h3).e (notSet_beh h4), fun _ _ _ e => nomatch e⟩
    · cases h
  | .chn op op' x y z, X, q, W, a, c, h => by
    unfold chkE at h
    split at h
    · simp only [Bool.and_eq_true] at h
      obtain ⟨⟨⟨⟨⟨h0, h1⟩, h2⟩, h3⟩, h4⟩, h5⟩ := h
      cases of_decide_eq_true h0
      cases of_decide_eq_true h1
      exact ⟨sE_chn c.hu (sndE x c h2).e (sndE y c h3).e (sndE z c h4).e (notSet_beh h5), sT_chn c.hu (sndE x c h2).e (sndE y c h3).e (sndE z c h4).e (notSet_beh h5), fun _ _ _ e => nomatch e⟩
    · cases h
  | .andE x y, X, q, W, a, c, h => by
    unfold chkE at h
    split at h
    · simp only [Bool.and_eq_true] at h
      obtain ⟨h1, h2⟩ := h
      have hx := sndE x c h1
      split at h2
      · have hy := sndE y c h2
        have hw := sT_and (pos := ‹Pos›) hx.t (pw_and1 hy.t)
        exact ⟨sE_and hx.e (pe_one hy.e), hw.pt, fun _ _ _ e => by cases e; exact hw⟩
      · have hy := sndE y c h2
        have hw := sT_and hx.t (hy.w _ _ _ rfl)
        exact ⟨sE_and hx.e hy.e, hw.pt, fun _ _ _ e => by cases e; exact hw⟩
    · cases h
  | .orE x y, X, q, W, a, c, h => by
    unfold chkE at h
    split at h
    · simp only [Bool.and_eq_true] at h
      obtain ⟨h1, h2⟩ := h
      have hx := sndE x c h1
      split at h2
      · have hy := sndE y c h2
        have hw := sT_or (pos := ‹Pos›) hx.t (pw_or1 hy.t)
        exact ⟨sE_or hx.e (pe_one hy.e), hw.pt, fun _ _ _ e => by cases e; exact hw⟩
      · have hy := sndE y c h2
        have hw := sT_or hx.t (hy.w _ _ _ rfl)
        exact ⟨sE_or hx.e hy.e, hw.pt, fun _ _ _ e => by cases e; exact hw⟩
    · cases h
  | .notE x, X, q, W, a, c, h => by
    unfold chkE at h
    split at h
    · exact ⟨sE_not (sndE x c h).e, sT_not (sndE x c h).t, fun _ _ _ e => nomatch e⟩
    · cases h
  | .ite t x y, X, q, W, a, c, h => by
    unfold chkE at h
    split at h
    · simp only [Bool.and_eq_true] at h
      obtain ⟨⟨h1, h2⟩, h3⟩ := h
      exact ⟨sE_ite (sndE t c h1).t (sndE x c h2).e (sndE y c h3).e, sT_ite (sndE t c h1).t (sndE x c h2).t (sndE y c h3).t, fun _ _ _ e => nomatch e⟩
    · cases h
  | .idx x y, X, q, W, a, c, h => by
    unfold chkE at h
    split at h
    · simp only [Bool.and_eq_true] at h
      obtain ⟨⟨h1, h2⟩, h3⟩ := h
      exact .of (sE_idx (notSlice_ix h1) (sndE x c h2).e (sndE y c h3).e) (fun _ => rfl) fun _ _ _ e => nomatch e
    · cases h
  | .slc x lo hi, X, q, W, a, c, h => by
    unfold chkE at h
    split at h
    · simp only [Bool.and_eq_true] at h
      obtain ⟨⟨h1, h2⟩, h3⟩ := h
      exact .of (sE_slc (sndE x c h1).e (sndO lo c h2) (sndO hi c h3)) (fun _ => rfl) fun _ _ _ e => nomatch e
    · cases h
  | .rev x, X, q, W, a, c, h => by
    unfold chkE at h
    split at h
    · simp only [Bool.and_eq_true] at h
      cases of_decide_eq_true h.1
      exact .of (sE_rev (sndE x c h.2).e) (fun _ => rfl) fun _ _ _ e => nomatch e
    · cases h
  | .call f es, X, q, W, a, c, h => by
    unfold chkE at h
    split at h
    · rename_i x p as pos
      simp only [Bool.and_eq_true] at h
      obtain ⟨⟨⟨⟨hq, h1⟩, h2⟩, h3⟩, h4⟩ := h
      have hq := notB hq
      obtain ⟨n1, _, _⟩ := okN_d h2
      split at h3
      · rename_i pr hp
        simp only [Bool.and_eq_true] at h3
        cases of_decide_eq_true h3.1
        have hl := of_decide_eq_true h3.2
        obtain ⟨g1, g2⟩ := c.wk.fns f pr hp
        have ha := sndA es c h4
        obtain ⟨s1, s2⟩ := chkA_star h4
        cases as with
        | nil =>
          cases es with
          | cons _ _ => simp [Es.len] at s2
          | nil => exact .of (sE_call0 g2 hl (c.room hq) (c.gl h1) g1 (c.tk hq) n1) (fun _ => rfl) fun _ _ _ e => nomatch e
        | cons b bs => exact .of (sE_call g2 hl.symm (c.room hq) (c.gl h1) g1 (c.tk hq) n1 ha (star_cons (s1 b (by simp))) (star_any fun d hd => s1 d (List.mem_cons_of_mem _ hd))) (fun _ => rfl) fun _ _ _ e => nomatch e
      · cases h3
    · cases h
  | .callv i n es, X, q, W, a, c, h => by
    unfold chkE at h
    split at h
    · rename_i x p as pos
      simp only [Bool.and_eq_true] at h
      obtain ⟨⟨⟨⟨⟨⟨hq, h0⟩, h1⟩, h2⟩, h3⟩, h4⟩, h5⟩ := h
      cases of_decide_eq_true h0
      cases as with
      | nil => cases h4
      | cons b bs => exact .of (sE_callv c (notB hq) (of_decide_eq_true h1) h2 h3 (sndA es c h5) (chkA_star h5).1) (fun _ => rfl) fun _ _ _ e => nomatch e
    · cases h
  | .refu g ib, X, q, W, a, c, h => by
    unfold chkE at h
    split at h
    · rename_i x p params body scope lpos pos
      simp only [Bool.and_eq_true] at h
      obtain ⟨⟨⟨⟨⟨⟨h1, h2⟩, h3⟩, h4⟩, h5⟩, h6⟩, h7⟩ := h
      cases of_decide_eq_true h3
      have L : LamX.LamS X.env.scope scope := LamX.lamS_by (by rw [c.sc]; exact h5)
      exact .of ((c.rf h1).rule g ib params body scope p lpos pos L h6 (c.gl h4) fun A outer s1 H1 E f c' hr => (sndE ib (c.lam (notB h2) L.kind hr) h7).e) (fun _ => rfl) fun _ _ _ e => nomatch e
    · cases h
  | .isx i j, X, q, W, a, c, h => by
    unfold chkE at h
    split at h
    · rename_i x p y p2 t p3 pos
      simp only [Bool.and_eq_true] at h
      obtain ⟨⟨⟨⟨⟨⟨h1, h2⟩, h3⟩, h4⟩, h5⟩, h6⟩, h7⟩ := h
      exact .of (sE_isx c h1 (of_decide_eq_true h2) h3 h4 h5 h6 (of_decide_eq_true h7)) (fun _ => rfl) fun _ _ _ e => nomatch e
    · cases h
  | .bi b .nil, X, q, W, a, c, h => by
    unfold chkE at h
    split at h
    · rename_i x p as pos
      split at h
      · rename_i hb
        split at h
        · rename_i l t p2
          simp only [Bool.and_eq_true] at h
          obtain ⟨⟨h1, h2⟩, h3⟩ := h
          obtain ⟨rfl, g1, g2⟩ := c.blt h1
          obtain ⟨rfl, g3, g4⟩ := c.blt h2
          simp [chkA] at h3
        · cases h
      · simp only [Bool.and_eq_true] at h
        obtain ⟨⟨⟨⟨hq, h1⟩, h2⟩, h4⟩, h3⟩ := h
        obtain ⟨rfl, g1, g2⟩ := c.blt h2
        cases as with
        | nil => cases h4
        | cons b2 bs =>
          have hl := (chkA_star h3).2
          cases hl
    · cases h
  | .bi b (.cons e r), X, q, W, a, c, h => by
    unfold chkE at h
    split at h
    · rename_i x p as pos
      split at h
      · rename_i hb
        split at h
        · rename_i l t p2
          simp only [Bool.and_eq_true] at h
          obtain ⟨⟨h1, h2⟩, h3⟩ := h
          obtain ⟨rfl, g1, g2⟩ := c.blt h1
          obtain ⟨rfl, g3, g4⟩ := c.blt h2
          simp only [chkA, Bool.and_eq_true] at h3
          obtain ⟨⟨h5, h6⟩, h7⟩ := h3
          have hr : r = .nil := by
            have := (chkA_star h7).2
            cases r with
            | nil => rfl
            | cons _ _ => cases this
          subst hr
          exact .of (is_call hb g1 g2 g3 g4 (sndE e c h6).e h5) (fun _ => rfl) fun _ _ _ e => nomatch e
        · cases h
      · simp only [Bool.and_eq_true] at h
        obtain ⟨⟨⟨⟨hq, h1⟩, h2⟩, h4⟩, h3⟩ := h
        obtain ⟨rfl, g1, g2⟩ := c.blt h2
        cases as with
        | nil => cases h4
        | cons b2 bs =>
          simp only [chkA, Bool.and_eq_true] at h3
          have ha : SA Z X W (G_ T) F (.cons e r) (b2 :: bs) := sA_cons (sndE e c h3.1.2).e (sndA r c h3.2) (star_cons h3.1.1)
          have hs : ∀ d ∈ b2 :: bs, notStar d = true := fun d hd => (List.mem_cons.mp hd).elim (fun z => by rw [z]; exact h3.1.1) ((chkA_star h3.2).1 d)
          exact .of (sE_bi (bi_call h1 (c.calm (notB hq)) (by have := c.hu; omega) g1 g2 ha hs)) (fun _ => rfl) fun _ _ _ e => nomatch e
    · cases h
  | .mth m o es, X, q, W, a, c, h => by
    unfold chkE at h
    split at h
    · simp only [Bool.and_eq_true] at h
      obtain ⟨⟨⟨⟨⟨⟨h1, h2⟩, h3⟩, h4⟩, h5⟩, h6⟩, h7⟩ := h
      cases of_decide_eq_true h2
      exact .of (mth_call h1 h3 h4 (of_decide_eq_true h5) (sndE o c h6).e (sndA es c h7) (chkA_star h7).1) (fun _ => rfl) fun _ _ _ e => nomatch e
    · cases h
  | .comp own tg it e cc, X, q, W, a, c, h => by
    unfold chkE at h
    split at h
    · rename_i l t i ifs z scope pos
      simp only [Bool.and_eq_true] at h
      obtain ⟨⟨⟨⟨⟨⟨⟨⟨hq, h0⟩, h1⟩, h2⟩, h3⟩, h4⟩, h5⟩, h6⟩, h7⟩ := h
      have hq := notB hq
      cases of_decide_eq_true h0
      have cb := c.blk hq scope (blk_kind h1)
      have ok := comp_ok c hq h1 h2 h3 h4 (sndI it c h5) ⟨fun s H C cl fp => sndC cc (cb s H C cl fp) h6⟩ ⟨fun s H C cl fp => (sndE e (cb s H C cl fp) h7).e⟩
      have hh := (pe_comp (pos := pos) (c.calm hq) c.nd ok).imp (comp_v ok.hsub)
      rw [own_map] at hh
      exact .of hh (fun _ => rfl) fun _ _ _ e => nomatch e
    · cases h
  | .comp2 own tg it own2 tg2 it2 e cc, X, q, W, a, c, h => by
    unfold chkE at h
    split at h
    · rename_i l t i z t2 i2 ifs z2 scope pos
      simp only [Bool.and_eq_true] at h
      obtain ⟨⟨⟨⟨⟨⟨⟨⟨⟨⟨⟨⟨⟨⟨hq, h0⟩, h01⟩, h1⟩, h2⟩, h3⟩, h4⟩, h5⟩, h6⟩, h7⟩, h8⟩, h9⟩, h10⟩, h11⟩, h12⟩ := h
      have hq := notB hq
      cases of_decide_eq_true h0
      cases of_decide_eq_true h01
      have cb := c.blk hq scope (blk_kind h1)
      have ok := comp2_ok c hq h1 h2 h3 h4 h5 h6 h7 h8 (sndI it c h9) ⟨fun s H C cl fp => sndI it2 (cb s H C cl fp) h10⟩ ⟨fun s H C cl fp => sndC cc (cb s H C cl fp) h11⟩ ⟨fun s H C cl fp => (sndE e (cb s H C cl fp) h12).e⟩
      have hh := (pe_comp2 (pos := pos) (c.calm hq) c.nd ok).imp (comp2_v ok.hsub ok.hsub2)
      rw [own_map] at hh
      exact .of hh (fun _ => rfl) fun _ _ _ e => nomatch e
    · cases h
theorem sndA : ∀ (ies : Es) {X : Cx} {q : ScP} {W : WX} {es : List Expr}, Cok Z T N F k X q W → chkA T N ies q es = true → SA Z X W (G_ T) F ies es
  | .nil, X, q, W, es, c, h => by
    cases es with
    | nil => exact sA_nil
    | cons _ _ => simp [chkA] at h
  | .cons e r, X, q, W, es, c, h => by
    cases es with
    | nil => simp [chkA] at h
    | cons a es =>
      simp only [chkA, Bool.and_eq_true] at h
      exact sA_cons (sndE e c h.1.2).e (sndA r c h.2) (star_cons h.1.1)
theorem sndO : ∀ (io : Op) {X : Cx} {q : ScP} {W : WX} {o : Option Expr}, Cok Z T N F k X q W → chkO T N io q o = true → SO Z X W (G_ T) F io o
  | .no, X, q, W, o, c, h => by
    cases o with
    | none => exact sO_no
    | some _ => simp [chkO] at h
  | .yes e, X, q, W, o, c, h => by
    cases o with
    | none => simp [chkO] at h
    | some a =>
      simp only [chkO] at h
      exact sO_yes (sndE e c h).e
theorem sndC : ∀ (io : Op) {X : Cx} {q : ScP} {o : List Expr}, Cok Z T N F k X q WF → chkC T N io q o = true → SCs Z X (G_ T) F io o
  | .no, X, q, o, c, h => by
    cases o with
    | nil => exact sCs_no
    | cons _ _ => simp [chkC] at h
  | .yes e, X, q, o, c, h => by
    match o, h with
    | [a], h =>
      simp only [chkC] at h
      exact sCs_yes (sndE e c h).t
theorem sndI : ∀ (ii : I) {X : Cx} {q : ScP} {W : WX} {tg it : Expr}, Cok Z T N F k X q W → chkI T N ii q tg it = true → SI Z X W (G_ T) F ii tg it
  | .seq e, X, q, W, tg, it, c, h => by
    simp only [chkI] at h
    exact sI_seq (sndE e c h).e
  | .rng .nil, X, q, W, tg, it, c, h => by
    unfold chkI at h
    split at h
    · rename_i x p as pos
      simp only [Bool.and_eq_true, Bool.or_eq_true] at h
      obtain ⟨⟨h1, h2⟩, h3⟩ := h
      obtain ⟨rfl, g1, g2⟩ := c.blt h1
      simp [Es.len] at h3
    · cases h
  | .rng (.cons e1 .nil), X, q, W, tg, it, c, h => by
    unfold chkI at h
    split at h
    · rename_i x p as pos
      simp only [Bool.and_eq_true, Bool.or_eq_true] at h
      obtain ⟨⟨h1, h2⟩, h3⟩ := h
      obtain ⟨rfl, g1, g2⟩ := c.blt h1
      cases as with
      | nil => simp [chkA] at h2
      | cons a1 r1 =>
        simp only [chkA, Bool.and_eq_true] at h2
        have hr : r1 = [] := by
          cases r1 with
          | nil => rfl
          | cons _ _ => cases h2.2
        subst hr
        exact sI_rng1 g1 g2 (sndE e1 c h2.1.2).e (star_cons h2.1.1)
    · cases h
  | .rng (.cons e1 (.cons e2 r)), X, q, W, tg, it, c, h => by
    unfold chkI at h
    split at h
    · rename_i x p as pos
      simp only [Bool.and_eq_true, Bool.or_eq_true] at h
      obtain ⟨⟨h1, h2⟩, h3⟩ := h
      obtain ⟨rfl, g1, g2⟩ := c.blt h1
      cases as with
      | nil => simp [chkA] at h2
      | cons a1 r1 =>
        cases r1 with
        | nil => simp [chkA] at h2
        | cons a2 r2 =>
          simp only [chkA, Bool.and_eq_true] at h2
          obtain ⟨⟨k1, k2⟩, ⟨k3, k4⟩, k5⟩ := h2
          cases r with
          | cons _ _ => simp [Es.len] at h3
          | nil =>
            have hr : r2 = [] := by
              cases r2 with
              | nil => rfl
              | cons _ _ => cases k5
            subst hr
            have st2 : starEach [a2] X.env = [(false, eval a2 X.env)] := star_cons k3
            exact sI_rng2 g1 g2 (sndE e1 c k2).e (sndE e2 c k4).e (by rw [star_cons k1, st2]) st2
    · cases h
  | .enm e, X, q, W, tg, it, c, h => by
    unfold chkI at h
    split at h
    · simp only [Bool.and_eq_true] at h
      obtain ⟨⟨h1, h2⟩, h3⟩ := h
      obtain ⟨rfl, g1, g2⟩ := c.blt h1
      exact sI_enm g1 g2 (sndE e c h3).e (star_cons h2)
    · cases h
  | .zip e e2, X, q, W, tg, it, c, h => by
    unfold chkI at h
    split at h
    · simp only [Bool.and_eq_true] at h
      obtain ⟨⟨⟨⟨h1, h2⟩, h3⟩, h4⟩, h5⟩ := h
      obtain ⟨rfl, g1, g2⟩ := c.blt h1
      have ha := (sndE e c h4).e
      have hb := (sndE e2 c h5).e
      have st2 : starEach [_] X.env = [(false, _)] := star_cons (es := []) h3
      exact sI_zip g1 g2 ha hb (pi_zipA g1 g2 (pa_cons ha (pa_cons hb pa_nil st2) (star_cons h2)) (star_cons h2) (by rw [st2]; rfl))
    · cases h
  | .lsq e, X, q, W, tg, it, c, h => by simp [chkI] at h
end
end
end Rx
set_option Elab.async false
set_option linter.all false
set_option maxRecDepth 100000
set_option maxHeartbeats 2000000
/-! Rx23: text.replace(sign, '') : a token is out ahead of it. -/
namespace Rx
open PySem PySem.Spec PyProof.Rows L2 TL RZ
/-- behind m one token more is out -/
def Gv {α : Type} (m : Sem α) : Prop := ∀ (M : Model) (Γ : PySem.Ctx) (Q : α → Pos → Shared → Prop) (E : Value → Pos → Shared → Prop) (p : Pos) (s : Shared), Sem.wp M Γ m Q E p s → Sem.wp M Γ m (fun a p' s' => s.toks + 1 ≤ s'.toks ∧ Q a p' s') E p s
theorem Gv.bind {α β : Type} {m : Sem α} (f : α → Sem β) (g : Gv m) : Gv (m >>= f) := fun M Γ Q E p s h => by
  rw [Sem.wp_bind'] at h ⊢
  exact Sem.wp_mono M Γ m (fun a p' s' ⟨hk, h⟩ => Sem.wp_mono M Γ (f a) (fun _ _ _ x => x) (fun _ _ _ x => x.2) p' s' (Sem.wp_toks M Γ (s.toks + 1) (f a) Q E p' s' hk h)) (fun _ _ _ x => x) p s (g M Γ _ E p s h)
/-- what stands first in an or is `not 1 <= ..` -/
def gvB : Expr → Bool
  | .BoolOp .Or (.UnaryOp .Not (.Compare (.Constant (.int _) _ _) _ _ _) _ :: _) _ => true
  | _ => false
theorem gv_of {env : PySem.Env} : ∀ {a : Expr}, gvB a = true → ∀ whole, Gv (isTrue a env whole)
  | .BoolOp .Or (.UnaryOp .Not (.Compare (.Constant (.int i) k p) ops cs p2) p3 :: rest) p4, _, whole => by
    have g : Gv (eval (.Constant (.int i) k p) env) := fun M Γ Q E p s h => ⟨Nat.le_refl _, h⟩
    have g1 : Gv (isTrue (.Compare (.Constant (.int i) k p) ops cs p2) env (eval (.Compare (.Constant (.int i) k p) ops cs p2) env)) := Gv.bind _ g
    have g2 : Gv (isTrue (.UnaryOp .Not (.Compare (.Constant (.int i) k p) ops cs p2) p3) env (eval (.UnaryOp .Not (.Compare (.Constant (.int i) k p) ops cs p2) p3) env)) := Gv.bind _ g1
    exact Gv.bind _ g2
theorem PET.imp {X : Cx} {e : Expr} {t u : TE} (h : PET X e t) (f : ∀ σ H Q, u σ H Q → t σ H Q) : PET X e u := fun pins s σ H Q h0 I q => h pins s σ H Q h0 I (f σ H Q q)
theorem PST.imp {X : Cx} {e : Stmt} {t u : TS} (h : PST X e t) (f : ∀ D σ H, u D σ H → t D σ H) : PST X e u := fun pins s σ H D h0 I q => h pins s σ H D h0 I (f D σ H q)
theorem PSsT.imp {X : Cx} {e : List Stmt} {t u : TS} (h : PSsT X e t) (f : ∀ D σ H, u D σ H → t D σ H) : PSsT X e u := fun pins s σ H D h0 I q => h pins s σ H D h0 I (f D σ H q)
def PTT (X : Cx) (e : Expr) (t : TT) : Prop :=
  ∀ (pins : List (Addr × Obj)) (s : Shared) (σ : L2.St) (H : Hp) (Q : Bool → Hp → Prop), 1 ≤ s.toks → Inv X pins σ H s → t σ H Q → wpAny (model X.prog X.w) X.A (isTrue e X.env (eval e X.env)) (fun d s' => ∃ H', Inv X pins σ H' s' ∧ Q d H') X.xe s
theorem PTT.imp {X : Cx} {e : Expr} {t u : TT} (h : PTT X e t) (f : ∀ σ H Q, u σ H Q → t σ H Q) : PTT X e u := fun pins s σ H Q h0 I q => h pins s σ H Q h0 I (f σ H Q q)
section
variable {X : Cx}
theorem ptt_cmpR {a b : Expr} {pos : Pos} {ta tb : TE} {op : CmpOp} {r : R2} (ho : OpR X (compareOp op) r) (ha : PET X a ta) (hb : PE X b tb) (hm : behindInMarks op b = false) : PTT X (.Compare a [op] [b] pos) (tTest (tOp r ta tb)) := by
  intro pins s σ H Q h0 I h
  refine wpAny_isTrue_Compare1 (thn (ha pins s σ H _ h0 I h) fun v s1 ⟨x, H1, I1, r1, q1⟩ => thn (hb.run pins s1 σ H1 _ I1 q1) fun u s2 ⟨y, H2, I2, r2, q2⟩ =>
    thn (ho pins s2 σ H2 x y v u _ I2 r1 r2 q2) fun c s3 ⟨z, H3, I3, r3, k, e, q3⟩ => ?_) hm
  subst e
  cases r3
  exact wpAny_truthy_bool ⟨H3, I3, q3⟩
theorem pst_ifT {c : Expr} {a b : List Stmt} {pos : Pos} {tc : TT} {t u : TS} (hc : PTT X c tc) (ha : PSs X a t) (hb : PSs X b u) : PST X (.If c a b pos) (tIfS tc t u) := by
  intro pins s σ H D h0 I h
  refine wpAny_If (thn (hc pins s σ H _ h0 I h) fun d s1 q => ?_)
  obtain ⟨H1, I1, q1⟩ := q
  cases d with
  | true => exact ha.run pins s1 σ H1 D I1 q1
  | false => exact hb.run pins s1 σ H1 D I1 q1
/-- an if whose test gives a token out, then what wants one -/
theorem pss_gv {c : Expr} {a b rest : List Stmt} {pos : Pos} {tc : TT} {t u v : TS} (hc : PT X c tc) (g : Gv (isTrue c X.env (eval c X.env))) (ha : PSs X a t) (hb : PSs X b u) (h2 : PSsT X rest v) : PSs X (.If c a b pos :: rest) (tSeq (tIfS tc t u) v) := by
  refine ⟨fun pins s σ H D I h => ?_⟩
  have hi : wpAny (model X.prog X.w) X.A (exec (.If c a b pos) X.env) (fun f s' => 1 ≤ s'.toks ∧ SP X pins { D with nx := v D } f s') X.xe s := by
    refine wpAny_If ?_
    have h1 := hc.run pins s σ H _ I h
    have h1' : wpAny (model X.prog X.w) X.A (isTrue c X.env (eval c X.env)) (fun d s' => s.toks + 1 ≤ s'.toks ∧ ∃ H', Inv X pins σ H' s' ∧ _) X.xe s := fun Γ p hΓ => g _ Γ _ _ p s (h1 Γ p hΓ)
    refine thn h1' fun d s1 q => ?_
    obtain ⟨hk, H1, I1, q1⟩ := q
    cases d with
    | true => exact wpAny_mono (PySem.wpAny_toks_of (n := 1) (by omega) (ha.run pins s1 σ H1 { D with nx := v D } I1 q1)) (fun _ _ x => x) fun _ _ x => x.2
    | false => exact wpAny_mono (PySem.wpAny_toks_of (n := 1) (by omega) (hb.run pins s1 σ H1 { D with nx := v D } I1 q1)) (fun _ _ x => x) fun _ _ x => x.2
  refine wpAny_execs_cons (thn hi fun f s1 q => ?_)
  obtain ⟨hk, q⟩ := q
  cases f with
  | next =>
    obtain ⟨σ', H', I', q⟩ := q
    exact h2 pins s1 σ' H' D hk I' q
  | ret v => exact q
  | brk => exact q
  | cont => exact q
end
section
variable {Z : Ze} {X : Cx} {W : WX} {G : Nat → Option D} {F : Orc} {XM : Nat → Nat → Option Bool} {HF : Nat → Nat → Option D}
abbrev SET (Z : Ze) (X : Cx) (W : WX) (G : Nat → Option D) (F : Orc) (ia : E) (a : Expr) : Prop := PET X a (tE Z X.K W (evE G F ia))
abbrev replI (ia : E) (c : Nat) : E := .mth .repl ia (.cons (.cstr [c]) (.cons (.cstr []) .nil))
theorem repl_imp {ia : E} {c : Nat} (σ : L2.St) (H : Hp) (Q : VK) (h : tE Z X.K W (evE G F (replI ia c)) σ H Q) : CwR.tReplC (tE Z X.K W (evE G F ia)) ⟨#[c]⟩ ⟨#[]⟩ σ H Q := by
  obtain ⟨w, e, S, st, f⟩ := h
  refine ⟨w, e, S, st, f.bind fun x S1 v w1 H1 q1 x1 r1 s1 f1 => ?_⟩
  obtain ⟨t, rfl, f1⟩ := f1.asStr
  cases r1 with
  | of r1 =>
    obtain ⟨rfl, l1, o1⟩ := r1.str_of
    have f1 : Fin Z X.K W (relE Z X.K) σ w1 H1 (R.of (meRepl (.str t) [.str [c], .str []]) S1) Q := f1
    obtain ⟨d, e2, q⟩ := f1.of
    have e3 : (if t.length ≤ 100000 then some (D.str (t.filter fun x => x != c)) else none) = some d := e2
    split at e3
    · rename_i hl
      cases e3
      refine ⟨_, rfl, ?_, ?_⟩
      · show t.length + (t.length + 1) * 0 ≤ 16777216
        omega
      · have e4 : Txt.replace ⟨t.toArray⟩ ⟨#[c]⟩ ⟨#[]⟩ = ⟨(t.filter fun x => x != c).toArray⟩ := by
          have := replace_strikes ⟨t.toArray⟩ c
          cases hz : Txt.replace ⟨t.toArray⟩ ⟨#[c]⟩ ⟨#[]⟩ with
          | mk cps =>
            rw [hz] at this
            have : cps.toList = t.filter fun x => x != c := this
            rw [← this]
        rw [e4]
        exact q _ w1 H1 (Ext.refl _ _) (.of (.str (Nat.le_trans (List.length_filter_le _ _) l1) fun x hx => o1 x (List.mem_filter.mp hx).1)) s1
    · cases e3
theorem ite_imp {ic : E} {iss iss2 : Ss} (D : Ends) (σ : L2.St) (H : Hp) (h : tS Z X.K W (evS G F XM HF (.ite ic iss iss2)) D σ H) : tIfS (tT Z X.K W (tst G F ic)) (tS Z X.K W (evSs G F XM HF iss)) (tS Z X.K W (evSs G F XM HF iss2)) D σ H := by
  obtain ⟨w, e, S, st, f⟩ := h
  have f : FinS Z X.K W w H (.ofR (evE G F ic e S) e fun x S => .ofO (truth S x) fun k => .two k (evSs G F XM HF iss e S) (evSs G F XM HF iss2 e S)) D := f
  have f' : FinS Z X.K W w H (.ofR (tst G F ic e S) e fun k S => .two k (evSs G F XM HF iss e S) (evSs G F XM HF iss2 e S)) D := by
    unfold tst
    cases q : evE G F ic e S with
    | ok x S1 =>
      rw [q] at f
      simp only [R.bind_ok, FR.ofR_ok] at f ⊢
      cases q2 : truth S1 x with
      | none => rw [q2] at f; exact f
      | some k => rw [q2] at f; exact f
    | ex k p S' => rw [q] at f; exact f
    | st => rw [q] at f; exact f
  refine ⟨w, e, S, st, FinS.ofR st f' fun k S1 k' w1 H1 q1 x1 r1 s1 f1 => ?_⟩
  have r1 : k' = k := r1
  subst r1
  cases k' with
  | true => exact ⟨w1, e, S1, st.ext x1 s1, f1⟩
  | false => exact ⟨w1, e, S1, st.ext x1 s1, f1⟩
theorem seq_imp {i : Rx.St} {is : Ss} (D : Ends) (σ : L2.St) (H : Hp) (h : tS Z X.K W (evSs G F XM HF (.cons i is)) D σ H) : tSeq (tS Z X.K W (evS G F XM HF i)) (tS Z X.K W (evSs G F XM HF is)) D σ H := by
  obtain ⟨w, e, S, st, f⟩ := h
  exact ⟨w, e, S, st, thn_fin f⟩
theorem cmp_imp {op : Cop} {ia ib : E} (σ : L2.St) (H : Hp) (Q : Bool → Hp → Prop) (h : tT Z X.K W (tst G F (.cmp op ia ib)) σ H Q) : tTest (tOp (rCmp X.K Z.fa op) (tE Z X.K W (evE G F ia)) (tE Z X.K W (evE G F ib))) σ H Q := by
  obtain ⟨w, e, S, st, f⟩ := h
  have f : Fin Z X.K W relT σ w H (((evE G F ia e S).bind fun x S => (evE G F ib e S).bind fun y S => asO (cmp op (view S x) (view S y)) fun k => .ok (.bl k) S).bind fun x S => R.of (truth S x) S) Q := f
  rw [bind_assoc] at f
  refine ⟨w, e, S, st, f.bind fun x S1 v w1 H1 _ x1 r1 s1 f1 => ⟨w1, e, S1, st.ext x1 s1, ?_⟩⟩
  rw [bind_assoc] at f1
  refine f1.bind fun y S2 u w2 H2 _ x2 r2 s2 f2 => ?_
  cases q : cmp op (view S2 x) (view S2 y) with
  | none => rw [q] at f2; exact False.elim f2
  | some k =>
    rw [q] at f2
    exact ⟨w2, S2, _, _, k, s2, s2.view (r1.ext x2), s2.view r2, q, k, rfl, Fin.now f2 s2 rfl⟩
theorem one_nil (c : Nat) : ((⟨#[c]⟩ : Str) == (⟨#[]⟩ : Str)) = false := by
  apply Bool.eq_false_iff.mpr
  intro h
  have e := eq_of_beq h
  injection e with e1
  simp at e1
theorem set_replC {ia : E} {o : Expr} {c j k : Nat} {c0 c1 apos pos : Pos} (ho : SE Z X W G F ia o) (hb : notCall0 o = true) (hl : (apos.endLine == pos.line) = true) : SET Z X W G F (replI ia c) (.Call (.Attribute o "replace" apos) [.Constant (.str ⟨#[c]⟩) j c0, .Constant (.str ⟨#[]⟩) k c1] [] pos) :=
  PET.imp (CwR.pet_replC ho (one_nil c) rfl (notCall_base hb) hl) repl_imp
theorem set_replT {ia : E} {o : Expr} {c j k : Nat} {c0 c1 apos pos : Pos} (ho : SET Z X W G F ia o) (hb : notCall0 o = true) (hl : (apos.endLine == pos.line) = true) : SET Z X W G F (replI ia c) (.Call (.Attribute o "replace" apos) [.Constant (.str ⟨#[c]⟩) j c0, .Constant (.str ⟨#[]⟩) k c1] [] pos) :=
  PET.imp (CwR.pet_replT ho (one_nil c) rfl (notCall_base hb) hl) repl_imp
end
/-- if ..: return ..; if x.replace(..).replace(..) != '': return .. -/
def chkTok (T : Tab) (N : List Str) (q : ScP) : Ss → List Stmt → Bool
  | .cons (.ite t1 (.cons (.ret r1) .nil) .nil) (.cons (.ite (.cmp .ne (.mth .repl (.mth .repl (.var i) (.cons (.cstr [c1]) (.cons (.cstr []) .nil))) (.cons (.cstr [c2]) (.cons (.cstr []) .nil))) (.cstr [])) (.cons (.ret r2) .nil) .nil) .nil),
    [.If a1 [.Return (some b1) _] [] _, .If (.Compare (.Call (.Attribute (.Call (.Attribute (.Name x xp) n1 ap1) [.Constant (.str y1) _ _, .Constant (.str z1) _ _] [] cp1) n2 ap2) [.Constant (.str y2) _ _, .Constant (.str z2) _ _] [] cp2) [.NotEq] [.Constant (.str w) k p] _) [.Return (some b2) _] [] _] =>
    gvB a1 && chkE T N t1 q a1 && chkE T N r1 q b1 && chkE T N r2 q b2 && chkE T N (.var i) q (.Name x xp) && chkE T N (.cstr []) q (.Constant (.str w) k p) && decide (n1 = "replace") && decide (n2 = "replace") && (ap1.endLine == cp1.line) && (ap2.endLine == cp2.line)
      && decide (y1 = ⟨#[c1]⟩) && decide (z1 = ⟨#[]⟩) && decide (y2 = ⟨#[c2]⟩) && decide (z2 = ⟨#[]⟩)
  | _, _ => false
section
variable {Z : Ze} {T : Tab} {N : List Str} {F : Orc} {k : Nat} {X : Cx} {q : ScP} {W : WX} {XM : Nat → Nat → Option Bool} {HF : Nat → Nat → Option D}
theorem sndTok {is : Ss} {a : List Stmt} (c : Cok Z T N F k X q W) (h : chkTok T N q is a = true) : SSs Z X W (G_ T) F XM HF is a := by
  unfold chkTok at h
  split at h
  · rename_i t1 r1 i c1 c2 r2 a1 b1 pa pb x xp n1 ap1 y1 k1 p1 z1 k2 p2 cp1 n2 ap2 y2 k3 p3 z2 k4 p4 cp2 w k5 p5 p6 b2 p7 p8
    simp only [Bool.and_eq_true] at h
    obtain ⟨⟨⟨⟨⟨⟨⟨⟨⟨⟨⟨⟨⟨h1, h2⟩, h3⟩, h4⟩, h5⟩, h6⟩, h7⟩, h8⟩, h9⟩, h10⟩, h11⟩, h12⟩, h13⟩, h14⟩ := h
    cases of_decide_eq_true h7
    cases of_decide_eq_true h8
    cases of_decide_eq_true h11
    cases of_decide_eq_true h12
    cases of_decide_eq_true h13
    cases of_decide_eq_true h14
    have e1 := set_replC (c := c1) (j := k1) (k := k2) (c0 := p1) (c1 := p2) (sndE (.var i) c h5).e rfl h9
    have e2 := set_replT (c := c2) (j := k3) (k := k4) (c0 := p3) (c1 := p4) e1 rfl h10
    have t2 := PTT.imp (ptt_cmpR (pos := p6) (op_cmp (fa := Z.fa) c.hu .ne) e2 (sndE _ c h6).e rfl) cmp_imp
    have rr2 : SSs Z X W (G_ T) F XM HF (.cons (.ret r2) .nil) [.Return (some b2) p7] := sSs_cons (sS_ret (sndE _ c h4).e fun _ _ _ z => z) sSs_nil
    have rr1 : SSs Z X W (G_ T) F XM HF (.cons (.ret r1) .nil) [.Return (some b1) pa] := sSs_cons (sS_ret (sndE _ c h3).e fun _ _ _ z => z) sSs_nil
    have s2 := PST.imp (pst_ifT (pos := p8) t2 rr2 (sSs_nil (XM := XM) (HF := HF))) (ite_imp (XM := XM) (HF := HF))
    have ss2 := PSsT.imp (psst_cons s2 (PSsT.of (sSs_nil (XM := XM) (HF := HF)))) seq_imp
    exact (pss_gv (sndE _ c h2).t (gv_of h1 _) rr1 (sSs_nil (XM := XM) (HF := HF)) ss2).imp fun D σ H z => ite_imp _ _ _ (seq_imp D σ H z)
  · cases h
end
end Rx
set_option Elab.async false
set_option linter.all false
set_option maxRecDepth 100000
set_option maxHeartbeats 2000000
/-! Rx13: statements: the check, what passes it. -/
namespace Rx
open PySem PySem.Spec PyProof.Rows L2 TL RZ
/-- no comprehension but a list's -/
def plainV : Expr → Bool
  | .SetComp _ _ _ _ => false
  | .DictComp _ _ _ _ _ => false
  | _ => true
def noComp : Expr → Bool
  | .ListComp _ _ _ _ => false
  | .SetComp _ _ _ _ => false
  | .DictComp _ _ _ _ _ => false
  | _ => true
/-- x = [..]: the names swap -/
def swB (q : ScP) (x : Str) (p : Pos) : Expr → Bool
  | .ListComp _ _ s pos => locB q x && (p.line == pos.line) && !(s.names.any fun y => y.1 == x && (y.2 == .local || y.2 == .cell))
  | _ => false
def nameAt (q : ScP) (line : Nat) : Expr → Option Str
  | .Name id pos => if (q.sc.names.lookup id == some .local && pos.line == line) = true then some id else none
  | _ => none
def namesAt (q : ScP) (ts : List Expr) : List Str := ts.filterMap (nameAt q ((ts.head?.map (·.pos.line)).getD 0))
/-- a, b = x, y by way of a tuple -/
def noSw (q : ScP) (ts vs : List Expr) : Bool :=
  !(ts.length == 2 || ts.length == 3) || vs.length != ts.length || ((namesAt q ts).length != ts.length || (namesAt q ts).eraseDups.length != (namesAt q ts).length) || vs.all (foldedForSure 8)
def isSw (q : ScP) (ts vs : List Expr) (ns : List Str) : Bool :=
  (ts.length == 2 || ts.length == 3) && !(vs.length != ts.length) && decide (namesAt q ts = ns) && !((namesAt q ts).length != ts.length || (namesAt q ts).eraseDups.length != (namesAt q ts).length) && !(vs.all (foldedForSure 8)) && !(vs.all (constantsAlone 8))
def locT (q : ScP) : Expr → Bool
  | .Name x _ => locB q x
  | _ => false
def noTup : Expr → Bool
  | .Tuple _ _ _ => false
  | _ => true
def unpOk (q : ScP) : Expr → Expr → Bool
  | .Tuple ts _ _, .Tuple vs _ _ => noSw q ts vs && vs.all notStar
  | .List _ _, _ => false
  | _, _ => true
section
variable (T : Tab) (N : List Str)
mutual
def chkS : St → ScP → Stmt → Bool
  | .asg i e, q, a => (match a with
    | .Assign [.Name x p] v _ => decide (N[i]? = some x) && asnB q x && plainV v && chkE T N e q v
    | _ => false)
  | .par is es, q, a => (match a with
    | .Assign [.Tuple ts _ _] (.Tuple vs _ _) _ => !q.hot && isSw q ts vs (is.map fun i => N.getD i Str.empty) && chkTs N q is ts && chkA T N es q vs && (is.all fun i => decide (i < N.length)) && decide (is.Nodup) && ts.all (locT q)
    | _ => false)
  | .unp tg e, q, a => (match a with
    | .Assign [t] v _ => notStar t && noComp v && chkT N q tg t && chkE T N e q v && unpOk q t v
    | _ => false)
  | .setI o i v, q, a => (match a with
    | .Assign [.Subscript l r _] w _ => notSlice r && noComp w && chkE T N v q w && chkE T N o q l && chkE T N i q r
    | _ => false)
  | .app o v, q, a => (match a with
    | .Expr (.Call (.Attribute l nm apos) [r] [] cpos) _ => decide (nm = "append") && (apos.endLine == cpos.line) && notCall0 l && notStar r && chkE T N o q l && chkE T N v q r
    | _ => false)
  | .expr e, q, a => (match a with
    | .Expr v _ => noComp v && chkE T N e q v
    | _ => false)
  | .ret e, q, a => (match a with
    | .Return (some v) _ => chkE T N e q v
    | _ => false)
  | .retN, _, a => (match a with
    | .Return none _ => true
    | _ => false)
  | .ite c x y, q, a => (match a with
    | .If t l r _ => chkE T N c q t && chkSs x q l && chkSs y q r
    | _ => false)
  | .for_ tg it b, q, a => (match a with
    | .For t i l [] _ => !q.hot && chkT N q tg t && notSet i && chkI T N it q t i && chkSs b q l
    | _ => false)
  | .while_ c b, q, a => (match a with
    | .While t l [] _ => chkE T N c q t && chkSs b q l
    | _ => false)
  | .rais k, q, a => (match a with
    | .Raise (some (.Call (.Name x _) [.Constant (.str _) _ _] [] _)) none _ => !q.hot && T.pl k && glB q x && okN x && decide (T.ex[k]? = some x)
    | _ => false)
  | .raiV k e, q, a => (match a with
    | .Raise (some (.Call (.Name x _) [v] [] _)) none _ => !q.hot && (T.vf k).isSome && glB q x && okN x && decide (T.ex[k]? = some x) && notStar v && chkE T N e q v
    | _ => false)
  | .tryH b k h, q, a => (match h, a with
    | .fld, .Try l [.ExceptHandler (some (.Name x _)) (some n) [.Return (some (.Attribute (.Name n2 _) fl _)) _] _] [] [] _ => !q.hot && !q.rf && glB q x && okN x && decide (T.ex[k]? = some x) && decide (T.vf k = some fl) && decide (n2 = n) && okN n && decide (q.sc.names.lookup n = some .local) && decide (N[N.idxOf n]? = some n) && chkSs b q l
    | _, _ => false)
  | .pass, _, a => (match a with
    | .Pass _ => true
    | _ => false)
  | .brk, _, a => (match a with
    | .Break _ => true
    | _ => false)
  | .cont, _, a => (match a with
    | .Continue _ => true
    | _ => false)
def chkSs : Ss → ScP → List Stmt → Bool
  | .nil, _, as => as.isEmpty
  | .cons s r, q, as => (match as with
    | a :: as => (chkS s q a && chkSs r q as) || chkTok T N q (.cons s r) (a :: as)
    | [] => false)
end
end
section
variable {env : PySem.Env} {q : ScP}
theorem blk_fn (h : env.scope.kind = .function) : env.blockKind = .function := by
  unfold Env.blockKind
  rw [h]
  rfl
theorem sw_no {v : Expr} {t : Expr} {line : Nat} (h : noComp v = true) : swapsWith v (some t) line env = pure false := by
  cases v <;> first | rfl | cases h
theorem sw_sole {v : Expr} {t : Expr} {line : Nat} (h : noComp v = true) : swapsWithSole [t] v line env = pure false := by
  have e : swapsWithSole [t] v line env = swapsWith v (some t) line env := by
    unfold swapsWithSole
    rfl
  rw [e]
  exact sw_no h
theorem sw_none {v : Expr} {line : Nat} (h : noComp v = true) : swapsWith v none line env = pure false := by
  cases v <;> first | rfl | cases h
theorem sw_name {v : Expr} {x : Str} {p : Pos} {line : Nat} (hk : env.scope.kind = .function) (hs : env.scope = q.sc) (h : plainV v = true) : swapsWith v (some (.Name x p)) line env = pure (swB q x p v) := by
  have hb := blk_fn hk
  cases v <;> first | rfl | (cases h; done) | skip
  show (pure (env.blockKind == .function && env.kindOf x == some .local && p.line == _ && !_) : Sem Bool) = _
  unfold swB locB Env.kindOf
  rw [hb, hs]
  congr 1
  rw [Bool.eq_iff_iff]
  simp [Bool.and_assoc]
  intro _ _
  exact Iff.rfl
theorem swapped_at {ts vs : List Expr} {k k2 : Nat} {p p2 : Pos} (hk : env.scope.kind = .function) (hs : env.scope = q.sc) : swappedStores [.Tuple ts k p] (.Tuple vs k2 p2) env =
    (if (!(ts.length == 2 || ts.length == 3) || vs.length != ts.length) = true then pure none else if vs.any (fun e => !notStar e) = true then pure none else
      if ((namesAt q ts).length != ts.length || (namesAt q ts).eraseDups.length != (namesAt q ts).length) = true then pure none else if vs.all (foldedForSure 8) = true then pure none else
      if vs.all (constantsAlone 8) = true then unsupported "assign.tuple-of-constant-expressions:order-of-the-stores" else pure (some (namesAt q ts))) := by
  have hb := blk_fn hk
  have hn : ∀ line : Nat, (fun (e : Expr) => match e with
      | .Name id pos => if (env.kindOf id == some .local && pos.line == line) = true then some id else none
      | _ => none) = nameAt q line := fun line => by
    funext e
    cases e <;> first | rfl | skip
    unfold nameAt Env.kindOf
    rw [hs]
  have hst : (fun (e : Expr) => match e with
      | .Starred _ _ => true
      | _ => false) = fun e => !notStar e := by
    funext e
    cases e <;> rfl
  have h0 : swappedStores [.Tuple ts k p] (.Tuple vs k2 p2) env = (if (!(ts.length == 2 || ts.length == 3) || vs.length != ts.length || env.blockKind != .function) = true then pure none else if vs.any (fun (e : Expr) => match e with
      | .Starred _ _ => true
      | _ => false) = true then pure none else
      if ((ts.filterMap (fun (e : Expr) => match e with
      | .Name id pos => if (env.kindOf id == some .local && pos.line == (ts.head?.map (·.pos.line)).getD 0) = true then some id else none
      | _ => none)).length != ts.length || (ts.filterMap (fun (e : Expr) => match e with
      | .Name id pos => if (env.kindOf id == some .local && pos.line == (ts.head?.map (·.pos.line)).getD 0) = true then some id else none
      | _ => none)).eraseDups.length != (ts.filterMap (fun (e : Expr) => match e with
      | .Name id pos => if (env.kindOf id == some .local && pos.line == (ts.head?.map (·.pos.line)).getD 0) = true then some id else none
      | _ => none)).length) = true then pure none else if vs.all (foldedForSure 8) = true then pure none else
      if vs.all (constantsAlone 8) = true then unsupported "assign.tuple-of-constant-expressions:order-of-the-stores" else pure (some (ts.filterMap (fun (e : Expr) => match e with
      | .Name id pos => if (env.kindOf id == some .local && pos.line == (ts.head?.map (·.pos.line)).getD 0) = true then some id else none
      | _ => none)))) := by
    unfold swappedStores
    rfl
  rw [h0, hn, hst, hb]
  have e1 : ((ScopeKind.function != ScopeKind.function) : Bool) = false := rfl
  rw [e1, Bool.or_false]
  rfl
theorem swapped_none {ts vs : List Expr} {k k2 : Nat} {p p2 : Pos} (hk : env.scope.kind = .function) (hs : env.scope = q.sc) (hv : ∀ a ∈ vs, notStar a = true) (h : noSw q ts vs = true) : swappedStores [.Tuple ts k p] (.Tuple vs k2 p2) env = pure none := by
  rw [swapped_at hk hs]
  unfold noSw at h
  rw [Bool.or_eq_true, Bool.or_eq_true] at h
  split
  · rfl
  · rename_i n1
    split
    · rfl
    · split
      · rfl
      · rename_i n2
        split
        · rfl
        · rename_i n3
          rcases h with (h | h) | h
          · exact absurd h n1
          · exact absurd h n2
          · exact absurd h n3
theorem swapped_some {ts vs : List Expr} {ns : List Str} {k k2 : Nat} {p p2 : Pos} (hk : env.scope.kind = .function) (hs : env.scope = q.sc) (hv : ∀ a ∈ vs, notStar a = true) (h : isSw q ts vs ns = true) : swappedStores [.Tuple ts k p] (.Tuple vs k2 p2) env = pure (some ns) := by
  rw [swapped_at hk hs]
  unfold isSw at h
  simp only [Bool.and_eq_true, Bool.not_eq_true'] at h
  obtain ⟨⟨⟨⟨⟨h1, h2⟩, h3⟩, h4⟩, h5⟩, h6⟩ := h
  have hn := of_decide_eq_true h3
  rw [if_neg (by rw [h1, h2]; exact Bool.false_ne_true), if_neg (fun z => by
    obtain ⟨a, ha, hb⟩ := List.any_eq_true.mp z
    rw [hv a ha] at hb
    cases hb), if_neg (by rw [h4]; exact Bool.false_ne_true), if_neg (by rw [h5]; exact Bool.false_ne_true), if_neg (by rw [h6]; exact Bool.false_ne_true), hn]
end
theorem unp_sw {env : PySem.Env} {q : ScP} {t v : Expr} (hk : env.scope.kind = .function) (hs : env.scope = q.sc) (h : unpOk q t v = true) : swappedStores [t] v env = pure none := by
  unfold unpOk at h
  split at h
  · rw [Bool.and_eq_true] at h
    exact swapped_none hk hs (fun a ha => List.all_eq_true.mp h.2 a ha) h.1
  · cases h
  · rename_i n1 n2
    cases t <;> first | rfl | (exact absurd rfl (n1 _ _)) | skip
    cases v <;> first | rfl | exact absurd rfl (n2 _ _ _ _ _ _ rfl)
/-- the world in a def's body -/
structure CokS (Z : Ze) (T : Tab) (N : List Str) (F : Orc) (k : Nat) (X : Cx) (q : ScP) (W : WX) (XM : Nat → Nat → Option Bool) : Prop extends Cok Z T N F k X q W where
  pass : PassesOwn (model X.prog X.w) X.A X.env X.xe
  room2 : q.hot = false → Room 2 X.A
  stk : q.hot = false → X.stack = X.env :: X.outer ∧ X.env.frame = some X.env.locals
  xm : ∀ (j i : Nat) (b : Bool), XM j i = some b → ∀ x, T.ex[i]? = some x → ∃ C', X.mg x = some (.ref C') ∧ PySem.W.exmOne X.K (Z.ec j) (.ref C') = some b
section
variable {Z : Ze} {T : Tab} {N : List Str} {F : Orc} {k : Nat} {X : Cx} {q : ScP} {W : WX} {XM : Nat → Nat → Option Bool} {HF : Nat → Nat → Option D}
theorem comp_of (c : Cok Z T N F k X q W) {own : List Nat} {tg : Tg} {it : I} {e : E} {cc : Op} {a : Expr} (h : chkE T N (.comp own tg it e cc) q a = true) :
    ∃ l t i ifs scope pos, q.hot = false ∧ a = .ListComp l [⟨t, i, ifs, 0⟩] scope pos ∧ CompOk Z X W (G_ T) F (ownOf N own) tg it e cc t i l ifs scope := by
  unfold chkE at h
  split at h
  · rename_i l t i ifs z scope pos
    simp only [Bool.and_eq_true] at h
    obtain ⟨⟨⟨⟨⟨⟨⟨⟨hq, h0⟩, h1⟩, h2⟩, h3⟩, h4⟩, h5⟩, h6⟩, h7⟩ := h
    have hq := notB hq
    cases of_decide_eq_true h0
    have cb := c.blk hq scope (blk_kind h1)
    exact ⟨_, _, _, _, _, _, hq, rfl, comp_ok c hq h1 h2 h3 h4 (sndI it c h5) ⟨fun s H C cl fp => sndC cc (cb s H C cl fp) h6⟩ ⟨fun s H C cl fp => (sndE e (cb s H C cl fp) h7).e⟩⟩
  · cases h
theorem comp2_of (c : Cok Z T N F k X q W) {own own2 : List Nat} {tg tg2 : Tg} {it it2 : I} {e : E} {cc : Op} {a : Expr} (h : chkE T N (.comp2 own tg it own2 tg2 it2 e cc) q a = true) :
    ∃ l t i t2 i2 ifs scope pos, q.hot = false ∧ a = .ListComp l [⟨t, i, [], 0⟩, ⟨t2, i2, ifs, 0⟩] scope pos ∧ Comp2Ok Z X W (G_ T) F (ownOf N own) own2 tg tg2 it it2 e cc t i t2 i2 l ifs scope := by
  unfold chkE at h
  split at h
  · rename_i l t i z t2 i2 ifs z2 scope pos
    simp only [Bool.and_eq_true] at h
    obtain ⟨⟨⟨⟨⟨⟨⟨⟨⟨⟨⟨⟨⟨⟨hq, h0⟩, h01⟩, h1⟩, h2⟩, h3⟩, h4⟩, h5⟩, h6⟩, h7⟩, h8⟩, h9⟩, h10⟩, h11⟩, h12⟩ := h
    have hq := notB hq
    cases of_decide_eq_true h0
    cases of_decide_eq_true h01
    have cb := c.blk hq scope (blk_kind h1)
    exact ⟨_, _, _, _, _, _, _, _, hq, rfl, comp2_ok c hq h1 h2 h3 h4 h5 h6 h7 h8 (sndI it c h9) ⟨fun s H C cl fp => sndI it2 (cb s H C cl fp) h10⟩ ⟨fun s H C cl fp => sndC cc (cb s H C cl fp) h11⟩ ⟨fun s H C cl fp => (sndE e (cb s H C cl fp) h12).e⟩⟩
  · cases h
theorem lc_shape {ia : E} {l : Expr} {gs : List Comprehension} {sc : Scope} {p : Pos} (h : chkE T N ia q (.ListComp l gs sc p) = true) : (∃ own tg it e cc, ia = .comp own tg it e cc) ∨ (∃ own tg it own2 tg2 it2 e cc, ia = .comp2 own tg it own2 tg2 it2 e cc) ∨
    (∃ own tg it e cc, ia = .alc (.comp own tg it e cc)) ∨ ∃ own tg it own2 tg2 it2 e cc, ia = .alc (.comp2 own tg it own2 tg2 it2 e cc) := by
  cases ia <;> first
    | exact .inl ⟨_, _, _, _, _, rfl⟩
    | exact .inr (.inl ⟨_, _, _, _, _, _, _, _, rfl⟩)
    | (simp [chkE] at h; done)
    | (rename_i e
       cases e <;> first
         | exact .inr (.inr (.inl ⟨_, _, _, _, _, rfl⟩))
         | exact .inr (.inr (.inr ⟨_, _, _, _, _, _, _, _, rfl⟩))
         | (simp [chkE, alcOk] at h; done))
/-- name = e -/
theorem snd_asg (c : Cok Z T N F k X q W) {i : Nat} {ia : E} {x : Str} {p pos : Pos} {v : Expr} (h1 : N[i]? = some x) (h2 : asnB q x = true) (h3 : plainV v = true) (h4 : chkE T N ia q v = true) : SS Z X W (G_ T) F XM HF (.asg i ia) (.Assign [.Name x p] v pos) := by
  have hi : X.N[i]? = some x := by rw [c.hN]; exact h1
  have a := c.asn h2
  have sw : swapsWith v (some (.Name x p)) pos.line X.env = pure (swB q x p v) := sw_name c.kind c.sc h3
  cases hb : swB q x p v with
  | false =>
    rw [hb] at sw
    exact sS_asg (ps_set c.nd hi a.1 (sndE ia c h4).e sw a.2) fun _ _ _ h => h
  | true =>
    rw [hb] at sw
    have hx : X.env.scope.names.lookup x = some .local := by
      rw [c.sc]
      unfold swB at hb
      split at hb
      · simp only [Bool.and_eq_true] at hb
        exact of_decide_eq_true hb.1.1
      · cases hb
    have isL : ∃ l gs sc p2, v = .ListComp l gs sc p2 := by
      unfold swB at hb
      split at hb
      · exact ⟨_, _, _, _, rfl⟩
      · cases hb
    have one : ∀ {own tg it e cc}, chkE T N (.comp own tg it e cc) q v = true → ∃ te, PS X (.Assign [.Name x p] v pos) (tAsg te (gName i)) ∧ (∀ σ H Q, tE Z X.K W (evE (G_ T) F (.comp own tg it e cc)) σ H Q → te σ H Q) ∧ ∀ σ H Q, tE Z X.K W (evE (G_ T) F (.alc (.comp own tg it e cc))) σ H Q → te σ H Q := fun {own tg it e cc} hc => by
      obtain ⟨l, t, i2, ifs, scope, pos2, hq, rfl, ok⟩ := comp_of c hc
      refine ⟨tcomp Z X.K W (G_ T) F (ownOf N own) tg it e cc, ps_setLc (wi := tI Z X.K W (evI (G_ T) F it)) (g := gD Z X.K tg) (tt := tT Z X.K WF (tstC (G_ T) F cc)) (te := tE Z X.K WF (evE (G_ T) F e)) (c.calm hq) c.nd hi hx sw ok.hi ok.ok ok.hg.all ok.ht.all ok.he.all ok.hs, ?_, ?_⟩
      · have := comp_v (Z := Z) (K := X.K) (W := W) (G := G_ T) (F := F) (own := ownOf N own) (tg := tg) (it := it) (elt := e) (c := cc) ok.hsub
        rw [own_map] at this
        exact this
      · have := comp_a (Z := Z) (K := X.K) (W := W) (G := G_ T) (F := F) (own := ownOf N own) (tg := tg) (it := it) (elt := e) (c := cc) ok.hsub
        rw [own_map] at this
        exact this
    have twoC : ∀ {own tg it own2 tg2 it2 e cc}, chkE T N (.comp2 own tg it own2 tg2 it2 e cc) q v = true → ∃ te, PS X (.Assign [.Name x p] v pos) (tAsg te (gName i)) ∧ (∀ σ H Q, tE Z X.K W (evE (G_ T) F (.comp2 own tg it own2 tg2 it2 e cc)) σ H Q → te σ H Q) ∧ ∀ σ H Q, tE Z X.K W (evE (G_ T) F (.alc (.comp2 own tg it own2 tg2 it2 e cc))) σ H Q → te σ H Q := fun {own tg it own2 tg2 it2 e cc} hc => by
      obtain ⟨l, t, i2, t2, i3, ifs, scope, pos2, hq, rfl, ok⟩ := comp2_of c hc
      refine ⟨tcomp2 Z X.K W (G_ T) F (ownOf N own) own2 tg tg2 it it2 e cc, ps_setLc2 (wi := tI Z X.K W (evI (G_ T) F it)) (g := gD Z X.K tg) (tt := tYes) (wi1 := tI Z X.K WF (evI (G_ T) F it2)) (g1 := gD Z X.K tg2) (tt1 := tT Z X.K WF (tstC (G_ T) F cc)) (te := tE Z X.K WF (evE (G_ T) F e)) (c.calm hq) c.nd hi hx sw ok.hi ok.ok ok.hv ok.hg.all (fun _ _ _ _ _ => pts_nil) ok.hi2.all ok.hg2.all ok.ht.all ok.he.all ok.hs ok.hs2, ?_, ?_⟩
      · have := comp2_v (Z := Z) (K := X.K) (W := W) (G := G_ T) (F := F) (own := ownOf N own) (own2 := own2) (tg := tg) (tg2 := tg2) (it := it) (it2 := it2) (elt := e) (c := cc) ok.hsub ok.hsub2
        rw [own_map] at this
        exact this
      · have := comp2_a (Z := Z) (K := X.K) (W := W) (G := G_ T) (F := F) (own := ownOf N own) (own2 := own2) (tg := tg) (tg2 := tg2) (it := it) (it2 := it2) (elt := e) (c := cc) ok.hsub ok.hsub2
        rw [own_map] at this
        exact this
    obtain ⟨l, gs, sc, p2, hv⟩ := isL
    rcases lc_shape (hv ▸ h4) with ⟨own, tg, it, e, cc, rfl⟩ | ⟨own, tg, it, own2, tg2, it2, e, cc, rfl⟩ | ⟨own, tg, it, e, cc, rfl⟩ | ⟨own, tg, it, own2, tg2, it2, e, cc, rfl⟩
    · obtain ⟨te, g1, g2, _⟩ := one h4
      exact sS_asg g1 g2
    · obtain ⟨te, g1, g2, _⟩ := twoC h4
      exact sS_asg g1 g2
    · unfold chkE at h4
      rw [Bool.and_eq_true] at h4
      obtain ⟨te, g1, _, g2⟩ := one h4.2
      exact sS_asg g1 g2
    · unfold chkE at h4
      rw [Bool.and_eq_true] at h4
      obtain ⟨te, g1, _, g2⟩ := twoC h4.2
      exact sS_asg g1 g2
theorem getD_of {i : Nat} {x : Str} (h : N[i]? = some x) : N.getD i Str.empty = x := by
  rw [List.getD_eq_getElem?_getD, h]
  rfl
theorem snd_par (c : Cok Z T N F k X q W) (hq : q.hot = false) {is : List Nat} {es : Es} {ts vs : List Expr} {kk kk2 : Nat} {p p2 pos : Pos} (h1 : isSw q ts vs (is.map fun i => N.getD i Str.empty) = true) (h2 : chkTs N q is ts = true) (h3 : chkA T N es q vs = true) (hd : is.Nodup) (hl : ts.all (locT q) = true) :
    SS Z X W (G_ T) F XM HF (.par is es) (.Assign [.Tuple ts kk p] (.Tuple vs kk2 p2) pos) := by
  have ha := sndA es c h3
  obtain ⟨hst, hlen⟩ := chkA_star h3
  have hw := swapped_some (k := kk) (k2 := kk2) (p := p) (p2 := p2) c.kind c.sc hst h1
  have hn : (ts.length = 2 ∨ ts.length = 3) ∧ vs.length = ts.length := by
    unfold isSw at h1
    simp only [Bool.and_eq_true, Bool.or_eq_true, Bool.not_eq_true', beq_iff_eq, bne_eq_false_iff_eq] at h1
    exact ⟨h1.1.1.1.1.1, h1.1.1.1.1.2⟩
  obtain ⟨h2a, h2b⟩ := hn
  have nm : ∀ {i : Nat} {is : List Nat} {t : Expr} {ts : List Expr}, chkTs N q (i :: is) (t :: ts) = true → (t :: ts).all (locT q) = true → ∃ x p, t = .Name x p ∧ N[i]? = some x ∧ X.env.scope.names.lookup x = some .local ∧ chkTs N q is ts = true ∧ ts.all (locT q) = true := fun {i is t ts} h hl => by
    cases t <;> first | (simp [chkTs] at h; done) | skip
    simp only [chkTs, Bool.and_eq_true] at h
    simp only [List.all_cons, Bool.and_eq_true, locT] at hl
    exact ⟨_, _, rfl, of_decide_eq_true h.1.1, by rw [c.sc]; exact of_decide_eq_true hl.1, h.2, hl.2⟩
  rcases h2a with e2 | e3
  · match ts, e2, vs, h2b, is with
    | [t1, t2], _, [v1, v2], _, [i, j] =>
      obtain ⟨x, p1, rfl, a1, a2, h2', hl'⟩ := nm h2 hl
      obtain ⟨y, p3, rfl, b1, b2, _, _⟩ := nm h2' hl'
      simp only [List.map_cons, List.map_nil, getD_of a1, getD_of b1] at hw
      exact sS_par2 (ps_par (c.calm hq) c.nd (by rw [c.hN]; exact a1) (by rw [c.hN]; exact b1) (by simp at hd; exact hd) a2 b2 ha hw) (by rw [hlen]; rfl)
    | [t1, t2], _, [v1, v2], _, [] => simp [chkTs] at h2
    | [t1, t2], _, [v1, v2], _, [_] => cases t1 <;> simp [chkTs] at h2
    | [t1, t2], _, [v1, v2], _, _ :: _ :: _ :: _ => cases t1 <;> first | (simp [chkTs] at h2; done) | (cases t2 <;> simp [chkTs] at h2)
  · match ts, e3, vs, h2b, is with
    | [t1, t2, t3], _, [v1, v2, v3], _, [i, j, l] =>
      obtain ⟨x, p1, rfl, a1, a2, h2', hl'⟩ := nm h2 hl
      obtain ⟨y, p3, rfl, b1, b2, h2'', hl''⟩ := nm h2' hl'
      obtain ⟨z, p4, rfl, c1, c2, _, _⟩ := nm h2'' hl''
      simp only [List.map_cons, List.map_nil, getD_of a1, getD_of b1, getD_of c1] at hw
      simp at hd
      exact sS_par3 (ps_par3 (c.calm hq) c.nd (by rw [c.hN]; exact a1) (by rw [c.hN]; exact b1) (by rw [c.hN]; exact c1) hd.1.1 hd.1.2 hd.2 a2 b2 c2 ha hw) (by rw [hlen]; rfl)
    | [t1, t2, t3], _, [v1, v2, v3], _, [] => simp [chkTs] at h2
    | [t1, t2, t3], _, [v1, v2, v3], _, [_] => cases t1 <;> simp [chkTs] at h2
    | [t1, t2, t3], _, [v1, v2, v3], _, [_, _] => cases t1 <;> first | (simp [chkTs] at h2; done) | (cases t2 <;> simp [chkTs] at h2)
    | [t1, t2, t3], _, [v1, v2, v3], _, _ :: _ :: _ :: _ :: _ => cases t1 <;> first | (simp [chkTs] at h2; done) | (cases t2 <;> first | (simp [chkTs] at h2; done) | (cases t3 <;> simp [chkTs] at h2))
theorem sub_assign {o i : Expr} {pos : Pos} {env : PySem.Env} (h : notSlice i = true) : ∀ v, assign (.Subscript o i pos) env v = (do
      let ov ← holding [v] (eval o env)
      let iv ← holding [v, ov] (eval i env)
      standAt pos
      holding [v, ov, iv] (setItem ov iv v)
      release [v, ov, iv] []) := by
  intro v
  cases i <;> first | rfl | cases h
theorem snd_app (c : Cok Z T N F k X q W) {io iv : E} {o v : Expr} {apos cpos pos : Pos} (h1 : (apos.endLine == cpos.line) = true) (h2 : notCall0 o = true) (h3 : notStar v = true) (ho : SE Z X W (G_ T) F io o) (hv : SE Z X W (G_ T) F iv v) :
    SS Z X W (G_ T) F XM HF (.app io iv) (.Expr (.Call (.Attribute o "append" apos) [v] [] cpos) pos) := by
  have hs : ∀ b ∈ [v], notStar b = true := fun b hb => by
    rw [List.mem_singleton.mp hb]; exact h3
  have hfew : ((backTo cpos (starEach [v] X.env)).all (fun x => !x.1) && (backToKw cpos (keywordEach [] X.env)).all (fun x => x.1.isSome)
      && decide (([v] : List Expr).length + ([] : List Keyword).length + (if ([] : List Keyword).isEmpty then 0 else 1) < 30)) = true := by
    rw [star_all hs]
    rfl
  exact sS_app (ps_expr (pe_bm PySem.F.plainAttrs_list PySem.F.slot_list_append PySem.F.type_list_append mt_append ho (pa_cons hv pa_nil (star_cons h3)) (notCall_base h2) hfew h1 (star_cons h3) rfl) rfl)
theorem snd_rais (c : Cok Z T N F k X q W) (hq : q.hot = false) {j : Nat} {x m : Str} {p p2 p3 pos : Pos} {kk : Nat} (h1 : glB q x = true) (h2 : okN x = true) (h3 : T.ex[j]? = some x) (hpl : T.pl j = true) : SS Z X W (G_ T) F XM HF (.rais j) (.Raise (some (.Call (.Name x p) [.Constant (.str m) kk p2] [] p3)) none pos) := by
  obtain ⟨C, e1, e2, e0⟩ := c.wk.exs j x h3
  obtain ⟨e3, e4, e5, e6, e7⟩ := e0 hpl
  refine (L2N.ps_raise (c.calm hq) (c.tk hq) (L2N.pmk_own PySem.F.excBase_ValueError e4 e1 e5 (raises_own e6 e7) (c.gl h1) (okN_d h2).1)).imp fun D σ H ⟨w, e, S, st, f⟩ => ?_
  exact f _ _ σ w H (Ext.refl _ _) st.er ⟨e2.symm, by rw [e3]; exact ⟨rfl, rfl⟩⟩ st.sr
theorem raise_heap {Hb : Hp} {a dx C : Addr} {fs : List (Str × V)} {o1 : HO} (na : Hb a = none) (ne : dx ≠ a) : L2.upd (del (L2.upd (L2.upd (L2.upd Hb a o1) dx (exd dx fs)) a (exo a C (some dx))) a) dx (.xd fs) = L2.upd Hb dx (.xd fs) := by
  funext b
  by_cases h1 : b = dx
  · rw [h1, upd_same, upd_same]
  · rw [upd_ne h1, upd_ne h1]
    by_cases h2 : b = a
    · rw [h2, del_same, na]
    · rw [del_ne h2, upd_ne h2, upd_ne h1, upd_ne h2]
theorem snd_raiV (c : Cok Z T N F k X q W) (room2 : Room 2 X.A) (hq : q.hot = false) {j : Nat} {iv : E} {x fl : Str} {v : Expr} {p p3 pos : Pos} (h1 : glB q x = true) (h2 : okN x = true) (h3 : T.ex[j]? = some x) (hv : T.vf j = some fl) (h4 : notStar v = true) (h5 : SE Z X W (G_ T) F iv v) :
    SS Z X W (G_ T) F XM HF (.raiV j iv) (.Raise (some (.Call (.Name x p) [v] [] p3)) none pos) := by
  obtain ⟨C, fI, fd, sf, pt, e1, e2, e3, e4, e5, e6, e7, e8, _, _⟩ := (c.wk.exv j x fl h3 hv).ex
  refine (L2N.ps_raise (c.calm hq) (c.tk hq) (SI.pmk_ini e4 e5 e6 e7 room2 e8 (c.gl h1) e1 (pa_cons h5 pa_nil (star_cons h4)) (okN_d h2).1 (star_cons h4) rfl)).imp fun D σ H ⟨w, e, S, st, f⟩ => ?_
  refine ⟨w, e, S, st, FinS.ofR (rel := relE Z X.K) st f fun d S1 vd w1 H1 _ x1 rv s1 f1 => ?_⟩
  obtain ⟨hd, f2⟩ := f1.gd
  cases d with
  | int i =>
    simp only [raiseOk, Bool.and_eq_true, decide_eq_true_eq] at hd
    cases rv with
    | of rv =>
    cases rv
    refine ⟨by simp, fun a na => ⟨a, i, rfl, by omega, upd_same, fun dx nd ne => ?_⟩⟩
    have nd1 : H1 dx = none := by
      rw [upd_ne ne] at nd
      exact nd
    refine ⟨rfl, dx, [(fl, .int i)], upd_same, by rw [upd_ne ne, upd_same], nd1, ?_⟩
    rw [raise_heap na ne]
    have x2 : Ext w1 H1 w1 (L2.upd H1 dx (.xd [(fl, .int i)])) := Ext.upd w1 _ nd1
    exact f2 _ _ σ w1 _ x2 ((st.er.ext x1).ext x2) ⟨e2.symm, by rw [e3]; exact ⟨dx, .int i, rfl, upd_same, .int i⟩⟩ (s1.upd _ nd1)
  | _ => cases hd
mutual
theorem sndS : ∀ (is : St) {X : Cx} {W : WX} {a : Stmt}, CokS Z T N F k X q W XM → chkS T N is q a = true → SS Z X W (G_ T) F XM HF is a
  | .asg i e, X, W, a, c, h => by
    unfold chkS at h
    split at h
    · simp only [Bool.and_eq_true] at h
      obtain ⟨⟨⟨h1, h2⟩, h3⟩, h4⟩ := h
      exact snd_asg c.toCok (of_decide_eq_true h1) h2 h3 h4
    · cases h
  | .par is es, X, W, a, c, h => by
    unfold chkS at h
    split at h
    · simp only [Bool.and_eq_true] at h
      obtain ⟨⟨⟨⟨⟨⟨hq, h1⟩, h2⟩, h3⟩, h4⟩, h5⟩, h6⟩ := h
      exact snd_par c.toCok (notB hq) h1 h2 h3 (of_decide_eq_true h5) h6
    · cases h
  | .unp tg e, X, W, a, c, h => by
    unfold chkS at h
    split at h
    · rename_i t v pos
      simp only [Bool.and_eq_true] at h
      obtain ⟨⟨⟨⟨h1, h2⟩, h3⟩, h4⟩, h5⟩ := h
      refine sS_unp (ps_asg (sndE e c.toCok h4).e (tg_ok c.toCok h3) (sw_sole h2) (unp_sw c.kind c.sc h5) ?_) (fun _ _ _ h => h) fun _ _ _ _ h => h
      cases t <;> first | rfl | cases h1
    · cases h
  | .setI o i v, X, W, a, c, h => by
    unfold chkS at h
    split at h
    · simp only [Bool.and_eq_true] at h
      obtain ⟨⟨⟨⟨h1, h2⟩, h3⟩, h4⟩, h5⟩ := h
      exact sS_setI (ps_asg (sndE v c.toCok h3).e (pg_sub (sndE o c.toCok h4).e (sndE i c.toCok h5).e set_list (sub_assign h1)) (sw_sole h2) rfl rfl)
    · cases h
  | .app o v, X, W, a, c, h => by
    unfold chkS at h
    split at h
    · simp only [Bool.and_eq_true] at h
      obtain ⟨⟨⟨⟨⟨h1, h2⟩, h3⟩, h4⟩, h5⟩, h6⟩ := h
      cases of_decide_eq_true h1
      exact snd_app c.toCok h2 h3 h4 (sndE o c.toCok h5).e (sndE v c.toCok h6).e
    · cases h
  | .expr e, X, W, a, c, h => by
    unfold chkS at h
    split at h
    · simp only [Bool.and_eq_true] at h
      exact sS_expr (ps_expr (sndE e c.toCok h.2).e (sw_none h.1))
    · cases h
  | .ret e, X, W, a, c, h => by
    unfold chkS at h
    split at h
    · exact sS_ret (sndE e c.toCok h).e fun _ _ _ h => h
    · cases h
  | .retN, X, W, a, c, h => by
    unfold chkS at h
    split at h
    · exact sS_retN
    · cases h
  | .ite cc x y, X, W, a, c, h => by
    unfold chkS at h
    split at h
    · simp only [Bool.and_eq_true] at h
      obtain ⟨⟨h1, h2⟩, h3⟩ := h
      exact sS_ite (sndE cc c.toCok h1).t (sndSs x c h2) (sndSs y c h3)
    · cases h
  | .for_ tg it b, X, W, a, c, h => by
    unfold chkS at h
    split at h
    · simp only [Bool.and_eq_true] at h
      obtain ⟨⟨⟨⟨hq, h1⟩, h2⟩, h3⟩, h4⟩ := h
      exact sS_for c.pass (c.calm (notB hq)) (sndI it c.toCok h3) (tg_ok c.toCok h1) (sndSs b c h4) (notSet_fold h2)
    · cases h
  | .while_ cc b, X, W, a, c, h => by
    unfold chkS at h
    split at h
    · simp only [Bool.and_eq_true] at h
      exact sS_while c.pass (sndE cc c.toCok h.1).t (sndSs b c h.2)
    · cases h
  | .rais j, X, W, a, c, h => by
    unfold chkS at h
    split at h
    · simp only [Bool.and_eq_true] at h
      obtain ⟨⟨⟨⟨hq, hpl⟩, h1⟩, h2⟩, h3⟩ := h
      exact snd_rais c.toCok (notB hq) h1 h2 (of_decide_eq_true h3) hpl
    · cases h
  | .raiV j e, X, W, a, c, h => by
    unfold chkS at h
    split at h
    · simp only [Bool.and_eq_true] at h
      obtain ⟨⟨⟨⟨⟨⟨hq, hv⟩, h1⟩, h2⟩, h3⟩, h4⟩, h5⟩ := h
      obtain ⟨fl, hv⟩ := Option.isSome_iff_exists.mp hv
      exact snd_raiV c.toCok (c.room2 (notB hq)) (notB hq) h1 h2 (of_decide_eq_true h3) hv h4 (sndE e c.toCok h5).e
    · cases h
  | .tryH b kk hd, X, W, a, c, h => by
    unfold chkS at h
    split at h
    · rename_i l x p1 n n2 p2 fl p3 p4 p5 p6
      simp only [Bool.and_eq_true] at h
      obtain ⟨⟨⟨⟨⟨⟨⟨⟨⟨⟨hq, hrf⟩, h1⟩, h2⟩, h3⟩, h4⟩, h5⟩, h6⟩, h7⟩, h8⟩, h9⟩ := h
      have hq := notB hq
      have hrf := notB hrf
      cases of_decide_eq_true h5
      have h3 := of_decide_eq_true h3
      have h8 := of_decide_eq_true h8
      obtain ⟨C, fI, fd, sf, pt, e1, e2, e3, e4, e5, e6, e7, e8, e9, e10⟩ := (c.wk.exv kk x fl h3 (of_decide_eq_true h4)).ex
      obtain ⟨k1, k2⟩ := c.stk hq
      have loc : X.env.kindOf n = some .local := by
        show X.env.scope.names.lookup n = _
        rw [c.sc]
        exact of_decide_eq_true h7
      let ts : Addr → Value → Option Addr → TS := fun a cls d => fun D τ HZ => (N.idxOf n < τ.length → τ[N.idxOf n]? = some (some (.ref a))) ∧ cls = .ref C ∧ ∃ (dd : Addr) (fs : List (Str × V)) (v : V), d = some dd ∧ HZ dd = some (.xd fs) ∧ fs.lookup fl = some v ∧ D.rt v HZ
      refine (L2N.ps_try_as (i := N.idxOf n) (c := .ref C) (tb := fun W' => tS Z X.K W' (evSs (G_ T) F XM HF b)) (ts := ts) (Wout := W) k1 k2 c.nd (by rw [c.hN]; exact h8) loc ⟨c.gl h1, (okN_d h2).1, .inl e1⟩ (c.tk hq) (fun W' pn xe tk pass => ?_) fun a0 oe cls d pn hz hvs => ⟨fun pins s τ HZ D I h => ?_⟩).imp fun D σ H ⟨w, e, S, st, f⟩ => ⟨w, e, S, st, ?_⟩
      · have ck : CokS Z T N F k (X.tr pn xe) q W' XM := {
          wk := c.wk.to rfl rfl rfl rfl rfl
          calm := c.calm
          room := c.room
          un := c.un
          tk := fun _ => tk
          exn := fun a j hl => absurd (c.exn a j hl).1 (by rw [hq]; exact Bool.false_ne_true)
          sc := c.sc
          kind := c.kind
          hN := c.hN
          nd := c.nd
          own := c.own
          rf := fun z => absurd z (by rw [hrf]; exact Bool.false_ne_true)
          pass := pass
          room2 := c.room2
          stk := c.stk
          xm := c.xm }
        exact sndSs b ck h9
      · obtain ⟨z1, z2, dd, fs, v, z3, z4, z5, z6⟩ := h
        have hl : N.idxOf n < τ.length := by
          rw [I.len]
          show _ < X.N.length
          rw [c.hN]
          exact (List.getElem?_eq_some_iff.mp h8).1
        have hv : Vis X.env.scope n := .inl loc
        have pv : PE (X.suite a0 ((a0, oe) :: pn)) (.Name n p2) (tVar (N.idxOf n)) := pe_var (by rw [show (X.suite a0 ((a0, oe) :: pn)).N = X.N from rfl, c.hN]; exact h8) hv (okN_d h6).1 (okN_d h6).2.1
        exact (pss_one (ps_ret (pos := p4) (pe_xf (pos := p3) e9 e10 hz.zc hvs pv))).run pins s τ HZ D I ⟨_, z1 hl, rfl, z2, dd, fs, v, z3, z4, z5, z6⟩
      · have f : FinS Z X.K W w H ((evSs (G_ T) F XM HF b e S).try_ (fun k' => XM k' kk) (fun k' p e1 S1 => evH HF .fld kk k' p e1 S1)) D := f
        cases r : evSs (G_ T) F XM HF b e S with
        | ex k' p e' S1 =>
          rw [r] at f
          obtain ⟨bb, hb, f1⟩ := f.ofO
          obtain ⟨C', g1, g2⟩ := c.xm k' kk bb hb x h3
          rw [e1] at g1
          cases g1
          intro cls dd σ' w' H' x' er xr s'
          obtain ⟨c1, c2⟩ := xr
          refine ⟨bb, by rw [c1]; exact g2, fun hbt a0 _ => ?_, fun hbf => ?_⟩
          · subst hbt
            obtain ⟨hk, f2⟩ := FinS.gd (show FinS Z X.K W w H (FR.gd (decide (k' = kk)) (.rt p S1)) D from f1)
            cases of_decide_eq_true hk
            rw [e3] at c2
            obtain ⟨dx, v, d1, d2, d3⟩ := c2
            refine ⟨fun hl => ?_, by rw [c1]; exact e2, dx, _, v, d1, d2, by simp [List.lookup], f2 v w' H' x' (.of d3) s'⟩
            rw [List.getElem?_set_self (by simpa using hl)]
          · subst hbf
            exact f1 cls dd σ' w' H' x' er ⟨c1, c2⟩ s'
        | _ => rw [r] at f; exact f
    · cases h
  | .pass, X, W, a, c, h => by
    unfold chkS at h
    split at h
    · exact sS_pass
    · cases h
  | .brk, X, W, a, c, h => by
    unfold chkS at h
    split at h
    · exact sS_brk
    · cases h
  | .cont, X, W, a, c, h => by
    unfold chkS at h
    split at h
    · exact sS_cont
    · cases h
theorem sndSs : ∀ (is : Ss) {X : Cx} {W : WX} {a : List Stmt}, CokS Z T N F k X q W XM → chkSs T N is q a = true → SSs Z X W (G_ T) F XM HF is a
  | .nil, X, W, a, c, h => by
    cases a with
    | nil => exact sSs_nil
    | cons _ _ => simp [chkSs] at h
  | .cons s r, X, W, a, c, h => by
    cases a with
    | nil => simp [chkSs] at h
    | cons x xs =>
      simp only [chkSs, Bool.and_eq_true, Bool.or_eq_true] at h
      rcases h with h | h
      · exact sSs_cons (sndS s c h.1) (sndSs r c h.2)
      · exact sndTok c.toCok h
end
end
end Rx
set_option Elab.async false
set_option linter.all false
set_option maxRecDepth 100000
set_option maxHeartbeats 4000000
/-! Rx15: where an exception is handled: the end of an iterator, a tuple taken apart, a list that is walked and filled. -/
namespace HotX
open PySem PySem.Spec PyProof.Rows L2 Builtin
section
variable {prog : Program} {w : World} {A : Around} {E : Value → Shared → Prop} {s : Shared}
/-- the end of a list's iterator while x1 is handled -/
theorem list_end_hot {it l x1 : Addr} {i : Nat} {items : Array Value} {Q : Option Value → Shared → Prop} (hot : HotAt A x1 s.heap) (ne : x1 ≠ it) (st : Heap.IsListIter s.heap it l i) (sl : Heap.IsList s.heap l items) (out : items[i]? = none)
    (k : ∀ h', Heap.ExtBut it s.heap h' → Q none { s with heap := h' }) : wpAny (model prog w) A (pyNext (.ref it)) Q E s := by
  obtain ⟨oi, hoi, hci, hdi⟩ := id st
  obtain ⟨os, hos, _, ns, hds⟩ := sl
  obtain ⟨hh, o1, vs1, h1, d1, c1⟩ := hot
  unfold pyNext
  refine wpAny_bind (wpAny_attempt (wpAny_callSpecial?_slot (name := Str.ofString "__next__") st.typeIs slot_listiter_next (wpAny_call_entry slot_listiter_next st.typeIs entry_listiter_next ?_ (args_listiter_next _))))
  show wpAny _ _ (field (.ref it) 0 >>= _) _ _ s
  refine wpAny_bind (wpAny_field (x := .ref l) hoi hdi rfl ?_)
  show wpAny _ _ (if (Value.ref l == Value.none) = true then _ else _) _ _ s
  rw [if_neg (show ¬ ((Value.ref l == Value.none) = true) from Bool.false_ne_true)]
  show wpAny _ _ (field (.ref it) 1 >>= _) _ _ s
  refine wpAny_bind (wpAny_field (x := .int i 0) hoi hdi rfl ?_)
  show wpAny _ _ (seqItems? (.ref l) >>= _) _ _ s
  refine wpAny_bind (wpAny_seqItems hos hds ?_)
  simp only [Int.toNat_natCast, out]
  have h1' : (s.heap.update it (Obj.mapFields fun x => x.setIfInBounds 0 Value.none)).get? x1 = some o1 := by
    rw [Heap.get?_update_other _ _ (Ne.symm ne)]
    exact h1
  refine wpAny_bind (wpAny_rule (wpAny_bind (wpAny_setField hoi hdi (by simp) ?_)))
  show wpAny _ _ (newExc (.type "StopIteration") [] >>= _) _ _ _
  refine wpAny_bind ?_
  simp only [newExc, newTuple]
  refine wpAny_bind (wpAny_newObj_type ?_ (by size_fits))
  refine wpAny_bind (m := firstArgMember _ _) (wpAny_of_eq (a := Value.none) (by first | rfl | (simp only [firstArgMember]; rfl)) ?_)
  refine wpAny_newObj_type ?_ (by size_fits)
  have g1 := Heap.get?_push_of_some (h := (s.heap.update it (Obj.mapFields fun x => x.setIfInBounds 0 Value.none))) { cls := .type "tuple", data := .seq ([] : List Value).toArray } h1'
  refine raiseNew_hot ⟨hh, o1, vs1, Heap.get?_push_of_some _ g1, d1, c1⟩ (Nat.ne_of_lt (Heap.lt_size g1)) (Heap.get?_push_size _ rfl) rfl (by first | (simp; done) | (simp; omega) | (simp only [Array.size_append]; simp; omega)) ?_
  refine wpAny_bind (wpAny_isInstance (T := "StopIteration") (b := true) ⟨_, Heap.get?_update_self _ (Heap.get?_push_size _ rfl) rfl, rfl⟩ isSubtype_stop ?_)
  refine wpAny_pure (k _ fun b ob hb e => ?_)
  have e1 : (s.heap.update it (Obj.mapFields fun x => x.setIfInBounds 0 Value.none)).get? b = some ob := by
    rw [Heap.get?_update_other _ _ (Ne.symm hb)]
    exact e
  rw [Heap.get?_update_other _ _ (Nat.ne_of_gt (Heap.lt_size (Heap.get?_push_of_some _ e1)))]
  exact Heap.get?_push_of_some _ (Heap.get?_push_of_some _ e1)
/-- the end of a tuple's iterator while x1 is handled -/
theorem tuple_end_hot {it l x1 : Addr} {i : Nat} {items : Array Value} {Q : Option Value → Shared → Prop} (hot : HotAt A x1 s.heap) (ne : x1 ≠ it) (st : IsTupIter s.heap it l i) (sl : IsTup s.heap l items) (out : items[i]? = none)
    (k : ∀ h', Heap.ExtBut it s.heap h' → Q none { s with heap := h' }) : wpAny (model prog w) A (pyNext (.ref it)) Q E s := by
  obtain ⟨oi, hoi, hci, hdi⟩ := id st
  obtain ⟨os, hos, _, ns, hds⟩ := sl
  obtain ⟨hh, o1, vs1, h1, d1, c1⟩ := hot
  unfold pyNext
  refine wpAny_bind (wpAny_attempt (wpAny_callSpecial?_slot (name := Str.ofString "__next__") st.typeIs slot_tupleiter_next (wpAny_call_entry slot_tupleiter_next st.typeIs entry_tupleiter_next ?_ (args_tupleiter_next _))))
  show wpAny _ _ (field (.ref it) 0 >>= _) _ _ s
  refine wpAny_bind (wpAny_field (x := .ref l) hoi hdi rfl ?_)
  show wpAny _ _ (if (Value.ref l == Value.none) = true then _ else _) _ _ s
  rw [if_neg (show ¬ ((Value.ref l == Value.none) = true) from Bool.false_ne_true)]
  show wpAny _ _ (field (.ref it) 1 >>= _) _ _ s
  refine wpAny_bind (wpAny_field (x := .int i 0) hoi hdi rfl ?_)
  show wpAny _ _ (seqItems? (.ref l) >>= _) _ _ s
  refine wpAny_bind (wpAny_seqItems hos hds ?_)
  simp only [Int.toNat_natCast, out]
  have h1' : (s.heap.update it (Obj.mapFields fun x => x.setIfInBounds 0 Value.none)).get? x1 = some o1 := by
    rw [Heap.get?_update_other _ _ (Ne.symm ne)]
    exact h1
  refine wpAny_bind (wpAny_rule (wpAny_bind (wpAny_setField hoi hdi (by simp) ?_)))
  show wpAny _ _ (newExc (.type "StopIteration") [] >>= _) _ _ _
  refine wpAny_bind ?_
  simp only [newExc, newTuple]
  refine wpAny_bind (wpAny_newObj_type ?_ (by size_fits))
  refine wpAny_bind (m := firstArgMember _ _) (wpAny_of_eq (a := Value.none) (by first | rfl | (simp only [firstArgMember]; rfl)) ?_)
  refine wpAny_newObj_type ?_ (by size_fits)
  have g1 := Heap.get?_push_of_some (h := (s.heap.update it (Obj.mapFields fun x => x.setIfInBounds 0 Value.none))) { cls := .type "tuple", data := .seq ([] : List Value).toArray } h1'
  refine raiseNew_hot ⟨hh, o1, vs1, Heap.get?_push_of_some _ g1, d1, c1⟩ (Nat.ne_of_lt (Heap.lt_size g1)) (Heap.get?_push_size _ rfl) rfl (by first | (simp; done) | (simp; omega) | (simp only [Array.size_append]; simp; omega)) ?_
  refine wpAny_bind (wpAny_isInstance (T := "StopIteration") (b := true) ⟨_, Heap.get?_update_self _ (Heap.get?_push_size _ rfl) rfl, rfl⟩ isSubtype_stop ?_)
  refine wpAny_pure (k _ fun b ob hb e => ?_)
  have e1 : (s.heap.update it (Obj.mapFields fun x => x.setIfInBounds 0 Value.none)).get? b = some ob := by
    rw [Heap.get?_update_other _ _ (Ne.symm hb)]
    exact e
  rw [Heap.get?_update_other _ _ (Nat.ne_of_gt (Heap.lt_size (Heap.get?_push_of_some _ e1)))]
  exact Heap.get?_push_of_some _ (Heap.get?_push_of_some _ e1)
/-- a tuple's items, taken apart there -/
theorem unpack_hot {t x1 : Addr} {items : Array Value} {Q : List Value → Shared → Prop} (hot : HotAt A x1 s.heap) (ht : IsTup s.heap t items)
    (k : ∀ h', Heap.ExtBut s.heap.objs.size s.heap h' → Q items.toList { s with heap := h' }) : wpAny (model prog w) A (unpackItems (.ref t) items.size none) Q E s := by
  have hlt : t ≠ s.heap.objs.size := by
    obtain ⟨o, ho, _⟩ := ht
    exact Nat.ne_of_lt (Heap.lt_size ho)
  obtain ⟨hh, o1, vs1, h1, d1, c1⟩ := hot
  have hx : x1 ≠ s.heap.objs.size := Nat.ne_of_lt (Heap.lt_size h1)
  unfold unpackItems
  refine wpAny_bind ?_
  · unfold notIterableAtAll
    refine wpAny_bind (wpAny_specialOf ht.typeIs slot_tuple_iter.lookup ?_)
    refine wpAny_pure ?_
    simp only [Bool.false_eq_true, if_false]
    refine wpAny_bind (wpAny_holding (iter_tuple ht ?_))
    refine wpAny_bind (wpAny_holding (draw_tuple hlt items.size 0 _ _ ⟨_, Heap.get?_push_size _ rfl, rfl, rfl⟩ (ht.push _) (by omega) fun h₁ st hs => ?_))
    have all : List.take items.size (List.drop 0 items.toList) = items.toList := by
      rw [List.drop_zero]
      exact List.take_of_length_le (by simp)
    rw [all]
    rw [if_neg (by simp)]
    have ht₁ : IsTup h₁ t items := (ht.push _).extBut hs.extBut hlt
    refine wpAny_bind (wpAny_holding (tuple_end_hot ⟨hh, o1, vs1, hs.extBut x1 _ hx (Heap.get?_push_of_some _ h1), d1, c1⟩ hx st ht₁ (by simp) fun h₂ he => ?_))
    simp only [Option.isSome_none, Bool.false_eq_true, if_false]
    exact wpAny_pure (k h₂ fun b o hb e => he b o hb (hs.extBut b o hb (Heap.get?_push_of_some _ e)))
end
section
variable {X : Cx}
/-- (a, b, ..) = a tuple of that length, there -/
theorem pg_tupH {es : List Expr} {k : Nat} {t : TGs} {n : Nat} {pos : Pos} (hot : ∀ pins σ H s, Inv X pins σ H s → ∃ x1, HotAt X.A x1 s.heap) (h : PGs X es t) (hn : (assignEach es X.env).length = n) (hst : (assignEach es X.env).findIdx? (·.1) = none) : PG X (.Tuple es k pos) (gTup X.K n t) := by
  refine ⟨fun pins s σ H v u Q I r ⟨a, xs, e1, hq, hl, hw⟩ => ?_⟩
  subst e1
  cases r
  obtain ⟨its, rv, ht, hz⟩ := I.tuple hq
  obtain ⟨x1, hx⟩ := hot pins σ H s I
  have hsz : (assignEach es X.env).length = its.toArray.size := by simp [hn, ← hl, rv.length]
  rw [assign_Tuple]
  refine wpAny_bind (wpAny_standAt ?_)
  unfold unpack
  rw [hsz, hst]
  refine wpAny_bind (wpAny_holding (unpack_hot hx ht fun h' hx' => ?_))
  have I1 : Inv X pins σ H { s with heap := h' } := I.kept (t' := s.toks) fun b o e => hx' b o (Nat.ne_of_lt (Heap.lt_size e)) e
  exact h.run pins _ σ H xs _ Q I1 (by simpa using rv) hw
end
end HotX
namespace HotX
open PySem PySem.Spec PyProof.Rows L2 L2H
section
variable {X : Cx}
/-- the handled exception's object stands at a block's start -/
structure Stands (X : Cx) (p : Addr × Obj) (s : Shared) (H : Hp) (fp : List Addr) : Prop where
  get : s.heap.get? p.1 = some p.2
  free : H p.1 = none
  frs : p.1 ∉ frs X.stack
  fp : p.1 ∉ fp
theorem Stands.hot {p : Addr × Obj} {s0 : Shared} {H0 : Hp} {scope : Scope} {ce : PySem.Env} {fp : List Addr} (st : Stands X p s0 H0 fp) (h1 : Hot1 X.A p) {pins : List (Addr × Obj)} {σ : L2.St} {H : Hp} {s : Shared} (I : Inv (X.blk s0 H0 scope ce fp) pins σ H s) : ∃ x1, HotAt X.A x1 s.heap := by
  obtain ⟨hh, vs, e1, c1⟩ := h1
  exact ⟨p.1, hh, p.2, vs, I.base.keep p.1 p.2 st.get st.free st.frs st.fp, e1, c1⟩
/-- [elt for tg in a list if ..], there -/
theorem pe_lcH {elt tg iter : Expr} {ifs : List Expr} {scope : Scope} {own : List (Str × Nat)} {pos : Pos} {tl : TE} {g : TG} {tt : TT} {te : TE} {p : Addr × Obj} (h1 : Hot1 X.A p) (hp : p ∈ X.pn) (hN : X.N.Nodup) (hi : PE X iter tl) (ok : BlkOk X.N X.env.scope scope own)
    (hg : ∀ (s : Shared) (H : Hp) (C : Addr) (cl : List (Str × Addr)) (fp : List Addr), Stands X p s H fp → PG (X.blk s H scope (compEnvC scope cl C X.env) fp) tg g)
    (ht : ∀ (s : Shared) (H : Hp) (C : Addr) (cl : List (Str × Addr)) (fp : List Addr), Stands X p s H fp → PTs (X.blk s H scope (compEnvC scope cl C X.env) fp) ifs tt)
    (he : ∀ (s : Shared) (H : Hp) (C : Addr) (cl : List (Str × Addr)) (fp : List Addr), Stands X p s H fp → PE (X.blk s H scope (compEnvC scope cl C X.env) fp) elt te) (hs : ∀ x, foldedSetIterable iter X.env x = pure x) :
    PE X (.ListComp elt [⟨tg, iter, ifs, 0⟩] scope pos) (tLc (iList X.K tl) g tt te (own.map (·.2))) := by
  refine ⟨fun pins s σ H Q I h => ?_⟩
  rw [eval_ListComp]
  have free_ : ∀ y ∈ scope.names, y.2 = .free → ∃ c, X.env.cells.lookup y.1 = some c := fun y hy e => (ok.free y hy e).elim (fun k => I.ok.has _ (.inl k)) (fun k => I.ok.has _ (.inr k))
  refine wpAny_comprehension_free (use := none) rfl hs (closure_ok free_) ok.kind (fun y hy e => by rw [ok.uniq y hy, e]) (thn (hi.run pins s σ H _ I h) fun xv s1 ⟨x, H1, I1, r1, a, ex, ⟨ys, hq⟩, q1⟩ => ?_)
  subst ex
  cases r1
  obtain ⟨its, rv, pl, hz⟩ := I1.list hq
  refine wpAny_pyIter_list pl.isList ?_
  generalize hit : s1.heap.objs.size = it
  have P1 := I1.pin p (List.mem_append_left _ hp)
  have I2 : Inv X pins σ H1 { s1 with heap := s1.heap.push { cls := .type "list_iterator", data := .fields #[.ref a, .int 0 0] } } := I1.kept (t' := s1.toks) fun b o e => Heap.get?_push_of_some _ e
  have st2 : (s1.heap.push { cls := .type "list_iterator", data := .fields #[.ref a, .int 0 0] }).IsListIter it a 0 := ⟨_, by rw [← hit]; exact Heap.get?_push_size _ rfl, rfl, rfl⟩
  have nit : H1 it = none := I1.hok.fresh (Nat.le_of_eq hit)
  have f2 : FpOk X pins H1 it := by
    rw [← hit] at nit ⊢
    exact I1.fpOk (Nat.le_refl _) nit
  have nep : p.1 ≠ it := Nat.ne_of_lt (by rw [← hit]; exact Heap.lt_size P1.1)
  generalize hs2 : ({ s1 with heap := s1.heap.push { cls := .type "list_iterator", data := .fields #[.ref a, .int 0 0] } } : Shared) = s2 at I2 st2 ⊢
  have st2 : s2.heap.IsListIter it a 0 := by rw [← hs2]; exact st2
  have lt2 : it < s2.heap.objs.size := by
    obtain ⟨o, e, _⟩ := st2
    exact Heap.lt_size e
  refine wpAny_newObj_type (newEnv_comp ?_) (by show 0 ≤ sizeLine; decide)
  generalize hD : s2.heap.objs.size = D
  have nD : H1 D = none := I2.hok.fresh (Nat.le_of_eq hD)
  obtain ⟨W, ⟨m0, w0⟩, turn⟩ := q1 D nD
  generalize hs3 : ({ s2 with heap := s2.heap.push { cls := .type "list", data := .seq ([] : List Value).toArray } } : Shared) = s3
  have I3 : Inv X pins σ (upd H1 D (.lst [])) s3 := by
    rw [← hs3]
    refine I2.laid (t' := s2.toks) (fun b o e => Heap.get?_push_of_some _ e) (Nat.le_of_eq hD) ⟨Nat.zero_le _, [], 0, .nil, ?_⟩
    rw [← hD]
    exact Heap.get?_push_size _ rfl
  have h3 : s3.heap = s2.heap.push { cls := .type "list", data := .seq ([] : List Value).toArray } := by rw [← hs3]
  have neD : it ≠ D := Nat.ne_of_lt (by rw [← hD]; exact lt2)
  have f3 : ∀ b ∈ [it], FpOk X pins (upd H1 D (.lst [])) b ∧ b < s3.heap.objs.size := fun b hb => by
    rw [List.mem_singleton.mp hb]
    exact ⟨⟨by rw [upd_ne neD]; exact nit, f2.2⟩, by rw [h3, Heap.size_push]; exact Nat.lt_succ_of_lt lt2⟩
  have st3 : s3.heap.IsListIter it a 0 := st2.at fun o e => by rw [h3]; exact Heap.get?_push_of_some _ e
  have P3 := I3.pin p (List.mem_append_left _ hp)
  have stand : Stands X p s3 (upd H1 D (.lst [])) [it] := ⟨P3.1, P3.2.1, fun hm => (List.mem_cons.mp (I3.stkSub p.1 hm)).elim P3.2.2.1 P3.2.2.2.1, by simpa using nep⟩
  have I4 := block_start I3 ok hN f3
  have pg := hg s3 (upd H1 D (.lst [])) s3.heap.objs.size (cellsFrom (s3.heap.objs.size + 1) scope.names (cloFrom X.env.cells scope.names [])) [it] stand
  have pt := ht s3 (upd H1 D (.lst [])) s3.heap.objs.size (cellsFrom (s3.heap.objs.size + 1) scope.names (cloFrom X.env.cells scope.names [])) [it] stand
  have pe := he s3 (upd H1 D (.lst [])) s3.heap.objs.size (cellsFrom (s3.heap.objs.size + 1) scope.names (cloFrom X.env.cells scope.names [])) [it] stand
  show codeAny _ _ (.compStart (.ListComp elt [⟨tg, iter, ifs, 0⟩] scope pos) 0 (.ref it) (.ref D) (compEnvC scope (cellsFrom (s3.heap.objs.size + 1) scope.names (cloFrom X.env.cells scope.names [])) s3.heap.objs.size X.env)) (compPost (model X.prog X.w) X.A X.xe none (EP X pins σ Q) (.ref D) s3.heap.objs.size) { s3 with heap := pushCells (s3.heap.push { cls := .type "dict", data := .dict #[] }) scope.names }
  generalize hce : compEnvC scope (cellsFrom (s3.heap.objs.size + 1) scope.names (cloFrom X.env.cells scope.names [])) s3.heap.objs.size X.env = ce at I4 pg pt pe ⊢
  have cL : ce.locals = s3.heap.objs.size := by subst hce; rfl
  generalize hH3 : upd H1 D (.lst []) = H3 at I3 I4 pg pt pe w0 f3 stand
  generalize hs4 : ({ s3 with heap := pushCells (s3.heap.push { cls := .type "dict", data := .dict #[] }) scope.names } : Shared) = s4 at I4 ⊢
  have st4 : s4.heap.IsListIter it a 0 := st3.at fun o e => by rw [← hs4]; exact pushCells_keeps _ _ _ _ (Heap.get?_push_of_some _ e)
  have stat : ∀ {pn : List (Addr × Obj)} {σ' : L2.St} {H' : Hp} {s' : Shared}, Inv (X.blk s3 H3 scope ce [it]) [] σ' H' s' → H' it = none → FpOk (X.blk s3 H3 scope ce [it]) [] H' it := fun {pn σ' H' s'} I' hn =>
    ⟨hn, (I'.ok.exf it (by simp)).1, I'.ok.exfs it (by simp), .inl (by simp), fun x c e => (I'.ok.exf it (by simp)).2 x c e, fun p hp => absurd (show p ∈ ([] : List (Addr × Obj)) ++ [] from hp) (by simp)⟩
  have loop : codeAny (model X.prog X.w) X.A (.compLoop (.ListComp elt [⟨tg, iter, ifs, 0⟩] scope pos) 0 (.ref it) (.ref D) ce) (compPost (model X.prog X.w) X.A X.xe none (EP X pins σ Q) (.ref D) s3.heap.objs.size) s4 := by
    refine compLoop_any (fun n s' => ∃ i H', Inv (X.blk s3 H3 scope ce [it]) [] (L2.wipe σ (own.map (·.2))) H' s' ∧ s'.heap.IsListIter it a i ∧ H' it = none ∧ W i n H') ?_ m0 ⟨0, H3, I4, st4, (f3 it (by simp)).1.1, w0⟩
    rintro n s5 ⟨i, H5, I5, st5, n5, w5⟩
    obtain ⟨g0, g1, g2, g3, g4, g5⟩ := stat (pn := []) I5 n5
    rcases turn i n H5 w5 with ⟨⟨zs, hzs, hle⟩, qq⟩ | ⟨⟨zs, z, hzs, hzi⟩, Nx, hNx, step⟩
    · obtain ⟨its5, rv5, pl5, hz5⟩ := I5.list hzs
      obtain ⟨x1, hx1⟩ := stand.hot h1 I5
      have hl := rv5.length
      have hx1p : x1 = p.1 := by
        have e1 := hx1.1
        have e2 := h1.1
        rw [e2] at e1
        cases e1
        rfl
      refine thnF (Q := fun r s6 => r = none ∧ Inv (X.blk s3 H3 scope ce [it]) [] (L2.wipe σ (own.map (·.2))) H5 s6) (list_end_hot hx1 (by rw [hx1p]; exact nep) st5 pl5.isList (by simp; omega) fun h' eb => ⟨rfl, I5.turned (t' := s5.toks) (fun b o hb e => eb b o hb e) g0 g1 g3 g4 g5⟩) fun r s6 ⟨hr, I6⟩ => ?_
      subst hr
      have I7 : Inv X pins σ H5 s6 := I3.call' (ch := [it]) I6.os I6.base I6.hok I6.bare fun b hb => ⟨(f3 b hb).1.2.2.2.1, (f3 b hb).1.2.1, (f3 b hb).1.2.2.2.2.1, (f3 b hb).1.2.2.2.2.2⟩
      have nC : H5 s3.heap.objs.size = none := by
        have z : H5 ce.locals = none := I6.free
        rw [cL] at z
        exact z
      obtain ⟨m, hn, _⟩ := I6.loc
      have hn : s6.heap.Ns ce.locals m := hn
      rw [cL] at hn
      obtain ⟨k0, k1, k2, k3, k4, k5⟩ := I3.fpOk (Nat.le_refl _) nC
      exact ⟨m, hn, fun h'' sb => ⟨.ref D, H5, I7.turned (t' := s6.toks) (fun b o hb e => (sb.2 b hb).trans e) k0 k1 k3 k4 k5, rfl, qq⟩⟩
    · obtain ⟨its5, rv5, pl5, hz5⟩ := I5.list hzs
      obtain ⟨u, hu, ru⟩ := rv5.get hzi
      refine thnF (Q := fun r s6 => r = some u ∧ ∃ h', s6 = { s5 with heap := h' } ∧ h'.IsListIter it a (i + 1) ∧ Inv (X.blk s3 H3 scope ce [it]) [] (L2.wipe σ (own.map (·.2))) H5 s6) (wpAny_pyNext_list_item st5 pl5.isList (x := u) (by simpa using hu) fun h' st' sb => ⟨rfl, h', rfl, st', I5.turned (t' := s5.toks) (fun b o hb e => (sb.2 b hb).trans e) g0 g1 g3 g4 g5⟩) fun r s6 ⟨hr, h', e6, st6, I6⟩ => ?_
      subst hr
      have st6 : s6.heap.IsListIter it a (i + 1) := by rw [e6]; exact st6
      obtain ⟨o6, eo6, c6, d6⟩ := id st6
      refine go_of eo6 c6 d6 (by decide) ?_
      have I7' := I6.pinned (fp := [it]) (fun b hb => by rw [List.mem_singleton.mp hb]; exact stat (pn := []) I6 n5) (fun b hb => by rw [List.mem_singleton.mp hb]; exact ⟨o6, eo6, fun v z => by rw [d6] at z; cases z⟩)
      refine thnF (pg.run _ s6 _ H5 z u _ I7' ru (step z H5 ⟨rfl, fun ws hw => by rw [I5.list_inj hw hzs]; exact hzi⟩)) fun _ s8 ⟨σ8, H8, I8, hw8, q8⟩ => ?_
      refine thnF (pt.run _ s8 σ8 H8 _ I8 q8) fun b s9 ⟨H9, I9, q9⟩ => ?_
      have fin : ∀ {s' : Shared} {H' : Hp}, Inv (X.blk s3 H3 scope ce [it]) ([] ++ pinsAt [it] s6.heap) σ8 H' s' → Nx H' → ∃ m, m < n ∧ ∃ i H', Inv (X.blk s3 H3 scope ce [it]) [] (L2.wipe σ (own.map (·.2))) H' s' ∧ s'.heap.IsListIter it a i ∧ H' it = none ∧ W i m H' := fun {s' H'} I' nx => by
        obtain ⟨m', hm, w'⟩ := hNx H' nx
        have pin' := I'.pin (it, o6) (List.mem_append_right _ (List.mem_append_right _ (mem_pinsAt (by simp) eo6)))
        have hl : (L2.wipe σ (own.map (·.2))).length = σ8.length := by rw [← hw8, wipe_length]
        refine ⟨m', hm, i + 1, H', (I'.unpinned (pins := [])).weak hl (fun j v e => ?_), ⟨o6, pin'.1, c6, d6⟩, pin'.2.1, w'⟩
        rw [← hw8] at e
        exact (wipe_some e).1
      cases b with
      | false =>
        simp only [Bool.false_eq_true, if_false] at q9 ⊢
        exact fin I9 q9
      | true =>
        simp only [if_true] at q9 ⊢
        refine thnF (pe.run _ s9 σ8 H9 _ I9 q9) fun z s10 ⟨yv, H10, I10, r10, acc, hD10, hz10, nx⟩ => ?_
        exact app_ok (X := X.blk s3 H3 scope ce [it]) I10 hD10 hz10 r10 fun s11 I11 => fin I11 nx
  exact codeAny_compStart_list loop (wpAny_pyIter_listiter st4 loop)
end
end HotX
set_option Elab.async false
set_option linter.all false
set_option maxRecDepth 100000
set_option maxHeartbeats 2000000
/-! Rx16: what a def does that is called while an exception is handled; a refused lambda. -/
namespace Rx
open PySem PySem.Spec PyProof.Rows L2 TL RZ L2H HotX
section
variable {Z : Ze} {T : Tab} {N : List Str} {F : Orc} {k : Nat} {X : Cx} {q : ScP} {W : WX} {G : Nat → Option D}
/-- the exceptions that are handled: one, the object p -/
def LmP (Z : Ze) (K : PySem.W.Frag) (p : Addr × Obj) : Prop := ∀ a j, Z.lm a j → a = p.1 ∧ ∃ C, Z.ec j = .ref C ∧ p.2.cls = .ref C ∧ p.2.dict = none ∧ (∃ vs, p.2.data = .fields vs) ∧ ExcC K C
theorem inst_of {h : Heap} {a C : Addr} {o : Obj} (hg : h.get? a = some o) (h1 : o.cls = .ref C) (h2 : o.dict = none) (h3 : ∃ vs, o.data = .fields vs) : PySem.W.InstAt h a o C none := by
  obtain ⟨vs, h3⟩ := h3
  obtain ⟨oc, od, oda, osl⟩ := o
  dsimp only at h1 h2 h3
  subst h1 h2 h3
  exact ⟨hg, rfl, rfl, trivial⟩
theorem LmP.exn {p : Addr × Obj} (l : LmP Z X.K p) (hp : ∀ pins σ H s, Inv X pins σ H s → s.heap.get? p.1 = some p.2) : ∀ a j, Z.lm a j → ∀ pins σ H s, Inv X pins σ H s → ∃ oe C, Z.ec j = .ref C ∧ PySem.W.InstAt s.heap a oe C none ∧ ExcC X.K C := fun a j h pins σ H s I => by
  obtain ⟨rfl, C, h1, h2, h3, h4, h5⟩ := l a j h
  exact ⟨p.2, C, h1, inst_of (hp pins σ H s I) h2 h3 h4, h5⟩
def blkH (scope : Scope) (q : ScP) : ScP := { blkP scope q with hot := true }
theorem Cok.blkH (c : Cok Z T N F k X q W) {p : Addr × Obj} (l : LmP Z X.K p) (scope : Scope) (hk : scope.kind = .function) {s : Shared} {H : Hp} {fp : List Addr} (st : Stands X p s H fp) (C : Addr) (cl : List (Str × Addr)) : Cok Z T N F k (X.blk s H scope (compEnvC scope cl C X.env) fp) (blkH scope q) WF := by
  refine ⟨⟨fun f p h => ⟨(c.wk.fns f p h).1, ⟨(c.wk.fns f p h).2.ex, (c.wk.fns f p h).2.kp⟩⟩, c.wk.gls, c.wk.blt, c.wk.out, c.wk.exs, c.wk.isx, c.wk.exv⟩, fun z => (Bool.noConfusion (show true = false from z)), fun z => (Bool.noConfusion (show true = false from z)), c.un, fun _ => takesN0, fun a j h => ⟨rfl, LmP.exn (X := X.blk s H scope (compEnvC scope cl C X.env) fp) l (fun pins σ H' s' I => I.base.keep p.1 p.2 st.get st.free st.frs st.fp) a j h⟩, ?_, hk, c.hN, c.nd, fun y hy => ?_, fun z => Bool.noConfusion (show false = true from z)⟩
  · show relabel scope X.env = relS scope q.sc
    rw [← c.sc]
    rfl
  · show (scope.names.lookup y == some .cell) = true
    have := of_decide_eq_true (show decide (scope.names.lookup y = some .cell) = true from hy)
    rw [this]
    rfl
/-- [elt for a, b in l if c], there -/
def chkLH (T : Tab) (N : List Str) (q : ScP) : E → Expr → Bool
  | .comp own (.tp is) (.lsq i) e cc, a => (match a with
    | .ListComp l [⟨.Tuple ts _ _, it, ifs, z⟩] scope _ => decide (z = 0) && blkC N q.sc scope (ownOf N own) && (is.all fun i => own.contains i) && chkTs N (blkH scope q) is ts && notSet it && chkE T N i q it && chkC T N cc (blkH scope q) ifs && chkE T N e (blkH scope q) l
    | _ => false)
  | _, _ => false
theorem lsq_list {i : E} : ∀ {σ : L2.St} {H : Hp} {R : It → Hp → Prop}, tI Z X.K W (evI G F (.lsq i)) σ H R → iList X.K (tE Z X.K W (evE G F i)) σ H R := by
  rintro σ H R ⟨w, e, S, st, f⟩
  refine ⟨w, e, S, st, Fin.bind (show Fin Z X.K W (relI Z X.K) σ w H ((evE G F i e S).bind fun d S => asLst d fun xs => .ok xs S) R from f) fun d S1 v w1 H1 q1 x1 r1 s1 f1 => ?_⟩
  obtain ⟨ys, rfl, f2⟩ := Fin.asLst f1
  cases r1 with
  | of r =>
    obtain ⟨a, xs, rfl, h1, h2, h3⟩ := r.lst_of
    exact ⟨a, rfl, ⟨xs, .of h1⟩, f2 _ w1 H1 (Ext.refl _ _) (.list h1 h2 h3) s1⟩
theorem sE_lcH {p : Addr × Obj} (c : Cok Z T N F k X q W) (l : LmP Z X.K p) (h1 : Hot1 X.A p) (hp : p ∈ X.pn) {ia : E} {a : Expr} (h : chkLH T N q ia a = true) : SE Z X W (G_ T) F ia a := by
  unfold chkLH at h
  split at h
  · rename_i own is i e cc
    split at h
    · rename_i l0 ts k1 p1 it ifs z scope pos
      simp only [Bool.and_eq_true] at h
      obtain ⟨⟨⟨⟨⟨⟨⟨a1, a2⟩, a3⟩, a4⟩, a5⟩, a6⟩, a7⟩, a8⟩ := h
      cases of_decide_eq_true a1
      have hk := blk_kind a2
      have hsub : ∀ j ∈ is, j ∈ (ownOf N own).map (·.2) := fun j hj => by
        rw [own_map]
        have := List.all_eq_true.mp a3 j hj
        simpa using this
      have hh := (pe_lcH (pos := pos) (tg := .Tuple ts k1 p1) (tl := tE Z X.K W (evE (G_ T) F i)) (g := gD Z X.K (.tp is)) (tt := tT Z X.K WF (tstC (G_ T) F cc)) (te := tE Z X.K WF (evE (G_ T) F e)) h1 hp c.nd (sndE i c a6).e (by rw [c.hN, c.sc]; exact blkOk_by a2)
        (fun s H C cl fp st => by
          obtain ⟨g1, g2, g3, _⟩ := tgs_ok (c.blkH l scope hk st C cl) a4
          exact sG_tp (pg_tupH (fun pins σ H' s' I => st.hot h1 I) g1 g2 g3) rfl)
        (fun s H C cl fp st => sndC cc (c.blkH l scope hk st C cl) a7) (fun s H C cl fp st => (sndE e (c.blkH l scope hk st C cl) a8).e) (notSet_fold a5))
      refine hh.imp fun σ H Q t => ?_
      have := comp_v (Z := Z) (K := X.K) (W := W) (G := G_ T) (F := F) (own := ownOf N own) (tg := .tp is) (it := .lsq i) (elt := e) (c := cc) hsub σ H Q (by rw [own_map]; exact t)
      exact lsq_list this
    · cases h
  · cases h
end
/-! ### a def called there -/
abbrev noCX : CXT := fun _ _ _ _ _ _ => False
abbrev noXK : XK := fun _ _ _ => False
abbrev cxN (X : Cx) (N : List Str) (qual : Str) (scope : Scope) (f : Addr) (cdv : Value) (s : Shared) (H : Hp) (p : Addr × Obj) : Cx := cxH noCX X.prog X.w X.K X.mg X.base N qual scope f cdv X.A X.stack s H noXK p
theorem run_hot {X : Cx} {pins : List (Addr × Obj)} {σ : L2.St} {H : Hp} {s : Shared} {Q : VK} {us : List Value} {vs : List V} {p : Addr × Obj} {f : Addr} {fd : FuncData} {x qual : Str} {params : Arguments} {body : List Stmt} {scope : Scope} {N ps : List Str} {k : Nat}
    (F : FunD X.K x qual params body scope [] [] f fd) (S : FnScope N ps scope) (hr : RoomH (k + 1) X.A) (hp : p ∈ X.pn) (hb : Binds X.K fd ps []) (I : Inv X pins σ H s) (r : Vals vs us) (hl : vs.length = ps.length)
    (hbody : ∀ cdv : Value, RoomH k (X.A.deeper (envOfC qual scope s.heap.objs.size f cdv)) → ∃ t, PSs (cxN X N qual scope f cdv s H p) body t ∧ t { nx := fun _ H' => Q .non H', rt := Q } (L2.start N vs) H) :
    wpAny (model X.prog X.w) X.A (call (.ref f) us) (EP X pins σ Q) X.xe s := by
  obtain ⟨oc, od, dV, kV, doc, pm, an, cdv, ct, osl, rfl, lk, hcd, _, _⟩ := F.ex
  have at_ := I.pin p (List.mem_append_left _ hp)
  have pinOk : PinOk X.stack H s p := ⟨at_.1, at_.2.1, fun z => (List.mem_cons.mp (I.stkSub p.1 z)).elim at_.2.2.1 at_.2.2.2.1, at_.2.2.2.2⟩
  have E0 := I.env0
  have bound := hb s us I.kIn (by rw [List.append_nil, ← r.length]; exact hl)
  rw [List.append_nil] at bound
  have kinds : ∀ y ∈ ps.zip us, scope.names.lookup y.1 = some .local ∨ (scope.names.lookup y.1 = some .cell ∧ ((cellsFrom (s.heap.objs.size + 1) scope.names []).lookup y.1).isSome = true) := by
    rintro ⟨n, v⟩ hy
    rcases S.par n (List.of_mem_zip hy).1 with z | z
    · exact .inl z
    · exact .inr ⟨z, PySem.W.cellsFrom_some _ _ _ (.inl z)⟩
  have ran : codeAny (model X.prog X.w) X.A (.call (.ref f) ⟨us, []⟩) (CR noCX X.stack X.prog X.w H s Q noXK) s := by
    refine codeAny_call_function hr.depth (I.kIn _ _ lk) rfl S.co S.gen rfl (PySem.W.codeRec_of I.kIn hcd) (bound _ _ _ _ ?_)
    refine wpAny_newFunctionEnv_cells S.kind kinds fun env henv s1 x1 => ?_
    subst henv
    refine ⟨I.nolimit.keeps x1.toInCall.keep, codeAny_func ?_⟩
    obtain ⟨t, ht, hq⟩ := hbody cdv (hr.deeper _)
    have J : Inv (cxN X N qual scope f cdv s H p) [] (L2.start N vs) H s1 := inv_startH S pinOk E0 hl r x1
    refine wpAny_mono (ht.run [] s1 (L2.start N vs) H _ J hq) (fun fl s' z => ?_) fun e s' z => z
    have out : ∀ {σ' : L2.St} {H' : Hp} {v : V} {u : Value}, Inv (cxN X N qual scope f cdv s H p) [] σ' H' s' → RelV v u → Q v H' → CE X.stack X.prog X.w H s Q u s' := fun {σ' H' v u} J' rv qq => ⟨v, H', J'.os, J'.bare, J'.base, J'.hok, rv, qq⟩
    match fl, z with
    | .ret u, ⟨v, σ', H', J', rv, qq⟩ => exact out J' rv qq
    | .next, ⟨σ', H', J', qq⟩ => exact out (v := V.non) (u := Value.none) J' rfl qq
    | .brk, ⟨_, _, _, qq⟩ => exact qq.elim
    | .cont, ⟨_, _, _, qq⟩ => exact qq.elim
  refine wpAny_call (codeAny_mono ran fun o s' z => ?_)
  match o, z with
  | .ok (.ret u), z => exact I.after z
  | .ok .next, z => exact z.elim
  | .ok .brk, z => exact z.elim
  | .ok .cont, z => exact z.elim
  | .error e, z => exact z.elim
/-! ### the lambda is called -/
section
open LamX
variable {X : Cx} {pins : List (Addr × Obj)} {σ : L2.St} {H : Hp} {s : Shared}
abbrev lamObj (X : Cx) (params : Arguments) (body : Expr) (scope : Scope) (pm : Value) (c' : Addr) (ctv : Value) : Obj := PySem.W.kla_obj "<lambda>" (X.env.qual ++ "<lambda>") params body scope (cloFrom X.env.cells scope.names []) pm c' ctv
theorem pe_actN {Ng : List Str} {qg : Str} {sg : Scope} {g f c' : Addr} {cdg pm ctv : Value} {params : Arguments} {body : Expr} {scope : Scope} {k i : Nat} {a : Str} {pn : List (Addr × Obj)} {xe : Value → Shared → Prop} {W : WX} {tb : XK → TE} {p1 p2 : Pos}
    (I : Inv X pins σ H s) (L : LamS X.env.scope scope) (hf : s.heap.get? f = some (lamObj X params body scope pm c' ctv)) (hfn : H f = none) (hfr : f ∉ frs X.stack)
    (hbind : bindArgs (PySem.W.kla_fn "<lambda>" (X.env.qual ++ "<lambda>") params body scope (cloFrom X.env.cells scope.names []) pm (.ref c') ctv) ⟨[], []⟩ = pure [])
    (tk : L2N.Takes ((cxOf noCX X.prog X.w X.K X.mg X.base Ng qg sg g cdg X.A X.stack s H noXK).tr pn xe) W) (hr : Room (k + 1) (X.A.deeper (envOfC qg sg s.heap.objs.size g cdg)))
    (hbody : ∀ (A : Around) (outer : List PySem.Env) (s1 : Shared) (H1 : Hp) (E : XK), Room k (A.deeper (lamEnv X scope s1.heap.objs.size f c')) → PE (lamN X A outer s1 H1 E scope f c') body (tb E))
    (hN : Ng[i]? = some a) (hv : Vis sg a) (hd : (a == ("__debug__" : Str)) = false) (hcd : (a == ("__classdict__" : Str)) = false) :
    PE ((cxOf noCX X.prog X.w X.K X.mg X.base Ng qg sg g cdg X.A X.stack s H noXK).tr pn xe) (.Call (.Name a p1) [] [] p2)
      (fun τ HZ Q => τ[i]? = some (some (.ref f)) ∧ HZ c' = some (CodeO c' (X.env.qual ++ "<lambda>")) ∧ ∃ E : XK, (∀ cls d H', E cls d H' → W cls d τ H') ∧ tb E σ HZ Q) := by
  refine ⟨fun pinsZ sZ τ HZ Q IZ h => ?_⟩
  obtain ⟨hs, hc, E, hW, ht⟩ := h
  have named := (pe_var (pos := p1) hN hv hd hcd).run pinsZ sZ τ HZ (fun v H1 => v = .ref f ∧ H1 = HZ) IZ ⟨.ref f, hs, rfl, rfl⟩
  refine wpAny_Call_Name_kw (thn named fun u s1 ⟨v, H1, I1, r1, ev, eH⟩ => ?_)
  subst ev
  subst eH
  obtain rfl : u = Value.ref f := r1
  have of1 : s1.heap.get? f = some (lamObj X params body scope pm c' ctv) := I1.base.keep f _ hf hfn hfr (fun z => nomatch (show f ∈ ([] : List Addr) from z))
  refine PySem.W.callWith_F0 ⟨_, _, _, _, of1⟩ ?_
  have un : Un (frs X.stack) [] H H1 s.heap s1.heap := I1.base
  obtain ⟨⟨oc, vs, t, g1, g2, g3⟩, _, _⟩ := I1.hok c' _ hc
  have ran : codeAny (model X.prog X.w) (X.A.deeper (envOfC qg sg s.heap.objs.size g cdg)) (.call (.ref f) ⟨[], []⟩) (CR (L2N.CX X.prog X.w) (envOfC qg sg s.heap.objs.size g cdg :: X.stack) X.prog X.w H1 s1 Q E) s1 := by
    refine PySem.W.kla_callFunE hr.depth of1 rfl L.co L.gen rfl ⟨c', oc, vs, t, rfl, g1, g2, g3⟩ ?_
    rw [hbind]
    refine wpAny_pure (wpAny_newFunctionEnv (fun y hy => (L.own y hy).2) (fun y hy => absurd hy (by simp)) (fun h₁ hns hsb => ⟨I1.nolimit.fresh _ hsb, ?_⟩) L.kind)
    show codeAny _ _ (.expr body (lamEnv X scope s1.heap.objs.size f c')) _ _
    have kp : ∀ b o, s1.heap.get? b = some o → h₁.get? b = some o := fun b o e => hsb.extBut b o (Nat.ne_of_lt (Heap.lt_size e)) (Heap.get?_push_of_some _ e)
    have J0 : Inv (lamCx X (X.A.deeper (envOfC qg sg s.heap.objs.size g cdg)) (envOfC qg sg s.heap.objs.size g cdg :: X.stack) s1 H1 noXK scope f c') [] σ H1 { s1 with heap := h₁, toks := s1.toks + ([] : List (Str × Value)).length } :=
      lam_start2 I L I1.env0 hr.hd un hns kp
    have J := J0.wish fun e s' => wpAny (model X.prog X.w) ((X.A.deeper (envOfC qg sg s.heap.objs.size g cdg)).deeper (lamEnv X scope s1.heap.objs.size f c')) (leaving (lamEnv X scope s1.heap.objs.size f c') e)
      (fun _ s'' => L2N.CX X.prog X.w (envOfC qg sg s.heap.objs.size g cdg :: X.stack) H1 s1 E e s'') (fun e' s'' => L2N.CX X.prog X.w (envOfC qg sg s.heap.objs.size g cdg :: X.stack) H1 s1 E e' s'') s'
    refine PySem.W.kla_codeExpr (wpAny_mono ((hbody _ _ s1 H1 E (hr.deeper _)).run [] _ _ H1 Q J ht) (fun v s' hq => ?_) fun e s' hq => hq)
    obtain ⟨w', H', J', rv, q⟩ := hq
    exact ⟨w', H', J'.os, J'.bare, J'.base, J'.hok, rv, q⟩
  refine wpAny_call (codeAny_mono ran fun o s' z => ?_)
  match o, z with
  | .ok (.ret u), z => exact I1.after z
  | .ok .next, z => exact z.elim
  | .ok .brk, z => exact z.elim
  | .ok .cont, z => exact z.elim
  | .error e, z => exact tk e s' (L2N.XE.of_call I1 hW z)
end
/-! ### the def that names the exception -/
def isF (exm : Nat → Nat → Option Bool) : Orc := fun d _ S => match d with
  | .clo j [.int i] => asO (exm j i.toNat) fun b => .ok (.bl b) S
  | _ => .st
def errT (T : Tab) : Tab := { fn := [], gl := [], ex := T.ex, blt := T.blt, pl := T.pl }
def chkLast (T : Tab) (N : List Str) (q : ScP) : St → Stmt → Bool
  | .ret (.mth .join (.cstr sep) (.cons il .nil)), a => (match a with
    | .Return (some (.Call (.Attribute l nm apos) [r] [] cpos)) _ => decide (nm = "join") && (apos.endLine == cpos.line) && notCall0 l && notStar r && chkE T N (.cstr sep) q l && chkLH T N q il r
    | _ => false)
  | _, _ => false
def chkHs (T : Tab) (N : List Str) (q : ScP) : Ss → List Stmt → Bool
  | .cons s .nil, [a] => chkLast T N q s a
  | .cons s r, a :: as => chkS T N s q a && chkHs T N q r as
  | _, _ => false
section
variable {Z : Ze} {T : Tab} {N : List Str} {F : Orc} {k : Nat} {X : Cx} {q : ScP} {W : WX} {XM : Nat → Nat → Option Bool} {HF : Nat → Nat → Option D} {p : Addr × Obj}
theorem sndLast (c : CokS Z T N F k X q W XM) (l : LmP Z X.K p) (h1 : Hot1 X.A p) (hp : p ∈ X.pn) {is : St} {a : Stmt} (h : chkLast T N q is a = true) : SS Z X W (G_ T) F XM HF is a := by
  unfold chkLast at h
  split at h
  · split at h
    · rename_i l0 nm apos r cpos pos
      simp only [Bool.and_eq_true] at h
      obtain ⟨⟨⟨⟨⟨a1, a2⟩, a3⟩, a4⟩, a5⟩, a6⟩ := h
      cases of_decide_eq_true a1
      have hs : ∀ b ∈ [r], notStar b = true := fun b hb => by rw [List.mem_singleton.mp hb]; exact a4
      exact sS_ret (mth_call (m := .join) rfl a2 a3 (by simp) (sndE _ c.toCok a5).e (sA_cons (sE_lcH c.toCok l h1 hp a6) sA_nil (star_cons a4)) hs) fun _ _ _ z => z
    · cases h
  · cases h
theorem sndHs (c : CokS Z T N F k X q W XM) (l : LmP Z X.K p) (h1 : Hot1 X.A p) (hp : p ∈ X.pn) : ∀ (is : Ss) {a : List Stmt}, chkHs T N q is a = true → SSs Z X W (G_ T) F XM HF is a
  | .nil, a, h => by simp [chkHs] at h
  | .cons s .nil, [], h => by simp [chkHs] at h
  | .cons s .nil, [a], h => by
    simp only [chkHs] at h
    exact sSs_cons (sndLast c l h1 hp h) sSs_nil
  | .cons s .nil, a :: b :: as, h => by simp [chkHs] at h
  | .cons s (.cons s2 r), [], h => by simp [chkHs] at h
  | .cons s (.cons s2 r), a :: as, h => by
    simp only [chkHs, Bool.and_eq_true] at h
    exact sSs_cons (sndS s c h.1) (sndHs c l h1 hp (.cons s2 r) h.2)
end
/-- what the head tells of the def that names the exception -/
structure ErrOk (Z : Ze) (T : Tab) (K : PySem.W.Frag) (mg : Str → Option Value) (exm : Nat → Nat → Option Bool) (err : Nat → Option D) (en : Str) (fe : Addr) : Prop where
  ex : ∃ (x qual : Str) (params : Arguments) (body : List Stmt) (scope : Scope) (fd : FuncData) (N : List Str) (p0 : Str) (iss : Ss), FunD K x qual params body scope [] [] fe fd ∧ FnScope N [p0] scope ∧ Binds K fd [p0] [] ∧
    chkHs (errT T) N { sc := scope, own := fun _ => true, hot := true } iss body = true ∧ ∀ kk d, err kk = some d → ∀ S, evSs (G_ (errT T)) (isF exm) (fun _ _ => none) (fun _ _ => none) iss (Rx.start N.length [.clo kk []]) S = .rt d S
  nm : mg en = some (.ref fe)
  kp : PySem.W.keepIn K (.ref fe) = true
  blt : ∀ x ∈ T.blt, mg x = none
  exs : ∀ (j : Nat) (x : Str), T.ex[j]? = some x → ∃ C, mg x = some (.ref C) ∧ Z.ec j = .ref C ∧ (T.pl j = true → Z.fld j = none ∧ PySem.W.excIn K C He.veBase "ValueError.__new__" = true ∧ PySem.W.keepIn K (.ref C) = true ∧
    PySem.W.subIn K (.ref C) (.type "BaseException") = some true ∧ PySem.W.typeIn K (.ref C) = some (.type "type"))
  isx : ∀ (j i : Nat) (b : Bool), exm j i = some b → ∀ x, T.ex[i]? = some x → ∃ C', mg x = some (.ref C') ∧ ∀ C, Z.ec j = .ref C → PySem.W.kitOne K (.ref C) (.ref C') = some b
  cls : ∀ kk d, err kk = some d → Z.fld kk = none ∧ (∃ w, d = .str w) ∧ ∃ C, Z.ec kk = .ref C ∧ ExcC K C
theorem err_run {Z : Ze} {T : Tab} {X : Cx} {exm : Nat → Nat → Option Bool} {err : Nat → Option D} {en : Str} {fe : Addr} {p : Addr × Obj} {kk k : Nat} {d : D} {w : Wd} {S : Store} {pins : List (Addr × Obj)} {σ : L2.St} {H : Hp} {s : Shared} {Q : VK}
    (E : ErrOk Z T X.K X.mg exm err en fe) (hr : RoomH (k + 1) X.A) (h1 : Hot1 X.A p) (hp : p ∈ X.pn) (I : Inv X pins σ H s) (sr : SR X.K Z.fa w H S) (hk : err kk = some d) (hc : p.2.cls = Z.ec kk) (hd : p.2.dict = none) (hv : ∃ vs, p.2.data = .fields vs)
    (hQ : ∀ v w' H', Ext w H w' H' → Rep X.K Z.fa w' H' v d → SR X.K Z.fa w' H' S → Q v H') : wpAny (model X.prog X.w) X.A (call (.ref fe) [.ref p.1]) (EP X pins σ Q) X.xe s := by
  obtain ⟨x, qual, params, body, scope, fd, N, p0, iss, hF, hS, hb, hck, hev⟩ := E.ex
  obtain ⟨hf, ⟨wd, rfl⟩, C, hC, hX⟩ := E.cls kk d hk
  let Z1 : Ze := { Z with lm := fun a j => a = p.1 ∧ j = kk }
  refine run_hot (us := [.ref p.1]) (vs := [.ref p.1]) hF hS hr hp hb I (.cons rfl .nil) rfl fun cdv hr' => ?_
  have l1 : LmP Z1 X.K p := fun a j ⟨e1, e2⟩ => ⟨e1, C, by rw [e2]; exact hC, hc.trans hC, hd, hv, hX⟩
  have h1' : Hot1 (cxN X N qual scope fe cdv s H p).A p := h1
  have hp' : p ∈ (cxN X N qual scope fe cdv s H p).pn := List.mem_singleton.mpr rfl
  have ck : CokS Z1 (errT T) N (isF exm) 0 (cxN X N qual scope fe cdv s H p) { sc := scope, own := fun _ => true, hot := true } WF (fun _ _ => none) := {
    wk := {
      fns := fun f q h => by cases h
      gls := fun g q h => by cases h
      blt := E.blt
      out := fun _ _ _ _ => rfl
      exs := E.exs
      isx := fun j i S => by
        show asO (exm j i) (fun b => R.ok (D.bl b) S) = .st ∨ ∃ b, asO (exm j i) (fun b => R.ok (D.bl b) S) = .ok (.bl b) S ∧ _
        cases z : exm j i with
        | none => exact .inl rfl
        | some b => exact .inr ⟨b, rfl, E.isx j i b z⟩
      exv := fun j x fl _ z => by cases z }
    room2 := fun z => Bool.noConfusion (show true = false from z)
    stk := fun z => Bool.noConfusion (show true = false from z)
    xm := fun j i b z => by cases z
    calm := fun z => Bool.noConfusion (show true = false from z)
    room := fun z => Bool.noConfusion (show true = false from z)
    un := by
      have hu := hr'.un
      show (X.A.deeper (envOfC qual scope s.heap.objs.size fe cdv)).units + 200 < cLine
      omega
    tk := fun z => Bool.noConfusion (show true = false from z)
    exn := fun a j h => ⟨rfl, LmP.exn (X := cxN X N qual scope fe cdv s H p) l1 (fun pins σ H s I => (I.pin p (List.mem_append_left _ hp')).1) a j h⟩
    sc := rfl
    kind := hS.kind
    hN := rfl
    nd := hS.nd
    own := fun _ _ => rfl
    rf := fun z => Bool.noConfusion (show false = true from z)
    pass := passes_of rfl }
  refine ⟨_, sndHs (XM := fun _ _ => none) (HF := fun _ _ => none) ck l1 h1' hp' iss hck, w, Rx.start N.length [.clo kk []], S, ⟨ER.start (.cons (.clo ⟨rfl, rfl⟩) .nil) N.length N rfl, sr⟩, ?_⟩
  rw [hev kk _ hk S]
  intro v w' H' x' r s'
  cases r with
  | of r => exact hQ v w' H' x' r s'
/-! ### the def that tells how a call is refused -/
/-- where lambdas are made: the code object, its table -/
def LamAt (Z : Ze) (X : Cx) : Prop := ∃ c P, X.env.code = .ref c ∧ LamX.TabB X.base X.mg c P ∧ (P, X.env.qual ++ "<lambda>") ∈ Z.fa.tb ∧ ∀ p ∈ Z.fa.tb, p.1 = P → p.2 = X.env.qual ++ "<lambda>"
/-- try: a() / except en as n: return er(n) / return "" -/
def RefBody (a n en er : Str) (body : List Stmt) : Prop := ∃ (p1 p2 p3 p4 p5 p6 p7 p8 p9 p10 p11 p12 : Pos) (j : Nat),
  body = [.Try [.Expr (.Call (.Name a p1) [] [] p2) p3] [.ExceptHandler (some (.Name en p4)) (some n) [.Return (some (.Call (.Name er p5) [.Name n p6] [] p7)) p8] p9] [] [] p10, .Return (some (.Constant (.str ⟨#[]⟩) j p11)) p12]
def refNm (sg : Scope) (a n en er : Str) : Bool :=
  okN a && okN n && okN en && okN er && (decide (sg.names.lookup a = some .local)) && decide (sg.names.lookup n = some .local) && decide (sg.names.lookup en = some .globalImplicit) && decide (sg.names.lookup er = some .globalImplicit)
structure RefOk (Z : Ze) (T : Tab) (K : PySem.W.Frag) (mg : Str → Option Value) (exm : Nat → Nat → Option Bool) (err : Nat → Option D) (F : Orc) : Prop where
  ex : ∃ (g fe CS : Addr) (x qual : Str) (params : Arguments) (body : List Stmt) (sg : Scope) (fd : FuncData) (a n en er : Str), mg T.rfn = some (.ref g) ∧ okN T.rfn = true ∧ FunD K x qual params body sg [] [] g fd ∧ FnScope [a, n] [a] sg ∧ Binds K fd [a] [] ∧ RefBody a n en er body ∧ refNm sg a n en er = true ∧
    mg en = some (.ref CS) ∧ ErrOk Z T K mg exm err er fe ∧ ∀ kk d, err kk = some d → PySem.W.exmOne K (Z.ec kk) (.ref CS) = some true
  orc : ∀ kk pd S, F (.clo kk []) [pd] S = .st ∨ ∃ d, err kk = some d ∧ F (.clo kk []) [pd] S = .ok d S
theorem ext_lam {w : Wd} {H H1 : Hp} (eN : LamX.ExtN H H1) (hT : LamX.Tabs w.tb H1) : Ext w H w H1 := by
  refine ⟨⟨[], by simp, by simp⟩, fun _ h => h, fun _ h => .inl h, fun a h o q => ?_, fun a _ h => eN a _ h (fun _ z => by cases z), fun a _ _ h => eN a _ h (fun _ z => by cases z), fun a _ h => eN a _ h (fun _ z => by cases z), fun a _ h _ => eN a _ h (fun _ z => by cases z), rfl, fun P q m _ => hT (P, q) m⟩
  by_cases z : ∃ ps, o = .tbl ps
  · exact z
  · exact h o (eN a o q fun ps e => z ⟨ps, e⟩)
theorem sr_lam {K : PySem.W.Frag} {fa : Fa} {w : Wd} {H H1 : Hp} {S : Store} (s : SR K fa w H S) (eN : LamX.ExtN H H1) (hT : LamX.Tabs w.tb H1) : SR K fa w H1 S := by
  refine ⟨s.len, s.nd, fun a ha => ?_, ⟨s.tab.1, hT⟩, fun l u a h1 h2 => ?_⟩
  · obtain ⟨xs, h⟩ := s.trk a ha
    exact ⟨xs, eN a _ h fun _ z => by cases z⟩
  · cases s.at_ l u a h1 h2 with
    | lst h r => exact .lst (eN a _ h fun _ z => by cases z) (r.ext (ext_lam eN hT))
theorem roomH_suite {k : Nat} {A : Around} {v : Option Value} (r : Room k A) : RoomH k (A.mark v) := ⟨r.dp, r.un⟩
theorem hot_suite {A : Around} {a : Addr} {oe : Obj} {cls : Value} {d : Option Addr} (hz : L2N.Zn cls d oe) (hv : ∃ vs, oe.data = .fields vs) : Hot1 (A.mark (some (.ref a))) (a, oe) := by
  obtain ⟨vs, hv⟩ := hv
  exact ⟨rfl, vs, hv, hz.2.2 vs hv⟩
theorem rfR_of {Z : Ze} {T : Tab} {F : Orc} {k : Nat} {X : Cx} {W : WX} {exm : Nat → Nat → Option Bool} {err : Nat → Option D} (hroom : Room (k + 2) X.A) (hl : LamAt Z X) (hR : RefOk Z T X.K X.mg exm err F) : RfR Z T F k X W := by
  refine ⟨fun g0 ib params body scope p lpos pos L hp hg hbody => ⟨fun pins s σ H Q I h => ?_⟩⟩
  obtain ⟨w, e, S, st, f⟩ := h
  have f : Fin Z X.K W (relE Z X.K) σ w H ((evE (G_ T) F ib e S).refu F) Q := f
  obtain ⟨g, fe, CS, x, qual, gparams, gbody, sg, fd, a, n, en, er, m1, m2, hF, hS, hb, hB, hn, m3, hE, hx⟩ := hR.ex
  obtain ⟨c, P, l1, l2, l3, l4⟩ := hl
  obtain ⟨oc, od, dV, kV, doc, pm, an, cdv, ct, osl, rfl, lk, hcd, _, _⟩ := hF.ex
  obtain ⟨p1, p2, p3, p4, p5, p6, p7, p8, p9, p10, p11, p12, j, rfl⟩ := hB
  unfold refNm at hn
  simp only [Bool.and_eq_true] at hn
  obtain ⟨⟨⟨⟨⟨⟨⟨n1, n2⟩, n3⟩, n4⟩, n5⟩, n6⟩, n7⟩, n8⟩ := hn
  have htb := st.sr.tab
  have g7 : sg.names.lookup en = some .globalImplicit := of_decide_eq_true n7
  have g8 : sg.names.lookup er = some .globalImplicit := of_decide_eq_true n8
  have hdef : defaultsOf params X.env = ([], []) := by
    unfold noPar at hp
    split at hp
    · rfl
    · cases hp
  have hbind : ∀ (q : Str) (cl : List (Str × Addr)) (pm cv ctv : Value), bindArgs (PySem.W.kla_fn "<lambda>" q params body scope cl pm cv ctv) ⟨[], []⟩ = pure [] := by
    unfold noPar at hp
    split at hp
    · intros; rfl
    · cases hp
  refine wpAny_Call_Name_kw (ld_glob I hg m1 ?_ (okN_d m2).1)
  refine PySem.W.callWith_K (h₀ := X.base) I.ok.mod.kin hF.kp ?_ (by rfl) (by rfl)
  show wpAny _ _ (spliced ((false, eval (.Lambda params body scope lpos) X.env) :: backTo pos (starEach [] X.env))) _ _ s
  refine Calls.spliced_cons (LamX.lam_make2 (T := Z.fa.tb) I l2 l1 l3 l4 (by rw [← htb.1]; exact htb.2) hdef (L.has I.ok) fun f' c' pm' ctv H1 s' I1 eN T1 hf hfn hfr hco => ?_)
  refine Calls.spliced_nil ⟨I1.kIn, ?_⟩
  have x1 : Ext w H w H1 := ext_lam eN (by rw [htb.1]; exact T1)
  let D' : Ends := { nx := fun _ H' => Q (.str ⟨#[]⟩) H', rt := Q }
  let ts : Addr → Value → Option Addr → TS := fun a0 cls d => fun D τ HZ => τ[1]? = some (some (.ref a0)) ∧ ∃ w S kk dd, SR X.K Z.fa w HZ S ∧ cls = Z.ec kk ∧ d = none ∧ err kk = some dd ∧ ∀ v w' H', Ext w HZ w' H' → Rep X.K Z.fa w' H' v dd → SR X.K Z.fa w' H' S → D.rt v H'
  let tb : WX → TS := fun W' D τ HZ => τ[0]? = some (some (.ref f')) ∧ HZ c' = some (LamX.CodeO c' (X.env.qual ++ "<lambda>")) ∧ ∃ E : XK, (∀ cls d H', E cls d H' → W' cls d τ H') ∧ tE Z X.K (fun c d _ H => E c d H) (evE (G_ T) F ib) σ HZ (fun _ H' => D.nx τ H')
  have ran : codeAny (model X.prog X.w) X.A (.call (.ref g) ⟨[.ref f'], []⟩) (CR noCX X.stack X.prog X.w H1 s' Q noXK) s' := by
    refine LamX.run_ofS (N := [a, n]) (ps := [a]) (us := [.ref f']) (vs := [.ref f']) lk hcd hS hroom I1.env0 (hb s' [.ref f'] I1.kIn rfl) (.cons rfl .nil) rfl fun hr' => ?_
    refine ⟨_, pss_cons (L2N.ps_try_as (i := 1) (c := .ref CS) (tb := tb) (ts := ts) (Wout := WF) rfl rfl hS.nd rfl (of_decide_eq_true n6) ⟨g7, (okN_d n3).1, .inl m3⟩ takesN0 (fun W' pn xe tk _ => ?_) fun a0 oe cls d pn hz hv => ?_) (pss_one (ps_ret pe_str)), ?_⟩
    · have hp := pe_actN (p1 := p1) (p2 := p2) (tb := fun E => tE Z X.K (fun c d _ H => E c d H) (evE (G_ T) F ib)) (i := 0) I1 L hf hfn hfr (hbind _ _ _ _ _) tk hr' (fun A outer s1 H2 E hr2 => hbody A outer s1 H2 E f' c' hr2) rfl (.inl (of_decide_eq_true n5)) (okN_d n1).1 (okN_d n1).2.1
      exact (pss_one (ps_expr (pos := p3) hp)).imp fun D τ HZ z => z
    · refine (pss_one (ps_ret (pos := p8) (te := fun τ HZ Q => τ[1]? = some (some (V.ref a0)) ∧ ∃ w S kk dd, SR X.K Z.fa w HZ S ∧ cls = Z.ec kk ∧ d = none ∧ err kk = some dd ∧ ∀ v w' H', Ext w HZ w' H' → Rep X.K Z.fa w' H' v dd → SR X.K Z.fa w' H' S → Q v H') ⟨fun pinsZ sZ τ HZ QZ IZ z => ?_⟩)).imp fun D τ HZ z => z
      obtain ⟨z1, wZ, SZ, kk, dd, sr, z2, z3, z4, z5⟩ := z
      refine wpAny_Call_Name_kw (ld_glob IZ g8 hE.nm ?_ (okN_d n4).1)
      have ha := (pa_cons (pe_var (pos := p6) (i := 1) rfl (.inl (of_decide_eq_true n6)) (okN_d n2).1 (okN_d n2).2.1) pa_nil rfl).run p7 pinsZ sZ τ HZ (fun vs H2 => vs = [.ref a0] ∧ H2 = HZ) IZ ⟨_, z1, rfl, rfl⟩
      refine PySem.W.callWith_K (h₀ := X.base) IZ.ok.mod.kin hE.kp (thn ha fun us s2 ⟨vs, H2, I2, r2, e1, e2⟩ => ⟨I2.kIn, ?_⟩) rfl rfl
      subst e1
      subst e2
      cases r2 with
      | cons r r' =>
        cases r'
        cases r
        exact err_run (p := (a0, oe)) hE (roomH_suite hr') (hot_suite hz hv) (by simp) I2 sr z4 (hz.1.trans z2) (hz.2.1.trans z3) hv z5
    · refine ⟨rfl, hco, fun cls d H' => wAs X.K (.ref CS) 1 ts WF D' cls d (L2.start [a, n] [.ref f']) H', fun _ _ _ z => z, w, e, S, st.ext x1 (sr_lam st.sr eN (by rw [htb.1]; exact T1)), ?_⟩
      cases r : evE (G_ T) F ib e S with
      | st => rw [r] at f; exact f
      | ok d0 S1 =>
        rw [r] at f
        exact fun v w' H' x' _ s' => f (.str ⟨#[]⟩) w' H' (x1.trans x') (.of (.str (by decide) (by simp))) s'
      | ex kk pd S1 =>
        rw [r] at f
        have f : Fin Z X.K W (relE Z X.K) σ w H (F (.clo kk []) [pd] S1) Q := f
        rcases hR.orc kk pd S1 with z | ⟨dd, z1, z⟩
        · rw [z] at f
          exact False.elim f
        · rw [z] at f
          intro cls dd' w' H' x' xr s'
          obtain ⟨c1, c2⟩ := xr
          rw [(hE.cls kk dd z1).1] at c2
          exact ⟨true, by rw [c1]; exact hx kk dd z1, fun _ a0 _ => ⟨rfl, w', S1, kk, dd, s', c1, c2.2, z1, fun v w2 H2 x2 r2 s2 => f v w2 H2 (x1.trans (x'.trans x2)) (.of r2) s2⟩, fun z => Bool.noConfusion z⟩
  refine wpAny_call (codeAny_mono ran fun o s2 z => ?_)
  match o, z with
  | .ok (.ret u), z => exact I1.after z
  | .ok .next, z => exact z.elim
  | .ok .brk, z => exact z.elim
  | .ok .cont, z => exact z.elim
  | .error e, z => exact z.elim
end Rx
set_option Elab.async false
set_option linter.all false
set_option maxRecDepth 100000
set_option maxHeartbeats 2000000
/-! Rx14: defs keep what their forms promise. -/
namespace Rx
open PySem PySem.Spec PyProof.Rows L2 TL RZ
/-! ### the store cut back -/
section
variable {Z : Ze} {K : PySem.W.Frag} {w w1 : Wd} {H H1 : Hp} {n : Nat}
/-- the world behind a call: what the callee laid in the store is named no more -/
def Wd.back (w w1 : Wd) : Wd := ⟨w.rho, w1.rho.drop w.rho.length ++ w1.old, w1.tb⟩
theorem back_mem {more : List Addr} (e : w1.rho = w.rho ++ more) {a : Addr} : a ∈ (w.back w1).res ↔ a ∈ w1.res := by
  unfold Wd.back Wd.res
  rw [e, List.drop_left]
  simp
theorem low_all {k : Nat} {w' w1 : Wd} (f : ∀ (v : V) (d : D), Rep K Z.fa w1 H1 v d → lowD n k d = true → Rep K Z.fa w' H1 v d) : ∀ {vs : List V} {ds : List D}, Reps K Z.fa w1 H1 vs ds → ds.all (lowD n k) = true → Reps K Z.fa w' H1 vs ds
  | _, _, .nil, _ => .nil
  | _, _, .cons r t, h => by
    rw [List.all_cons, Bool.and_eq_true] at h
    exact .cons (f _ _ r h.1) (low_all f t h.2)
theorem low_rep {w' w1 : Wd} (hr : ∀ l, l < n → w'.rho[l]? = w1.rho[l]?) (hs : ∀ a ∈ w'.res, a ∈ w1.res) : ∀ (k : Nat) (v : V) (d : D), Rep K Z.fa w1 H1 v d → lowD n k d = true → Rep K Z.fa w' H1 v d := by
  intro k
  induction k with
  | zero =>
    intro v d r h
    cases r with
    | non => exact .non
    | bl b => exact .bl b
    | int i => exact .int i
    | str a b => exact .str a b
    | fn f => exact .fn f
    | scr a => exact .scr (a.fewer hs)
    | ref q =>
      rename_i l
      have hl : l < n := of_decide_eq_true (by simpa [lowD] using h)
      exact .ref (by rw [hr l hl]; exact q)
    | tup _ _ => simp [lowD] at h
    | lst _ _ _ => simp [lowD] at h
  | succ k ih =>
    intro v d r h
    cases r with
    | non => exact .non
    | bl b => exact .bl b
    | int i => exact .int i
    | str a b => exact .str a b
    | fn f => exact .fn f
    | scr a => exact .scr (a.fewer hs)
    | ref q =>
      rename_i l
      have hl : l < n := of_decide_eq_true (by simpa [lowD] using h)
      exact .ref (by rw [hr l hl]; exact q)
    | tup q r =>
      simp only [lowD] at h
      exact .tup q (low_all ih r h)
    | lst q m r =>
      simp only [lowD] at h
      exact .lst q (fun z => m (hs _ z)) (low_all ih r h)
theorem Ext.toBack (x : Ext w H w1 H1) : Ext w H (w.back w1) H1 := by
  obtain ⟨more, e, hm⟩ := x.rho
  refine ⟨⟨[], by simp [Wd.back], by simp⟩, fun a h => (back_mem e).mpr (x.sub a h), fun a h => x.new a ((back_mem e).mp h), x.trk, x.tups, x.frzs, x.exts, x.lsts, x.tb, x.tabs⟩
theorem SR.back {S S1 : Store} (s : SR K Z.fa w H S) (x : Ext w H w1 H1) (s1 : SR K Z.fa w1 H1 S1) (h : (S1.take S.length).all (lowO S.length 12) = true) : SR K Z.fa (w.back w1) H1 (S1.take S.length) := by
  obtain ⟨more, e, hm⟩ := x.rho
  have hl1 : S1.length = w.rho.length + more.length := by rw [s1.len, e, List.length_append]
  have hr : ∀ l, l < S.length → (w.back w1).rho[l]? = w1.rho[l]? := fun l hl => by
    show w.rho[l]? = w1.rho[l]?
    rw [e, List.getElem?_append_left (by rw [← s.len]; exact hl)]
  refine ⟨?_, ?_, fun a ha => s1.trk a ((back_mem e).mp ha), s1.tab, fun l o a h1 h2 => ?_⟩
  · show (S1.take S.length).length = w.rho.length
    rw [List.length_take, hl1, s.len]
    omega
  · exact s.nd
  · have hlt : l < S.length := by
      have q := (List.getElem?_eq_some_iff.mp h1).1
      rw [List.length_take] at q
      omega
    have g1 : S1[l]? = some o := by
      rw [List.getElem?_take_of_lt hlt] at h1
      exact h1
    have g2 : w1.rho[l]? = some a := by
      rw [← hr l hlt]
      exact h2
    have ho : lowO S.length 12 o = true := List.all_eq_true.mp h o (List.mem_of_getElem? h1)
    cases s1.at_ l o a g1 g2 with
    | lst q r => exact .lst q (low_all (low_rep hr (fun b hb => (back_mem e).mp hb) 12) r ho)
theorem fin_fn {cut : Bool} {r : FR} {σ : L2.St} {S : Store} {Q : VK} {E : XK} (s : SR K Z.fa w H S) (f : Fin Z K (fun c d _ H => E c d H) (relE Z K) σ w H (ofFR cut S.length r) Q) :
    FinS Z K (fun c d _ H => E c d H) w H r { nx := fun _ H' => Q .non H', rt := Q } := by
  have rb : ∀ {w1 : Wd} {H1 : Hp} {S1 : Store} {v : V} {d : D}, Ext w H w1 H1 → Rep K Z.fa w1 H1 v d → lowD S.length 12 d = true → Rep K Z.fa (w.back w1) H1 v d := fun {w1 H1 S1 v d} x r h => by
    obtain ⟨more, e, hm⟩ := x.rho
    refine low_rep (fun l hl => ?_) (fun b hb => (back_mem e).mp hb) 12 v d r h
    show w.rho[l]? = w1.rho[l]?
    rw [e, List.getElem?_append_left (by rw [← s.len]; exact hl)]
  have key : ∀ {d : D} {S1 : Store}, Fin Z K (fun c d _ H => E c d H) (relE Z K) σ w H (cutR cut S.length d S1) Q → ∀ v w1 H1, Ext w H w1 H1 → RepC K Z.fa Z.lm w1 H1 v d → SR K Z.fa w1 H1 S1 → Q v H1 := fun {d S1} f v w1 H1 x r s1 => by
    unfold cutR at f
    cases cut with
    | true =>
      simp only [if_true] at f
      split at f
      · rename_i hl
        rw [Bool.and_eq_true] at hl
        have rr : Rep K Z.fa w1 H1 v d := by
          cases r with
          | of r => exact r
          | clo _ => simp [lowD] at hl
        exact f v (w.back w1) H1 x.toBack (.of (rb (S1 := S1) x rr hl.1)) (s.back x s1 hl.2)
      · exact False.elim f
    | false =>
      simp only [Bool.false_eq_true, if_false] at f
      split at f
      · exact f v w1 H1 x r s1
      · exact False.elim f
  cases r with
  | nx e S1 => exact fun σ' w1 H1 x _ s1 => key (d := .non) f .non w1 H1 x (.of .non) s1
  | rt d S1 => exact fun v w1 H1 x r s1 => key f v w1 H1 x r s1
  | bk e S1 => exact False.elim f
  | ct e S1 => exact False.elim f
  | st => exact False.elim f
  | ex k p e S1 =>
    intro cls dd σ' w1 H1 x _ xr s1
    cases cut with
    | false => exact f cls dd w1 H1 x xr s1
    | true =>
      unfold ofFR at f
      simp only [if_true] at f
      split at f
      · rename_i hl
        rw [Bool.and_eq_true] at hl
        refine f cls dd (w.back w1) H1 x.toBack ?_ (s.back x s1 hl.2)
        obtain ⟨h1, h2⟩ := xr
        refine ⟨h1, ?_⟩
        cases hf : Z.fld k with
        | none => rw [hf] at h2; exact h2
        | some fl =>
          rw [hf] at h2
          obtain ⟨dx, v, g1, g2, g3⟩ := h2
          exact ⟨dx, v, g1, g2, rb (S1 := S1) x g3 hl.1⟩
      · exact False.elim f
end
/-! ### defs -/
/-- one def of the text: what the head tells of it, its form, the check -/
structure DefX (Z : Ze) (T : Tab) (pg : Pg) (K : PySem.W.Frag) (mg : Str → Option Value) (base : Heap) (f : Nat) (np : Nat) (x qual : Str) (params : Arguments) (body : List Stmt) (scope : Scope) (fd : FuncData) (N : List Str) (d : Fn) (rf : Bool) : Prop where
  fu : FunD K x qual params body scope [] [] (Z.fa f) fd
  at_ : pg.fns[f]? = some d
  slots : N.length = d.slots
  np : np = d.params
  len : (N.take d.params).length = d.params
  sc : FnScope N (N.take d.params) scope
  chk : chkSs T N d.body { sc := scope, own := fun _ => true, rf := rf } body = true
  bind : Binds K fd (N.take d.params) []
  lam : rf = true → ∃ c P, fd.code = .ref c ∧ LamX.TabB base mg c P ∧ (P, (envOfC qual scope 0 0 fd.code).qual ++ "<lambda>") ∈ Z.fa.tb ∧ ∀ p ∈ Z.fa.tb, p.1 = P → p.2 = (envOfC qual scope 0 0 fd.code).qual ++ "<lambda>"
structure DefOk (Z : Ze) (T : Tab) (pg : Pg) (K : PySem.W.Frag) (mg : Str → Option Value) (base : Heap) (f : Nat) (p : Str × Nat) : Prop where
  ex : ∃ (x qual : Str) (params : Arguments) (body : List Stmt) (scope : Scope) (fd : FuncData) (N : List Str) (d : Fn) (rf : Bool), DefX Z T pg K mg base f p.2 x qual params body scope fd N d rf
/-- what the head tells of the text's world -/
structure Txt0 (Z : Ze) (T : Tab) (pg : Pg) (K : PySem.W.Frag) (mg : Str → Option Value) (base : Heap) : Prop where
  nm : ∀ (f : Nat) (p : Str × Nat), T.fn[f]? = some p → mg p.1 = some (.ref (Z.fa f))
  df : ∀ (f : Nat) (p : Str × Nat), T.fn[f]? = some p → DefOk Z T pg K mg base f p
  gls : ∀ (g : Nat) (p : Str × D), T.gl[g]? = some p → ∃ v u, mg p.1 = some u ∧ RelV v u ∧ ∀ w H, Rep K Z.fa w H v p.2
  blt : ∀ x ∈ T.blt, mg x = none
  out : ∀ f : Nat, T.fn[f]? = none → pg.fns[f]? = none
  gl : pg.gl = G_ T
  exs : ∀ (j : Nat) (x : Str), T.ex[j]? = some x → ∃ C, mg x = some (.ref C) ∧ Z.ec j = .ref C ∧ (T.pl j = true → Z.fld j = none ∧ PySem.W.excIn K C He.veBase "ValueError.__new__" = true ∧ PySem.W.keepIn K (.ref C) = true ∧
    PySem.W.subIn K (.ref C) (.type "BaseException") = some true ∧ PySem.W.typeIn K (.ref C) = some (.type "type"))
  isx : ∀ (j i : Nat) (b : Bool), pg.exm j i = some b → ∀ x, T.ex[i]? = some x → ∃ C', mg x = some (.ref C') ∧ ∀ C, Z.ec j = .ref C → PySem.W.kitOne K (.ref C) (.ref C') = some b
  nolm : ∀ a j, ¬ Z.lm a j
  xm : ∀ (j i : Nat) (b : Bool), pg.exm j i = some b → ∀ x, T.ex[i]? = some x → ∃ C', mg x = some (.ref C') ∧ PySem.W.exmOne K (Z.ec j) (.ref C') = some b
  ref : ∀ F : Orc, (∀ kk pd S, F (.clo kk []) [pd] S = .st ∨ ∃ d, pg.err kk = some d ∧ F (.clo kk []) [pd] S = .ok d S) → RefOk Z T K mg pg.exm pg.err F
section
variable {Z : Ze} {T : Tab} {pg : Pg} {P : Program} {w : World} {K : PySem.W.Frag} {mg : Str → Option Value} {base : Heap}
/-- all defs at a level -/
def Lvl (Z : Ze) (T : Tab) (pg : Pg) (P : Program) (w : World) (K : PySem.W.Frag) (mg : Str → Option Value) (base : Heap) (n : Nat) : Prop :=
  ∀ (f : Nat) (p : Str × Nat), T.fn[f]? = some p → (∃ fd ps, ps.length = p.2 ∧ FnOk P w K mg base (L2N.CX P w) (3 * n) (Z.fa f) fd ps (spF Z K (run pg n) p.2 f) ∧ Binds K fd ps []) ∧ PySem.W.keepIn K (.ref (Z.fa f)) = true
theorem run_out (t : Txt0 Z T pg K mg base) : ∀ (n f : Nat) (ds : List D) (S : Store), (∀ p : Str × Nat, T.fn[f]? = some p → p.2 ≠ ds.length) → run pg n (.fn f) ds S = .st := by
  intro n f ds S h
  cases n with
  | zero => rfl
  | succ n =>
    show (match pg.fns[f]? with
      | some d => if ds.length = d.params then ofFR d.cut S.length (evSs pg.gl (run pg n) pg.exm pg.hot d.body (Rx.start d.slots ds) S) else .st
      | none => .st) = .st
    cases q : T.fn[f]? with
    | none => rw [t.out f q]
    | some p =>
      obtain ⟨x, qual, params, body, scope, fd, N, d, _, D⟩ := (t.df f p q).ex
      have h1 := D.at_
      have h2 := D.np
      rw [h1]
      have := h p q
      rw [h2] at this
      exact if_neg fun z => this z.symm
theorem run_isx (t : Txt0 Z T pg K mg base) : ∀ (n j i : Nat) (S : Store), run pg n (.clo j [.int i]) [] S = .st ∨ ∃ b, run pg n (.clo j [.int i]) [] S = .ok (.bl b) S ∧ ∀ x, T.ex[i]? = some x → ∃ C', mg x = some (.ref C') ∧ ∀ C, Z.ec j = .ref C → PySem.W.kitOne K (.ref C) (.ref C') = some b := by
  intro n j i S
  cases n with
  | zero => exact .inl rfl
  | succ n =>
    have e : run pg (n + 1) (.clo j [.int i]) [] S = asO (pg.exm j i) fun b => .ok (.bl b) S := rfl
    rw [e]
    cases q : pg.exm j i with
    | none => exact .inl rfl
    | some b => exact .inr ⟨b, rfl, t.isx j i b q⟩
theorem run_err : ∀ (n kk : Nat) (pd : D) (S : Store), run pg n (.clo kk []) [pd] S = .st ∨ ∃ d, pg.err kk = some d ∧ run pg n (.clo kk []) [pd] S = .ok d S := by
  intro n kk pd S
  cases n with
  | zero => exact .inl rfl
  | succ n =>
    have e : run pg (n + 1) (.clo kk []) [pd] S = asO (pg.err kk) fun d => .ok d S := rfl
    rw [e]
    cases q : pg.err kk with
    | none => exact .inl rfl
    | some d => exact .inr ⟨d, rfl, rfl⟩
theorem fn_lvl {n f : Nat} {p : Str × Nat} {x qual : Str} {params : Arguments} {body : List Stmt} {scope : Scope} {fd : FuncData} {N : List Str} {d : Fn} {rf : Bool} (t : Txt0 Z T pg K mg base) (tv : ∀ (j : Nat) (x fl : Str), T.ex[j]? = some x → T.vf j = some fl → ExV P w K mg base Z j x fl) (ih : Lvl Z T pg P w K mg base n) (D : DefX Z T pg K mg base f p.2 x qual params body scope fd N d rf) :
    FnOk P w K mg base (L2N.CX P w) (3 * n + 2 + 1) (Z.fa f) fd (N.take d.params) (spF Z K (run pg (n + 1)) p.2 f) := by
  obtain ⟨hF, h1, h2, h3, h4, h5, h6, h7, h8⟩ := D
  obtain ⟨oc, od, dV, kV, doc, pm, an, cdv, ct, osl, rfl, lk, hcd, _, _⟩ := hF.ex
  refine fn_of lk hcd h5 (fun vs H Q E h => by rw [h4, ← h3]; exact h.1) fun A outer s H vs Q E hr h => ?_
  obtain ⟨hl, w0, ds, S, rr, sr, f0⟩ := h
  have f0 : Fin Z K (fun c d _ H => E c d H) (relE Z K) [] w0 H (match pg.fns[f]? with
    | some d => if ds.length = d.params then ofFR d.cut S.length (evSs pg.gl (run pg n) pg.exm pg.hot d.body (Rx.start d.slots ds) S) else .st
    | none => .st) Q := f0
  rw [h1] at f0
  have hd : ds.length = d.params := by rw [← rr.len, hl, h3]
  simp only [if_pos hd] at f0
  rw [t.gl] at f0
  let X := cxOf (L2N.CX P w) P w K mg base N qual scope (Z.fa f) cdv A outer s H E
  have ck : CokS Z T N (run pg n) (3 * n) X { sc := scope, own := fun _ => true, rf := rf } (fun c d _ H => E c d H) pg.exm := {
    wk := ⟨fun f p hp => ⟨t.nm f p hp, ⟨(ih f p hp).1, (ih f p hp).2⟩⟩, t.gls, t.blt, run_out t n, t.exs, run_isx t n, tv⟩
    room2 := fun _ => hr.mono (by omega)
    stk := fun _ => ⟨rfl, rfl⟩
    xm := t.xm
    calm := fun _ => rfl
    room := fun _ => hr.mono (by omega)
    un := by
      have hu : X.A.units + 16 * (3 * n + 2) + 200 < cLine := hr.un
      omega
    tk := fun _ => L2N.takes_of rfl rfl rfl rfl
    exn := fun a j h => absurd h (t.nolm a j)
    sc := rfl
    kind := h5.kind
    hN := rfl
    nd := h5.nd
    own := fun _ _ => rfl
    rf := fun hrf => rfR_of hr (h8 hrf) (t.ref _ (run_err n))
    pass := passes_of rfl }
  exact ⟨_, sndSs d.body ck h6, w0, Rx.start d.slots ds, S, ⟨ER.start rr d.slots N h2, sr⟩, fin_fn sr f0⟩
theorem lvl_ok (t : Txt0 Z T pg K mg base) (tv : ∀ (j : Nat) (x fl : Str), T.ex[j]? = some x → T.vf j = some fl → ExV P w K mg base Z j x fl) : ∀ n, Lvl Z T pg P w K mg base n := by
  intro n
  induction n with
  | zero =>
    intro f p hp
    obtain ⟨x, qual, params, body, scope, fd, N, d, rf, D⟩ := (t.df f p hp).ex
    refine ⟨⟨fd, N.take d.params, by rw [D.len, D.np], ⟨fun vs H Q E h => by rw [D.len, ← D.np]; exact h.1, fun A outer s H args us vs Q E _ _ _ _ h => ?_⟩, D.bind⟩, D.fu.kp⟩
    obtain ⟨_, w0, ds, S, _, _, f0⟩ := h
    exact False.elim f0
  | succ n ih =>
    intro f p hp
    obtain ⟨x, qual, params, body, scope, fd, N, d, rf, D⟩ := (t.df f p hp).ex
    exact ⟨⟨fd, N.take d.params, by rw [D.len, D.np], fn_lvl t tv ih D, D.bind⟩, D.fu.kp⟩
end
end Rx
set_option Elab.async false
set_option linter.all false
set_option maxRecDepth 100000
set_option maxHeartbeats 2000000
/-! Rx22: what the head must tell of such a class. -/
namespace Rx
open PySem PySem.Spec PyProof.Rows L2 TL RZ
def oexB (K : PySem.W.Frag) (C : Addr) : Bool := (match K.lookup C with
    | some ⟨.type "type", _, .cls cd, sl⟩ => (match cd.mro, sl.toList with
      | .ref C' :: bm, [_, _, _, _, some (.builtin n), _] => C' == C && n == "ValueError.__new__" && !cd.hasDel && cd.hasDict && PySem.HandSPX.refsVE bm
      | _, _ => false)
    | _ => false) && He.eqO (PySem.W.findIn K (.ref C) "__setattr__") (some (some (.builtin "object.__setattr__"))) && decide (PySem.W.subIn K (.ref C) (.type "BaseException") = some true) && (PySem.W.typeIn K (.ref C) == some (.type "type")) && PySem.W.keepIn K (.ref C)
theorem oexB_ok {K : PySem.W.Frag} {C : Addr} (h : oexB K C = true) : OexC K C := by
  unfold oexB at h
  simp only [Bool.and_eq_true] at h
  obtain ⟨⟨⟨⟨h1, h2⟩, h3⟩, h4⟩, h5⟩ := h
  refine ⟨?_, He.eqO_ok h2, of_decide_eq_true h3, by simpa using h4, h5⟩
  split at h1
  · rename_i dd cd sl ho
    split at h1
    · rename_i C' bm k0 k1 k2 k3 n k5 hm hs
      simp only [Bool.and_eq_true, beq_iff_eq, Bool.not_eq_true'] at h1
      obtain ⟨⟨⟨⟨rfl, rfl⟩, hdel⟩, hdict⟩, hve⟩ := h1
      obtain ⟨nm, bs, mro, ns, qn, hd, sn, sub, ab, col, del⟩ := cd
      dsimp only at hm hdel hdict
      subst hm hdel hdict
      obtain ⟨l⟩ := sl
      dsimp only at hs
      subst hs
      exact ⟨nm, qn, ns, bs, bm, sn, sub, ab, col, dd, k0, k1, k2, k3, k5, ho, hve⟩
    · cases h1
  · cases h1
/-- the scope of such an __init__ -/
def scB (sf pt : Str) (scope : Scope) : Bool := (scope.kind == .function) && !scope.isCoroutine && !scope.isGenerator && (scope.names.all fun x => decide (x.2 ≠ .cell)) && (scope.names.all fun x => decide (x.2 ≠ .free) || decide (x.1 = "__class__")) &&
  decide (scope.names.lookup ("__class__" : Str) = some .free) && decide (scope.names.lookup ("super" : Str) = some .globalImplicit) && decide (scope.names.lookup sf = some .local) && decide (scope.names.lookup pt = some .local) && decide (pt ≠ sf)
theorem scB_ok {sf pt : Str} {scope : Scope} (h : scB sf pt scope = true) : SI.ScS sf pt scope := by
  unfold scB at h
  simp only [Bool.and_eq_true, decide_eq_true_eq, List.all_eq_true, Bool.or_eq_true, Bool.not_eq_true'] at h
  obtain ⟨⟨⟨⟨⟨⟨⟨⟨⟨h1, h2⟩, h3⟩, h4⟩, h5⟩, h6⟩, h7⟩, h8⟩, h9⟩, h10⟩ := h
  refine ⟨by simpa using h1, h2, h3, h4, fun x hx => ?_, h6, h7, h8, h9, h10⟩
  rcases h5 _ (PySem.mem_of_lookup hx) with z | z
  · exact absurd rfl z
  · exact z
/-- the __init__ of class C: super().__init__(f'..{p}'); self.fl = p -/
def iniB (K : PySem.W.Frag) (file : Str) (C : Addr) (fl : Str) : Bool := match PySem.W.findIn K (.ref C) "__init__" with
  | some (some (.ref fI)) => (match K.lookup fI with
    | some ⟨_, _, .func fd, _⟩ => (match fd.closure, fd.code, fd.params, fd.body with
      | [(nc, cc)], .ref cda, ⟨[], [a0, a1], none, [], [], none, []⟩, .stmts [.Expr (.Call (.Attribute (.Call (.Name su _) [] [] _) ini apos) [.JoinedStr [.Constant (.str lit) _ _, .FormattedValue (.Name p1 _) cv none _] _] [] pos) _, .Assign [.Attribute (.Name s1 _) fl1 _] (.Name p2 _) _] =>
          decide (nc = "__class__") && decide (su = "super") && decide (ini = "__init__") && decide (p1 = a1.arg) && decide (p2 = a1.arg) && decide (s1 = a0.arg) && decide (fl1 = fl) && decide (cv = -1) && decide (lit.length ≤ 1000) && (apos.endLine == pos.line) && scB a0.arg a1.arg fd.scope &&
          okN a0.arg && okN a1.arg && decide (fd.globals = mainGlobals) && decide (fd.builtins = builtinsNs) && PySem.W.codeIn K (.ref cda) fd.qualname && (PySem.W.typeIn K (.ref fI) == some (.type "function")) &&
          (match K.lookup cda with
            | some ⟨_, _, .fields vs, _⟩ => (match (vs[2]? : Option Value) with
              | some (Value.str f _) => decide (f = file)
              | _ => false)
            | _ => false) && ((fd.defaults == .none) && decide (a0.arg = "self") && (decide (a1.arg = "part") || decide (a1.arg = "limit"))) &&
          (match K.lookup cc with
            | some ⟨_, _, .cell (some (.ref D)), _⟩ => decide (D = C)
            | _ => false)
      | _, _, _, _ => false)
    | _ => false)
  | _ => false
/-- all that is asked of class C -/
def vfB (K : PySem.W.Frag) (file : Str) (C : Addr) (fl : Str) : Bool := oexB K C && decide (PySem.W.subIn K (.ref C) (.type "ValueError") = some true) && decide (PySem.W.mroIn K C (.ref C) = some true) && He.eqO (PySem.W.ks_superIn K C C "__init__") (some (some (.builtin "ValueError.__init__"))) && He.eqO (PySem.W.nsIn K PySem.cStatics "thirdparty.any") (some none) &&
  xfB K C && He.eqO (PySem.W.findIn K (.ref C) fl) (some none) && iniB K file C fl
theorem vfB_ok {P : Program} {w : World} {K : PySem.W.Frag} {mg : Str → Option Value} {base : Heap} {CX : CXT} {C : Addr} {fl : Str} (h : vfB K P.main.file C fl = true) (htop : (P.main.scope.names.lookup ("super" : Str)).isSome = false) (hm : mg "super" = none) :
    ∃ (fI : Addr) (fd : FuncData) (sf pt : Str), OexC K C ∧ PySem.W.findIn K (.ref C) "__init__" = some (some (.ref fI)) ∧ PySem.W.typeIn K (.ref fI) = some (.type "function") ∧ FnOk P w K mg base CX 1 fI fd [sf, pt] (SI.spI C fl) ∧ Binds K fd [sf, pt] [] ∧ XfC K C ∧ PySem.W.findIn K (.ref C) fl = some none := by
  unfold vfB at h
  simp only [Bool.and_eq_true] at h
  obtain ⟨⟨⟨⟨⟨⟨⟨h1, h2⟩, h3⟩, h4⟩, h5⟩, h6⟩, h7⟩, h8⟩ := h
  unfold iniB at h8
  split at h8
  · rename_i fI hf
    split at h8
    · rename_i oc od fd osl lk
      split at h8
      · rename_i nc cc cda a0 a1 su q1 q2 ini apos lit q3 q4 p1 q5 cv q6 q7 pos q8 s1 q9 fl1 q10 p2 q11 q12 e1 e2 e3 e4
        simp only [Bool.and_eq_true] at h8
        obtain ⟨⟨⟨⟨⟨⟨⟨⟨⟨⟨⟨⟨⟨⟨⟨⟨⟨⟨⟨b1, b2⟩, b3⟩, b4⟩, b5⟩, b6⟩, b7⟩, b8⟩, b9⟩, b10⟩, b11⟩, b12⟩, b13⟩, b14⟩, b15⟩, b16⟩, b17⟩, b18⟩, ⟨bn0, bn1⟩, bn2⟩, b19⟩ := h8
        cases of_decide_eq_true b1
        cases of_decide_eq_true b2
        cases of_decide_eq_true b3
        cases of_decide_eq_true b4
        cases of_decide_eq_true b5
        cases of_decide_eq_true b6
        cases of_decide_eq_true b7
        cases of_decide_eq_true b8
        obtain ⟨name, qual, params, body, scope, gl, cl, dV, kV, doc, pm, an, cd, ct, bl⟩ := fd
        dsimp only at e1 e2 e3 e4 b11 b14 b15 b16 bn0
        have bn0 : dV = .none := by simpa using bn0
        subst bn0
        cases e1
        cases e2
        cases e3
        cases e4
        cases of_decide_eq_true b14
        cases of_decide_eq_true b15
        have S := scB_ok b11
        have D : SI.IniC K P.main.file C fI cc cda (PySem.W.ksFn name qual ⟨[], [a0, a1], none, [], [], none, []⟩ [.Expr (.Call (.Attribute (.Call (.Name "super" q1) [] [] q2) "__init__" apos) [.JoinedStr [.Constant (.str lit) q3 q4, .FormattedValue (.Name a1.arg q5) (-1) none q6] q7] [] pos) q8, .Assign [.Attribute (.Name a0.arg q9) fl q10] (.Name a1.arg q11) q12] scope .none kV doc pm an (.ref cda) ct cc) a0.arg := by
          refine ⟨oexB_ok h1, of_decide_eq_true h2, of_decide_eq_true h3, He.eqO_ok h4, He.eqO_ok h5, ⟨oc, od, osl, lk⟩, ⟨a0, rfl, rfl⟩, ?_, ?_⟩
          · split at b18
            · rename_i ccl cdd vs ccs lc
              split at b18
              · rename_i f tf hv
                cases of_decide_eq_true b18
                exact ⟨ccl, cdd, ccs, vs, tf, lc, hv⟩
              · cases b18
            · cases b18
          · split at b19
            · rename_i cl cld D csl lc
              cases of_decide_eq_true b19
              exact ⟨cl, cld, csl, lc⟩
            · cases b19
        refine ⟨fI, _, a0.arg, a1.arg, oexB_ok h1, hf, by simpa using b17, SI.init_ok rfl D b16 S (He.eqO_ok h7) (of_decide_eq_true b9) b10 htop hm ⟨(okN_d b12).1, (okN_d b12).2.1⟩ ⟨(okN_d b13).1, (okN_d b13).2.1⟩, ?_, xfB_ok h6, He.eqO_ok h7⟩
        obtain ⟨n0, an0, pp0⟩ := a0
        obtain ⟨n1, an1, pp1⟩ := a1
        dsimp only at bn1 bn2
        cases of_decide_eq_true bn1
        rw [Bool.or_eq_true] at bn2
        rcases bn2 with z | z <;> cases of_decide_eq_true z <;> exact Binds.all fun us hl => match us, hl with | [_, _], _ => rfl
      · cases h8
    · cases h8
  · cases h8
end Rx
set_option Elab.async false
set_option linter.all false
set_option maxRecDepth 100000
set_option maxHeartbeats 2000000
/-! Rx17: from the head's facts to the law's promise. -/
namespace Rx
open PySem PySem.Spec PyProof.Rows L2 TL RZ
/-! ### tables of code objects -/
def lamQ (d : He.DefD) : Str := (envOfC d.qual d.scope 0 0 .none).qual ++ "<lambda>"
def tbl (K : PySem.W.Frag) (ds : List He.DefD) : List (Addr × Str) := ds.map fun d => ((He.cT K d.at_).2, lamQ d)
def tblB (K : PySem.W.Frag) (ds : List He.DefD) : Bool := (tbl K ds).all fun a => (tbl K ds).all fun b => !decide (a.1 = b.1) || decide (a.2 = b.2)
theorem lam_of {K : PySem.W.Frag} {ds : List He.DefD} {d : He.DefD} {fd : FuncData} {base : Heap} {mg : Str → Option Value} {dvs : List V} {kws : List (Str × V)} (hd : d ∈ ds) (F : FunD K d.name d.qual d.params d.body d.scope dvs kws (He.fAd K d.at_) fd) (hB : tblB K ds = true)
    (TB : ∀ p ∈ (ds.map (·.at_)).map (He.cT K), LamX.TabB base mg p.1 p.2) :
    ∃ c P, fd.code = .ref c ∧ LamX.TabB base mg c P ∧ (P, (envOfC d.qual d.scope 0 0 fd.code).qual ++ "<lambda>") ∈ tbl K ds ∧ ∀ p ∈ tbl K ds, p.1 = P → p.2 = (envOfC d.qual d.scope 0 0 fd.code).qual ++ "<lambda>" := by
  obtain ⟨oc, od, dV, kV, doc, pm, an, cdv, ct, osl, rfl, lk, hcd, _, _⟩ := F.ex
  obtain ⟨c, rfl⟩ := He.codeIn_ref hcd
  have e : He.codeOf K d.at_ = c := He.codeOf_eq lk rfl
  have hm : ((He.cT K d.at_).2, lamQ d) ∈ tbl K ds := List.mem_map.mpr ⟨d, hd, rfl⟩
  refine ⟨c, (He.cT K d.at_).2, rfl, ?_, hm, fun p hp hP => ?_⟩
  · have := TB (He.cT K d.at_) (List.mem_map.mpr ⟨d.at_, List.mem_map.mpr ⟨d, hd, rfl⟩, rfl⟩)
    rw [show (He.cT K d.at_).1 = c from e] at this
    exact this
  · have h1 := List.all_eq_true.mp (List.all_eq_true.mp hB p hp) _ hm
    rw [Bool.or_eq_true] at h1
    rcases h1 with h1 | h1
    · rw [hP] at h1
      simp at h1
    · exact of_decide_eq_true h1
/-! ### classes of exceptions -/
def excCB (K : PySem.W.Frag) (D : Addr) : Bool :=
  He.eqO (PySem.W.findIn K (.ref D) "__getattribute__") (some (some (.builtin "BaseException.__getattribute__"))) && He.eqO (PySem.W.findIn K (.ref D) "__getattr__") (some none) && decide (PySem.W.subIn K (.ref D) (.type "BaseException") = some true) &&
  PySem.W.hasDictIn K D && He.eqO (PySem.W.findIn K (.ref D) "__class__") (some (some (.builtin "object.__class__"))) && He.eqO (PySem.W.specialIn K (.builtin "object.__class__") "__get__") (some (some (.builtin "getset_descriptor.__get__"))) &&
  decide (PySem.W.takesIn K (.builtin "object.__class__") = some true) && decide (PySem.W.mroIn K D (.type "object") = some true)
theorem excC_ok {K : PySem.W.Frag} {D : Addr} (h : excCB K D = true) : ExcC K D := by
  unfold excCB at h
  simp only [Bool.and_eq_true] at h
  obtain ⟨⟨⟨⟨⟨⟨⟨h1, h2⟩, h3⟩, h4⟩, h5⟩, h6⟩, h7⟩, h8⟩ := h
  exact ⟨He.eqO_ok h1, He.eqO_ok h2, of_decide_eq_true h3, h4, He.eqO_ok h5, He.eqO_ok h6, of_decide_eq_true h7, of_decide_eq_true h8⟩
/-! ### the law -/
theorem sp_law {Z : Ze} {K : PySem.W.Frag} {F : Orc} {fl : Nat} {H : Hp} {a : Addr} {ns : List Int} (hT : ∀ p ∈ Z.fa.tb, H p.1 = some (.tbl #[])) (hS : SqL K H a (ns.map V.int)) (hrun : F (.fn fl) [.scr ns] [] = .ok (.bl true) []) :
    spF Z K F 1 fl [.ref a] H (fun v _ => v = .bl true) fun _ _ _ => False := by
  refine ⟨rfl, ⟨[], [], Z.fa.tb⟩, [.scr ns], [], .cons (.of (.scr (.of hS (by simp [Wd.res])))) .nil, ⟨rfl, List.nodup_nil, fun b hb => absurd hb (by simp [Wd.res]), ⟨rfl, fun p hp => LamX.TabS.nil (hT p hp)⟩, fun l o b h _ => by simp at h⟩, ?_⟩
  rw [hrun]
  intro v w' H' _ r _
  cases r with
  | of r => cases r; rfl
theorem lawAt {l : PySem.W.OpenLaw} {w : World} {K : PySem.W.Frag} {mg : Str → Option Value} {h : Heap} {fa : List He.Fa} {fn : List He.DefD} {ts : List He.Tab} {tf : List He.Defn} {ex : PySem.W.Frag → Bool} {Z : Ze} {T : Tab} {pg : Pg} {x qual xn : Str} {params : Arguments} {body : List Stmt} {scope : Scope} {fd : FuncData} {N : List Str} {d : Fn} {rf : Bool} {n m fl : Nat}
    (ds : List He.DefD) (htf : tf = ds.map (·.at_)) (c : He.SaysX fa fn ts tf ex w h K) (KX : K.In h) (htb : Z.fa.tb = tbl K ds) (hx : N.take d.params = [xn]) (hb : ∀ (s : Shared) (u : Value), BindsTo s fd ⟨[u], []⟩ [(xn, u)])
    (txt : ∀ base : Heap, K.In base → base.Ns mainGlobals mg → (∀ p ∈ tf.map (He.cT K), LamX.TabB base mg p.1 p.2) → Txt0 Z T pg K mg base ∧ (∀ (j : Nat) (x fl : Str), T.ex[j]? = some x → T.vf j = some fl → ExV l.prog w K mg base Z j x fl) ∧ DefX Z T pg K mg base fl 1 x qual params body scope fd N d rf)
    (hrun : ∀ ns : List Int, run pg (n + 1) (.fn fl) [.scr ns] [] = .ok (.bl true) []) : LamX.LawAtS l w K (L2N.CX l.prog w) (3 * n + 2 + 1) m xn mg (Z.fa fl) h := by
  refine ⟨fd, tf.map (He.cT K), spF Z K (run pg (n + 1)) 1 fl, fun p hp => ?_, fun p hp => ?_, fun p hp => ?_, hb, fun H a ns _ _ hT hS => sp_law (fun p hp => ?_) hS (hrun ns), fun base h1 h2 h3 => ?_⟩
  · obtain ⟨y, hy, rfl⟩ := List.mem_map.mp hp
    exact c.empty y hy
  · obtain ⟨y, hy, rfl⟩ := List.mem_map.mp hp
    exact c.out y hy
  · obtain ⟨y, hy, rfl⟩ := List.mem_map.mp hp
    exact PySem.W.codeHd_of_K KX (c.hd y hy)
  · rw [htb] at hp
    obtain ⟨y, hy, rfl⟩ := List.mem_map.mp hp
    exact hT (He.cT K y.at_) (List.mem_map.mpr ⟨y.at_, by rw [htf]; exact List.mem_map.mpr ⟨y, hy, rfl⟩, rfl⟩)
  · obtain ⟨t, tv, D⟩ := txt base h1 h2 h3
    have := fn_lvl (P := l.prog) (w := w) (p := (x, 1)) t tv (lvl_ok t tv n) D
    rw [hx] at this
    exact this
/-! ### the facts that a text asks for -/
def plx (T : Tab) : List Str := (List.range T.ex.length).filterMap fun j => if T.pl j then T.ex[j]? else none
def glI (p : Str × D) : Option He.Fa := match p.2 with
  | .int i => some (.int p.1 i)
  | _ => none
/-- le: the class that is caught; er: the def that names exceptions -/
def faOf (T : Tab) (le er : Str) : List He.Fa :=
  (T.fn.map fun p => He.Fa.glo p.1) ++ ((T.ex.map He.Fa.glo) ++ ([He.Fa.glo T.rfn, He.Fa.glo er, He.Fa.glo le, He.Fa.free "super"] ++ ((T.blt.map He.Fa.free) ++ (((plx T).map He.Fa.exc) ++ (((plx T).map fun x => He.Fa.exm x le true) ++ T.gl.filterMap glI)))))
def nameOf (T : Tab) (f : Nat) : Str := (T.fn.map (·.1)).getD f Str.empty
def Zof (T : Tab) (K : PySem.W.Frag) (ds : List He.DefD) : Ze := { fa := { at_ := fun f => He.ga K (nameOf T f), tb := tbl K ds }, lm := fun _ _ => False, ec := fun j => .ref (He.ga K (T.ex.getD j Str.empty)), fld := fun j => if T.pl j = true then none else some ((T.vf j).getD "x") }
/-- isinstance of a class: itself alone -/
def exmOf (T : Tab) : Nat → Nat → Option Bool := fun j i => if j < T.ex.length ∧ i < T.ex.length ∧ (T.pl j || (T.vf j).isSome) = true then some (decide (j = i)) else none
/-- what the head reads besides -/
def exOf (T : Tab) (ds : List He.DefD) (file : Str) (K : PySem.W.Frag) : Bool := tblB K ds && (List.range T.ex.length).all fun j => (!T.pl j || excCB K (He.ga K (T.ex.getD j Str.empty))) && (!(T.pl j || (T.vf j).isSome) ||
  (List.range T.ex.length).all fun i => decide (PySem.W.kitOne K (.ref (He.ga K (T.ex.getD j Str.empty))) (.ref (He.ga K (T.ex.getD i Str.empty))) = some (decide (j = i))) && decide (PySem.W.exmOne K (.ref (He.ga K (T.ex.getD j Str.empty))) (.ref (He.ga K (T.ex.getD i Str.empty))) = some (decide (j = i)))) &&
  (match T.vf j with
    | some fl => !T.pl j && vfB K file (He.ga K (T.ex.getD j Str.empty)) fl
    | none => true)
section
variable {T : Tab} {le er : Str} {fn : List He.DefD} {K : PySem.W.Frag} {mg : Str → Option Value} {base : Heap} {ds : List He.DefD} {err : Nat → Option D}
theorem getD_at {xs : List Str} {j : Nat} {x : Str} (h : xs[j]? = some x) : xs.getD j Str.empty = x := by
  rw [List.getD_eq_getElem?_getD, h]
  rfl
theorem nameOf_at {f : Nat} {p : Str × Nat} (h : T.fn[f]? = some p) : nameOf T f = p.1 := getD_at (by rw [List.getElem?_map, h]; rfl)
theorem plx_mem {j : Nat} {x : Str} (h : T.ex[j]? = some x) (hp : T.pl j = true) : x ∈ plx T := by
  refine List.mem_filterMap.mpr ⟨j, List.mem_range.mpr (List.getElem?_eq_some_iff.mp h).1, ?_⟩
  rw [if_pos hp]
  exact h
theorem fa_fn {p : Str × Nat} (h : p ∈ T.fn) : He.Fa.glo p.1 ∈ faOf T le er := List.mem_append_left _ (List.mem_map.mpr ⟨p, h, rfl⟩)
theorem fa_ex {x : Str} (h : x ∈ T.ex) : He.Fa.glo x ∈ faOf T le er := List.mem_append_right _ (List.mem_append_left _ (List.mem_map.mpr ⟨x, h, rfl⟩))
theorem fa_three {f : He.Fa} (h : f ∈ [He.Fa.glo T.rfn, He.Fa.glo er, He.Fa.glo le, He.Fa.free "super"]) : f ∈ faOf T le er := List.mem_append_right _ (List.mem_append_right _ (List.mem_append_left _ h))
theorem fa_blt {x : Str} (h : x ∈ T.blt) : He.Fa.free x ∈ faOf T le er := List.mem_append_right _ (List.mem_append_right _ (List.mem_append_right _ (List.mem_append_left _ (List.mem_map.mpr ⟨x, h, rfl⟩))))
theorem fa_exc {x : Str} (h : x ∈ plx T) : He.Fa.exc x ∈ faOf T le er := List.mem_append_right _ (List.mem_append_right _ (List.mem_append_right _ (List.mem_append_right _ (List.mem_append_left _ (List.mem_map.mpr ⟨x, h, rfl⟩)))))
theorem fa_exm {x : Str} (h : x ∈ plx T) : He.Fa.exm x le true ∈ faOf T le er := List.mem_append_right _ (List.mem_append_right _ (List.mem_append_right _ (List.mem_append_right _ (List.mem_append_right _ (List.mem_append_left _ (List.mem_map.mpr ⟨x, h, rfl⟩))))))
theorem fa_gl {x : Str} {i : Int} (h : (x, D.int i) ∈ T.gl) : He.Fa.int x i ∈ faOf T le er := List.mem_append_right _ (List.mem_append_right _ (List.mem_append_right _ (List.mem_append_right _ (List.mem_append_right _ (List.mem_append_right _ (List.mem_filterMap.mpr ⟨_, h, rfl⟩))))))
theorem exOf_at {file : Str} {j : Nat} (h : exOf T ds file K = true) (hj : j < T.ex.length) : (T.pl j = true → ExcC K (He.ga K (T.ex.getD j Str.empty))) ∧
    ((T.pl j || (T.vf j).isSome) = true → ∀ i, i < T.ex.length → PySem.W.kitOne K (.ref (He.ga K (T.ex.getD j Str.empty))) (.ref (He.ga K (T.ex.getD i Str.empty))) = some (decide (j = i)) ∧ PySem.W.exmOne K (.ref (He.ga K (T.ex.getD j Str.empty))) (.ref (He.ga K (T.ex.getD i Str.empty))) = some (decide (j = i))) ∧
    ∀ fl, T.vf j = some fl → T.pl j = false ∧ vfB K file (He.ga K (T.ex.getD j Str.empty)) fl = true := by
  have h1 := List.all_eq_true.mp (Bool.and_eq_true_iff.mp h).2 j (List.mem_range.mpr hj)
  rw [Bool.and_eq_true, Bool.and_eq_true] at h1
  obtain ⟨⟨a, b⟩, c⟩ := h1
  refine ⟨fun hp => ?_, fun hp i hi => ?_, fun fl hv => ?_⟩
  · rw [hp] at a
    exact excC_ok a
  · rw [hp] at b
    have := List.all_eq_true.mp b i (List.mem_range.mpr hi)
    rw [Bool.and_eq_true] at this
    exact ⟨of_decide_eq_true this.1, of_decide_eq_true this.2⟩
  · rw [hv] at c
    have c : (!T.pl j && vfB K file (He.ga K (T.ex.getD j Str.empty)) fl) = true := c
    rw [Bool.and_eq_true, Bool.not_eq_true'] at c
    exact c
end
/-- a def's parameters, bound -/
def BindN (d : He.DefD) (ps : List Str) : Prop := ∀ (kV doc pm : Value) (an : Option Addr) (cdv ct : Value) (us : List Value), us.length = ps.length → bindArgs (PySem.W.fnOf d.name d.qual d.params d.body d.scope .none kV doc pm an cdv ct) ⟨us, []⟩ = pure (ps.zip us)
/-- a def of the head without defaults -/
structure Bare (d : He.DefD) (x : Str) (fn : List He.DefD) : Prop where
  mem : d ∈ fn
  at_ : d.at_ = (x, none)
  dfl : d.dfl = []
  kwd : d.kwd = []
theorem Bare.fu {d : He.DefD} {x : Str} {fn : List He.DefD} {fa : List He.Fa} {K : PySem.W.Frag} (b : Bare d x fn) (c : He.SaysD fa fn K) : ∃ fd, FunD K d.name d.qual d.params d.body d.scope [] [] (He.ga K x) fd := by
  obtain ⟨fd, F⟩ := He.SaysD.defs c b.mem
  refine ⟨fd, ?_⟩
  have e1 : d.dvs K = [] := by unfold He.DefD.dvs; rw [b.dfl]; rfl
  have e2 : d.kws K = [] := by unfold He.DefD.kws; rw [b.kwd]; rfl
  rw [e1, e2, b.at_] at F
  exact F
/-- the text of the two defs that tell of refusals -/
structure RefT (T : Tab) (err : Nat → Option D) (le er : Str) (fn : List He.DefD) : Prop where
  ok : okN T.rfn = true
  r : ∃ (d : He.DefD) (a n : Str), Bare d T.rfn fn ∧ FnScope [a, n] [a] d.scope ∧ BindN d [a] ∧ RefBody a n le er d.body ∧ refNm d.scope a n le er = true
  e : ∃ (d : He.DefD) (N : List Str) (p0 : Str) (iss : Ss), Bare d er fn ∧ FnScope N [p0] d.scope ∧ BindN d [p0] ∧ chkHs (errT T) N { sc := d.scope, own := fun _ => true, hot := true } iss d.body = true ∧
    ∀ kk d, err kk = some d → ∀ S, evSs (G_ (errT T)) (isF (exmOf T)) (fun _ _ => none) (fun _ _ => none) iss (Rx.start N.length [.clo kk []]) S = .rt d S
  err : ∀ kk d, err kk = some d → T.pl kk = true ∧ kk < T.ex.length ∧ ∃ w, d = .str w
theorem txt_of {file : Str} {T : Tab} {le er : Str} {fn : List He.DefD} {K : PySem.W.Frag} {mg : Str → Option Value} {base : Heap} {ds : List He.DefD} {pg : Pg} (c : He.SaysD (faOf T le er) fn K) (X : K.In base) (G : base.Ns mainGlobals mg) (hex : exOf T ds file K = true)
    (df : ∀ f p, T.fn[f]? = some p → DefOk (Zof T K ds) T pg K mg base f p) (hout : pg.fns.length = T.fn.length) (hgl : pg.gl = G_ T) (hxm : pg.exm = exmOf T) (hgi : ∀ p ∈ T.gl, ∃ i, p.2 = .int i) (R : RefT T pg.err le er fn) : Txt0 (Zof T K ds) T pg K mg base := by
  have glo : ∀ {x : Str}, He.Fa.glo x ∈ faOf T le er → mg x = some (.ref (He.ga K x)) := fun h => He.glo_ok X G (He.SaysD.facts c h)
  have blt : ∀ x ∈ T.blt, mg x = none := fun x hx => He.free_ok X G (He.SaysD.facts c (fa_blt hx))
  have exs : ∀ (j : Nat) (x : Str), T.ex[j]? = some x → ∃ C, mg x = some (.ref C) ∧ (Zof T K ds).ec j = .ref C ∧ (T.pl j = true → (Zof T K ds).fld j = none ∧ PySem.W.excIn K C He.veBase "ValueError.__new__" = true ∧ PySem.W.keepIn K (.ref C) = true ∧
      PySem.W.subIn K (.ref C) (.type "BaseException") = some true ∧ PySem.W.typeIn K (.ref C) = some (.type "type")) := fun j x h => by
    refine ⟨He.ga K x, glo (fa_ex (List.mem_of_getElem? h)), by show Value.ref (He.ga K (T.ex.getD j Str.empty)) = _; rw [getD_at h], fun hp => ⟨if_pos hp, ?_⟩⟩
    exact He.exc_ok (He.SaysD.facts c (fa_exc (plx_mem h hp)))
  have both : ∀ (j i : Nat) (b : Bool), pg.exm j i = some b → ∀ x, T.ex[i]? = some x → ∃ C', mg x = some (.ref C') ∧ PySem.W.kitOne K ((Zof T K ds).ec j) (.ref C') = some b ∧ PySem.W.exmOne K ((Zof T K ds).ec j) (.ref C') = some b := fun j i b h x hx => by
    rw [hxm] at h
    unfold exmOf at h
    split at h
    · rename_i hc
      cases h
      have := (exOf_at hex hc.1).2.1 hc.2.2 i hc.2.1
      rw [getD_at hx] at this
      exact ⟨He.ga K x, glo (fa_ex (List.mem_of_getElem? hx)), this⟩
    · cases h
  have isx : ∀ (j i : Nat) (b : Bool), pg.exm j i = some b → ∀ x, T.ex[i]? = some x → ∃ C', mg x = some (.ref C') ∧ ∀ C, (Zof T K ds).ec j = .ref C → PySem.W.kitOne K (.ref C) (.ref C') = some b := fun j i b h x hx => by
    obtain ⟨C', g1, g2, _⟩ := both j i b h x hx
    exact ⟨C', g1, fun C hC => by rw [← hC]; exact g2⟩
  have xm : ∀ (j i : Nat) (b : Bool), pg.exm j i = some b → ∀ x, T.ex[i]? = some x → ∃ C', mg x = some (.ref C') ∧ PySem.W.exmOne K ((Zof T K ds).ec j) (.ref C') = some b := fun j i b h x hx => by
    obtain ⟨C', g1, _, g2⟩ := both j i b h x hx
    exact ⟨C', g1, g2⟩
  refine ⟨fun f p h => ?_, df, fun g p h => ?_, blt, fun f h => ?_, hgl, exs, isx, fun _ _ h => h, xm, fun F hF => ?_⟩
  · have := glo (fa_fn (le := le) (er := er) (List.mem_of_getElem? h))
    rw [← nameOf_at h] at this ⊢
    exact this
  · obtain ⟨x, dd⟩ := p
    obtain ⟨i, hi⟩ := hgi _ (List.mem_of_getElem? h)
    cases hi
    obtain ⟨t, ht⟩ := He.int_ok X G (He.SaysD.facts c (fa_gl (le := le) (er := er) (List.mem_of_getElem? h)))
    exact ⟨.int i, _, ht, ⟨t, rfl⟩, fun w H => .int i⟩
  · rw [List.getElem?_eq_none_iff] at h ⊢
    omega
  · obtain ⟨dr, a, n, br, sr, nr, bodyr, nmr⟩ := R.r
    obtain ⟨de, N, p0, iss, be, se, ne, ce, ee⟩ := R.e
    obtain ⟨fdr, Fr⟩ := br.fu c
    obtain ⟨fde, Fe⟩ := be.fu c
    have three : ∀ {f : He.Fa}, f ∈ [He.Fa.glo T.rfn, He.Fa.glo er, He.Fa.glo le, He.Fa.free "super"] → f ∈ faOf T le er := fa_three
    refine ⟨⟨He.ga K T.rfn, He.ga K er, He.ga K le, dr.name, dr.qual, dr.params, dr.body, dr.scope, fdr, a, n, le, er, glo (three (by simp)), R.ok, Fr, sr, Fr.bindsN nr, bodyr, nmr, glo (three (by simp)), ?_, fun kk d h => ?_⟩, hF⟩
    · refine ⟨⟨de.name, de.qual, de.params, de.body, de.scope, fde, N, p0, iss, Fe, se, Fe.bindsN ne, ce, ?_⟩, glo (three (by simp)), Fe.kp, blt, exs, isx, fun kk d h => ?_⟩
      · rw [hxm]
        exact ee
      · obtain ⟨h1, h2, h3⟩ := R.err kk d h
        exact ⟨if_pos h1, h3, _, rfl, (exOf_at hex h2).1 h1⟩
    · obtain ⟨h1, h2, _⟩ := R.err kk d h
      have hx : T.ex[kk]? = some (T.ex[kk]) := List.getElem?_eq_getElem h2
      have := He.exm_ok (He.SaysD.facts c (fa_exm (le := le) (er := er) (plx_mem hx h1)))
      show PySem.W.exmOne K (.ref (He.ga K (T.ex.getD kk Str.empty))) _ = _
      rw [getD_at hx]
      exact this
theorem txv_of {P : Program} {w : World} {T : Tab} {le er : Str} {fn : List He.DefD} {K : PySem.W.Frag} {mg : Str → Option Value} {base : Heap} {ds : List He.DefD} (c : He.SaysD (faOf T le er) fn K) (X : K.In base) (G : base.Ns mainGlobals mg) (hex : exOf T ds P.main.file K = true) (htop : (P.main.scope.names.lookup ("super" : Str)).isSome = false) :
    ∀ (j : Nat) (x fl : Str), T.ex[j]? = some x → T.vf j = some fl → ExV P w K mg base (Zof T K ds) j x fl := fun j x fl hx hv => by
  have hj := (List.getElem?_eq_some_iff.mp hx).1
  obtain ⟨h1, h2⟩ := (exOf_at hex hj).2.2 fl hv
  have hm : mg "super" = none := He.free_ok X G (He.SaysD.facts c (fa_three (le := le) (er := er) (by simp)))
  have hg : mg x = some (.ref (He.ga K x)) := He.glo_ok X G (He.SaysD.facts c (fa_ex (List.mem_of_getElem? hx)))
  rw [getD_at hx] at h2
  obtain ⟨fI, fd, sf, pt, a1, a2, a3, a4, a5, a6, a7⟩ := vfB_ok (w := w) (base := base) (CX := L2N.CX P w) h2 htop hm
  refine ⟨He.ga K x, fI, fd, sf, pt, hg, ?_, ?_, a1, a2, a3, a4, a5, a6, a7⟩
  · show Value.ref (He.ga K (T.ex.getD j Str.empty)) = _
    rw [getD_at hx]
  · show (if T.pl j = true then none else some ((T.vf j).getD "x")) = _
    rw [h1, hv]
    rfl
/-! ### the head's look, with the statics -/
def grY (look : Addr → Option Obj) (n : Nat) : List Addr := He.asD look n ++ [PySem.cStatics]
def obsY (n : Nat) (fs : List He.Fa) (ds : List He.DefD) (tf : List He.Defn) (ex : PySem.W.Frag → Bool) (look : Addr → Option Obj) : He.AlX :=
  (He.obsT fs ds [] (He.frT look (grY look n)), (ex (He.frT look (grY look n)) && He.tabsB look tf (He.frT look (grY look n))))
theorem saysY {n : Nat} {fs : List He.Fa} {ds : List He.DefD} {tf : List He.Defn} {ex : PySem.W.Frag → Bool} {w : World} {hp : Heap} (e : obsY n fs ds tf ex hp.get? = He.valX ds [] w) :
    He.SaysX fs ds [] tf ex w hp (He.frT hp.get? (grY hp.get? n)) := by
  have a1 := congrArg Prod.fst e
  have a2 : (ex (He.frT hp.get? (grY hp.get? n)) && He.tabsB hp.get? tf (He.frT hp.get? (grY hp.get? n))) = true := congrArg Prod.snd e
  rw [Bool.and_eq_true] at a2
  have all : ∀ p ∈ tf, PySem.W.codeHdIn (He.frT hp.get? (grY hp.get? n)) (He.cT (He.frT hp.get? (grY hp.get? n)) p).1 (He.cT (He.frT hp.get? (grY hp.get? n)) p).2 = true ∧
      ∃ o, hp.get? (He.cT (He.frT hp.get? (grY hp.get? n)) p).2 = some o ∧ He.emptyTab o = true := fun p hm => by
    have b := List.all_eq_true.mp a2.2 p hm
    rw [Bool.and_eq_true] at b
    refine ⟨b.1, ?_⟩
    have b2 := b.2
    revert b2
    cases hp.get? (He.cT (He.frT hp.get? (grY hp.get? n)) p).2 with
    | none => exact fun z => Bool.noConfusion z
    | some o => exact fun z => ⟨o, rfl, z⟩
  refine ⟨a1, a2.1, fun p hm => (all p hm).1, fun p hm => ?_, fun p hm => ?_⟩
  · obtain ⟨_, o, c1, c2⟩ := all p hm
    exact He.frT_none c1 c2
  · obtain ⟨_, o, c1, c2⟩ := all p hm
    rw [c1, He.emptyTab_eq c2]
def hookY (n : Nat) (fs : List He.Fa) (ds : List He.DefD) (tf : List He.Defn) (ex : PySem.W.Frag → Bool) : PySem.W.Hook where
  α := He.AlX
  obs := fun sh => obsY n fs ds tf ex sh.heap.get?
  val := fun w => He.valX ds [] w
  says := fun w hp => ∃ K : PySem.W.Frag, K.In hp ∧ He.SaysX fs ds [] tf ex w hp K
  of := fun _ _ z => ⟨_, He.frT_in, saysY z⟩
  keeps := fun _ _ _ ⟨K, hK, c⟩ kp => ⟨K, PySem.W.Frag.In.keeps hK kp, ⟨c.t, c.more, c.hd, c.out, fun p hm => kp _ _ (c.empty p hm)⟩⟩
theorem obsY_eq {n : Nat} {fs : List He.Fa} {ds : List He.DefD} {tf : List He.Defn} {ex : PySem.W.Frag → Bool} {look : Addr → Option Obj} {sh : Shared} (e : ∀ a, look a = sh.heap.get? a) : obsY n fs ds tf ex look = (hookY n fs ds tf ex).obs sh := by
  rw [show look = sh.heap.get? from funext e]
  rfl
end Rx
set_option Elab.async false
set_option linter.all false
set_option maxRecDepth 100000
set_option maxHeartbeats 2000000
/-! Rx18: plain lemmas of the interpreter, for the laws. -/
namespace Rx
/-! ### one row each -/
section
variable {G : Nat → Option D} {F : Orc} {X : Nat → Nat → Option Bool} {HF : Nat → Nat → Option D}
theorem evE_var {i} {e : Env} {S : Store} : evE G F (.var i) e S = getV e i S := Eq.trans rfl rfl
theorem evE_cint {i} {e : Env} {S : Store} : evE G F (.cint i) e S = .ok (.int i) S := Eq.trans rfl rfl
theorem evE_cstr {s} {e : Env} {S : Store} : evE G F (.cstr s) e S = .ok (.str s) S := Eq.trans rfl rfl
theorem evE_cbl {b} {e : Env} {S : Store} : evE G F (.cbl b) e S = .ok (.bl b) S := Eq.trans rfl rfl
theorem evE_cnon {e : Env} {S : Store} : evE G F .cnon e S = .ok .non S := Eq.trans rfl rfl
theorem evE_gl {g} {e : Env} {S : Store} : evE G F (.gl g) e S = R.of (G g) S := Eq.trans rfl rfl
theorem evE_fnv {f} {e : Env} {S : Store} : evE G F (.fnv f) e S = .ok (.fn f) S := Eq.trans rfl rfl
theorem evE_tup {es} {e : Env} {S : Store} : evE G F (.tup es) e S = (evEs G F es e S).bind fun ds S => gd (ds.all noC) (.ok (.tup ds) S) := Eq.trans rfl rfl
theorem evE_lst {es} {e : Env} {S : Store} : evE G F (.lst es) e S = (evEs G F es e S).bind fun ds S => gd (ds.all noC) (.ok (.lst ds) S) := Eq.trans rfl rfl
theorem evE_alc {a} {e : Env} {S : Store} : evE G F (.alc a) e S = (evE G F a e S).bind fun d S => asLst d fun ds => .ok (.ref S.length) (S ++ [.lst ds]) := Eq.trans rfl rfl
theorem evE_bin {op a b} {e : Env} {S : Store} : evE G F (.bin op a b) e S = (evE G F a e S).bind fun x S => (evE G F b e S).bind fun y S => R.of (bin op (view S x) (view S y)) S := Eq.trans rfl rfl
theorem evE_neg {a} {e : Env} {S : Store} : evE G F (.neg a) e S = (evE G F a e S).bind fun x S => asInt x fun i => .ok (.int (-i)) S := Eq.trans rfl rfl
theorem evE_cmp {op a b} {e : Env} {S : Store} : evE G F (.cmp op a b) e S = (evE G F a e S).bind fun x S => (evE G F b e S).bind fun y S => asO (cmp op (view S x) (view S y)) fun k => .ok (.bl k) S := Eq.trans rfl rfl
theorem evE_chn {op op' a b c} {e : Env} {S : Store} : evE G F (.chn op op' a b c) e S = (evE G F a e S).bind fun x S => (evE G F b e S).bind fun y S => asO (cmp op (view S x) (view S y)) fun k =>
      two k ((evE G F c e S).bind fun z S => asO (cmp op' (view S y) (view S z)) fun k => .ok (.bl k) S) (.ok (.bl false) S) := Eq.trans rfl rfl
theorem evE_andE {a b} {e : Env} {S : Store} : evE G F (.andE a b) e S = (evE G F a e S).bind fun x S => asBl x fun k => two k (evE G F b e S) (.ok (.bl false) S) := Eq.trans rfl rfl
theorem evE_orE {a b} {e : Env} {S : Store} : evE G F (.orE a b) e S = (evE G F a e S).bind fun x S => asBl x fun k => two k (.ok (.bl true) S) (evE G F b e S) := Eq.trans rfl rfl
theorem evE_notE {a} {e : Env} {S : Store} : evE G F (.notE a) e S = (evE G F a e S).bind fun x S => asBl x fun k => .ok (.bl (!k)) S := Eq.trans rfl rfl
theorem evE_ite {c a b} {e : Env} {S : Store} : evE G F (.ite c a b) e S = (evE G F c e S).bind fun x S => asO (truth S x) fun k => two k (evE G F a e S) (evE G F b e S) := Eq.trans rfl rfl
theorem evE_idx {a b} {e : Env} {S : Store} : evE G F (.idx a b) e S = (evE G F a e S).bind fun x S => (evE G F b e S).bind fun y S => R.of (idx (view S x) y) S := Eq.trans rfl rfl
theorem evE_slc {a lo hi} {e : Env} {S : Store} : evE G F (.slc a lo hi) e S = (evE G F a e S).bind fun x S => (evOp G F lo e S).bind fun l S => (evOp G F hi e S).bind fun h S => R.of (slc (view S x) l h) S := Eq.trans rfl rfl
theorem evE_rev {a} {e : Env} {S : Store} : evE G F (.rev a) e S = (evE G F a e S).bind fun x S => R.of (rev (view S x)) S := Eq.trans rfl rfl
theorem evE_call {f es} {e : Env} {S : Store} : evE G F (.call f es) e S = (evEs G F es e S).bind fun ds S => F (.fn f) ds S := Eq.trans rfl rfl
theorem evE_callv {i n es} {e : Env} {S : Store} : evE G F (.callv i n es) e S = (getV e i S).bind fun d S => asFn d fun f => gd (decide (f < n)) ((evEs G F es e S).bind fun ds S => F (.fn f) ds S) := Eq.trans rfl rfl
theorem evE_refu {z0 b} {e : Env} {S : Store} : evE G F (.refu z0 b) e S = (evE G F b e S).refu F := Eq.trans rfl rfl
theorem evE_isx {i j} {e : Env} {S : Store} : evE G F (.isx i j) e S = (getV e i S).bind fun d S => asExn d fun k => F (.clo k [.int j]) [] S := Eq.trans rfl rfl
theorem evE_bi {b es} {e : Env} {S : Store} : evE G F (.bi b es) e S = (evEs G F es e S).bind fun ds S => R.of (biV b (ds.map (view S))) S := Eq.trans rfl rfl
theorem evE_mth {m o es} {e : Env} {S : Store} : evE G F (.mth m o es) e S = (evE G F o e S).bind fun x S => asStr x fun s => (evEs G F es e S).bind fun ds S => R.of (meV m (.str s) (ds.map (view S))) S := Eq.trans rfl rfl
theorem evE_comp {own tg it elt c} {e : Env} {S : Store} : evE G F (.comp own tg it elt c) e S = (evI G F it e S).bind fun xs S =>
      (compL (fun x => setTg tg x (wipe e own)) (evC G F c) (evE G F elt) xs [] S).nox.bind fun ds S => .ok (.lst ds) S := Eq.trans rfl rfl
theorem evE_comp2 {own tg it own2 tg2 it2 elt c} {e : Env} {S : Store} : evE G F (.comp2 own tg it own2 tg2 it2 elt c) e S = (evI G F it e S).bind fun xs S =>
      (compL2 (fun x => setTg tg x (wipe e own)) (fun acc e1 S1 => (evI G F it2 e1 S1).bind fun ys S2 =>
        compL (fun y => setTg tg2 y (wipe e1 own2)) (evC G F c) (evE G F elt) ys acc S2) xs [] S).nox.bind fun ds S => .ok (.lst ds) S := Eq.trans rfl rfl
theorem evEs_nil {e : Env} {S : Store} : evEs G F .nil e S = .ok [] S := Eq.trans rfl rfl
theorem evEs_cons {a es} {e : Env} {S : Store} : evEs G F (.cons a es) e S = (evE G F a e S).bind fun d S => (evEs G F es e S).bind fun ds S => .ok (d :: ds) S := Eq.trans rfl rfl
theorem evOp_no {e : Env} {S : Store} : evOp G F .no e S = .ok none S := Eq.trans rfl rfl
theorem evOp_yes {a} {e : Env} {S : Store} : evOp G F (.yes a) e S = (evE G F a e S).bind fun d S => asInt d fun i => .ok (some i) S := Eq.trans rfl rfl
theorem evC_no {e : Env} {S : Store} : evC G F .no e S = .ok (.bl true) S := Eq.trans rfl rfl
theorem evC_yes {a} {e : Env} {S : Store} : evC G F (.yes a) e S = evE G F a e S := Eq.trans rfl rfl
theorem evI_seq {a} {e : Env} {S : Store} : evI G F (.seq a) e S = (evE G F a e S).bind fun d S => R.of (items d) S := Eq.trans rfl rfl
theorem evI_rng {es} {e : Env} {S : Store} : evI G F (.rng es) e S = (evEs G F es e S).bind fun ds S => R.of (rng ds) S := Eq.trans rfl rfl
theorem evI_enm {a} {e : Env} {S : Store} : evI G F (.enm a) e S = (evE G F a e S).bind fun d S => asLst d fun xs => .ok (enumL 0 xs) S := Eq.trans rfl rfl
theorem evI_zip {a b} {e : Env} {S : Store} : evI G F (.zip a b) e S = (evE G F a e S).bind fun d S => (evE G F b e S).bind fun d' S => asSq d fun xs => asSq d' fun ys => gd (sameSq d d') (.ok (zipL xs ys) S) := Eq.trans rfl rfl
theorem evI_lsq {a} {e : Env} {S : Store} : evI G F (.lsq a) e S = (evE G F a e S).bind fun d S => asLst d fun xs => .ok xs S := Eq.trans rfl rfl
theorem evS_asg {i a} {e : Env} {S : Store} : evS G F X HF (.asg i a) e S = .ofR (evE G F a e S) e fun d S => .nx (e.set i (some d)) S := Eq.trans rfl rfl
theorem evS_par {is es} {e : Env} {S : Store} : evS G F X HF (.par is es) e S = .ofR (evEs G F es e S) e fun ds S => .ofO (setAll is ds e) fun e => .nx e S := Eq.trans rfl rfl
theorem evS_unp {tg a} {e : Env} {S : Store} : evS G F X HF (.unp tg a) e S = .ofR (evE G F a e S) e fun d S => .ofO (setTg tg d e) fun e => .nx e S := Eq.trans rfl rfl
theorem evS_setI {a i v} {e : Env} {S : Store} : evS G F X HF (.setI a i v) e S = .ofR (evE G F v e S) e fun d S => .ofR (evE G F a e S) e fun x S => .ofR (evE G F i e S) e fun y S =>
      .ofO (getL S x) fun p => .ofO (ixD p.2.length y) fun n => .gd (noC d) (.nx e (S.set p.1 (.lst (p.2.set n d)))) := Eq.trans rfl rfl
theorem evS_app {a v} {e : Env} {S : Store} : evS G F X HF (.app a v) e S = .ofR (evE G F a e S) e fun x S => .gd (isRf x) (.ofR (evE G F v e S) e fun d S =>
      .ofO (getL S x) fun p => .gd (decide (p.2.length < sizeL) && noC d) (.nx e (S.set p.1 (.lst (p.2 ++ [d]))))) := Eq.trans rfl rfl
theorem evS_expr {a} {e : Env} {S : Store} : evS G F X HF (.expr a) e S = .ofR (evE G F a e S) e fun _ S => .nx e S := Eq.trans rfl rfl
theorem evS_ret {a} {e : Env} {S : Store} : evS G F X HF (.ret a) e S = .ofR (evE G F a e S) e fun d S => .rt d S := Eq.trans rfl rfl
theorem evS_retN {e : Env} {S : Store} : evS G F X HF .retN e S = .rt .non S := Eq.trans rfl rfl
theorem evS_ite {c a b} {e : Env} {S : Store} : evS G F X HF (.ite c a b) e S = .ofR (evE G F c e S) e fun x S => .ofO (truth S x) fun k => .two k (evSs G F X HF a e S) (evSs G F X HF b e S) := Eq.trans rfl rfl
theorem evS_for_ {tg it body} {e : Env} {S : Store} : evS G F X HF (.for_ tg it body) e S = .ofR (evI G F it e S) e fun xs S => forL (setTg tg) (evSs G F X HF body) xs e S := Eq.trans rfl rfl
theorem evS_while_ {c body} {e : Env} {S : Store} : evS G F X HF (.while_ c body) e S = whileL (evE G F c) (evSs G F X HF body) 1000 e S := Eq.trans rfl rfl
theorem evS_rais {k} {e : Env} {S : Store} : evS G F X HF (.rais k) e S = .ex k .non e S := Eq.trans rfl rfl
theorem evS_raiV {k a} {e : Env} {S : Store} : evS G F X HF (.raiV k a) e S = .ofR (evE G F a e S) e fun d S => .gd (raiseOk d) (.ex k d e S) := Eq.trans rfl rfl
theorem evS_tryH {body k h} {e : Env} {S : Store} : evS G F X HF (.tryH body k h) e S = (evSs G F X HF body e S).try_ (fun k' => X k' k) (fun k' p e1 S1 => evH HF h k k' p e1 S1) := Eq.trans rfl rfl
theorem evS_pass {e : Env} {S : Store} : evS G F X HF .pass e S = .nx e S := Eq.trans rfl rfl
theorem evS_brk {e : Env} {S : Store} : evS G F X HF .brk e S = .bk e S := Eq.trans rfl rfl
theorem evS_cont {e : Env} {S : Store} : evS G F X HF .cont e S = .ct e S := Eq.trans rfl rfl
theorem evSs_nil {e : Env} {S : Store} : evSs G F X HF .nil e S = .nx e S := Eq.trans rfl rfl
theorem evSs_cons {s r} {e : Env} {S : Store} : evSs G F X HF (.cons s r) e S = (evS G F X HF s e S).thn (evSs G F X HF r) := Eq.trans rfl rfl
end
theorem getV_0 {d : D} {e : Env} {S : Store} : getV (some d :: e) 0 S = .ok d S := Eq.trans rfl rfl
theorem getV_s {d : Option D} {e : Env} {i : Nat} {S : Store} : getV (d :: e) (i + 1) S = getV e i S := Eq.trans rfl rfl
/-! ### copies -/
theorem n_R_nox_ok {α : Type} (a : α) (S : Store) : (R.ok a S).nox = .ok a S := Eq.trans rfl rfl
theorem n_R_nox_ex {α : Type} (k : Nat) (p : D) (S : Store) : (R.ex k p S : R α).nox = .st := Eq.trans rfl rfl
theorem n_R_nox_st {α : Type} : (R.st : R α).nox = .st := Eq.trans rfl rfl
theorem n_R_bind_ok {α β : Type} (a : α) (S : Store) (f : α → Store → R β) : (R.ok a S).bind f = f a S := Eq.trans rfl rfl
theorem n_R_bind_ex {α β : Type} (k : Nat) (p : D) (S : Store) (f : α → Store → R β) : (R.ex k p S).bind f = .ex k p S := Eq.trans rfl rfl
theorem n_R_bind_st {α β : Type} (f : α → Store → R β) : (R.st : R α).bind f = .st := Eq.trans rfl rfl
theorem n_R_of_some {α : Type} (a : α) (S : Store) : R.of (some a) S = .ok a S := Eq.trans rfl rfl
theorem n_R_of_none {α : Type} (S : Store) : R.of (none : Option α) S = .st := Eq.trans rfl rfl
theorem n_asInt_int (i : Int) (k : Int → R α) : asInt (.int i) k = k i := Eq.trans rfl rfl
theorem n_asBl_bl (i : Bool) (k : Bool → R α) : asBl (.bl i) k = k i := Eq.trans rfl rfl
theorem n_asStr_str (i : List Nat) (k : List Nat → R α) : asStr (.str i) k = k i := Eq.trans rfl rfl
theorem n_asLst_lst (i : List D) (k : List D → R α) : asLst (.lst i) k = k i := Eq.trans rfl rfl
theorem n_asSq_lst (i : List D) (k : List D → R α) : asSq (.lst i) k = k i := Eq.trans rfl rfl
theorem n_asSq_tup (i : List D) (k : List D → R α) : asSq (.tup i) k = k i := Eq.trans rfl rfl
theorem n_asFn_fn (i : Nat) (k : Nat → R α) : asFn (.fn i) k = k i := Eq.trans rfl rfl
theorem n_asO_some {β : Type} (b : β) (k : β → R α) : asO (some b) k = k b := Eq.trans rfl rfl
theorem n_asO_none {β : Type} (k : β → R α) : asO none k = .st := Eq.trans rfl rfl
theorem n_gd_true (r : R α) : gd true r = r := Eq.trans rfl rfl
theorem n_gd_false (r : R α) : gd false r = .st := Eq.trans rfl rfl
theorem n_two_true (r q : R α) : two true r q = r := Eq.trans rfl rfl
theorem n_two_false (r q : R α) : two false r q = q := Eq.trans rfl rfl
theorem n_R_refu_ok (F : Orc) (d : D) (S : Store) : R.refu F (.ok d S) = .ok (.str []) S := Eq.trans rfl rfl
theorem n_R_refu_ex (F : Orc) (k : Nat) (p : D) (S : Store) : R.refu F (.ex k p S) = F (.clo k []) [p] S := Eq.trans rfl rfl
theorem n_FR_gd_true (r : FR) : FR.gd true r = r := Eq.trans rfl rfl
theorem n_FR_gd_false (r : FR) : FR.gd false r = .st := Eq.trans rfl rfl
theorem n_FR_two_true (r q : FR) : FR.two true r q = r := Eq.trans rfl rfl
theorem n_FR_two_false (r q : FR) : FR.two false r q = q := Eq.trans rfl rfl
theorem n_FR_ofR_ok {α : Type} (a : α) (S : Store) (e : Env) (f : α → Store → FR) : FR.ofR (.ok a S) e f = f a S := Eq.trans rfl rfl
theorem n_FR_ofR_ex {α : Type} (k : Nat) (p : D) (S : Store) (e : Env) (f : α → Store → FR) : FR.ofR (.ex k p S) e f = .ex k p e S := Eq.trans rfl rfl
theorem n_FR_ofR_st {α : Type} (e : Env) (f : α → Store → FR) : FR.ofR (.st : R α) e f = .st := Eq.trans rfl rfl
theorem n_FR_ofO_some {α : Type} (a : α) (f : α → FR) : FR.ofO (some a) f = f a := Eq.trans rfl rfl
theorem n_FR_ofO_none {α : Type} (f : α → FR) : FR.ofO (none : Option α) f = .st := Eq.trans rfl rfl
theorem n_FR_turn_nx (e : Env) (S : Store) (g : Env → Store → FR) : (FR.nx e S).turn g = g e S := Eq.trans rfl rfl
theorem n_FR_turn_ct (e : Env) (S : Store) (g : Env → Store → FR) : (FR.ct e S).turn g = g e S := Eq.trans rfl rfl
theorem n_FR_turn_bk (e : Env) (S : Store) (g : Env → Store → FR) : (FR.bk e S).turn g = .nx e S := Eq.trans rfl rfl
theorem n_FR_turn_rt (d : D) (S : Store) (g : Env → Store → FR) : (FR.rt d S).turn g = .rt d S := Eq.trans rfl rfl
theorem n_FR_turn_ex (k : Nat) (p : D) (e : Env) (S : Store) (g : Env → Store → FR) : (FR.ex k p e S).turn g = .ex k p e S := Eq.trans rfl rfl
theorem n_FR_turn_st (g : Env → Store → FR) : FR.st.turn g = .st := Eq.trans rfl rfl
theorem n_FR_thn_nx (e : Env) (S : Store) (g : Env → Store → FR) : (FR.nx e S).thn g = g e S := Eq.trans rfl rfl
theorem n_FR_thn_ct (e : Env) (S : Store) (g : Env → Store → FR) : (FR.ct e S).thn g = .ct e S := Eq.trans rfl rfl
theorem n_FR_thn_bk (e : Env) (S : Store) (g : Env → Store → FR) : (FR.bk e S).thn g = .bk e S := Eq.trans rfl rfl
theorem n_FR_thn_rt (d : D) (S : Store) (g : Env → Store → FR) : (FR.rt d S).thn g = .rt d S := Eq.trans rfl rfl
theorem n_FR_thn_ex (k : Nat) (p : D) (e : Env) (S : Store) (g : Env → Store → FR) : (FR.ex k p e S).thn g = .ex k p e S := Eq.trans rfl rfl
theorem n_FR_thn_st (g : Env → Store → FR) : FR.st.thn g = .st := Eq.trans rfl rfl
theorem biV_len (args : List D) : biV .len args = biLen args := Eq.trans rfl rfl
theorem biV_isInt (args : List D) : biV .isInt args = biIs .isInt args := Eq.trans rfl rfl
theorem biV_isBool (args : List D) : biV .isBool args = biIs .isBool args := Eq.trans rfl rfl
theorem biV_isStr (args : List D) : biV .isStr args = biIs .isStr args := Eq.trans rfl rfl
theorem biV_isTuple (args : List D) : biV .isTuple args = biIs .isTuple args := Eq.trans rfl rfl
theorem biV_int_ (args : List D) : biV .int_ args = biInt args := Eq.trans rfl rfl
theorem biV_bool_ (args : List D) : biV .bool_ args = biBool args := Eq.trans rfl rfl
theorem biV_str_ (args : List D) : biV .str_ args = biStr args := Eq.trans rfl rfl
theorem biV_tuple_ (args : List D) : biV .tuple_ args = biTuple args := Eq.trans rfl rfl
theorem biV_list_ (args : List D) : biV .list_ args = biList args := Eq.trans rfl rfl
theorem biV_min2 (args : List D) : biV .min2 args = biMin2 args := Eq.trans rfl rfl
theorem biV_max2 (args : List D) : biV .max2 args = biMax2 args := Eq.trans rfl rfl
theorem biV_min1 (args : List D) : biV .min1 args = biMin1 args := Eq.trans rfl rfl
theorem biV_max1 (args : List D) : biV .max1 args = biMax1 args := Eq.trans rfl rfl
theorem biV_sum_ (args : List D) : biV .sum_ args = biSum args := Eq.trans rfl rfl
theorem biV_all_ (args : List D) : biV .all_ args = biAll args := Eq.trans rfl rfl
theorem biV_any_ (args : List D) : biV .any_ args = biAny args := Eq.trans rfl rfl
theorem biV_abs_ (args : List D) : biV .abs_ args = biAbs args := Eq.trans rfl rfl
theorem meV_join (o : D) (args : List D) : meV .join o args = meJoin o args := Eq.trans rfl rfl
theorem meV_split (o : D) (args : List D) : meV .split o args = meSplit o args := Eq.trans rfl rfl
theorem meV_repl (o : D) (args : List D) : meV .repl o args = meRepl o args := Eq.trans rfl rfl
theorem setTg_nm (i : Nat) (d : D) (e : Env) : setTg (.nm i) d e = some (e.set i (some d)) := Eq.trans rfl rfl
theorem setTg_tp (is : List Nat) (ds : List D) (e : Env) : setTg (.tp is) (.tup ds) e = setAll is ds e := Eq.trans rfl rfl
theorem setTg_tq (is : List Nat) (j : Nat) (ds : List D) (x : D) (e : Env) : setTg (.tq is j) (.tup [.tup ds, x]) e = (setAll is ds e).map fun e => e.set j (some x) := Eq.trans rfl rfl
theorem setAll_nil (e : Env) : setAll [] [] e = some e := Eq.trans rfl rfl
theorem setAll_cons (i : Nat) (is : List Nat) (d : D) (ds : List D) (e : Env) : setAll (i :: is) (d :: ds) e = setAll is ds (e.set i (some d)) := Eq.trans rfl rfl
theorem wipe_nil (e : Env) : wipe e [] = e := Eq.trans rfl rfl
theorem wipe_cons (e : Env) (v : Nat) (vs : List Nat) : wipe e (v :: vs) = (wipe e vs).set v none := Eq.trans rfl rfl
theorem isRf_ref (l : Nat) : isRf (.ref l) = true := Eq.trans rfl rfl
theorem noC_non  : noC (D.non ) = true := Eq.trans rfl rfl
theorem noC_bl (b : Bool) : noC (D.bl b) = true := Eq.trans rfl rfl
theorem noC_int (i : Int) : noC (D.int i) = true := Eq.trans rfl rfl
theorem noC_str (s : List Nat) : noC (D.str s) = true := Eq.trans rfl rfl
theorem noC_tup (xs : List D) : noC (D.tup xs) = true := Eq.trans rfl rfl
theorem noC_lst (xs : List D) : noC (D.lst xs) = true := Eq.trans rfl rfl
theorem noC_ref (l : Nat) : noC (D.ref l) = true := Eq.trans rfl rfl
theorem noC_fn (f : Nat) : noC (D.fn f) = true := Eq.trans rfl rfl
theorem noC_scr (ns : List Int) : noC (D.scr ns) = true := Eq.trans rfl rfl
/-! ### plain data -/
theorem plain_succ : ∀ (k : Nat) (d : D), d.plain k = true → d.plain (k + 1) = true := by
  intro k
  induction k with
  | zero => intro d h; cases d <;> simp_all [D.plain]
  | succ k ih =>
    intro d h
    cases d with
    | tup xs =>
      simp only [D.plain, List.all_eq_true] at h ⊢
      exact fun x hx => ih x (h x hx)
    | lst xs =>
      simp only [D.plain, List.all_eq_true] at h ⊢
      exact fun x hx => ih x (h x hx)
    | _ => simp_all [D.plain]
theorem plain_mono {k m : Nat} {d : D} (h : d.plain k = true) (hk : k ≤ m) : d.plain m = true := by
  induction hk with
  | refl => exact h
  | step _ ih => exact plain_succ _ _ ih
theorem low_plain {n : Nat} : ∀ (k : Nat) (d : D), d.plain k = true → lowD n k d = true := by
  intro k
  induction k with
  | zero => intro d h; cases d <;> simp_all [D.plain, lowD]
  | succ k ih =>
    intro d h
    cases d with
    | tup xs =>
      simp only [D.plain, lowD, List.all_eq_true] at h ⊢
      exact fun x hx => ih x (h x hx)
    | lst xs =>
      simp only [D.plain, lowD, List.all_eq_true] at h ⊢
      exact fun x hx => ih x (h x hx)
    | _ => simp_all [D.plain, lowD]
theorem low12 {n k : Nat} {d : D} (h : d.plain k = true) (hk : k ≤ 12 := by omega) : lowD n 12 d = true := low_plain 12 d (plain_mono h hk)
theorem noC_plain {k : Nat} {d : D} (h : d.plain k = true) : noC d = true := by
  cases d <;> cases k <;> simp_all [D.plain, noC]
theorem view_plain {k : Nat} {S : Store} {d : D} (h : d.plain k = true) : view S d = d := by
  cases d <;> cases k <;> simp_all [D.plain, view]
theorem low_le {n m : Nat} (hn : n ≤ m) : ∀ (k : Nat) (d : D), lowD n k d = true → lowD m k d = true := by
  intro k
  induction k with
  | zero =>
    intro d h
    cases d <;> simp_all [lowD]
    omega
  | succ k ih =>
    intro d h
    cases d with
    | tup xs =>
      simp only [lowD, List.all_eq_true] at h ⊢
      exact fun x hx => ih x (h x hx)
    | lst xs =>
      simp only [lowD, List.all_eq_true] at h ⊢
      exact fun x hx => ih x (h x hx)
    | ref l =>
      simp only [lowD, decide_eq_true_eq] at h ⊢
      omega
    | _ => simp_all [lowD]
theorem lowO_le {n m k : Nat} (hn : n ≤ m) : ∀ (o : O), lowO n k o = true → lowO m k o = true := by
  intro o h
  cases o with
  | lst xs =>
    simp only [lowO, List.all_eq_true] at h ⊢
    exact fun x hx => low_le hn k x (h x hx)
  | ins c xs =>
    simp only [lowO, List.all_eq_true] at h ⊢
    exact fun x hx => low_le hn k x (h x hx)
  | dic xs =>
    simp only [lowO, List.all_eq_true, Bool.and_eq_true] at h ⊢
    exact fun x hx => ⟨low_le hn k _ (h x hx).1, low_le hn k _ (h x hx).2⟩
/-! ### reading, one constructor each -/
@[simp] theorem view_non (S : Store) : view S .non = .non := Eq.trans rfl rfl
@[simp] theorem view_bl (S : Store) (b : Bool) : view S (.bl b) = .bl b := Eq.trans rfl rfl
@[simp] theorem view_int (S : Store) (i : Int) : view S (.int i) = .int i := Eq.trans rfl rfl
@[simp] theorem view_str (S : Store) (s : List Nat) : view S (.str s) = .str s := Eq.trans rfl rfl
@[simp] theorem view_tup (S : Store) (s : List D) : view S (.tup s) = .tup s := Eq.trans rfl rfl
@[simp] theorem view_lst (S : Store) (s : List D) : view S (.lst s) = .lst s := Eq.trans rfl rfl
@[simp] theorem view_fn (S : Store) (s : Nat) : view S (.fn s) = .fn s := Eq.trans rfl rfl
@[simp] theorem view_scr (S : Store) (s : List Int) : view S (.scr s) = .scr s := Eq.trans rfl rfl
theorem view_at {S : Store} {l : Nat} {xs : List D} (h : S[l]? = some (.lst xs)) : view S (.ref l) = .lst xs := by
  simp [view, h]
theorem getLv {S : Store} {l : Nat} {xs : List D} (h : S[l]? = some (.lst xs)) : getL S (.ref l) = some (l, xs) := by
  simp [getL, h]
theorem truth_bl (S : Store) (b : Bool) : truth S (.bl b) = some b := Eq.trans rfl rfl
theorem truth_int (S : Store) (b : Int) : truth S (.int b) = some (b != 0) := Eq.trans rfl rfl
theorem bin_addI (i j : Int) : bin .add (.int i) (.int j) = some (.int (i + j)) := Eq.trans rfl rfl
theorem bin_subI (i j : Int) : bin .sub (.int i) (.int j) = some (.int (i - j)) := Eq.trans rfl rfl
theorem bin_mulI (i j : Int) : bin .mul (.int i) (.int j) = if mulOk i j then some (.int (i * j)) else none := Eq.trans rfl rfl
theorem bin_fdivI (i j : Int) : bin .fdiv (.int i) (.int j) = if divOk j then some (.int (i / j)) else none := Eq.trans rfl rfl
theorem bin_modI (i j : Int) : bin .mod (.int i) (.int j) = if 0 < j then some (.int (i % j)) else none := Eq.trans rfl rfl
theorem bin_powI (i j : Int) : bin .pow (.int i) (.int j) = if 0 ≤ j ∧ j ≤ 1000 ∧ i.natAbs < 2 ^ 64 then some (.int (i ^ j.toNat)) else none := Eq.trans rfl rfl
theorem bin_addS (s t : List Nat) : bin .add (.str s) (.str t) = if s.length + t.length ≤ sizeL then some (.str (s ++ t)) else none := Eq.trans rfl rfl
theorem bin_addL (s t : List D) : bin .add (.lst s) (.lst t) = if s.length + t.length ≤ sizeL then some (.lst (s ++ t)) else none := Eq.trans rfl rfl
theorem bin_addT (s t : List D) : bin .add (.tup s) (.tup t) = if s.length + t.length ≤ sizeL then some (.tup (s ++ t)) else none := Eq.trans rfl rfl
theorem bin_mulS (s : List Nat) (j : Int) : bin .mul (.str s) (.int j) = if 0 ≤ j ∧ j ≤ 1000 ∧ s.length ≤ 1000 then some (.str (List.replicate j.toNat s).flatten) else none := Eq.trans rfl rfl
theorem bin_mulL (s : List D) (j : Int) : bin .mul (.lst s) (.int j) = if 0 ≤ j ∧ j ≤ 1000 ∧ s.length ≤ 1000 then some (.lst (List.replicate j.toNat s).flatten) else none := Eq.trans rfl rfl
theorem bin_mulT (s : List D) (j : Int) : bin .mul (.tup s) (.int j) = if 1 ≤ j ∧ j ≤ 1000 ∧ s ≠ [] ∧ s.length ≤ 1000 then some (.tup (List.replicate j.toNat s).flatten) else none := Eq.trans rfl rfl
theorem cmp_eq (a b : D) : cmp .eq a b = if a.plain 12 && b.plain 12 then some (a.eqv b) else none := Eq.trans rfl rfl
theorem cmp_ne (a b : D) : cmp .ne a b = if a.plain 12 && b.plain 12 then some (!a.eqv b) else none := Eq.trans rfl rfl
theorem cmp_eqI (i j : Int) : cmp .eq (.int i) (.int j) = some (i == j) := Eq.trans rfl rfl
theorem cmp_neI (i j : Int) : cmp .ne (.int i) (.int j) = some (!(i == j)) := Eq.trans rfl rfl
theorem cmp_eqS (i j : List Nat) : cmp .eq (.str i) (.str j) = some (i == j) := Eq.trans rfl rfl
theorem cmp_neS (i j : List Nat) : cmp .ne (.str i) (.str j) = some (!(i == j)) := Eq.trans rfl rfl
theorem cmp_lt (i j : Int) : cmp .lt (.int i) (.int j) = some (decide (i < j)) := Eq.trans rfl rfl
theorem cmp_le (i j : Int) : cmp .le (.int i) (.int j) = some (decide (i ≤ j)) := Eq.trans rfl rfl
theorem cmp_gt (i j : Int) : cmp .gt (.int i) (.int j) = some (decide (j < i)) := Eq.trans rfl rfl
theorem cmp_ge (i j : Int) : cmp .ge (.int i) (.int j) = some (decide (j ≤ i)) := Eq.trans rfl rfl
theorem cmp_inS (c : Nat) (s : List Nat) : cmp .in_ (.str [c]) (.str s) = some (decide (c ∈ s)) := Eq.trans rfl rfl
theorem cmp_ninS (c : Nat) (s : List Nat) : cmp .nin (.str [c]) (.str s) = some (!decide (c ∈ s)) := Eq.trans rfl rfl
theorem eqv_int (i j : Int) : (D.int i).eqv (.int j) = (i == j) := by simp [D.eqv]
theorem eqv_str (i j : List Nat) : (D.str i).eqv (.str j) = (i == j) := by simp [D.eqv]
theorem eqv_bl (i j : Bool) : (D.bl i).eqv (.bl j) = (i == j) := by simp [D.eqv]
theorem eqv_tup (i j : List D) : (D.tup i).eqv (.tup j) = D.eqvs i j := by simp [D.eqv]
theorem eqv_lst (i j : List D) : (D.lst i).eqv (.lst j) = D.eqvs i j := by simp [D.eqv]
mutual
theorem eqv_refl : ∀ (d : D) (k : Nat), d.plain k = true → d.eqv d = true
  | .non, _, _ => by simp [D.eqv]
  | .bl b, _, _ => by simp [D.eqv]
  | .int b, _, _ => by simp [D.eqv]
  | .str b, _, _ => by simp [D.eqv]
  | .tup xs, 0, h => by simp [D.plain] at h
  | .tup xs, k + 1, h => by
    rw [eqv_tup]
    simp only [D.plain, List.all_eq_true] at h
    exact eqvs_refl xs k h
  | .lst xs, 0, h => by simp [D.plain] at h
  | .lst xs, k + 1, h => by
    rw [eqv_lst]
    simp only [D.plain, List.all_eq_true] at h
    exact eqvs_refl xs k h
  | .ref _, k, h => by cases k <;> simp [D.plain] at h
  | .fn _, k, h => by cases k <;> simp [D.plain] at h
  | .clo _ _, k, h => by cases k <;> simp [D.plain] at h
  | .scr _, k, h => by cases k <;> simp [D.plain] at h
theorem eqvs_refl : ∀ (ds : List D) (k : Nat), (∀ x ∈ ds, x.plain k = true) → D.eqvs ds ds = true
  | [], _, _ => by simp [D.eqvs]
  | d :: ds, k, h => by
    simp only [D.eqvs, Bool.and_eq_true]
    exact ⟨eqv_refl d k (h d (by simp)), eqvs_refl ds k fun x hx => h x (by simp [hx])⟩
end
theorem idx_L (xs : List D) (i : Int) : idx (.lst xs) (.int i) = at_ xs i := Eq.trans rfl rfl
theorem idx_T (xs : List D) (i : Int) : idx (.tup xs) (.int i) = at_ xs i := Eq.trans rfl rfl
theorem idx_S (s : List Nat) (i : Int) : idx (.str s) (.int i) = (at_ s i).map fun c => .str [c] := Eq.trans rfl rfl
theorem idx_R (ns : List Int) (i : Int) : idx (.scr ns) (.int i) = (at_ ns i).map .int := Eq.trans rfl rfl
theorem at_pos {α : Type} {xs : List α} {i : Int} (h0 : 0 ≤ i) (h1 : i < xs.length) : at_ xs i = xs[i.toNat]? := by
  unfold at_ ix
  rw [if_pos h0, if_pos h1]
  rfl
theorem at_nat {α : Type} {xs : List α} {i : Nat} (h1 : i < xs.length) : at_ xs (i : Int) = some xs[i] := by
  rw [at_pos (by omega) (by omega)]
  simp [h1]
theorem at_mem {α : Type} {xs : List α} {i : Int} (h0 : 0 ≤ i) (h1 : i < xs.length) : ∃ x, x ∈ xs ∧ at_ xs i = some x := by
  rw [at_pos h0 h1]
  have : i.toNat < xs.length := by omega
  exact ⟨xs[i.toNat], List.getElem_mem _, List.getElem?_eq_getElem this⟩
theorem slc_L (xs : List D) (lo hi : Option Int) : slc (.lst xs) lo hi = some (.lst (cut xs lo hi)) := Eq.trans rfl rfl
theorem slc_T (xs : List D) (lo hi : Option Int) : slc (.tup xs) lo hi = some (.tup (cut xs lo hi)) := Eq.trans rfl rfl
theorem slc_S (xs : List Nat) (lo hi : Option Int) : slc (.str xs) lo hi = some (.str (cut xs lo hi)) := Eq.trans rfl rfl
theorem cut_to {α : Type} (xs : List α) {j : Int} (h : 0 ≤ j) : cut xs none (some j) = xs.take j.toNat := by
  show (xs.drop 0).take ((if j < 0 then (j + (xs.length : Int)).toNat else min j.toNat xs.length) - 0) = _
  rw [if_neg (by omega), List.drop_zero, Nat.sub_zero]
  by_cases h1 : j.toNat ≤ xs.length
  · rw [Nat.min_eq_left h1]
  · rw [Nat.min_eq_right (by omega), List.take_length, List.take_of_length_le (by omega)]
theorem cut_from {α : Type} (xs : List α) {j : Int} (h : 0 ≤ j) : cut xs (some j) none = xs.drop j.toNat := by
  show ((xs.drop (if j < 0 then (j + (xs.length : Int)).toNat else min j.toNat xs.length)).take (xs.length - (if j < 0 then (j + (xs.length : Int)).toNat else min j.toNat xs.length))) = _
  rw [if_neg (by omega)]
  by_cases h1 : j.toNat ≤ xs.length
  · rw [Nat.min_eq_left h1, List.take_of_length_le (by simp)]
  · rw [Nat.min_eq_right (by omega), List.drop_of_length_le (by omega), List.drop_of_length_le (by omega)]
    simp
theorem len_S (s : List Nat) : biLen [.str s] = some (.int s.length) := Eq.trans rfl rfl
theorem len_T (s : List D) : biLen [.tup s] = some (.int s.length) := Eq.trans rfl rfl
theorem len_L (s : List D) : biLen [.lst s] = some (.int s.length) := Eq.trans rfl rfl
theorem len_R (s : List Int) : biLen [.scr s] = some (.int s.length) := Eq.trans rfl rfl
theorem int_I (i : Int) : biInt [.int i] = some (.int i) := Eq.trans rfl rfl
theorem tuple_L (i : List D) : biTuple [.lst i] = some (.tup i) := Eq.trans rfl rfl
theorem tuple_T (i : List D) : biTuple [.tup i] = some (.tup i) := Eq.trans rfl rfl
theorem list_L (i : List D) : biList [.lst i] = some (.lst i) := Eq.trans rfl rfl
theorem list_T (i : List D) : biList [.tup i] = some (.lst i) := Eq.trans rfl rfl
theorem min2_I (i j : Int) : biMin2 [.int i, .int j] = some (.int (if j < i then j else i)) := Eq.trans rfl rfl
theorem max2_I (i j : Int) : biMax2 [.int i, .int j] = some (.int (if j > i then j else i)) := Eq.trans rfl rfl
theorem all_L (xs : List D) : biAll [.lst xs] = (D.bls xs).map fun bs => .bl (bs.all id) := Eq.trans rfl rfl
theorem any_L (xs : List D) : biAny [.lst xs] = (D.bls xs).map fun bs => .bl (bs.any id) := Eq.trans rfl rfl
theorem bls_map {α : Type} (f : α → Bool) : ∀ xs : List α, D.bls (xs.map fun x => .bl (f x)) = some (xs.map f)
  | [] => rfl
  | x :: xs => by simp [D.bls, bls_map f xs]
theorem strs_map {α : Type} (f : α → List Nat) : ∀ xs : List α, D.strs (xs.map fun x => .str (f x)) = some (xs.map f)
  | [] => rfl
  | x :: xs => by simp [D.strs, strs_map f xs]
theorem ints_map {α : Type} (f : α → Int) : ∀ xs : List α, D.ints (xs.map fun x => .int (f x)) = some (xs.map f)
  | [] => rfl
  | x :: xs => by simp [D.ints, ints_map f xs]
theorem items_S (s : List Nat) : items (.str s) = some (s.map fun c => .str [c]) := Eq.trans rfl rfl
theorem items_T (s : List D) : items (.tup s) = some s := Eq.trans rfl rfl
theorem items_L (s : List D) : items (.lst s) = some s := Eq.trans rfl rfl
theorem rngOk_of {j : Int} (h0 : -1000000000 ≤ j) (h1 : j ≤ 1000000000) : rngOk j = true := by
  unfold rngOk
  simp only [Bool.and_eq_true, decide_eq_true_eq]
  have e : (2 : Int) ^ 62 = 4611686018427387904 := by decide
  rw [e]
  omega
theorem rng1 {j : Int} (h0 : -1000000000 ≤ j) (h1 : j ≤ 1000000000) : rng [.int j] = some (rangeL 0 j.toNat) := by
  simp [rng, rngOk_of h0 h1]
theorem rng2 {i j : Int} (h0 : -1000000000 ≤ i) (h1 : i ≤ 1000000000) (h2 : -1000000000 ≤ j) (h3 : j ≤ 1000000000) : rng [.int i, .int j] = some (rangeL i (j - i).toNat) := by
  simp [rng, rngOk_of h0 h1, rngOk_of h2 h3]
theorem mem_rangeL {lo : Int} {n : Nat} {d : D} (h : d ∈ rangeL lo n) : ∃ i : Nat, i < n ∧ d = .int (lo + (i : Nat)) := by
  obtain ⟨i, hi, rfl⟩ := List.mem_map.mp h
  exact ⟨i, List.mem_range.mp hi, rfl⟩
theorem mem_range0 {n : Nat} {d : D} (h : d ∈ rangeL 0 n) : ∃ i : Nat, i < n ∧ d = .int (i : Int) := by
  obtain ⟨i, hi, rfl⟩ := mem_rangeL h
  exact ⟨i, hi, by simp⟩
@[simp] theorem rangeL_length (lo : Int) (n : Nat) : (rangeL lo n).length = n := by simp [rangeL]
theorem rangeL0 (n : Nat) : rangeL 0 n = (List.range n).map fun i => .int (i : Int) := by simp [rangeL]
theorem mulOk_left {i j : Int} (h : -18446744073709551616 < i) (h' : i < 18446744073709551616) : mulOk i j = true := by
  unfold mulOk
  have e : (2 : Int) ^ 64 = 18446744073709551616 := by decide
  rw [e]
  simp only [Bool.or_eq_true, Bool.and_eq_true, decide_eq_true_eq]
  exact .inl (.inl ⟨h, h'⟩)
theorem mulOk_right {i j : Int} (h : -18446744073709551616 < j) (h' : j < 18446744073709551616) : mulOk i j = true := by
  unfold mulOk
  have e : (2 : Int) ^ 64 = 18446744073709551616 := by decide
  rw [e]
  simp only [Bool.or_eq_true, Bool.and_eq_true, decide_eq_true_eq]
  exact .inl (.inr ⟨h, h'⟩)
theorem divOk_of {j : Int} (h : 0 < j) (h' : j ≤ 1000000000000000000000000000000000000000000000000000) : divOk j = true := by
  unfold divOk
  simp only [Bool.and_eq_true, decide_eq_true_eq]
  refine ⟨h, Nat.lt_of_lt_of_le (m := 2 ^ 200) ?_ (Nat.pow_le_pow_right (by decide) (by decide))⟩
  have e : 2 ^ 200 = 1606938044258990275541962092341162602522202993782792835301376 := by decide
  rw [e]
  omega
theorem isInt_non  : biIs .isInt [D.non ] = some (.bl false) := Eq.trans rfl rfl
theorem isInt_bl (b : Bool) : biIs .isInt [D.bl b] = some (.bl true) := Eq.trans rfl rfl
theorem isInt_int (i : Int) : biIs .isInt [D.int i] = some (.bl true) := Eq.trans rfl rfl
theorem isInt_str (s : List Nat) : biIs .isInt [D.str s] = some (.bl false) := Eq.trans rfl rfl
theorem isInt_tup (xs : List D) : biIs .isInt [D.tup xs] = some (.bl false) := Eq.trans rfl rfl
theorem isInt_lst (xs : List D) : biIs .isInt [D.lst xs] = some (.bl false) := Eq.trans rfl rfl
theorem isBool_non  : biIs .isBool [D.non ] = some (.bl false) := Eq.trans rfl rfl
theorem isBool_bl (b : Bool) : biIs .isBool [D.bl b] = some (.bl true) := Eq.trans rfl rfl
theorem isBool_int (i : Int) : biIs .isBool [D.int i] = some (.bl false) := Eq.trans rfl rfl
theorem isBool_str (s : List Nat) : biIs .isBool [D.str s] = some (.bl false) := Eq.trans rfl rfl
theorem isBool_tup (xs : List D) : biIs .isBool [D.tup xs] = some (.bl false) := Eq.trans rfl rfl
theorem isBool_lst (xs : List D) : biIs .isBool [D.lst xs] = some (.bl false) := Eq.trans rfl rfl
theorem isStr_non  : biIs .isStr [D.non ] = some (.bl false) := Eq.trans rfl rfl
theorem isStr_bl (b : Bool) : biIs .isStr [D.bl b] = some (.bl false) := Eq.trans rfl rfl
theorem isStr_int (i : Int) : biIs .isStr [D.int i] = some (.bl false) := Eq.trans rfl rfl
theorem isStr_str (s : List Nat) : biIs .isStr [D.str s] = some (.bl true) := Eq.trans rfl rfl
theorem isStr_tup (xs : List D) : biIs .isStr [D.tup xs] = some (.bl false) := Eq.trans rfl rfl
theorem isStr_lst (xs : List D) : biIs .isStr [D.lst xs] = some (.bl false) := Eq.trans rfl rfl
theorem isTuple_non  : biIs .isTuple [D.non ] = some (.bl false) := Eq.trans rfl rfl
theorem isTuple_bl (b : Bool) : biIs .isTuple [D.bl b] = some (.bl false) := Eq.trans rfl rfl
theorem isTuple_int (i : Int) : biIs .isTuple [D.int i] = some (.bl false) := Eq.trans rfl rfl
theorem isTuple_str (s : List Nat) : biIs .isTuple [D.str s] = some (.bl false) := Eq.trans rfl rfl
theorem isTuple_tup (xs : List D) : biIs .isTuple [D.tup xs] = some (.bl true) := Eq.trans rfl rfl
theorem isTuple_lst (xs : List D) : biIs .isTuple [D.lst xs] = some (.bl false) := Eq.trans rfl rfl
theorem plain_or {k : Nat} {v : D} (h : v.plain k = true) : v = .non ∨ (∃ b, v = .bl b) ∨ (∃ i, v = .int i) ∨ (∃ s, v = .str s) ∨ (∃ xs, v = .tup xs) ∨ (∃ xs, v = .lst xs) := by
  cases v with
  | non => exact .inl rfl
  | bl b => exact .inr (.inl ⟨_, rfl⟩)
  | int i => exact .inr (.inr (.inl ⟨_, rfl⟩))
  | str s => exact .inr (.inr (.inr (.inl ⟨_, rfl⟩)))
  | tup xs => exact .inr (.inr (.inr (.inr (.inl ⟨_, rfl⟩))))
  | lst xs => exact .inr (.inr (.inr (.inr (.inr ⟨_, rfl⟩))))
  | _ => cases k <;> simp [D.plain] at h
theorem isStr_not {k : Nat} {v : D} (h : v.plain k = true) (f : ∀ s, v ≠ .str s) : biIs .isStr [v] = some (.bl false) := by
  rcases plain_or h with rfl | ⟨b, rfl⟩ | ⟨i, rfl⟩ | ⟨s, rfl⟩ | ⟨xs, rfl⟩ | ⟨xs, rfl⟩
  · rfl
  · rfl
  · rfl
  · exact absurd rfl (f s)
  · rfl
  · rfl
theorem plain_tup {k : Nat} {xs : List D} : (D.tup xs).plain (k + 1) = true ↔ ∀ x ∈ xs, x.plain k = true := by simp [D.plain]
theorem plain_lst {k : Nat} {xs : List D} : (D.lst xs).plain (k + 1) = true ↔ ∀ x ∈ xs, x.plain k = true := by simp [D.plain]
theorem plain_str (k : Nat) (s : List Nat) : (D.str s).plain k = true := by cases k <;> rfl
theorem plain_int (k : Nat) (s : Int) : (D.int s).plain k = true := by cases k <;> rfl
theorem plain_bl (k : Nat) (s : Bool) : (D.bl s).plain k = true := by cases k <;> rfl
theorem plain_non (k : Nat) : D.non.plain k = true := by cases k <;> rfl
theorem join_nil : ∀ ss : List (List Nat), join [] ss = ss.flatten
  | [] => rfl
  | [a] => by simp [join]
  | a :: b :: r => by
    have := join_nil (b :: r)
    simp only [join, this, List.append_nil, List.flatten_cons]
theorem flat_one : ∀ cs : List Nat, (cs.map fun c => [c]).flatten = cs
  | [] => rfl
  | c :: cs => by simp [flat_one cs]
/-- ''.join of signs -/
theorem join_signs {cs : List Nat} (h : cs.length ≤ 1000) : meJoin (.str []) [.lst (cs.map fun c => .str [c])] = some (.str cs) := by
  have h1 : D.strs (cs.map fun c => .str [c]) = some (cs.map fun c => [c]) := strs_map (fun c => [c]) cs
  have h2 : joinOk [] (cs.map fun c => [c]) = true := by
    unfold joinOk
    simp [h]
  simp only [meJoin, h1, h2, if_true, join_nil, flat_one]
theorem forL_ix {g : D → Env → Option Env} {body : Env → Store → FR} (I : Nat → Env → Store → Prop) : ∀ (xs : List D) (i : Nat) (e : Env) (S : Store), I i e S →
    (∀ j x, xs[j]? = some x → ∀ e S, I (i + j) e S → ∃ e1, g x e = some e1 ∧ ∃ e' S', (body e1 S = .nx e' S' ∨ body e1 S = .ct e' S') ∧ I (i + j + 1) e' S') → ∃ e' S', forL g body xs e S = .nx e' S' ∧ I (i + xs.length) e' S'
  | [], i, e, S, h, _ => ⟨e, S, rfl, h⟩
  | x :: xs, i, e, S, h, hh => by
    obtain ⟨e1, h1, e', S', h2, h3⟩ := hh 0 x rfl e S h
    obtain ⟨e2, S2, g1, g2⟩ := forL_ix I xs (i + 1) e' S' h3 fun j y hy e S h => by
      have := hh (j + 1) y hy e S (by rw [show i + (j + 1) = i + 1 + j by omega]; exact h)
      rw [show i + (j + 1) + 1 = i + 1 + j + 1 by omega] at this
      exact this
    refine ⟨e2, S2, ?_, by rw [List.length_cons, show i + (xs.length + 1) = i + 1 + xs.length by omega]; exact g2⟩
    simp only [forL, h1, FR.ofO_some]
    rcases h2 with h2 | h2 <;> rw [h2] <;> exact g1
theorem run_fn {pg : Pg} {n f : Nat} {d : Fn} {ds : List D} {S : Store} (h : pg.fns[f]? = some d) (hl : ds.length = d.params) : run pg (n + 1) (.fn f) ds S = ofFR d.cut S.length (evSs pg.gl (run pg n) pg.exm pg.hot d.body (start d.slots ds) S) := by
  show (match pg.fns[f]? with
    | some d => if ds.length = d.params then ofFR d.cut S.length (evSs pg.gl (run pg n) pg.exm pg.hot d.body (start d.slots ds) S) else .st
    | none => .st) = _
  rw [h]
  exact if_pos hl
/-! ### comprehensions -/
theorem compL_inv {g : D → Option Env} {c f : Env → Store → R D} (I : List D → Store → Prop) : ∀ (xs acc : List D) (S : Store), acc.length + xs.length ≤ sizeL → I acc S →
    (∀ x ∈ xs, ∀ acc S, I acc S → ∃ e, g x = some e ∧ c e S = .ok (.bl true) S ∧ ∃ d S', f e S = .ok d S' ∧ noC d = true ∧ I (acc ++ [d]) S') →
    ∃ ys S', compL g c f xs acc S = .ok ys S' ∧ ys.length = acc.length + xs.length ∧ I ys S'
  | [], acc, S, _, h, _ => ⟨acc, S, rfl, by simp, h⟩
  | x :: xs, acc, S, hl, h, hh => by
    obtain ⟨e, h1, h2, d, S', h3, h4, h5⟩ := hh x (by simp) acc S h
    obtain ⟨ys, S2, g1, g2, g3⟩ := compL_inv I xs (acc ++ [d]) S' (by simp at hl ⊢; omega) h5 fun y hy => hh y (by simp [hy])
    refine ⟨ys, S2, ?_, by rw [g2]; simp; omega, g3⟩
    have hl' : acc.length < sizeL := by simp at hl; omega
    simp only [compL, h1, h2, h3, h4, asO_some, R.nox_ok, R.bind_ok, truth_bl, two_true, hl', decide_true, Bool.and_self, gd_true]
    exact g1
theorem compL_filter {g : D → Option Env} {c f : Env → Store → R D} {S : Store} (p : D → Bool) (h : D → D) : ∀ (xs acc : List D), acc.length + xs.length ≤ sizeL →
    (∀ x ∈ xs, ∃ e, g x = some e ∧ c e S = .ok (.bl (p x)) S ∧ (p x = true → f e S = .ok (h x) S ∧ noC (h x) = true)) → compL g c f xs acc S = .ok (acc ++ (xs.filter p).map h) S
  | [], acc, _, _ => by simp [compL]
  | x :: xs, acc, hl, hh => by
    obtain ⟨e, h1, h2, h3⟩ := hh x (by simp)
    have hl' : acc.length < sizeL := by simp at hl; omega
    cases hp : p x with
    | true =>
      obtain ⟨h4, h5⟩ := h3 hp
      have ih := compL_filter (g := g) (c := c) (f := f) (S := S) p h xs (acc ++ [h x]) (by simp at hl ⊢; omega) fun y hy => hh y (by simp [hy])
      simp only [compL, h1, h2, h4, h5, hp, asO_some, R.nox_ok, R.bind_ok, truth_bl, two_true, hl', decide_true, Bool.and_self, gd_true]
      rw [ih]
      simp [hp]
    | false =>
      have ih := compL_filter (g := g) (c := c) (f := f) (S := S) p h xs acc (by simp at hl ⊢; omega) fun y hy => hh y (by simp [hy])
      simp only [compL, h1, h2, hp, asO_some, R.nox_ok, R.bind_ok, truth_bl, two_false]
      rw [ih]
      simp [hp]
theorem compL_map {g : D → Option Env} {c f : Env → Store → R D} {S : Store} (h : D → D) (xs acc : List D) (hl : acc.length + xs.length ≤ sizeL)
    (hh : ∀ x ∈ xs, ∃ e, g x = some e ∧ c e S = .ok (.bl true) S ∧ f e S = .ok (h x) S ∧ noC (h x) = true) : compL g c f xs acc S = .ok (acc ++ xs.map h) S := by
  have := compL_filter (g := g) (c := c) (f := f) (S := S) (fun _ => true) h xs acc hl fun x hx => by
    obtain ⟨e, h1, h2, h3⟩ := hh x hx
    exact ⟨e, h1, h2, fun _ => h3⟩
  rw [this, List.filter_eq_self.mpr (fun _ _ => rfl)]
/-! ### loops -/
theorem forL_inv {g : D → Env → Option Env} {body : Env → Store → FR} (I : Env → Store → Prop) : ∀ (xs : List D) (e : Env) (S : Store), I e S →
    (∀ x ∈ xs, ∀ e S, I e S → ∃ e1, g x e = some e1 ∧ ∃ e' S', (body e1 S = .nx e' S' ∨ body e1 S = .ct e' S') ∧ I e' S') → ∃ e' S', forL g body xs e S = .nx e' S' ∧ I e' S'
  | [], e, S, h, _ => ⟨e, S, rfl, h⟩
  | x :: xs, e, S, h, hh => by
    obtain ⟨e1, h1, e', S', h2, h3⟩ := hh x (by simp) e S h
    obtain ⟨e2, S2, g1, g2⟩ := forL_inv I xs e' S' h3 fun y hy => hh y (by simp [hy])
    refine ⟨e2, S2, ?_, g2⟩
    simp only [forL, h1, FR.ofO_some]
    rcases h2 with h2 | h2 <;> rw [h2] <;> exact g1
/-- a loop that ends by a return at the first item that p does not hold of -/
theorem forL_find {g : D → Env → Option Env} {body : Env → Store → FR} {S : Store} (I : Env → Prop) (p : D → Bool) (d : D) : ∀ (xs : List D) (e : Env), I e →
    (∀ x ∈ xs, ∀ e, I e → ∃ e1, g x e = some e1 ∧ (p x = true → ∃ e', (body e1 S = .nx e' S ∨ body e1 S = .ct e' S) ∧ I e') ∧ (p x = false → body e1 S = .rt d S)) →
    (xs.all p = true ∧ ∃ e', forL g body xs e S = .nx e' S ∧ I e') ∨ (xs.all p = false ∧ forL g body xs e S = .rt d S)
  | [], e, h, _ => .inl ⟨rfl, e, rfl, h⟩
  | x :: xs, e, h, hh => by
    obtain ⟨e1, h1, h2, h3⟩ := hh x (by simp) e h
    cases hp : p x with
    | true =>
      obtain ⟨e', h4, h5⟩ := h2 hp
      have ih := forL_find (g := g) (body := body) (S := S) I p d xs e' h5 fun y hy => hh y (by simp [hy])
      have e0 : forL g body (x :: xs) e S = forL g body xs e' S := by
        simp only [forL, h1, FR.ofO_some]
        rcases h4 with h4 | h4 <;> rw [h4] <;> rfl
      rw [e0]
      simpa [hp] using ih
    | false =>
      right
      refine ⟨by simp [hp], ?_⟩
      simp only [forL, h1, FR.ofO_some, h3 hp, FR.turn_rt]
/-! ### the store -/
def SOk (S : Store) : Prop := S.all (lowO S.length 12) = true
theorem ofFR_rt {S : Store} {d : D} (h : lowD S.length 12 d = true) (hS : SOk S) : ofFR true S.length (.rt d S) = .ok d S := by
  have e : S.all (lowO S.length 12) = true := hS
  simp only [ofFR, cutR, List.take_length, h, e, Bool.and_self, if_true]
theorem ofFR_nx {S : Store} {e : Env} (hS : SOk S) : ofFR true S.length (.nx e S) = .ok .non S := by
  have e : S.all (lowO S.length 12) = true := hS
  simp only [ofFR, cutR, List.take_length, lowD, e, Bool.and_self, if_true]
theorem ofFR_ex {S : Store} {k : Nat} {p : D} {e : Env} (h : lowD S.length 12 p = true) (hS : SOk S) : ofFR true S.length (.ex k p e S) = .ex k p S := by
  have e : S.all (lowO S.length 12) = true := hS
  simp only [ofFR, List.take_length, h, e, Bool.and_self, if_true]
theorem ofFR_f {S : Store} {n : Nat} {d : D} (h : noC d = true) : ofFR false n (.rt d S) = .ok d S := by
  simp [ofFR, cutR, h]
/-- behind a call that laid more in the store than is named -/
theorem ofFR_cut {S T : Store} {d : D} (h : lowD S.length 12 d = true) (hT : T.take S.length = S) (hS : SOk S) : ofFR true S.length (.rt d T) = .ok d S := by
  have e : S.all (lowO S.length 12) = true := hS
  simp only [ofFR, cutR, h, hT, e, Bool.and_self, if_true]
/-- two numbers at a place of the store -/
structure Src (S : Store) (l : Nat) : Prop where
  at_ : ∃ a b : Int, S[l]? = some (.lst [.int a, .int b])
  ok : SOk S
theorem Src.lt {S : Store} {l : Nat} (h : Src S l) : l < S.length := by
  obtain ⟨a, b, h⟩ := h.at_
  exact (List.getElem?_eq_some_iff.mp h).1
structure Ev (l : Nat) (S T : Store) : Prop where
  le : S.length ≤ T.length
  kp : ∀ i o, i ≠ l → S[i]? = some o → T[i]? = some o
  src : Src T l
theorem Ev.refl {l : Nat} {S : Store} (h : Src S l) : Ev l S S := ⟨Nat.le_refl _, fun _ _ _ h => h, h⟩
theorem Ev.trans {l : Nat} {S T U : Store} (a : Ev l S T) (b : Ev l T U) : Ev l S U := ⟨Nat.le_trans a.le b.le, fun i o h1 h2 => b.kp i o h1 (a.kp i o h1 h2), b.src⟩
theorem all_at {α : Type} {xs : List α} {p : α → Bool} : xs.all p = true ↔ ∀ (i : Nat) (x : α), xs[i]? = some x → p x = true := by
  rw [List.all_eq_true]
  constructor
  · intro h i x hx
    exact h x (List.mem_of_getElem? hx)
  · intro h x hx
    obtain ⟨i, hi⟩ := List.mem_iff_getElem?.mp hx
    exact h i x hi
theorem ev_set {l : Nat} {S : Store} {a b : Int} (h : Src S l) : Ev l S (S.set l (.lst [.int a, .int b])) := by
  have hl := h.lt
  refine ⟨by simp, fun i o h1 h2 => ?_, ⟨⟨a, b, by simp [hl]⟩, ?_⟩⟩
  · rw [List.getElem?_set_ne (Ne.symm h1)]
    exact h2
  · unfold SOk
    rw [List.length_set, all_at]
    intro i x hx
    by_cases e : i = l
    · subst e
      rw [List.getElem?_set_self hl] at hx
      cases hx
      rfl
    · rw [List.getElem?_set_ne (Ne.symm e)] at hx
      exact all_at.mp h.ok i x hx
theorem ok_push {S : Store} {o : O} (h : SOk S) (ho : lowO (S.length + 1) 12 o = true) : SOk (S ++ [o]) := by
  unfold SOk
  simp only [List.all_append, List.length_append, List.length_singleton, List.all_cons, List.all_nil, Bool.and_true, Bool.and_eq_true]
  refine ⟨?_, ho⟩
  rw [List.all_eq_true]
  intro x hx
  exact lowO_le (by omega) x (List.all_eq_true.mp h x hx)
theorem ev_push {l : Nat} {S : Store} {o : O} (h : Src S l) (ho : lowO (S.length + 1) 12 o = true) : Ev l S (S ++ [o]) := by
  refine ⟨by simp, fun i u h1 h2 => ?_, ⟨?_, ok_push h.ok ho⟩⟩
  · rw [List.getElem?_append_left (List.getElem?_eq_some_iff.mp h2).1]
    exact h2
  · obtain ⟨a, b, q⟩ := h.at_
    exact ⟨a, b, by rw [List.getElem?_append_left h.lt]; exact q⟩
/-- another place is written -/
theorem ev_put {l m : Nat} {S : Store} {o : O} (h : Src S l) (hm : m ≠ l) (ho : lowO S.length 12 o = true) : Src (S.set m o) l := by
  refine ⟨?_, ?_⟩
  · obtain ⟨a, b, q⟩ := h.at_
    exact ⟨a, b, by rw [List.getElem?_set_ne hm]; exact q⟩
  · unfold SOk
    rw [List.length_set, List.all_eq_true]
    intro x hx
    rcases List.mem_or_eq_of_mem_set hx with hx | rfl
    · exact List.all_eq_true.mp h.ok x hx
    · exact ho
theorem Ev.cut {l : Nat} {S T : Store} (h : Src S l) (e : Ev l S T) : (T.take S.length).all (lowO S.length 12) = true ∧ (T.take S.length).length = S.length ∧ Ev l S (T.take S.length) := by
  have hl : (T.take S.length).length = S.length := by
    rw [List.length_take]
    have := e.le
    omega
  have k : ∀ i o, i ≠ l → S[i]? = some o → (T.take S.length)[i]? = some o := fun i o h1 h2 => by
    rw [List.getElem?_take_of_lt (List.getElem?_eq_some_iff.mp h2).1]
    exact e.kp i o h1 h2
  have all : (T.take S.length).all (lowO S.length 12) = true := by
    rw [all_at]
    intro i x hx
    have hi : i < S.length := by
      have := (List.getElem?_eq_some_iff.mp hx).1
      omega
    by_cases q : i = l
    · subst q
      obtain ⟨a, b, hb⟩ := e.src.at_
      rw [List.getElem?_take_of_lt hi, hb] at hx
      cases hx
      rfl
    · have h2 : S[i]? = some S[i] := List.getElem?_eq_getElem hi
      rw [k i _ q h2] at hx
      cases hx
      exact all_at.mp h.ok i _ h2
  refine ⟨all, hl, ⟨by omega, k, ⟨?_, ?_⟩⟩⟩
  · obtain ⟨a, b, hb⟩ := e.src.at_
    exact ⟨a, b, by rw [List.getElem?_take_of_lt h.lt]; exact hb⟩
  · unfold SOk
    rw [hl]
    exact all
theorem ev_put' {l m : Nat} {S T : Store} {o : O} (e : Ev l S T) (hm : S.length ≤ m) (hl : l < S.length) (ho : lowO T.length 12 o = true) : Ev l S (T.set m o) := by
  refine ⟨by rw [List.length_set]; exact e.le, fun i u h1 h2 => ?_, ev_put e.src (by omega) ho⟩
  have hi := (List.getElem?_eq_some_iff.mp h2).1
  rw [List.getElem?_set_ne (by omega)]
  exact e.kp i u h1 h2
theorem set_last {S : Store} {o p : O} : (S ++ [o]).set S.length p = S ++ [p] := by
  rw [List.set_append_right _ _ (Nat.le_refl _)]
  simp
theorem at_last {S : Store} {o : O} : (S ++ [o])[S.length]? = some o := by simp
/-- what a call that draws gives -/
def Res (l : Nat) (S : Store) (r : R D) (P : D → Store → Prop) : Prop := ∃ d T, r = .ok d T ∧ Ev l S T ∧ P d T
theorem res_cut {l : Nat} {S T : Store} {d : D} {P : D → Prop} (h : Src S l) (e : Ev l S T) (hd : lowD S.length 12 d = true) (hP : P d) : Res l S (ofFR true S.length (.rt d T)) fun d T => P d ∧ T.length = S.length := by
  obtain ⟨h1, h2, h3⟩ := e.cut h
  refine ⟨d, T.take S.length, ?_, h3, hP, h2⟩
  simp only [ofFR, cutR, hd, h1, Bool.and_self, if_true]
end Rx
set_option Elab.async false
set_option linter.all false
set_option maxRecDepth 100000
set_option maxHeartbeats 0
namespace My
open PySem PySem.Spec PyProof.Rows L2 Rx
def T : Tab := { fn := [("is_line", 1), ("is_right_tile", 1), ("need_tile", 1), ("text_of", 1), ("tile_text", 1), ("read_tile", 1), ("_law_source", 2), ("_law_pick", 2), ("_law_chosen", 2), ("_law_tile", 2), ("_law_due", 1), ("_law_read", 1), ("_law_bent", 2), ("_law_written", 0), ("law", 1)], gl := [("MOST_SIDE", .int 6)], ex := ["InvalidTile", "InvalidSize", "InvalidCell", "InvalidWay", "InvalidNumber", "InvalidIndex", "InvalidWord", "Clash", "Unlike", "NothingToUndo", "TooMany", "InvalidText"], blt := ["all", "enumerate", "int", "isinstance", "len", "list", "max", "min", "range", "str", "tuple"], rfn := "_law_refused", pl := fun j => !([10, 11] : List Nat).contains j, vf := fun j => ([(10, "limit"), (11, "part")] : List (Nat × Str)).lookup j }
/-! is_line -/
def K0_0 : E := (.cmp .in_ (.var 1) (.cstr [46, 35]))
def B0 : Ss := (.cons (.ret (.andE (.bi .isStr (.cons (.var 0) .nil)) (.andE (.chn .le .le (.cint 1) (.bi .len (.cons (.var 0) .nil)) (.gl 0)) (.bi .all_ (.cons (.comp [1] (.nm 1) (.seq (.var 0)) K0_0 .no) .nil))))) .nil)
def F0 : Fn := { slots := 2, params := 1, body := B0, cut := true }
/-! is_right_tile -/
def K1_0 : E := (.call 0 (.cons (.var 1) .nil))
def K1_1 : E := (.cmp .eq (.bi .len (.cons (.var 1) .nil)) (.bi .len (.cons (.idx (.var 0) (.cint 0)) .nil)))
def B1 : Ss := (.cons (.ite (.orE (.notE (.bi .isTuple (.cons (.var 0) .nil))) (.orE (.notE (.chn .le .le (.cint 1) (.bi .len (.cons (.var 0) .nil)) (.gl 0))) (.notE (.bi .all_ (.cons (.comp [1] (.nm 1) (.seq (.var 0)) K1_0 .no) .nil))))) (.cons (.ret (.cbl false)) .nil) .nil) (.cons (.ret (.bi .all_ (.cons (.comp [1] (.nm 1) (.seq (.var 0)) K1_1 .no) .nil))) .nil))
def F1 : Fn := { slots := 2, params := 1, body := B1, cut := true }
/-! need_tile -/
def B2 : Ss := (.cons (.ite (.notE (.call 1 (.cons (.var 0) .nil))) (.cons (.rais 0) .nil) .nil) .nil)
def F2 : Fn := { slots := 1, params := 1, body := B2, cut := true }
/-! text_of -/
def B3 : Ss := (.cons (.ret (.mth .join (.cstr [47]) (.cons (.var 0) .nil))) .nil)
def F3 : Fn := { slots := 1, params := 1, body := B3, cut := true }
/-! tile_text -/
def B4 : Ss := (.cons (.expr (.call 2 (.cons (.var 0) .nil))) (.cons (.ret (.call 3 (.cons (.var 0) .nil))) .nil))
def F4 : Fn := { slots := 1, params := 1, body := B4, cut := true }
/-! read_tile -/
def L5_0 : Ss := (.cons (.ite (.orE (.notE (.call 0 (.cons (.var 3) .nil))) (.cmp .ne (.bi .len (.cons (.var 3) .nil)) (.bi .len (.cons (.idx (.var 1) (.cint 0)) .nil)))) (.cons (.raiV 11 (.bin .add (.var 2) (.cint 1))) .nil) .nil) .nil)
def B5 : Ss := (.cons (.ite (.notE (.bi .isStr (.cons (.var 0) .nil))) (.cons (.raiV 11 (.cint 0)) .nil) .nil) (.cons (.asg 1 (.mth .split (.var 0) (.cons (.cstr [47]) .nil))) (.cons (.for_ (.tp [2, 3]) (.enm (.var 1)) L5_0) (.cons (.ite (.cmp .gt (.bi .len (.cons (.var 1) .nil)) (.gl 0)) (.cons (.raiV 11 (.bin .add (.gl 0) (.cint 1))) .nil) .nil) (.cons (.ret (.bi .tuple_ (.cons (.var 1) .nil))) .nil)))))
def F5 : Fn := { slots := 4, params := 1, body := B5, cut := true }
/-! _law_source -/
def B6 : Ss := (.cons (.asg 2 (.cint 0)) (.cons (.ite (.cmp .gt (.bi .len (.cons (.var 0) .nil)) (.var 1)) (.cons (.asg 2 (.bi .int_ (.cons (.idx (.var 0) (.var 1)) .nil))) .nil) .nil) (.cons (.asg 3 (.bin .mod (.bin .add (.bin .add (.bin .mul (.var 2) (.cint 16807)) (.bin .mul (.cint 60919) (.var 1))) (.cint 31)) (.cint 2147481173))) (.cons (.asg 3 (.bin .add (.bin .add (.bin .mod (.bin .mul (.var 3) (.var 3)) (.cint 2147481151)) (.bin .mul (.cint 2) (.var 1))) (.cint 5))) (.cons (.ret (.alc (.lst (.cons (.ite (.cmp .ge (.var 2) (.bin .pow (.cint 10) (.cint 18))) (.var 2) (.cint 0)) (.cons (.var 3) .nil))))) .nil)))))
def F6 : Fn := { slots := 4, params := 2, body := B6, cut := false }
/-! _law_pick -/
def B7 : Ss := (.cons (.ite (.cmp .gt (.idx (.var 0) (.cint 0)) (.cint 0)) (.cons (.asg 2 (.bin .mod (.bi .int_ (.cons (.idx (.var 0) (.cint 0)) .nil)) (.var 1))) (.cons (.setI (.var 0) (.cint 0) (.bin .fdiv (.bi .int_ (.cons (.idx (.var 0) (.cint 0)) .nil)) (.var 1))) (.cons (.ret (.var 2)) .nil))) .nil) (.cons (.setI (.var 0) (.cint 1) (.bin .mod (.bi .int_ (.cons (.bin .add (.bin .mul (.idx (.var 0) (.cint 1)) (.cint 44497)) (.cint 9973)) .nil)) (.cint 2147483647))) (.cons (.ret (.bin .mod (.bin .fdiv (.bin .mod (.bi .int_ (.cons (.bin .mul (.idx (.var 0) (.cint 1)) (.idx (.var 0) (.cint 1))) .nil)) (.cint 2147483399)) (.cint 11)) (.var 1))) .nil)))
def F7 : Fn := { slots := 3, params := 2, body := B7, cut := true }
/-! _law_chosen -/
def B8 : Ss := (.cons (.ret (.idx (.var 1) (.call 7 (.cons (.var 0) (.cons (.bi .len (.cons (.var 1) .nil)) .nil))))) .nil)
def F8 : Fn := { slots := 2, params := 2, body := B8, cut := true }
/-! _law_tile -/
def K9_0 : E := (.ite (.cmp .eq (.call 7 (.cons (.var 0) (.cons (.var 3) .nil))) (.cint 0)) (.cstr [35]) (.cstr [46]))
def L9_0 : Ss := (.cons (.app (.var 4) (.mth .join (.cstr []) (.cons (.comp [6] (.nm 6) (.rng (.cons (.var 2) .nil)) K9_0 .no) .nil))) .nil)
def B9 : Ss := (.cons (.unp (.tp [2, 3, 4]) (.tup (.cons (.bin .add (.cint 1) (.call 7 (.cons (.var 0) (.cons (.var 1) .nil)))) (.cons (.call 8 (.cons (.var 0) (.cons (.lst (.cons (.cint 2) (.cons (.cint 3) (.cons (.cint 4) (.cons (.cint 6) .nil))))) .nil))) (.cons (.alc (.lst .nil)) .nil))))) (.cons (.for_ (.nm 5) (.rng (.cons (.bin .add (.cint 1) (.call 7 (.cons (.var 0) (.cons (.var 1) .nil)))) .nil)) L9_0) (.cons (.ret (.bi .tuple_ (.cons (.var 4) .nil))) .nil)))
def F9 : Fn := { slots := 7, params := 2, body := B9, cut := true }
/-! _law_due -/
def L10_0 : Ss := (.cons (.asg 3 (.idx (.var 1) (.var 2))) (.cons (.ite (.orE (.notE (.chn .le .le (.cint 1) (.bi .len (.cons (.var 3) .nil)) (.cint 6))) (.cmp .ne (.bi .len (.cons (.var 3) .nil)) (.bi .len (.cons (.idx (.var 1) (.cint 0)) .nil)))) (.cons (.ret (.bin .add (.var 2) (.cint 1))) .nil) .nil) (.cons (.ite (.cmp .ne (.mth .repl (.mth .repl (.var 3) (.cons (.cstr [46]) (.cons (.cstr []) .nil))) (.cons (.cstr [35]) (.cons (.cstr []) .nil))) (.cstr [])) (.cons (.ret (.bin .add (.var 2) (.cint 1))) .nil) .nil) .nil)))
def B10 : Ss := (.cons (.ite (.notE (.bi .isStr (.cons (.var 0) .nil))) (.cons (.ret (.cint 0)) .nil) .nil) (.cons (.asg 1 (.mth .split (.var 0) (.cons (.cstr [47]) .nil))) (.cons (.for_ (.nm 2) (.rng (.cons (.bi .len (.cons (.var 1) .nil)) .nil)) L10_0) (.cons (.ret (.ite (.cmp .lt (.bi .len (.cons (.var 1) .nil)) (.cint 7)) (.bi .tuple_ (.cons (.var 1) .nil)) (.cint 7))) .nil))))
def F10 : Fn := { slots := 4, params := 1, body := B10, cut := true }
/-! _law_read -/
def B11 : Ss := (.cons (.tryH (.cons (.ret (.call 5 (.cons (.var 0) .nil))) .nil) 11 .fld) .nil)
def F11 : Fn := { slots := 2, params := 1, body := B11, cut := true }
/-! _law_bent -/
def B12 : Ss := (.cons (.par [2, 3] (.cons (.call 7 (.cons (.var 0) (.cons (.bin .add (.bi .len (.cons (.var 1) .nil)) (.cint 1)) .nil))) (.cons (.call 7 (.cons (.var 0) (.cons (.cint 5) .nil))) .nil))) (.cons (.ite (.cmp .lt (.var 3) (.cint 2)) (.cons (.ret (.bin .add (.bin .add (.slc (.var 1) .no (.yes (.var 2))) (.call 8 (.cons (.var 0) (.cons (.lst (.cons (.cstr [46]) (.cons (.cstr [35]) (.cons (.cstr [47]) (.cons (.cstr [32]) (.cons (.cstr [120]) (.cons (.cstr [10]) .nil))))))) .nil)))) (.slc (.var 1) (.yes (.var 2)) .no))) .nil) .nil) (.cons (.ite (.cmp .eq (.var 3) (.cint 2)) (.cons (.ret (.bin .add (.slc (.var 1) .no (.yes (.var 2))) (.slc (.var 1) (.yes (.bin .add (.var 2) (.cint 1))) .no))) .nil) .nil) (.cons (.asg 4 (.mth .split (.var 1) (.cons (.cstr [47]) .nil))) (.cons (.asg 5 (.call 7 (.cons (.var 0) (.cons (.bi .len (.cons (.var 4) .nil)) .nil)))) (.cons (.asg 6 (.slc (.var 4) (.yes (.bin .add (.var 5) (.bin .mod (.var 3) (.cint 2)))) (.yes (.bin .add (.var 5) (.cint 1))))) (.cons (.ret (.mth .join (.cstr [47]) (.cons (.bin .add (.bin .add (.slc (.var 4) .no (.yes (.var 5))) (.var 6)) (.slc (.var 4) (.yes (.var 5)) .no)) .nil))) .nil)))))))
def F12 : Fn := { slots := 7, params := 2, body := B12, cut := true }
/-! _law_written -/
def K13_0 : E := (.var 1)
def B13 : Ss := (.cons (.ite (.orE (.cmp .ne (.call 4 (.cons (.tup (.cons (.cstr [46, 46]) (.cons (.cstr [46, 35]) .nil))) .nil)) (.cstr [46, 46, 47, 46, 35])) (.orE (.cmp .ne (.call 4 (.cons (.tup (.cons (.cstr [46]) .nil)) .nil)) (.cstr [46])) (.cmp .ne (.call 5 (.cons (.cstr [46, 46, 35, 47, 46, 35, 35]) .nil)) (.tup (.cons (.cstr [46, 46, 35]) (.cons (.cstr [46, 35, 35]) .nil)))))) (.cons (.ret (.cbl false)) .nil) .nil) (.cons (.asg 0 (.lst (.cons (.tup (.cons (.cstr []) (.cons (.cint 1) .nil))) (.cons (.tup (.cons .cnon (.cons (.cint 0) .nil))) (.cons (.tup (.cons (.cstr [46, 47]) (.cons (.cint 2) .nil))) (.cons (.tup (.cons (.cstr [47, 46]) (.cons (.cint 1) .nil))) (.cons (.tup (.cons (.cstr [46, 46, 47, 46]) (.cons (.cint 2) .nil))) .nil))))))) (.cons (.asg 0 (.bin .add (.var 0) (.lst (.cons (.tup (.cons (.cstr [46, 47, 46, 46]) (.cons (.cint 2) .nil))) (.cons (.tup (.cons (.cstr [120]) (.cons (.cint 1) .nil))) (.cons (.tup (.cons (.cstr [46, 46, 46, 46, 46, 46, 46]) (.cons (.cint 1) .nil))) (.cons (.tup (.cons (.cstr [46, 47, 46, 47, 46, 47, 46, 47, 46, 47, 46, 47, 46, 47, 120]) (.cons (.cint 8) .nil))) .nil))))))) (.cons (.asg 0 (.bin .add (.var 0) (.lst (.cons (.tup (.cons (.cstr [46, 47, 46, 47, 46, 47, 46, 47, 46, 47, 46]) (.cons (.bin .mul (.tup (.cons (.cstr [46]) .nil)) (.cint 6)) .nil))) (.cons (.tup (.cons (.cstr [46, 47, 46, 47, 46, 47, 46, 47, 46, 47, 46, 47, 46, 47, 46]) (.cons (.cint 7) .nil))) (.cons (.tup (.cons (.cstr [46, 47, 46, 47, 46, 47, 46, 47, 46, 47, 46, 47, 46, 47, 46, 47, 46, 47, 46]) (.cons (.cint 7) .nil))) (.cons (.tup (.cons (.cstr [46, 46, 10]) (.cons (.cint 1) .nil))) .nil))))))) (.cons (.asg 0 (.bin .add (.var 0) (.lst (.cons (.tup (.cons (.tup (.cons (.cstr [46]) .nil)) (.cons (.cint 0) .nil))) (.cons (.tup (.cons (.cstr [35, 32, 35]) (.cons (.cint 1) .nil))) (.cons (.tup (.cons (.cstr [46, 46, 47, 35, 46, 47, 32]) (.cons (.cint 3) .nil))) (.cons (.tup (.cons (.cstr [46, 46, 46, 46, 46, 46]) (.cons (.tup (.cons (.cstr [46, 46, 46, 46, 46, 46]) .nil)) .nil))) .nil))))))) (.cons (.ite (.cmp .ne (.comp [1, 2] (.tp [1, 2]) (.seq (.var 0)) K13_0 (.yes (.cmp .ne (.call 11 (.cons (.var 1) .nil)) (.var 2)))) (.lst .nil)) (.cons (.ret (.cbl false)) .nil) .nil) (.cons (.ret (.cmp .eq (.refu 0 (.call 4 (.cons (.cint 0) .nil))) (.cstr [116, 105, 108, 101]))) .nil)))))))
def F13 : Fn := { slots := 3, params := 0, body := B13, cut := true }
/-! law -/
def L14_0 : Ss := (.cons (.asg 6 (.call 12 (.cons (.var 2) (.cons (.var 4) .nil)))) (.cons (.asg 6 (.ite (.cmp .eq (.bin .mod (.var 5) (.cint 3)) (.cint 0)) (.call 12 (.cons (.var 2) (.cons (.var 6) .nil))) (.var 6))) (.cons (.ite (.cmp .ne (.call 11 (.cons (.var 6) .nil)) (.call 10 (.cons (.var 6) .nil))) (.cons (.ret (.cbl false)) .nil) .nil) .nil)))
def L14_1 : Ss := (.cons (.ite (.cmp .ne (.call 11 (.cons (.var 7) .nil)) (.cint 0)) (.cons (.ret (.cbl false)) .nil) .nil) .nil)
def L14_2 : Ss := (.cons (.asg 2 (.call 6 (.cons (.var 0) (.cons (.var 1) .nil)))) (.cons (.asg 3 (.call 9 (.cons (.var 2) (.cons (.cint 6) .nil)))) (.cons (.asg 4 (.mth .join (.cstr [47]) (.cons (.bi .list_ (.cons (.var 3) .nil)) .nil))) (.cons (.ite (.orE (.cmp .ne (.call 4 (.cons (.var 3) .nil)) (.var 4)) (.cmp .ne (.call 11 (.cons (.var 4) .nil)) (.var 3))) (.cons (.ret (.cbl false)) .nil) .nil) (.cons (.for_ (.nm 5) (.rng (.cons (.cint 14) .nil)) L14_0) (.cons (.for_ (.nm 7) (.seq (.lst (.cons .cnon (.cons (.var 3) (.cons (.lst (.cons (.var 4) .nil)) (.cons (.cint 5) .nil)))))) L14_1) .nil))))))
def B14 : Ss := (.cons (.for_ (.nm 1) (.rng (.cons (.bi .max2 (.cons (.cint 6) (.cons (.bi .min2 (.cons (.cint 16) (.cons (.bi .len (.cons (.var 0) .nil)) .nil))) .nil))) .nil)) L14_2) (.cons (.ret (.call 13 .nil)) .nil))
def F14 : Fn := { slots := 8, params := 1, body := B14, cut := true }
def err : Nat → Option D := fun j => if T.pl j = true then ([[116, 105, 108, 101], [115, 105, 122, 101], [99, 101, 108, 108], [119, 97, 121], [110, 117, 109, 98, 101, 114], [105, 110, 100, 101, 120], [119, 111, 114, 100], [99, 108, 97, 115, 104], [117, 110, 108, 105, 107, 101], [117, 110, 100, 111], [109, 97, 110, 121], [116, 101, 120, 116]] : List (List Nat))[j]?.map D.str else none
def pg : Pg := { fns := [F0, F1, F2, F3, F4, F5, F6, F7, F8, F9, F10, F11, F12, F13, F14], gl := G_ T, exm := exmOf T, hot := fun _ _ => none, err := err }
theorem run0 (n : Nat) (a0 : D) (S : Store) : run pg (n + 1) (.fn 0) [a0] S = ofFR true S.length (evSs pg.gl (run pg n) pg.exm pg.hot B0 [some a0, none] S) := run_fn (d := F0) rfl rfl
theorem run1 (n : Nat) (a0 : D) (S : Store) : run pg (n + 1) (.fn 1) [a0] S = ofFR true S.length (evSs pg.gl (run pg n) pg.exm pg.hot B1 [some a0, none] S) := run_fn (d := F1) rfl rfl
theorem run2 (n : Nat) (a0 : D) (S : Store) : run pg (n + 1) (.fn 2) [a0] S = ofFR true S.length (evSs pg.gl (run pg n) pg.exm pg.hot B2 [some a0] S) := run_fn (d := F2) rfl rfl
theorem run3 (n : Nat) (a0 : D) (S : Store) : run pg (n + 1) (.fn 3) [a0] S = ofFR true S.length (evSs pg.gl (run pg n) pg.exm pg.hot B3 [some a0] S) := run_fn (d := F3) rfl rfl
theorem run4 (n : Nat) (a0 : D) (S : Store) : run pg (n + 1) (.fn 4) [a0] S = ofFR true S.length (evSs pg.gl (run pg n) pg.exm pg.hot B4 [some a0] S) := run_fn (d := F4) rfl rfl
theorem run5 (n : Nat) (a0 : D) (S : Store) : run pg (n + 1) (.fn 5) [a0] S = ofFR true S.length (evSs pg.gl (run pg n) pg.exm pg.hot B5 [some a0, none, none, none] S) := run_fn (d := F5) rfl rfl
theorem run6 (n : Nat) (a0 a1 : D) (S : Store) : run pg (n + 1) (.fn 6) [a0, a1] S = ofFR false S.length (evSs pg.gl (run pg n) pg.exm pg.hot B6 [some a0, some a1, none, none] S) := run_fn (d := F6) rfl rfl
theorem run7 (n : Nat) (a0 a1 : D) (S : Store) : run pg (n + 1) (.fn 7) [a0, a1] S = ofFR true S.length (evSs pg.gl (run pg n) pg.exm pg.hot B7 [some a0, some a1, none] S) := run_fn (d := F7) rfl rfl
theorem run8 (n : Nat) (a0 a1 : D) (S : Store) : run pg (n + 1) (.fn 8) [a0, a1] S = ofFR true S.length (evSs pg.gl (run pg n) pg.exm pg.hot B8 [some a0, some a1] S) := run_fn (d := F8) rfl rfl
theorem run9 (n : Nat) (a0 a1 : D) (S : Store) : run pg (n + 1) (.fn 9) [a0, a1] S = ofFR true S.length (evSs pg.gl (run pg n) pg.exm pg.hot B9 [some a0, some a1, none, none, none, none, none] S) := run_fn (d := F9) rfl rfl
theorem run10 (n : Nat) (a0 : D) (S : Store) : run pg (n + 1) (.fn 10) [a0] S = ofFR true S.length (evSs pg.gl (run pg n) pg.exm pg.hot B10 [some a0, none, none, none] S) := run_fn (d := F10) rfl rfl
theorem run11 (n : Nat) (a0 : D) (S : Store) : run pg (n + 1) (.fn 11) [a0] S = ofFR true S.length (evSs pg.gl (run pg n) pg.exm pg.hot B11 [some a0, none] S) := run_fn (d := F11) rfl rfl
theorem run12 (n : Nat) (a0 a1 : D) (S : Store) : run pg (n + 1) (.fn 12) [a0, a1] S = ofFR true S.length (evSs pg.gl (run pg n) pg.exm pg.hot B12 [some a0, some a1, none, none, none, none, none] S) := run_fn (d := F12) rfl rfl
theorem run13 (n : Nat)  (S : Store) : run pg (n + 1) (.fn 13) [] S = ofFR true S.length (evSs pg.gl (run pg n) pg.exm pg.hot B13 [none, none, none] S) := run_fn (d := F13) rfl rfl
theorem run14 (n : Nat) (a0 : D) (S : Store) : run pg (n + 1) (.fn 14) [a0] S = ofFR true S.length (evSs pg.gl (run pg n) pg.exm pg.hot B14 [some a0, none, none, none, none, none, none, none] S) := run_fn (d := F14) rfl rfl
theorem gl0 : pg.gl 0 = some (.int 6) := Eq.trans rfl rfl
end My
set_option Elab.async false
set_option linter.all false
set_option maxRecDepth 100000
set_option maxHeartbeats 2000000
namespace My
open Rx
def sgn (c : Nat) : Bool := decide (c ∈ [46, 35])
def isLine : D → Bool
  | .str s => decide (1 ≤ s.length) && decide (s.length ≤ 6) && s.all sgn
  | _ => false
def sgnD : D → Bool
  | .str [c] => sgn c
  | _ => false
theorem s_is_line (n : Nat) {k : Nat} {v : D} {S : Store} (hv : v.plain k = true) (hS : SOk S) : run pg (n + 1) (.fn 0) [v] S = .ok (.bl (isLine v)) S := by
  rw [run0]
  have e : evSs pg.gl (run pg n) pg.exm pg.hot B0 [some v, none] S = .rt (.bl (isLine v)) S := by
    rcases plain_or hv with rfl | ⟨b, rfl⟩ | ⟨i, rfl⟩ | ⟨s, rfl⟩ | ⟨xs, rfl⟩ | ⟨xs, rfl⟩
    · simp only [evE_var, evE_cint, evE_cstr, evE_cbl, evE_cnon, evE_gl, evE_fnv, evE_tup, evE_lst, evE_alc, evE_bin, evE_neg, evE_cmp, evE_chn, evE_andE, evE_orE, evE_notE, evE_ite, evE_idx, evE_slc, evE_rev, evE_call, evE_callv, evE_refu, evE_isx, evE_bi, evE_mth, evE_comp, evE_comp2, evEs_nil, evEs_cons, evOp_no, evOp_yes, evC_no, evC_yes, evI_seq, evI_rng, evI_enm, evI_zip, evI_lsq, evS_asg, evS_par, evS_unp, evS_setI, evS_app, evS_expr, evS_ret, evS_retN, evS_ite, evS_for_, evS_while_, evS_rais, evS_raiV, evS_tryH, evS_pass, evS_brk, evS_cont, evSs_nil, evSs_cons, getV_0, getV_s, n_R_bind_ok, n_R_bind_ex, n_R_nox_ok, n_R_of_some, n_R_refu_ok, n_R_refu_ex, n_asInt_int, n_asBl_bl, n_asStr_str, n_asLst_lst, n_asSq_lst, n_asSq_tup, n_asFn_fn, n_asO_some, n_gd_true, n_two_true, n_two_false, n_FR_ofR_ok, n_FR_ofR_ex, n_FR_ofO_some, n_FR_thn_nx, n_FR_thn_rt, n_FR_thn_ex, n_FR_thn_ct, n_FR_thn_bk, n_FR_turn_nx, n_FR_turn_ct, n_FR_turn_bk, n_FR_turn_rt, n_FR_turn_ex, n_FR_two_true, n_FR_two_false, n_FR_gd_true, List.getElem?_cons_zero, List.getElem?_cons_succ, List.set_cons_zero, List.set_cons_succ, List.map_cons, List.map_nil, List.all_cons, List.all_nil, Bool.and_true, Bool.true_and, Bool.and_false, Bool.false_and, Bool.not_true, Bool.not_false, view_non, view_bl, view_int, view_str, view_tup, view_lst, view_fn, view_scr, truth_bl, bin_addI, bin_subI, cmp_eqI, cmp_neI, cmp_eqS, cmp_neS, cmp_lt, cmp_le, cmp_gt, cmp_ge, cmp_inS, cmp_ninS, setTg_nm, setTg_tp, setTg_tq, setAll_nil, setAll_cons, wipe_nil, wipe_cons, noC_non, noC_bl, noC_int, noC_str, noC_tup, noC_lst, noC_ref, noC_fn, noC_scr, biV_len, biV_isInt, biV_isBool, biV_isStr, biV_isTuple, biV_int_, biV_bool_, biV_str_, biV_tuple_, biV_list_, biV_min2, biV_max2, biV_min1, biV_max1, biV_sum_, biV_all_, biV_any_, biV_abs_, len_S, len_T, len_L, len_R, int_I, tuple_L, tuple_T, list_L, list_T, Option.map_some, Option.map_none, items_S, items_T, items_L, idx_L, idx_T, idx_S, slc_L, slc_T, slc_S, isRf_ref, meV_join, meV_split, meV_repl, List.cons_append, List.nil_append, isInt_non, isInt_bl, isInt_int, isInt_str, isInt_tup, isInt_lst, isBool_non, isBool_bl, isBool_int, isBool_str, isBool_tup, isBool_lst, isStr_non, isStr_bl, isStr_int, isStr_str, isStr_tup, isStr_lst, isTuple_non, isTuple_bl, isTuple_int, isTuple_str, isTuple_tup, isTuple_lst, gl0, B0, isLine]
    · simp only [evE_var, evE_cint, evE_cstr, evE_cbl, evE_cnon, evE_gl, evE_fnv, evE_tup, evE_lst, evE_alc, evE_bin, evE_neg, evE_cmp, evE_chn, evE_andE, evE_orE, evE_notE, evE_ite, evE_idx, evE_slc, evE_rev, evE_call, evE_callv, evE_refu, evE_isx, evE_bi, evE_mth, evE_comp, evE_comp2, evEs_nil, evEs_cons, evOp_no, evOp_yes, evC_no, evC_yes, evI_seq, evI_rng, evI_enm, evI_zip, evI_lsq, evS_asg, evS_par, evS_unp, evS_setI, evS_app, evS_expr, evS_ret, evS_retN, evS_ite, evS_for_, evS_while_, evS_rais, evS_raiV, evS_tryH, evS_pass, evS_brk, evS_cont, evSs_nil, evSs_cons, getV_0, getV_s, n_R_bind_ok, n_R_bind_ex, n_R_nox_ok, n_R_of_some, n_R_refu_ok, n_R_refu_ex, n_asInt_int, n_asBl_bl, n_asStr_str, n_asLst_lst, n_asSq_lst, n_asSq_tup, n_asFn_fn, n_asO_some, n_gd_true, n_two_true, n_two_false, n_FR_ofR_ok, n_FR_ofR_ex, n_FR_ofO_some, n_FR_thn_nx, n_FR_thn_rt, n_FR_thn_ex, n_FR_thn_ct, n_FR_thn_bk, n_FR_turn_nx, n_FR_turn_ct, n_FR_turn_bk, n_FR_turn_rt, n_FR_turn_ex, n_FR_two_true, n_FR_two_false, n_FR_gd_true, List.getElem?_cons_zero, List.getElem?_cons_succ, List.set_cons_zero, List.set_cons_succ, List.map_cons, List.map_nil, List.all_cons, List.all_nil, Bool.and_true, Bool.true_and, Bool.and_false, Bool.false_and, Bool.not_true, Bool.not_false, view_non, view_bl, view_int, view_str, view_tup, view_lst, view_fn, view_scr, truth_bl, bin_addI, bin_subI, cmp_eqI, cmp_neI, cmp_eqS, cmp_neS, cmp_lt, cmp_le, cmp_gt, cmp_ge, cmp_inS, cmp_ninS, setTg_nm, setTg_tp, setTg_tq, setAll_nil, setAll_cons, wipe_nil, wipe_cons, noC_non, noC_bl, noC_int, noC_str, noC_tup, noC_lst, noC_ref, noC_fn, noC_scr, biV_len, biV_isInt, biV_isBool, biV_isStr, biV_isTuple, biV_int_, biV_bool_, biV_str_, biV_tuple_, biV_list_, biV_min2, biV_max2, biV_min1, biV_max1, biV_sum_, biV_all_, biV_any_, biV_abs_, len_S, len_T, len_L, len_R, int_I, tuple_L, tuple_T, list_L, list_T, Option.map_some, Option.map_none, items_S, items_T, items_L, idx_L, idx_T, idx_S, slc_L, slc_T, slc_S, isRf_ref, meV_join, meV_split, meV_repl, List.cons_append, List.nil_append, isInt_non, isInt_bl, isInt_int, isInt_str, isInt_tup, isInt_lst, isBool_non, isBool_bl, isBool_int, isBool_str, isBool_tup, isBool_lst, isStr_non, isStr_bl, isStr_int, isStr_str, isStr_tup, isStr_lst, isTuple_non, isTuple_bl, isTuple_int, isTuple_str, isTuple_tup, isTuple_lst, gl0, B0, isLine]
    · simp only [evE_var, evE_cint, evE_cstr, evE_cbl, evE_cnon, evE_gl, evE_fnv, evE_tup, evE_lst, evE_alc, evE_bin, evE_neg, evE_cmp, evE_chn, evE_andE, evE_orE, evE_notE, evE_ite, evE_idx, evE_slc, evE_rev, evE_call, evE_callv, evE_refu, evE_isx, evE_bi, evE_mth, evE_comp, evE_comp2, evEs_nil, evEs_cons, evOp_no, evOp_yes, evC_no, evC_yes, evI_seq, evI_rng, evI_enm, evI_zip, evI_lsq, evS_asg, evS_par, evS_unp, evS_setI, evS_app, evS_expr, evS_ret, evS_retN, evS_ite, evS_for_, evS_while_, evS_rais, evS_raiV, evS_tryH, evS_pass, evS_brk, evS_cont, evSs_nil, evSs_cons, getV_0, getV_s, n_R_bind_ok, n_R_bind_ex, n_R_nox_ok, n_R_of_some, n_R_refu_ok, n_R_refu_ex, n_asInt_int, n_asBl_bl, n_asStr_str, n_asLst_lst, n_asSq_lst, n_asSq_tup, n_asFn_fn, n_asO_some, n_gd_true, n_two_true, n_two_false, n_FR_ofR_ok, n_FR_ofR_ex, n_FR_ofO_some, n_FR_thn_nx, n_FR_thn_rt, n_FR_thn_ex, n_FR_thn_ct, n_FR_thn_bk, n_FR_turn_nx, n_FR_turn_ct, n_FR_turn_bk, n_FR_turn_rt, n_FR_turn_ex, n_FR_two_true, n_FR_two_false, n_FR_gd_true, List.getElem?_cons_zero, List.getElem?_cons_succ, List.set_cons_zero, List.set_cons_succ, List.map_cons, List.map_nil, List.all_cons, List.all_nil, Bool.and_true, Bool.true_and, Bool.and_false, Bool.false_and, Bool.not_true, Bool.not_false, view_non, view_bl, view_int, view_str, view_tup, view_lst, view_fn, view_scr, truth_bl, bin_addI, bin_subI, cmp_eqI, cmp_neI, cmp_eqS, cmp_neS, cmp_lt, cmp_le, cmp_gt, cmp_ge, cmp_inS, cmp_ninS, setTg_nm, setTg_tp, setTg_tq, setAll_nil, setAll_cons, wipe_nil, wipe_cons, noC_non, noC_bl, noC_int, noC_str, noC_tup, noC_lst, noC_ref, noC_fn, noC_scr, biV_len, biV_isInt, biV_isBool, biV_isStr, biV_isTuple, biV_int_, biV_bool_, biV_str_, biV_tuple_, biV_list_, biV_min2, biV_max2, biV_min1, biV_max1, biV_sum_, biV_all_, biV_any_, biV_abs_, len_S, len_T, len_L, len_R, int_I, tuple_L, tuple_T, list_L, list_T, Option.map_some, Option.map_none, items_S, items_T, items_L, idx_L, idx_T, idx_S, slc_L, slc_T, slc_S, isRf_ref, meV_join, meV_split, meV_repl, List.cons_append, List.nil_append, isInt_non, isInt_bl, isInt_int, isInt_str, isInt_tup, isInt_lst, isBool_non, isBool_bl, isBool_int, isBool_str, isBool_tup, isBool_lst, isStr_non, isStr_bl, isStr_int, isStr_str, isStr_tup, isStr_lst, isTuple_non, isTuple_bl, isTuple_int, isTuple_str, isTuple_tup, isTuple_lst, gl0, B0, isLine]
    · by_cases h1 : (1 : Int) ≤ (s.length : Int)
      · by_cases h2 : (s.length : Int) ≤ 6
        · simp only [evE_var, evE_cint, evE_cstr, evE_cbl, evE_cnon, evE_gl, evE_fnv, evE_tup, evE_lst, evE_alc, evE_bin, evE_neg, evE_cmp, evE_chn, evE_andE, evE_orE, evE_notE, evE_ite, evE_idx, evE_slc, evE_rev, evE_call, evE_callv, evE_refu, evE_isx, evE_bi, evE_mth, evE_comp, evE_comp2, evEs_nil, evEs_cons, evOp_no, evOp_yes, evC_no, evC_yes, evI_seq, evI_rng, evI_enm, evI_zip, evI_lsq, evS_asg, evS_par, evS_unp, evS_setI, evS_app, evS_expr, evS_ret, evS_retN, evS_ite, evS_for_, evS_while_, evS_rais, evS_raiV, evS_tryH, evS_pass, evS_brk, evS_cont, evSs_nil, evSs_cons, getV_0, getV_s, n_R_bind_ok, n_R_bind_ex, n_R_nox_ok, n_R_of_some, n_R_refu_ok, n_R_refu_ex, n_asInt_int, n_asBl_bl, n_asStr_str, n_asLst_lst, n_asSq_lst, n_asSq_tup, n_asFn_fn, n_asO_some, n_gd_true, n_two_true, n_two_false, n_FR_ofR_ok, n_FR_ofR_ex, n_FR_ofO_some, n_FR_thn_nx, n_FR_thn_rt, n_FR_thn_ex, n_FR_thn_ct, n_FR_thn_bk, n_FR_turn_nx, n_FR_turn_ct, n_FR_turn_bk, n_FR_turn_rt, n_FR_turn_ex, n_FR_two_true, n_FR_two_false, n_FR_gd_true, List.getElem?_cons_zero, List.getElem?_cons_succ, List.set_cons_zero, List.set_cons_succ, List.map_cons, List.map_nil, List.all_cons, List.all_nil, Bool.and_true, Bool.true_and, Bool.and_false, Bool.false_and, Bool.not_true, Bool.not_false, view_non, view_bl, view_int, view_str, view_tup, view_lst, view_fn, view_scr, truth_bl, bin_addI, bin_subI, cmp_eqI, cmp_neI, cmp_eqS, cmp_neS, cmp_lt, cmp_le, cmp_gt, cmp_ge, cmp_inS, cmp_ninS, setTg_nm, setTg_tp, setTg_tq, setAll_nil, setAll_cons, wipe_nil, wipe_cons, noC_non, noC_bl, noC_int, noC_str, noC_tup, noC_lst, noC_ref, noC_fn, noC_scr, biV_len, biV_isInt, biV_isBool, biV_isStr, biV_isTuple, biV_int_, biV_bool_, biV_str_, biV_tuple_, biV_list_, biV_min2, biV_max2, biV_min1, biV_max1, biV_sum_, biV_all_, biV_any_, biV_abs_, len_S, len_T, len_L, len_R, int_I, tuple_L, tuple_T, list_L, list_T, Option.map_some, Option.map_none, items_S, items_T, items_L, idx_L, idx_T, idx_S, slc_L, slc_T, slc_S, isRf_ref, meV_join, meV_split, meV_repl, List.cons_append, List.nil_append, isInt_non, isInt_bl, isInt_int, isInt_str, isInt_tup, isInt_lst, isBool_non, isBool_bl, isBool_int, isBool_str, isBool_tup, isBool_lst, isStr_non, isStr_bl, isStr_int, isStr_str, isStr_tup, isStr_lst, isTuple_non, isTuple_bl, isTuple_int, isTuple_str, isTuple_tup, isTuple_lst, gl0, B0, isLine, h1, h2, decide_true]
          rw [compL_map (fun d => .bl (sgnD d))]
          · have q : (s.map fun c => D.str [c]).map (fun d => D.bl (sgnD d)) = s.map fun c => D.bl (sgn c) := by
              rw [List.map_map]
              rfl
            simp only [evE_var, evE_cint, evE_cstr, evE_cbl, evE_cnon, evE_gl, evE_fnv, evE_tup, evE_lst, evE_alc, evE_bin, evE_neg, evE_cmp, evE_chn, evE_andE, evE_orE, evE_notE, evE_ite, evE_idx, evE_slc, evE_rev, evE_call, evE_callv, evE_refu, evE_isx, evE_bi, evE_mth, evE_comp, evE_comp2, evEs_nil, evEs_cons, evOp_no, evOp_yes, evC_no, evC_yes, evI_seq, evI_rng, evI_enm, evI_zip, evI_lsq, evS_asg, evS_par, evS_unp, evS_setI, evS_app, evS_expr, evS_ret, evS_retN, evS_ite, evS_for_, evS_while_, evS_rais, evS_raiV, evS_tryH, evS_pass, evS_brk, evS_cont, evSs_nil, evSs_cons, getV_0, getV_s, n_R_bind_ok, n_R_bind_ex, n_R_nox_ok, n_R_of_some, n_R_refu_ok, n_R_refu_ex, n_asInt_int, n_asBl_bl, n_asStr_str, n_asLst_lst, n_asSq_lst, n_asSq_tup, n_asFn_fn, n_asO_some, n_gd_true, n_two_true, n_two_false, n_FR_ofR_ok, n_FR_ofR_ex, n_FR_ofO_some, n_FR_thn_nx, n_FR_thn_rt, n_FR_thn_ex, n_FR_thn_ct, n_FR_thn_bk, n_FR_turn_nx, n_FR_turn_ct, n_FR_turn_bk, n_FR_turn_rt, n_FR_turn_ex, n_FR_two_true, n_FR_two_false, n_FR_gd_true, List.getElem?_cons_zero, List.getElem?_cons_succ, List.set_cons_zero, List.set_cons_succ, List.map_cons, List.map_nil, List.all_cons, List.all_nil, Bool.and_true, Bool.true_and, Bool.and_false, Bool.false_and, Bool.not_true, Bool.not_false, view_non, view_bl, view_int, view_str, view_tup, view_lst, view_fn, view_scr, truth_bl, bin_addI, bin_subI, cmp_eqI, cmp_neI, cmp_eqS, cmp_neS, cmp_lt, cmp_le, cmp_gt, cmp_ge, cmp_inS, cmp_ninS, setTg_nm, setTg_tp, setTg_tq, setAll_nil, setAll_cons, wipe_nil, wipe_cons, noC_non, noC_bl, noC_int, noC_str, noC_tup, noC_lst, noC_ref, noC_fn, noC_scr, biV_len, biV_isInt, biV_isBool, biV_isStr, biV_isTuple, biV_int_, biV_bool_, biV_str_, biV_tuple_, biV_list_, biV_min2, biV_max2, biV_min1, biV_max1, biV_sum_, biV_all_, biV_any_, biV_abs_, len_S, len_T, len_L, len_R, int_I, tuple_L, tuple_T, list_L, list_T, Option.map_some, Option.map_none, items_S, items_T, items_L, idx_L, idx_T, idx_S, slc_L, slc_T, slc_S, isRf_ref, meV_join, meV_split, meV_repl, List.cons_append, List.nil_append, isInt_non, isInt_bl, isInt_int, isInt_str, isInt_tup, isInt_lst, isBool_non, isBool_bl, isBool_int, isBool_str, isBool_tup, isBool_lst, isStr_non, isStr_bl, isStr_int, isStr_str, isStr_tup, isStr_lst, isTuple_non, isTuple_bl, isTuple_int, isTuple_str, isTuple_tup, isTuple_lst, gl0, q, all_L, bls_map]
            have q1 : 1 ≤ s.length := by omega
            have q2 : s.length ≤ 6 := by omega
            simp [q1, q2]
          · simp [sizeL]
            omega
          · intro x hx
            obtain ⟨c, _, rfl⟩ := List.mem_map.mp hx
            refine ⟨_, rfl, rfl, ?_, rfl⟩
            simp only [evE_var, evE_cint, evE_cstr, evE_cbl, evE_cnon, evE_gl, evE_fnv, evE_tup, evE_lst, evE_alc, evE_bin, evE_neg, evE_cmp, evE_chn, evE_andE, evE_orE, evE_notE, evE_ite, evE_idx, evE_slc, evE_rev, evE_call, evE_callv, evE_refu, evE_isx, evE_bi, evE_mth, evE_comp, evE_comp2, evEs_nil, evEs_cons, evOp_no, evOp_yes, evC_no, evC_yes, evI_seq, evI_rng, evI_enm, evI_zip, evI_lsq, evS_asg, evS_par, evS_unp, evS_setI, evS_app, evS_expr, evS_ret, evS_retN, evS_ite, evS_for_, evS_while_, evS_rais, evS_raiV, evS_tryH, evS_pass, evS_brk, evS_cont, evSs_nil, evSs_cons, getV_0, getV_s, n_R_bind_ok, n_R_bind_ex, n_R_nox_ok, n_R_of_some, n_R_refu_ok, n_R_refu_ex, n_asInt_int, n_asBl_bl, n_asStr_str, n_asLst_lst, n_asSq_lst, n_asSq_tup, n_asFn_fn, n_asO_some, n_gd_true, n_two_true, n_two_false, n_FR_ofR_ok, n_FR_ofR_ex, n_FR_ofO_some, n_FR_thn_nx, n_FR_thn_rt, n_FR_thn_ex, n_FR_thn_ct, n_FR_thn_bk, n_FR_turn_nx, n_FR_turn_ct, n_FR_turn_bk, n_FR_turn_rt, n_FR_turn_ex, n_FR_two_true, n_FR_two_false, n_FR_gd_true, List.getElem?_cons_zero, List.getElem?_cons_succ, List.set_cons_zero, List.set_cons_succ, List.map_cons, List.map_nil, List.all_cons, List.all_nil, Bool.and_true, Bool.true_and, Bool.and_false, Bool.false_and, Bool.not_true, Bool.not_false, view_non, view_bl, view_int, view_str, view_tup, view_lst, view_fn, view_scr, truth_bl, bin_addI, bin_subI, cmp_eqI, cmp_neI, cmp_eqS, cmp_neS, cmp_lt, cmp_le, cmp_gt, cmp_ge, cmp_inS, cmp_ninS, setTg_nm, setTg_tp, setTg_tq, setAll_nil, setAll_cons, wipe_nil, wipe_cons, noC_non, noC_bl, noC_int, noC_str, noC_tup, noC_lst, noC_ref, noC_fn, noC_scr, biV_len, biV_isInt, biV_isBool, biV_isStr, biV_isTuple, biV_int_, biV_bool_, biV_str_, biV_tuple_, biV_list_, biV_min2, biV_max2, biV_min1, biV_max1, biV_sum_, biV_all_, biV_any_, biV_abs_, len_S, len_T, len_L, len_R, int_I, tuple_L, tuple_T, list_L, list_T, Option.map_some, Option.map_none, items_S, items_T, items_L, idx_L, idx_T, idx_S, slc_L, slc_T, slc_S, isRf_ref, meV_join, meV_split, meV_repl, List.cons_append, List.nil_append, isInt_non, isInt_bl, isInt_int, isInt_str, isInt_tup, isInt_lst, isBool_non, isBool_bl, isBool_int, isBool_str, isBool_tup, isBool_lst, isStr_non, isStr_bl, isStr_int, isStr_str, isStr_tup, isStr_lst, isTuple_non, isTuple_bl, isTuple_int, isTuple_str, isTuple_tup, isTuple_lst, gl0, K0_0, sgnD, sgn]
        · have q2 : ¬ s.length ≤ 6 := by omega
          simp only [evE_var, evE_cint, evE_cstr, evE_cbl, evE_cnon, evE_gl, evE_fnv, evE_tup, evE_lst, evE_alc, evE_bin, evE_neg, evE_cmp, evE_chn, evE_andE, evE_orE, evE_notE, evE_ite, evE_idx, evE_slc, evE_rev, evE_call, evE_callv, evE_refu, evE_isx, evE_bi, evE_mth, evE_comp, evE_comp2, evEs_nil, evEs_cons, evOp_no, evOp_yes, evC_no, evC_yes, evI_seq, evI_rng, evI_enm, evI_zip, evI_lsq, evS_asg, evS_par, evS_unp, evS_setI, evS_app, evS_expr, evS_ret, evS_retN, evS_ite, evS_for_, evS_while_, evS_rais, evS_raiV, evS_tryH, evS_pass, evS_brk, evS_cont, evSs_nil, evSs_cons, getV_0, getV_s, n_R_bind_ok, n_R_bind_ex, n_R_nox_ok, n_R_of_some, n_R_refu_ok, n_R_refu_ex, n_asInt_int, n_asBl_bl, n_asStr_str, n_asLst_lst, n_asSq_lst, n_asSq_tup, n_asFn_fn, n_asO_some, n_gd_true, n_two_true, n_two_false, n_FR_ofR_ok, n_FR_ofR_ex, n_FR_ofO_some, n_FR_thn_nx, n_FR_thn_rt, n_FR_thn_ex, n_FR_thn_ct, n_FR_thn_bk, n_FR_turn_nx, n_FR_turn_ct, n_FR_turn_bk, n_FR_turn_rt, n_FR_turn_ex, n_FR_two_true, n_FR_two_false, n_FR_gd_true, List.getElem?_cons_zero, List.getElem?_cons_succ, List.set_cons_zero, List.set_cons_succ, List.map_cons, List.map_nil, List.all_cons, List.all_nil, Bool.and_true, Bool.true_and, Bool.and_false, Bool.false_and, Bool.not_true, Bool.not_false, view_non, view_bl, view_int, view_str, view_tup, view_lst, view_fn, view_scr, truth_bl, bin_addI, bin_subI, cmp_eqI, cmp_neI, cmp_eqS, cmp_neS, cmp_lt, cmp_le, cmp_gt, cmp_ge, cmp_inS, cmp_ninS, setTg_nm, setTg_tp, setTg_tq, setAll_nil, setAll_cons, wipe_nil, wipe_cons, noC_non, noC_bl, noC_int, noC_str, noC_tup, noC_lst, noC_ref, noC_fn, noC_scr, biV_len, biV_isInt, biV_isBool, biV_isStr, biV_isTuple, biV_int_, biV_bool_, biV_str_, biV_tuple_, biV_list_, biV_min2, biV_max2, biV_min1, biV_max1, biV_sum_, biV_all_, biV_any_, biV_abs_, len_S, len_T, len_L, len_R, int_I, tuple_L, tuple_T, list_L, list_T, Option.map_some, Option.map_none, items_S, items_T, items_L, idx_L, idx_T, idx_S, slc_L, slc_T, slc_S, isRf_ref, meV_join, meV_split, meV_repl, List.cons_append, List.nil_append, isInt_non, isInt_bl, isInt_int, isInt_str, isInt_tup, isInt_lst, isBool_non, isBool_bl, isBool_int, isBool_str, isBool_tup, isBool_lst, isStr_non, isStr_bl, isStr_int, isStr_str, isStr_tup, isStr_lst, isTuple_non, isTuple_bl, isTuple_int, isTuple_str, isTuple_tup, isTuple_lst, gl0, B0, isLine, h1, h2, q2, decide_true, decide_false]
      · have q1 : ¬ 1 ≤ s.length := by omega
        simp only [evE_var, evE_cint, evE_cstr, evE_cbl, evE_cnon, evE_gl, evE_fnv, evE_tup, evE_lst, evE_alc, evE_bin, evE_neg, evE_cmp, evE_chn, evE_andE, evE_orE, evE_notE, evE_ite, evE_idx, evE_slc, evE_rev, evE_call, evE_callv, evE_refu, evE_isx, evE_bi, evE_mth, evE_comp, evE_comp2, evEs_nil, evEs_cons, evOp_no, evOp_yes, evC_no, evC_yes, evI_seq, evI_rng, evI_enm, evI_zip, evI_lsq, evS_asg, evS_par, evS_unp, evS_setI, evS_app, evS_expr, evS_ret, evS_retN, evS_ite, evS_for_, evS_while_, evS_rais, evS_raiV, evS_tryH, evS_pass, evS_brk, evS_cont, evSs_nil, evSs_cons, getV_0, getV_s, n_R_bind_ok, n_R_bind_ex, n_R_nox_ok, n_R_of_some, n_R_refu_ok, n_R_refu_ex, n_asInt_int, n_asBl_bl, n_asStr_str, n_asLst_lst, n_asSq_lst, n_asSq_tup, n_asFn_fn, n_asO_some, n_gd_true, n_two_true, n_two_false, n_FR_ofR_ok, n_FR_ofR_ex, n_FR_ofO_some, n_FR_thn_nx, n_FR_thn_rt, n_FR_thn_ex, n_FR_thn_ct, n_FR_thn_bk, n_FR_turn_nx, n_FR_turn_ct, n_FR_turn_bk, n_FR_turn_rt, n_FR_turn_ex, n_FR_two_true, n_FR_two_false, n_FR_gd_true, List.getElem?_cons_zero, List.getElem?_cons_succ, List.set_cons_zero, List.set_cons_succ, List.map_cons, List.map_nil, List.all_cons, List.all_nil, Bool.and_true, Bool.true_and, Bool.and_false, Bool.false_and, Bool.not_true, Bool.not_false, view_non, view_bl, view_int, view_str, view_tup, view_lst, view_fn, view_scr, truth_bl, bin_addI, bin_subI, cmp_eqI, cmp_neI, cmp_eqS, cmp_neS, cmp_lt, cmp_le, cmp_gt, cmp_ge, cmp_inS, cmp_ninS, setTg_nm, setTg_tp, setTg_tq, setAll_nil, setAll_cons, wipe_nil, wipe_cons, noC_non, noC_bl, noC_int, noC_str, noC_tup, noC_lst, noC_ref, noC_fn, noC_scr, biV_len, biV_isInt, biV_isBool, biV_isStr, biV_isTuple, biV_int_, biV_bool_, biV_str_, biV_tuple_, biV_list_, biV_min2, biV_max2, biV_min1, biV_max1, biV_sum_, biV_all_, biV_any_, biV_abs_, len_S, len_T, len_L, len_R, int_I, tuple_L, tuple_T, list_L, list_T, Option.map_some, Option.map_none, items_S, items_T, items_L, idx_L, idx_T, idx_S, slc_L, slc_T, slc_S, isRf_ref, meV_join, meV_split, meV_repl, List.cons_append, List.nil_append, isInt_non, isInt_bl, isInt_int, isInt_str, isInt_tup, isInt_lst, isBool_non, isBool_bl, isBool_int, isBool_str, isBool_tup, isBool_lst, isStr_non, isStr_bl, isStr_int, isStr_str, isStr_tup, isStr_lst, isTuple_non, isTuple_bl, isTuple_int, isTuple_str, isTuple_tup, isTuple_lst, gl0, B0, isLine, h1, q1, decide_false]
    · simp only [evE_var, evE_cint, evE_cstr, evE_cbl, evE_cnon, evE_gl, evE_fnv, evE_tup, evE_lst, evE_alc, evE_bin, evE_neg, evE_cmp, evE_chn, evE_andE, evE_orE, evE_notE, evE_ite, evE_idx, evE_slc, evE_rev, evE_call, evE_callv, evE_refu, evE_isx, evE_bi, evE_mth, evE_comp, evE_comp2, evEs_nil, evEs_cons, evOp_no, evOp_yes, evC_no, evC_yes, evI_seq, evI_rng, evI_enm, evI_zip, evI_lsq, evS_asg, evS_par, evS_unp, evS_setI, evS_app, evS_expr, evS_ret, evS_retN, evS_ite, evS_for_, evS_while_, evS_rais, evS_raiV, evS_tryH, evS_pass, evS_brk, evS_cont, evSs_nil, evSs_cons, getV_0, getV_s, n_R_bind_ok, n_R_bind_ex, n_R_nox_ok, n_R_of_some, n_R_refu_ok, n_R_refu_ex, n_asInt_int, n_asBl_bl, n_asStr_str, n_asLst_lst, n_asSq_lst, n_asSq_tup, n_asFn_fn, n_asO_some, n_gd_true, n_two_true, n_two_false, n_FR_ofR_ok, n_FR_ofR_ex, n_FR_ofO_some, n_FR_thn_nx, n_FR_thn_rt, n_FR_thn_ex, n_FR_thn_ct, n_FR_thn_bk, n_FR_turn_nx, n_FR_turn_ct, n_FR_turn_bk, n_FR_turn_rt, n_FR_turn_ex, n_FR_two_true, n_FR_two_false, n_FR_gd_true, List.getElem?_cons_zero, List.getElem?_cons_succ, List.set_cons_zero, List.set_cons_succ, List.map_cons, List.map_nil, List.all_cons, List.all_nil, Bool.and_true, Bool.true_and, Bool.and_false, Bool.false_and, Bool.not_true, Bool.not_false, view_non, view_bl, view_int, view_str, view_tup, view_lst, view_fn, view_scr, truth_bl, bin_addI, bin_subI, cmp_eqI, cmp_neI, cmp_eqS, cmp_neS, cmp_lt, cmp_le, cmp_gt, cmp_ge, cmp_inS, cmp_ninS, setTg_nm, setTg_tp, setTg_tq, setAll_nil, setAll_cons, wipe_nil, wipe_cons, noC_non, noC_bl, noC_int, noC_str, noC_tup, noC_lst, noC_ref, noC_fn, noC_scr, biV_len, biV_isInt, biV_isBool, biV_isStr, biV_isTuple, biV_int_, biV_bool_, biV_str_, biV_tuple_, biV_list_, biV_min2, biV_max2, biV_min1, biV_max1, biV_sum_, biV_all_, biV_any_, biV_abs_, len_S, len_T, len_L, len_R, int_I, tuple_L, tuple_T, list_L, list_T, Option.map_some, Option.map_none, items_S, items_T, items_L, idx_L, idx_T, idx_S, slc_L, slc_T, slc_S, isRf_ref, meV_join, meV_split, meV_repl, List.cons_append, List.nil_append, isInt_non, isInt_bl, isInt_int, isInt_str, isInt_tup, isInt_lst, isBool_non, isBool_bl, isBool_int, isBool_str, isBool_tup, isBool_lst, isStr_non, isStr_bl, isStr_int, isStr_str, isStr_tup, isStr_lst, isTuple_non, isTuple_bl, isTuple_int, isTuple_str, isTuple_tup, isTuple_lst, gl0, B0, isLine]
    · simp only [evE_var, evE_cint, evE_cstr, evE_cbl, evE_cnon, evE_gl, evE_fnv, evE_tup, evE_lst, evE_alc, evE_bin, evE_neg, evE_cmp, evE_chn, evE_andE, evE_orE, evE_notE, evE_ite, evE_idx, evE_slc, evE_rev, evE_call, evE_callv, evE_refu, evE_isx, evE_bi, evE_mth, evE_comp, evE_comp2, evEs_nil, evEs_cons, evOp_no, evOp_yes, evC_no, evC_yes, evI_seq, evI_rng, evI_enm, evI_zip, evI_lsq, evS_asg, evS_par, evS_unp, evS_setI, evS_app, evS_expr, evS_ret, evS_retN, evS_ite, evS_for_, evS_while_, evS_rais, evS_raiV, evS_tryH, evS_pass, evS_brk, evS_cont, evSs_nil, evSs_cons, getV_0, getV_s, n_R_bind_ok, n_R_bind_ex, n_R_nox_ok, n_R_of_some, n_R_refu_ok, n_R_refu_ex, n_asInt_int, n_asBl_bl, n_asStr_str, n_asLst_lst, n_asSq_lst, n_asSq_tup, n_asFn_fn, n_asO_some, n_gd_true, n_two_true, n_two_false, n_FR_ofR_ok, n_FR_ofR_ex, n_FR_ofO_some, n_FR_thn_nx, n_FR_thn_rt, n_FR_thn_ex, n_FR_thn_ct, n_FR_thn_bk, n_FR_turn_nx, n_FR_turn_ct, n_FR_turn_bk, n_FR_turn_rt, n_FR_turn_ex, n_FR_two_true, n_FR_two_false, n_FR_gd_true, List.getElem?_cons_zero, List.getElem?_cons_succ, List.set_cons_zero, List.set_cons_succ, List.map_cons, List.map_nil, List.all_cons, List.all_nil, Bool.and_true, Bool.true_and, Bool.and_false, Bool.false_and, Bool.not_true, Bool.not_false, view_non, view_bl, view_int, view_str, view_tup, view_lst, view_fn, view_scr, truth_bl, bin_addI, bin_subI, cmp_eqI, cmp_neI, cmp_eqS, cmp_neS, cmp_lt, cmp_le, cmp_gt, cmp_ge, cmp_inS, cmp_ninS, setTg_nm, setTg_tp, setTg_tq, setAll_nil, setAll_cons, wipe_nil, wipe_cons, noC_non, noC_bl, noC_int, noC_str, noC_tup, noC_lst, noC_ref, noC_fn, noC_scr, biV_len, biV_isInt, biV_isBool, biV_isStr, biV_isTuple, biV_int_, biV_bool_, biV_str_, biV_tuple_, biV_list_, biV_min2, biV_max2, biV_min1, biV_max1, biV_sum_, biV_all_, biV_any_, biV_abs_, len_S, len_T, len_L, len_R, int_I, tuple_L, tuple_T, list_L, list_T, Option.map_some, Option.map_none, items_S, items_T, items_L, idx_L, idx_T, idx_S, slc_L, slc_T, slc_S, isRf_ref, meV_join, meV_split, meV_repl, List.cons_append, List.nil_append, isInt_non, isInt_bl, isInt_int, isInt_str, isInt_tup, isInt_lst, isBool_non, isBool_bl, isBool_int, isBool_str, isBool_tup, isBool_lst, isStr_non, isStr_bl, isStr_int, isStr_str, isStr_tup, isStr_lst, isTuple_non, isTuple_bl, isTuple_int, isTuple_str, isTuple_tup, isTuple_lst, gl0, B0, isLine]
  rw [e]
  exact ofFR_rt rfl hS
def lenD : D → Nat
  | .str s => s.length
  | _ => 0
def isRight : D → Bool
  | .tup [] => false
  | .tup (x :: xs) => decide (xs.length + 1 ≤ 6) && (x :: xs).all isLine && (x :: xs).all (fun y => lenD y == lenD x)
  | _ => false
theorem isLine_str {d : D} (h : isLine d = true) : ∃ s, d = .str s ∧ 1 ≤ s.length ∧ s.length ≤ 6 ∧ s.all sgn = true := by
  cases d with
  | str s =>
    simp only [isLine, Bool.and_eq_true, decide_eq_true_eq] at h
    exact ⟨s, rfl, h.1.1, h.1.2, h.2⟩
  | _ => simp [isLine] at h
theorem s_right_tile (n : Nat) {k : Nat} {v : D} {S : Store} (hv : v.plain k = true) (hS : SOk S) : run pg (n + 2) (.fn 1) [v] S = .ok (.bl (isRight v)) S := by
  rw [run1]
  have e : evSs pg.gl (run pg (n + 1)) pg.exm pg.hot B1 [some v, none] S = .rt (.bl (isRight v)) S := by
    rcases plain_or hv with rfl | ⟨b, rfl⟩ | ⟨i, rfl⟩ | ⟨s, rfl⟩ | ⟨xs, rfl⟩ | ⟨xs, rfl⟩
    · simp only [evE_var, evE_cint, evE_cstr, evE_cbl, evE_cnon, evE_gl, evE_fnv, evE_tup, evE_lst, evE_alc, evE_bin, evE_neg, evE_cmp, evE_chn, evE_andE, evE_orE, evE_notE, evE_ite, evE_idx, evE_slc, evE_rev, evE_call, evE_callv, evE_refu, evE_isx, evE_bi, evE_mth, evE_comp, evE_comp2, evEs_nil, evEs_cons, evOp_no, evOp_yes, evC_no, evC_yes, evI_seq, evI_rng, evI_enm, evI_zip, evI_lsq, evS_asg, evS_par, evS_unp, evS_setI, evS_app, evS_expr, evS_ret, evS_retN, evS_ite, evS_for_, evS_while_, evS_rais, evS_raiV, evS_tryH, evS_pass, evS_brk, evS_cont, evSs_nil, evSs_cons, getV_0, getV_s, n_R_bind_ok, n_R_bind_ex, n_R_nox_ok, n_R_of_some, n_R_refu_ok, n_R_refu_ex, n_asInt_int, n_asBl_bl, n_asStr_str, n_asLst_lst, n_asSq_lst, n_asSq_tup, n_asFn_fn, n_asO_some, n_gd_true, n_two_true, n_two_false, n_FR_ofR_ok, n_FR_ofR_ex, n_FR_ofO_some, n_FR_thn_nx, n_FR_thn_rt, n_FR_thn_ex, n_FR_thn_ct, n_FR_thn_bk, n_FR_turn_nx, n_FR_turn_ct, n_FR_turn_bk, n_FR_turn_rt, n_FR_turn_ex, n_FR_two_true, n_FR_two_false, n_FR_gd_true, List.getElem?_cons_zero, List.getElem?_cons_succ, List.set_cons_zero, List.set_cons_succ, List.map_cons, List.map_nil, List.all_cons, List.all_nil, Bool.and_true, Bool.true_and, Bool.and_false, Bool.false_and, Bool.not_true, Bool.not_false, view_non, view_bl, view_int, view_str, view_tup, view_lst, view_fn, view_scr, truth_bl, bin_addI, bin_subI, cmp_eqI, cmp_neI, cmp_eqS, cmp_neS, cmp_lt, cmp_le, cmp_gt, cmp_ge, cmp_inS, cmp_ninS, setTg_nm, setTg_tp, setTg_tq, setAll_nil, setAll_cons, wipe_nil, wipe_cons, noC_non, noC_bl, noC_int, noC_str, noC_tup, noC_lst, noC_ref, noC_fn, noC_scr, biV_len, biV_isInt, biV_isBool, biV_isStr, biV_isTuple, biV_int_, biV_bool_, biV_str_, biV_tuple_, biV_list_, biV_min2, biV_max2, biV_min1, biV_max1, biV_sum_, biV_all_, biV_any_, biV_abs_, len_S, len_T, len_L, len_R, int_I, tuple_L, tuple_T, list_L, list_T, Option.map_some, Option.map_none, items_S, items_T, items_L, idx_L, idx_T, idx_S, slc_L, slc_T, slc_S, isRf_ref, meV_join, meV_split, meV_repl, List.cons_append, List.nil_append, isInt_non, isInt_bl, isInt_int, isInt_str, isInt_tup, isInt_lst, isBool_non, isBool_bl, isBool_int, isBool_str, isBool_tup, isBool_lst, isStr_non, isStr_bl, isStr_int, isStr_str, isStr_tup, isStr_lst, isTuple_non, isTuple_bl, isTuple_int, isTuple_str, isTuple_tup, isTuple_lst, gl0, B1, isRight]
    · simp only [evE_var, evE_cint, evE_cstr, evE_cbl, evE_cnon, evE_gl, evE_fnv, evE_tup, evE_lst, evE_alc, evE_bin, evE_neg, evE_cmp, evE_chn, evE_andE, evE_orE, evE_notE, evE_ite, evE_idx, evE_slc, evE_rev, evE_call, evE_callv, evE_refu, evE_isx, evE_bi, evE_mth, evE_comp, evE_comp2, evEs_nil, evEs_cons, evOp_no, evOp_yes, evC_no, evC_yes, evI_seq, evI_rng, evI_enm, evI_zip, evI_lsq, evS_asg, evS_par, evS_unp, evS_setI, evS_app, evS_expr, evS_ret, evS_retN, evS_ite, evS_for_, evS_while_, evS_rais, evS_raiV, evS_tryH, evS_pass, evS_brk, evS_cont, evSs_nil, evSs_cons, getV_0, getV_s, n_R_bind_ok, n_R_bind_ex, n_R_nox_ok, n_R_of_some, n_R_refu_ok, n_R_refu_ex, n_asInt_int, n_asBl_bl, n_asStr_str, n_asLst_lst, n_asSq_lst, n_asSq_tup, n_asFn_fn, n_asO_some, n_gd_true, n_two_true, n_two_false, n_FR_ofR_ok, n_FR_ofR_ex, n_FR_ofO_some, n_FR_thn_nx, n_FR_thn_rt, n_FR_thn_ex, n_FR_thn_ct, n_FR_thn_bk, n_FR_turn_nx, n_FR_turn_ct, n_FR_turn_bk, n_FR_turn_rt, n_FR_turn_ex, n_FR_two_true, n_FR_two_false, n_FR_gd_true, List.getElem?_cons_zero, List.getElem?_cons_succ, List.set_cons_zero, List.set_cons_succ, List.map_cons, List.map_nil, List.all_cons, List.all_nil, Bool.and_true, Bool.true_and, Bool.and_false, Bool.false_and, Bool.not_true, Bool.not_false, view_non, view_bl, view_int, view_str, view_tup, view_lst, view_fn, view_scr, truth_bl, bin_addI, bin_subI, cmp_eqI, cmp_neI, cmp_eqS, cmp_neS, cmp_lt, cmp_le, cmp_gt, cmp_ge, cmp_inS, cmp_ninS, setTg_nm, setTg_tp, setTg_tq, setAll_nil, setAll_cons, wipe_nil, wipe_cons, noC_non, noC_bl, noC_int, noC_str, noC_tup, noC_lst, noC_ref, noC_fn, noC_scr, biV_len, biV_isInt, biV_isBool, biV_isStr, biV_isTuple, biV_int_, biV_bool_, biV_str_, biV_tuple_, biV_list_, biV_min2, biV_max2, biV_min1, biV_max1, biV_sum_, biV_all_, biV_any_, biV_abs_, len_S, len_T, len_L, len_R, int_I, tuple_L, tuple_T, list_L, list_T, Option.map_some, Option.map_none, items_S, items_T, items_L, idx_L, idx_T, idx_S, slc_L, slc_T, slc_S, isRf_ref, meV_join, meV_split, meV_repl, List.cons_append, List.nil_append, isInt_non, isInt_bl, isInt_int, isInt_str, isInt_tup, isInt_lst, isBool_non, isBool_bl, isBool_int, isBool_str, isBool_tup, isBool_lst, isStr_non, isStr_bl, isStr_int, isStr_str, isStr_tup, isStr_lst, isTuple_non, isTuple_bl, isTuple_int, isTuple_str, isTuple_tup, isTuple_lst, gl0, B1, isRight]
    · simp only [evE_var, evE_cint, evE_cstr, evE_cbl, evE_cnon, evE_gl, evE_fnv, evE_tup, evE_lst, evE_alc, evE_bin, evE_neg, evE_cmp, evE_chn, evE_andE, evE_orE, evE_notE, evE_ite, evE_idx, evE_slc, evE_rev, evE_call, evE_callv, evE_refu, evE_isx, evE_bi, evE_mth, evE_comp, evE_comp2, evEs_nil, evEs_cons, evOp_no, evOp_yes, evC_no, evC_yes, evI_seq, evI_rng, evI_enm, evI_zip, evI_lsq, evS_asg, evS_par, evS_unp, evS_setI, evS_app, evS_expr, evS_ret, evS_retN, evS_ite, evS_for_, evS_while_, evS_rais, evS_raiV, evS_tryH, evS_pass, evS_brk, evS_cont, evSs_nil, evSs_cons, getV_0, getV_s, n_R_bind_ok, n_R_bind_ex, n_R_nox_ok, n_R_of_some, n_R_refu_ok, n_R_refu_ex, n_asInt_int, n_asBl_bl, n_asStr_str, n_asLst_lst, n_asSq_lst, n_asSq_tup, n_asFn_fn, n_asO_some, n_gd_true, n_two_true, n_two_false, n_FR_ofR_ok, n_FR_ofR_ex, n_FR_ofO_some, n_FR_thn_nx, n_FR_thn_rt, n_FR_thn_ex, n_FR_thn_ct, n_FR_thn_bk, n_FR_turn_nx, n_FR_turn_ct, n_FR_turn_bk, n_FR_turn_rt, n_FR_turn_ex, n_FR_two_true, n_FR_two_false, n_FR_gd_true, List.getElem?_cons_zero, List.getElem?_cons_succ, List.set_cons_zero, List.set_cons_succ, List.map_cons, List.map_nil, List.all_cons, List.all_nil, Bool.and_true, Bool.true_and, Bool.and_false, Bool.false_and, Bool.not_true, Bool.not_false, view_non, view_bl, view_int, view_str, view_tup, view_lst, view_fn, view_scr, truth_bl, bin_addI, bin_subI, cmp_eqI, cmp_neI, cmp_eqS, cmp_neS, cmp_lt, cmp_le, cmp_gt, cmp_ge, cmp_inS, cmp_ninS, setTg_nm, setTg_tp, setTg_tq, setAll_nil, setAll_cons, wipe_nil, wipe_cons, noC_non, noC_bl, noC_int, noC_str, noC_tup, noC_lst, noC_ref, noC_fn, noC_scr, biV_len, biV_isInt, biV_isBool, biV_isStr, biV_isTuple, biV_int_, biV_bool_, biV_str_, biV_tuple_, biV_list_, biV_min2, biV_max2, biV_min1, biV_max1, biV_sum_, biV_all_, biV_any_, biV_abs_, len_S, len_T, len_L, len_R, int_I, tuple_L, tuple_T, list_L, list_T, Option.map_some, Option.map_none, items_S, items_T, items_L, idx_L, idx_T, idx_S, slc_L, slc_T, slc_S, isRf_ref, meV_join, meV_split, meV_repl, List.cons_append, List.nil_append, isInt_non, isInt_bl, isInt_int, isInt_str, isInt_tup, isInt_lst, isBool_non, isBool_bl, isBool_int, isBool_str, isBool_tup, isBool_lst, isStr_non, isStr_bl, isStr_int, isStr_str, isStr_tup, isStr_lst, isTuple_non, isTuple_bl, isTuple_int, isTuple_str, isTuple_tup, isTuple_lst, gl0, B1, isRight]
    · simp only [evE_var, evE_cint, evE_cstr, evE_cbl, evE_cnon, evE_gl, evE_fnv, evE_tup, evE_lst, evE_alc, evE_bin, evE_neg, evE_cmp, evE_chn, evE_andE, evE_orE, evE_notE, evE_ite, evE_idx, evE_slc, evE_rev, evE_call, evE_callv, evE_refu, evE_isx, evE_bi, evE_mth, evE_comp, evE_comp2, evEs_nil, evEs_cons, evOp_no, evOp_yes, evC_no, evC_yes, evI_seq, evI_rng, evI_enm, evI_zip, evI_lsq, evS_asg, evS_par, evS_unp, evS_setI, evS_app, evS_expr, evS_ret, evS_retN, evS_ite, evS_for_, evS_while_, evS_rais, evS_raiV, evS_tryH, evS_pass, evS_brk, evS_cont, evSs_nil, evSs_cons, getV_0, getV_s, n_R_bind_ok, n_R_bind_ex, n_R_nox_ok, n_R_of_some, n_R_refu_ok, n_R_refu_ex, n_asInt_int, n_asBl_bl, n_asStr_str, n_asLst_lst, n_asSq_lst, n_asSq_tup, n_asFn_fn, n_asO_some, n_gd_true, n_two_true, n_two_false, n_FR_ofR_ok, n_FR_ofR_ex, n_FR_ofO_some, n_FR_thn_nx, n_FR_thn_rt, n_FR_thn_ex, n_FR_thn_ct, n_FR_thn_bk, n_FR_turn_nx, n_FR_turn_ct, n_FR_turn_bk, n_FR_turn_rt, n_FR_turn_ex, n_FR_two_true, n_FR_two_false, n_FR_gd_true, List.getElem?_cons_zero, List.getElem?_cons_succ, List.set_cons_zero, List.set_cons_succ, List.map_cons, List.map_nil, List.all_cons, List.all_nil, Bool.and_true, Bool.true_and, Bool.and_false, Bool.false_and, Bool.not_true, Bool.not_false, view_non, view_bl, view_int, view_str, view_tup, view_lst, view_fn, view_scr, truth_bl, bin_addI, bin_subI, cmp_eqI, cmp_neI, cmp_eqS, cmp_neS, cmp_lt, cmp_le, cmp_gt, cmp_ge, cmp_inS, cmp_ninS, setTg_nm, setTg_tp, setTg_tq, setAll_nil, setAll_cons, wipe_nil, wipe_cons, noC_non, noC_bl, noC_int, noC_str, noC_tup, noC_lst, noC_ref, noC_fn, noC_scr, biV_len, biV_isInt, biV_isBool, biV_isStr, biV_isTuple, biV_int_, biV_bool_, biV_str_, biV_tuple_, biV_list_, biV_min2, biV_max2, biV_min1, biV_max1, biV_sum_, biV_all_, biV_any_, biV_abs_, len_S, len_T, len_L, len_R, int_I, tuple_L, tuple_T, list_L, list_T, Option.map_some, Option.map_none, items_S, items_T, items_L, idx_L, idx_T, idx_S, slc_L, slc_T, slc_S, isRf_ref, meV_join, meV_split, meV_repl, List.cons_append, List.nil_append, isInt_non, isInt_bl, isInt_int, isInt_str, isInt_tup, isInt_lst, isBool_non, isBool_bl, isBool_int, isBool_str, isBool_tup, isBool_lst, isStr_non, isStr_bl, isStr_int, isStr_str, isStr_tup, isStr_lst, isTuple_non, isTuple_bl, isTuple_int, isTuple_str, isTuple_tup, isTuple_lst, gl0, B1, isRight]
    · cases xs with
      | nil =>
        simp only [evE_var, evE_cint, evE_cstr, evE_cbl, evE_cnon, evE_gl, evE_fnv, evE_tup, evE_lst, evE_alc, evE_bin, evE_neg, evE_cmp, evE_chn, evE_andE, evE_orE, evE_notE, evE_ite, evE_idx, evE_slc, evE_rev, evE_call, evE_callv, evE_refu, evE_isx, evE_bi, evE_mth, evE_comp, evE_comp2, evEs_nil, evEs_cons, evOp_no, evOp_yes, evC_no, evC_yes, evI_seq, evI_rng, evI_enm, evI_zip, evI_lsq, evS_asg, evS_par, evS_unp, evS_setI, evS_app, evS_expr, evS_ret, evS_retN, evS_ite, evS_for_, evS_while_, evS_rais, evS_raiV, evS_tryH, evS_pass, evS_brk, evS_cont, evSs_nil, evSs_cons, getV_0, getV_s, n_R_bind_ok, n_R_bind_ex, n_R_nox_ok, n_R_of_some, n_R_refu_ok, n_R_refu_ex, n_asInt_int, n_asBl_bl, n_asStr_str, n_asLst_lst, n_asSq_lst, n_asSq_tup, n_asFn_fn, n_asO_some, n_gd_true, n_two_true, n_two_false, n_FR_ofR_ok, n_FR_ofR_ex, n_FR_ofO_some, n_FR_thn_nx, n_FR_thn_rt, n_FR_thn_ex, n_FR_thn_ct, n_FR_thn_bk, n_FR_turn_nx, n_FR_turn_ct, n_FR_turn_bk, n_FR_turn_rt, n_FR_turn_ex, n_FR_two_true, n_FR_two_false, n_FR_gd_true, List.getElem?_cons_zero, List.getElem?_cons_succ, List.set_cons_zero, List.set_cons_succ, List.map_cons, List.map_nil, List.all_cons, List.all_nil, Bool.and_true, Bool.true_and, Bool.and_false, Bool.false_and, Bool.not_true, Bool.not_false, view_non, view_bl, view_int, view_str, view_tup, view_lst, view_fn, view_scr, truth_bl, bin_addI, bin_subI, cmp_eqI, cmp_neI, cmp_eqS, cmp_neS, cmp_lt, cmp_le, cmp_gt, cmp_ge, cmp_inS, cmp_ninS, setTg_nm, setTg_tp, setTg_tq, setAll_nil, setAll_cons, wipe_nil, wipe_cons, noC_non, noC_bl, noC_int, noC_str, noC_tup, noC_lst, noC_ref, noC_fn, noC_scr, biV_len, biV_isInt, biV_isBool, biV_isStr, biV_isTuple, biV_int_, biV_bool_, biV_str_, biV_tuple_, biV_list_, biV_min2, biV_max2, biV_min1, biV_max1, biV_sum_, biV_all_, biV_any_, biV_abs_, len_S, len_T, len_L, len_R, int_I, tuple_L, tuple_T, list_L, list_T, Option.map_some, Option.map_none, items_S, items_T, items_L, idx_L, idx_T, idx_S, slc_L, slc_T, slc_S, isRf_ref, meV_join, meV_split, meV_repl, List.cons_append, List.nil_append, isInt_non, isInt_bl, isInt_int, isInt_str, isInt_tup, isInt_lst, isBool_non, isBool_bl, isBool_int, isBool_str, isBool_tup, isBool_lst, isStr_non, isStr_bl, isStr_int, isStr_str, isStr_tup, isStr_lst, isTuple_non, isTuple_bl, isTuple_int, isTuple_str, isTuple_tup, isTuple_lst, gl0, B1, isRight]
        rfl
      | cons x xs =>
        have hp : ∀ y ∈ x :: xs, y.plain k = true := fun y hy => by
          cases k with
          | zero => simp [D.plain] at hv
          | succ k => exact plain_mono (plain_tup.mp hv y hy) (Nat.le_succ k)
        have hR : isRight (.tup (x :: xs)) = (decide ((x :: xs).length ≤ 6) && (x :: xs).all isLine && (x :: xs).all (fun y => lenD y == lenD x)) := rfl
        have a0 : at_ (x :: xs) 0 = some x := at_nat (xs := x :: xs) (i := 0) (by simp)
        have hx : x ∈ x :: xs := by simp
        have h1 : (1 : Int) ≤ ((x :: xs).length : Int) := by simp; omega
        rw [hR]
        generalize x :: xs = ws at *
        by_cases h2 : (ws.length : Int) ≤ 6
        · have q2 : ws.length ≤ 6 := by omega
          simp only [evE_var, evE_cint, evE_cstr, evE_cbl, evE_cnon, evE_gl, evE_fnv, evE_tup, evE_lst, evE_alc, evE_bin, evE_neg, evE_cmp, evE_chn, evE_andE, evE_orE, evE_notE, evE_ite, evE_idx, evE_slc, evE_rev, evE_call, evE_callv, evE_refu, evE_isx, evE_bi, evE_mth, evE_comp, evE_comp2, evEs_nil, evEs_cons, evOp_no, evOp_yes, evC_no, evC_yes, evI_seq, evI_rng, evI_enm, evI_zip, evI_lsq, evS_asg, evS_par, evS_unp, evS_setI, evS_app, evS_expr, evS_ret, evS_retN, evS_ite, evS_for_, evS_while_, evS_rais, evS_raiV, evS_tryH, evS_pass, evS_brk, evS_cont, evSs_nil, evSs_cons, getV_0, getV_s, n_R_bind_ok, n_R_bind_ex, n_R_nox_ok, n_R_of_some, n_R_refu_ok, n_R_refu_ex, n_asInt_int, n_asBl_bl, n_asStr_str, n_asLst_lst, n_asSq_lst, n_asSq_tup, n_asFn_fn, n_asO_some, n_gd_true, n_two_true, n_two_false, n_FR_ofR_ok, n_FR_ofR_ex, n_FR_ofO_some, n_FR_thn_nx, n_FR_thn_rt, n_FR_thn_ex, n_FR_thn_ct, n_FR_thn_bk, n_FR_turn_nx, n_FR_turn_ct, n_FR_turn_bk, n_FR_turn_rt, n_FR_turn_ex, n_FR_two_true, n_FR_two_false, n_FR_gd_true, List.getElem?_cons_zero, List.getElem?_cons_succ, List.set_cons_zero, List.set_cons_succ, List.map_cons, List.map_nil, List.all_cons, List.all_nil, Bool.and_true, Bool.true_and, Bool.and_false, Bool.false_and, Bool.not_true, Bool.not_false, view_non, view_bl, view_int, view_str, view_tup, view_lst, view_fn, view_scr, truth_bl, bin_addI, bin_subI, cmp_eqI, cmp_neI, cmp_eqS, cmp_neS, cmp_lt, cmp_le, cmp_gt, cmp_ge, cmp_inS, cmp_ninS, setTg_nm, setTg_tp, setTg_tq, setAll_nil, setAll_cons, wipe_nil, wipe_cons, noC_non, noC_bl, noC_int, noC_str, noC_tup, noC_lst, noC_ref, noC_fn, noC_scr, biV_len, biV_isInt, biV_isBool, biV_isStr, biV_isTuple, biV_int_, biV_bool_, biV_str_, biV_tuple_, biV_list_, biV_min2, biV_max2, biV_min1, biV_max1, biV_sum_, biV_all_, biV_any_, biV_abs_, len_S, len_T, len_L, len_R, int_I, tuple_L, tuple_T, list_L, list_T, Option.map_some, Option.map_none, items_S, items_T, items_L, idx_L, idx_T, idx_S, slc_L, slc_T, slc_S, isRf_ref, meV_join, meV_split, meV_repl, List.cons_append, List.nil_append, isInt_non, isInt_bl, isInt_int, isInt_str, isInt_tup, isInt_lst, isBool_non, isBool_bl, isBool_int, isBool_str, isBool_tup, isBool_lst, isStr_non, isStr_bl, isStr_int, isStr_str, isStr_tup, isStr_lst, isTuple_non, isTuple_bl, isTuple_int, isTuple_str, isTuple_tup, isTuple_lst, gl0, B1, h1, h2, q2, decide_true]
          rw [compL_map (fun d => .bl (isLine d))]
          · simp only [evE_var, evE_cint, evE_cstr, evE_cbl, evE_cnon, evE_gl, evE_fnv, evE_tup, evE_lst, evE_alc, evE_bin, evE_neg, evE_cmp, evE_chn, evE_andE, evE_orE, evE_notE, evE_ite, evE_idx, evE_slc, evE_rev, evE_call, evE_callv, evE_refu, evE_isx, evE_bi, evE_mth, evE_comp, evE_comp2, evEs_nil, evEs_cons, evOp_no, evOp_yes, evC_no, evC_yes, evI_seq, evI_rng, evI_enm, evI_zip, evI_lsq, evS_asg, evS_par, evS_unp, evS_setI, evS_app, evS_expr, evS_ret, evS_retN, evS_ite, evS_for_, evS_while_, evS_rais, evS_raiV, evS_tryH, evS_pass, evS_brk, evS_cont, evSs_nil, evSs_cons, getV_0, getV_s, n_R_bind_ok, n_R_bind_ex, n_R_nox_ok, n_R_of_some, n_R_refu_ok, n_R_refu_ex, n_asInt_int, n_asBl_bl, n_asStr_str, n_asLst_lst, n_asSq_lst, n_asSq_tup, n_asFn_fn, n_asO_some, n_gd_true, n_two_true, n_two_false, n_FR_ofR_ok, n_FR_ofR_ex, n_FR_ofO_some, n_FR_thn_nx, n_FR_thn_rt, n_FR_thn_ex, n_FR_thn_ct, n_FR_thn_bk, n_FR_turn_nx, n_FR_turn_ct, n_FR_turn_bk, n_FR_turn_rt, n_FR_turn_ex, n_FR_two_true, n_FR_two_false, n_FR_gd_true, List.getElem?_cons_zero, List.getElem?_cons_succ, List.set_cons_zero, List.set_cons_succ, List.map_cons, List.map_nil, List.all_cons, List.all_nil, Bool.and_true, Bool.true_and, Bool.and_false, Bool.false_and, Bool.not_true, Bool.not_false, view_non, view_bl, view_int, view_str, view_tup, view_lst, view_fn, view_scr, truth_bl, bin_addI, bin_subI, cmp_eqI, cmp_neI, cmp_eqS, cmp_neS, cmp_lt, cmp_le, cmp_gt, cmp_ge, cmp_inS, cmp_ninS, setTg_nm, setTg_tp, setTg_tq, setAll_nil, setAll_cons, wipe_nil, wipe_cons, noC_non, noC_bl, noC_int, noC_str, noC_tup, noC_lst, noC_ref, noC_fn, noC_scr, biV_len, biV_isInt, biV_isBool, biV_isStr, biV_isTuple, biV_int_, biV_bool_, biV_str_, biV_tuple_, biV_list_, biV_min2, biV_max2, biV_min1, biV_max1, biV_sum_, biV_all_, biV_any_, biV_abs_, len_S, len_T, len_L, len_R, int_I, tuple_L, tuple_T, list_L, list_T, Option.map_some, Option.map_none, items_S, items_T, items_L, idx_L, idx_T, idx_S, slc_L, slc_T, slc_S, isRf_ref, meV_join, meV_split, meV_repl, List.cons_append, List.nil_append, isInt_non, isInt_bl, isInt_int, isInt_str, isInt_tup, isInt_lst, isBool_non, isBool_bl, isBool_int, isBool_str, isBool_tup, isBool_lst, isStr_non, isStr_bl, isStr_int, isStr_str, isStr_tup, isStr_lst, isTuple_non, isTuple_bl, isTuple_int, isTuple_str, isTuple_tup, isTuple_lst, gl0, all_L, bls_map]
            cases hl : (ws.map isLine).all id with
            | false =>
              have hl' : ws.all isLine = false := by
                rw [← hl, List.all_map]
                rfl
              simp only [evE_var, evE_cint, evE_cstr, evE_cbl, evE_cnon, evE_gl, evE_fnv, evE_tup, evE_lst, evE_alc, evE_bin, evE_neg, evE_cmp, evE_chn, evE_andE, evE_orE, evE_notE, evE_ite, evE_idx, evE_slc, evE_rev, evE_call, evE_callv, evE_refu, evE_isx, evE_bi, evE_mth, evE_comp, evE_comp2, evEs_nil, evEs_cons, evOp_no, evOp_yes, evC_no, evC_yes, evI_seq, evI_rng, evI_enm, evI_zip, evI_lsq, evS_asg, evS_par, evS_unp, evS_setI, evS_app, evS_expr, evS_ret, evS_retN, evS_ite, evS_for_, evS_while_, evS_rais, evS_raiV, evS_tryH, evS_pass, evS_brk, evS_cont, evSs_nil, evSs_cons, getV_0, getV_s, n_R_bind_ok, n_R_bind_ex, n_R_nox_ok, n_R_of_some, n_R_refu_ok, n_R_refu_ex, n_asInt_int, n_asBl_bl, n_asStr_str, n_asLst_lst, n_asSq_lst, n_asSq_tup, n_asFn_fn, n_asO_some, n_gd_true, n_two_true, n_two_false, n_FR_ofR_ok, n_FR_ofR_ex, n_FR_ofO_some, n_FR_thn_nx, n_FR_thn_rt, n_FR_thn_ex, n_FR_thn_ct, n_FR_thn_bk, n_FR_turn_nx, n_FR_turn_ct, n_FR_turn_bk, n_FR_turn_rt, n_FR_turn_ex, n_FR_two_true, n_FR_two_false, n_FR_gd_true, List.getElem?_cons_zero, List.getElem?_cons_succ, List.set_cons_zero, List.set_cons_succ, List.map_cons, List.map_nil, List.all_cons, List.all_nil, Bool.and_true, Bool.true_and, Bool.and_false, Bool.false_and, Bool.not_true, Bool.not_false, view_non, view_bl, view_int, view_str, view_tup, view_lst, view_fn, view_scr, truth_bl, bin_addI, bin_subI, cmp_eqI, cmp_neI, cmp_eqS, cmp_neS, cmp_lt, cmp_le, cmp_gt, cmp_ge, cmp_inS, cmp_ninS, setTg_nm, setTg_tp, setTg_tq, setAll_nil, setAll_cons, wipe_nil, wipe_cons, noC_non, noC_bl, noC_int, noC_str, noC_tup, noC_lst, noC_ref, noC_fn, noC_scr, biV_len, biV_isInt, biV_isBool, biV_isStr, biV_isTuple, biV_int_, biV_bool_, biV_str_, biV_tuple_, biV_list_, biV_min2, biV_max2, biV_min1, biV_max1, biV_sum_, biV_all_, biV_any_, biV_abs_, len_S, len_T, len_L, len_R, int_I, tuple_L, tuple_T, list_L, list_T, Option.map_some, Option.map_none, items_S, items_T, items_L, idx_L, idx_T, idx_S, slc_L, slc_T, slc_S, isRf_ref, meV_join, meV_split, meV_repl, List.cons_append, List.nil_append, isInt_non, isInt_bl, isInt_int, isInt_str, isInt_tup, isInt_lst, isBool_non, isBool_bl, isBool_int, isBool_str, isBool_tup, isBool_lst, isStr_non, isStr_bl, isStr_int, isStr_str, isStr_tup, isStr_lst, isTuple_non, isTuple_bl, isTuple_int, isTuple_str, isTuple_tup, isTuple_lst, gl0, hl']
            | true =>
              have hl' : ws.all isLine = true := by
                rw [← hl, List.all_map]
                rfl
              simp only [evE_var, evE_cint, evE_cstr, evE_cbl, evE_cnon, evE_gl, evE_fnv, evE_tup, evE_lst, evE_alc, evE_bin, evE_neg, evE_cmp, evE_chn, evE_andE, evE_orE, evE_notE, evE_ite, evE_idx, evE_slc, evE_rev, evE_call, evE_callv, evE_refu, evE_isx, evE_bi, evE_mth, evE_comp, evE_comp2, evEs_nil, evEs_cons, evOp_no, evOp_yes, evC_no, evC_yes, evI_seq, evI_rng, evI_enm, evI_zip, evI_lsq, evS_asg, evS_par, evS_unp, evS_setI, evS_app, evS_expr, evS_ret, evS_retN, evS_ite, evS_for_, evS_while_, evS_rais, evS_raiV, evS_tryH, evS_pass, evS_brk, evS_cont, evSs_nil, evSs_cons, getV_0, getV_s, n_R_bind_ok, n_R_bind_ex, n_R_nox_ok, n_R_of_some, n_R_refu_ok, n_R_refu_ex, n_asInt_int, n_asBl_bl, n_asStr_str, n_asLst_lst, n_asSq_lst, n_asSq_tup, n_asFn_fn, n_asO_some, n_gd_true, n_two_true, n_two_false, n_FR_ofR_ok, n_FR_ofR_ex, n_FR_ofO_some, n_FR_thn_nx, n_FR_thn_rt, n_FR_thn_ex, n_FR_thn_ct, n_FR_thn_bk, n_FR_turn_nx, n_FR_turn_ct, n_FR_turn_bk, n_FR_turn_rt, n_FR_turn_ex, n_FR_two_true, n_FR_two_false, n_FR_gd_true, List.getElem?_cons_zero, List.getElem?_cons_succ, List.set_cons_zero, List.set_cons_succ, List.map_cons, List.map_nil, List.all_cons, List.all_nil, Bool.and_true, Bool.true_and, Bool.and_false, Bool.false_and, Bool.not_true, Bool.not_false, view_non, view_bl, view_int, view_str, view_tup, view_lst, view_fn, view_scr, truth_bl, bin_addI, bin_subI, cmp_eqI, cmp_neI, cmp_eqS, cmp_neS, cmp_lt, cmp_le, cmp_gt, cmp_ge, cmp_inS, cmp_ninS, setTg_nm, setTg_tp, setTg_tq, setAll_nil, setAll_cons, wipe_nil, wipe_cons, noC_non, noC_bl, noC_int, noC_str, noC_tup, noC_lst, noC_ref, noC_fn, noC_scr, biV_len, biV_isInt, biV_isBool, biV_isStr, biV_isTuple, biV_int_, biV_bool_, biV_str_, biV_tuple_, biV_list_, biV_min2, biV_max2, biV_min1, biV_max1, biV_sum_, biV_all_, biV_any_, biV_abs_, len_S, len_T, len_L, len_R, int_I, tuple_L, tuple_T, list_L, list_T, Option.map_some, Option.map_none, items_S, items_T, items_L, idx_L, idx_T, idx_S, slc_L, slc_T, slc_S, isRf_ref, meV_join, meV_split, meV_repl, List.cons_append, List.nil_append, isInt_non, isInt_bl, isInt_int, isInt_str, isInt_tup, isInt_lst, isBool_non, isBool_bl, isBool_int, isBool_str, isBool_tup, isBool_lst, isStr_non, isStr_bl, isStr_int, isStr_str, isStr_tup, isStr_lst, isTuple_non, isTuple_bl, isTuple_int, isTuple_str, isTuple_tup, isTuple_lst, gl0, hl']
              rw [compL_map (fun d => .bl (lenD d == lenD x))]
              · simp only [evE_var, evE_cint, evE_cstr, evE_cbl, evE_cnon, evE_gl, evE_fnv, evE_tup, evE_lst, evE_alc, evE_bin, evE_neg, evE_cmp, evE_chn, evE_andE, evE_orE, evE_notE, evE_ite, evE_idx, evE_slc, evE_rev, evE_call, evE_callv, evE_refu, evE_isx, evE_bi, evE_mth, evE_comp, evE_comp2, evEs_nil, evEs_cons, evOp_no, evOp_yes, evC_no, evC_yes, evI_seq, evI_rng, evI_enm, evI_zip, evI_lsq, evS_asg, evS_par, evS_unp, evS_setI, evS_app, evS_expr, evS_ret, evS_retN, evS_ite, evS_for_, evS_while_, evS_rais, evS_raiV, evS_tryH, evS_pass, evS_brk, evS_cont, evSs_nil, evSs_cons, getV_0, getV_s, n_R_bind_ok, n_R_bind_ex, n_R_nox_ok, n_R_of_some, n_R_refu_ok, n_R_refu_ex, n_asInt_int, n_asBl_bl, n_asStr_str, n_asLst_lst, n_asSq_lst, n_asSq_tup, n_asFn_fn, n_asO_some, n_gd_true, n_two_true, n_two_false, n_FR_ofR_ok, n_FR_ofR_ex, n_FR_ofO_some, n_FR_thn_nx, n_FR_thn_rt, n_FR_thn_ex, n_FR_thn_ct, n_FR_thn_bk, n_FR_turn_nx, n_FR_turn_ct, n_FR_turn_bk, n_FR_turn_rt, n_FR_turn_ex, n_FR_two_true, n_FR_two_false, n_FR_gd_true, List.getElem?_cons_zero, List.getElem?_cons_succ, List.set_cons_zero, List.set_cons_succ, List.map_cons, List.map_nil, List.all_cons, List.all_nil, Bool.and_true, Bool.true_and, Bool.and_false, Bool.false_and, Bool.not_true, Bool.not_false, view_non, view_bl, view_int, view_str, view_tup, view_lst, view_fn, view_scr, truth_bl, bin_addI, bin_subI, cmp_eqI, cmp_neI, cmp_eqS, cmp_neS, cmp_lt, cmp_le, cmp_gt, cmp_ge, cmp_inS, cmp_ninS, setTg_nm, setTg_tp, setTg_tq, setAll_nil, setAll_cons, wipe_nil, wipe_cons, noC_non, noC_bl, noC_int, noC_str, noC_tup, noC_lst, noC_ref, noC_fn, noC_scr, biV_len, biV_isInt, biV_isBool, biV_isStr, biV_isTuple, biV_int_, biV_bool_, biV_str_, biV_tuple_, biV_list_, biV_min2, biV_max2, biV_min1, biV_max1, biV_sum_, biV_all_, biV_any_, biV_abs_, len_S, len_T, len_L, len_R, int_I, tuple_L, tuple_T, list_L, list_T, Option.map_some, Option.map_none, items_S, items_T, items_L, idx_L, idx_T, idx_S, slc_L, slc_T, slc_S, isRf_ref, meV_join, meV_split, meV_repl, List.cons_append, List.nil_append, isInt_non, isInt_bl, isInt_int, isInt_str, isInt_tup, isInt_lst, isBool_non, isBool_bl, isBool_int, isBool_str, isBool_tup, isBool_lst, isStr_non, isStr_bl, isStr_int, isStr_str, isStr_tup, isStr_lst, isTuple_non, isTuple_bl, isTuple_int, isTuple_str, isTuple_tup, isTuple_lst, gl0, all_L, bls_map, List.all_map]
                rfl
              · simp [sizeL]
                omega
              · intro y hy
                obtain ⟨s, rfl, _⟩ := isLine_str (List.all_eq_true.mp hl' y hy)
                obtain ⟨t, rfl, _⟩ := isLine_str (List.all_eq_true.mp hl' x hx)
                refine ⟨_, rfl, rfl, ?_, rfl⟩
                simp only [evE_var, evE_cint, evE_cstr, evE_cbl, evE_cnon, evE_gl, evE_fnv, evE_tup, evE_lst, evE_alc, evE_bin, evE_neg, evE_cmp, evE_chn, evE_andE, evE_orE, evE_notE, evE_ite, evE_idx, evE_slc, evE_rev, evE_call, evE_callv, evE_refu, evE_isx, evE_bi, evE_mth, evE_comp, evE_comp2, evEs_nil, evEs_cons, evOp_no, evOp_yes, evC_no, evC_yes, evI_seq, evI_rng, evI_enm, evI_zip, evI_lsq, evS_asg, evS_par, evS_unp, evS_setI, evS_app, evS_expr, evS_ret, evS_retN, evS_ite, evS_for_, evS_while_, evS_rais, evS_raiV, evS_tryH, evS_pass, evS_brk, evS_cont, evSs_nil, evSs_cons, getV_0, getV_s, n_R_bind_ok, n_R_bind_ex, n_R_nox_ok, n_R_of_some, n_R_refu_ok, n_R_refu_ex, n_asInt_int, n_asBl_bl, n_asStr_str, n_asLst_lst, n_asSq_lst, n_asSq_tup, n_asFn_fn, n_asO_some, n_gd_true, n_two_true, n_two_false, n_FR_ofR_ok, n_FR_ofR_ex, n_FR_ofO_some, n_FR_thn_nx, n_FR_thn_rt, n_FR_thn_ex, n_FR_thn_ct, n_FR_thn_bk, n_FR_turn_nx, n_FR_turn_ct, n_FR_turn_bk, n_FR_turn_rt, n_FR_turn_ex, n_FR_two_true, n_FR_two_false, n_FR_gd_true, List.getElem?_cons_zero, List.getElem?_cons_succ, List.set_cons_zero, List.set_cons_succ, List.map_cons, List.map_nil, List.all_cons, List.all_nil, Bool.and_true, Bool.true_and, Bool.and_false, Bool.false_and, Bool.not_true, Bool.not_false, view_non, view_bl, view_int, view_str, view_tup, view_lst, view_fn, view_scr, truth_bl, bin_addI, bin_subI, cmp_eqI, cmp_neI, cmp_eqS, cmp_neS, cmp_lt, cmp_le, cmp_gt, cmp_ge, cmp_inS, cmp_ninS, setTg_nm, setTg_tp, setTg_tq, setAll_nil, setAll_cons, wipe_nil, wipe_cons, noC_non, noC_bl, noC_int, noC_str, noC_tup, noC_lst, noC_ref, noC_fn, noC_scr, biV_len, biV_isInt, biV_isBool, biV_isStr, biV_isTuple, biV_int_, biV_bool_, biV_str_, biV_tuple_, biV_list_, biV_min2, biV_max2, biV_min1, biV_max1, biV_sum_, biV_all_, biV_any_, biV_abs_, len_S, len_T, len_L, len_R, int_I, tuple_L, tuple_T, list_L, list_T, Option.map_some, Option.map_none, items_S, items_T, items_L, idx_L, idx_T, idx_S, slc_L, slc_T, slc_S, isRf_ref, meV_join, meV_split, meV_repl, List.cons_append, List.nil_append, isInt_non, isInt_bl, isInt_int, isInt_str, isInt_tup, isInt_lst, isBool_non, isBool_bl, isBool_int, isBool_str, isBool_tup, isBool_lst, isStr_non, isStr_bl, isStr_int, isStr_str, isStr_tup, isStr_lst, isTuple_non, isTuple_bl, isTuple_int, isTuple_str, isTuple_tup, isTuple_lst, gl0, K1_1, a0, lenD]
                have : ((s.length : Int) == (t.length : Int)) = (s.length == t.length) := by
                  rw [Bool.eq_iff_iff]
                  simp only [beq_iff_eq]
                  omega
                rw [this]
          · simp [sizeL]
            omega
          · intro y hy
            refine ⟨_, rfl, rfl, ?_, rfl⟩
            simp only [evE_var, evE_cint, evE_cstr, evE_cbl, evE_cnon, evE_gl, evE_fnv, evE_tup, evE_lst, evE_alc, evE_bin, evE_neg, evE_cmp, evE_chn, evE_andE, evE_orE, evE_notE, evE_ite, evE_idx, evE_slc, evE_rev, evE_call, evE_callv, evE_refu, evE_isx, evE_bi, evE_mth, evE_comp, evE_comp2, evEs_nil, evEs_cons, evOp_no, evOp_yes, evC_no, evC_yes, evI_seq, evI_rng, evI_enm, evI_zip, evI_lsq, evS_asg, evS_par, evS_unp, evS_setI, evS_app, evS_expr, evS_ret, evS_retN, evS_ite, evS_for_, evS_while_, evS_rais, evS_raiV, evS_tryH, evS_pass, evS_brk, evS_cont, evSs_nil, evSs_cons, getV_0, getV_s, n_R_bind_ok, n_R_bind_ex, n_R_nox_ok, n_R_of_some, n_R_refu_ok, n_R_refu_ex, n_asInt_int, n_asBl_bl, n_asStr_str, n_asLst_lst, n_asSq_lst, n_asSq_tup, n_asFn_fn, n_asO_some, n_gd_true, n_two_true, n_two_false, n_FR_ofR_ok, n_FR_ofR_ex, n_FR_ofO_some, n_FR_thn_nx, n_FR_thn_rt, n_FR_thn_ex, n_FR_thn_ct, n_FR_thn_bk, n_FR_turn_nx, n_FR_turn_ct, n_FR_turn_bk, n_FR_turn_rt, n_FR_turn_ex, n_FR_two_true, n_FR_two_false, n_FR_gd_true, List.getElem?_cons_zero, List.getElem?_cons_succ, List.set_cons_zero, List.set_cons_succ, List.map_cons, List.map_nil, List.all_cons, List.all_nil, Bool.and_true, Bool.true_and, Bool.and_false, Bool.false_and, Bool.not_true, Bool.not_false, view_non, view_bl, view_int, view_str, view_tup, view_lst, view_fn, view_scr, truth_bl, bin_addI, bin_subI, cmp_eqI, cmp_neI, cmp_eqS, cmp_neS, cmp_lt, cmp_le, cmp_gt, cmp_ge, cmp_inS, cmp_ninS, setTg_nm, setTg_tp, setTg_tq, setAll_nil, setAll_cons, wipe_nil, wipe_cons, noC_non, noC_bl, noC_int, noC_str, noC_tup, noC_lst, noC_ref, noC_fn, noC_scr, biV_len, biV_isInt, biV_isBool, biV_isStr, biV_isTuple, biV_int_, biV_bool_, biV_str_, biV_tuple_, biV_list_, biV_min2, biV_max2, biV_min1, biV_max1, biV_sum_, biV_all_, biV_any_, biV_abs_, len_S, len_T, len_L, len_R, int_I, tuple_L, tuple_T, list_L, list_T, Option.map_some, Option.map_none, items_S, items_T, items_L, idx_L, idx_T, idx_S, slc_L, slc_T, slc_S, isRf_ref, meV_join, meV_split, meV_repl, List.cons_append, List.nil_append, isInt_non, isInt_bl, isInt_int, isInt_str, isInt_tup, isInt_lst, isBool_non, isBool_bl, isBool_int, isBool_str, isBool_tup, isBool_lst, isStr_non, isStr_bl, isStr_int, isStr_str, isStr_tup, isStr_lst, isTuple_non, isTuple_bl, isTuple_int, isTuple_str, isTuple_tup, isTuple_lst, gl0, K1_0, s_is_line n (hp y hy) hS]
        · have q2 : ¬ ws.length ≤ 6 := by omega
          simp only [evE_var, evE_cint, evE_cstr, evE_cbl, evE_cnon, evE_gl, evE_fnv, evE_tup, evE_lst, evE_alc, evE_bin, evE_neg, evE_cmp, evE_chn, evE_andE, evE_orE, evE_notE, evE_ite, evE_idx, evE_slc, evE_rev, evE_call, evE_callv, evE_refu, evE_isx, evE_bi, evE_mth, evE_comp, evE_comp2, evEs_nil, evEs_cons, evOp_no, evOp_yes, evC_no, evC_yes, evI_seq, evI_rng, evI_enm, evI_zip, evI_lsq, evS_asg, evS_par, evS_unp, evS_setI, evS_app, evS_expr, evS_ret, evS_retN, evS_ite, evS_for_, evS_while_, evS_rais, evS_raiV, evS_tryH, evS_pass, evS_brk, evS_cont, evSs_nil, evSs_cons, getV_0, getV_s, n_R_bind_ok, n_R_bind_ex, n_R_nox_ok, n_R_of_some, n_R_refu_ok, n_R_refu_ex, n_asInt_int, n_asBl_bl, n_asStr_str, n_asLst_lst, n_asSq_lst, n_asSq_tup, n_asFn_fn, n_asO_some, n_gd_true, n_two_true, n_two_false, n_FR_ofR_ok, n_FR_ofR_ex, n_FR_ofO_some, n_FR_thn_nx, n_FR_thn_rt, n_FR_thn_ex, n_FR_thn_ct, n_FR_thn_bk, n_FR_turn_nx, n_FR_turn_ct, n_FR_turn_bk, n_FR_turn_rt, n_FR_turn_ex, n_FR_two_true, n_FR_two_false, n_FR_gd_true, List.getElem?_cons_zero, List.getElem?_cons_succ, List.set_cons_zero, List.set_cons_succ, List.map_cons, List.map_nil, List.all_cons, List.all_nil, Bool.and_true, Bool.true_and, Bool.and_false, Bool.false_and, Bool.not_true, Bool.not_false, view_non, view_bl, view_int, view_str, view_tup, view_lst, view_fn, view_scr, truth_bl, bin_addI, bin_subI, cmp_eqI, cmp_neI, cmp_eqS, cmp_neS, cmp_lt, cmp_le, cmp_gt, cmp_ge, cmp_inS, cmp_ninS, setTg_nm, setTg_tp, setTg_tq, setAll_nil, setAll_cons, wipe_nil, wipe_cons, noC_non, noC_bl, noC_int, noC_str, noC_tup, noC_lst, noC_ref, noC_fn, noC_scr, biV_len, biV_isInt, biV_isBool, biV_isStr, biV_isTuple, biV_int_, biV_bool_, biV_str_, biV_tuple_, biV_list_, biV_min2, biV_max2, biV_min1, biV_max1, biV_sum_, biV_all_, biV_any_, biV_abs_, len_S, len_T, len_L, len_R, int_I, tuple_L, tuple_T, list_L, list_T, Option.map_some, Option.map_none, items_S, items_T, items_L, idx_L, idx_T, idx_S, slc_L, slc_T, slc_S, isRf_ref, meV_join, meV_split, meV_repl, List.cons_append, List.nil_append, isInt_non, isInt_bl, isInt_int, isInt_str, isInt_tup, isInt_lst, isBool_non, isBool_bl, isBool_int, isBool_str, isBool_tup, isBool_lst, isStr_non, isStr_bl, isStr_int, isStr_str, isStr_tup, isStr_lst, isTuple_non, isTuple_bl, isTuple_int, isTuple_str, isTuple_tup, isTuple_lst, gl0, B1, h1, h2, q2, decide_true, decide_false]
    · simp only [evE_var, evE_cint, evE_cstr, evE_cbl, evE_cnon, evE_gl, evE_fnv, evE_tup, evE_lst, evE_alc, evE_bin, evE_neg, evE_cmp, evE_chn, evE_andE, evE_orE, evE_notE, evE_ite, evE_idx, evE_slc, evE_rev, evE_call, evE_callv, evE_refu, evE_isx, evE_bi, evE_mth, evE_comp, evE_comp2, evEs_nil, evEs_cons, evOp_no, evOp_yes, evC_no, evC_yes, evI_seq, evI_rng, evI_enm, evI_zip, evI_lsq, evS_asg, evS_par, evS_unp, evS_setI, evS_app, evS_expr, evS_ret, evS_retN, evS_ite, evS_for_, evS_while_, evS_rais, evS_raiV, evS_tryH, evS_pass, evS_brk, evS_cont, evSs_nil, evSs_cons, getV_0, getV_s, n_R_bind_ok, n_R_bind_ex, n_R_nox_ok, n_R_of_some, n_R_refu_ok, n_R_refu_ex, n_asInt_int, n_asBl_bl, n_asStr_str, n_asLst_lst, n_asSq_lst, n_asSq_tup, n_asFn_fn, n_asO_some, n_gd_true, n_two_true, n_two_false, n_FR_ofR_ok, n_FR_ofR_ex, n_FR_ofO_some, n_FR_thn_nx, n_FR_thn_rt, n_FR_thn_ex, n_FR_thn_ct, n_FR_thn_bk, n_FR_turn_nx, n_FR_turn_ct, n_FR_turn_bk, n_FR_turn_rt, n_FR_turn_ex, n_FR_two_true, n_FR_two_false, n_FR_gd_true, List.getElem?_cons_zero, List.getElem?_cons_succ, List.set_cons_zero, List.set_cons_succ, List.map_cons, List.map_nil, List.all_cons, List.all_nil, Bool.and_true, Bool.true_and, Bool.and_false, Bool.false_and, Bool.not_true, Bool.not_false, view_non, view_bl, view_int, view_str, view_tup, view_lst, view_fn, view_scr, truth_bl, bin_addI, bin_subI, cmp_eqI, cmp_neI, cmp_eqS, cmp_neS, cmp_lt, cmp_le, cmp_gt, cmp_ge, cmp_inS, cmp_ninS, setTg_nm, setTg_tp, setTg_tq, setAll_nil, setAll_cons, wipe_nil, wipe_cons, noC_non, noC_bl, noC_int, noC_str, noC_tup, noC_lst, noC_ref, noC_fn, noC_scr, biV_len, biV_isInt, biV_isBool, biV_isStr, biV_isTuple, biV_int_, biV_bool_, biV_str_, biV_tuple_, biV_list_, biV_min2, biV_max2, biV_min1, biV_max1, biV_sum_, biV_all_, biV_any_, biV_abs_, len_S, len_T, len_L, len_R, int_I, tuple_L, tuple_T, list_L, list_T, Option.map_some, Option.map_none, items_S, items_T, items_L, idx_L, idx_T, idx_S, slc_L, slc_T, slc_S, isRf_ref, meV_join, meV_split, meV_repl, List.cons_append, List.nil_append, isInt_non, isInt_bl, isInt_int, isInt_str, isInt_tup, isInt_lst, isBool_non, isBool_bl, isBool_int, isBool_str, isBool_tup, isBool_lst, isStr_non, isStr_bl, isStr_int, isStr_str, isStr_tup, isStr_lst, isTuple_non, isTuple_bl, isTuple_int, isTuple_str, isTuple_tup, isTuple_lst, gl0, B1, isRight]
  rw [e]
  exact ofFR_rt rfl hS
abbrev tl (ts : List (List Nat)) : D := .tup (ts.map .str)
structure TileOk (C : Nat) (ts : List (List Nat)) : Prop where
  r1 : 1 ≤ ts.length
  r6 : ts.length ≤ 6
  c1 : 1 ≤ C
  c6 : C ≤ 6
  len : ∀ s ∈ ts, s.length = C
  sg : ∀ s ∈ ts, s.all sgn = true
theorem right_tl {v : D} (h : isRight v = true) : ∃ C ts, v = tl ts ∧ TileOk C ts := by
  cases v with
  | tup xs =>
    cases xs with
    | nil => simp [isRight] at h
    | cons x xs =>
      simp only [isRight, Bool.and_eq_true, decide_eq_true_eq] at h
      obtain ⟨⟨h1, h2⟩, h3⟩ := h
      have g : ∀ ys : List D, ys.all isLine = true → ∃ ts : List (List Nat), ys = ts.map .str := by
        intro ys
        induction ys with
        | nil => exact fun _ => ⟨[], rfl⟩
        | cons y ys ih =>
          intro h
          simp only [List.all_cons, Bool.and_eq_true] at h
          obtain ⟨s, rfl, _⟩ := isLine_str h.1
          obtain ⟨ts, rfl⟩ := ih h.2
          exact ⟨s :: ts, rfl⟩
      obtain ⟨ts, e⟩ := g _ h2
      rw [e] at h2 h3
      have hl : ts.length = xs.length + 1 := by
        have := congrArg List.length e
        simpa using this.symm
      refine ⟨lenD x, ts, by rw [e], ⟨by omega, by omega, ?_, ?_, fun s hs => ?_, fun s hs => ?_⟩⟩
      · have hx : x ∈ ts.map D.str := by rw [← e]; simp
        obtain ⟨s, rfl, q, _⟩ := isLine_str (List.all_eq_true.mp h2 x hx)
        exact q
      · have hx : x ∈ ts.map D.str := by rw [← e]; simp
        obtain ⟨s, rfl, _, q, _⟩ := isLine_str (List.all_eq_true.mp h2 x hx)
        exact q
      · have := List.all_eq_true.mp h3 (.str s) (List.mem_map.mpr ⟨s, hs, rfl⟩)
        simpa [lenD] using this
      · obtain ⟨s', e', _, _, q⟩ := isLine_str (List.all_eq_true.mp h2 (.str s) (List.mem_map.mpr ⟨s, hs, rfl⟩))
        cases e'
        exact q
  | _ => simp [isRight] at h
theorem tl_right {C : Nat} {ts : List (List Nat)} (h : TileOk C ts) : isRight (tl ts) = true := by
  cases ts with
  | nil => have := h.r1; simp at this
  | cons t ts =>
    simp only [tl, List.map_cons, isRight, Bool.and_eq_true, decide_eq_true_eq, List.all_eq_true]
    refine ⟨⟨by have := h.r6; simpa using this, fun x hx => ?_⟩, fun x hx => ?_⟩
    · rw [← List.map_cons, List.mem_map] at hx
      obtain ⟨s, hs, rfl⟩ := hx
      simp only [isLine, Bool.and_eq_true, decide_eq_true_eq]
      rw [h.len s hs]
      exact ⟨⟨h.c1, h.c6⟩, h.sg s hs⟩
    · rw [← List.map_cons, List.mem_map] at hx
      obtain ⟨s, hs, rfl⟩ := hx
      simp only [lenD, beq_iff_eq]
      rw [h.len s hs, h.len t (by simp)]
theorem tl_plain (ts : List (List Nat)) (k : Nat) : (tl ts).plain (k + 1) = true := by
  rw [plain_tup]
  intro x hx
  obtain ⟨s, _, rfl⟩ := List.mem_map.mp hx
  exact plain_str k s
theorem s_need_tile (n : Nat) {k : Nat} {v : D} {S : Store} (hv : v.plain k = true) (hS : SOk S) : run pg (n + 3) (.fn 2) [v] S = two (isRight v) (.ok .non S) (.ex 0 .non S) := by
  rw [run2]
  cases h : isRight v with
  | true =>
    simp only [evE_var, evE_cint, evE_cstr, evE_cbl, evE_cnon, evE_gl, evE_fnv, evE_tup, evE_lst, evE_alc, evE_bin, evE_neg, evE_cmp, evE_chn, evE_andE, evE_orE, evE_notE, evE_ite, evE_idx, evE_slc, evE_rev, evE_call, evE_callv, evE_refu, evE_isx, evE_bi, evE_mth, evE_comp, evE_comp2, evEs_nil, evEs_cons, evOp_no, evOp_yes, evC_no, evC_yes, evI_seq, evI_rng, evI_enm, evI_zip, evI_lsq, evS_asg, evS_par, evS_unp, evS_setI, evS_app, evS_expr, evS_ret, evS_retN, evS_ite, evS_for_, evS_while_, evS_rais, evS_raiV, evS_tryH, evS_pass, evS_brk, evS_cont, evSs_nil, evSs_cons, getV_0, getV_s, n_R_bind_ok, n_R_bind_ex, n_R_nox_ok, n_R_of_some, n_R_refu_ok, n_R_refu_ex, n_asInt_int, n_asBl_bl, n_asStr_str, n_asLst_lst, n_asSq_lst, n_asSq_tup, n_asFn_fn, n_asO_some, n_gd_true, n_two_true, n_two_false, n_FR_ofR_ok, n_FR_ofR_ex, n_FR_ofO_some, n_FR_thn_nx, n_FR_thn_rt, n_FR_thn_ex, n_FR_thn_ct, n_FR_thn_bk, n_FR_turn_nx, n_FR_turn_ct, n_FR_turn_bk, n_FR_turn_rt, n_FR_turn_ex, n_FR_two_true, n_FR_two_false, n_FR_gd_true, List.getElem?_cons_zero, List.getElem?_cons_succ, List.set_cons_zero, List.set_cons_succ, List.map_cons, List.map_nil, List.all_cons, List.all_nil, Bool.and_true, Bool.true_and, Bool.and_false, Bool.false_and, Bool.not_true, Bool.not_false, view_non, view_bl, view_int, view_str, view_tup, view_lst, view_fn, view_scr, truth_bl, bin_addI, bin_subI, cmp_eqI, cmp_neI, cmp_eqS, cmp_neS, cmp_lt, cmp_le, cmp_gt, cmp_ge, cmp_inS, cmp_ninS, setTg_nm, setTg_tp, setTg_tq, setAll_nil, setAll_cons, wipe_nil, wipe_cons, noC_non, noC_bl, noC_int, noC_str, noC_tup, noC_lst, noC_ref, noC_fn, noC_scr, biV_len, biV_isInt, biV_isBool, biV_isStr, biV_isTuple, biV_int_, biV_bool_, biV_str_, biV_tuple_, biV_list_, biV_min2, biV_max2, biV_min1, biV_max1, biV_sum_, biV_all_, biV_any_, biV_abs_, len_S, len_T, len_L, len_R, int_I, tuple_L, tuple_T, list_L, list_T, Option.map_some, Option.map_none, items_S, items_T, items_L, idx_L, idx_T, idx_S, slc_L, slc_T, slc_S, isRf_ref, meV_join, meV_split, meV_repl, List.cons_append, List.nil_append, isInt_non, isInt_bl, isInt_int, isInt_str, isInt_tup, isInt_lst, isBool_non, isBool_bl, isBool_int, isBool_str, isBool_tup, isBool_lst, isStr_non, isStr_bl, isStr_int, isStr_str, isStr_tup, isStr_lst, isTuple_non, isTuple_bl, isTuple_int, isTuple_str, isTuple_tup, isTuple_lst, gl0, B2, s_right_tile n hv hS, h]
    exact ofFR_nx hS
  | false =>
    simp only [evE_var, evE_cint, evE_cstr, evE_cbl, evE_cnon, evE_gl, evE_fnv, evE_tup, evE_lst, evE_alc, evE_bin, evE_neg, evE_cmp, evE_chn, evE_andE, evE_orE, evE_notE, evE_ite, evE_idx, evE_slc, evE_rev, evE_call, evE_callv, evE_refu, evE_isx, evE_bi, evE_mth, evE_comp, evE_comp2, evEs_nil, evEs_cons, evOp_no, evOp_yes, evC_no, evC_yes, evI_seq, evI_rng, evI_enm, evI_zip, evI_lsq, evS_asg, evS_par, evS_unp, evS_setI, evS_app, evS_expr, evS_ret, evS_retN, evS_ite, evS_for_, evS_while_, evS_rais, evS_raiV, evS_tryH, evS_pass, evS_brk, evS_cont, evSs_nil, evSs_cons, getV_0, getV_s, n_R_bind_ok, n_R_bind_ex, n_R_nox_ok, n_R_of_some, n_R_refu_ok, n_R_refu_ex, n_asInt_int, n_asBl_bl, n_asStr_str, n_asLst_lst, n_asSq_lst, n_asSq_tup, n_asFn_fn, n_asO_some, n_gd_true, n_two_true, n_two_false, n_FR_ofR_ok, n_FR_ofR_ex, n_FR_ofO_some, n_FR_thn_nx, n_FR_thn_rt, n_FR_thn_ex, n_FR_thn_ct, n_FR_thn_bk, n_FR_turn_nx, n_FR_turn_ct, n_FR_turn_bk, n_FR_turn_rt, n_FR_turn_ex, n_FR_two_true, n_FR_two_false, n_FR_gd_true, List.getElem?_cons_zero, List.getElem?_cons_succ, List.set_cons_zero, List.set_cons_succ, List.map_cons, List.map_nil, List.all_cons, List.all_nil, Bool.and_true, Bool.true_and, Bool.and_false, Bool.false_and, Bool.not_true, Bool.not_false, view_non, view_bl, view_int, view_str, view_tup, view_lst, view_fn, view_scr, truth_bl, bin_addI, bin_subI, cmp_eqI, cmp_neI, cmp_eqS, cmp_neS, cmp_lt, cmp_le, cmp_gt, cmp_ge, cmp_inS, cmp_ninS, setTg_nm, setTg_tp, setTg_tq, setAll_nil, setAll_cons, wipe_nil, wipe_cons, noC_non, noC_bl, noC_int, noC_str, noC_tup, noC_lst, noC_ref, noC_fn, noC_scr, biV_len, biV_isInt, biV_isBool, biV_isStr, biV_isTuple, biV_int_, biV_bool_, biV_str_, biV_tuple_, biV_list_, biV_min2, biV_max2, biV_min1, biV_max1, biV_sum_, biV_all_, biV_any_, biV_abs_, len_S, len_T, len_L, len_R, int_I, tuple_L, tuple_T, list_L, list_T, Option.map_some, Option.map_none, items_S, items_T, items_L, idx_L, idx_T, idx_S, slc_L, slc_T, slc_S, isRf_ref, meV_join, meV_split, meV_repl, List.cons_append, List.nil_append, isInt_non, isInt_bl, isInt_int, isInt_str, isInt_tup, isInt_lst, isBool_non, isBool_bl, isBool_int, isBool_str, isBool_tup, isBool_lst, isStr_non, isStr_bl, isStr_int, isStr_str, isStr_tup, isStr_lst, isTuple_non, isTuple_bl, isTuple_int, isTuple_str, isTuple_tup, isTuple_lst, gl0, B2, s_right_tile n hv hS, h]
    exact ofFR_ex rfl hS
theorem s_source (n : Nat) {ns : List Int} {k : Nat} {S : Store} (hk : k ≤ 1000) (hS : SOk S) : ∃ a b : Int, run pg (n + 1) (.fn 6) [.scr ns, .int k] S = .ok (.ref S.length) (S ++ [.lst [.int a, .int b]]) := by
  rw [run6]
  have m1 : ∀ x : Int, mulOk x 16807 = true := fun x => mulOk_right (by decide) (by decide)
  have m2 : ∀ x : Int, mulOk 60919 x = true := fun x => mulOk_left (by decide) (by decide)
  have m3 : ∀ x : Int, mulOk 2 x = true := fun x => mulOk_left (by decide) (by decide)
  have m4 : ∀ x y : Int, mulOk (x % 2147481173) y = true := fun x y => mulOk_left (by have := Int.emod_nonneg x (show (2147481173 : Int) ≠ 0 by decide); omega) (by have := Int.emod_lt_of_pos x (show (0 : Int) < 2147481173 by decide); omega)
  have c1 : (0 : Int) < 2147481173 := by decide
  have c2 : (0 : Int) < 2147481151 := by decide
  have c3 : bin .pow (.int 10) (.int 18) = some (.int 1000000000000000000) := Eq.trans rfl rfl
  by_cases h : (k : Int) < (ns.length : Int)
  · have h' : k < ns.length := by omega
    simp only [evE_var, evE_cint, evE_cstr, evE_cbl, evE_cnon, evE_gl, evE_fnv, evE_tup, evE_lst, evE_alc, evE_bin, evE_neg, evE_cmp, evE_chn, evE_andE, evE_orE, evE_notE, evE_ite, evE_idx, evE_slc, evE_rev, evE_call, evE_callv, evE_refu, evE_isx, evE_bi, evE_mth, evE_comp, evE_comp2, evEs_nil, evEs_cons, evOp_no, evOp_yes, evC_no, evC_yes, evI_seq, evI_rng, evI_enm, evI_zip, evI_lsq, evS_asg, evS_par, evS_unp, evS_setI, evS_app, evS_expr, evS_ret, evS_retN, evS_ite, evS_for_, evS_while_, evS_rais, evS_raiV, evS_tryH, evS_pass, evS_brk, evS_cont, evSs_nil, evSs_cons, getV_0, getV_s, n_R_bind_ok, n_R_bind_ex, n_R_nox_ok, n_R_of_some, n_R_refu_ok, n_R_refu_ex, n_asInt_int, n_asBl_bl, n_asStr_str, n_asLst_lst, n_asSq_lst, n_asSq_tup, n_asFn_fn, n_asO_some, n_gd_true, n_two_true, n_two_false, n_FR_ofR_ok, n_FR_ofR_ex, n_FR_ofO_some, n_FR_thn_nx, n_FR_thn_rt, n_FR_thn_ex, n_FR_thn_ct, n_FR_thn_bk, n_FR_turn_nx, n_FR_turn_ct, n_FR_turn_bk, n_FR_turn_rt, n_FR_turn_ex, n_FR_two_true, n_FR_two_false, n_FR_gd_true, List.getElem?_cons_zero, List.getElem?_cons_succ, List.set_cons_zero, List.set_cons_succ, List.map_cons, List.map_nil, List.all_cons, List.all_nil, Bool.and_true, Bool.true_and, Bool.and_false, Bool.false_and, Bool.not_true, Bool.not_false, view_non, view_bl, view_int, view_str, view_tup, view_lst, view_fn, view_scr, truth_bl, bin_addI, bin_subI, cmp_eqI, cmp_neI, cmp_eqS, cmp_neS, cmp_lt, cmp_le, cmp_gt, cmp_ge, cmp_inS, cmp_ninS, setTg_nm, setTg_tp, setTg_tq, setAll_nil, setAll_cons, wipe_nil, wipe_cons, noC_non, noC_bl, noC_int, noC_str, noC_tup, noC_lst, noC_ref, noC_fn, noC_scr, biV_len, biV_isInt, biV_isBool, biV_isStr, biV_isTuple, biV_int_, biV_bool_, biV_str_, biV_tuple_, biV_list_, biV_min2, biV_max2, biV_min1, biV_max1, biV_sum_, biV_all_, biV_any_, biV_abs_, len_S, len_T, len_L, len_R, int_I, tuple_L, tuple_T, list_L, list_T, Option.map_some, Option.map_none, items_S, items_T, items_L, idx_L, idx_T, idx_S, slc_L, slc_T, slc_S, isRf_ref, meV_join, meV_split, meV_repl, List.cons_append, List.nil_append, isInt_non, isInt_bl, isInt_int, isInt_str, isInt_tup, isInt_lst, isBool_non, isBool_bl, isBool_int, isBool_str, isBool_tup, isBool_lst, isStr_non, isStr_bl, isStr_int, isStr_str, isStr_tup, isStr_lst, isTuple_non, isTuple_bl, isTuple_int, isTuple_str, isTuple_tup, isTuple_lst, gl0, B6, h, decide_true, idx_R, at_nat h', bin_mulI, bin_modI, m1, m2, m3, m4, c1, c2, c3, if_true]
    by_cases g : 1000000000000000000 ≤ ns[k]
    · simp only [evE_var, evE_cint, evE_cstr, evE_cbl, evE_cnon, evE_gl, evE_fnv, evE_tup, evE_lst, evE_alc, evE_bin, evE_neg, evE_cmp, evE_chn, evE_andE, evE_orE, evE_notE, evE_ite, evE_idx, evE_slc, evE_rev, evE_call, evE_callv, evE_refu, evE_isx, evE_bi, evE_mth, evE_comp, evE_comp2, evEs_nil, evEs_cons, evOp_no, evOp_yes, evC_no, evC_yes, evI_seq, evI_rng, evI_enm, evI_zip, evI_lsq, evS_asg, evS_par, evS_unp, evS_setI, evS_app, evS_expr, evS_ret, evS_retN, evS_ite, evS_for_, evS_while_, evS_rais, evS_raiV, evS_tryH, evS_pass, evS_brk, evS_cont, evSs_nil, evSs_cons, getV_0, getV_s, n_R_bind_ok, n_R_bind_ex, n_R_nox_ok, n_R_of_some, n_R_refu_ok, n_R_refu_ex, n_asInt_int, n_asBl_bl, n_asStr_str, n_asLst_lst, n_asSq_lst, n_asSq_tup, n_asFn_fn, n_asO_some, n_gd_true, n_two_true, n_two_false, n_FR_ofR_ok, n_FR_ofR_ex, n_FR_ofO_some, n_FR_thn_nx, n_FR_thn_rt, n_FR_thn_ex, n_FR_thn_ct, n_FR_thn_bk, n_FR_turn_nx, n_FR_turn_ct, n_FR_turn_bk, n_FR_turn_rt, n_FR_turn_ex, n_FR_two_true, n_FR_two_false, n_FR_gd_true, List.getElem?_cons_zero, List.getElem?_cons_succ, List.set_cons_zero, List.set_cons_succ, List.map_cons, List.map_nil, List.all_cons, List.all_nil, Bool.and_true, Bool.true_and, Bool.and_false, Bool.false_and, Bool.not_true, Bool.not_false, view_non, view_bl, view_int, view_str, view_tup, view_lst, view_fn, view_scr, truth_bl, bin_addI, bin_subI, cmp_eqI, cmp_neI, cmp_eqS, cmp_neS, cmp_lt, cmp_le, cmp_gt, cmp_ge, cmp_inS, cmp_ninS, setTg_nm, setTg_tp, setTg_tq, setAll_nil, setAll_cons, wipe_nil, wipe_cons, noC_non, noC_bl, noC_int, noC_str, noC_tup, noC_lst, noC_ref, noC_fn, noC_scr, biV_len, biV_isInt, biV_isBool, biV_isStr, biV_isTuple, biV_int_, biV_bool_, biV_str_, biV_tuple_, biV_list_, biV_min2, biV_max2, biV_min1, biV_max1, biV_sum_, biV_all_, biV_any_, biV_abs_, len_S, len_T, len_L, len_R, int_I, tuple_L, tuple_T, list_L, list_T, Option.map_some, Option.map_none, items_S, items_T, items_L, idx_L, idx_T, idx_S, slc_L, slc_T, slc_S, isRf_ref, meV_join, meV_split, meV_repl, List.cons_append, List.nil_append, isInt_non, isInt_bl, isInt_int, isInt_str, isInt_tup, isInt_lst, isBool_non, isBool_bl, isBool_int, isBool_str, isBool_tup, isBool_lst, isStr_non, isStr_bl, isStr_int, isStr_str, isStr_tup, isStr_lst, isTuple_non, isTuple_bl, isTuple_int, isTuple_str, isTuple_tup, isTuple_lst, gl0, g, decide_true]
      exact ⟨_, _, rfl⟩
    · simp only [evE_var, evE_cint, evE_cstr, evE_cbl, evE_cnon, evE_gl, evE_fnv, evE_tup, evE_lst, evE_alc, evE_bin, evE_neg, evE_cmp, evE_chn, evE_andE, evE_orE, evE_notE, evE_ite, evE_idx, evE_slc, evE_rev, evE_call, evE_callv, evE_refu, evE_isx, evE_bi, evE_mth, evE_comp, evE_comp2, evEs_nil, evEs_cons, evOp_no, evOp_yes, evC_no, evC_yes, evI_seq, evI_rng, evI_enm, evI_zip, evI_lsq, evS_asg, evS_par, evS_unp, evS_setI, evS_app, evS_expr, evS_ret, evS_retN, evS_ite, evS_for_, evS_while_, evS_rais, evS_raiV, evS_tryH, evS_pass, evS_brk, evS_cont, evSs_nil, evSs_cons, getV_0, getV_s, n_R_bind_ok, n_R_bind_ex, n_R_nox_ok, n_R_of_some, n_R_refu_ok, n_R_refu_ex, n_asInt_int, n_asBl_bl, n_asStr_str, n_asLst_lst, n_asSq_lst, n_asSq_tup, n_asFn_fn, n_asO_some, n_gd_true, n_two_true, n_two_false, n_FR_ofR_ok, n_FR_ofR_ex, n_FR_ofO_some, n_FR_thn_nx, n_FR_thn_rt, n_FR_thn_ex, n_FR_thn_ct, n_FR_thn_bk, n_FR_turn_nx, n_FR_turn_ct, n_FR_turn_bk, n_FR_turn_rt, n_FR_turn_ex, n_FR_two_true, n_FR_two_false, n_FR_gd_true, List.getElem?_cons_zero, List.getElem?_cons_succ, List.set_cons_zero, List.set_cons_succ, List.map_cons, List.map_nil, List.all_cons, List.all_nil, Bool.and_true, Bool.true_and, Bool.and_false, Bool.false_and, Bool.not_true, Bool.not_false, view_non, view_bl, view_int, view_str, view_tup, view_lst, view_fn, view_scr, truth_bl, bin_addI, bin_subI, cmp_eqI, cmp_neI, cmp_eqS, cmp_neS, cmp_lt, cmp_le, cmp_gt, cmp_ge, cmp_inS, cmp_ninS, setTg_nm, setTg_tp, setTg_tq, setAll_nil, setAll_cons, wipe_nil, wipe_cons, noC_non, noC_bl, noC_int, noC_str, noC_tup, noC_lst, noC_ref, noC_fn, noC_scr, biV_len, biV_isInt, biV_isBool, biV_isStr, biV_isTuple, biV_int_, biV_bool_, biV_str_, biV_tuple_, biV_list_, biV_min2, biV_max2, biV_min1, biV_max1, biV_sum_, biV_all_, biV_any_, biV_abs_, len_S, len_T, len_L, len_R, int_I, tuple_L, tuple_T, list_L, list_T, Option.map_some, Option.map_none, items_S, items_T, items_L, idx_L, idx_T, idx_S, slc_L, slc_T, slc_S, isRf_ref, meV_join, meV_split, meV_repl, List.cons_append, List.nil_append, isInt_non, isInt_bl, isInt_int, isInt_str, isInt_tup, isInt_lst, isBool_non, isBool_bl, isBool_int, isBool_str, isBool_tup, isBool_lst, isStr_non, isStr_bl, isStr_int, isStr_str, isStr_tup, isStr_lst, isTuple_non, isTuple_bl, isTuple_int, isTuple_str, isTuple_tup, isTuple_lst, gl0, g, decide_false]
      exact ⟨_, _, rfl⟩
  · simp only [evE_var, evE_cint, evE_cstr, evE_cbl, evE_cnon, evE_gl, evE_fnv, evE_tup, evE_lst, evE_alc, evE_bin, evE_neg, evE_cmp, evE_chn, evE_andE, evE_orE, evE_notE, evE_ite, evE_idx, evE_slc, evE_rev, evE_call, evE_callv, evE_refu, evE_isx, evE_bi, evE_mth, evE_comp, evE_comp2, evEs_nil, evEs_cons, evOp_no, evOp_yes, evC_no, evC_yes, evI_seq, evI_rng, evI_enm, evI_zip, evI_lsq, evS_asg, evS_par, evS_unp, evS_setI, evS_app, evS_expr, evS_ret, evS_retN, evS_ite, evS_for_, evS_while_, evS_rais, evS_raiV, evS_tryH, evS_pass, evS_brk, evS_cont, evSs_nil, evSs_cons, getV_0, getV_s, n_R_bind_ok, n_R_bind_ex, n_R_nox_ok, n_R_of_some, n_R_refu_ok, n_R_refu_ex, n_asInt_int, n_asBl_bl, n_asStr_str, n_asLst_lst, n_asSq_lst, n_asSq_tup, n_asFn_fn, n_asO_some, n_gd_true, n_two_true, n_two_false, n_FR_ofR_ok, n_FR_ofR_ex, n_FR_ofO_some, n_FR_thn_nx, n_FR_thn_rt, n_FR_thn_ex, n_FR_thn_ct, n_FR_thn_bk, n_FR_turn_nx, n_FR_turn_ct, n_FR_turn_bk, n_FR_turn_rt, n_FR_turn_ex, n_FR_two_true, n_FR_two_false, n_FR_gd_true, List.getElem?_cons_zero, List.getElem?_cons_succ, List.set_cons_zero, List.set_cons_succ, List.map_cons, List.map_nil, List.all_cons, List.all_nil, Bool.and_true, Bool.true_and, Bool.and_false, Bool.false_and, Bool.not_true, Bool.not_false, view_non, view_bl, view_int, view_str, view_tup, view_lst, view_fn, view_scr, truth_bl, bin_addI, bin_subI, cmp_eqI, cmp_neI, cmp_eqS, cmp_neS, cmp_lt, cmp_le, cmp_gt, cmp_ge, cmp_inS, cmp_ninS, setTg_nm, setTg_tp, setTg_tq, setAll_nil, setAll_cons, wipe_nil, wipe_cons, noC_non, noC_bl, noC_int, noC_str, noC_tup, noC_lst, noC_ref, noC_fn, noC_scr, biV_len, biV_isInt, biV_isBool, biV_isStr, biV_isTuple, biV_int_, biV_bool_, biV_str_, biV_tuple_, biV_list_, biV_min2, biV_max2, biV_min1, biV_max1, biV_sum_, biV_all_, biV_any_, biV_abs_, len_S, len_T, len_L, len_R, int_I, tuple_L, tuple_T, list_L, list_T, Option.map_some, Option.map_none, items_S, items_T, items_L, idx_L, idx_T, idx_S, slc_L, slc_T, slc_S, isRf_ref, meV_join, meV_split, meV_repl, List.cons_append, List.nil_append, isInt_non, isInt_bl, isInt_int, isInt_str, isInt_tup, isInt_lst, isBool_non, isBool_bl, isBool_int, isBool_str, isBool_tup, isBool_lst, isStr_non, isStr_bl, isStr_int, isStr_str, isStr_tup, isStr_lst, isTuple_non, isTuple_bl, isTuple_int, isTuple_str, isTuple_tup, isTuple_lst, gl0, B6, h, decide_false, bin_mulI, bin_modI, m1, m2, m3, m4, c1, c2, c3, if_true]
    have g : ¬ (1000000000000000000 : Int) ≤ 0 := by decide
    simp only [evE_var, evE_cint, evE_cstr, evE_cbl, evE_cnon, evE_gl, evE_fnv, evE_tup, evE_lst, evE_alc, evE_bin, evE_neg, evE_cmp, evE_chn, evE_andE, evE_orE, evE_notE, evE_ite, evE_idx, evE_slc, evE_rev, evE_call, evE_callv, evE_refu, evE_isx, evE_bi, evE_mth, evE_comp, evE_comp2, evEs_nil, evEs_cons, evOp_no, evOp_yes, evC_no, evC_yes, evI_seq, evI_rng, evI_enm, evI_zip, evI_lsq, evS_asg, evS_par, evS_unp, evS_setI, evS_app, evS_expr, evS_ret, evS_retN, evS_ite, evS_for_, evS_while_, evS_rais, evS_raiV, evS_tryH, evS_pass, evS_brk, evS_cont, evSs_nil, evSs_cons, getV_0, getV_s, n_R_bind_ok, n_R_bind_ex, n_R_nox_ok, n_R_of_some, n_R_refu_ok, n_R_refu_ex, n_asInt_int, n_asBl_bl, n_asStr_str, n_asLst_lst, n_asSq_lst, n_asSq_tup, n_asFn_fn, n_asO_some, n_gd_true, n_two_true, n_two_false, n_FR_ofR_ok, n_FR_ofR_ex, n_FR_ofO_some, n_FR_thn_nx, n_FR_thn_rt, n_FR_thn_ex, n_FR_thn_ct, n_FR_thn_bk, n_FR_turn_nx, n_FR_turn_ct, n_FR_turn_bk, n_FR_turn_rt, n_FR_turn_ex, n_FR_two_true, n_FR_two_false, n_FR_gd_true, List.getElem?_cons_zero, List.getElem?_cons_succ, List.set_cons_zero, List.set_cons_succ, List.map_cons, List.map_nil, List.all_cons, List.all_nil, Bool.and_true, Bool.true_and, Bool.and_false, Bool.false_and, Bool.not_true, Bool.not_false, view_non, view_bl, view_int, view_str, view_tup, view_lst, view_fn, view_scr, truth_bl, bin_addI, bin_subI, cmp_eqI, cmp_neI, cmp_eqS, cmp_neS, cmp_lt, cmp_le, cmp_gt, cmp_ge, cmp_inS, cmp_ninS, setTg_nm, setTg_tp, setTg_tq, setAll_nil, setAll_cons, wipe_nil, wipe_cons, noC_non, noC_bl, noC_int, noC_str, noC_tup, noC_lst, noC_ref, noC_fn, noC_scr, biV_len, biV_isInt, biV_isBool, biV_isStr, biV_isTuple, biV_int_, biV_bool_, biV_str_, biV_tuple_, biV_list_, biV_min2, biV_max2, biV_min1, biV_max1, biV_sum_, biV_all_, biV_any_, biV_abs_, len_S, len_T, len_L, len_R, int_I, tuple_L, tuple_T, list_L, list_T, Option.map_some, Option.map_none, items_S, items_T, items_L, idx_L, idx_T, idx_S, slc_L, slc_T, slc_S, isRf_ref, meV_join, meV_split, meV_repl, List.cons_append, List.nil_append, isInt_non, isInt_bl, isInt_int, isInt_str, isInt_tup, isInt_lst, isBool_non, isBool_bl, isBool_int, isBool_str, isBool_tup, isBool_lst, isStr_non, isStr_bl, isStr_int, isStr_str, isStr_tup, isStr_lst, isTuple_non, isTuple_bl, isTuple_int, isTuple_str, isTuple_tup, isTuple_lst, gl0, g, decide_false]
    exact ⟨_, _, rfl⟩
theorem s_pick (n : Nat) {l : Nat} {m : Int} {S : Store} (hS : Src S l) (h0 : 0 < m) (h1 : m ≤ 1000000000000000000000000000000000000000000000000000) : Res l S (run pg (n + 1) (.fn 7) [.ref l, .int m] S) fun d T => (∃ v : Int, d = .int v ∧ 0 ≤ v ∧ v < m) ∧ T.length = S.length := by
  rw [run7]
  obtain ⟨a, b, ha⟩ := hS.at_
  have hl := hS.lt
  have d1 : divOk m = true := divOk_of h0 h1
  have q0 : at_ [D.int a, D.int b] 0 = some (.int a) := rfl
  have q1 : at_ [D.int a, D.int b] 1 = some (.int b) := rfl
  by_cases h : 0 < a
  · have s0 : getL S (.ref l) = some (l, [D.int a, D.int b]) := getLv ha
    have s1 : ixD [D.int a, D.int b].length (.int 0) = some 0 := rfl
    simp only [evE_var, evE_cint, evE_cstr, evE_cbl, evE_cnon, evE_gl, evE_fnv, evE_tup, evE_lst, evE_alc, evE_bin, evE_neg, evE_cmp, evE_chn, evE_andE, evE_orE, evE_notE, evE_ite, evE_idx, evE_slc, evE_rev, evE_call, evE_callv, evE_refu, evE_isx, evE_bi, evE_mth, evE_comp, evE_comp2, evEs_nil, evEs_cons, evOp_no, evOp_yes, evC_no, evC_yes, evI_seq, evI_rng, evI_enm, evI_zip, evI_lsq, evS_asg, evS_par, evS_unp, evS_setI, evS_app, evS_expr, evS_ret, evS_retN, evS_ite, evS_for_, evS_while_, evS_rais, evS_raiV, evS_tryH, evS_pass, evS_brk, evS_cont, evSs_nil, evSs_cons, getV_0, getV_s, n_R_bind_ok, n_R_bind_ex, n_R_nox_ok, n_R_of_some, n_R_refu_ok, n_R_refu_ex, n_asInt_int, n_asBl_bl, n_asStr_str, n_asLst_lst, n_asSq_lst, n_asSq_tup, n_asFn_fn, n_asO_some, n_gd_true, n_two_true, n_two_false, n_FR_ofR_ok, n_FR_ofR_ex, n_FR_ofO_some, n_FR_thn_nx, n_FR_thn_rt, n_FR_thn_ex, n_FR_thn_ct, n_FR_thn_bk, n_FR_turn_nx, n_FR_turn_ct, n_FR_turn_bk, n_FR_turn_rt, n_FR_turn_ex, n_FR_two_true, n_FR_two_false, n_FR_gd_true, List.getElem?_cons_zero, List.getElem?_cons_succ, List.set_cons_zero, List.set_cons_succ, List.map_cons, List.map_nil, List.all_cons, List.all_nil, Bool.and_true, Bool.true_and, Bool.and_false, Bool.false_and, Bool.not_true, Bool.not_false, view_non, view_bl, view_int, view_str, view_tup, view_lst, view_fn, view_scr, truth_bl, bin_addI, bin_subI, cmp_eqI, cmp_neI, cmp_eqS, cmp_neS, cmp_lt, cmp_le, cmp_gt, cmp_ge, cmp_inS, cmp_ninS, setTg_nm, setTg_tp, setTg_tq, setAll_nil, setAll_cons, wipe_nil, wipe_cons, noC_non, noC_bl, noC_int, noC_str, noC_tup, noC_lst, noC_ref, noC_fn, noC_scr, biV_len, biV_isInt, biV_isBool, biV_isStr, biV_isTuple, biV_int_, biV_bool_, biV_str_, biV_tuple_, biV_list_, biV_min2, biV_max2, biV_min1, biV_max1, biV_sum_, biV_all_, biV_any_, biV_abs_, len_S, len_T, len_L, len_R, int_I, tuple_L, tuple_T, list_L, list_T, Option.map_some, Option.map_none, items_S, items_T, items_L, idx_L, idx_T, idx_S, slc_L, slc_T, slc_S, isRf_ref, meV_join, meV_split, meV_repl, List.cons_append, List.nil_append, isInt_non, isInt_bl, isInt_int, isInt_str, isInt_tup, isInt_lst, isBool_non, isBool_bl, isBool_int, isBool_str, isBool_tup, isBool_lst, isStr_non, isStr_bl, isStr_int, isStr_str, isStr_tup, isStr_lst, isTuple_non, isTuple_bl, isTuple_int, isTuple_str, isTuple_tup, isTuple_lst, gl0, B7, view_at ha, q0, h, decide_true, bin_modI, bin_fdivI, h0, d1, if_true, s0, s1]
    exact res_cut hS (ev_set hS) rfl ⟨_, rfl, Int.emod_nonneg _ (by omega), Int.emod_lt_of_pos _ h0⟩
  · have m1 : ∀ x : Int, mulOk x 44497 = true := fun x => mulOk_right (by decide) (by decide)
    have s0 : getL S (.ref l) = some (l, [D.int a, D.int b]) := getLv ha
    have s1 : ixD [D.int a, D.int b].length (.int 1) = some 1 := rfl
    have c1 : (0 : Int) < 2147483647 := by decide
    have c2 : (0 : Int) < 2147483399 := by decide
    have c3 : divOk 11 = true := by decide +kernel
    have v2 : ∀ x : D, view (S.set l (.lst [.int a, x])) (.ref l) = .lst [.int a, x] := fun x => view_at (by simp [hl])
    have q2 : ∀ x : D, at_ [D.int a, x] 1 = some x := fun x => rfl
    have m4 : ∀ x y : Int, mulOk (x % 2147483647) y = true := fun x y => mulOk_left (by have := Int.emod_nonneg x (show (2147483647 : Int) ≠ 0 by decide); omega) (by have := Int.emod_lt_of_pos x (show (0 : Int) < 2147483647 by decide); omega)
    simp only [evE_var, evE_cint, evE_cstr, evE_cbl, evE_cnon, evE_gl, evE_fnv, evE_tup, evE_lst, evE_alc, evE_bin, evE_neg, evE_cmp, evE_chn, evE_andE, evE_orE, evE_notE, evE_ite, evE_idx, evE_slc, evE_rev, evE_call, evE_callv, evE_refu, evE_isx, evE_bi, evE_mth, evE_comp, evE_comp2, evEs_nil, evEs_cons, evOp_no, evOp_yes, evC_no, evC_yes, evI_seq, evI_rng, evI_enm, evI_zip, evI_lsq, evS_asg, evS_par, evS_unp, evS_setI, evS_app, evS_expr, evS_ret, evS_retN, evS_ite, evS_for_, evS_while_, evS_rais, evS_raiV, evS_tryH, evS_pass, evS_brk, evS_cont, evSs_nil, evSs_cons, getV_0, getV_s, n_R_bind_ok, n_R_bind_ex, n_R_nox_ok, n_R_of_some, n_R_refu_ok, n_R_refu_ex, n_asInt_int, n_asBl_bl, n_asStr_str, n_asLst_lst, n_asSq_lst, n_asSq_tup, n_asFn_fn, n_asO_some, n_gd_true, n_two_true, n_two_false, n_FR_ofR_ok, n_FR_ofR_ex, n_FR_ofO_some, n_FR_thn_nx, n_FR_thn_rt, n_FR_thn_ex, n_FR_thn_ct, n_FR_thn_bk, n_FR_turn_nx, n_FR_turn_ct, n_FR_turn_bk, n_FR_turn_rt, n_FR_turn_ex, n_FR_two_true, n_FR_two_false, n_FR_gd_true, List.getElem?_cons_zero, List.getElem?_cons_succ, List.set_cons_zero, List.set_cons_succ, List.map_cons, List.map_nil, List.all_cons, List.all_nil, Bool.and_true, Bool.true_and, Bool.and_false, Bool.false_and, Bool.not_true, Bool.not_false, view_non, view_bl, view_int, view_str, view_tup, view_lst, view_fn, view_scr, truth_bl, bin_addI, bin_subI, cmp_eqI, cmp_neI, cmp_eqS, cmp_neS, cmp_lt, cmp_le, cmp_gt, cmp_ge, cmp_inS, cmp_ninS, setTg_nm, setTg_tp, setTg_tq, setAll_nil, setAll_cons, wipe_nil, wipe_cons, noC_non, noC_bl, noC_int, noC_str, noC_tup, noC_lst, noC_ref, noC_fn, noC_scr, biV_len, biV_isInt, biV_isBool, biV_isStr, biV_isTuple, biV_int_, biV_bool_, biV_str_, biV_tuple_, biV_list_, biV_min2, biV_max2, biV_min1, biV_max1, biV_sum_, biV_all_, biV_any_, biV_abs_, len_S, len_T, len_L, len_R, int_I, tuple_L, tuple_T, list_L, list_T, Option.map_some, Option.map_none, items_S, items_T, items_L, idx_L, idx_T, idx_S, slc_L, slc_T, slc_S, isRf_ref, meV_join, meV_split, meV_repl, List.cons_append, List.nil_append, isInt_non, isInt_bl, isInt_int, isInt_str, isInt_tup, isInt_lst, isBool_non, isBool_bl, isBool_int, isBool_str, isBool_tup, isBool_lst, isStr_non, isStr_bl, isStr_int, isStr_str, isStr_tup, isStr_lst, isTuple_non, isTuple_bl, isTuple_int, isTuple_str, isTuple_tup, isTuple_lst, gl0, B7, view_at ha, q0, q1, h, decide_false, bin_modI, bin_fdivI, bin_mulI, m1, h0, c1, c2, c3, if_true, s0, s1, v2, q2, m4]
    exact res_cut hS (ev_set hS) rfl ⟨_, rfl, Int.emod_nonneg _ (by omega), Int.emod_lt_of_pos _ h0⟩
theorem s_chosen (n : Nat) {l k : Nat} {xs : List D} {S : Store} (hS : Src S l) (h0 : 1 ≤ xs.length) (h1 : xs.length ≤ sizeL) (hp : ∀ x ∈ xs, x.plain k = true) (hk : k ≤ 12) : Res l S (run pg (n + 2) (.fn 8) [.ref l, .lst xs] S) fun d T => d ∈ xs ∧ T.length = S.length := by
  rw [run8]
  have b1 : (xs.length : Int) ≤ 1000000000000000000000000000000000000000000000000000 := by
    have : (xs.length : Int) ≤ 16777216 := by unfold sizeL at h1; omega
    omega
  obtain ⟨d, T, h, e, ⟨v, rfl, v0, v1⟩, hT⟩ := s_pick n hS (m := (xs.length : Int)) (by omega) b1
  obtain ⟨x, hx, ha⟩ := at_mem v0 v1
  simp only [evE_var, evE_cint, evE_cstr, evE_cbl, evE_cnon, evE_gl, evE_fnv, evE_tup, evE_lst, evE_alc, evE_bin, evE_neg, evE_cmp, evE_chn, evE_andE, evE_orE, evE_notE, evE_ite, evE_idx, evE_slc, evE_rev, evE_call, evE_callv, evE_refu, evE_isx, evE_bi, evE_mth, evE_comp, evE_comp2, evEs_nil, evEs_cons, evOp_no, evOp_yes, evC_no, evC_yes, evI_seq, evI_rng, evI_enm, evI_zip, evI_lsq, evS_asg, evS_par, evS_unp, evS_setI, evS_app, evS_expr, evS_ret, evS_retN, evS_ite, evS_for_, evS_while_, evS_rais, evS_raiV, evS_tryH, evS_pass, evS_brk, evS_cont, evSs_nil, evSs_cons, getV_0, getV_s, n_R_bind_ok, n_R_bind_ex, n_R_nox_ok, n_R_of_some, n_R_refu_ok, n_R_refu_ex, n_asInt_int, n_asBl_bl, n_asStr_str, n_asLst_lst, n_asSq_lst, n_asSq_tup, n_asFn_fn, n_asO_some, n_gd_true, n_two_true, n_two_false, n_FR_ofR_ok, n_FR_ofR_ex, n_FR_ofO_some, n_FR_thn_nx, n_FR_thn_rt, n_FR_thn_ex, n_FR_thn_ct, n_FR_thn_bk, n_FR_turn_nx, n_FR_turn_ct, n_FR_turn_bk, n_FR_turn_rt, n_FR_turn_ex, n_FR_two_true, n_FR_two_false, n_FR_gd_true, List.getElem?_cons_zero, List.getElem?_cons_succ, List.set_cons_zero, List.set_cons_succ, List.map_cons, List.map_nil, List.all_cons, List.all_nil, Bool.and_true, Bool.true_and, Bool.and_false, Bool.false_and, Bool.not_true, Bool.not_false, view_non, view_bl, view_int, view_str, view_tup, view_lst, view_fn, view_scr, truth_bl, bin_addI, bin_subI, cmp_eqI, cmp_neI, cmp_eqS, cmp_neS, cmp_lt, cmp_le, cmp_gt, cmp_ge, cmp_inS, cmp_ninS, setTg_nm, setTg_tp, setTg_tq, setAll_nil, setAll_cons, wipe_nil, wipe_cons, noC_non, noC_bl, noC_int, noC_str, noC_tup, noC_lst, noC_ref, noC_fn, noC_scr, biV_len, biV_isInt, biV_isBool, biV_isStr, biV_isTuple, biV_int_, biV_bool_, biV_str_, biV_tuple_, biV_list_, biV_min2, biV_max2, biV_min1, biV_max1, biV_sum_, biV_all_, biV_any_, biV_abs_, len_S, len_T, len_L, len_R, int_I, tuple_L, tuple_T, list_L, list_T, Option.map_some, Option.map_none, items_S, items_T, items_L, idx_L, idx_T, idx_S, slc_L, slc_T, slc_S, isRf_ref, meV_join, meV_split, meV_repl, List.cons_append, List.nil_append, isInt_non, isInt_bl, isInt_int, isInt_str, isInt_tup, isInt_lst, isBool_non, isBool_bl, isBool_int, isBool_str, isBool_tup, isBool_lst, isStr_non, isStr_bl, isStr_int, isStr_str, isStr_tup, isStr_lst, isTuple_non, isTuple_bl, isTuple_int, isTuple_str, isTuple_tup, isTuple_lst, gl0, B8, h, ha]
  exact res_cut hS e (low12 (hp x hx) hk) hx
theorem w_err0 : pg.err 0 = some (.str [116, 105, 108, 101]) := rfl
theorem tl_low {n : Nat} (ts : List (List Nat)) : lowD n 12 (tl ts) = true := low12 (tl_plain ts 0)
theorem s_tile (n : Nat) {l : Nat} {m : Int} {S : Store} (hS : Src S l) (hm1 : 1 ≤ m) (hm6 : m ≤ 6) : Res l S (run pg (n + 3) (.fn 9) [.ref l, .int m] S) fun d T => ∃ C ts, d = tl ts ∧ TileOk C ts := by
  rw [run9]
  obtain ⟨_, T1, h1, e1, ⟨w, rfl, w0, w1⟩, _⟩ := s_pick (n + 1) hS (m := m) (by omega) (by omega)
  obtain ⟨d2, T2, h2, e2, hd2, hT2⟩ := s_chosen n e1.src (xs := [.int 2, .int 3, .int 4, .int 6]) (k := 0) (by decide) (by decide +kernel) (by decide) (by omega)
  obtain ⟨b, rfl, b2, b6⟩ : ∃ b : Int, d2 = .int b ∧ 2 ≤ b ∧ b ≤ 6 := by
    simp only [List.mem_cons, List.mem_nil_iff, or_false] at hd2
    rcases hd2 with rfl | rfl | rfl | rfl <;> exact ⟨_, rfl, by decide, by decide⟩
  have e3 : Ev l T2 (T2 ++ [.lst []]) := ev_push e2.src rfl
  obtain ⟨_, T4, h4, e4, ⟨r, rfl, r0, r1⟩, hT4⟩ := s_pick (n + 1) e3.src (m := m) (by omega) (by omega)
  have hlt : S.length ≤ T2.length := Nat.le_trans e1.le e2.le
  have hlS := hS.lt
  have at4 : T4[T2.length]? = some (.lst []) := e4.kp _ _ (by omega) at_last
  simp only [evE_var, evE_cint, evE_cstr, evE_cbl, evE_cnon, evE_gl, evE_fnv, evE_tup, evE_lst, evE_alc, evE_bin, evE_neg, evE_cmp, evE_chn, evE_andE, evE_orE, evE_notE, evE_ite, evE_idx, evE_slc, evE_rev, evE_call, evE_callv, evE_refu, evE_isx, evE_bi, evE_mth, evE_comp, evE_comp2, evEs_nil, evEs_cons, evOp_no, evOp_yes, evC_no, evC_yes, evI_seq, evI_rng, evI_enm, evI_zip, evI_lsq, evS_asg, evS_par, evS_unp, evS_setI, evS_app, evS_expr, evS_ret, evS_retN, evS_ite, evS_for_, evS_while_, evS_rais, evS_raiV, evS_tryH, evS_pass, evS_brk, evS_cont, evSs_nil, evSs_cons, getV_0, getV_s, n_R_bind_ok, n_R_bind_ex, n_R_nox_ok, n_R_of_some, n_R_refu_ok, n_R_refu_ex, n_asInt_int, n_asBl_bl, n_asStr_str, n_asLst_lst, n_asSq_lst, n_asSq_tup, n_asFn_fn, n_asO_some, n_gd_true, n_two_true, n_two_false, n_FR_ofR_ok, n_FR_ofR_ex, n_FR_ofO_some, n_FR_thn_nx, n_FR_thn_rt, n_FR_thn_ex, n_FR_thn_ct, n_FR_thn_bk, n_FR_turn_nx, n_FR_turn_ct, n_FR_turn_bk, n_FR_turn_rt, n_FR_turn_ex, n_FR_two_true, n_FR_two_false, n_FR_gd_true, List.getElem?_cons_zero, List.getElem?_cons_succ, List.set_cons_zero, List.set_cons_succ, List.map_cons, List.map_nil, List.all_cons, List.all_nil, Bool.and_true, Bool.true_and, Bool.and_false, Bool.false_and, Bool.not_true, Bool.not_false, view_non, view_bl, view_int, view_str, view_tup, view_lst, view_fn, view_scr, truth_bl, bin_addI, bin_subI, cmp_eqI, cmp_neI, cmp_eqS, cmp_neS, cmp_lt, cmp_le, cmp_gt, cmp_ge, cmp_inS, cmp_ninS, setTg_nm, setTg_tp, setTg_tq, setAll_nil, setAll_cons, wipe_nil, wipe_cons, noC_non, noC_bl, noC_int, noC_str, noC_tup, noC_lst, noC_ref, noC_fn, noC_scr, biV_len, biV_isInt, biV_isBool, biV_isStr, biV_isTuple, biV_int_, biV_bool_, biV_str_, biV_tuple_, biV_list_, biV_min2, biV_max2, biV_min1, biV_max1, biV_sum_, biV_all_, biV_any_, biV_abs_, len_S, len_T, len_L, len_R, int_I, tuple_L, tuple_T, list_L, list_T, Option.map_some, Option.map_none, items_S, items_T, items_L, idx_L, idx_T, idx_S, slc_L, slc_T, slc_S, isRf_ref, meV_join, meV_split, meV_repl, List.cons_append, List.nil_append, isInt_non, isInt_bl, isInt_int, isInt_str, isInt_tup, isInt_lst, isBool_non, isBool_bl, isBool_int, isBool_str, isBool_tup, isBool_lst, isStr_non, isStr_bl, isStr_int, isStr_str, isStr_tup, isStr_lst, isTuple_non, isTuple_bl, isTuple_int, isTuple_str, isTuple_tup, isTuple_lst, gl0, B9, h1, h2, h4]
  rw [rng1 (by omega) (by omega)]
  simp only [evE_var, evE_cint, evE_cstr, evE_cbl, evE_cnon, evE_gl, evE_fnv, evE_tup, evE_lst, evE_alc, evE_bin, evE_neg, evE_cmp, evE_chn, evE_andE, evE_orE, evE_notE, evE_ite, evE_idx, evE_slc, evE_rev, evE_call, evE_callv, evE_refu, evE_isx, evE_bi, evE_mth, evE_comp, evE_comp2, evEs_nil, evEs_cons, evOp_no, evOp_yes, evC_no, evC_yes, evI_seq, evI_rng, evI_enm, evI_zip, evI_lsq, evS_asg, evS_par, evS_unp, evS_setI, evS_app, evS_expr, evS_ret, evS_retN, evS_ite, evS_for_, evS_while_, evS_rais, evS_raiV, evS_tryH, evS_pass, evS_brk, evS_cont, evSs_nil, evSs_cons, getV_0, getV_s, n_R_bind_ok, n_R_bind_ex, n_R_nox_ok, n_R_of_some, n_R_refu_ok, n_R_refu_ex, n_asInt_int, n_asBl_bl, n_asStr_str, n_asLst_lst, n_asSq_lst, n_asSq_tup, n_asFn_fn, n_asO_some, n_gd_true, n_two_true, n_two_false, n_FR_ofR_ok, n_FR_ofR_ex, n_FR_ofO_some, n_FR_thn_nx, n_FR_thn_rt, n_FR_thn_ex, n_FR_thn_ct, n_FR_thn_bk, n_FR_turn_nx, n_FR_turn_ct, n_FR_turn_bk, n_FR_turn_rt, n_FR_turn_ex, n_FR_two_true, n_FR_two_false, n_FR_gd_true, List.getElem?_cons_zero, List.getElem?_cons_succ, List.set_cons_zero, List.set_cons_succ, List.map_cons, List.map_nil, List.all_cons, List.all_nil, Bool.and_true, Bool.true_and, Bool.and_false, Bool.false_and, Bool.not_true, Bool.not_false, view_non, view_bl, view_int, view_str, view_tup, view_lst, view_fn, view_scr, truth_bl, bin_addI, bin_subI, cmp_eqI, cmp_neI, cmp_eqS, cmp_neS, cmp_lt, cmp_le, cmp_gt, cmp_ge, cmp_inS, cmp_ninS, setTg_nm, setTg_tp, setTg_tq, setAll_nil, setAll_cons, wipe_nil, wipe_cons, noC_non, noC_bl, noC_int, noC_str, noC_tup, noC_lst, noC_ref, noC_fn, noC_scr, biV_len, biV_isInt, biV_isBool, biV_isStr, biV_isTuple, biV_int_, biV_bool_, biV_str_, biV_tuple_, biV_list_, biV_min2, biV_max2, biV_min1, biV_max1, biV_sum_, biV_all_, biV_any_, biV_abs_, len_S, len_T, len_L, len_R, int_I, tuple_L, tuple_T, list_L, list_T, Option.map_some, Option.map_none, items_S, items_T, items_L, idx_L, idx_T, idx_S, slc_L, slc_T, slc_S, isRf_ref, meV_join, meV_split, meV_repl, List.cons_append, List.nil_append, isInt_non, isInt_bl, isInt_int, isInt_str, isInt_tup, isInt_lst, isBool_non, isBool_bl, isBool_int, isBool_str, isBool_tup, isBool_lst, isStr_non, isStr_bl, isStr_int, isStr_str, isStr_tup, isStr_lst, isTuple_non, isTuple_bl, isTuple_int, isTuple_str, isTuple_tup, isTuple_lst, gl0]
  obtain ⟨e', S', g1, g2⟩ := forL_ix (g := setTg (.nm 5)) (body := evSs pg.gl (run pg (n + 2)) pg.exm pg.hot L9_0)
    (fun i e T => (∃ x y, e = [some (.ref l), some (.int m), some (.int (1 + w)), some (.int b), some (.ref T2.length), x, y]) ∧ Ev l S T ∧ T2.length < T.length ∧ ∃ ts : List (List Nat), T[T2.length]? = some (.lst (ts.map .str)) ∧ ts.length = i ∧ ∀ s ∈ ts, s.length = (1 + w).toNat ∧ s.all sgn = true)
    (rangeL 0 (1 + r).toNat) 0 [some (.ref l), some (.int m), some (.int (1 + w)), some (.int b), some (.ref T2.length), none, none] T4 ⟨⟨_, _, rfl⟩, ((e1.trans e2).trans e3).trans e4, (List.getElem?_eq_some_iff.mp at4).1, [], at4, rfl, fun s hs => absurd hs (by simp)⟩ (fun j x hx e T ⟨⟨x5, x6, he⟩, hE, hlen, ts, ht, hj, hts⟩ => by
      subst he
      refine ⟨_, rfl, ?_⟩
      simp only [evE_var, evE_cint, evE_cstr, evE_cbl, evE_cnon, evE_gl, evE_fnv, evE_tup, evE_lst, evE_alc, evE_bin, evE_neg, evE_cmp, evE_chn, evE_andE, evE_orE, evE_notE, evE_ite, evE_idx, evE_slc, evE_rev, evE_call, evE_callv, evE_refu, evE_isx, evE_bi, evE_mth, evE_comp, evE_comp2, evEs_nil, evEs_cons, evOp_no, evOp_yes, evC_no, evC_yes, evI_seq, evI_rng, evI_enm, evI_zip, evI_lsq, evS_asg, evS_par, evS_unp, evS_setI, evS_app, evS_expr, evS_ret, evS_retN, evS_ite, evS_for_, evS_while_, evS_rais, evS_raiV, evS_tryH, evS_pass, evS_brk, evS_cont, evSs_nil, evSs_cons, getV_0, getV_s, n_R_bind_ok, n_R_bind_ex, n_R_nox_ok, n_R_of_some, n_R_refu_ok, n_R_refu_ex, n_asInt_int, n_asBl_bl, n_asStr_str, n_asLst_lst, n_asSq_lst, n_asSq_tup, n_asFn_fn, n_asO_some, n_gd_true, n_two_true, n_two_false, n_FR_ofR_ok, n_FR_ofR_ex, n_FR_ofO_some, n_FR_thn_nx, n_FR_thn_rt, n_FR_thn_ex, n_FR_thn_ct, n_FR_thn_bk, n_FR_turn_nx, n_FR_turn_ct, n_FR_turn_bk, n_FR_turn_rt, n_FR_turn_ex, n_FR_two_true, n_FR_two_false, n_FR_gd_true, List.getElem?_cons_zero, List.getElem?_cons_succ, List.set_cons_zero, List.set_cons_succ, List.map_cons, List.map_nil, List.all_cons, List.all_nil, Bool.and_true, Bool.true_and, Bool.and_false, Bool.false_and, Bool.not_true, Bool.not_false, view_non, view_bl, view_int, view_str, view_tup, view_lst, view_fn, view_scr, truth_bl, bin_addI, bin_subI, cmp_eqI, cmp_neI, cmp_eqS, cmp_neS, cmp_lt, cmp_le, cmp_gt, cmp_ge, cmp_inS, cmp_ninS, setTg_nm, setTg_tp, setTg_tq, setAll_nil, setAll_cons, wipe_nil, wipe_cons, noC_non, noC_bl, noC_int, noC_str, noC_tup, noC_lst, noC_ref, noC_fn, noC_scr, biV_len, biV_isInt, biV_isBool, biV_isStr, biV_isTuple, biV_int_, biV_bool_, biV_str_, biV_tuple_, biV_list_, biV_min2, biV_max2, biV_min1, biV_max1, biV_sum_, biV_all_, biV_any_, biV_abs_, len_S, len_T, len_L, len_R, int_I, tuple_L, tuple_T, list_L, list_T, Option.map_some, Option.map_none, items_S, items_T, items_L, idx_L, idx_T, idx_S, slc_L, slc_T, slc_S, isRf_ref, meV_join, meV_split, meV_repl, List.cons_append, List.nil_append, isInt_non, isInt_bl, isInt_int, isInt_str, isInt_tup, isInt_lst, isBool_non, isBool_bl, isBool_int, isBool_str, isBool_tup, isBool_lst, isStr_non, isStr_bl, isStr_int, isStr_str, isStr_tup, isStr_lst, isTuple_non, isTuple_bl, isTuple_int, isTuple_str, isTuple_tup, isTuple_lst, gl0, L9_0]
      rw [rng1 (by omega) (by omega)]
      simp only [evE_var, evE_cint, evE_cstr, evE_cbl, evE_cnon, evE_gl, evE_fnv, evE_tup, evE_lst, evE_alc, evE_bin, evE_neg, evE_cmp, evE_chn, evE_andE, evE_orE, evE_notE, evE_ite, evE_idx, evE_slc, evE_rev, evE_call, evE_callv, evE_refu, evE_isx, evE_bi, evE_mth, evE_comp, evE_comp2, evEs_nil, evEs_cons, evOp_no, evOp_yes, evC_no, evC_yes, evI_seq, evI_rng, evI_enm, evI_zip, evI_lsq, evS_asg, evS_par, evS_unp, evS_setI, evS_app, evS_expr, evS_ret, evS_retN, evS_ite, evS_for_, evS_while_, evS_rais, evS_raiV, evS_tryH, evS_pass, evS_brk, evS_cont, evSs_nil, evSs_cons, getV_0, getV_s, n_R_bind_ok, n_R_bind_ex, n_R_nox_ok, n_R_of_some, n_R_refu_ok, n_R_refu_ex, n_asInt_int, n_asBl_bl, n_asStr_str, n_asLst_lst, n_asSq_lst, n_asSq_tup, n_asFn_fn, n_asO_some, n_gd_true, n_two_true, n_two_false, n_FR_ofR_ok, n_FR_ofR_ex, n_FR_ofO_some, n_FR_thn_nx, n_FR_thn_rt, n_FR_thn_ex, n_FR_thn_ct, n_FR_thn_bk, n_FR_turn_nx, n_FR_turn_ct, n_FR_turn_bk, n_FR_turn_rt, n_FR_turn_ex, n_FR_two_true, n_FR_two_false, n_FR_gd_true, List.getElem?_cons_zero, List.getElem?_cons_succ, List.set_cons_zero, List.set_cons_succ, List.map_cons, List.map_nil, List.all_cons, List.all_nil, Bool.and_true, Bool.true_and, Bool.and_false, Bool.false_and, Bool.not_true, Bool.not_false, view_non, view_bl, view_int, view_str, view_tup, view_lst, view_fn, view_scr, truth_bl, bin_addI, bin_subI, cmp_eqI, cmp_neI, cmp_eqS, cmp_neS, cmp_lt, cmp_le, cmp_gt, cmp_ge, cmp_inS, cmp_ninS, setTg_nm, setTg_tp, setTg_tq, setAll_nil, setAll_cons, wipe_nil, wipe_cons, noC_non, noC_bl, noC_int, noC_str, noC_tup, noC_lst, noC_ref, noC_fn, noC_scr, biV_len, biV_isInt, biV_isBool, biV_isStr, biV_isTuple, biV_int_, biV_bool_, biV_str_, biV_tuple_, biV_list_, biV_min2, biV_max2, biV_min1, biV_max1, biV_sum_, biV_all_, biV_any_, biV_abs_, len_S, len_T, len_L, len_R, int_I, tuple_L, tuple_T, list_L, list_T, Option.map_some, Option.map_none, items_S, items_T, items_L, idx_L, idx_T, idx_S, slc_L, slc_T, slc_S, isRf_ref, meV_join, meV_split, meV_repl, List.cons_append, List.nil_append, isInt_non, isInt_bl, isInt_int, isInt_str, isInt_tup, isInt_lst, isBool_non, isBool_bl, isBool_int, isBool_str, isBool_tup, isBool_lst, isStr_non, isStr_bl, isStr_int, isStr_str, isStr_tup, isStr_lst, isTuple_non, isTuple_bl, isTuple_int, isTuple_str, isTuple_tup, isTuple_lst, gl0]
      obtain ⟨ys, T5, q1, q2, q3, cs, q4, q5⟩ := compL_inv (g := fun y => some [some (D.ref l), some (.int m), some (.int (1 + w)), some (.int b), some (.ref T2.length), some x, some y]) (c := evC pg.gl (run pg (n + 2)) .no) (f := evE pg.gl (run pg (n + 2)) K9_0)
        (fun acc U => Ev l T U ∧ ∃ cs : List Nat, acc = cs.map (fun c => .str [c]) ∧ cs.all sgn = true) (rangeL 0 (1 + w).toNat) [] T (by simp [sizeL]; omega) ⟨Ev.refl hE.src, [], rfl, rfl⟩ (fun y hy acc U ⟨i1, cs, i2, i3⟩ => by
          obtain ⟨_, U2, k1, k2, ⟨v, rfl, v0, v1⟩, _⟩ := s_pick (n + 1) i1.src (m := b) (by omega) (by omega)
          refine ⟨_, rfl, rfl, ?_⟩
          simp only [evE_var, evE_cint, evE_cstr, evE_cbl, evE_cnon, evE_gl, evE_fnv, evE_tup, evE_lst, evE_alc, evE_bin, evE_neg, evE_cmp, evE_chn, evE_andE, evE_orE, evE_notE, evE_ite, evE_idx, evE_slc, evE_rev, evE_call, evE_callv, evE_refu, evE_isx, evE_bi, evE_mth, evE_comp, evE_comp2, evEs_nil, evEs_cons, evOp_no, evOp_yes, evC_no, evC_yes, evI_seq, evI_rng, evI_enm, evI_zip, evI_lsq, evS_asg, evS_par, evS_unp, evS_setI, evS_app, evS_expr, evS_ret, evS_retN, evS_ite, evS_for_, evS_while_, evS_rais, evS_raiV, evS_tryH, evS_pass, evS_brk, evS_cont, evSs_nil, evSs_cons, getV_0, getV_s, n_R_bind_ok, n_R_bind_ex, n_R_nox_ok, n_R_of_some, n_R_refu_ok, n_R_refu_ex, n_asInt_int, n_asBl_bl, n_asStr_str, n_asLst_lst, n_asSq_lst, n_asSq_tup, n_asFn_fn, n_asO_some, n_gd_true, n_two_true, n_two_false, n_FR_ofR_ok, n_FR_ofR_ex, n_FR_ofO_some, n_FR_thn_nx, n_FR_thn_rt, n_FR_thn_ex, n_FR_thn_ct, n_FR_thn_bk, n_FR_turn_nx, n_FR_turn_ct, n_FR_turn_bk, n_FR_turn_rt, n_FR_turn_ex, n_FR_two_true, n_FR_two_false, n_FR_gd_true, List.getElem?_cons_zero, List.getElem?_cons_succ, List.set_cons_zero, List.set_cons_succ, List.map_cons, List.map_nil, List.all_cons, List.all_nil, Bool.and_true, Bool.true_and, Bool.and_false, Bool.false_and, Bool.not_true, Bool.not_false, view_non, view_bl, view_int, view_str, view_tup, view_lst, view_fn, view_scr, truth_bl, bin_addI, bin_subI, cmp_eqI, cmp_neI, cmp_eqS, cmp_neS, cmp_lt, cmp_le, cmp_gt, cmp_ge, cmp_inS, cmp_ninS, setTg_nm, setTg_tp, setTg_tq, setAll_nil, setAll_cons, wipe_nil, wipe_cons, noC_non, noC_bl, noC_int, noC_str, noC_tup, noC_lst, noC_ref, noC_fn, noC_scr, biV_len, biV_isInt, biV_isBool, biV_isStr, biV_isTuple, biV_int_, biV_bool_, biV_str_, biV_tuple_, biV_list_, biV_min2, biV_max2, biV_min1, biV_max1, biV_sum_, biV_all_, biV_any_, biV_abs_, len_S, len_T, len_L, len_R, int_I, tuple_L, tuple_T, list_L, list_T, Option.map_some, Option.map_none, items_S, items_T, items_L, idx_L, idx_T, idx_S, slc_L, slc_T, slc_S, isRf_ref, meV_join, meV_split, meV_repl, List.cons_append, List.nil_append, isInt_non, isInt_bl, isInt_int, isInt_str, isInt_tup, isInt_lst, isBool_non, isBool_bl, isBool_int, isBool_str, isBool_tup, isBool_lst, isStr_non, isStr_bl, isStr_int, isStr_str, isStr_tup, isStr_lst, isTuple_non, isTuple_bl, isTuple_int, isTuple_str, isTuple_tup, isTuple_lst, gl0, K9_0, k1]
          by_cases hv : v = 0
          · subst hv
            simp only [evE_var, evE_cint, evE_cstr, evE_cbl, evE_cnon, evE_gl, evE_fnv, evE_tup, evE_lst, evE_alc, evE_bin, evE_neg, evE_cmp, evE_chn, evE_andE, evE_orE, evE_notE, evE_ite, evE_idx, evE_slc, evE_rev, evE_call, evE_callv, evE_refu, evE_isx, evE_bi, evE_mth, evE_comp, evE_comp2, evEs_nil, evEs_cons, evOp_no, evOp_yes, evC_no, evC_yes, evI_seq, evI_rng, evI_enm, evI_zip, evI_lsq, evS_asg, evS_par, evS_unp, evS_setI, evS_app, evS_expr, evS_ret, evS_retN, evS_ite, evS_for_, evS_while_, evS_rais, evS_raiV, evS_tryH, evS_pass, evS_brk, evS_cont, evSs_nil, evSs_cons, getV_0, getV_s, n_R_bind_ok, n_R_bind_ex, n_R_nox_ok, n_R_of_some, n_R_refu_ok, n_R_refu_ex, n_asInt_int, n_asBl_bl, n_asStr_str, n_asLst_lst, n_asSq_lst, n_asSq_tup, n_asFn_fn, n_asO_some, n_gd_true, n_two_true, n_two_false, n_FR_ofR_ok, n_FR_ofR_ex, n_FR_ofO_some, n_FR_thn_nx, n_FR_thn_rt, n_FR_thn_ex, n_FR_thn_ct, n_FR_thn_bk, n_FR_turn_nx, n_FR_turn_ct, n_FR_turn_bk, n_FR_turn_rt, n_FR_turn_ex, n_FR_two_true, n_FR_two_false, n_FR_gd_true, List.getElem?_cons_zero, List.getElem?_cons_succ, List.set_cons_zero, List.set_cons_succ, List.map_cons, List.map_nil, List.all_cons, List.all_nil, Bool.and_true, Bool.true_and, Bool.and_false, Bool.false_and, Bool.not_true, Bool.not_false, view_non, view_bl, view_int, view_str, view_tup, view_lst, view_fn, view_scr, truth_bl, bin_addI, bin_subI, cmp_eqI, cmp_neI, cmp_eqS, cmp_neS, cmp_lt, cmp_le, cmp_gt, cmp_ge, cmp_inS, cmp_ninS, setTg_nm, setTg_tp, setTg_tq, setAll_nil, setAll_cons, wipe_nil, wipe_cons, noC_non, noC_bl, noC_int, noC_str, noC_tup, noC_lst, noC_ref, noC_fn, noC_scr, biV_len, biV_isInt, biV_isBool, biV_isStr, biV_isTuple, biV_int_, biV_bool_, biV_str_, biV_tuple_, biV_list_, biV_min2, biV_max2, biV_min1, biV_max1, biV_sum_, biV_all_, biV_any_, biV_abs_, len_S, len_T, len_L, len_R, int_I, tuple_L, tuple_T, list_L, list_T, Option.map_some, Option.map_none, items_S, items_T, items_L, idx_L, idx_T, idx_S, slc_L, slc_T, slc_S, isRf_ref, meV_join, meV_split, meV_repl, List.cons_append, List.nil_append, isInt_non, isInt_bl, isInt_int, isInt_str, isInt_tup, isInt_lst, isBool_non, isBool_bl, isBool_int, isBool_str, isBool_tup, isBool_lst, isStr_non, isStr_bl, isStr_int, isStr_str, isStr_tup, isStr_lst, isTuple_non, isTuple_bl, isTuple_int, isTuple_str, isTuple_tup, isTuple_lst, gl0, beq_self_eq_true]
            exact ⟨_, _, rfl, rfl, i1.trans k2, cs ++ [35], by simp [i2], by simp [i3, sgn]⟩
          · have hv' : (v == 0) = false := by simp [hv]
            simp only [evE_var, evE_cint, evE_cstr, evE_cbl, evE_cnon, evE_gl, evE_fnv, evE_tup, evE_lst, evE_alc, evE_bin, evE_neg, evE_cmp, evE_chn, evE_andE, evE_orE, evE_notE, evE_ite, evE_idx, evE_slc, evE_rev, evE_call, evE_callv, evE_refu, evE_isx, evE_bi, evE_mth, evE_comp, evE_comp2, evEs_nil, evEs_cons, evOp_no, evOp_yes, evC_no, evC_yes, evI_seq, evI_rng, evI_enm, evI_zip, evI_lsq, evS_asg, evS_par, evS_unp, evS_setI, evS_app, evS_expr, evS_ret, evS_retN, evS_ite, evS_for_, evS_while_, evS_rais, evS_raiV, evS_tryH, evS_pass, evS_brk, evS_cont, evSs_nil, evSs_cons, getV_0, getV_s, n_R_bind_ok, n_R_bind_ex, n_R_nox_ok, n_R_of_some, n_R_refu_ok, n_R_refu_ex, n_asInt_int, n_asBl_bl, n_asStr_str, n_asLst_lst, n_asSq_lst, n_asSq_tup, n_asFn_fn, n_asO_some, n_gd_true, n_two_true, n_two_false, n_FR_ofR_ok, n_FR_ofR_ex, n_FR_ofO_some, n_FR_thn_nx, n_FR_thn_rt, n_FR_thn_ex, n_FR_thn_ct, n_FR_thn_bk, n_FR_turn_nx, n_FR_turn_ct, n_FR_turn_bk, n_FR_turn_rt, n_FR_turn_ex, n_FR_two_true, n_FR_two_false, n_FR_gd_true, List.getElem?_cons_zero, List.getElem?_cons_succ, List.set_cons_zero, List.set_cons_succ, List.map_cons, List.map_nil, List.all_cons, List.all_nil, Bool.and_true, Bool.true_and, Bool.and_false, Bool.false_and, Bool.not_true, Bool.not_false, view_non, view_bl, view_int, view_str, view_tup, view_lst, view_fn, view_scr, truth_bl, bin_addI, bin_subI, cmp_eqI, cmp_neI, cmp_eqS, cmp_neS, cmp_lt, cmp_le, cmp_gt, cmp_ge, cmp_inS, cmp_ninS, setTg_nm, setTg_tp, setTg_tq, setAll_nil, setAll_cons, wipe_nil, wipe_cons, noC_non, noC_bl, noC_int, noC_str, noC_tup, noC_lst, noC_ref, noC_fn, noC_scr, biV_len, biV_isInt, biV_isBool, biV_isStr, biV_isTuple, biV_int_, biV_bool_, biV_str_, biV_tuple_, biV_list_, biV_min2, biV_max2, biV_min1, biV_max1, biV_sum_, biV_all_, biV_any_, biV_abs_, len_S, len_T, len_L, len_R, int_I, tuple_L, tuple_T, list_L, list_T, Option.map_some, Option.map_none, items_S, items_T, items_L, idx_L, idx_T, idx_S, slc_L, slc_T, slc_S, isRf_ref, meV_join, meV_split, meV_repl, List.cons_append, List.nil_append, isInt_non, isInt_bl, isInt_int, isInt_str, isInt_tup, isInt_lst, isBool_non, isBool_bl, isBool_int, isBool_str, isBool_tup, isBool_lst, isStr_non, isStr_bl, isStr_int, isStr_str, isStr_tup, isStr_lst, isTuple_non, isTuple_bl, isTuple_int, isTuple_str, isTuple_tup, isTuple_lst, gl0, hv']
            exact ⟨_, _, rfl, rfl, i1.trans k2, cs ++ [46], by simp [i2], by simp [i3, sgn]⟩)
      subst q4
      have hc : cs.length = (1 + w).toNat := by simpa using q2
      have at5 : T5[T2.length]? = some (.lst (ts.map .str)) := q3.kp _ _ (by omega) ht
      have s0 : getL T5 (.ref T2.length) = some (T2.length, ts.map .str) := getLv at5
      have hj6 : j < 6 := by
        have := (List.getElem?_eq_some_iff.mp hx).1
        simp at this
        omega
      have s1 : (decide ((ts.map D.str).length < sizeL)) = true := by
        rw [decide_eq_true_iff]
        simp [sizeL]
        omega
      have s2 : lowO T5.length 12 (.lst (ts.map D.str ++ [.str cs])) = true := by
        simp only [lowO, List.all_append, List.all_cons, List.all_nil, Bool.and_true, Bool.and_eq_true, List.all_eq_true]
        refine ⟨fun y hy => ?_, rfl⟩
        obtain ⟨s, _, rfl⟩ := List.mem_map.mp hy
        rfl
      simp only [evE_var, evE_cint, evE_cstr, evE_cbl, evE_cnon, evE_gl, evE_fnv, evE_tup, evE_lst, evE_alc, evE_bin, evE_neg, evE_cmp, evE_chn, evE_andE, evE_orE, evE_notE, evE_ite, evE_idx, evE_slc, evE_rev, evE_call, evE_callv, evE_refu, evE_isx, evE_bi, evE_mth, evE_comp, evE_comp2, evEs_nil, evEs_cons, evOp_no, evOp_yes, evC_no, evC_yes, evI_seq, evI_rng, evI_enm, evI_zip, evI_lsq, evS_asg, evS_par, evS_unp, evS_setI, evS_app, evS_expr, evS_ret, evS_retN, evS_ite, evS_for_, evS_while_, evS_rais, evS_raiV, evS_tryH, evS_pass, evS_brk, evS_cont, evSs_nil, evSs_cons, getV_0, getV_s, n_R_bind_ok, n_R_bind_ex, n_R_nox_ok, n_R_of_some, n_R_refu_ok, n_R_refu_ex, n_asInt_int, n_asBl_bl, n_asStr_str, n_asLst_lst, n_asSq_lst, n_asSq_tup, n_asFn_fn, n_asO_some, n_gd_true, n_two_true, n_two_false, n_FR_ofR_ok, n_FR_ofR_ex, n_FR_ofO_some, n_FR_thn_nx, n_FR_thn_rt, n_FR_thn_ex, n_FR_thn_ct, n_FR_thn_bk, n_FR_turn_nx, n_FR_turn_ct, n_FR_turn_bk, n_FR_turn_rt, n_FR_turn_ex, n_FR_two_true, n_FR_two_false, n_FR_gd_true, List.getElem?_cons_zero, List.getElem?_cons_succ, List.set_cons_zero, List.set_cons_succ, List.map_cons, List.map_nil, List.all_cons, List.all_nil, Bool.and_true, Bool.true_and, Bool.and_false, Bool.false_and, Bool.not_true, Bool.not_false, view_non, view_bl, view_int, view_str, view_tup, view_lst, view_fn, view_scr, truth_bl, bin_addI, bin_subI, cmp_eqI, cmp_neI, cmp_eqS, cmp_neS, cmp_lt, cmp_le, cmp_gt, cmp_ge, cmp_inS, cmp_ninS, setTg_nm, setTg_tp, setTg_tq, setAll_nil, setAll_cons, wipe_nil, wipe_cons, noC_non, noC_bl, noC_int, noC_str, noC_tup, noC_lst, noC_ref, noC_fn, noC_scr, biV_len, biV_isInt, biV_isBool, biV_isStr, biV_isTuple, biV_int_, biV_bool_, biV_str_, biV_tuple_, biV_list_, biV_min2, biV_max2, biV_min1, biV_max1, biV_sum_, biV_all_, biV_any_, biV_abs_, len_S, len_T, len_L, len_R, int_I, tuple_L, tuple_T, list_L, list_T, Option.map_some, Option.map_none, items_S, items_T, items_L, idx_L, idx_T, idx_S, slc_L, slc_T, slc_S, isRf_ref, meV_join, meV_split, meV_repl, List.cons_append, List.nil_append, isInt_non, isInt_bl, isInt_int, isInt_str, isInt_tup, isInt_lst, isBool_non, isBool_bl, isBool_int, isBool_str, isBool_tup, isBool_lst, isStr_non, isStr_bl, isStr_int, isStr_str, isStr_tup, isStr_lst, isTuple_non, isTuple_bl, isTuple_int, isTuple_str, isTuple_tup, isTuple_lst, gl0, q1, join_signs (cs := cs) (by omega), s0, s1]
      refine ⟨_, _, .inl rfl, ⟨_, _, rfl⟩, ev_put' (hE.trans q3) hlt hlS s2, by rw [List.length_set]; exact Nat.lt_of_lt_of_le hlen q3.le, ts ++ [cs], ?_, by simp; omega, fun s hs => ?_⟩
      · rw [List.getElem?_set_self (Nat.lt_of_lt_of_le hlen q3.le)]
        simp
      · rcases List.mem_append.mp hs with hs | hs
        · exact hts s hs
        · simp at hs
          subst hs
          exact ⟨hc, q5⟩)
  obtain ⟨⟨x, y, rfl⟩, k1, k2, ts, k3, k4, k5⟩ := g2
  simp only [evE_var, evE_cint, evE_cstr, evE_cbl, evE_cnon, evE_gl, evE_fnv, evE_tup, evE_lst, evE_alc, evE_bin, evE_neg, evE_cmp, evE_chn, evE_andE, evE_orE, evE_notE, evE_ite, evE_idx, evE_slc, evE_rev, evE_call, evE_callv, evE_refu, evE_isx, evE_bi, evE_mth, evE_comp, evE_comp2, evEs_nil, evEs_cons, evOp_no, evOp_yes, evC_no, evC_yes, evI_seq, evI_rng, evI_enm, evI_zip, evI_lsq, evS_asg, evS_par, evS_unp, evS_setI, evS_app, evS_expr, evS_ret, evS_retN, evS_ite, evS_for_, evS_while_, evS_rais, evS_raiV, evS_tryH, evS_pass, evS_brk, evS_cont, evSs_nil, evSs_cons, getV_0, getV_s, n_R_bind_ok, n_R_bind_ex, n_R_nox_ok, n_R_of_some, n_R_refu_ok, n_R_refu_ex, n_asInt_int, n_asBl_bl, n_asStr_str, n_asLst_lst, n_asSq_lst, n_asSq_tup, n_asFn_fn, n_asO_some, n_gd_true, n_two_true, n_two_false, n_FR_ofR_ok, n_FR_ofR_ex, n_FR_ofO_some, n_FR_thn_nx, n_FR_thn_rt, n_FR_thn_ex, n_FR_thn_ct, n_FR_thn_bk, n_FR_turn_nx, n_FR_turn_ct, n_FR_turn_bk, n_FR_turn_rt, n_FR_turn_ex, n_FR_two_true, n_FR_two_false, n_FR_gd_true, List.getElem?_cons_zero, List.getElem?_cons_succ, List.set_cons_zero, List.set_cons_succ, List.map_cons, List.map_nil, List.all_cons, List.all_nil, Bool.and_true, Bool.true_and, Bool.and_false, Bool.false_and, Bool.not_true, Bool.not_false, view_non, view_bl, view_int, view_str, view_tup, view_lst, view_fn, view_scr, truth_bl, bin_addI, bin_subI, cmp_eqI, cmp_neI, cmp_eqS, cmp_neS, cmp_lt, cmp_le, cmp_gt, cmp_ge, cmp_inS, cmp_ninS, setTg_nm, setTg_tp, setTg_tq, setAll_nil, setAll_cons, wipe_nil, wipe_cons, noC_non, noC_bl, noC_int, noC_str, noC_tup, noC_lst, noC_ref, noC_fn, noC_scr, biV_len, biV_isInt, biV_isBool, biV_isStr, biV_isTuple, biV_int_, biV_bool_, biV_str_, biV_tuple_, biV_list_, biV_min2, biV_max2, biV_min1, biV_max1, biV_sum_, biV_all_, biV_any_, biV_abs_, len_S, len_T, len_L, len_R, int_I, tuple_L, tuple_T, list_L, list_T, Option.map_some, Option.map_none, items_S, items_T, items_L, idx_L, idx_T, idx_S, slc_L, slc_T, slc_S, isRf_ref, meV_join, meV_split, meV_repl, List.cons_append, List.nil_append, isInt_non, isInt_bl, isInt_int, isInt_str, isInt_tup, isInt_lst, isBool_non, isBool_bl, isBool_int, isBool_str, isBool_tup, isBool_lst, isStr_non, isStr_bl, isStr_int, isStr_str, isStr_tup, isStr_lst, isTuple_non, isTuple_bl, isTuple_int, isTuple_str, isTuple_tup, isTuple_lst, gl0, g1, view_at k3]
  have tok : TileOk (1 + w).toNat ts := by
    refine ⟨?_, ?_, by omega, by omega, fun s hs => (k5 s hs).1, fun s hs => (k5 s hs).2⟩
    · rw [k4]
      simp
      omega
    · rw [k4]
      simp
      omega
  obtain ⟨d, T, h1, h2, h3, _⟩ := res_cut (P := fun d => ∃ C ts, d = tl ts ∧ TileOk C ts) hS k1 (tl_low ts) ⟨_, ts, rfl, tok⟩
  exact ⟨d, T, h1, h2, h3⟩
theorem rangeL_at {n j : Nat} {x : D} (h : (rangeL 0 n)[j]? = some x) : j < n ∧ x = .int (j : Int) := by
  have h1 := (List.getElem?_eq_some_iff.mp h).1
  simp at h1
  refine ⟨h1, ?_⟩
  rw [rangeL0, List.getElem?_map, List.getElem?_range h1] at h
  exact (Option.some.inj h).symm
end My
set_option Elab.async false
set_option linter.all false
set_option maxRecDepth 100000
set_option maxHeartbeats 2000000
namespace My
open Rx
/-! ### parts of a text -/
def parts (s : List Nat) : List (List Nat) := split1 47 [] s
def good (m : Nat) (p : List Nat) : Bool := isLine (.str p) && decide (p.length = m)
def badAt (m : Nat) : Nat → List (List Nat) → Option Nat
  | _, [] => none
  | i, p :: r => if good m p then badAt m (i + 1) r else some i
def len0 (ps : List (List Nat)) : Nat := (ps.head?.map List.length).getD 0
def rdE (s : List Nat) : Option Int := match badAt (len0 (parts s)) 0 (parts s) with
  | some j => some ((j : Int) + 1)
  | none => if (parts s).length ≤ 6 then none else some 7
def rdD (s : List Nat) : D := match rdE s with
  | some i => .int i
  | none => tl (parts s)
theorem split_sum (c : Nat) : ∀ (s acc : List Nat), ((split1 c acc s).map fun p => p.length + 1).sum = acc.length + s.length + 1
  | [], acc => by simp [split1]
  | x :: r, acc => by
    by_cases h : x = c
    · have := split_sum c r []
      simp only [split1, if_pos h, List.map_cons, List.sum_cons, this, List.length_cons, List.length_nil]
      omega
    · have := split_sum c r (acc ++ [x])
      simp only [split1, if_neg h, this, List.length_append, List.length_cons, List.length_nil]
      omega
theorem parts_sum (s : List Nat) : ((parts s).map fun p => p.length + 1).sum = s.length + 1 := by
  have := split_sum 47 s []
  simpa [parts] using this
theorem split_ne (c : Nat) : ∀ (s acc : List Nat), split1 c acc s ≠ []
  | [], acc => by simp [split1]
  | x :: r, acc => by
    by_cases h : x = c
    · simp [split1, h]
    · simp only [split1, if_neg h]
      exact split_ne c r _
theorem parts_ne (s : List Nat) : parts s ≠ [] := split_ne 47 s []
theorem parts_len (s : List Nat) : 1 ≤ (parts s).length ∧ (parts s).length ≤ s.length + 1 := by
  have h1 := parts_sum s
  have h2 := parts_ne s
  have h3 : ∀ ps : List (List Nat), ps.length ≤ (ps.map fun p => p.length + 1).sum := by
    intro ps
    induction ps with
    | nil => simp
    | cons p ps ih => simp only [List.length_cons, List.map_cons, List.sum_cons]; omega
  have := h3 (parts s)
  have : (parts s).length ≠ 0 := fun z => h2 (List.length_eq_zero_iff.mp z)
  omega
theorem badAt_le (m : Nat) : ∀ (r : List (List Nat)) (i j : Nat), badAt m i r = some j → i ≤ j ∧ j < i + r.length
  | [], i, j, h => by simp [badAt] at h
  | p :: r, i, j, h => by
    unfold badAt at h
    split at h
    · have := badAt_le m r (i + 1) j h
      simp only [List.length_cons]
      omega
    · cases h
      simp only [List.length_cons]
      omega
theorem badAt_none (m : Nat) : ∀ (r : List (List Nat)) (i : Nat), (∀ p ∈ r, good m p = true) → badAt m i r = none
  | [], i, _ => rfl
  | p :: r, i, h => by
    unfold badAt
    rw [if_pos (h p (by simp))]
    exact badAt_none m r (i + 1) fun q hq => h q (by simp [hq])
theorem rd_int {s : List Nat} {i : Int} (hs : s.length ≤ 900) (h : rdE s = some i) : 0 ≤ i ∧ i ≤ 1000 := by
  have := parts_len s
  unfold rdE at h
  split at h
  · rename_i j hj
    have := badAt_le _ _ _ _ hj
    cases h
    omega
  · split at h
    · cases h
    · cases h
      omega
theorem rd_plain (s : List Nat) (k : Nat) : (rdD s).plain (k + 1) = true := by
  unfold rdD
  cases rdE s with
  | some i => exact plain_int _ _
  | none => exact tl_plain _ _
theorem try_ex (k : Nat) (p : D) (e : Env) (S : Store) (X : Nat → Option Bool) (g : Nat → D → Env → Store → FR) : FR.try_ (.ex k p e S) X g = .ofO (X k) fun b => .two b (g k p e S) (.ex k p e S) := Eq.trans rfl rfl
theorem try_rt (d : D) (S : Store) (X : Nat → Option Bool) (g : Nat → D → Env → Store → FR) : FR.try_ (.rt d S) X g = .rt d S := Eq.trans rfl rfl
theorem evH_f (HF : Nat → Nat → Option D) (k0 k : Nat) (p : D) (e : Env) (S : Store) : evH HF .fld k0 k p e S = .gd (decide (k = k0)) (.rt p S) := Eq.trans rfl rfl
theorem exm_11 : pg.exm 11 11 = some true := by decide +kernel
theorem raise_ok {i : Int} (h0 : 0 ≤ i) (h1 : i < 1000000) : raiseOk (.int i) = true := by
  show (decide (0 ≤ i) && decide (i < 1000000)) = true
  rw [decide_eq_true h0, decide_eq_true h1]
  rfl
theorem at_part {ps : List (List Nat)} {i : Nat} {p : List Nat} {r : List (List Nat)} (h : ps.drop i = p :: r) : at_ (ps.map D.str) (i : Int) = some (.str p) := by
  have hl : i < ps.length := by
    have := congrArg List.length h
    simp at this
    omega
  have e : ps[i] = p := by
    have := List.getElem_cons_drop (as := ps) (i := i) hl
    rw [h] at this
    exact (List.cons.inj this).1
  rw [at_nat (by simpa using hl)]
  simp [e]
theorem at_head {ps : List (List Nat)} (h : ps ≠ []) : ∃ p, at_ (ps.map D.str) 0 = some (.str p) ∧ p.length = len0 ps := by
  cases ps with
  | nil => exact absurd rfl h
  | cons p r => exact ⟨p, at_part (i := 0) rfl, rfl⟩
/-! ### read_tile -/
theorem read_loop (n : Nat) {v : D} {ps : List (List Nat)} {S : Store} (hne : ps ≠ []) (hS : SOk S) : ∀ (r : List (List Nat)) (i : Nat) (x y : Option D), i + r.length ≤ 2000 →
    (badAt (len0 ps) i r = none → ∃ x' y', forL (setTg (.tp [2, 3])) (evSs pg.gl (run pg (n + 1)) pg.exm pg.hot L5_0) (enumL i (r.map D.str)) [some v, some (.lst (ps.map D.str)), x, y] S = .nx [some v, some (.lst (ps.map D.str)), x', y'] S) ∧
    (∀ j, badAt (len0 ps) i r = some j → ∃ e', forL (setTg (.tp [2, 3])) (evSs pg.gl (run pg (n + 1)) pg.exm pg.hot L5_0) (enumL i (r.map D.str)) [some v, some (.lst (ps.map D.str)), x, y] S = .ex 11 (.int ((j : Int) + 1)) e' S)
  | [], i, x, y, _ => ⟨fun _ => ⟨x, y, rfl⟩, fun j h => by simp [badAt] at h⟩
  | p :: r, i, x, y, hi => by
    obtain ⟨p0, a0, l0⟩ := at_head hne
    have hi' : i + 1 + r.length ≤ 2000 := by simp only [List.length_cons] at hi; omega
    have ih := read_loop n (v := v) hne hS r (i + 1) (some (.int (i : Int))) (some (.str p)) hi'
    have e0 : forL (setTg (.tp [2, 3])) (evSs pg.gl (run pg (n + 1)) pg.exm pg.hot L5_0) (enumL i ((p :: r).map D.str)) [some v, some (.lst (ps.map D.str)), x, y] S =
        (evSs pg.gl (run pg (n + 1)) pg.exm pg.hot L5_0 [some v, some (.lst (ps.map D.str)), some (.int (i : Int)), some (.str p)] S).turn (forL (setTg (.tp [2, 3])) (evSs pg.gl (run pg (n + 1)) pg.exm pg.hot L5_0) (enumL (i + 1) (r.map D.str))) := rfl
    have ro : raiseOk (.int ((i : Int) + 1)) = true := raise_ok (by omega) (by omega)
    rw [e0]
    cases hl : isLine (.str p) with
    | false =>
      have hg : good (len0 ps) p = false := by
        unfold good
        rw [hl]
        rfl
      have eb : badAt (len0 ps) i (p :: r) = some i := by
        unfold badAt
        rw [hg]
        rfl
      rw [eb]
      refine ⟨fun h => (by cases h), fun j h => ?_⟩
      cases h
      simp only [evE_var, evE_cint, evE_cstr, evE_cbl, evE_cnon, evE_gl, evE_fnv, evE_tup, evE_lst, evE_alc, evE_bin, evE_neg, evE_cmp, evE_chn, evE_andE, evE_orE, evE_notE, evE_ite, evE_idx, evE_slc, evE_rev, evE_call, evE_callv, evE_refu, evE_isx, evE_bi, evE_mth, evE_comp, evE_comp2, evEs_nil, evEs_cons, evOp_no, evOp_yes, evC_no, evC_yes, evI_seq, evI_rng, evI_enm, evI_zip, evI_lsq, evS_asg, evS_par, evS_unp, evS_setI, evS_app, evS_expr, evS_ret, evS_retN, evS_ite, evS_for_, evS_while_, evS_rais, evS_raiV, evS_tryH, evS_pass, evS_brk, evS_cont, evSs_nil, evSs_cons, getV_0, getV_s, n_R_bind_ok, n_R_bind_ex, n_R_nox_ok, n_R_of_some, n_R_refu_ok, n_R_refu_ex, n_asInt_int, n_asBl_bl, n_asStr_str, n_asLst_lst, n_asSq_lst, n_asSq_tup, n_asFn_fn, n_asO_some, n_gd_true, n_two_true, n_two_false, n_FR_ofR_ok, n_FR_ofR_ex, n_FR_ofO_some, n_FR_thn_nx, n_FR_thn_rt, n_FR_thn_ex, n_FR_thn_ct, n_FR_thn_bk, n_FR_turn_nx, n_FR_turn_ct, n_FR_turn_bk, n_FR_turn_rt, n_FR_turn_ex, n_FR_two_true, n_FR_two_false, n_FR_gd_true, List.getElem?_cons_zero, List.getElem?_cons_succ, List.set_cons_zero, List.set_cons_succ, List.map_cons, List.map_nil, List.all_cons, List.all_nil, Bool.and_true, Bool.true_and, Bool.and_false, Bool.false_and, Bool.not_true, Bool.not_false, view_non, view_bl, view_int, view_str, view_tup, view_lst, view_fn, view_scr, truth_bl, bin_addI, bin_subI, cmp_eqI, cmp_neI, cmp_eqS, cmp_neS, cmp_lt, cmp_le, cmp_gt, cmp_ge, cmp_inS, cmp_ninS, setTg_nm, setTg_tp, setTg_tq, setAll_nil, setAll_cons, wipe_nil, wipe_cons, noC_non, noC_bl, noC_int, noC_str, noC_tup, noC_lst, noC_ref, noC_fn, noC_scr, biV_len, biV_isInt, biV_isBool, biV_isStr, biV_isTuple, biV_int_, biV_bool_, biV_str_, biV_tuple_, biV_list_, biV_min2, biV_max2, biV_min1, biV_max1, biV_sum_, biV_all_, biV_any_, biV_abs_, len_S, len_T, len_L, len_R, int_I, tuple_L, tuple_T, list_L, list_T, Option.map_some, Option.map_none, items_S, items_T, items_L, idx_L, idx_T, idx_S, slc_L, slc_T, slc_S, isRf_ref, meV_join, meV_split, meV_repl, List.cons_append, List.nil_append, isInt_non, isInt_bl, isInt_int, isInt_str, isInt_tup, isInt_lst, isBool_non, isBool_bl, isBool_int, isBool_str, isBool_tup, isBool_lst, isStr_non, isStr_bl, isStr_int, isStr_str, isStr_tup, isStr_lst, isTuple_non, isTuple_bl, isTuple_int, isTuple_str, isTuple_tup, isTuple_lst, gl0, L5_0, s_is_line n (plain_str 0 p) hS, hl, ro]
      exact ⟨_, rfl⟩
    | true =>
      by_cases hm : p.length = len0 ps
      · have hg : good (len0 ps) p = true := by
          unfold good
          rw [hl, decide_eq_true hm]
          rfl
        have eb : badAt (len0 ps) i (p :: r) = badAt (len0 ps) (i + 1) r := by
          conv => lhs; unfold badAt
          rw [if_pos hg]
        have e1 : ((p.length : Int) == (p0.length : Int)) = true := by
          rw [l0, hm]
          exact beq_self_eq_true _
        rw [eb]
        simp only [evE_var, evE_cint, evE_cstr, evE_cbl, evE_cnon, evE_gl, evE_fnv, evE_tup, evE_lst, evE_alc, evE_bin, evE_neg, evE_cmp, evE_chn, evE_andE, evE_orE, evE_notE, evE_ite, evE_idx, evE_slc, evE_rev, evE_call, evE_callv, evE_refu, evE_isx, evE_bi, evE_mth, evE_comp, evE_comp2, evEs_nil, evEs_cons, evOp_no, evOp_yes, evC_no, evC_yes, evI_seq, evI_rng, evI_enm, evI_zip, evI_lsq, evS_asg, evS_par, evS_unp, evS_setI, evS_app, evS_expr, evS_ret, evS_retN, evS_ite, evS_for_, evS_while_, evS_rais, evS_raiV, evS_tryH, evS_pass, evS_brk, evS_cont, evSs_nil, evSs_cons, getV_0, getV_s, n_R_bind_ok, n_R_bind_ex, n_R_nox_ok, n_R_of_some, n_R_refu_ok, n_R_refu_ex, n_asInt_int, n_asBl_bl, n_asStr_str, n_asLst_lst, n_asSq_lst, n_asSq_tup, n_asFn_fn, n_asO_some, n_gd_true, n_two_true, n_two_false, n_FR_ofR_ok, n_FR_ofR_ex, n_FR_ofO_some, n_FR_thn_nx, n_FR_thn_rt, n_FR_thn_ex, n_FR_thn_ct, n_FR_thn_bk, n_FR_turn_nx, n_FR_turn_ct, n_FR_turn_bk, n_FR_turn_rt, n_FR_turn_ex, n_FR_two_true, n_FR_two_false, n_FR_gd_true, List.getElem?_cons_zero, List.getElem?_cons_succ, List.set_cons_zero, List.set_cons_succ, List.map_cons, List.map_nil, List.all_cons, List.all_nil, Bool.and_true, Bool.true_and, Bool.and_false, Bool.false_and, Bool.not_true, Bool.not_false, view_non, view_bl, view_int, view_str, view_tup, view_lst, view_fn, view_scr, truth_bl, bin_addI, bin_subI, cmp_eqI, cmp_neI, cmp_eqS, cmp_neS, cmp_lt, cmp_le, cmp_gt, cmp_ge, cmp_inS, cmp_ninS, setTg_nm, setTg_tp, setTg_tq, setAll_nil, setAll_cons, wipe_nil, wipe_cons, noC_non, noC_bl, noC_int, noC_str, noC_tup, noC_lst, noC_ref, noC_fn, noC_scr, biV_len, biV_isInt, biV_isBool, biV_isStr, biV_isTuple, biV_int_, biV_bool_, biV_str_, biV_tuple_, biV_list_, biV_min2, biV_max2, biV_min1, biV_max1, biV_sum_, biV_all_, biV_any_, biV_abs_, len_S, len_T, len_L, len_R, int_I, tuple_L, tuple_T, list_L, list_T, Option.map_some, Option.map_none, items_S, items_T, items_L, idx_L, idx_T, idx_S, slc_L, slc_T, slc_S, isRf_ref, meV_join, meV_split, meV_repl, List.cons_append, List.nil_append, isInt_non, isInt_bl, isInt_int, isInt_str, isInt_tup, isInt_lst, isBool_non, isBool_bl, isBool_int, isBool_str, isBool_tup, isBool_lst, isStr_non, isStr_bl, isStr_int, isStr_str, isStr_tup, isStr_lst, isTuple_non, isTuple_bl, isTuple_int, isTuple_str, isTuple_tup, isTuple_lst, gl0, L5_0, s_is_line n (plain_str 0 p) hS, hl, a0, e1]
        exact ih
      · have hg : good (len0 ps) p = false := by
          unfold good
          rw [decide_eq_false hm, Bool.and_false]
        have eb : badAt (len0 ps) i (p :: r) = some i := by
          unfold badAt
          rw [hg]
          rfl
        have e1 : ((p.length : Int) == (p0.length : Int)) = false := by
          rw [l0]
          simp only [beq_eq_false_iff_ne]
          omega
        rw [eb]
        refine ⟨fun h => (by cases h), fun j h => ?_⟩
        cases h
        simp only [evE_var, evE_cint, evE_cstr, evE_cbl, evE_cnon, evE_gl, evE_fnv, evE_tup, evE_lst, evE_alc, evE_bin, evE_neg, evE_cmp, evE_chn, evE_andE, evE_orE, evE_notE, evE_ite, evE_idx, evE_slc, evE_rev, evE_call, evE_callv, evE_refu, evE_isx, evE_bi, evE_mth, evE_comp, evE_comp2, evEs_nil, evEs_cons, evOp_no, evOp_yes, evC_no, evC_yes, evI_seq, evI_rng, evI_enm, evI_zip, evI_lsq, evS_asg, evS_par, evS_unp, evS_setI, evS_app, evS_expr, evS_ret, evS_retN, evS_ite, evS_for_, evS_while_, evS_rais, evS_raiV, evS_tryH, evS_pass, evS_brk, evS_cont, evSs_nil, evSs_cons, getV_0, getV_s, n_R_bind_ok, n_R_bind_ex, n_R_nox_ok, n_R_of_some, n_R_refu_ok, n_R_refu_ex, n_asInt_int, n_asBl_bl, n_asStr_str, n_asLst_lst, n_asSq_lst, n_asSq_tup, n_asFn_fn, n_asO_some, n_gd_true, n_two_true, n_two_false, n_FR_ofR_ok, n_FR_ofR_ex, n_FR_ofO_some, n_FR_thn_nx, n_FR_thn_rt, n_FR_thn_ex, n_FR_thn_ct, n_FR_thn_bk, n_FR_turn_nx, n_FR_turn_ct, n_FR_turn_bk, n_FR_turn_rt, n_FR_turn_ex, n_FR_two_true, n_FR_two_false, n_FR_gd_true, List.getElem?_cons_zero, List.getElem?_cons_succ, List.set_cons_zero, List.set_cons_succ, List.map_cons, List.map_nil, List.all_cons, List.all_nil, Bool.and_true, Bool.true_and, Bool.and_false, Bool.false_and, Bool.not_true, Bool.not_false, view_non, view_bl, view_int, view_str, view_tup, view_lst, view_fn, view_scr, truth_bl, bin_addI, bin_subI, cmp_eqI, cmp_neI, cmp_eqS, cmp_neS, cmp_lt, cmp_le, cmp_gt, cmp_ge, cmp_inS, cmp_ninS, setTg_nm, setTg_tp, setTg_tq, setAll_nil, setAll_cons, wipe_nil, wipe_cons, noC_non, noC_bl, noC_int, noC_str, noC_tup, noC_lst, noC_ref, noC_fn, noC_scr, biV_len, biV_isInt, biV_isBool, biV_isStr, biV_isTuple, biV_int_, biV_bool_, biV_str_, biV_tuple_, biV_list_, biV_min2, biV_max2, biV_min1, biV_max1, biV_sum_, biV_all_, biV_any_, biV_abs_, len_S, len_T, len_L, len_R, int_I, tuple_L, tuple_T, list_L, list_T, Option.map_some, Option.map_none, items_S, items_T, items_L, idx_L, idx_T, idx_S, slc_L, slc_T, slc_S, isRf_ref, meV_join, meV_split, meV_repl, List.cons_append, List.nil_append, isInt_non, isInt_bl, isInt_int, isInt_str, isInt_tup, isInt_lst, isBool_non, isBool_bl, isBool_int, isBool_str, isBool_tup, isBool_lst, isStr_non, isStr_bl, isStr_int, isStr_str, isStr_tup, isStr_lst, isTuple_non, isTuple_bl, isTuple_int, isTuple_str, isTuple_tup, isTuple_lst, gl0, L5_0, s_is_line n (plain_str 0 p) hS, hl, a0, e1, ro]
        exact ⟨_, rfl⟩
theorem split_ok {s : List Nat} (hs : s.length ≤ 900) : meSplit (.str s) [.str [47]] = some (.lst ((parts s).map D.str)) := by
  show (if 47 < 256 ∧ s.length ≤ 100000 then some (D.lst ((split1 47 [] s).map .str)) else none) = _
  rw [if_pos ⟨by decide, by omega⟩]
  rfl
theorem s_read (n : Nat) {s : List Nat} {S : Store} (hs : s.length ≤ 900) (hS : SOk S) : run pg (n + 2) (.fn 5) [.str s] S = match rdE s with
    | some i => .ex 11 (.int i) S
    | none => .ok (tl (parts s)) S := by
  rw [run5]
  have pl := parts_len s
  have lp := read_loop n (v := .str s) (parts_ne s) hS (parts s) 0 none none (by omega)
  unfold rdE
  cases hb : badAt (len0 (parts s)) 0 (parts s) with
  | some j =>
    obtain ⟨e', g⟩ := lp.2 j hb
    simp only [evE_var, evE_cint, evE_cstr, evE_cbl, evE_cnon, evE_gl, evE_fnv, evE_tup, evE_lst, evE_alc, evE_bin, evE_neg, evE_cmp, evE_chn, evE_andE, evE_orE, evE_notE, evE_ite, evE_idx, evE_slc, evE_rev, evE_call, evE_callv, evE_refu, evE_isx, evE_bi, evE_mth, evE_comp, evE_comp2, evEs_nil, evEs_cons, evOp_no, evOp_yes, evC_no, evC_yes, evI_seq, evI_rng, evI_enm, evI_zip, evI_lsq, evS_asg, evS_par, evS_unp, evS_setI, evS_app, evS_expr, evS_ret, evS_retN, evS_ite, evS_for_, evS_while_, evS_rais, evS_raiV, evS_tryH, evS_pass, evS_brk, evS_cont, evSs_nil, evSs_cons, getV_0, getV_s, n_R_bind_ok, n_R_bind_ex, n_R_nox_ok, n_R_of_some, n_R_refu_ok, n_R_refu_ex, n_asInt_int, n_asBl_bl, n_asStr_str, n_asLst_lst, n_asSq_lst, n_asSq_tup, n_asFn_fn, n_asO_some, n_gd_true, n_two_true, n_two_false, n_FR_ofR_ok, n_FR_ofR_ex, n_FR_ofO_some, n_FR_thn_nx, n_FR_thn_rt, n_FR_thn_ex, n_FR_thn_ct, n_FR_thn_bk, n_FR_turn_nx, n_FR_turn_ct, n_FR_turn_bk, n_FR_turn_rt, n_FR_turn_ex, n_FR_two_true, n_FR_two_false, n_FR_gd_true, List.getElem?_cons_zero, List.getElem?_cons_succ, List.set_cons_zero, List.set_cons_succ, List.map_cons, List.map_nil, List.all_cons, List.all_nil, Bool.and_true, Bool.true_and, Bool.and_false, Bool.false_and, Bool.not_true, Bool.not_false, view_non, view_bl, view_int, view_str, view_tup, view_lst, view_fn, view_scr, truth_bl, bin_addI, bin_subI, cmp_eqI, cmp_neI, cmp_eqS, cmp_neS, cmp_lt, cmp_le, cmp_gt, cmp_ge, cmp_inS, cmp_ninS, setTg_nm, setTg_tp, setTg_tq, setAll_nil, setAll_cons, wipe_nil, wipe_cons, noC_non, noC_bl, noC_int, noC_str, noC_tup, noC_lst, noC_ref, noC_fn, noC_scr, biV_len, biV_isInt, biV_isBool, biV_isStr, biV_isTuple, biV_int_, biV_bool_, biV_str_, biV_tuple_, biV_list_, biV_min2, biV_max2, biV_min1, biV_max1, biV_sum_, biV_all_, biV_any_, biV_abs_, len_S, len_T, len_L, len_R, int_I, tuple_L, tuple_T, list_L, list_T, Option.map_some, Option.map_none, items_S, items_T, items_L, idx_L, idx_T, idx_S, slc_L, slc_T, slc_S, isRf_ref, meV_join, meV_split, meV_repl, List.cons_append, List.nil_append, isInt_non, isInt_bl, isInt_int, isInt_str, isInt_tup, isInt_lst, isBool_non, isBool_bl, isBool_int, isBool_str, isBool_tup, isBool_lst, isStr_non, isStr_bl, isStr_int, isStr_str, isStr_tup, isStr_lst, isTuple_non, isTuple_bl, isTuple_int, isTuple_str, isTuple_tup, isTuple_lst, gl0, B5, split_ok hs, g]
    exact ofFR_ex (by rfl) hS
  | none =>
    obtain ⟨x', y', g⟩ := lp.1 hb
    by_cases h6 : (parts s).length ≤ 6
    · have h6' : ¬ (6 : Int) < ((parts s).length : Int) := by omega
      simp only [evE_var, evE_cint, evE_cstr, evE_cbl, evE_cnon, evE_gl, evE_fnv, evE_tup, evE_lst, evE_alc, evE_bin, evE_neg, evE_cmp, evE_chn, evE_andE, evE_orE, evE_notE, evE_ite, evE_idx, evE_slc, evE_rev, evE_call, evE_callv, evE_refu, evE_isx, evE_bi, evE_mth, evE_comp, evE_comp2, evEs_nil, evEs_cons, evOp_no, evOp_yes, evC_no, evC_yes, evI_seq, evI_rng, evI_enm, evI_zip, evI_lsq, evS_asg, evS_par, evS_unp, evS_setI, evS_app, evS_expr, evS_ret, evS_retN, evS_ite, evS_for_, evS_while_, evS_rais, evS_raiV, evS_tryH, evS_pass, evS_brk, evS_cont, evSs_nil, evSs_cons, getV_0, getV_s, n_R_bind_ok, n_R_bind_ex, n_R_nox_ok, n_R_of_some, n_R_refu_ok, n_R_refu_ex, n_asInt_int, n_asBl_bl, n_asStr_str, n_asLst_lst, n_asSq_lst, n_asSq_tup, n_asFn_fn, n_asO_some, n_gd_true, n_two_true, n_two_false, n_FR_ofR_ok, n_FR_ofR_ex, n_FR_ofO_some, n_FR_thn_nx, n_FR_thn_rt, n_FR_thn_ex, n_FR_thn_ct, n_FR_thn_bk, n_FR_turn_nx, n_FR_turn_ct, n_FR_turn_bk, n_FR_turn_rt, n_FR_turn_ex, n_FR_two_true, n_FR_two_false, n_FR_gd_true, List.getElem?_cons_zero, List.getElem?_cons_succ, List.set_cons_zero, List.set_cons_succ, List.map_cons, List.map_nil, List.all_cons, List.all_nil, Bool.and_true, Bool.true_and, Bool.and_false, Bool.false_and, Bool.not_true, Bool.not_false, view_non, view_bl, view_int, view_str, view_tup, view_lst, view_fn, view_scr, truth_bl, bin_addI, bin_subI, cmp_eqI, cmp_neI, cmp_eqS, cmp_neS, cmp_lt, cmp_le, cmp_gt, cmp_ge, cmp_inS, cmp_ninS, setTg_nm, setTg_tp, setTg_tq, setAll_nil, setAll_cons, wipe_nil, wipe_cons, noC_non, noC_bl, noC_int, noC_str, noC_tup, noC_lst, noC_ref, noC_fn, noC_scr, biV_len, biV_isInt, biV_isBool, biV_isStr, biV_isTuple, biV_int_, biV_bool_, biV_str_, biV_tuple_, biV_list_, biV_min2, biV_max2, biV_min1, biV_max1, biV_sum_, biV_all_, biV_any_, biV_abs_, len_S, len_T, len_L, len_R, int_I, tuple_L, tuple_T, list_L, list_T, Option.map_some, Option.map_none, items_S, items_T, items_L, idx_L, idx_T, idx_S, slc_L, slc_T, slc_S, isRf_ref, meV_join, meV_split, meV_repl, List.cons_append, List.nil_append, isInt_non, isInt_bl, isInt_int, isInt_str, isInt_tup, isInt_lst, isBool_non, isBool_bl, isBool_int, isBool_str, isBool_tup, isBool_lst, isStr_non, isStr_bl, isStr_int, isStr_str, isStr_tup, isStr_lst, isTuple_non, isTuple_bl, isTuple_int, isTuple_str, isTuple_tup, isTuple_lst, gl0, B5, split_ok hs, g, List.length_map, h6', decide_false, if_pos h6]
      exact ofFR_rt (tl_low _) hS
    · have h6' : (6 : Int) < ((parts s).length : Int) := by omega
      have ro : raiseOk (.int ((6 : Int) + 1)) = true := rfl
      simp only [evE_var, evE_cint, evE_cstr, evE_cbl, evE_cnon, evE_gl, evE_fnv, evE_tup, evE_lst, evE_alc, evE_bin, evE_neg, evE_cmp, evE_chn, evE_andE, evE_orE, evE_notE, evE_ite, evE_idx, evE_slc, evE_rev, evE_call, evE_callv, evE_refu, evE_isx, evE_bi, evE_mth, evE_comp, evE_comp2, evEs_nil, evEs_cons, evOp_no, evOp_yes, evC_no, evC_yes, evI_seq, evI_rng, evI_enm, evI_zip, evI_lsq, evS_asg, evS_par, evS_unp, evS_setI, evS_app, evS_expr, evS_ret, evS_retN, evS_ite, evS_for_, evS_while_, evS_rais, evS_raiV, evS_tryH, evS_pass, evS_brk, evS_cont, evSs_nil, evSs_cons, getV_0, getV_s, n_R_bind_ok, n_R_bind_ex, n_R_nox_ok, n_R_of_some, n_R_refu_ok, n_R_refu_ex, n_asInt_int, n_asBl_bl, n_asStr_str, n_asLst_lst, n_asSq_lst, n_asSq_tup, n_asFn_fn, n_asO_some, n_gd_true, n_two_true, n_two_false, n_FR_ofR_ok, n_FR_ofR_ex, n_FR_ofO_some, n_FR_thn_nx, n_FR_thn_rt, n_FR_thn_ex, n_FR_thn_ct, n_FR_thn_bk, n_FR_turn_nx, n_FR_turn_ct, n_FR_turn_bk, n_FR_turn_rt, n_FR_turn_ex, n_FR_two_true, n_FR_two_false, n_FR_gd_true, List.getElem?_cons_zero, List.getElem?_cons_succ, List.set_cons_zero, List.set_cons_succ, List.map_cons, List.map_nil, List.all_cons, List.all_nil, Bool.and_true, Bool.true_and, Bool.and_false, Bool.false_and, Bool.not_true, Bool.not_false, view_non, view_bl, view_int, view_str, view_tup, view_lst, view_fn, view_scr, truth_bl, bin_addI, bin_subI, cmp_eqI, cmp_neI, cmp_eqS, cmp_neS, cmp_lt, cmp_le, cmp_gt, cmp_ge, cmp_inS, cmp_ninS, setTg_nm, setTg_tp, setTg_tq, setAll_nil, setAll_cons, wipe_nil, wipe_cons, noC_non, noC_bl, noC_int, noC_str, noC_tup, noC_lst, noC_ref, noC_fn, noC_scr, biV_len, biV_isInt, biV_isBool, biV_isStr, biV_isTuple, biV_int_, biV_bool_, biV_str_, biV_tuple_, biV_list_, biV_min2, biV_max2, biV_min1, biV_max1, biV_sum_, biV_all_, biV_any_, biV_abs_, len_S, len_T, len_L, len_R, int_I, tuple_L, tuple_T, list_L, list_T, Option.map_some, Option.map_none, items_S, items_T, items_L, idx_L, idx_T, idx_S, slc_L, slc_T, slc_S, isRf_ref, meV_join, meV_split, meV_repl, List.cons_append, List.nil_append, isInt_non, isInt_bl, isInt_int, isInt_str, isInt_tup, isInt_lst, isBool_non, isBool_bl, isBool_int, isBool_str, isBool_tup, isBool_lst, isStr_non, isStr_bl, isStr_int, isStr_str, isStr_tup, isStr_lst, isTuple_non, isTuple_bl, isTuple_int, isTuple_str, isTuple_tup, isTuple_lst, gl0, B5, split_ok hs, g, List.length_map, h6', decide_true, if_neg h6, ro]
      exact ofFR_ex (by rfl) hS
theorem s_readN (n : Nat) {v : D} {k : Nat} {S : Store} (hv : v.plain k = true) (ns : ∀ s, v ≠ .str s) (hS : SOk S) : run pg (n + 2) (.fn 5) [v] S = .ex 11 (.int 0) S := by
  rw [run5]
  have ro : raiseOk (.int 0) = true := rfl
  have hv' : view S v = v := view_plain hv
  simp only [evE_var, evE_cint, evE_cstr, evE_cbl, evE_cnon, evE_gl, evE_fnv, evE_tup, evE_lst, evE_alc, evE_bin, evE_neg, evE_cmp, evE_chn, evE_andE, evE_orE, evE_notE, evE_ite, evE_idx, evE_slc, evE_rev, evE_call, evE_callv, evE_refu, evE_isx, evE_bi, evE_mth, evE_comp, evE_comp2, evEs_nil, evEs_cons, evOp_no, evOp_yes, evC_no, evC_yes, evI_seq, evI_rng, evI_enm, evI_zip, evI_lsq, evS_asg, evS_par, evS_unp, evS_setI, evS_app, evS_expr, evS_ret, evS_retN, evS_ite, evS_for_, evS_while_, evS_rais, evS_raiV, evS_tryH, evS_pass, evS_brk, evS_cont, evSs_nil, evSs_cons, getV_0, getV_s, n_R_bind_ok, n_R_bind_ex, n_R_nox_ok, n_R_of_some, n_R_refu_ok, n_R_refu_ex, n_asInt_int, n_asBl_bl, n_asStr_str, n_asLst_lst, n_asSq_lst, n_asSq_tup, n_asFn_fn, n_asO_some, n_gd_true, n_two_true, n_two_false, n_FR_ofR_ok, n_FR_ofR_ex, n_FR_ofO_some, n_FR_thn_nx, n_FR_thn_rt, n_FR_thn_ex, n_FR_thn_ct, n_FR_thn_bk, n_FR_turn_nx, n_FR_turn_ct, n_FR_turn_bk, n_FR_turn_rt, n_FR_turn_ex, n_FR_two_true, n_FR_two_false, n_FR_gd_true, List.getElem?_cons_zero, List.getElem?_cons_succ, List.set_cons_zero, List.set_cons_succ, List.map_cons, List.map_nil, List.all_cons, List.all_nil, Bool.and_true, Bool.true_and, Bool.and_false, Bool.false_and, Bool.not_true, Bool.not_false, view_non, view_bl, view_int, view_str, view_tup, view_lst, view_fn, view_scr, truth_bl, bin_addI, bin_subI, cmp_eqI, cmp_neI, cmp_eqS, cmp_neS, cmp_lt, cmp_le, cmp_gt, cmp_ge, cmp_inS, cmp_ninS, setTg_nm, setTg_tp, setTg_tq, setAll_nil, setAll_cons, wipe_nil, wipe_cons, noC_non, noC_bl, noC_int, noC_str, noC_tup, noC_lst, noC_ref, noC_fn, noC_scr, biV_len, biV_isInt, biV_isBool, biV_isStr, biV_isTuple, biV_int_, biV_bool_, biV_str_, biV_tuple_, biV_list_, biV_min2, biV_max2, biV_min1, biV_max1, biV_sum_, biV_all_, biV_any_, biV_abs_, len_S, len_T, len_L, len_R, int_I, tuple_L, tuple_T, list_L, list_T, Option.map_some, Option.map_none, items_S, items_T, items_L, idx_L, idx_T, idx_S, slc_L, slc_T, slc_S, isRf_ref, meV_join, meV_split, meV_repl, List.cons_append, List.nil_append, isInt_non, isInt_bl, isInt_int, isInt_str, isInt_tup, isInt_lst, isBool_non, isBool_bl, isBool_int, isBool_str, isBool_tup, isBool_lst, isStr_non, isStr_bl, isStr_int, isStr_str, isStr_tup, isStr_lst, isTuple_non, isTuple_bl, isTuple_int, isTuple_str, isTuple_tup, isTuple_lst, gl0, B5, hv', isStr_not hv ns, ro]
  exact ofFR_ex (by rfl) hS
theorem s_law_read (n : Nat) {s : List Nat} {S : Store} (hs : s.length ≤ 900) (hS : SOk S) : run pg (n + 3) (.fn 11) [.str s] S = .ok (rdD s) S := by
  rw [run11]
  have h := s_read n hs hS
  unfold rdD
  cases he : rdE s with
  | some i =>
    rw [he] at h
    have e11 : decide (11 = 11) = true := rfl
    simp only [evE_var, evE_cint, evE_cstr, evE_cbl, evE_cnon, evE_gl, evE_fnv, evE_tup, evE_lst, evE_alc, evE_bin, evE_neg, evE_cmp, evE_chn, evE_andE, evE_orE, evE_notE, evE_ite, evE_idx, evE_slc, evE_rev, evE_call, evE_callv, evE_refu, evE_isx, evE_bi, evE_mth, evE_comp, evE_comp2, evEs_nil, evEs_cons, evOp_no, evOp_yes, evC_no, evC_yes, evI_seq, evI_rng, evI_enm, evI_zip, evI_lsq, evS_asg, evS_par, evS_unp, evS_setI, evS_app, evS_expr, evS_ret, evS_retN, evS_ite, evS_for_, evS_while_, evS_rais, evS_raiV, evS_tryH, evS_pass, evS_brk, evS_cont, evSs_nil, evSs_cons, getV_0, getV_s, n_R_bind_ok, n_R_bind_ex, n_R_nox_ok, n_R_of_some, n_R_refu_ok, n_R_refu_ex, n_asInt_int, n_asBl_bl, n_asStr_str, n_asLst_lst, n_asSq_lst, n_asSq_tup, n_asFn_fn, n_asO_some, n_gd_true, n_two_true, n_two_false, n_FR_ofR_ok, n_FR_ofR_ex, n_FR_ofO_some, n_FR_thn_nx, n_FR_thn_rt, n_FR_thn_ex, n_FR_thn_ct, n_FR_thn_bk, n_FR_turn_nx, n_FR_turn_ct, n_FR_turn_bk, n_FR_turn_rt, n_FR_turn_ex, n_FR_two_true, n_FR_two_false, n_FR_gd_true, List.getElem?_cons_zero, List.getElem?_cons_succ, List.set_cons_zero, List.set_cons_succ, List.map_cons, List.map_nil, List.all_cons, List.all_nil, Bool.and_true, Bool.true_and, Bool.and_false, Bool.false_and, Bool.not_true, Bool.not_false, view_non, view_bl, view_int, view_str, view_tup, view_lst, view_fn, view_scr, truth_bl, bin_addI, bin_subI, cmp_eqI, cmp_neI, cmp_eqS, cmp_neS, cmp_lt, cmp_le, cmp_gt, cmp_ge, cmp_inS, cmp_ninS, setTg_nm, setTg_tp, setTg_tq, setAll_nil, setAll_cons, wipe_nil, wipe_cons, noC_non, noC_bl, noC_int, noC_str, noC_tup, noC_lst, noC_ref, noC_fn, noC_scr, biV_len, biV_isInt, biV_isBool, biV_isStr, biV_isTuple, biV_int_, biV_bool_, biV_str_, biV_tuple_, biV_list_, biV_min2, biV_max2, biV_min1, biV_max1, biV_sum_, biV_all_, biV_any_, biV_abs_, len_S, len_T, len_L, len_R, int_I, tuple_L, tuple_T, list_L, list_T, Option.map_some, Option.map_none, items_S, items_T, items_L, idx_L, idx_T, idx_S, slc_L, slc_T, slc_S, isRf_ref, meV_join, meV_split, meV_repl, List.cons_append, List.nil_append, isInt_non, isInt_bl, isInt_int, isInt_str, isInt_tup, isInt_lst, isBool_non, isBool_bl, isBool_int, isBool_str, isBool_tup, isBool_lst, isStr_non, isStr_bl, isStr_int, isStr_str, isStr_tup, isStr_lst, isTuple_non, isTuple_bl, isTuple_int, isTuple_str, isTuple_tup, isTuple_lst, gl0, B11, h, try_ex, exm_11, evH_f, e11]
    exact ofFR_rt (by rfl) hS
  | none =>
    rw [he] at h
    simp only [evE_var, evE_cint, evE_cstr, evE_cbl, evE_cnon, evE_gl, evE_fnv, evE_tup, evE_lst, evE_alc, evE_bin, evE_neg, evE_cmp, evE_chn, evE_andE, evE_orE, evE_notE, evE_ite, evE_idx, evE_slc, evE_rev, evE_call, evE_callv, evE_refu, evE_isx, evE_bi, evE_mth, evE_comp, evE_comp2, evEs_nil, evEs_cons, evOp_no, evOp_yes, evC_no, evC_yes, evI_seq, evI_rng, evI_enm, evI_zip, evI_lsq, evS_asg, evS_par, evS_unp, evS_setI, evS_app, evS_expr, evS_ret, evS_retN, evS_ite, evS_for_, evS_while_, evS_rais, evS_raiV, evS_tryH, evS_pass, evS_brk, evS_cont, evSs_nil, evSs_cons, getV_0, getV_s, n_R_bind_ok, n_R_bind_ex, n_R_nox_ok, n_R_of_some, n_R_refu_ok, n_R_refu_ex, n_asInt_int, n_asBl_bl, n_asStr_str, n_asLst_lst, n_asSq_lst, n_asSq_tup, n_asFn_fn, n_asO_some, n_gd_true, n_two_true, n_two_false, n_FR_ofR_ok, n_FR_ofR_ex, n_FR_ofO_some, n_FR_thn_nx, n_FR_thn_rt, n_FR_thn_ex, n_FR_thn_ct, n_FR_thn_bk, n_FR_turn_nx, n_FR_turn_ct, n_FR_turn_bk, n_FR_turn_rt, n_FR_turn_ex, n_FR_two_true, n_FR_two_false, n_FR_gd_true, List.getElem?_cons_zero, List.getElem?_cons_succ, List.set_cons_zero, List.set_cons_succ, List.map_cons, List.map_nil, List.all_cons, List.all_nil, Bool.and_true, Bool.true_and, Bool.and_false, Bool.false_and, Bool.not_true, Bool.not_false, view_non, view_bl, view_int, view_str, view_tup, view_lst, view_fn, view_scr, truth_bl, bin_addI, bin_subI, cmp_eqI, cmp_neI, cmp_eqS, cmp_neS, cmp_lt, cmp_le, cmp_gt, cmp_ge, cmp_inS, cmp_ninS, setTg_nm, setTg_tp, setTg_tq, setAll_nil, setAll_cons, wipe_nil, wipe_cons, noC_non, noC_bl, noC_int, noC_str, noC_tup, noC_lst, noC_ref, noC_fn, noC_scr, biV_len, biV_isInt, biV_isBool, biV_isStr, biV_isTuple, biV_int_, biV_bool_, biV_str_, biV_tuple_, biV_list_, biV_min2, biV_max2, biV_min1, biV_max1, biV_sum_, biV_all_, biV_any_, biV_abs_, len_S, len_T, len_L, len_R, int_I, tuple_L, tuple_T, list_L, list_T, Option.map_some, Option.map_none, items_S, items_T, items_L, idx_L, idx_T, idx_S, slc_L, slc_T, slc_S, isRf_ref, meV_join, meV_split, meV_repl, List.cons_append, List.nil_append, isInt_non, isInt_bl, isInt_int, isInt_str, isInt_tup, isInt_lst, isBool_non, isBool_bl, isBool_int, isBool_str, isBool_tup, isBool_lst, isStr_non, isStr_bl, isStr_int, isStr_str, isStr_tup, isStr_lst, isTuple_non, isTuple_bl, isTuple_int, isTuple_str, isTuple_tup, isTuple_lst, gl0, B11, h, try_rt]
    exact ofFR_rt (tl_low _) hS
theorem s_law_readN (n : Nat) {v : D} {k : Nat} {S : Store} (hv : v.plain k = true) (ns : ∀ s, v ≠ .str s) (hS : SOk S) : run pg (n + 3) (.fn 11) [v] S = .ok (.int 0) S := by
  rw [run11]
  have h := s_readN n hv ns hS
  have e11 : decide (11 = 11) = true := rfl
  simp only [evE_var, evE_cint, evE_cstr, evE_cbl, evE_cnon, evE_gl, evE_fnv, evE_tup, evE_lst, evE_alc, evE_bin, evE_neg, evE_cmp, evE_chn, evE_andE, evE_orE, evE_notE, evE_ite, evE_idx, evE_slc, evE_rev, evE_call, evE_callv, evE_refu, evE_isx, evE_bi, evE_mth, evE_comp, evE_comp2, evEs_nil, evEs_cons, evOp_no, evOp_yes, evC_no, evC_yes, evI_seq, evI_rng, evI_enm, evI_zip, evI_lsq, evS_asg, evS_par, evS_unp, evS_setI, evS_app, evS_expr, evS_ret, evS_retN, evS_ite, evS_for_, evS_while_, evS_rais, evS_raiV, evS_tryH, evS_pass, evS_brk, evS_cont, evSs_nil, evSs_cons, getV_0, getV_s, n_R_bind_ok, n_R_bind_ex, n_R_nox_ok, n_R_of_some, n_R_refu_ok, n_R_refu_ex, n_asInt_int, n_asBl_bl, n_asStr_str, n_asLst_lst, n_asSq_lst, n_asSq_tup, n_asFn_fn, n_asO_some, n_gd_true, n_two_true, n_two_false, n_FR_ofR_ok, n_FR_ofR_ex, n_FR_ofO_some, n_FR_thn_nx, n_FR_thn_rt, n_FR_thn_ex, n_FR_thn_ct, n_FR_thn_bk, n_FR_turn_nx, n_FR_turn_ct, n_FR_turn_bk, n_FR_turn_rt, n_FR_turn_ex, n_FR_two_true, n_FR_two_false, n_FR_gd_true, List.getElem?_cons_zero, List.getElem?_cons_succ, List.set_cons_zero, List.set_cons_succ, List.map_cons, List.map_nil, List.all_cons, List.all_nil, Bool.and_true, Bool.true_and, Bool.and_false, Bool.false_and, Bool.not_true, Bool.not_false, view_non, view_bl, view_int, view_str, view_tup, view_lst, view_fn, view_scr, truth_bl, bin_addI, bin_subI, cmp_eqI, cmp_neI, cmp_eqS, cmp_neS, cmp_lt, cmp_le, cmp_gt, cmp_ge, cmp_inS, cmp_ninS, setTg_nm, setTg_tp, setTg_tq, setAll_nil, setAll_cons, wipe_nil, wipe_cons, noC_non, noC_bl, noC_int, noC_str, noC_tup, noC_lst, noC_ref, noC_fn, noC_scr, biV_len, biV_isInt, biV_isBool, biV_isStr, biV_isTuple, biV_int_, biV_bool_, biV_str_, biV_tuple_, biV_list_, biV_min2, biV_max2, biV_min1, biV_max1, biV_sum_, biV_all_, biV_any_, biV_abs_, len_S, len_T, len_L, len_R, int_I, tuple_L, tuple_T, list_L, list_T, Option.map_some, Option.map_none, items_S, items_T, items_L, idx_L, idx_T, idx_S, slc_L, slc_T, slc_S, isRf_ref, meV_join, meV_split, meV_repl, List.cons_append, List.nil_append, isInt_non, isInt_bl, isInt_int, isInt_str, isInt_tup, isInt_lst, isBool_non, isBool_bl, isBool_int, isBool_str, isBool_tup, isBool_lst, isStr_non, isStr_bl, isStr_int, isStr_str, isStr_tup, isStr_lst, isTuple_non, isTuple_bl, isTuple_int, isTuple_str, isTuple_tup, isTuple_lst, gl0, B11, h, try_ex, exm_11, evH_f, e11]
  exact ofFR_rt (by rfl) hS
end My
set_option Elab.async false
set_option linter.all false
set_option maxRecDepth 100000
set_option maxHeartbeats 2000000
namespace My
open Rx
/-! ### _law_due -/
theorem good_eq (m : Nat) (p : List Nat) : good m p = (decide (1 ≤ p.length) && decide (p.length ≤ 6) && p.all sgn && decide (p.length = m)) := rfl
theorem sg_filter : ∀ p : List Nat, (((p.filter fun x => x != 46).filter fun x => x != 35) == []) = p.all sgn
  | [] => rfl
  | c :: r => by
    have ih := sg_filter r
    by_cases h1 : c = 46
    · subst h1
      rw [List.filter_cons_of_neg (by simp), ih, List.all_cons]
      rfl
    · by_cases h2 : c = 35
      · subst h2
        rw [List.filter_cons_of_pos (by simp), List.filter_cons_of_neg (by simp), ih, List.all_cons]
        rfl
      · rw [List.filter_cons_of_pos (by simpa using h1), List.filter_cons_of_pos (by simpa using h2), List.all_cons]
        have e : sgn c = false := by simp [sgn, h1, h2]
        rw [e]
        rfl
theorem rangeL_succ (lo : Int) (n : Nat) : rangeL lo (n + 1) = .int lo :: rangeL (lo + 1) n := by
  unfold rangeL
  rw [List.range_succ_eq_map, List.map_cons, List.map_map]
  congr 1
  · simp
  · apply List.map_congr_left
    intro a _
    simp only [Function.comp_apply, Nat.succ_eq_add_one]
    congr 1
    omega
theorem repl_ok {p : List Nat} (c : Nat) (h : p.length ≤ 900) : meRepl (.str p) [.str [c], .str []] = some (.str (p.filter fun x => x != c)) := by
  show (if p.length ≤ 100000 then some (D.str (p.filter fun x => x != c)) else none) = _
  rw [if_pos (by omega)]
theorem due_loop (n : Nat) {v : D} {ps : List (List Nat)} {S : Store} (hne : ps ≠ []) (hS : SOk S) : ∀ (r : List (List Nat)) (i : Nat) (x y : Option D), ps.drop i = r →
    (badAt (len0 ps) i r = none → ∃ x' y', forL (setTg (.nm 2)) (evSs pg.gl (run pg (n + 1)) pg.exm pg.hot L10_0) (rangeL i r.length) [some v, some (.lst (ps.map D.str)), x, y] S = .nx [some v, some (.lst (ps.map D.str)), x', y'] S) ∧
    (∀ j, badAt (len0 ps) i r = some j → forL (setTg (.nm 2)) (evSs pg.gl (run pg (n + 1)) pg.exm pg.hot L10_0) (rangeL i r.length) [some v, some (.lst (ps.map D.str)), x, y] S = .rt (.int ((j : Int) + 1)) S)
  | [], i, x, y, _ => ⟨fun _ => ⟨x, y, rfl⟩, fun j h => by simp [badAt] at h⟩
  | p :: r, i, x, y, hd => by
    obtain ⟨p0, a0, l0⟩ := at_head hne
    have ap := at_part hd
    have hd' : ps.drop (i + 1) = r := by
      rw [← List.drop_drop, hd]
      rfl
    have ih := due_loop n (v := v) hne hS r (i + 1) (some (.int (i : Int))) (some (.str p)) hd'
    have e0 : forL (setTg (.nm 2)) (evSs pg.gl (run pg (n + 1)) pg.exm pg.hot L10_0) (rangeL i (p :: r).length) [some v, some (.lst (ps.map D.str)), x, y] S =
        (evSs pg.gl (run pg (n + 1)) pg.exm pg.hot L10_0 [some v, some (.lst (ps.map D.str)), some (.int (i : Int)), y] S).turn (forL (setTg (.nm 2)) (evSs pg.gl (run pg (n + 1)) pg.exm pg.hot L10_0) (rangeL ((i + 1 : Nat) : Int) r.length)) := by
      rw [List.length_cons, rangeL_succ]
      rfl
    have bad : good (len0 ps) p = false → badAt (len0 ps) i (p :: r) = some i := fun hg => by
      unfold badAt
      rw [hg]
      rfl
    rw [e0]
    by_cases h1 : (1 : Int) ≤ (p.length : Int)
    · by_cases h6 : (p.length : Int) ≤ 6
      · by_cases hm : p.length = len0 ps
        · have e1 : ((p.length : Int) == (p0.length : Int)) = true := by
            rw [l0, hm]
            exact beq_self_eq_true _
          have f1 := repl_ok 46 (p := p) (by omega)
          have f2 := repl_ok 35 (p := p.filter fun x => x != 46) (Nat.le_trans (List.length_filter_le _ _) (by omega))
          have q1 : 1 ≤ p.length := by omega
          have q6 : p.length ≤ 6 := by omega
          have f3 := sg_filter p
          cases hs : p.all sgn with
          | true =>
            have hg : good (len0 ps) p = true := by
              rw [good_eq]
              rw [hs, decide_eq_true hm, decide_eq_true q1, decide_eq_true q6]
              rfl
            have eb : badAt (len0 ps) i (p :: r) = badAt (len0 ps) (i + 1) r := by
              conv => lhs; unfold badAt
              rw [if_pos hg]
            rw [hs] at f3
            rw [eb]
            simp only [evE_var, evE_cint, evE_cstr, evE_cbl, evE_cnon, evE_gl, evE_fnv, evE_tup, evE_lst, evE_alc, evE_bin, evE_neg, evE_cmp, evE_chn, evE_andE, evE_orE, evE_notE, evE_ite, evE_idx, evE_slc, evE_rev, evE_call, evE_callv, evE_refu, evE_isx, evE_bi, evE_mth, evE_comp, evE_comp2, evEs_nil, evEs_cons, evOp_no, evOp_yes, evC_no, evC_yes, evI_seq, evI_rng, evI_enm, evI_zip, evI_lsq, evS_asg, evS_par, evS_unp, evS_setI, evS_app, evS_expr, evS_ret, evS_retN, evS_ite, evS_for_, evS_while_, evS_rais, evS_raiV, evS_tryH, evS_pass, evS_brk, evS_cont, evSs_nil, evSs_cons, getV_0, getV_s, n_R_bind_ok, n_R_bind_ex, n_R_nox_ok, n_R_of_some, n_R_refu_ok, n_R_refu_ex, n_asInt_int, n_asBl_bl, n_asStr_str, n_asLst_lst, n_asSq_lst, n_asSq_tup, n_asFn_fn, n_asO_some, n_gd_true, n_two_true, n_two_false, n_FR_ofR_ok, n_FR_ofR_ex, n_FR_ofO_some, n_FR_thn_nx, n_FR_thn_rt, n_FR_thn_ex, n_FR_thn_ct, n_FR_thn_bk, n_FR_turn_nx, n_FR_turn_ct, n_FR_turn_bk, n_FR_turn_rt, n_FR_turn_ex, n_FR_two_true, n_FR_two_false, n_FR_gd_true, List.getElem?_cons_zero, List.getElem?_cons_succ, List.set_cons_zero, List.set_cons_succ, List.map_cons, List.map_nil, List.all_cons, List.all_nil, Bool.and_true, Bool.true_and, Bool.and_false, Bool.false_and, Bool.not_true, Bool.not_false, view_non, view_bl, view_int, view_str, view_tup, view_lst, view_fn, view_scr, truth_bl, bin_addI, bin_subI, cmp_eqI, cmp_neI, cmp_eqS, cmp_neS, cmp_lt, cmp_le, cmp_gt, cmp_ge, cmp_inS, cmp_ninS, setTg_nm, setTg_tp, setTg_tq, setAll_nil, setAll_cons, wipe_nil, wipe_cons, noC_non, noC_bl, noC_int, noC_str, noC_tup, noC_lst, noC_ref, noC_fn, noC_scr, biV_len, biV_isInt, biV_isBool, biV_isStr, biV_isTuple, biV_int_, biV_bool_, biV_str_, biV_tuple_, biV_list_, biV_min2, biV_max2, biV_min1, biV_max1, biV_sum_, biV_all_, biV_any_, biV_abs_, len_S, len_T, len_L, len_R, int_I, tuple_L, tuple_T, list_L, list_T, Option.map_some, Option.map_none, items_S, items_T, items_L, idx_L, idx_T, idx_S, slc_L, slc_T, slc_S, isRf_ref, meV_join, meV_split, meV_repl, List.cons_append, List.nil_append, isInt_non, isInt_bl, isInt_int, isInt_str, isInt_tup, isInt_lst, isBool_non, isBool_bl, isBool_int, isBool_str, isBool_tup, isBool_lst, isStr_non, isStr_bl, isStr_int, isStr_str, isStr_tup, isStr_lst, isTuple_non, isTuple_bl, isTuple_int, isTuple_str, isTuple_tup, isTuple_lst, gl0, L10_0, ap, h1, h6, decide_true, a0, e1, f1, f2, f3]
            exact ih
          | false =>
            have hg : good (len0 ps) p = false := by
              rw [good_eq]
              rw [hs, Bool.and_false, Bool.false_and]
            rw [hs] at f3
            rw [bad hg]
            refine ⟨fun h => (by cases h), fun j h => ?_⟩
            cases h
            simp only [evE_var, evE_cint, evE_cstr, evE_cbl, evE_cnon, evE_gl, evE_fnv, evE_tup, evE_lst, evE_alc, evE_bin, evE_neg, evE_cmp, evE_chn, evE_andE, evE_orE, evE_notE, evE_ite, evE_idx, evE_slc, evE_rev, evE_call, evE_callv, evE_refu, evE_isx, evE_bi, evE_mth, evE_comp, evE_comp2, evEs_nil, evEs_cons, evOp_no, evOp_yes, evC_no, evC_yes, evI_seq, evI_rng, evI_enm, evI_zip, evI_lsq, evS_asg, evS_par, evS_unp, evS_setI, evS_app, evS_expr, evS_ret, evS_retN, evS_ite, evS_for_, evS_while_, evS_rais, evS_raiV, evS_tryH, evS_pass, evS_brk, evS_cont, evSs_nil, evSs_cons, getV_0, getV_s, n_R_bind_ok, n_R_bind_ex, n_R_nox_ok, n_R_of_some, n_R_refu_ok, n_R_refu_ex, n_asInt_int, n_asBl_bl, n_asStr_str, n_asLst_lst, n_asSq_lst, n_asSq_tup, n_asFn_fn, n_asO_some, n_gd_true, n_two_true, n_two_false, n_FR_ofR_ok, n_FR_ofR_ex, n_FR_ofO_some, n_FR_thn_nx, n_FR_thn_rt, n_FR_thn_ex, n_FR_thn_ct, n_FR_thn_bk, n_FR_turn_nx, n_FR_turn_ct, n_FR_turn_bk, n_FR_turn_rt, n_FR_turn_ex, n_FR_two_true, n_FR_two_false, n_FR_gd_true, List.getElem?_cons_zero, List.getElem?_cons_succ, List.set_cons_zero, List.set_cons_succ, List.map_cons, List.map_nil, List.all_cons, List.all_nil, Bool.and_true, Bool.true_and, Bool.and_false, Bool.false_and, Bool.not_true, Bool.not_false, view_non, view_bl, view_int, view_str, view_tup, view_lst, view_fn, view_scr, truth_bl, bin_addI, bin_subI, cmp_eqI, cmp_neI, cmp_eqS, cmp_neS, cmp_lt, cmp_le, cmp_gt, cmp_ge, cmp_inS, cmp_ninS, setTg_nm, setTg_tp, setTg_tq, setAll_nil, setAll_cons, wipe_nil, wipe_cons, noC_non, noC_bl, noC_int, noC_str, noC_tup, noC_lst, noC_ref, noC_fn, noC_scr, biV_len, biV_isInt, biV_isBool, biV_isStr, biV_isTuple, biV_int_, biV_bool_, biV_str_, biV_tuple_, biV_list_, biV_min2, biV_max2, biV_min1, biV_max1, biV_sum_, biV_all_, biV_any_, biV_abs_, len_S, len_T, len_L, len_R, int_I, tuple_L, tuple_T, list_L, list_T, Option.map_some, Option.map_none, items_S, items_T, items_L, idx_L, idx_T, idx_S, slc_L, slc_T, slc_S, isRf_ref, meV_join, meV_split, meV_repl, List.cons_append, List.nil_append, isInt_non, isInt_bl, isInt_int, isInt_str, isInt_tup, isInt_lst, isBool_non, isBool_bl, isBool_int, isBool_str, isBool_tup, isBool_lst, isStr_non, isStr_bl, isStr_int, isStr_str, isStr_tup, isStr_lst, isTuple_non, isTuple_bl, isTuple_int, isTuple_str, isTuple_tup, isTuple_lst, gl0, L10_0, ap, h1, h6, decide_true, a0, e1, f1, f2, f3]
        · have e1 : ((p.length : Int) == (p0.length : Int)) = false := by
            rw [l0]
            simp only [beq_eq_false_iff_ne]
            omega
          rw [bad (by rw [good_eq]; rw [decide_eq_false hm, Bool.and_false])]
          refine ⟨fun h => (by cases h), fun j h => ?_⟩
          cases h
          simp only [evE_var, evE_cint, evE_cstr, evE_cbl, evE_cnon, evE_gl, evE_fnv, evE_tup, evE_lst, evE_alc, evE_bin, evE_neg, evE_cmp, evE_chn, evE_andE, evE_orE, evE_notE, evE_ite, evE_idx, evE_slc, evE_rev, evE_call, evE_callv, evE_refu, evE_isx, evE_bi, evE_mth, evE_comp, evE_comp2, evEs_nil, evEs_cons, evOp_no, evOp_yes, evC_no, evC_yes, evI_seq, evI_rng, evI_enm, evI_zip, evI_lsq, evS_asg, evS_par, evS_unp, evS_setI, evS_app, evS_expr, evS_ret, evS_retN, evS_ite, evS_for_, evS_while_, evS_rais, evS_raiV, evS_tryH, evS_pass, evS_brk, evS_cont, evSs_nil, evSs_cons, getV_0, getV_s, n_R_bind_ok, n_R_bind_ex, n_R_nox_ok, n_R_of_some, n_R_refu_ok, n_R_refu_ex, n_asInt_int, n_asBl_bl, n_asStr_str, n_asLst_lst, n_asSq_lst, n_asSq_tup, n_asFn_fn, n_asO_some, n_gd_true, n_two_true, n_two_false, n_FR_ofR_ok, n_FR_ofR_ex, n_FR_ofO_some, n_FR_thn_nx, n_FR_thn_rt, n_FR_thn_ex, n_FR_thn_ct, n_FR_thn_bk, n_FR_turn_nx, n_FR_turn_ct, n_FR_turn_bk, n_FR_turn_rt, n_FR_turn_ex, n_FR_two_true, n_FR_two_false, n_FR_gd_true, List.getElem?_cons_zero, List.getElem?_cons_succ, List.set_cons_zero, List.set_cons_succ, List.map_cons, List.map_nil, List.all_cons, List.all_nil, Bool.and_true, Bool.true_and, Bool.and_false, Bool.false_and, Bool.not_true, Bool.not_false, view_non, view_bl, view_int, view_str, view_tup, view_lst, view_fn, view_scr, truth_bl, bin_addI, bin_subI, cmp_eqI, cmp_neI, cmp_eqS, cmp_neS, cmp_lt, cmp_le, cmp_gt, cmp_ge, cmp_inS, cmp_ninS, setTg_nm, setTg_tp, setTg_tq, setAll_nil, setAll_cons, wipe_nil, wipe_cons, noC_non, noC_bl, noC_int, noC_str, noC_tup, noC_lst, noC_ref, noC_fn, noC_scr, biV_len, biV_isInt, biV_isBool, biV_isStr, biV_isTuple, biV_int_, biV_bool_, biV_str_, biV_tuple_, biV_list_, biV_min2, biV_max2, biV_min1, biV_max1, biV_sum_, biV_all_, biV_any_, biV_abs_, len_S, len_T, len_L, len_R, int_I, tuple_L, tuple_T, list_L, list_T, Option.map_some, Option.map_none, items_S, items_T, items_L, idx_L, idx_T, idx_S, slc_L, slc_T, slc_S, isRf_ref, meV_join, meV_split, meV_repl, List.cons_append, List.nil_append, isInt_non, isInt_bl, isInt_int, isInt_str, isInt_tup, isInt_lst, isBool_non, isBool_bl, isBool_int, isBool_str, isBool_tup, isBool_lst, isStr_non, isStr_bl, isStr_int, isStr_str, isStr_tup, isStr_lst, isTuple_non, isTuple_bl, isTuple_int, isTuple_str, isTuple_tup, isTuple_lst, gl0, L10_0, ap, h1, h6, decide_true, a0, e1]
      · have q6 : ¬ p.length ≤ 6 := by omega
        rw [bad (by rw [good_eq]; rw [decide_eq_false q6, Bool.and_false, Bool.false_and, Bool.false_and])]
        refine ⟨fun h => (by cases h), fun j h => ?_⟩
        cases h
        simp only [evE_var, evE_cint, evE_cstr, evE_cbl, evE_cnon, evE_gl, evE_fnv, evE_tup, evE_lst, evE_alc, evE_bin, evE_neg, evE_cmp, evE_chn, evE_andE, evE_orE, evE_notE, evE_ite, evE_idx, evE_slc, evE_rev, evE_call, evE_callv, evE_refu, evE_isx, evE_bi, evE_mth, evE_comp, evE_comp2, evEs_nil, evEs_cons, evOp_no, evOp_yes, evC_no, evC_yes, evI_seq, evI_rng, evI_enm, evI_zip, evI_lsq, evS_asg, evS_par, evS_unp, evS_setI, evS_app, evS_expr, evS_ret, evS_retN, evS_ite, evS_for_, evS_while_, evS_rais, evS_raiV, evS_tryH, evS_pass, evS_brk, evS_cont, evSs_nil, evSs_cons, getV_0, getV_s, n_R_bind_ok, n_R_bind_ex, n_R_nox_ok, n_R_of_some, n_R_refu_ok, n_R_refu_ex, n_asInt_int, n_asBl_bl, n_asStr_str, n_asLst_lst, n_asSq_lst, n_asSq_tup, n_asFn_fn, n_asO_some, n_gd_true, n_two_true, n_two_false, n_FR_ofR_ok, n_FR_ofR_ex, n_FR_ofO_some, n_FR_thn_nx, n_FR_thn_rt, n_FR_thn_ex, n_FR_thn_ct, n_FR_thn_bk, n_FR_turn_nx, n_FR_turn_ct, n_FR_turn_bk, n_FR_turn_rt, n_FR_turn_ex, n_FR_two_true, n_FR_two_false, n_FR_gd_true, List.getElem?_cons_zero, List.getElem?_cons_succ, List.set_cons_zero, List.set_cons_succ, List.map_cons, List.map_nil, List.all_cons, List.all_nil, Bool.and_true, Bool.true_and, Bool.and_false, Bool.false_and, Bool.not_true, Bool.not_false, view_non, view_bl, view_int, view_str, view_tup, view_lst, view_fn, view_scr, truth_bl, bin_addI, bin_subI, cmp_eqI, cmp_neI, cmp_eqS, cmp_neS, cmp_lt, cmp_le, cmp_gt, cmp_ge, cmp_inS, cmp_ninS, setTg_nm, setTg_tp, setTg_tq, setAll_nil, setAll_cons, wipe_nil, wipe_cons, noC_non, noC_bl, noC_int, noC_str, noC_tup, noC_lst, noC_ref, noC_fn, noC_scr, biV_len, biV_isInt, biV_isBool, biV_isStr, biV_isTuple, biV_int_, biV_bool_, biV_str_, biV_tuple_, biV_list_, biV_min2, biV_max2, biV_min1, biV_max1, biV_sum_, biV_all_, biV_any_, biV_abs_, len_S, len_T, len_L, len_R, int_I, tuple_L, tuple_T, list_L, list_T, Option.map_some, Option.map_none, items_S, items_T, items_L, idx_L, idx_T, idx_S, slc_L, slc_T, slc_S, isRf_ref, meV_join, meV_split, meV_repl, List.cons_append, List.nil_append, isInt_non, isInt_bl, isInt_int, isInt_str, isInt_tup, isInt_lst, isBool_non, isBool_bl, isBool_int, isBool_str, isBool_tup, isBool_lst, isStr_non, isStr_bl, isStr_int, isStr_str, isStr_tup, isStr_lst, isTuple_non, isTuple_bl, isTuple_int, isTuple_str, isTuple_tup, isTuple_lst, gl0, L10_0, ap, h1, h6, decide_true, decide_false]
    · have q1 : ¬ 1 ≤ p.length := by omega
      rw [bad (by rw [good_eq]; rw [decide_eq_false q1, Bool.false_and, Bool.false_and, Bool.false_and])]
      refine ⟨fun h => (by cases h), fun j h => ?_⟩
      cases h
      simp only [evE_var, evE_cint, evE_cstr, evE_cbl, evE_cnon, evE_gl, evE_fnv, evE_tup, evE_lst, evE_alc, evE_bin, evE_neg, evE_cmp, evE_chn, evE_andE, evE_orE, evE_notE, evE_ite, evE_idx, evE_slc, evE_rev, evE_call, evE_callv, evE_refu, evE_isx, evE_bi, evE_mth, evE_comp, evE_comp2, evEs_nil, evEs_cons, evOp_no, evOp_yes, evC_no, evC_yes, evI_seq, evI_rng, evI_enm, evI_zip, evI_lsq, evS_asg, evS_par, evS_unp, evS_setI, evS_app, evS_expr, evS_ret, evS_retN, evS_ite, evS_for_, evS_while_, evS_rais, evS_raiV, evS_tryH, evS_pass, evS_brk, evS_cont, evSs_nil, evSs_cons, getV_0, getV_s, n_R_bind_ok, n_R_bind_ex, n_R_nox_ok, n_R_of_some, n_R_refu_ok, n_R_refu_ex, n_asInt_int, n_asBl_bl, n_asStr_str, n_asLst_lst, n_asSq_lst, n_asSq_tup, n_asFn_fn, n_asO_some, n_gd_true, n_two_true, n_two_false, n_FR_ofR_ok, n_FR_ofR_ex, n_FR_ofO_some, n_FR_thn_nx, n_FR_thn_rt, n_FR_thn_ex, n_FR_thn_ct, n_FR_thn_bk, n_FR_turn_nx, n_FR_turn_ct, n_FR_turn_bk, n_FR_turn_rt, n_FR_turn_ex, n_FR_two_true, n_FR_two_false, n_FR_gd_true, List.getElem?_cons_zero, List.getElem?_cons_succ, List.set_cons_zero, List.set_cons_succ, List.map_cons, List.map_nil, List.all_cons, List.all_nil, Bool.and_true, Bool.true_and, Bool.and_false, Bool.false_and, Bool.not_true, Bool.not_false, view_non, view_bl, view_int, view_str, view_tup, view_lst, view_fn, view_scr, truth_bl, bin_addI, bin_subI, cmp_eqI, cmp_neI, cmp_eqS, cmp_neS, cmp_lt, cmp_le, cmp_gt, cmp_ge, cmp_inS, cmp_ninS, setTg_nm, setTg_tp, setTg_tq, setAll_nil, setAll_cons, wipe_nil, wipe_cons, noC_non, noC_bl, noC_int, noC_str, noC_tup, noC_lst, noC_ref, noC_fn, noC_scr, biV_len, biV_isInt, biV_isBool, biV_isStr, biV_isTuple, biV_int_, biV_bool_, biV_str_, biV_tuple_, biV_list_, biV_min2, biV_max2, biV_min1, biV_max1, biV_sum_, biV_all_, biV_any_, biV_abs_, len_S, len_T, len_L, len_R, int_I, tuple_L, tuple_T, list_L, list_T, Option.map_some, Option.map_none, items_S, items_T, items_L, idx_L, idx_T, idx_S, slc_L, slc_T, slc_S, isRf_ref, meV_join, meV_split, meV_repl, List.cons_append, List.nil_append, isInt_non, isInt_bl, isInt_int, isInt_str, isInt_tup, isInt_lst, isBool_non, isBool_bl, isBool_int, isBool_str, isBool_tup, isBool_lst, isStr_non, isStr_bl, isStr_int, isStr_str, isStr_tup, isStr_lst, isTuple_non, isTuple_bl, isTuple_int, isTuple_str, isTuple_tup, isTuple_lst, gl0, L10_0, ap, h1, decide_false]
theorem s_due (n : Nat) {s : List Nat} {S : Store} (hs : s.length ≤ 900) (hS : SOk S) : run pg (n + 2) (.fn 10) [.str s] S = .ok (rdD s) S := by
  rw [run10]
  have pl := parts_len s
  have lp := due_loop n (v := .str s) (parts_ne s) hS (parts s) 0 none none rfl
  unfold rdD rdE
  cases hb : badAt (len0 (parts s)) 0 (parts s) with
  | some j =>
    have g := lp.2 j hb
    simp only [evE_var, evE_cint, evE_cstr, evE_cbl, evE_cnon, evE_gl, evE_fnv, evE_tup, evE_lst, evE_alc, evE_bin, evE_neg, evE_cmp, evE_chn, evE_andE, evE_orE, evE_notE, evE_ite, evE_idx, evE_slc, evE_rev, evE_call, evE_callv, evE_refu, evE_isx, evE_bi, evE_mth, evE_comp, evE_comp2, evEs_nil, evEs_cons, evOp_no, evOp_yes, evC_no, evC_yes, evI_seq, evI_rng, evI_enm, evI_zip, evI_lsq, evS_asg, evS_par, evS_unp, evS_setI, evS_app, evS_expr, evS_ret, evS_retN, evS_ite, evS_for_, evS_while_, evS_rais, evS_raiV, evS_tryH, evS_pass, evS_brk, evS_cont, evSs_nil, evSs_cons, getV_0, getV_s, n_R_bind_ok, n_R_bind_ex, n_R_nox_ok, n_R_of_some, n_R_refu_ok, n_R_refu_ex, n_asInt_int, n_asBl_bl, n_asStr_str, n_asLst_lst, n_asSq_lst, n_asSq_tup, n_asFn_fn, n_asO_some, n_gd_true, n_two_true, n_two_false, n_FR_ofR_ok, n_FR_ofR_ex, n_FR_ofO_some, n_FR_thn_nx, n_FR_thn_rt, n_FR_thn_ex, n_FR_thn_ct, n_FR_thn_bk, n_FR_turn_nx, n_FR_turn_ct, n_FR_turn_bk, n_FR_turn_rt, n_FR_turn_ex, n_FR_two_true, n_FR_two_false, n_FR_gd_true, List.getElem?_cons_zero, List.getElem?_cons_succ, List.set_cons_zero, List.set_cons_succ, List.map_cons, List.map_nil, List.all_cons, List.all_nil, Bool.and_true, Bool.true_and, Bool.and_false, Bool.false_and, Bool.not_true, Bool.not_false, view_non, view_bl, view_int, view_str, view_tup, view_lst, view_fn, view_scr, truth_bl, bin_addI, bin_subI, cmp_eqI, cmp_neI, cmp_eqS, cmp_neS, cmp_lt, cmp_le, cmp_gt, cmp_ge, cmp_inS, cmp_ninS, setTg_nm, setTg_tp, setTg_tq, setAll_nil, setAll_cons, wipe_nil, wipe_cons, noC_non, noC_bl, noC_int, noC_str, noC_tup, noC_lst, noC_ref, noC_fn, noC_scr, biV_len, biV_isInt, biV_isBool, biV_isStr, biV_isTuple, biV_int_, biV_bool_, biV_str_, biV_tuple_, biV_list_, biV_min2, biV_max2, biV_min1, biV_max1, biV_sum_, biV_all_, biV_any_, biV_abs_, len_S, len_T, len_L, len_R, int_I, tuple_L, tuple_T, list_L, list_T, Option.map_some, Option.map_none, items_S, items_T, items_L, idx_L, idx_T, idx_S, slc_L, slc_T, slc_S, isRf_ref, meV_join, meV_split, meV_repl, List.cons_append, List.nil_append, isInt_non, isInt_bl, isInt_int, isInt_str, isInt_tup, isInt_lst, isBool_non, isBool_bl, isBool_int, isBool_str, isBool_tup, isBool_lst, isStr_non, isStr_bl, isStr_int, isStr_str, isStr_tup, isStr_lst, isTuple_non, isTuple_bl, isTuple_int, isTuple_str, isTuple_tup, isTuple_lst, gl0, B10, split_ok hs, List.length_map]
    rw [rng1 (by omega) (by omega)]
    simp only [evE_var, evE_cint, evE_cstr, evE_cbl, evE_cnon, evE_gl, evE_fnv, evE_tup, evE_lst, evE_alc, evE_bin, evE_neg, evE_cmp, evE_chn, evE_andE, evE_orE, evE_notE, evE_ite, evE_idx, evE_slc, evE_rev, evE_call, evE_callv, evE_refu, evE_isx, evE_bi, evE_mth, evE_comp, evE_comp2, evEs_nil, evEs_cons, evOp_no, evOp_yes, evC_no, evC_yes, evI_seq, evI_rng, evI_enm, evI_zip, evI_lsq, evS_asg, evS_par, evS_unp, evS_setI, evS_app, evS_expr, evS_ret, evS_retN, evS_ite, evS_for_, evS_while_, evS_rais, evS_raiV, evS_tryH, evS_pass, evS_brk, evS_cont, evSs_nil, evSs_cons, getV_0, getV_s, n_R_bind_ok, n_R_bind_ex, n_R_nox_ok, n_R_of_some, n_R_refu_ok, n_R_refu_ex, n_asInt_int, n_asBl_bl, n_asStr_str, n_asLst_lst, n_asSq_lst, n_asSq_tup, n_asFn_fn, n_asO_some, n_gd_true, n_two_true, n_two_false, n_FR_ofR_ok, n_FR_ofR_ex, n_FR_ofO_some, n_FR_thn_nx, n_FR_thn_rt, n_FR_thn_ex, n_FR_thn_ct, n_FR_thn_bk, n_FR_turn_nx, n_FR_turn_ct, n_FR_turn_bk, n_FR_turn_rt, n_FR_turn_ex, n_FR_two_true, n_FR_two_false, n_FR_gd_true, List.getElem?_cons_zero, List.getElem?_cons_succ, List.set_cons_zero, List.set_cons_succ, List.map_cons, List.map_nil, List.all_cons, List.all_nil, Bool.and_true, Bool.true_and, Bool.and_false, Bool.false_and, Bool.not_true, Bool.not_false, view_non, view_bl, view_int, view_str, view_tup, view_lst, view_fn, view_scr, truth_bl, bin_addI, bin_subI, cmp_eqI, cmp_neI, cmp_eqS, cmp_neS, cmp_lt, cmp_le, cmp_gt, cmp_ge, cmp_inS, cmp_ninS, setTg_nm, setTg_tp, setTg_tq, setAll_nil, setAll_cons, wipe_nil, wipe_cons, noC_non, noC_bl, noC_int, noC_str, noC_tup, noC_lst, noC_ref, noC_fn, noC_scr, biV_len, biV_isInt, biV_isBool, biV_isStr, biV_isTuple, biV_int_, biV_bool_, biV_str_, biV_tuple_, biV_list_, biV_min2, biV_max2, biV_min1, biV_max1, biV_sum_, biV_all_, biV_any_, biV_abs_, len_S, len_T, len_L, len_R, int_I, tuple_L, tuple_T, list_L, list_T, Option.map_some, Option.map_none, items_S, items_T, items_L, idx_L, idx_T, idx_S, slc_L, slc_T, slc_S, isRf_ref, meV_join, meV_split, meV_repl, List.cons_append, List.nil_append, isInt_non, isInt_bl, isInt_int, isInt_str, isInt_tup, isInt_lst, isBool_non, isBool_bl, isBool_int, isBool_str, isBool_tup, isBool_lst, isStr_non, isStr_bl, isStr_int, isStr_str, isStr_tup, isStr_lst, isTuple_non, isTuple_bl, isTuple_int, isTuple_str, isTuple_tup, isTuple_lst, gl0, Int.toNat_natCast]
    rw [show ((0 : Nat) : Int) = 0 from rfl] at g
    rw [g]
    exact ofFR_rt (by rfl) hS
  | none =>
    obtain ⟨x', y', g⟩ := lp.1 hb
    rw [show ((0 : Nat) : Int) = 0 from rfl] at g
    simp only [evE_var, evE_cint, evE_cstr, evE_cbl, evE_cnon, evE_gl, evE_fnv, evE_tup, evE_lst, evE_alc, evE_bin, evE_neg, evE_cmp, evE_chn, evE_andE, evE_orE, evE_notE, evE_ite, evE_idx, evE_slc, evE_rev, evE_call, evE_callv, evE_refu, evE_isx, evE_bi, evE_mth, evE_comp, evE_comp2, evEs_nil, evEs_cons, evOp_no, evOp_yes, evC_no, evC_yes, evI_seq, evI_rng, evI_enm, evI_zip, evI_lsq, evS_asg, evS_par, evS_unp, evS_setI, evS_app, evS_expr, evS_ret, evS_retN, evS_ite, evS_for_, evS_while_, evS_rais, evS_raiV, evS_tryH, evS_pass, evS_brk, evS_cont, evSs_nil, evSs_cons, getV_0, getV_s, n_R_bind_ok, n_R_bind_ex, n_R_nox_ok, n_R_of_some, n_R_refu_ok, n_R_refu_ex, n_asInt_int, n_asBl_bl, n_asStr_str, n_asLst_lst, n_asSq_lst, n_asSq_tup, n_asFn_fn, n_asO_some, n_gd_true, n_two_true, n_two_false, n_FR_ofR_ok, n_FR_ofR_ex, n_FR_ofO_some, n_FR_thn_nx, n_FR_thn_rt, n_FR_thn_ex, n_FR_thn_ct, n_FR_thn_bk, n_FR_turn_nx, n_FR_turn_ct, n_FR_turn_bk, n_FR_turn_rt, n_FR_turn_ex, n_FR_two_true, n_FR_two_false, n_FR_gd_true, List.getElem?_cons_zero, List.getElem?_cons_succ, List.set_cons_zero, List.set_cons_succ, List.map_cons, List.map_nil, List.all_cons, List.all_nil, Bool.and_true, Bool.true_and, Bool.and_false, Bool.false_and, Bool.not_true, Bool.not_false, view_non, view_bl, view_int, view_str, view_tup, view_lst, view_fn, view_scr, truth_bl, bin_addI, bin_subI, cmp_eqI, cmp_neI, cmp_eqS, cmp_neS, cmp_lt, cmp_le, cmp_gt, cmp_ge, cmp_inS, cmp_ninS, setTg_nm, setTg_tp, setTg_tq, setAll_nil, setAll_cons, wipe_nil, wipe_cons, noC_non, noC_bl, noC_int, noC_str, noC_tup, noC_lst, noC_ref, noC_fn, noC_scr, biV_len, biV_isInt, biV_isBool, biV_isStr, biV_isTuple, biV_int_, biV_bool_, biV_str_, biV_tuple_, biV_list_, biV_min2, biV_max2, biV_min1, biV_max1, biV_sum_, biV_all_, biV_any_, biV_abs_, len_S, len_T, len_L, len_R, int_I, tuple_L, tuple_T, list_L, list_T, Option.map_some, Option.map_none, items_S, items_T, items_L, idx_L, idx_T, idx_S, slc_L, slc_T, slc_S, isRf_ref, meV_join, meV_split, meV_repl, List.cons_append, List.nil_append, isInt_non, isInt_bl, isInt_int, isInt_str, isInt_tup, isInt_lst, isBool_non, isBool_bl, isBool_int, isBool_str, isBool_tup, isBool_lst, isStr_non, isStr_bl, isStr_int, isStr_str, isStr_tup, isStr_lst, isTuple_non, isTuple_bl, isTuple_int, isTuple_str, isTuple_tup, isTuple_lst, gl0, B10, split_ok hs, List.length_map]
    rw [rng1 (by omega) (by omega)]
    simp only [evE_var, evE_cint, evE_cstr, evE_cbl, evE_cnon, evE_gl, evE_fnv, evE_tup, evE_lst, evE_alc, evE_bin, evE_neg, evE_cmp, evE_chn, evE_andE, evE_orE, evE_notE, evE_ite, evE_idx, evE_slc, evE_rev, evE_call, evE_callv, evE_refu, evE_isx, evE_bi, evE_mth, evE_comp, evE_comp2, evEs_nil, evEs_cons, evOp_no, evOp_yes, evC_no, evC_yes, evI_seq, evI_rng, evI_enm, evI_zip, evI_lsq, evS_asg, evS_par, evS_unp, evS_setI, evS_app, evS_expr, evS_ret, evS_retN, evS_ite, evS_for_, evS_while_, evS_rais, evS_raiV, evS_tryH, evS_pass, evS_brk, evS_cont, evSs_nil, evSs_cons, getV_0, getV_s, n_R_bind_ok, n_R_bind_ex, n_R_nox_ok, n_R_of_some, n_R_refu_ok, n_R_refu_ex, n_asInt_int, n_asBl_bl, n_asStr_str, n_asLst_lst, n_asSq_lst, n_asSq_tup, n_asFn_fn, n_asO_some, n_gd_true, n_two_true, n_two_false, n_FR_ofR_ok, n_FR_ofR_ex, n_FR_ofO_some, n_FR_thn_nx, n_FR_thn_rt, n_FR_thn_ex, n_FR_thn_ct, n_FR_thn_bk, n_FR_turn_nx, n_FR_turn_ct, n_FR_turn_bk, n_FR_turn_rt, n_FR_turn_ex, n_FR_two_true, n_FR_two_false, n_FR_gd_true, List.getElem?_cons_zero, List.getElem?_cons_succ, List.set_cons_zero, List.set_cons_succ, List.map_cons, List.map_nil, List.all_cons, List.all_nil, Bool.and_true, Bool.true_and, Bool.and_false, Bool.false_and, Bool.not_true, Bool.not_false, view_non, view_bl, view_int, view_str, view_tup, view_lst, view_fn, view_scr, truth_bl, bin_addI, bin_subI, cmp_eqI, cmp_neI, cmp_eqS, cmp_neS, cmp_lt, cmp_le, cmp_gt, cmp_ge, cmp_inS, cmp_ninS, setTg_nm, setTg_tp, setTg_tq, setAll_nil, setAll_cons, wipe_nil, wipe_cons, noC_non, noC_bl, noC_int, noC_str, noC_tup, noC_lst, noC_ref, noC_fn, noC_scr, biV_len, biV_isInt, biV_isBool, biV_isStr, biV_isTuple, biV_int_, biV_bool_, biV_str_, biV_tuple_, biV_list_, biV_min2, biV_max2, biV_min1, biV_max1, biV_sum_, biV_all_, biV_any_, biV_abs_, len_S, len_T, len_L, len_R, int_I, tuple_L, tuple_T, list_L, list_T, Option.map_some, Option.map_none, items_S, items_T, items_L, idx_L, idx_T, idx_S, slc_L, slc_T, slc_S, isRf_ref, meV_join, meV_split, meV_repl, List.cons_append, List.nil_append, isInt_non, isInt_bl, isInt_int, isInt_str, isInt_tup, isInt_lst, isBool_non, isBool_bl, isBool_int, isBool_str, isBool_tup, isBool_lst, isStr_non, isStr_bl, isStr_int, isStr_str, isStr_tup, isStr_lst, isTuple_non, isTuple_bl, isTuple_int, isTuple_str, isTuple_tup, isTuple_lst, gl0, Int.toNat_natCast, g]
    by_cases h6 : (parts s).length ≤ 6
    · have h6' : ((parts s).length : Int) < 7 := by omega
      simp only [evE_var, evE_cint, evE_cstr, evE_cbl, evE_cnon, evE_gl, evE_fnv, evE_tup, evE_lst, evE_alc, evE_bin, evE_neg, evE_cmp, evE_chn, evE_andE, evE_orE, evE_notE, evE_ite, evE_idx, evE_slc, evE_rev, evE_call, evE_callv, evE_refu, evE_isx, evE_bi, evE_mth, evE_comp, evE_comp2, evEs_nil, evEs_cons, evOp_no, evOp_yes, evC_no, evC_yes, evI_seq, evI_rng, evI_enm, evI_zip, evI_lsq, evS_asg, evS_par, evS_unp, evS_setI, evS_app, evS_expr, evS_ret, evS_retN, evS_ite, evS_for_, evS_while_, evS_rais, evS_raiV, evS_tryH, evS_pass, evS_brk, evS_cont, evSs_nil, evSs_cons, getV_0, getV_s, n_R_bind_ok, n_R_bind_ex, n_R_nox_ok, n_R_of_some, n_R_refu_ok, n_R_refu_ex, n_asInt_int, n_asBl_bl, n_asStr_str, n_asLst_lst, n_asSq_lst, n_asSq_tup, n_asFn_fn, n_asO_some, n_gd_true, n_two_true, n_two_false, n_FR_ofR_ok, n_FR_ofR_ex, n_FR_ofO_some, n_FR_thn_nx, n_FR_thn_rt, n_FR_thn_ex, n_FR_thn_ct, n_FR_thn_bk, n_FR_turn_nx, n_FR_turn_ct, n_FR_turn_bk, n_FR_turn_rt, n_FR_turn_ex, n_FR_two_true, n_FR_two_false, n_FR_gd_true, List.getElem?_cons_zero, List.getElem?_cons_succ, List.set_cons_zero, List.set_cons_succ, List.map_cons, List.map_nil, List.all_cons, List.all_nil, Bool.and_true, Bool.true_and, Bool.and_false, Bool.false_and, Bool.not_true, Bool.not_false, view_non, view_bl, view_int, view_str, view_tup, view_lst, view_fn, view_scr, truth_bl, bin_addI, bin_subI, cmp_eqI, cmp_neI, cmp_eqS, cmp_neS, cmp_lt, cmp_le, cmp_gt, cmp_ge, cmp_inS, cmp_ninS, setTg_nm, setTg_tp, setTg_tq, setAll_nil, setAll_cons, wipe_nil, wipe_cons, noC_non, noC_bl, noC_int, noC_str, noC_tup, noC_lst, noC_ref, noC_fn, noC_scr, biV_len, biV_isInt, biV_isBool, biV_isStr, biV_isTuple, biV_int_, biV_bool_, biV_str_, biV_tuple_, biV_list_, biV_min2, biV_max2, biV_min1, biV_max1, biV_sum_, biV_all_, biV_any_, biV_abs_, len_S, len_T, len_L, len_R, int_I, tuple_L, tuple_T, list_L, list_T, Option.map_some, Option.map_none, items_S, items_T, items_L, idx_L, idx_T, idx_S, slc_L, slc_T, slc_S, isRf_ref, meV_join, meV_split, meV_repl, List.cons_append, List.nil_append, isInt_non, isInt_bl, isInt_int, isInt_str, isInt_tup, isInt_lst, isBool_non, isBool_bl, isBool_int, isBool_str, isBool_tup, isBool_lst, isStr_non, isStr_bl, isStr_int, isStr_str, isStr_tup, isStr_lst, isTuple_non, isTuple_bl, isTuple_int, isTuple_str, isTuple_tup, isTuple_lst, gl0, List.length_map, h6', decide_true, if_pos h6]
      exact ofFR_rt (tl_low _) hS
    · have h6' : ¬ ((parts s).length : Int) < 7 := by omega
      simp only [evE_var, evE_cint, evE_cstr, evE_cbl, evE_cnon, evE_gl, evE_fnv, evE_tup, evE_lst, evE_alc, evE_bin, evE_neg, evE_cmp, evE_chn, evE_andE, evE_orE, evE_notE, evE_ite, evE_idx, evE_slc, evE_rev, evE_call, evE_callv, evE_refu, evE_isx, evE_bi, evE_mth, evE_comp, evE_comp2, evEs_nil, evEs_cons, evOp_no, evOp_yes, evC_no, evC_yes, evI_seq, evI_rng, evI_enm, evI_zip, evI_lsq, evS_asg, evS_par, evS_unp, evS_setI, evS_app, evS_expr, evS_ret, evS_retN, evS_ite, evS_for_, evS_while_, evS_rais, evS_raiV, evS_tryH, evS_pass, evS_brk, evS_cont, evSs_nil, evSs_cons, getV_0, getV_s, n_R_bind_ok, n_R_bind_ex, n_R_nox_ok, n_R_of_some, n_R_refu_ok, n_R_refu_ex, n_asInt_int, n_asBl_bl, n_asStr_str, n_asLst_lst, n_asSq_lst, n_asSq_tup, n_asFn_fn, n_asO_some, n_gd_true, n_two_true, n_two_false, n_FR_ofR_ok, n_FR_ofR_ex, n_FR_ofO_some, n_FR_thn_nx, n_FR_thn_rt, n_FR_thn_ex, n_FR_thn_ct, n_FR_thn_bk, n_FR_turn_nx, n_FR_turn_ct, n_FR_turn_bk, n_FR_turn_rt, n_FR_turn_ex, n_FR_two_true, n_FR_two_false, n_FR_gd_true, List.getElem?_cons_zero, List.getElem?_cons_succ, List.set_cons_zero, List.set_cons_succ, List.map_cons, List.map_nil, List.all_cons, List.all_nil, Bool.and_true, Bool.true_and, Bool.and_false, Bool.false_and, Bool.not_true, Bool.not_false, view_non, view_bl, view_int, view_str, view_tup, view_lst, view_fn, view_scr, truth_bl, bin_addI, bin_subI, cmp_eqI, cmp_neI, cmp_eqS, cmp_neS, cmp_lt, cmp_le, cmp_gt, cmp_ge, cmp_inS, cmp_ninS, setTg_nm, setTg_tp, setTg_tq, setAll_nil, setAll_cons, wipe_nil, wipe_cons, noC_non, noC_bl, noC_int, noC_str, noC_tup, noC_lst, noC_ref, noC_fn, noC_scr, biV_len, biV_isInt, biV_isBool, biV_isStr, biV_isTuple, biV_int_, biV_bool_, biV_str_, biV_tuple_, biV_list_, biV_min2, biV_max2, biV_min1, biV_max1, biV_sum_, biV_all_, biV_any_, biV_abs_, len_S, len_T, len_L, len_R, int_I, tuple_L, tuple_T, list_L, list_T, Option.map_some, Option.map_none, items_S, items_T, items_L, idx_L, idx_T, idx_S, slc_L, slc_T, slc_S, isRf_ref, meV_join, meV_split, meV_repl, List.cons_append, List.nil_append, isInt_non, isInt_bl, isInt_int, isInt_str, isInt_tup, isInt_lst, isBool_non, isBool_bl, isBool_int, isBool_str, isBool_tup, isBool_lst, isStr_non, isStr_bl, isStr_int, isStr_str, isStr_tup, isStr_lst, isTuple_non, isTuple_bl, isTuple_int, isTuple_str, isTuple_tup, isTuple_lst, gl0, List.length_map, h6', decide_false, if_neg h6]
      exact ofFR_rt (by rfl) hS
/-! ### texts of tiles -/
def txt (ts : List (List Nat)) : List Nat := join [47] ts
theorem strs_str : ∀ ts : List (List Nat), D.strs (ts.map D.str) = some ts
  | [] => rfl
  | t :: ts => by
    show (D.strs (ts.map D.str)).map (t :: ·) = _
    rw [strs_str ts]
    rfl
theorem joinOk_of {ss : List (List Nat)} (h : (ss.map fun p => p.length + 1).sum ≤ 1000) : joinOk [47] ss = true := by
  have h3 : ∀ ps : List (List Nat), ps.length ≤ (ps.map fun p => p.length + 1).sum ∧ ∀ p ∈ ps, p.length ≤ (ps.map fun p => p.length + 1).sum := by
    intro ps
    induction ps with
    | nil => simp
    | cons q ps ih =>
      obtain ⟨i1, i2⟩ := ih
      simp only [List.length_cons, List.map_cons, List.sum_cons]
      refine ⟨by omega, fun p hp => ?_⟩
      rcases List.mem_cons.mp hp with rfl | hp
      · omega
      · have := i2 p hp
        omega
  obtain ⟨h1, h2⟩ := h3 ss
  unfold joinOk
  rw [decide_eq_true (show [47].length ≤ 1000 by decide), decide_eq_true (show ss.length ≤ 1000 by omega)]
  simp only [Bool.true_and, List.all_eq_true, decide_eq_true_eq]
  intro t ht
  have := h2 t ht
  omega
theorem join_len : ∀ ss : List (List Nat), (join [47] ss).length ≤ (ss.map fun p => p.length + 1).sum
  | [] => by simp [join]
  | [a] => by simp [join]
  | a :: b :: r => by
    have ih := join_len (b :: r)
    show (a ++ [47] ++ join [47] (b :: r)).length ≤ _
    simp only [List.length_append, List.length_cons, List.length_nil, List.map_cons, List.sum_cons] at ih ⊢
    omega
theorem joinT {ts : List (List Nat)} (h : (ts.map fun p => p.length + 1).sum ≤ 1000) : meJoin (.str [47]) [.tup (ts.map D.str)] = some (.str (txt ts)) := by
  show (match D.strs (ts.map D.str) with
    | some ss => if joinOk [47] ss then some (D.str (join [47] ss)) else none
    | none => none) = _
  rw [strs_str]
  show (if joinOk [47] ts then some (D.str (join [47] ts)) else none) = _
  rw [joinOk_of h]
  rfl
theorem joinL {ts : List (List Nat)} (h : (ts.map fun p => p.length + 1).sum ≤ 1000) : meJoin (.str [47]) [.lst (ts.map D.str)] = some (.str (txt ts)) := by
  show (match D.strs (ts.map D.str) with
    | some ss => if joinOk [47] ss then some (D.str (join [47] ss)) else none
    | none => none) = _
  rw [strs_str]
  show (if joinOk [47] ts then some (D.str (join [47] ts)) else none) = _
  rw [joinOk_of h]
  rfl
theorem sum_eq {C : Nat} : ∀ ts : List (List Nat), (∀ s ∈ ts, s.length = C) → (ts.map fun p => p.length + 1).sum = ts.length * (C + 1)
  | [], _ => by simp
  | t :: ts, h => by
    rw [List.map_cons, List.sum_cons, sum_eq ts fun s hs => h s (by simp [hs]), h t (by simp), List.length_cons, Nat.succ_mul]
    omega
theorem tile_sum {C : Nat} {ts : List (List Nat)} (t : TileOk C ts) : (ts.map fun p => p.length + 1).sum ≤ 42 := by
  rw [sum_eq ts t.len]
  have := Nat.mul_le_mul t.r6 (show C + 1 ≤ 7 by have := t.c6; omega)
  omega
theorem txt_len {C : Nat} {ts : List (List Nat)} (t : TileOk C ts) : (txt ts).length ≤ 42 := Nat.le_trans (join_len ts) (tile_sum t)
theorem s_tile_text (n : Nat) {C : Nat} {ts : List (List Nat)} {S : Store} (t : TileOk C ts) (hS : SOk S) : run pg (n + 4) (.fn 4) [tl ts] S = .ok (.str (txt ts)) S := by
  have e : run pg (n + 3) (.fn 3) [tl ts] S = .ok (.str (txt ts)) S := by
    rw [run3]
    have := tile_sum t
    simp only [evE_var, evE_cint, evE_cstr, evE_cbl, evE_cnon, evE_gl, evE_fnv, evE_tup, evE_lst, evE_alc, evE_bin, evE_neg, evE_cmp, evE_chn, evE_andE, evE_orE, evE_notE, evE_ite, evE_idx, evE_slc, evE_rev, evE_call, evE_callv, evE_refu, evE_isx, evE_bi, evE_mth, evE_comp, evE_comp2, evEs_nil, evEs_cons, evOp_no, evOp_yes, evC_no, evC_yes, evI_seq, evI_rng, evI_enm, evI_zip, evI_lsq, evS_asg, evS_par, evS_unp, evS_setI, evS_app, evS_expr, evS_ret, evS_retN, evS_ite, evS_for_, evS_while_, evS_rais, evS_raiV, evS_tryH, evS_pass, evS_brk, evS_cont, evSs_nil, evSs_cons, getV_0, getV_s, n_R_bind_ok, n_R_bind_ex, n_R_nox_ok, n_R_of_some, n_R_refu_ok, n_R_refu_ex, n_asInt_int, n_asBl_bl, n_asStr_str, n_asLst_lst, n_asSq_lst, n_asSq_tup, n_asFn_fn, n_asO_some, n_gd_true, n_two_true, n_two_false, n_FR_ofR_ok, n_FR_ofR_ex, n_FR_ofO_some, n_FR_thn_nx, n_FR_thn_rt, n_FR_thn_ex, n_FR_thn_ct, n_FR_thn_bk, n_FR_turn_nx, n_FR_turn_ct, n_FR_turn_bk, n_FR_turn_rt, n_FR_turn_ex, n_FR_two_true, n_FR_two_false, n_FR_gd_true, List.getElem?_cons_zero, List.getElem?_cons_succ, List.set_cons_zero, List.set_cons_succ, List.map_cons, List.map_nil, List.all_cons, List.all_nil, Bool.and_true, Bool.true_and, Bool.and_false, Bool.false_and, Bool.not_true, Bool.not_false, view_non, view_bl, view_int, view_str, view_tup, view_lst, view_fn, view_scr, truth_bl, bin_addI, bin_subI, cmp_eqI, cmp_neI, cmp_eqS, cmp_neS, cmp_lt, cmp_le, cmp_gt, cmp_ge, cmp_inS, cmp_ninS, setTg_nm, setTg_tp, setTg_tq, setAll_nil, setAll_cons, wipe_nil, wipe_cons, noC_non, noC_bl, noC_int, noC_str, noC_tup, noC_lst, noC_ref, noC_fn, noC_scr, biV_len, biV_isInt, biV_isBool, biV_isStr, biV_isTuple, biV_int_, biV_bool_, biV_str_, biV_tuple_, biV_list_, biV_min2, biV_max2, biV_min1, biV_max1, biV_sum_, biV_all_, biV_any_, biV_abs_, len_S, len_T, len_L, len_R, int_I, tuple_L, tuple_T, list_L, list_T, Option.map_some, Option.map_none, items_S, items_T, items_L, idx_L, idx_T, idx_S, slc_L, slc_T, slc_S, isRf_ref, meV_join, meV_split, meV_repl, List.cons_append, List.nil_append, isInt_non, isInt_bl, isInt_int, isInt_str, isInt_tup, isInt_lst, isBool_non, isBool_bl, isBool_int, isBool_str, isBool_tup, isBool_lst, isStr_non, isStr_bl, isStr_int, isStr_str, isStr_tup, isStr_lst, isTuple_non, isTuple_bl, isTuple_int, isTuple_str, isTuple_tup, isTuple_lst, gl0, B3, joinT (ts := ts) (by omega)]
    exact ofFR_rt (by rfl) hS
  rw [run4]
  simp only [evE_var, evE_cint, evE_cstr, evE_cbl, evE_cnon, evE_gl, evE_fnv, evE_tup, evE_lst, evE_alc, evE_bin, evE_neg, evE_cmp, evE_chn, evE_andE, evE_orE, evE_notE, evE_ite, evE_idx, evE_slc, evE_rev, evE_call, evE_callv, evE_refu, evE_isx, evE_bi, evE_mth, evE_comp, evE_comp2, evEs_nil, evEs_cons, evOp_no, evOp_yes, evC_no, evC_yes, evI_seq, evI_rng, evI_enm, evI_zip, evI_lsq, evS_asg, evS_par, evS_unp, evS_setI, evS_app, evS_expr, evS_ret, evS_retN, evS_ite, evS_for_, evS_while_, evS_rais, evS_raiV, evS_tryH, evS_pass, evS_brk, evS_cont, evSs_nil, evSs_cons, getV_0, getV_s, n_R_bind_ok, n_R_bind_ex, n_R_nox_ok, n_R_of_some, n_R_refu_ok, n_R_refu_ex, n_asInt_int, n_asBl_bl, n_asStr_str, n_asLst_lst, n_asSq_lst, n_asSq_tup, n_asFn_fn, n_asO_some, n_gd_true, n_two_true, n_two_false, n_FR_ofR_ok, n_FR_ofR_ex, n_FR_ofO_some, n_FR_thn_nx, n_FR_thn_rt, n_FR_thn_ex, n_FR_thn_ct, n_FR_thn_bk, n_FR_turn_nx, n_FR_turn_ct, n_FR_turn_bk, n_FR_turn_rt, n_FR_turn_ex, n_FR_two_true, n_FR_two_false, n_FR_gd_true, List.getElem?_cons_zero, List.getElem?_cons_succ, List.set_cons_zero, List.set_cons_succ, List.map_cons, List.map_nil, List.all_cons, List.all_nil, Bool.and_true, Bool.true_and, Bool.and_false, Bool.false_and, Bool.not_true, Bool.not_false, view_non, view_bl, view_int, view_str, view_tup, view_lst, view_fn, view_scr, truth_bl, bin_addI, bin_subI, cmp_eqI, cmp_neI, cmp_eqS, cmp_neS, cmp_lt, cmp_le, cmp_gt, cmp_ge, cmp_inS, cmp_ninS, setTg_nm, setTg_tp, setTg_tq, setAll_nil, setAll_cons, wipe_nil, wipe_cons, noC_non, noC_bl, noC_int, noC_str, noC_tup, noC_lst, noC_ref, noC_fn, noC_scr, biV_len, biV_isInt, biV_isBool, biV_isStr, biV_isTuple, biV_int_, biV_bool_, biV_str_, biV_tuple_, biV_list_, biV_min2, biV_max2, biV_min1, biV_max1, biV_sum_, biV_all_, biV_any_, biV_abs_, len_S, len_T, len_L, len_R, int_I, tuple_L, tuple_T, list_L, list_T, Option.map_some, Option.map_none, items_S, items_T, items_L, idx_L, idx_T, idx_S, slc_L, slc_T, slc_S, isRf_ref, meV_join, meV_split, meV_repl, List.cons_append, List.nil_append, isInt_non, isInt_bl, isInt_int, isInt_str, isInt_tup, isInt_lst, isBool_non, isBool_bl, isBool_int, isBool_str, isBool_tup, isBool_lst, isStr_non, isStr_bl, isStr_int, isStr_str, isStr_tup, isStr_lst, isTuple_non, isTuple_bl, isTuple_int, isTuple_str, isTuple_tup, isTuple_lst, gl0, B4, s_need_tile n (tl_plain ts 0) hS, tl_right t, e]
  exact ofFR_rt (by rfl) hS
theorem s_tile_textN (n : Nat) {v : D} {k : Nat} {S : Store} (hv : v.plain k = true) (h : isRight v = false) (hS : SOk S) : run pg (n + 4) (.fn 4) [v] S = .ex 0 .non S := by
  rw [run4]
  simp only [evE_var, evE_cint, evE_cstr, evE_cbl, evE_cnon, evE_gl, evE_fnv, evE_tup, evE_lst, evE_alc, evE_bin, evE_neg, evE_cmp, evE_chn, evE_andE, evE_orE, evE_notE, evE_ite, evE_idx, evE_slc, evE_rev, evE_call, evE_callv, evE_refu, evE_isx, evE_bi, evE_mth, evE_comp, evE_comp2, evEs_nil, evEs_cons, evOp_no, evOp_yes, evC_no, evC_yes, evI_seq, evI_rng, evI_enm, evI_zip, evI_lsq, evS_asg, evS_par, evS_unp, evS_setI, evS_app, evS_expr, evS_ret, evS_retN, evS_ite, evS_for_, evS_while_, evS_rais, evS_raiV, evS_tryH, evS_pass, evS_brk, evS_cont, evSs_nil, evSs_cons, getV_0, getV_s, n_R_bind_ok, n_R_bind_ex, n_R_nox_ok, n_R_of_some, n_R_refu_ok, n_R_refu_ex, n_asInt_int, n_asBl_bl, n_asStr_str, n_asLst_lst, n_asSq_lst, n_asSq_tup, n_asFn_fn, n_asO_some, n_gd_true, n_two_true, n_two_false, n_FR_ofR_ok, n_FR_ofR_ex, n_FR_ofO_some, n_FR_thn_nx, n_FR_thn_rt, n_FR_thn_ex, n_FR_thn_ct, n_FR_thn_bk, n_FR_turn_nx, n_FR_turn_ct, n_FR_turn_bk, n_FR_turn_rt, n_FR_turn_ex, n_FR_two_true, n_FR_two_false, n_FR_gd_true, List.getElem?_cons_zero, List.getElem?_cons_succ, List.set_cons_zero, List.set_cons_succ, List.map_cons, List.map_nil, List.all_cons, List.all_nil, Bool.and_true, Bool.true_and, Bool.and_false, Bool.false_and, Bool.not_true, Bool.not_false, view_non, view_bl, view_int, view_str, view_tup, view_lst, view_fn, view_scr, truth_bl, bin_addI, bin_subI, cmp_eqI, cmp_neI, cmp_eqS, cmp_neS, cmp_lt, cmp_le, cmp_gt, cmp_ge, cmp_inS, cmp_ninS, setTg_nm, setTg_tp, setTg_tq, setAll_nil, setAll_cons, wipe_nil, wipe_cons, noC_non, noC_bl, noC_int, noC_str, noC_tup, noC_lst, noC_ref, noC_fn, noC_scr, biV_len, biV_isInt, biV_isBool, biV_isStr, biV_isTuple, biV_int_, biV_bool_, biV_str_, biV_tuple_, biV_list_, biV_min2, biV_max2, biV_min1, biV_max1, biV_sum_, biV_all_, biV_any_, biV_abs_, len_S, len_T, len_L, len_R, int_I, tuple_L, tuple_T, list_L, list_T, Option.map_some, Option.map_none, items_S, items_T, items_L, idx_L, idx_T, idx_S, slc_L, slc_T, slc_S, isRf_ref, meV_join, meV_split, meV_repl, List.cons_append, List.nil_append, isInt_non, isInt_bl, isInt_int, isInt_str, isInt_tup, isInt_lst, isBool_non, isBool_bl, isBool_int, isBool_str, isBool_tup, isBool_lst, isStr_non, isStr_bl, isStr_int, isStr_str, isStr_tup, isStr_lst, isTuple_non, isTuple_bl, isTuple_int, isTuple_str, isTuple_tup, isTuple_lst, gl0, B4, s_need_tile n hv hS, h]
  exact ofFR_ex (by rfl) hS
/-! ### a tile's text read -/
theorem split_app (c : Nat) : ∀ (s acc r : List Nat), c ∉ s → split1 c acc (s ++ r) = split1 c (acc ++ s) r
  | [], acc, r, _ => by simp
  | x :: s, acc, r, h => by
    have hx : x ≠ c := fun z => h (by simp [z])
    show split1 c acc (x :: (s ++ r)) = _
    simp only [split1, if_neg hx]
    rw [split_app c s (acc ++ [x]) r (fun z => h (by simp [z]))]
    simp
theorem split_join : ∀ ts : List (List Nat), ts ≠ [] → (∀ s ∈ ts, 47 ∉ s) → parts (txt ts) = ts
  | [], h, _ => absurd rfl h
  | [a], _, h => by
    have := split_app 47 a [] [] (h a (by simp))
    rw [List.append_nil, List.nil_append] at this
    show split1 47 [] a = [a]
    rw [this]
    rfl
  | a :: b :: r, _, h => by
    have ih := split_join (b :: r) (by simp) fun s hs => h s (by simp [hs])
    have := split_app 47 a [] ([47] ++ txt (b :: r)) (h a (by simp))
    show split1 47 [] (a ++ [47] ++ txt (b :: r)) = _
    rw [List.append_assoc, this, List.nil_append]
    show (if 47 = 47 then a :: split1 47 [] (txt (b :: r)) else _) = _
    rw [if_pos rfl]
    exact congrArg (a :: ·) ih
theorem rd_tile {C : Nat} {ts : List (List Nat)} (t : TileOk C ts) : rdD (txt ts) = tl ts := by
  have hne : ts ≠ [] := fun z => by
    have := t.r1
    rw [z] at this
    simp at this
  have hp : parts (txt ts) = ts := split_join ts hne fun s hs z => by
    have := List.all_eq_true.mp (t.sg s hs) 47 z
    simp [sgn] at this
  have hl : len0 ts = C := by
    cases ts with
    | nil => exact absurd rfl hne
    | cons a r => exact t.len a (by simp)
  have hb : badAt (len0 ts) 0 ts = none := badAt_none _ _ _ fun p hpp => by
    have l := t.len p hpp
    have c1 := t.c1
    have c6 := t.c6
    rw [good_eq]
    rw [t.sg p hpp, decide_eq_true (show p.length = len0 ts by omega), decide_eq_true (show 1 ≤ p.length by omega), decide_eq_true (show p.length ≤ 6 by omega)]
    rfl
  unfold rdD rdE
  rw [hp, hb]
  show (match (if ts.length ≤ 6 then none else some (7 : Int)) with
    | some i => D.int i
    | none => tl ts) = _
  rw [if_pos t.r6]
end My
set_option Elab.async false
set_option linter.all false
set_option maxRecDepth 100000
set_option maxHeartbeats 2000000
namespace My
open Rx
/-! ### a text with something otherwise -/
theorem sub_sum {a b : List (List Nat)} (h : a.Sublist b) : (a.map fun p => p.length + 1).sum ≤ (b.map fun p => p.length + 1).sum := by
  induction h with
  | slnil => exact Nat.le_refl _
  | cons x _ ih => simp only [List.map_cons, List.sum_cons]; omega
  | cons_cons x _ ih => simp only [List.map_cons, List.sum_cons]; omega
theorem cut_map (xs : List (List Nat)) (lo hi : Option Int) : cut (xs.map D.str) lo hi = (cut xs lo hi).map D.str := by
  unfold cut
  rw [List.length_map, List.map_take, List.map_drop]
theorem cut_sub (xs : List (List Nat)) (lo hi : Option Int) : (cut xs lo hi).Sublist xs := (List.take_sublist _ _).trans (List.drop_sublist _ _)
theorem two_sum (ps qs : List (List Nat)) (h : Nat) : ((ps.take h ++ qs ++ ps.drop h).map fun p => p.length + 1).sum = (ps.map fun p => p.length + 1).sum + (qs.map fun p => p.length + 1).sum := by
  conv => rhs; rw [← List.take_append_drop h ps]
  simp only [List.map_append, List.sum_append]
  omega
theorem s_bent (n : Nat) {l : Nat} {s : List Nat} {S : Store} (hS : Src S l) (hs : s.length ≤ 400) : Res l S (run pg (n + 3) (.fn 12) [.ref l, .str s] S) fun d T => ∃ t, d = .str t ∧ t.length ≤ 2 * s.length + 2 := by
  rw [run12]
  obtain ⟨_, T1, h1, e1, ⟨a, rfl, a0, a1⟩, _⟩ := s_pick (n + 1) hS (m := (s.length : Int) + 1) (by omega) (by omega)
  obtain ⟨_, T2, h2, e2, ⟨w, rfl, w0, w1⟩, _⟩ := s_pick (n + 1) e1.src (m := 5) (by decide) (by decide)
  have ev := e1.trans e2
  have fin : ∀ (t : List Nat) (T : Store), t.length ≤ 2 * s.length + 2 → Ev l S T → Res l S (ofFR true S.length (.rt (.str t) T)) fun d T => ∃ t, d = .str t ∧ t.length ≤ 2 * s.length + 2 := fun t T ht e => by
    obtain ⟨d, T', g1, g2, g3, _⟩ := res_cut (P := fun d => ∃ t, d = D.str t ∧ t.length ≤ 2 * s.length + 2) hS e (show lowD S.length 12 (.str t) = true from rfl) ⟨t, rfl, ht⟩
    exact ⟨d, T', g1, g2, g3⟩
  have c0 : cut s none (some a) = s.take a.toNat := cut_to _ a0
  by_cases h2' : w < 2
  · obtain ⟨d, T3, h3, e3, hd, _⟩ := s_chosen n ev.src (xs := [.str [46], .str [35], .str [47], .str [32], .str [120], .str [10]]) (k := 0) (by decide) (by decide +kernel) (by decide) (by omega)
    obtain ⟨c, rfl⟩ : ∃ c : Nat, d = .str [c] := by
      simp only [List.mem_cons, List.mem_nil_iff, or_false] at hd
      rcases hd with rfl | rfl | rfl | rfl | rfl | rfl <;> exact ⟨_, rfl⟩
    have c1 : cut s (some a) none = s.drop a.toNat := cut_from _ a0
    have z1 : (s.take a.toNat).length + [c].length ≤ sizeL := by simp [sizeL]; omega
    have z2 : (s.take a.toNat ++ [c]).length + (s.drop a.toNat).length ≤ sizeL := by simp [sizeL]; omega
    simp only [evE_var, evE_cint, evE_cstr, evE_cbl, evE_cnon, evE_gl, evE_fnv, evE_tup, evE_lst, evE_alc, evE_bin, evE_neg, evE_cmp, evE_chn, evE_andE, evE_orE, evE_notE, evE_ite, evE_idx, evE_slc, evE_rev, evE_call, evE_callv, evE_refu, evE_isx, evE_bi, evE_mth, evE_comp, evE_comp2, evEs_nil, evEs_cons, evOp_no, evOp_yes, evC_no, evC_yes, evI_seq, evI_rng, evI_enm, evI_zip, evI_lsq, evS_asg, evS_par, evS_unp, evS_setI, evS_app, evS_expr, evS_ret, evS_retN, evS_ite, evS_for_, evS_while_, evS_rais, evS_raiV, evS_tryH, evS_pass, evS_brk, evS_cont, evSs_nil, evSs_cons, getV_0, getV_s, n_R_bind_ok, n_R_bind_ex, n_R_nox_ok, n_R_of_some, n_R_refu_ok, n_R_refu_ex, n_asInt_int, n_asBl_bl, n_asStr_str, n_asLst_lst, n_asSq_lst, n_asSq_tup, n_asFn_fn, n_asO_some, n_gd_true, n_two_true, n_two_false, n_FR_ofR_ok, n_FR_ofR_ex, n_FR_ofO_some, n_FR_thn_nx, n_FR_thn_rt, n_FR_thn_ex, n_FR_thn_ct, n_FR_thn_bk, n_FR_turn_nx, n_FR_turn_ct, n_FR_turn_bk, n_FR_turn_rt, n_FR_turn_ex, n_FR_two_true, n_FR_two_false, n_FR_gd_true, List.getElem?_cons_zero, List.getElem?_cons_succ, List.set_cons_zero, List.set_cons_succ, List.map_cons, List.map_nil, List.all_cons, List.all_nil, Bool.and_true, Bool.true_and, Bool.and_false, Bool.false_and, Bool.not_true, Bool.not_false, view_non, view_bl, view_int, view_str, view_tup, view_lst, view_fn, view_scr, truth_bl, bin_addI, bin_subI, cmp_eqI, cmp_neI, cmp_eqS, cmp_neS, cmp_lt, cmp_le, cmp_gt, cmp_ge, cmp_inS, cmp_ninS, setTg_nm, setTg_tp, setTg_tq, setAll_nil, setAll_cons, wipe_nil, wipe_cons, noC_non, noC_bl, noC_int, noC_str, noC_tup, noC_lst, noC_ref, noC_fn, noC_scr, biV_len, biV_isInt, biV_isBool, biV_isStr, biV_isTuple, biV_int_, biV_bool_, biV_str_, biV_tuple_, biV_list_, biV_min2, biV_max2, biV_min1, biV_max1, biV_sum_, biV_all_, biV_any_, biV_abs_, len_S, len_T, len_L, len_R, int_I, tuple_L, tuple_T, list_L, list_T, Option.map_some, Option.map_none, items_S, items_T, items_L, idx_L, idx_T, idx_S, slc_L, slc_T, slc_S, isRf_ref, meV_join, meV_split, meV_repl, List.cons_append, List.nil_append, isInt_non, isInt_bl, isInt_int, isInt_str, isInt_tup, isInt_lst, isBool_non, isBool_bl, isBool_int, isBool_str, isBool_tup, isBool_lst, isStr_non, isStr_bl, isStr_int, isStr_str, isStr_tup, isStr_lst, isTuple_non, isTuple_bl, isTuple_int, isTuple_str, isTuple_tup, isTuple_lst, gl0, B12, h1, h2, h2', decide_true, h3, c0, c1, bin_addS, z1, z2, if_true]
    exact fin _ _ (by simp; omega) (ev.trans e3)
  · by_cases h22 : w = 2
    · subst h22
      have c1 : cut s (some (a + 1)) none = s.drop (a + 1).toNat := cut_from _ (by omega)
      have z1 : (s.take a.toNat).length + (s.drop (a + 1).toNat).length ≤ sizeL := by simp [sizeL]; omega
      have e22 : ((2 : Int) == 2) = true := rfl
      simp only [evE_var, evE_cint, evE_cstr, evE_cbl, evE_cnon, evE_gl, evE_fnv, evE_tup, evE_lst, evE_alc, evE_bin, evE_neg, evE_cmp, evE_chn, evE_andE, evE_orE, evE_notE, evE_ite, evE_idx, evE_slc, evE_rev, evE_call, evE_callv, evE_refu, evE_isx, evE_bi, evE_mth, evE_comp, evE_comp2, evEs_nil, evEs_cons, evOp_no, evOp_yes, evC_no, evC_yes, evI_seq, evI_rng, evI_enm, evI_zip, evI_lsq, evS_asg, evS_par, evS_unp, evS_setI, evS_app, evS_expr, evS_ret, evS_retN, evS_ite, evS_for_, evS_while_, evS_rais, evS_raiV, evS_tryH, evS_pass, evS_brk, evS_cont, evSs_nil, evSs_cons, getV_0, getV_s, n_R_bind_ok, n_R_bind_ex, n_R_nox_ok, n_R_of_some, n_R_refu_ok, n_R_refu_ex, n_asInt_int, n_asBl_bl, n_asStr_str, n_asLst_lst, n_asSq_lst, n_asSq_tup, n_asFn_fn, n_asO_some, n_gd_true, n_two_true, n_two_false, n_FR_ofR_ok, n_FR_ofR_ex, n_FR_ofO_some, n_FR_thn_nx, n_FR_thn_rt, n_FR_thn_ex, n_FR_thn_ct, n_FR_thn_bk, n_FR_turn_nx, n_FR_turn_ct, n_FR_turn_bk, n_FR_turn_rt, n_FR_turn_ex, n_FR_two_true, n_FR_two_false, n_FR_gd_true, List.getElem?_cons_zero, List.getElem?_cons_succ, List.set_cons_zero, List.set_cons_succ, List.map_cons, List.map_nil, List.all_cons, List.all_nil, Bool.and_true, Bool.true_and, Bool.and_false, Bool.false_and, Bool.not_true, Bool.not_false, view_non, view_bl, view_int, view_str, view_tup, view_lst, view_fn, view_scr, truth_bl, bin_addI, bin_subI, cmp_eqI, cmp_neI, cmp_eqS, cmp_neS, cmp_lt, cmp_le, cmp_gt, cmp_ge, cmp_inS, cmp_ninS, setTg_nm, setTg_tp, setTg_tq, setAll_nil, setAll_cons, wipe_nil, wipe_cons, noC_non, noC_bl, noC_int, noC_str, noC_tup, noC_lst, noC_ref, noC_fn, noC_scr, biV_len, biV_isInt, biV_isBool, biV_isStr, biV_isTuple, biV_int_, biV_bool_, biV_str_, biV_tuple_, biV_list_, biV_min2, biV_max2, biV_min1, biV_max1, biV_sum_, biV_all_, biV_any_, biV_abs_, len_S, len_T, len_L, len_R, int_I, tuple_L, tuple_T, list_L, list_T, Option.map_some, Option.map_none, items_S, items_T, items_L, idx_L, idx_T, idx_S, slc_L, slc_T, slc_S, isRf_ref, meV_join, meV_split, meV_repl, List.cons_append, List.nil_append, isInt_non, isInt_bl, isInt_int, isInt_str, isInt_tup, isInt_lst, isBool_non, isBool_bl, isBool_int, isBool_str, isBool_tup, isBool_lst, isStr_non, isStr_bl, isStr_int, isStr_str, isStr_tup, isStr_lst, isTuple_non, isTuple_bl, isTuple_int, isTuple_str, isTuple_tup, isTuple_lst, gl0, B12, h1, h2, h2', decide_false, e22, c0, c1, bin_addS, z1, if_true]
      exact fin _ _ (by simp; omega) ev
    · have e22 : (w == 2) = false := by simp [h22]
      have pl := parts_len s
      obtain ⟨_, T3, h3, e3, ⟨b, rfl, b0, b1⟩, _⟩ := s_pick (n + 1) ev.src (m := ((parts s).length : Int)) (by omega) (by omega)
      have z0 : (0 : Int) < 2 := by decide
      have c1 : cut ((parts s).map D.str) none (some b) = ((parts s).take b.toNat).map D.str := by rw [cut_to _ b0, List.map_take]
      have c2 : cut ((parts s).map D.str) (some b) none = ((parts s).drop b.toNat).map D.str := by rw [cut_from _ b0, List.map_drop]
      have c3 := cut_map (parts s) (some (b + w % 2)) (some (b + 1))
      have sm := cut_sub (parts s) (some (b + w % 2)) (some (b + 1))
      have s1 := sub_sum sm
      have s2 := two_sum (parts s) (cut (parts s) (some (b + w % 2)) (some (b + 1))) b.toNat
      have s3 := parts_sum s
      have lm := sm.length_le
      generalize cut (parts s) (some (b + w % 2)) (some (b + 1)) = qs at *
      have z1 : (((parts s).take b.toNat).map D.str).length + (qs.map D.str).length ≤ sizeL := by simp [sizeL]; omega
      have z2 : (((parts s).take b.toNat).map D.str ++ qs.map D.str).length + (((parts s).drop b.toNat).map D.str).length ≤ sizeL := by simp [sizeL]; omega
      have ej : ((parts s).take b.toNat).map D.str ++ qs.map D.str ++ ((parts s).drop b.toNat).map D.str = ((parts s).take b.toNat ++ qs ++ (parts s).drop b.toNat).map D.str := by simp
      have jl := joinL (ts := (parts s).take b.toNat ++ qs ++ (parts s).drop b.toNat) (by omega)
      have tl_ := join_len ((parts s).take b.toNat ++ qs ++ (parts s).drop b.toNat)
      simp only [evE_var, evE_cint, evE_cstr, evE_cbl, evE_cnon, evE_gl, evE_fnv, evE_tup, evE_lst, evE_alc, evE_bin, evE_neg, evE_cmp, evE_chn, evE_andE, evE_orE, evE_notE, evE_ite, evE_idx, evE_slc, evE_rev, evE_call, evE_callv, evE_refu, evE_isx, evE_bi, evE_mth, evE_comp, evE_comp2, evEs_nil, evEs_cons, evOp_no, evOp_yes, evC_no, evC_yes, evI_seq, evI_rng, evI_enm, evI_zip, evI_lsq, evS_asg, evS_par, evS_unp, evS_setI, evS_app, evS_expr, evS_ret, evS_retN, evS_ite, evS_for_, evS_while_, evS_rais, evS_raiV, evS_tryH, evS_pass, evS_brk, evS_cont, evSs_nil, evSs_cons, getV_0, getV_s, n_R_bind_ok, n_R_bind_ex, n_R_nox_ok, n_R_of_some, n_R_refu_ok, n_R_refu_ex, n_asInt_int, n_asBl_bl, n_asStr_str, n_asLst_lst, n_asSq_lst, n_asSq_tup, n_asFn_fn, n_asO_some, n_gd_true, n_two_true, n_two_false, n_FR_ofR_ok, n_FR_ofR_ex, n_FR_ofO_some, n_FR_thn_nx, n_FR_thn_rt, n_FR_thn_ex, n_FR_thn_ct, n_FR_thn_bk, n_FR_turn_nx, n_FR_turn_ct, n_FR_turn_bk, n_FR_turn_rt, n_FR_turn_ex, n_FR_two_true, n_FR_two_false, n_FR_gd_true, List.getElem?_cons_zero, List.getElem?_cons_succ, List.set_cons_zero, List.set_cons_succ, List.map_cons, List.map_nil, List.all_cons, List.all_nil, Bool.and_true, Bool.true_and, Bool.and_false, Bool.false_and, Bool.not_true, Bool.not_false, view_non, view_bl, view_int, view_str, view_tup, view_lst, view_fn, view_scr, truth_bl, bin_addI, bin_subI, cmp_eqI, cmp_neI, cmp_eqS, cmp_neS, cmp_lt, cmp_le, cmp_gt, cmp_ge, cmp_inS, cmp_ninS, setTg_nm, setTg_tp, setTg_tq, setAll_nil, setAll_cons, wipe_nil, wipe_cons, noC_non, noC_bl, noC_int, noC_str, noC_tup, noC_lst, noC_ref, noC_fn, noC_scr, biV_len, biV_isInt, biV_isBool, biV_isStr, biV_isTuple, biV_int_, biV_bool_, biV_str_, biV_tuple_, biV_list_, biV_min2, biV_max2, biV_min1, biV_max1, biV_sum_, biV_all_, biV_any_, biV_abs_, len_S, len_T, len_L, len_R, int_I, tuple_L, tuple_T, list_L, list_T, Option.map_some, Option.map_none, items_S, items_T, items_L, idx_L, idx_T, idx_S, slc_L, slc_T, slc_S, isRf_ref, meV_join, meV_split, meV_repl, List.cons_append, List.nil_append, isInt_non, isInt_bl, isInt_int, isInt_str, isInt_tup, isInt_lst, isBool_non, isBool_bl, isBool_int, isBool_str, isBool_tup, isBool_lst, isStr_non, isStr_bl, isStr_int, isStr_str, isStr_tup, isStr_lst, isTuple_non, isTuple_bl, isTuple_int, isTuple_str, isTuple_tup, isTuple_lst, gl0, B12, h1, h2, h2', decide_false, e22, split_ok (s := s) (by omega)]
      rw [List.length_map, h3]
      simp only [evE_var, evE_cint, evE_cstr, evE_cbl, evE_cnon, evE_gl, evE_fnv, evE_tup, evE_lst, evE_alc, evE_bin, evE_neg, evE_cmp, evE_chn, evE_andE, evE_orE, evE_notE, evE_ite, evE_idx, evE_slc, evE_rev, evE_call, evE_callv, evE_refu, evE_isx, evE_bi, evE_mth, evE_comp, evE_comp2, evEs_nil, evEs_cons, evOp_no, evOp_yes, evC_no, evC_yes, evI_seq, evI_rng, evI_enm, evI_zip, evI_lsq, evS_asg, evS_par, evS_unp, evS_setI, evS_app, evS_expr, evS_ret, evS_retN, evS_ite, evS_for_, evS_while_, evS_rais, evS_raiV, evS_tryH, evS_pass, evS_brk, evS_cont, evSs_nil, evSs_cons, getV_0, getV_s, n_R_bind_ok, n_R_bind_ex, n_R_nox_ok, n_R_of_some, n_R_refu_ok, n_R_refu_ex, n_asInt_int, n_asBl_bl, n_asStr_str, n_asLst_lst, n_asSq_lst, n_asSq_tup, n_asFn_fn, n_asO_some, n_gd_true, n_two_true, n_two_false, n_FR_ofR_ok, n_FR_ofR_ex, n_FR_ofO_some, n_FR_thn_nx, n_FR_thn_rt, n_FR_thn_ex, n_FR_thn_ct, n_FR_thn_bk, n_FR_turn_nx, n_FR_turn_ct, n_FR_turn_bk, n_FR_turn_rt, n_FR_turn_ex, n_FR_two_true, n_FR_two_false, n_FR_gd_true, List.getElem?_cons_zero, List.getElem?_cons_succ, List.set_cons_zero, List.set_cons_succ, List.map_cons, List.map_nil, List.all_cons, List.all_nil, Bool.and_true, Bool.true_and, Bool.and_false, Bool.false_and, Bool.not_true, Bool.not_false, view_non, view_bl, view_int, view_str, view_tup, view_lst, view_fn, view_scr, truth_bl, bin_addI, bin_subI, cmp_eqI, cmp_neI, cmp_eqS, cmp_neS, cmp_lt, cmp_le, cmp_gt, cmp_ge, cmp_inS, cmp_ninS, setTg_nm, setTg_tp, setTg_tq, setAll_nil, setAll_cons, wipe_nil, wipe_cons, noC_non, noC_bl, noC_int, noC_str, noC_tup, noC_lst, noC_ref, noC_fn, noC_scr, biV_len, biV_isInt, biV_isBool, biV_isStr, biV_isTuple, biV_int_, biV_bool_, biV_str_, biV_tuple_, biV_list_, biV_min2, biV_max2, biV_min1, biV_max1, biV_sum_, biV_all_, biV_any_, biV_abs_, len_S, len_T, len_L, len_R, int_I, tuple_L, tuple_T, list_L, list_T, Option.map_some, Option.map_none, items_S, items_T, items_L, idx_L, idx_T, idx_S, slc_L, slc_T, slc_S, isRf_ref, meV_join, meV_split, meV_repl, List.cons_append, List.nil_append, isInt_non, isInt_bl, isInt_int, isInt_str, isInt_tup, isInt_lst, isBool_non, isBool_bl, isBool_int, isBool_str, isBool_tup, isBool_lst, isStr_non, isStr_bl, isStr_int, isStr_str, isStr_tup, isStr_lst, isTuple_non, isTuple_bl, isTuple_int, isTuple_str, isTuple_tup, isTuple_lst, gl0, bin_modI, z0, if_true, c1, c2, c3, bin_addL, z1, z2, ej, jl]
      exact fin _ _ (by unfold txt; omega) (ev.trans e3)
end My
set_option Elab.async false
set_option linter.all false
set_option maxRecDepth 100000
set_option maxHeartbeats 2000000
namespace My
open Rx
def okT (C : Nat) (ts : List (List Nat)) : Bool := decide (1 ≤ ts.length) && decide (ts.length ≤ 6) && decide (1 ≤ C) && decide (C ≤ 6) && ts.all (fun s => decide (s.length = C)) && ts.all fun s => s.all sgn
theorem okT_ok {C : Nat} {ts : List (List Nat)} (h : okT C ts = true) : TileOk C ts := by
  simp only [okT, Bool.and_eq_true, decide_eq_true_eq, List.all_eq_true] at h
  obtain ⟨⟨⟨⟨⟨h1, h2⟩, h3⟩, h4⟩, h5⟩, h6⟩ := h
  exact ⟨h1, h2, h3, h4, h5, fun s hs => List.all_eq_true.mpr (h6 s hs)⟩
theorem clo0 (n : Nat) (p : D) (S : Store) : run pg (n + 1) (.clo 0 []) [p] S = .ok (.str [116, 105, 108, 101]) S := by
  show asO (pg.err 0) _ = _
  rw [w_err0]
  rfl
/-! ### written by hand -/
abbrev q1_ : List (D × D) := [(.str [], .int 1), (.non, .int 0), (.str [46, 47], .int 2), (.str [47, 46], .int 1), (.str [46, 46, 47, 46], .int 2)]
abbrev q2_ : List (D × D) := [(.str [46, 47, 46, 46], .int 2), (.str [120], .int 1), (.str [46, 46, 46, 46, 46, 46, 46], .int 1), (.str [46, 47, 46, 47, 46, 47, 46, 47, 46, 47, 46, 47, 46, 47, 120], .int 8)]
abbrev q3_ : List (D × D) := [(.str [46, 47, 46, 47, 46, 47, 46, 47, 46, 47, 46], .tup [.str [46], .str [46], .str [46], .str [46], .str [46], .str [46]]), (.str [46, 47, 46, 47, 46, 47, 46, 47, 46, 47, 46, 47, 46, 47, 46], .int 7), (.str [46, 47, 46, 47, 46, 47, 46, 47, 46, 47, 46, 47, 46, 47, 46, 47, 46, 47, 46], .int 7), (.str [46, 46, 10], .int 1)]
abbrev q4_ : List (D × D) := [(.tup [.str [46]], .int 0), (.str [35, 32, 35], .int 1), (.str [46, 46, 47, 35, 46, 47, 32], .int 3), (.str [46, 46, 46, 46, 46, 46], .tup [.str [46, 46, 46, 46, 46, 46]])]
def its : List (D × D) := q1_ ++ q2_ ++ q3_ ++ q4_
theorem rd_of (n : Nat) {s : List Nat} {d : D} {S : Store} (hl : decide (s.length ≤ 900) = true) (hd : rdD s = d) (hS : SOk S) : run pg (n + 4) (.fn 11) [.str s] S = .ok d S ∧ d.plain 12 = true := by
  rw [← hd]
  exact ⟨s_law_read (n + 1) (of_decide_eq_true hl) hS, rd_plain s 11⟩
theorem its_ok (n : Nat) {S : Store} (hS : SOk S) : ∀ p ∈ its, run pg (n + 4) (.fn 11) [p.1] S = .ok p.2 S ∧ p.2.plain 12 = true := by
  intro p hp
  have hp : p ∈ q1_ ++ q2_ ++ q3_ ++ q4_ := hp
  simp only [List.cons_append, List.nil_append, List.mem_cons, List.mem_nil_iff, or_false] at hp
  rcases hp with rfl | rfl | rfl | rfl | rfl | rfl | rfl | rfl | rfl | rfl | rfl | rfl | rfl | rfl | rfl | rfl | rfl
  · exact rd_of n rfl rfl hS
  · exact ⟨s_law_readN (n + 1) (k := 3) rfl (fun s z => by cases z) hS, rfl⟩
  · exact rd_of n rfl rfl hS
  · exact rd_of n rfl rfl hS
  · exact rd_of n rfl rfl hS
  · exact rd_of n rfl rfl hS
  · exact rd_of n rfl rfl hS
  · exact rd_of n rfl rfl hS
  · exact rd_of n rfl rfl hS
  · exact rd_of n rfl rfl hS
  · exact rd_of n rfl rfl hS
  · exact rd_of n rfl rfl hS
  · exact rd_of n rfl rfl hS
  · exact ⟨s_law_readN (n + 1) (k := 3) rfl (fun s z => by cases z) hS, rfl⟩
  · exact rd_of n rfl rfl hS
  · exact rd_of n rfl rfl hS
  · exact rd_of n rfl rfl hS
theorem ne_self {d : D} (h : d.plain 12 = true) : cmp .ne d d = some false := by
  rw [cmp_ne, h, eqv_refl _ 12 h]
  rfl
theorem s_written (n : Nat) {S : Store} (hS : SOk S) : run pg (n + 5) (.fn 13) [] S = .ok (.bl true) S := by
  rw [run13]
  have t1 : run pg (n + 4) (.fn 4) [.tup [.str [46, 46], .str [46, 35]]] S = .ok (.str [46, 46, 47, 46, 35]) S := s_tile_text n (ts := [[46, 46], [46, 35]]) (C := 2) (okT_ok rfl) hS
  have t2 : run pg (n + 4) (.fn 4) [.tup [.str [46]]] S = .ok (.str [46]) S := s_tile_text n (ts := [[46]]) (C := 1) (okT_ok rfl) hS
  have t3 : run pg (n + 4) (.fn 5) [.str [46, 46, 35, 47, 46, 35, 35]] S = .ok (.tup [.str [46, 46, 35], .str [46, 35, 35]]) S := s_read (n + 2) (s := [46, 46, 35, 47, 46, 35, 35]) (by decide) hS
  have t4 : run pg (n + 4) (.fn 4) [.int 0] S = .ex 0 .non S := s_tile_textN n (k := 0) rfl rfl hS
  have b1 : ∀ s : List Nat, (!(s == s)) = false := fun s => by simp
  have b2 : cmp .ne (.tup [.str [46, 46, 35], .str [46, 35, 35]]) (.tup [.str [46, 46, 35], .str [46, 35, 35]]) = some false := ne_self rfl
  have mt : bin .mul (.tup [.str [46]]) (.int 6) = some (.tup [.str [46], .str [46], .str [46], .str [46], .str [46], .str [46]]) := by
    rw [bin_mulT, if_pos ⟨by decide, by decide, by simp, by decide⟩]
    rfl
  have a1 : bin .add (.lst (q1_.map fun p => .tup [p.1, p.2])) (.lst (q2_.map fun p => .tup [p.1, p.2])) = some (.lst ((q1_ ++ q2_).map fun p => .tup [p.1, p.2])) := by
    rw [bin_addL, if_pos (by decide +kernel)]
    rfl
  have a2 : bin .add (.lst ((q1_ ++ q2_).map fun p => .tup [p.1, p.2])) (.lst (q3_.map fun p => .tup [p.1, p.2])) = some (.lst ((q1_ ++ q2_ ++ q3_).map fun p => .tup [p.1, p.2])) := by
    rw [bin_addL, if_pos (by decide +kernel)]
    rfl
  have a3 : bin .add (.lst ((q1_ ++ q2_ ++ q3_).map fun p => .tup [p.1, p.2])) (.lst (q4_.map fun p => .tup [p.1, p.2])) = some (.lst (its.map fun p => .tup [p.1, p.2])) := by
    rw [bin_addL, if_pos (by decide +kernel)]
    rfl
  have nn : cmp .ne (.lst []) (.lst []) = some false := ne_self rfl
  have te : (([116, 105, 108, 101] : List Nat) == [116, 105, 108, 101]) = true := rfl
  have ce : compL (fun x => setTg (.tp [1, 2]) x [some (.lst (its.map fun p => .tup [p.1, p.2])), none, none]) (evC pg.gl (run pg (n + 4)) (.yes (.cmp .ne (.call 11 (.cons (.var 1) .nil)) (.var 2)))) (evE pg.gl (run pg (n + 4)) K13_0) (its.map fun p => .tup [p.1, p.2]) [] S = .ok [] S := by
    have := compL_filter (S := S) (g := fun x => setTg (.tp [1, 2]) x [some (.lst (its.map fun p => .tup [p.1, p.2])), none, none]) (c := evC pg.gl (run pg (n + 4)) (.yes (.cmp .ne (.call 11 (.cons (.var 1) .nil)) (.var 2)))) (f := evE pg.gl (run pg (n + 4)) K13_0) (fun _ => false) id (its.map fun p => .tup [p.1, p.2]) [] (by decide +kernel) (fun x hx => by
      obtain ⟨p, hp, rfl⟩ := List.mem_map.mp hx
      obtain ⟨h1, h2⟩ := its_ok n hS p hp
      have h3 := ne_self h2
      have h4 : view S p.2 = p.2 := view_plain h2
      refine ⟨_, rfl, ?_, fun z => nomatch z⟩
      simp only [evE_var, evE_cint, evE_cstr, evE_cbl, evE_cnon, evE_gl, evE_fnv, evE_tup, evE_lst, evE_alc, evE_bin, evE_neg, evE_cmp, evE_chn, evE_andE, evE_orE, evE_notE, evE_ite, evE_idx, evE_slc, evE_rev, evE_call, evE_callv, evE_refu, evE_isx, evE_bi, evE_mth, evE_comp, evE_comp2, evEs_nil, evEs_cons, evOp_no, evOp_yes, evC_no, evC_yes, evI_seq, evI_rng, evI_enm, evI_zip, evI_lsq, evS_asg, evS_par, evS_unp, evS_setI, evS_app, evS_expr, evS_ret, evS_retN, evS_ite, evS_for_, evS_while_, evS_rais, evS_raiV, evS_tryH, evS_pass, evS_brk, evS_cont, evSs_nil, evSs_cons, getV_0, getV_s, n_R_bind_ok, n_R_bind_ex, n_R_nox_ok, n_R_of_some, n_R_refu_ok, n_R_refu_ex, n_asInt_int, n_asBl_bl, n_asStr_str, n_asLst_lst, n_asSq_lst, n_asSq_tup, n_asFn_fn, n_asO_some, n_gd_true, n_two_true, n_two_false, n_FR_ofR_ok, n_FR_ofR_ex, n_FR_ofO_some, n_FR_thn_nx, n_FR_thn_rt, n_FR_thn_ex, n_FR_thn_ct, n_FR_thn_bk, n_FR_turn_nx, n_FR_turn_ct, n_FR_turn_bk, n_FR_turn_rt, n_FR_turn_ex, n_FR_two_true, n_FR_two_false, n_FR_gd_true, List.getElem?_cons_zero, List.getElem?_cons_succ, List.set_cons_zero, List.set_cons_succ, List.map_cons, List.map_nil, List.all_cons, List.all_nil, Bool.and_true, Bool.true_and, Bool.and_false, Bool.false_and, Bool.not_true, Bool.not_false, view_non, view_bl, view_int, view_str, view_tup, view_lst, view_fn, view_scr, truth_bl, bin_addI, bin_subI, cmp_eqI, cmp_neI, cmp_eqS, cmp_neS, cmp_lt, cmp_le, cmp_gt, cmp_ge, cmp_inS, cmp_ninS, setTg_nm, setTg_tp, setTg_tq, setAll_nil, setAll_cons, wipe_nil, wipe_cons, noC_non, noC_bl, noC_int, noC_str, noC_tup, noC_lst, noC_ref, noC_fn, noC_scr, biV_len, biV_isInt, biV_isBool, biV_isStr, biV_isTuple, biV_int_, biV_bool_, biV_str_, biV_tuple_, biV_list_, biV_min2, biV_max2, biV_min1, biV_max1, biV_sum_, biV_all_, biV_any_, biV_abs_, len_S, len_T, len_L, len_R, int_I, tuple_L, tuple_T, list_L, list_T, Option.map_some, Option.map_none, items_S, items_T, items_L, idx_L, idx_T, idx_S, slc_L, slc_T, slc_S, isRf_ref, meV_join, meV_split, meV_repl, List.cons_append, List.nil_append, isInt_non, isInt_bl, isInt_int, isInt_str, isInt_tup, isInt_lst, isBool_non, isBool_bl, isBool_int, isBool_str, isBool_tup, isBool_lst, isStr_non, isStr_bl, isStr_int, isStr_str, isStr_tup, isStr_lst, isTuple_non, isTuple_bl, isTuple_int, isTuple_str, isTuple_tup, isTuple_lst, gl0, h1, h4, h3])
    rw [this]
    simp
  simp only [List.map_cons, List.map_nil, List.cons_append, List.nil_append] at a1 a2 a3
  simp only [evE_var, evE_cint, evE_cstr, evE_cbl, evE_cnon, evE_gl, evE_fnv, evE_tup, evE_lst, evE_alc, evE_bin, evE_neg, evE_cmp, evE_chn, evE_andE, evE_orE, evE_notE, evE_ite, evE_idx, evE_slc, evE_rev, evE_call, evE_callv, evE_refu, evE_isx, evE_bi, evE_mth, evE_comp, evE_comp2, evEs_nil, evEs_cons, evOp_no, evOp_yes, evC_no, evC_yes, evI_seq, evI_rng, evI_enm, evI_zip, evI_lsq, evS_asg, evS_par, evS_unp, evS_setI, evS_app, evS_expr, evS_ret, evS_retN, evS_ite, evS_for_, evS_while_, evS_rais, evS_raiV, evS_tryH, evS_pass, evS_brk, evS_cont, evSs_nil, evSs_cons, getV_0, getV_s, n_R_bind_ok, n_R_bind_ex, n_R_nox_ok, n_R_of_some, n_R_refu_ok, n_R_refu_ex, n_asInt_int, n_asBl_bl, n_asStr_str, n_asLst_lst, n_asSq_lst, n_asSq_tup, n_asFn_fn, n_asO_some, n_gd_true, n_two_true, n_two_false, n_FR_ofR_ok, n_FR_ofR_ex, n_FR_ofO_some, n_FR_thn_nx, n_FR_thn_rt, n_FR_thn_ex, n_FR_thn_ct, n_FR_thn_bk, n_FR_turn_nx, n_FR_turn_ct, n_FR_turn_bk, n_FR_turn_rt, n_FR_turn_ex, n_FR_two_true, n_FR_two_false, n_FR_gd_true, List.getElem?_cons_zero, List.getElem?_cons_succ, List.set_cons_zero, List.set_cons_succ, List.map_cons, List.map_nil, List.all_cons, List.all_nil, Bool.and_true, Bool.true_and, Bool.and_false, Bool.false_and, Bool.not_true, Bool.not_false, view_non, view_bl, view_int, view_str, view_tup, view_lst, view_fn, view_scr, truth_bl, bin_addI, bin_subI, cmp_eqI, cmp_neI, cmp_eqS, cmp_neS, cmp_lt, cmp_le, cmp_gt, cmp_ge, cmp_inS, cmp_ninS, setTg_nm, setTg_tp, setTg_tq, setAll_nil, setAll_cons, wipe_nil, wipe_cons, noC_non, noC_bl, noC_int, noC_str, noC_tup, noC_lst, noC_ref, noC_fn, noC_scr, biV_len, biV_isInt, biV_isBool, biV_isStr, biV_isTuple, biV_int_, biV_bool_, biV_str_, biV_tuple_, biV_list_, biV_min2, biV_max2, biV_min1, biV_max1, biV_sum_, biV_all_, biV_any_, biV_abs_, len_S, len_T, len_L, len_R, int_I, tuple_L, tuple_T, list_L, list_T, Option.map_some, Option.map_none, items_S, items_T, items_L, idx_L, idx_T, idx_S, slc_L, slc_T, slc_S, isRf_ref, meV_join, meV_split, meV_repl, List.cons_append, List.nil_append, isInt_non, isInt_bl, isInt_int, isInt_str, isInt_tup, isInt_lst, isBool_non, isBool_bl, isBool_int, isBool_str, isBool_tup, isBool_lst, isStr_non, isStr_bl, isStr_int, isStr_str, isStr_tup, isStr_lst, isTuple_non, isTuple_bl, isTuple_int, isTuple_str, isTuple_tup, isTuple_lst, gl0, B13, t1, t2, t3, t4, b1, b2, mt, a1, a2, a3]
  rw [ce]
  simp only [evE_var, evE_cint, evE_cstr, evE_cbl, evE_cnon, evE_gl, evE_fnv, evE_tup, evE_lst, evE_alc, evE_bin, evE_neg, evE_cmp, evE_chn, evE_andE, evE_orE, evE_notE, evE_ite, evE_idx, evE_slc, evE_rev, evE_call, evE_callv, evE_refu, evE_isx, evE_bi, evE_mth, evE_comp, evE_comp2, evEs_nil, evEs_cons, evOp_no, evOp_yes, evC_no, evC_yes, evI_seq, evI_rng, evI_enm, evI_zip, evI_lsq, evS_asg, evS_par, evS_unp, evS_setI, evS_app, evS_expr, evS_ret, evS_retN, evS_ite, evS_for_, evS_while_, evS_rais, evS_raiV, evS_tryH, evS_pass, evS_brk, evS_cont, evSs_nil, evSs_cons, getV_0, getV_s, n_R_bind_ok, n_R_bind_ex, n_R_nox_ok, n_R_of_some, n_R_refu_ok, n_R_refu_ex, n_asInt_int, n_asBl_bl, n_asStr_str, n_asLst_lst, n_asSq_lst, n_asSq_tup, n_asFn_fn, n_asO_some, n_gd_true, n_two_true, n_two_false, n_FR_ofR_ok, n_FR_ofR_ex, n_FR_ofO_some, n_FR_thn_nx, n_FR_thn_rt, n_FR_thn_ex, n_FR_thn_ct, n_FR_thn_bk, n_FR_turn_nx, n_FR_turn_ct, n_FR_turn_bk, n_FR_turn_rt, n_FR_turn_ex, n_FR_two_true, n_FR_two_false, n_FR_gd_true, List.getElem?_cons_zero, List.getElem?_cons_succ, List.set_cons_zero, List.set_cons_succ, List.map_cons, List.map_nil, List.all_cons, List.all_nil, Bool.and_true, Bool.true_and, Bool.and_false, Bool.false_and, Bool.not_true, Bool.not_false, view_non, view_bl, view_int, view_str, view_tup, view_lst, view_fn, view_scr, truth_bl, bin_addI, bin_subI, cmp_eqI, cmp_neI, cmp_eqS, cmp_neS, cmp_lt, cmp_le, cmp_gt, cmp_ge, cmp_inS, cmp_ninS, setTg_nm, setTg_tp, setTg_tq, setAll_nil, setAll_cons, wipe_nil, wipe_cons, noC_non, noC_bl, noC_int, noC_str, noC_tup, noC_lst, noC_ref, noC_fn, noC_scr, biV_len, biV_isInt, biV_isBool, biV_isStr, biV_isTuple, biV_int_, biV_bool_, biV_str_, biV_tuple_, biV_list_, biV_min2, biV_max2, biV_min1, biV_max1, biV_sum_, biV_all_, biV_any_, biV_abs_, len_S, len_T, len_L, len_R, int_I, tuple_L, tuple_T, list_L, list_T, Option.map_some, Option.map_none, items_S, items_T, items_L, idx_L, idx_T, idx_S, slc_L, slc_T, slc_S, isRf_ref, meV_join, meV_split, meV_repl, List.cons_append, List.nil_append, isInt_non, isInt_bl, isInt_int, isInt_str, isInt_tup, isInt_lst, isBool_non, isBool_bl, isBool_int, isBool_str, isBool_tup, isBool_lst, isStr_non, isStr_bl, isStr_int, isStr_str, isStr_tup, isStr_lst, isTuple_non, isTuple_bl, isTuple_int, isTuple_str, isTuple_tup, isTuple_lst, gl0, nn, t4, n_R_refu_ex, clo0, te]
  exact ofFR_rt (d := .bl true) rfl hS
end My
set_option Elab.async false
set_option linter.all false
set_option maxRecDepth 100000
set_option maxHeartbeats 2000000
namespace My
open Rx
theorem law_bents (n : Nat) (ns : List Int) {i l C : Nat} {ts : List (List Nat)} {a5 a6 a7 : Option D} {S : Store} (hS : Src S l) (t : TileOk C ts) : ∃ b5 b6 b7 T, forL (setTg (.nm 5)) (evSs pg.gl (run pg (n + 8)) pg.exm pg.hot L14_0) (rangeL 0 14) [some (.scr ns), some (.int i), some (.ref l), some (tl ts), some (.str (txt ts)), a5, a6, a7] S = .nx [some (.scr ns), some (.int i), some (.ref l), some (tl ts), some (.str (txt ts)), b5, b6, b7] T ∧ Ev l S T := by
  have tx := txt_len t
  obtain ⟨e', U, k1, ⟨b5, b6, b7, rfl⟩, k2⟩ := forL_inv (g := setTg (.nm 5)) (body := evSs pg.gl (run pg (n + 8)) pg.exm pg.hot L14_0)
    (fun e U => (∃ b5 b6 b7, e = [some (.scr ns), some (.int i), some (.ref l), some (tl ts), some (.str (txt ts)), b5, b6, b7]) ∧ Ev l S U)
    (rangeL 0 14) [some (.scr ns), some (.int i), some (.ref l), some (tl ts), some (.str (txt ts)), a5, a6, a7] S ⟨⟨_, _, _, rfl⟩, Ev.refl hS⟩ (fun z hz e U ⟨⟨b5, b6, b7, he⟩, hU⟩ => by
      subst he
      obtain ⟨j, hj, rfl⟩ := mem_range0 hz
      obtain ⟨_, T1, h1, e1, s1, rfl, l1⟩ := s_bent (n + 5) hU.src (s := txt ts) (by omega)
      have z3 : (0 : Int) < 3 := by decide
      by_cases h3 : (j : Int) % 3 = 0
      · have e3 : ((j : Int) % 3 == 0) = true := by rw [h3]; rfl
        obtain ⟨_, T2, h2, e2, s2, rfl, l2⟩ := s_bent (n + 5) e1.src (s := s1) (by omega)
        have r1 := s_law_read (n + 5) (s := s2) (S := T2) (by omega) e2.src.ok
        have r2 := s_due (n + 6) (s := s2) (S := T2) (by omega) e2.src.ok
        have v1 : view T2 (rdD s2) = rdD s2 := view_plain (rd_plain s2 0)
        have c1 := ne_self (rd_plain s2 11)
        refine ⟨_, rfl, _, T2, .inl ?_, ⟨some (.int (j : Int)), some (.str s2), b7, rfl⟩, (hU.trans e1).trans e2⟩
        simp only [evE_var, evE_cint, evE_cstr, evE_cbl, evE_cnon, evE_gl, evE_fnv, evE_tup, evE_lst, evE_alc, evE_bin, evE_neg, evE_cmp, evE_chn, evE_andE, evE_orE, evE_notE, evE_ite, evE_idx, evE_slc, evE_rev, evE_call, evE_callv, evE_refu, evE_isx, evE_bi, evE_mth, evE_comp, evE_comp2, evEs_nil, evEs_cons, evOp_no, evOp_yes, evC_no, evC_yes, evI_seq, evI_rng, evI_enm, evI_zip, evI_lsq, evS_asg, evS_par, evS_unp, evS_setI, evS_app, evS_expr, evS_ret, evS_retN, evS_ite, evS_for_, evS_while_, evS_rais, evS_raiV, evS_tryH, evS_pass, evS_brk, evS_cont, evSs_nil, evSs_cons, getV_0, getV_s, n_R_bind_ok, n_R_bind_ex, n_R_nox_ok, n_R_of_some, n_R_refu_ok, n_R_refu_ex, n_asInt_int, n_asBl_bl, n_asStr_str, n_asLst_lst, n_asSq_lst, n_asSq_tup, n_asFn_fn, n_asO_some, n_gd_true, n_two_true, n_two_false, n_FR_ofR_ok, n_FR_ofR_ex, n_FR_ofO_some, n_FR_thn_nx, n_FR_thn_rt, n_FR_thn_ex, n_FR_thn_ct, n_FR_thn_bk, n_FR_turn_nx, n_FR_turn_ct, n_FR_turn_bk, n_FR_turn_rt, n_FR_turn_ex, n_FR_two_true, n_FR_two_false, n_FR_gd_true, List.getElem?_cons_zero, List.getElem?_cons_succ, List.set_cons_zero, List.set_cons_succ, List.map_cons, List.map_nil, List.all_cons, List.all_nil, Bool.and_true, Bool.true_and, Bool.and_false, Bool.false_and, Bool.not_true, Bool.not_false, view_non, view_bl, view_int, view_str, view_tup, view_lst, view_fn, view_scr, truth_bl, bin_addI, bin_subI, cmp_eqI, cmp_neI, cmp_eqS, cmp_neS, cmp_lt, cmp_le, cmp_gt, cmp_ge, cmp_inS, cmp_ninS, setTg_nm, setTg_tp, setTg_tq, setAll_nil, setAll_cons, wipe_nil, wipe_cons, noC_non, noC_bl, noC_int, noC_str, noC_tup, noC_lst, noC_ref, noC_fn, noC_scr, biV_len, biV_isInt, biV_isBool, biV_isStr, biV_isTuple, biV_int_, biV_bool_, biV_str_, biV_tuple_, biV_list_, biV_min2, biV_max2, biV_min1, biV_max1, biV_sum_, biV_all_, biV_any_, biV_abs_, len_S, len_T, len_L, len_R, int_I, tuple_L, tuple_T, list_L, list_T, Option.map_some, Option.map_none, items_S, items_T, items_L, idx_L, idx_T, idx_S, slc_L, slc_T, slc_S, isRf_ref, meV_join, meV_split, meV_repl, List.cons_append, List.nil_append, isInt_non, isInt_bl, isInt_int, isInt_str, isInt_tup, isInt_lst, isBool_non, isBool_bl, isBool_int, isBool_str, isBool_tup, isBool_lst, isStr_non, isStr_bl, isStr_int, isStr_str, isStr_tup, isStr_lst, isTuple_non, isTuple_bl, isTuple_int, isTuple_str, isTuple_tup, isTuple_lst, gl0, L14_0, h1, bin_modI, z3, if_true, e3, h2, r1, r2, v1, c1]
      · have e3 : ((j : Int) % 3 == 0) = false := by simpa using h3
        have r1 := s_law_read (n + 5) (s := s1) (S := T1) (by omega) e1.src.ok
        have r2 := s_due (n + 6) (s := s1) (S := T1) (by omega) e1.src.ok
        have v1 : view T1 (rdD s1) = rdD s1 := view_plain (rd_plain s1 0)
        have c1 := ne_self (rd_plain s1 11)
        refine ⟨_, rfl, _, T1, .inl ?_, ⟨some (.int (j : Int)), some (.str s1), b7, rfl⟩, hU.trans e1⟩
        simp only [evE_var, evE_cint, evE_cstr, evE_cbl, evE_cnon, evE_gl, evE_fnv, evE_tup, evE_lst, evE_alc, evE_bin, evE_neg, evE_cmp, evE_chn, evE_andE, evE_orE, evE_notE, evE_ite, evE_idx, evE_slc, evE_rev, evE_call, evE_callv, evE_refu, evE_isx, evE_bi, evE_mth, evE_comp, evE_comp2, evEs_nil, evEs_cons, evOp_no, evOp_yes, evC_no, evC_yes, evI_seq, evI_rng, evI_enm, evI_zip, evI_lsq, evS_asg, evS_par, evS_unp, evS_setI, evS_app, evS_expr, evS_ret, evS_retN, evS_ite, evS_for_, evS_while_, evS_rais, evS_raiV, evS_tryH, evS_pass, evS_brk, evS_cont, evSs_nil, evSs_cons, getV_0, getV_s, n_R_bind_ok, n_R_bind_ex, n_R_nox_ok, n_R_of_some, n_R_refu_ok, n_R_refu_ex, n_asInt_int, n_asBl_bl, n_asStr_str, n_asLst_lst, n_asSq_lst, n_asSq_tup, n_asFn_fn, n_asO_some, n_gd_true, n_two_true, n_two_false, n_FR_ofR_ok, n_FR_ofR_ex, n_FR_ofO_some, n_FR_thn_nx, n_FR_thn_rt, n_FR_thn_ex, n_FR_thn_ct, n_FR_thn_bk, n_FR_turn_nx, n_FR_turn_ct, n_FR_turn_bk, n_FR_turn_rt, n_FR_turn_ex, n_FR_two_true, n_FR_two_false, n_FR_gd_true, List.getElem?_cons_zero, List.getElem?_cons_succ, List.set_cons_zero, List.set_cons_succ, List.map_cons, List.map_nil, List.all_cons, List.all_nil, Bool.and_true, Bool.true_and, Bool.and_false, Bool.false_and, Bool.not_true, Bool.not_false, view_non, view_bl, view_int, view_str, view_tup, view_lst, view_fn, view_scr, truth_bl, bin_addI, bin_subI, cmp_eqI, cmp_neI, cmp_eqS, cmp_neS, cmp_lt, cmp_le, cmp_gt, cmp_ge, cmp_inS, cmp_ninS, setTg_nm, setTg_tp, setTg_tq, setAll_nil, setAll_cons, wipe_nil, wipe_cons, noC_non, noC_bl, noC_int, noC_str, noC_tup, noC_lst, noC_ref, noC_fn, noC_scr, biV_len, biV_isInt, biV_isBool, biV_isStr, biV_isTuple, biV_int_, biV_bool_, biV_str_, biV_tuple_, biV_list_, biV_min2, biV_max2, biV_min1, biV_max1, biV_sum_, biV_all_, biV_any_, biV_abs_, len_S, len_T, len_L, len_R, int_I, tuple_L, tuple_T, list_L, list_T, Option.map_some, Option.map_none, items_S, items_T, items_L, idx_L, idx_T, idx_S, slc_L, slc_T, slc_S, isRf_ref, meV_join, meV_split, meV_repl, List.cons_append, List.nil_append, isInt_non, isInt_bl, isInt_int, isInt_str, isInt_tup, isInt_lst, isBool_non, isBool_bl, isBool_int, isBool_str, isBool_tup, isBool_lst, isStr_non, isStr_bl, isStr_int, isStr_str, isStr_tup, isStr_lst, isTuple_non, isTuple_bl, isTuple_int, isTuple_str, isTuple_tup, isTuple_lst, gl0, L14_0, h1, bin_modI, z3, if_true, e3, r1, r2, v1, c1])
  exact ⟨b5, b6, b7, U, k1, k2⟩
theorem law_odds (n : Nat) (x0 x1 x2 x3 x4 x5 x6 x7 : Option D) {ts : List (List Nat)} {s : List Nat} {S : Store} (hS : SOk S) : ∃ b7, forL (setTg (.nm 7)) (evSs pg.gl (run pg (n + 3)) pg.exm pg.hot L14_1) [.non, tl ts, .lst [.str s], .int 5] [x0, x1, x2, x3, x4, x5, x6, x7] S = .nx [x0, x1, x2, x3, x4, x5, x6, b7] S := by
  obtain ⟨e', U, k1, ⟨b7, rfl⟩, rfl⟩ := forL_inv (g := setTg (.nm 7)) (body := evSs pg.gl (run pg (n + 3)) pg.exm pg.hot L14_1)
    (fun e U => (∃ b7, e = [x0, x1, x2, x3, x4, x5, x6, b7]) ∧ U = S)
    [.non, tl ts, .lst [.str s], .int 5] [x0, x1, x2, x3, x4, x5, x6, x7] S ⟨⟨_, rfl⟩, rfl⟩ (fun z hz e U ⟨⟨b7, he⟩, hU⟩ => by
      subst he
      subst hU
      refine ⟨_, rfl, _, _, .inl ?_, ⟨some z, rfl⟩, rfl⟩
      have hp : z.plain 3 = true ∧ ∀ s, z ≠ .str s := by
        simp only [List.mem_cons, List.mem_nil_iff, or_false] at hz
        rcases hz with rfl | rfl | rfl | rfl
        · exact ⟨rfl, fun s h => (by cases h)⟩
        · exact ⟨tl_plain ts 2, fun s h => (by cases h)⟩
        · exact ⟨rfl, fun s h => (by cases h)⟩
        · exact ⟨rfl, fun s h => (by cases h)⟩
      have e0 : ((0 : Int) == 0) = true := rfl
      simp only [evE_var, evE_cint, evE_cstr, evE_cbl, evE_cnon, evE_gl, evE_fnv, evE_tup, evE_lst, evE_alc, evE_bin, evE_neg, evE_cmp, evE_chn, evE_andE, evE_orE, evE_notE, evE_ite, evE_idx, evE_slc, evE_rev, evE_call, evE_callv, evE_refu, evE_isx, evE_bi, evE_mth, evE_comp, evE_comp2, evEs_nil, evEs_cons, evOp_no, evOp_yes, evC_no, evC_yes, evI_seq, evI_rng, evI_enm, evI_zip, evI_lsq, evS_asg, evS_par, evS_unp, evS_setI, evS_app, evS_expr, evS_ret, evS_retN, evS_ite, evS_for_, evS_while_, evS_rais, evS_raiV, evS_tryH, evS_pass, evS_brk, evS_cont, evSs_nil, evSs_cons, getV_0, getV_s, n_R_bind_ok, n_R_bind_ex, n_R_nox_ok, n_R_of_some, n_R_refu_ok, n_R_refu_ex, n_asInt_int, n_asBl_bl, n_asStr_str, n_asLst_lst, n_asSq_lst, n_asSq_tup, n_asFn_fn, n_asO_some, n_gd_true, n_two_true, n_two_false, n_FR_ofR_ok, n_FR_ofR_ex, n_FR_ofO_some, n_FR_thn_nx, n_FR_thn_rt, n_FR_thn_ex, n_FR_thn_ct, n_FR_thn_bk, n_FR_turn_nx, n_FR_turn_ct, n_FR_turn_bk, n_FR_turn_rt, n_FR_turn_ex, n_FR_two_true, n_FR_two_false, n_FR_gd_true, List.getElem?_cons_zero, List.getElem?_cons_succ, List.set_cons_zero, List.set_cons_succ, List.map_cons, List.map_nil, List.all_cons, List.all_nil, Bool.and_true, Bool.true_and, Bool.and_false, Bool.false_and, Bool.not_true, Bool.not_false, view_non, view_bl, view_int, view_str, view_tup, view_lst, view_fn, view_scr, truth_bl, bin_addI, bin_subI, cmp_eqI, cmp_neI, cmp_eqS, cmp_neS, cmp_lt, cmp_le, cmp_gt, cmp_ge, cmp_inS, cmp_ninS, setTg_nm, setTg_tp, setTg_tq, setAll_nil, setAll_cons, wipe_nil, wipe_cons, noC_non, noC_bl, noC_int, noC_str, noC_tup, noC_lst, noC_ref, noC_fn, noC_scr, biV_len, biV_isInt, biV_isBool, biV_isStr, biV_isTuple, biV_int_, biV_bool_, biV_str_, biV_tuple_, biV_list_, biV_min2, biV_max2, biV_min1, biV_max1, biV_sum_, biV_all_, biV_any_, biV_abs_, len_S, len_T, len_L, len_R, int_I, tuple_L, tuple_T, list_L, list_T, Option.map_some, Option.map_none, items_S, items_T, items_L, idx_L, idx_T, idx_S, slc_L, slc_T, slc_S, isRf_ref, meV_join, meV_split, meV_repl, List.cons_append, List.nil_append, isInt_non, isInt_bl, isInt_int, isInt_str, isInt_tup, isInt_lst, isBool_non, isBool_bl, isBool_int, isBool_str, isBool_tup, isBool_lst, isStr_non, isStr_bl, isStr_int, isStr_str, isStr_tup, isStr_lst, isTuple_non, isTuple_bl, isTuple_int, isTuple_str, isTuple_tup, isTuple_lst, gl0, L14_1, s_law_readN n hp.1 hp.2 hS, e0])
  exact ⟨b7, k1⟩
theorem law_turn (n : Nat) (ns : List Int) {i : Nat} {a2 a3 a4 a5 a6 a7 : Option D} {S : Store} (hi : i < 20) (hS : SOk S) : ∃ b2 b3 b4 b5 b6 b7 T, evSs pg.gl (run pg (n + 8)) pg.exm pg.hot L14_2 [some (.scr ns), some (.int i), a2, a3, a4, a5, a6, a7] S = .nx [some (.scr ns), some (.int i), b2, b3, b4, b5, b6, b7] T ∧ SOk T := by
  obtain ⟨x, y, h1⟩ := s_source (n + 7) (ns := ns) (k := i) (by omega) hS
  have src : Src (S ++ [.lst [.int x, .int y]]) S.length := ⟨⟨x, y, at_last⟩, ok_push hS rfl⟩
  obtain ⟨_, T1, h3, e1, C, ts, rfl, ht⟩ := s_tile (n + 5) src (m := 6) (by decide) (by decide)
  have tx := txt_len ht
  have tsum := tile_sum ht
  have j1 := joinL (ts := ts) (by omega)
  have tt := s_tile_text (n + 4) ht e1.src.ok
  have lr := s_law_read (n + 5) (s := txt ts) (S := T1) (by omega) e1.src.ok
  rw [rd_tile ht] at lr
  have b1 : (!(txt ts == txt ts)) = false := by simp
  have b2 := ne_self (tl_plain ts 11)
  obtain ⟨b5, b6, b7, T2, k1, e2⟩ := law_bents n ns (i := i) (a5 := a5) (a6 := a6) (a7 := a7) e1.src ht
  obtain ⟨c7, k2⟩ := law_odds (n + 5) (some (.scr ns)) (some (.int i)) (some (.ref S.length)) (some (tl ts)) (some (.str (txt ts))) b5 b6 b7 (ts := ts) (s := txt ts) e2.src.ok
  simp only [evE_var, evE_cint, evE_cstr, evE_cbl, evE_cnon, evE_gl, evE_fnv, evE_tup, evE_lst, evE_alc, evE_bin, evE_neg, evE_cmp, evE_chn, evE_andE, evE_orE, evE_notE, evE_ite, evE_idx, evE_slc, evE_rev, evE_call, evE_callv, evE_refu, evE_isx, evE_bi, evE_mth, evE_comp, evE_comp2, evEs_nil, evEs_cons, evOp_no, evOp_yes, evC_no, evC_yes, evI_seq, evI_rng, evI_enm, evI_zip, evI_lsq, evS_asg, evS_par, evS_unp, evS_setI, evS_app, evS_expr, evS_ret, evS_retN, evS_ite, evS_for_, evS_while_, evS_rais, evS_raiV, evS_tryH, evS_pass, evS_brk, evS_cont, evSs_nil, evSs_cons, getV_0, getV_s, n_R_bind_ok, n_R_bind_ex, n_R_nox_ok, n_R_of_some, n_R_refu_ok, n_R_refu_ex, n_asInt_int, n_asBl_bl, n_asStr_str, n_asLst_lst, n_asSq_lst, n_asSq_tup, n_asFn_fn, n_asO_some, n_gd_true, n_two_true, n_two_false, n_FR_ofR_ok, n_FR_ofR_ex, n_FR_ofO_some, n_FR_thn_nx, n_FR_thn_rt, n_FR_thn_ex, n_FR_thn_ct, n_FR_thn_bk, n_FR_turn_nx, n_FR_turn_ct, n_FR_turn_bk, n_FR_turn_rt, n_FR_turn_ex, n_FR_two_true, n_FR_two_false, n_FR_gd_true, List.getElem?_cons_zero, List.getElem?_cons_succ, List.set_cons_zero, List.set_cons_succ, List.map_cons, List.map_nil, List.all_cons, List.all_nil, Bool.and_true, Bool.true_and, Bool.and_false, Bool.false_and, Bool.not_true, Bool.not_false, view_non, view_bl, view_int, view_str, view_tup, view_lst, view_fn, view_scr, truth_bl, bin_addI, bin_subI, cmp_eqI, cmp_neI, cmp_eqS, cmp_neS, cmp_lt, cmp_le, cmp_gt, cmp_ge, cmp_inS, cmp_ninS, setTg_nm, setTg_tp, setTg_tq, setAll_nil, setAll_cons, wipe_nil, wipe_cons, noC_non, noC_bl, noC_int, noC_str, noC_tup, noC_lst, noC_ref, noC_fn, noC_scr, biV_len, biV_isInt, biV_isBool, biV_isStr, biV_isTuple, biV_int_, biV_bool_, biV_str_, biV_tuple_, biV_list_, biV_min2, biV_max2, biV_min1, biV_max1, biV_sum_, biV_all_, biV_any_, biV_abs_, len_S, len_T, len_L, len_R, int_I, tuple_L, tuple_T, list_L, list_T, Option.map_some, Option.map_none, items_S, items_T, items_L, idx_L, idx_T, idx_S, slc_L, slc_T, slc_S, isRf_ref, meV_join, meV_split, meV_repl, List.cons_append, List.nil_append, isInt_non, isInt_bl, isInt_int, isInt_str, isInt_tup, isInt_lst, isBool_non, isBool_bl, isBool_int, isBool_str, isBool_tup, isBool_lst, isStr_non, isStr_bl, isStr_int, isStr_str, isStr_tup, isStr_lst, isTuple_non, isTuple_bl, isTuple_int, isTuple_str, isTuple_tup, isTuple_lst, gl0, L14_2, h1, h3, j1, tt, b1, lr, b2]
  rw [rng1 (by decide) (by decide)]
  rw [show (14 : Int).toNat = 14 from rfl]
  simp only [evE_var, evE_cint, evE_cstr, evE_cbl, evE_cnon, evE_gl, evE_fnv, evE_tup, evE_lst, evE_alc, evE_bin, evE_neg, evE_cmp, evE_chn, evE_andE, evE_orE, evE_notE, evE_ite, evE_idx, evE_slc, evE_rev, evE_call, evE_callv, evE_refu, evE_isx, evE_bi, evE_mth, evE_comp, evE_comp2, evEs_nil, evEs_cons, evOp_no, evOp_yes, evC_no, evC_yes, evI_seq, evI_rng, evI_enm, evI_zip, evI_lsq, evS_asg, evS_par, evS_unp, evS_setI, evS_app, evS_expr, evS_ret, evS_retN, evS_ite, evS_for_, evS_while_, evS_rais, evS_raiV, evS_tryH, evS_pass, evS_brk, evS_cont, evSs_nil, evSs_cons, getV_0, getV_s, n_R_bind_ok, n_R_bind_ex, n_R_nox_ok, n_R_of_some, n_R_refu_ok, n_R_refu_ex, n_asInt_int, n_asBl_bl, n_asStr_str, n_asLst_lst, n_asSq_lst, n_asSq_tup, n_asFn_fn, n_asO_some, n_gd_true, n_two_true, n_two_false, n_FR_ofR_ok, n_FR_ofR_ex, n_FR_ofO_some, n_FR_thn_nx, n_FR_thn_rt, n_FR_thn_ex, n_FR_thn_ct, n_FR_thn_bk, n_FR_turn_nx, n_FR_turn_ct, n_FR_turn_bk, n_FR_turn_rt, n_FR_turn_ex, n_FR_two_true, n_FR_two_false, n_FR_gd_true, List.getElem?_cons_zero, List.getElem?_cons_succ, List.set_cons_zero, List.set_cons_succ, List.map_cons, List.map_nil, List.all_cons, List.all_nil, Bool.and_true, Bool.true_and, Bool.and_false, Bool.false_and, Bool.not_true, Bool.not_false, view_non, view_bl, view_int, view_str, view_tup, view_lst, view_fn, view_scr, truth_bl, bin_addI, bin_subI, cmp_eqI, cmp_neI, cmp_eqS, cmp_neS, cmp_lt, cmp_le, cmp_gt, cmp_ge, cmp_inS, cmp_ninS, setTg_nm, setTg_tp, setTg_tq, setAll_nil, setAll_cons, wipe_nil, wipe_cons, noC_non, noC_bl, noC_int, noC_str, noC_tup, noC_lst, noC_ref, noC_fn, noC_scr, biV_len, biV_isInt, biV_isBool, biV_isStr, biV_isTuple, biV_int_, biV_bool_, biV_str_, biV_tuple_, biV_list_, biV_min2, biV_max2, biV_min1, biV_max1, biV_sum_, biV_all_, biV_any_, biV_abs_, len_S, len_T, len_L, len_R, int_I, tuple_L, tuple_T, list_L, list_T, Option.map_some, Option.map_none, items_S, items_T, items_L, idx_L, idx_T, idx_S, slc_L, slc_T, slc_S, isRf_ref, meV_join, meV_split, meV_repl, List.cons_append, List.nil_append, isInt_non, isInt_bl, isInt_int, isInt_str, isInt_tup, isInt_lst, isBool_non, isBool_bl, isBool_int, isBool_str, isBool_tup, isBool_lst, isStr_non, isStr_bl, isStr_int, isStr_str, isStr_tup, isStr_lst, isTuple_non, isTuple_bl, isTuple_int, isTuple_str, isTuple_tup, isTuple_lst, gl0, k1, k2]
  exact ⟨_, _, _, _, _, _, _, rfl, e2.src.ok⟩
theorem law_runs : ∀ ns : List Int, run pg (14 + 1) (.fn 14) [.scr ns] [] = .ok (.bl true) [] := by
  intro ns
  rw [run14]
  obtain ⟨m, hm, hm'⟩ : ∃ m : Nat, biMax2 [.int 6, .int (if ((ns.length : Nat) : Int) < 16 then (ns.length : Int) else 16)] = some (.int (m : Int)) ∧ m ≤ 16 := by
    refine ⟨max 6 (min 16 ns.length), ?_, by omega⟩
    rw [max2_I]
    congr 2
    split <;> split <;> omega
  simp only [evE_var, evE_cint, evE_cstr, evE_cbl, evE_cnon, evE_gl, evE_fnv, evE_tup, evE_lst, evE_alc, evE_bin, evE_neg, evE_cmp, evE_chn, evE_andE, evE_orE, evE_notE, evE_ite, evE_idx, evE_slc, evE_rev, evE_call, evE_callv, evE_refu, evE_isx, evE_bi, evE_mth, evE_comp, evE_comp2, evEs_nil, evEs_cons, evOp_no, evOp_yes, evC_no, evC_yes, evI_seq, evI_rng, evI_enm, evI_zip, evI_lsq, evS_asg, evS_par, evS_unp, evS_setI, evS_app, evS_expr, evS_ret, evS_retN, evS_ite, evS_for_, evS_while_, evS_rais, evS_raiV, evS_tryH, evS_pass, evS_brk, evS_cont, evSs_nil, evSs_cons, getV_0, getV_s, n_R_bind_ok, n_R_bind_ex, n_R_nox_ok, n_R_of_some, n_R_refu_ok, n_R_refu_ex, n_asInt_int, n_asBl_bl, n_asStr_str, n_asLst_lst, n_asSq_lst, n_asSq_tup, n_asFn_fn, n_asO_some, n_gd_true, n_two_true, n_two_false, n_FR_ofR_ok, n_FR_ofR_ex, n_FR_ofO_some, n_FR_thn_nx, n_FR_thn_rt, n_FR_thn_ex, n_FR_thn_ct, n_FR_thn_bk, n_FR_turn_nx, n_FR_turn_ct, n_FR_turn_bk, n_FR_turn_rt, n_FR_turn_ex, n_FR_two_true, n_FR_two_false, n_FR_gd_true, List.getElem?_cons_zero, List.getElem?_cons_succ, List.set_cons_zero, List.set_cons_succ, List.map_cons, List.map_nil, List.all_cons, List.all_nil, Bool.and_true, Bool.true_and, Bool.and_false, Bool.false_and, Bool.not_true, Bool.not_false, view_non, view_bl, view_int, view_str, view_tup, view_lst, view_fn, view_scr, truth_bl, bin_addI, bin_subI, cmp_eqI, cmp_neI, cmp_eqS, cmp_neS, cmp_lt, cmp_le, cmp_gt, cmp_ge, cmp_inS, cmp_ninS, setTg_nm, setTg_tp, setTg_tq, setAll_nil, setAll_cons, wipe_nil, wipe_cons, noC_non, noC_bl, noC_int, noC_str, noC_tup, noC_lst, noC_ref, noC_fn, noC_scr, biV_len, biV_isInt, biV_isBool, biV_isStr, biV_isTuple, biV_int_, biV_bool_, biV_str_, biV_tuple_, biV_list_, biV_min2, biV_max2, biV_min1, biV_max1, biV_sum_, biV_all_, biV_any_, biV_abs_, len_S, len_T, len_L, len_R, int_I, tuple_L, tuple_T, list_L, list_T, Option.map_some, Option.map_none, items_S, items_T, items_L, idx_L, idx_T, idx_S, slc_L, slc_T, slc_S, isRf_ref, meV_join, meV_split, meV_repl, List.cons_append, List.nil_append, isInt_non, isInt_bl, isInt_int, isInt_str, isInt_tup, isInt_lst, isBool_non, isBool_bl, isBool_int, isBool_str, isBool_tup, isBool_lst, isStr_non, isStr_bl, isStr_int, isStr_str, isStr_tup, isStr_lst, isTuple_non, isTuple_bl, isTuple_int, isTuple_str, isTuple_tup, isTuple_lst, gl0, B14, min2_I, hm]
  rw [rng1 (by omega) (by omega)]
  simp only [evE_var, evE_cint, evE_cstr, evE_cbl, evE_cnon, evE_gl, evE_fnv, evE_tup, evE_lst, evE_alc, evE_bin, evE_neg, evE_cmp, evE_chn, evE_andE, evE_orE, evE_notE, evE_ite, evE_idx, evE_slc, evE_rev, evE_call, evE_callv, evE_refu, evE_isx, evE_bi, evE_mth, evE_comp, evE_comp2, evEs_nil, evEs_cons, evOp_no, evOp_yes, evC_no, evC_yes, evI_seq, evI_rng, evI_enm, evI_zip, evI_lsq, evS_asg, evS_par, evS_unp, evS_setI, evS_app, evS_expr, evS_ret, evS_retN, evS_ite, evS_for_, evS_while_, evS_rais, evS_raiV, evS_tryH, evS_pass, evS_brk, evS_cont, evSs_nil, evSs_cons, getV_0, getV_s, n_R_bind_ok, n_R_bind_ex, n_R_nox_ok, n_R_of_some, n_R_refu_ok, n_R_refu_ex, n_asInt_int, n_asBl_bl, n_asStr_str, n_asLst_lst, n_asSq_lst, n_asSq_tup, n_asFn_fn, n_asO_some, n_gd_true, n_two_true, n_two_false, n_FR_ofR_ok, n_FR_ofR_ex, n_FR_ofO_some, n_FR_thn_nx, n_FR_thn_rt, n_FR_thn_ex, n_FR_thn_ct, n_FR_thn_bk, n_FR_turn_nx, n_FR_turn_ct, n_FR_turn_bk, n_FR_turn_rt, n_FR_turn_ex, n_FR_two_true, n_FR_two_false, n_FR_gd_true, List.getElem?_cons_zero, List.getElem?_cons_succ, List.set_cons_zero, List.set_cons_succ, List.map_cons, List.map_nil, List.all_cons, List.all_nil, Bool.and_true, Bool.true_and, Bool.and_false, Bool.false_and, Bool.not_true, Bool.not_false, view_non, view_bl, view_int, view_str, view_tup, view_lst, view_fn, view_scr, truth_bl, bin_addI, bin_subI, cmp_eqI, cmp_neI, cmp_eqS, cmp_neS, cmp_lt, cmp_le, cmp_gt, cmp_ge, cmp_inS, cmp_ninS, setTg_nm, setTg_tp, setTg_tq, setAll_nil, setAll_cons, wipe_nil, wipe_cons, noC_non, noC_bl, noC_int, noC_str, noC_tup, noC_lst, noC_ref, noC_fn, noC_scr, biV_len, biV_isInt, biV_isBool, biV_isStr, biV_isTuple, biV_int_, biV_bool_, biV_str_, biV_tuple_, biV_list_, biV_min2, biV_max2, biV_min1, biV_max1, biV_sum_, biV_all_, biV_any_, biV_abs_, len_S, len_T, len_L, len_R, int_I, tuple_L, tuple_T, list_L, list_T, Option.map_some, Option.map_none, items_S, items_T, items_L, idx_L, idx_T, idx_S, slc_L, slc_T, slc_S, isRf_ref, meV_join, meV_split, meV_repl, List.cons_append, List.nil_append, isInt_non, isInt_bl, isInt_int, isInt_str, isInt_tup, isInt_lst, isBool_non, isBool_bl, isBool_int, isBool_str, isBool_tup, isBool_lst, isStr_non, isStr_bl, isStr_int, isStr_str, isStr_tup, isStr_lst, isTuple_non, isTuple_bl, isTuple_int, isTuple_str, isTuple_tup, isTuple_lst, gl0, Int.toNat_natCast]
  obtain ⟨e', S', g1, ⟨a1, a2, a3, a4, a5, a6, a7, rfl⟩, g3⟩ := forL_inv (g := setTg (.nm 1)) (body := evSs pg.gl (run pg 14) pg.exm pg.hot L14_2)
    (fun e T => (∃ a1 a2 a3 a4 a5 a6 a7, e = [some (.scr ns), a1, a2, a3, a4, a5, a6, a7]) ∧ SOk T)
    (rangeL 0 m) [some (.scr ns), none, none, none, none, none, none, none] [] ⟨⟨_, _, _, _, _, _, _, rfl⟩, rfl⟩ (fun x hx e T ⟨⟨a1, a2, a3, a4, a5, a6, a7, he⟩, hT⟩ => by
      subst he
      obtain ⟨i, hi, rfl⟩ := mem_range0 hx
      obtain ⟨b2, b3, b4, b5, b6, b7, U, h1, h2⟩ := law_turn 6 ns (i := i) (a2 := a2) (a3 := a3) (a4 := a4) (a5 := a5) (a6 := a6) (a7 := a7) (by omega) hT
      exact ⟨_, rfl, _, _, .inl h1, ⟨_, _, _, _, _, _, _, rfl⟩, h2⟩)
  simp only [evE_var, evE_cint, evE_cstr, evE_cbl, evE_cnon, evE_gl, evE_fnv, evE_tup, evE_lst, evE_alc, evE_bin, evE_neg, evE_cmp, evE_chn, evE_andE, evE_orE, evE_notE, evE_ite, evE_idx, evE_slc, evE_rev, evE_call, evE_callv, evE_refu, evE_isx, evE_bi, evE_mth, evE_comp, evE_comp2, evEs_nil, evEs_cons, evOp_no, evOp_yes, evC_no, evC_yes, evI_seq, evI_rng, evI_enm, evI_zip, evI_lsq, evS_asg, evS_par, evS_unp, evS_setI, evS_app, evS_expr, evS_ret, evS_retN, evS_ite, evS_for_, evS_while_, evS_rais, evS_raiV, evS_tryH, evS_pass, evS_brk, evS_cont, evSs_nil, evSs_cons, getV_0, getV_s, n_R_bind_ok, n_R_bind_ex, n_R_nox_ok, n_R_of_some, n_R_refu_ok, n_R_refu_ex, n_asInt_int, n_asBl_bl, n_asStr_str, n_asLst_lst, n_asSq_lst, n_asSq_tup, n_asFn_fn, n_asO_some, n_gd_true, n_two_true, n_two_false, n_FR_ofR_ok, n_FR_ofR_ex, n_FR_ofO_some, n_FR_thn_nx, n_FR_thn_rt, n_FR_thn_ex, n_FR_thn_ct, n_FR_thn_bk, n_FR_turn_nx, n_FR_turn_ct, n_FR_turn_bk, n_FR_turn_rt, n_FR_turn_ex, n_FR_two_true, n_FR_two_false, n_FR_gd_true, List.getElem?_cons_zero, List.getElem?_cons_succ, List.set_cons_zero, List.set_cons_succ, List.map_cons, List.map_nil, List.all_cons, List.all_nil, Bool.and_true, Bool.true_and, Bool.and_false, Bool.false_and, Bool.not_true, Bool.not_false, view_non, view_bl, view_int, view_str, view_tup, view_lst, view_fn, view_scr, truth_bl, bin_addI, bin_subI, cmp_eqI, cmp_neI, cmp_eqS, cmp_neS, cmp_lt, cmp_le, cmp_gt, cmp_ge, cmp_inS, cmp_ninS, setTg_nm, setTg_tp, setTg_tq, setAll_nil, setAll_cons, wipe_nil, wipe_cons, noC_non, noC_bl, noC_int, noC_str, noC_tup, noC_lst, noC_ref, noC_fn, noC_scr, biV_len, biV_isInt, biV_isBool, biV_isStr, biV_isTuple, biV_int_, biV_bool_, biV_str_, biV_tuple_, biV_list_, biV_min2, biV_max2, biV_min1, biV_max1, biV_sum_, biV_all_, biV_any_, biV_abs_, len_S, len_T, len_L, len_R, int_I, tuple_L, tuple_T, list_L, list_T, Option.map_some, Option.map_none, items_S, items_T, items_L, idx_L, idx_T, idx_S, slc_L, slc_T, slc_S, isRf_ref, meV_join, meV_split, meV_repl, List.cons_append, List.nil_append, isInt_non, isInt_bl, isInt_int, isInt_str, isInt_tup, isInt_lst, isBool_non, isBool_bl, isBool_int, isBool_str, isBool_tup, isBool_lst, isStr_non, isStr_bl, isStr_int, isStr_str, isStr_tup, isStr_lst, isTuple_non, isTuple_bl, isTuple_int, isTuple_str, isTuple_tup, isTuple_lst, gl0, g1, s_written 9 g3]
  rfl
end My
set_option Elab.async false
set_option linter.all false
set_option maxRecDepth 100000
set_option maxHeartbeats 0
namespace My
open PySem PySem.Spec PyProof.Rows L2 Rx
def top (i : Nat) : Stmt := PySem.Challenge.pw_anylights_k82_whole_tiles_written_and_re.main.body.getD i (.Pass ⟨0, 0, 0, 0⟩)
def N0 : List Str := ["value", "sign"]
theorem C0 : chkSs T N0 F0.body { sc := defScope (top 16), own := fun _ => true, rf := false } (defBody (top 16)) = true := by decide +kernel
def N1 : List Str := ["value", "line"]
theorem C1 : chkSs T N1 F1.body { sc := defScope (top 17), own := fun _ => true, rf := false } (defBody (top 17)) = true := by decide +kernel
def N2 : List Str := ["value"]
theorem C2 : chkSs T N2 F2.body { sc := defScope (top 18), own := fun _ => true, rf := false } (defBody (top 18)) = true := by decide +kernel
def N3 : List Str := ["tile"]
theorem C3 : chkSs T N3 F3.body { sc := defScope (top 20), own := fun _ => true, rf := false } (defBody (top 20)) = true := by decide +kernel
def N4 : List Str := ["tile"]
theorem C4 : chkSs T N4 F4.body { sc := defScope (top 21), own := fun _ => true, rf := false } (defBody (top 21)) = true := by decide +kernel
def N5 : List Str := ["value", "parts", "at", "part"]
theorem C5 : chkSs T N5 F5.body { sc := defScope (top 22), own := fun _ => true, rf := false } (defBody (top 22)) = true := by decide +kernel
def N6 : List Str := ["_law_script", "_law_k", "_law_number", "_law_start"]
theorem C6 : chkSs T N6 F6.body { sc := defScope (top 24), own := fun _ => true, rf := false } (defBody (top 24)) = true := by decide +kernel
def N7 : List Str := ["_law_source_here", "_law_many", "_law_found"]
theorem C7 : chkSs T N7 F7.body { sc := defScope (top 25), own := fun _ => true, rf := false } (defBody (top 25)) = true := by decide +kernel
def N8 : List Str := ["_law_source_here", "_law_things"]
theorem C8 : chkSs T N8 F8.body { sc := defScope (top 26), own := fun _ => true, rf := false } (defBody (top 26)) = true := by decide +kernel
def N9 : List Str := ["_law_source_here", "_law_most_so", "_law_wide", "_law_blocks", "_law_found", "_law_turn", "_law_at"]
theorem C9 : chkSs T N9 F9.body { sc := defScope (top 29), own := fun _ => true, rf := false } (defBody (top 29)) = true := by decide +kernel
def N10 : List Str := ["_law_text_so", "_law_parts_so", "_law_at", "_law_part"]
theorem C10 : chkSs T N10 F10.body { sc := defScope (top 30), own := fun _ => true, rf := false } (defBody (top 30)) = true := by decide +kernel
def N11 : List Str := ["_law_value", "_law_e"]
theorem C11 : chkSs T N11 F11.body { sc := defScope (top 31), own := fun _ => true, rf := false } (defBody (top 31)) = true := by decide +kernel
def N12 : List Str := ["_law_source_here", "_law_text_so", "_law_at", "_law_way", "_law_parts_so", "_law_here", "_law_more"]
theorem C12 : chkSs T N12 F12.body { sc := defScope (top 32), own := fun _ => true, rf := false } (defBody (top 32)) = true := by decide +kernel
def N13 : List Str := ["_law_some", "_law_text_so", "_law_due_here"]
theorem C13 : chkSs T N13 F13.body { sc := defScope (top 33), own := fun _ => true, rf := true } (defBody (top 33)) = true := by decide +kernel
def N14 : List Str := ["_law_script", "_law_k", "_law_source_here", "_law_tile_so", "_law_text_so", "_law_turn", "_law_bent_here", "_law_odd"]
theorem C14 : chkSs T N14 F14.body { sc := defScope (top 34), own := fun _ => true, rf := false } (defBody (top 34)) = true := by decide +kernel
def dd0 : He.DefD := ⟨("is_line", none), "is_line", "is_line", defArgs (top 16), defBody (top 16), defScope (top 16), [], []⟩
def dd1 : He.DefD := ⟨("is_right_tile", none), "is_right_tile", "is_right_tile", defArgs (top 17), defBody (top 17), defScope (top 17), [], []⟩
def dd2 : He.DefD := ⟨("need_tile", none), "need_tile", "need_tile", defArgs (top 18), defBody (top 18), defScope (top 18), [], []⟩
def dd3 : He.DefD := ⟨("text_of", none), "text_of", "text_of", defArgs (top 20), defBody (top 20), defScope (top 20), [], []⟩
def dd4 : He.DefD := ⟨("tile_text", none), "tile_text", "tile_text", defArgs (top 21), defBody (top 21), defScope (top 21), [], []⟩
def dd5 : He.DefD := ⟨("read_tile", none), "read_tile", "read_tile", defArgs (top 22), defBody (top 22), defScope (top 22), [], []⟩
def dd6 : He.DefD := ⟨("_law_source", none), "_law_source", "_law_source", defArgs (top 24), defBody (top 24), defScope (top 24), [], []⟩
def dd7 : He.DefD := ⟨("_law_pick", none), "_law_pick", "_law_pick", defArgs (top 25), defBody (top 25), defScope (top 25), [], []⟩
def dd8 : He.DefD := ⟨("_law_chosen", none), "_law_chosen", "_law_chosen", defArgs (top 26), defBody (top 26), defScope (top 26), [], []⟩
def dd9 : He.DefD := ⟨("_law_tile", none), "_law_tile", "_law_tile", defArgs (top 29), defBody (top 29), defScope (top 29), [], []⟩
def dd10 : He.DefD := ⟨("_law_due", none), "_law_due", "_law_due", defArgs (top 30), defBody (top 30), defScope (top 30), [], []⟩
def dd11 : He.DefD := ⟨("_law_read", none), "_law_read", "_law_read", defArgs (top 31), defBody (top 31), defScope (top 31), [], []⟩
def dd12 : He.DefD := ⟨("_law_bent", none), "_law_bent", "_law_bent", defArgs (top 32), defBody (top 32), defScope (top 32), [], []⟩
def dd13 : He.DefD := ⟨("_law_written", none), "_law_written", "_law_written", defArgs (top 33), defBody (top 33), defScope (top 33), [], []⟩
def dd14 : He.DefD := ⟨("law", none), "law", "law", defArgs (top 34), defBody (top 34), defScope (top 34), [], []⟩
def dd15 : He.DefD := ⟨("_law_refused", none), "_law_refused", "_law_refused", defArgs (top 27), defBody (top 27), defScope (top 27), [], []⟩
def dd16 : He.DefD := ⟨("_law_error", none), "_law_error", "_law_error", defArgs (top 28), defBody (top 28), defScope (top 28), [], []⟩
def fn : List He.DefD := [dd0, dd1, dd2, dd3, dd4, dd5, dd6, dd7, dd8, dd9, dd10, dd11, dd12, dd13, dd14, dd15, dd16]
def lamds : List He.DefD := [dd13]
def tf : List He.Defn := lamds.map (·.at_)
def fa : List He.Fa := faOf T "LightError" "_law_error"
def ex : PySem.W.Frag → Bool := exOf T lamds PySem.Challenge.rw_anylights_k82_whole_tiles_written_and_re.prog.main.file
abbrev Zk (K : PySem.W.Frag) : Ze := Zof T K lamds
theorem sc0 : FnScope N0 (N0.take 1) (defScope (top 16)) := ⟨rfl, rfl, rfl, by decide +kernel, rfl, by decide +kernel, by decide +kernel⟩
theorem dx0 {K : PySem.W.Frag} {h : Heap} {base : Heap} {mg : Str → Option Value} {w : World} (c : He.SaysX fa fn [] tf ex w h K) (hB : tblB K lamds = true) (TB : ∀ p ∈ (lamds.map (·.at_)).map (He.cT K), LamX.TabB base mg p.1 p.2) :
    ∃ fd, DefX (Zk K) T pg K mg base 0 1 "is_line" "is_line" (defArgs (top 16)) (defBody (top 16)) (defScope (top 16)) fd N0 F0 false := by
  obtain ⟨fd, F⟩ := c.t.d.def_ 0 (d := dd0) rfl
  exact ⟨fd, F, rfl, rfl, rfl, rfl, sc0, C0, F.bindsN fun _ _ _ _ _ _ us hl => match us, hl with | [_], _ => rfl, fun h => Bool.noConfusion h⟩
theorem sc1 : FnScope N1 (N1.take 1) (defScope (top 17)) := ⟨rfl, rfl, rfl, by decide +kernel, rfl, by decide +kernel, by decide +kernel⟩
theorem dx1 {K : PySem.W.Frag} {h : Heap} {base : Heap} {mg : Str → Option Value} {w : World} (c : He.SaysX fa fn [] tf ex w h K) (hB : tblB K lamds = true) (TB : ∀ p ∈ (lamds.map (·.at_)).map (He.cT K), LamX.TabB base mg p.1 p.2) :
    ∃ fd, DefX (Zk K) T pg K mg base 1 1 "is_right_tile" "is_right_tile" (defArgs (top 17)) (defBody (top 17)) (defScope (top 17)) fd N1 F1 false := by
  obtain ⟨fd, F⟩ := c.t.d.def_ 1 (d := dd1) rfl
  exact ⟨fd, F, rfl, rfl, rfl, rfl, sc1, C1, F.bindsN fun _ _ _ _ _ _ us hl => match us, hl with | [_], _ => rfl, fun h => Bool.noConfusion h⟩
theorem sc2 : FnScope N2 (N2.take 1) (defScope (top 18)) := ⟨rfl, rfl, rfl, by decide +kernel, rfl, by decide +kernel, by decide +kernel⟩
theorem dx2 {K : PySem.W.Frag} {h : Heap} {base : Heap} {mg : Str → Option Value} {w : World} (c : He.SaysX fa fn [] tf ex w h K) (hB : tblB K lamds = true) (TB : ∀ p ∈ (lamds.map (·.at_)).map (He.cT K), LamX.TabB base mg p.1 p.2) :
    ∃ fd, DefX (Zk K) T pg K mg base 2 1 "need_tile" "need_tile" (defArgs (top 18)) (defBody (top 18)) (defScope (top 18)) fd N2 F2 false := by
  obtain ⟨fd, F⟩ := c.t.d.def_ 2 (d := dd2) rfl
  exact ⟨fd, F, rfl, rfl, rfl, rfl, sc2, C2, F.bindsN fun _ _ _ _ _ _ us hl => match us, hl with | [_], _ => rfl, fun h => Bool.noConfusion h⟩
theorem sc3 : FnScope N3 (N3.take 1) (defScope (top 20)) := ⟨rfl, rfl, rfl, by decide +kernel, rfl, by decide +kernel, by decide +kernel⟩
theorem dx3 {K : PySem.W.Frag} {h : Heap} {base : Heap} {mg : Str → Option Value} {w : World} (c : He.SaysX fa fn [] tf ex w h K) (hB : tblB K lamds = true) (TB : ∀ p ∈ (lamds.map (·.at_)).map (He.cT K), LamX.TabB base mg p.1 p.2) :
    ∃ fd, DefX (Zk K) T pg K mg base 3 1 "text_of" "text_of" (defArgs (top 20)) (defBody (top 20)) (defScope (top 20)) fd N3 F3 false := by
  obtain ⟨fd, F⟩ := c.t.d.def_ 3 (d := dd3) rfl
  exact ⟨fd, F, rfl, rfl, rfl, rfl, sc3, C3, F.bindsN fun _ _ _ _ _ _ us hl => match us, hl with | [_], _ => rfl, fun h => Bool.noConfusion h⟩
theorem sc4 : FnScope N4 (N4.take 1) (defScope (top 21)) := ⟨rfl, rfl, rfl, by decide +kernel, rfl, by decide +kernel, by decide +kernel⟩
theorem dx4 {K : PySem.W.Frag} {h : Heap} {base : Heap} {mg : Str → Option Value} {w : World} (c : He.SaysX fa fn [] tf ex w h K) (hB : tblB K lamds = true) (TB : ∀ p ∈ (lamds.map (·.at_)).map (He.cT K), LamX.TabB base mg p.1 p.2) :
    ∃ fd, DefX (Zk K) T pg K mg base 4 1 "tile_text" "tile_text" (defArgs (top 21)) (defBody (top 21)) (defScope (top 21)) fd N4 F4 false := by
  obtain ⟨fd, F⟩ := c.t.d.def_ 4 (d := dd4) rfl
  exact ⟨fd, F, rfl, rfl, rfl, rfl, sc4, C4, F.bindsN fun _ _ _ _ _ _ us hl => match us, hl with | [_], _ => rfl, fun h => Bool.noConfusion h⟩
theorem sc5 : FnScope N5 (N5.take 1) (defScope (top 22)) := ⟨rfl, rfl, rfl, by decide +kernel, rfl, by decide +kernel, by decide +kernel⟩
theorem dx5 {K : PySem.W.Frag} {h : Heap} {base : Heap} {mg : Str → Option Value} {w : World} (c : He.SaysX fa fn [] tf ex w h K) (hB : tblB K lamds = true) (TB : ∀ p ∈ (lamds.map (·.at_)).map (He.cT K), LamX.TabB base mg p.1 p.2) :
    ∃ fd, DefX (Zk K) T pg K mg base 5 1 "read_tile" "read_tile" (defArgs (top 22)) (defBody (top 22)) (defScope (top 22)) fd N5 F5 false := by
  obtain ⟨fd, F⟩ := c.t.d.def_ 5 (d := dd5) rfl
  exact ⟨fd, F, rfl, rfl, rfl, rfl, sc5, C5, F.bindsN fun _ _ _ _ _ _ us hl => match us, hl with | [_], _ => rfl, fun h => Bool.noConfusion h⟩
theorem sc6 : FnScope N6 (N6.take 2) (defScope (top 24)) := ⟨rfl, rfl, rfl, by decide +kernel, rfl, by decide +kernel, by decide +kernel⟩
theorem dx6 {K : PySem.W.Frag} {h : Heap} {base : Heap} {mg : Str → Option Value} {w : World} (c : He.SaysX fa fn [] tf ex w h K) (hB : tblB K lamds = true) (TB : ∀ p ∈ (lamds.map (·.at_)).map (He.cT K), LamX.TabB base mg p.1 p.2) :
    ∃ fd, DefX (Zk K) T pg K mg base 6 2 "_law_source" "_law_source" (defArgs (top 24)) (defBody (top 24)) (defScope (top 24)) fd N6 F6 false := by
  obtain ⟨fd, F⟩ := c.t.d.def_ 6 (d := dd6) rfl
  exact ⟨fd, F, rfl, rfl, rfl, rfl, sc6, C6, F.bindsN fun _ _ _ _ _ _ us hl => match us, hl with | [_, _], _ => rfl, fun h => Bool.noConfusion h⟩
theorem sc7 : FnScope N7 (N7.take 2) (defScope (top 25)) := ⟨rfl, rfl, rfl, by decide +kernel, rfl, by decide +kernel, by decide +kernel⟩
theorem dx7 {K : PySem.W.Frag} {h : Heap} {base : Heap} {mg : Str → Option Value} {w : World} (c : He.SaysX fa fn [] tf ex w h K) (hB : tblB K lamds = true) (TB : ∀ p ∈ (lamds.map (·.at_)).map (He.cT K), LamX.TabB base mg p.1 p.2) :
    ∃ fd, DefX (Zk K) T pg K mg base 7 2 "_law_pick" "_law_pick" (defArgs (top 25)) (defBody (top 25)) (defScope (top 25)) fd N7 F7 false := by
  obtain ⟨fd, F⟩ := c.t.d.def_ 7 (d := dd7) rfl
  exact ⟨fd, F, rfl, rfl, rfl, rfl, sc7, C7, F.bindsN fun _ _ _ _ _ _ us hl => match us, hl with | [_, _], _ => rfl, fun h => Bool.noConfusion h⟩
theorem sc8 : FnScope N8 (N8.take 2) (defScope (top 26)) := ⟨rfl, rfl, rfl, by decide +kernel, rfl, by decide +kernel, by decide +kernel⟩
theorem dx8 {K : PySem.W.Frag} {h : Heap} {base : Heap} {mg : Str → Option Value} {w : World} (c : He.SaysX fa fn [] tf ex w h K) (hB : tblB K lamds = true) (TB : ∀ p ∈ (lamds.map (·.at_)).map (He.cT K), LamX.TabB base mg p.1 p.2) :
    ∃ fd, DefX (Zk K) T pg K mg base 8 2 "_law_chosen" "_law_chosen" (defArgs (top 26)) (defBody (top 26)) (defScope (top 26)) fd N8 F8 false := by
  obtain ⟨fd, F⟩ := c.t.d.def_ 8 (d := dd8) rfl
  exact ⟨fd, F, rfl, rfl, rfl, rfl, sc8, C8, F.bindsN fun _ _ _ _ _ _ us hl => match us, hl with | [_, _], _ => rfl, fun h => Bool.noConfusion h⟩
theorem sc9 : FnScope N9 (N9.take 2) (defScope (top 29)) := ⟨rfl, rfl, rfl, by decide +kernel, rfl, by decide +kernel, by decide +kernel⟩
theorem dx9 {K : PySem.W.Frag} {h : Heap} {base : Heap} {mg : Str → Option Value} {w : World} (c : He.SaysX fa fn [] tf ex w h K) (hB : tblB K lamds = true) (TB : ∀ p ∈ (lamds.map (·.at_)).map (He.cT K), LamX.TabB base mg p.1 p.2) :
    ∃ fd, DefX (Zk K) T pg K mg base 9 2 "_law_tile" "_law_tile" (defArgs (top 29)) (defBody (top 29)) (defScope (top 29)) fd N9 F9 false := by
  obtain ⟨fd, F⟩ := c.t.d.def_ 9 (d := dd9) rfl
  exact ⟨fd, F, rfl, rfl, rfl, rfl, sc9, C9, F.bindsN fun _ _ _ _ _ _ us hl => match us, hl with | [_, _], _ => rfl, fun h => Bool.noConfusion h⟩
theorem sc10 : FnScope N10 (N10.take 1) (defScope (top 30)) := ⟨rfl, rfl, rfl, by decide +kernel, rfl, by decide +kernel, by decide +kernel⟩
theorem dx10 {K : PySem.W.Frag} {h : Heap} {base : Heap} {mg : Str → Option Value} {w : World} (c : He.SaysX fa fn [] tf ex w h K) (hB : tblB K lamds = true) (TB : ∀ p ∈ (lamds.map (·.at_)).map (He.cT K), LamX.TabB base mg p.1 p.2) :
    ∃ fd, DefX (Zk K) T pg K mg base 10 1 "_law_due" "_law_due" (defArgs (top 30)) (defBody (top 30)) (defScope (top 30)) fd N10 F10 false := by
  obtain ⟨fd, F⟩ := c.t.d.def_ 10 (d := dd10) rfl
  exact ⟨fd, F, rfl, rfl, rfl, rfl, sc10, C10, F.bindsN fun _ _ _ _ _ _ us hl => match us, hl with | [_], _ => rfl, fun h => Bool.noConfusion h⟩
theorem sc11 : FnScope N11 (N11.take 1) (defScope (top 31)) := ⟨rfl, rfl, rfl, by decide +kernel, rfl, by decide +kernel, by decide +kernel⟩
theorem dx11 {K : PySem.W.Frag} {h : Heap} {base : Heap} {mg : Str → Option Value} {w : World} (c : He.SaysX fa fn [] tf ex w h K) (hB : tblB K lamds = true) (TB : ∀ p ∈ (lamds.map (·.at_)).map (He.cT K), LamX.TabB base mg p.1 p.2) :
    ∃ fd, DefX (Zk K) T pg K mg base 11 1 "_law_read" "_law_read" (defArgs (top 31)) (defBody (top 31)) (defScope (top 31)) fd N11 F11 false := by
  obtain ⟨fd, F⟩ := c.t.d.def_ 11 (d := dd11) rfl
  exact ⟨fd, F, rfl, rfl, rfl, rfl, sc11, C11, F.bindsN fun _ _ _ _ _ _ us hl => match us, hl with | [_], _ => rfl, fun h => Bool.noConfusion h⟩
theorem sc12 : FnScope N12 (N12.take 2) (defScope (top 32)) := ⟨rfl, rfl, rfl, by decide +kernel, rfl, by decide +kernel, by decide +kernel⟩
theorem dx12 {K : PySem.W.Frag} {h : Heap} {base : Heap} {mg : Str → Option Value} {w : World} (c : He.SaysX fa fn [] tf ex w h K) (hB : tblB K lamds = true) (TB : ∀ p ∈ (lamds.map (·.at_)).map (He.cT K), LamX.TabB base mg p.1 p.2) :
    ∃ fd, DefX (Zk K) T pg K mg base 12 2 "_law_bent" "_law_bent" (defArgs (top 32)) (defBody (top 32)) (defScope (top 32)) fd N12 F12 false := by
  obtain ⟨fd, F⟩ := c.t.d.def_ 12 (d := dd12) rfl
  exact ⟨fd, F, rfl, rfl, rfl, rfl, sc12, C12, F.bindsN fun _ _ _ _ _ _ us hl => match us, hl with | [_, _], _ => rfl, fun h => Bool.noConfusion h⟩
theorem sc13 : FnScope N13 (N13.take 0) (defScope (top 33)) := ⟨rfl, rfl, rfl, by decide +kernel, rfl, by decide +kernel, by decide +kernel⟩
theorem dx13 {K : PySem.W.Frag} {h : Heap} {base : Heap} {mg : Str → Option Value} {w : World} (c : He.SaysX fa fn [] tf ex w h K) (hB : tblB K lamds = true) (TB : ∀ p ∈ (lamds.map (·.at_)).map (He.cT K), LamX.TabB base mg p.1 p.2) :
    ∃ fd, DefX (Zk K) T pg K mg base 13 0 "_law_written" "_law_written" (defArgs (top 33)) (defBody (top 33)) (defScope (top 33)) fd N13 F13 true := by
  obtain ⟨fd, F⟩ := c.t.d.def_ 13 (d := dd13) rfl
  exact ⟨fd, F, rfl, rfl, rfl, rfl, sc13, C13, F.bindsN fun _ _ _ _ _ _ us hl => match us, hl with | [], _ => rfl, fun _ => lam_of (d := dd13) (by simp [lamds]) F hB TB⟩
theorem sc14 : FnScope N14 (N14.take 1) (defScope (top 34)) := ⟨rfl, rfl, rfl, by decide +kernel, rfl, by decide +kernel, by decide +kernel⟩
theorem dx14 {K : PySem.W.Frag} {h : Heap} {base : Heap} {mg : Str → Option Value} {w : World} (c : He.SaysX fa fn [] tf ex w h K) (hB : tblB K lamds = true) (TB : ∀ p ∈ (lamds.map (·.at_)).map (He.cT K), LamX.TabB base mg p.1 p.2) :
    ∃ fd, DefX (Zk K) T pg K mg base 14 1 "law" "law" (defArgs (top 34)) (defBody (top 34)) (defScope (top 34)) fd N14 F14 false := by
  obtain ⟨fd, F⟩ := c.t.d.def_ 14 (d := dd14) rfl
  exact ⟨fd, F, rfl, rfl, rfl, rfl, sc14, C14, F.bindsN fun _ _ _ _ _ _ us hl => match us, hl with | [_], _ => rfl, fun h => Bool.noConfusion h⟩
theorem dfs {K : PySem.W.Frag} {h : Heap} {base : Heap} {mg : Str → Option Value} {w : World} (c : He.SaysX fa fn [] tf ex w h K) (hB : tblB K lamds = true) (TB : ∀ p ∈ (lamds.map (·.at_)).map (He.cT K), LamX.TabB base mg p.1 p.2) : ∀ f p, T.fn[f]? = some p → DefOk (Zk K) T pg K mg base f p
  | 0, p, h => by
    have e : (("is_line", 1) : Str × Nat) = p := Option.some.inj h
    cases e
    obtain ⟨fd, D⟩ := dx0 c hB TB
    exact ⟨⟨_, _, _, _, _, fd, _, _, _, D⟩⟩
  | 1, p, h => by
    have e : (("is_right_tile", 1) : Str × Nat) = p := Option.some.inj h
    cases e
    obtain ⟨fd, D⟩ := dx1 c hB TB
    exact ⟨⟨_, _, _, _, _, fd, _, _, _, D⟩⟩
  | 2, p, h => by
    have e : (("need_tile", 1) : Str × Nat) = p := Option.some.inj h
    cases e
    obtain ⟨fd, D⟩ := dx2 c hB TB
    exact ⟨⟨_, _, _, _, _, fd, _, _, _, D⟩⟩
  | 3, p, h => by
    have e : (("text_of", 1) : Str × Nat) = p := Option.some.inj h
    cases e
    obtain ⟨fd, D⟩ := dx3 c hB TB
    exact ⟨⟨_, _, _, _, _, fd, _, _, _, D⟩⟩
  | 4, p, h => by
    have e : (("tile_text", 1) : Str × Nat) = p := Option.some.inj h
    cases e
    obtain ⟨fd, D⟩ := dx4 c hB TB
    exact ⟨⟨_, _, _, _, _, fd, _, _, _, D⟩⟩
  | 5, p, h => by
    have e : (("read_tile", 1) : Str × Nat) = p := Option.some.inj h
    cases e
    obtain ⟨fd, D⟩ := dx5 c hB TB
    exact ⟨⟨_, _, _, _, _, fd, _, _, _, D⟩⟩
  | 6, p, h => by
    have e : (("_law_source", 2) : Str × Nat) = p := Option.some.inj h
    cases e
    obtain ⟨fd, D⟩ := dx6 c hB TB
    exact ⟨⟨_, _, _, _, _, fd, _, _, _, D⟩⟩
  | 7, p, h => by
    have e : (("_law_pick", 2) : Str × Nat) = p := Option.some.inj h
    cases e
    obtain ⟨fd, D⟩ := dx7 c hB TB
    exact ⟨⟨_, _, _, _, _, fd, _, _, _, D⟩⟩
  | 8, p, h => by
    have e : (("_law_chosen", 2) : Str × Nat) = p := Option.some.inj h
    cases e
    obtain ⟨fd, D⟩ := dx8 c hB TB
    exact ⟨⟨_, _, _, _, _, fd, _, _, _, D⟩⟩
  | 9, p, h => by
    have e : (("_law_tile", 2) : Str × Nat) = p := Option.some.inj h
    cases e
    obtain ⟨fd, D⟩ := dx9 c hB TB
    exact ⟨⟨_, _, _, _, _, fd, _, _, _, D⟩⟩
  | 10, p, h => by
    have e : (("_law_due", 1) : Str × Nat) = p := Option.some.inj h
    cases e
    obtain ⟨fd, D⟩ := dx10 c hB TB
    exact ⟨⟨_, _, _, _, _, fd, _, _, _, D⟩⟩
  | 11, p, h => by
    have e : (("_law_read", 1) : Str × Nat) = p := Option.some.inj h
    cases e
    obtain ⟨fd, D⟩ := dx11 c hB TB
    exact ⟨⟨_, _, _, _, _, fd, _, _, _, D⟩⟩
  | 12, p, h => by
    have e : (("_law_bent", 2) : Str × Nat) = p := Option.some.inj h
    cases e
    obtain ⟨fd, D⟩ := dx12 c hB TB
    exact ⟨⟨_, _, _, _, _, fd, _, _, _, D⟩⟩
  | 13, p, h => by
    have e : (("_law_written", 0) : Str × Nat) = p := Option.some.inj h
    cases e
    obtain ⟨fd, D⟩ := dx13 c hB TB
    exact ⟨⟨_, _, _, _, _, fd, _, _, _, D⟩⟩
  | 14, p, h => by
    have e : (("law", 1) : Str × Nat) = p := Option.some.inj h
    cases e
    obtain ⟨fd, D⟩ := dx14 c hB TB
    exact ⟨⟨_, _, _, _, _, fd, _, _, _, D⟩⟩
  | n + 15, p, h => by
    have e : (none : Option (Str × Nat)) = some p := h
    cases e
def NE : List Str := ["_law_e", "_law_some", "_law_word_so", "_law_good"]
def BE : Ss := (.cons (.asg 1 (.lst (.cons (.tup (.cons (.cstr [116, 105, 108, 101]) (.cons (.isx 0 0) .nil))) (.cons (.tup (.cons (.cstr [115, 105, 122, 101]) (.cons (.isx 0 1) .nil))) .nil)))) (.cons (.asg 1 (.bin .add (.var 1) (.lst (.cons (.tup (.cons (.cstr [99, 101, 108, 108]) (.cons (.isx 0 2) .nil))) (.cons (.tup (.cons (.cstr [119, 97, 121]) (.cons (.isx 0 3) .nil))) .nil))))) (.cons (.asg 1 (.bin .add (.var 1) (.lst (.cons (.tup (.cons (.cstr [110, 117, 109, 98, 101, 114]) (.cons (.isx 0 4) .nil))) (.cons (.tup (.cons (.cstr [105, 110, 100, 101, 120]) (.cons (.isx 0 5) .nil))) .nil))))) (.cons (.asg 1 (.bin .add (.var 1) (.lst (.cons (.tup (.cons (.cstr [119, 111, 114, 100]) (.cons (.isx 0 6) .nil))) (.cons (.tup (.cons (.cstr [99, 108, 97, 115, 104]) (.cons (.isx 0 7) .nil))) .nil))))) (.cons (.asg 1 (.bin .add (.var 1) (.lst (.cons (.tup (.cons (.cstr [117, 110, 108, 105, 107, 101]) (.cons (.isx 0 8) .nil))) (.cons (.tup (.cons (.cstr [117, 110, 100, 111]) (.cons (.isx 0 9) .nil))) .nil))))) (.cons (.asg 1 (.bin .add (.var 1) (.lst (.cons (.tup (.cons (.cstr [109, 97, 110, 121]) (.cons (.isx 0 10) .nil))) (.cons (.tup (.cons (.cstr [116, 101, 120, 116]) (.cons (.isx 0 11) .nil))) .nil))))) (.cons (.ret (.mth .join (.cstr [32]) (.cons (.comp [2, 3] (.tp [2, 3]) (.lsq (.var 1)) (.var 2) (.yes (.var 3))) .nil))) .nil)))))))
theorem chE : chkHs (errT T) NE { sc := defScope (top 28), own := fun _ => true, hot := true } BE (defBody (top 28)) = true := by decide +kernel
theorem evE_ : ∀ kk d, err kk = some d → ∀ S, evSs (G_ (errT T)) (isF (exmOf T)) (fun _ _ => none) (fun _ _ => none) BE (Rx.start NE.length [.clo kk []]) S = .rt d S
  | 0, d, h => by
    have e : D.str [116, 105, 108, 101] = d := Option.some.inj h
    cases e
    intro S
    rfl
  | 1, d, h => by
    have e : D.str [115, 105, 122, 101] = d := Option.some.inj h
    cases e
    intro S
    rfl
  | 2, d, h => by
    have e : D.str [99, 101, 108, 108] = d := Option.some.inj h
    cases e
    intro S
    rfl
  | 3, d, h => by
    have e : D.str [119, 97, 121] = d := Option.some.inj h
    cases e
    intro S
    rfl
  | 4, d, h => by
    have e : D.str [110, 117, 109, 98, 101, 114] = d := Option.some.inj h
    cases e
    intro S
    rfl
  | 5, d, h => by
    have e : D.str [105, 110, 100, 101, 120] = d := Option.some.inj h
    cases e
    intro S
    rfl
  | 6, d, h => by
    have e : D.str [119, 111, 114, 100] = d := Option.some.inj h
    cases e
    intro S
    rfl
  | 7, d, h => by
    have e : D.str [99, 108, 97, 115, 104] = d := Option.some.inj h
    cases e
    intro S
    rfl
  | 8, d, h => by
    have e : D.str [117, 110, 108, 105, 107, 101] = d := Option.some.inj h
    cases e
    intro S
    rfl
  | 9, d, h => by
    have e : D.str [117, 110, 100, 111] = d := Option.some.inj h
    cases e
    intro S
    rfl
  | 10, d, h => by
    have e : (none : Option D) = some d := h
    cases e
  | 11, d, h => by
    have e : (none : Option D) = some d := h
    cases e
  | n + 12, d, h => by
    have e : err (n + 12) = none := by
      unfold err
      split <;> rfl
    rw [e] at h
    cases h
theorem errT_ : ∀ kk d, err kk = some d → T.pl kk = true ∧ kk < T.ex.length ∧ ∃ w, d = .str w
  | 0, d, h => ⟨rfl, by decide, _, (Option.some.inj h).symm⟩
  | 1, d, h => ⟨rfl, by decide, _, (Option.some.inj h).symm⟩
  | 2, d, h => ⟨rfl, by decide, _, (Option.some.inj h).symm⟩
  | 3, d, h => ⟨rfl, by decide, _, (Option.some.inj h).symm⟩
  | 4, d, h => ⟨rfl, by decide, _, (Option.some.inj h).symm⟩
  | 5, d, h => ⟨rfl, by decide, _, (Option.some.inj h).symm⟩
  | 6, d, h => ⟨rfl, by decide, _, (Option.some.inj h).symm⟩
  | 7, d, h => ⟨rfl, by decide, _, (Option.some.inj h).symm⟩
  | 8, d, h => ⟨rfl, by decide, _, (Option.some.inj h).symm⟩
  | 9, d, h => ⟨rfl, by decide, _, (Option.some.inj h).symm⟩
  | 10, d, h => by
    have e : (none : Option D) = some d := h
    cases e
  | 11, d, h => by
    have e : (none : Option D) = some d := h
    cases e
  | n + 12, d, h => by
    have e : err (n + 12) = none := by
      unfold err
      split <;> rfl
    rw [e] at h
    cases h
theorem refs : RefT T err "LightError" "_law_error" fn := by
  refine ⟨by decide +kernel, ⟨dd15, "_law_call", "_law_e", ⟨by simp [fn], rfl, rfl, rfl⟩, ⟨rfl, rfl, rfl, by decide +kernel, rfl, by decide +kernel, by decide +kernel⟩, fun _ _ _ _ _ _ us hl => match us, hl with | [_], _ => rfl, ⟨_, _, _, _, _, _, _, _, _, _, _, _, _, rfl⟩, by decide +kernel⟩, ⟨dd16, NE, "_law_e", BE, ⟨by simp [fn], rfl, rfl, rfl⟩, ⟨rfl, rfl, rfl, by decide +kernel, rfl, by decide +kernel, by decide +kernel⟩, fun _ _ _ _ _ _ us hl => match us, hl with | [_], _ => rfl, chE, evE_⟩, errT_⟩
def loose : List Str := (["LightError", "InvalidTile", "InvalidSize", "InvalidCell", "InvalidWay", "InvalidNumber", "InvalidIndex", "InvalidWord", "Clash", "Unlike", "NothingToUndo", "TooMany", "InvalidText", "MOST_SIDE", "is_line", "is_right_tile", "need_tile", "text_of", "tile_text", "read_tile", "_law_source", "_law_pick", "_law_chosen", "_law_refused", "_law_error"] : List Str) ++ (["_law_tile", "_law_due", "_law_read", "_law_bent", "_law_written"] : List Str)
abbrev R : PySem.W.OpenRow := PySem.W.OpenLaw.row PySem.Challenge.rw_anylights_k82_whole_tiles_written_and_re
abbrev hk : PySem.W.Hook := Rx.hookY 5 fa fn tf ex
def ob (s : PySem.W.SharedT) : He.AlX := Rx.obsY 5 fa fn tf ex (HandSHeadRun.getT s)
theorem ob_eq (s : PySem.W.SharedT) : ob s = hk.obs s.abs := Rx.obsY_eq (HandSHeadRun.getT_eq s)
theorem hrunH (w : World) : HandSHeadRun.RunEq R (PySem.W.view R.prog [34]) hk ob 6000 loose w := by
  intro os
  kernel_rfl
theorem law_at {w : World} {K : PySem.W.Frag} {mg : Str → Option Value} {h : Heap} (c : He.SaysX fa fn [] tf ex w h K) (KX : K.In h) (hrun : ∀ ns : List Int, run pg (14 + 1) (.fn 14) [.scr ns] [] = .ok (.bl true) []) : LamX.LawAtS PySem.Challenge.rw_anylights_k82_whole_tiles_written_and_re w K (L2N.CX (PySem.Challenge.rw_anylights_k82_whole_tiles_written_and_re).prog w) (3 * 14 + 2 + 1) 63 "_law_script" mg ((Zk K).fa 14) h := by
  have hB : tblB K lamds = true := (Bool.and_eq_true_iff.mp c.more).1
  obtain ⟨fd, F⟩ := c.t.d.def_ 14 (d := dd14) rfl
  have b := FunD.bindsA (ps := ["_law_script"]) F fun _ _ _ _ _ _ us hl => match us, hl with | [_], _ => rfl
  refine lawAt (x := "law") (qual := "law") (params := defArgs (top 34)) (body := defBody (top 34)) (scope := defScope (top 34)) lamds rfl c KX rfl (N := N14) (d := F14) (rf := false) (n := 14) rfl (fun s u => b s [u] rfl) (fun base X G TB => ⟨txt_of c.t.d X G c.more (dfs c hB TB) rfl rfl rfl (fun p hp => ?_) refs, txv_of (P := PySem.Challenge.rw_anylights_k82_whole_tiles_written_and_re.prog) c.t.d X G c.more (by decide +kernel), ?_⟩) hrun
  · simp only [T, List.mem_cons, List.mem_nil_iff, or_false] at hp
    rcases hp with rfl <;> exact ⟨_, rfl⟩
  · exact ⟨F, rfl, rfl, rfl, rfl, sc14, C14, F.bindsN fun _ _ _ _ _ _ us hl => match us, hl with | [_], _ => rfl, fun h => Bool.noConfusion h⟩
end My
set_option Elab.async false
set_option linter.all false
set_option maxRecDepth 100000
set_option maxHeartbeats 0
open PySem PySem.W PySem.Calls PyProof.Rows
theorem PySem.Challenge.cw_anylights_k82_whole_tiles_written_and_re_holds : PySem.Challenge.rw_anylights_k82_whole_tiles_written_and_re.Holds := by
  w_on; o_law
  refine HandSHeadRun.head_any (r := OpenLaw.row PySem.Challenge.rw_anylights_k82_whole_tiles_written_and_re) (q := view (OpenLaw.row PySem.Challenge.rw_anylights_k82_whole_tiles_written_and_re).prog [34]) (H := My.hk) (ob := My.ob) (M := 6000) (loose := My.loose) (d := HandSHeadRun.topDef (OpenLaw.row PySem.Challenge.rw_anylights_k82_whole_tiles_written_and_re).prog 34) (kwd := []) My.ob_eq
    (by kernel_rfl) (fun s => by kernel_rfl) My.hrunH (by kernel_rfl) (by kernel_rfl) (by kernel_rfl) (by rfl) (by first | assumption | decide +kernel) (by decide +kernel) ⟨rfl, rfl, rfl, rfl, rfl, by decide +kernel⟩ ?hw ?hc
  case hw => w_witness2
  case hc =>
    refine LamX.walk_ofTsE (l := PySem.Challenge.rw_anylights_k82_whole_tiles_written_and_re) (n := 63) (k := 3 * 14 + 2 + 1) (x := "_law_script") (CX := fun w => L2N.CX (PySem.Challenge.rw_anylights_k82_whole_tiles_written_and_re).prog w) rfl (by decide) (by kernel_rfl) ⟨rfl, by decide, by decide⟩ ?F (fun w H s e s' z => by
      obtain ⟨_, _, _, _, _, _, _, _, _, _, _, _, z⟩ := z
      exact z)
    intro w mg fa h Y G hmg0
    obtain ⟨K, KX, c⟩ := Y
    have hmg : mg ("law" : PySem.Str) = some (.ref fa) := by
      have e : (HandSHeadRun.topDef (OpenLaw.row PySem.Challenge.rw_anylights_k82_whole_tiles_written_and_re).prog 34).name = ("law" : PySem.Str) := by kernel_rfl
      rw [← e]
      exact hmg0
    have e := hmg.symm.trans (He.glo_ok KX G (He.SaysD.facts c.t.d (Rx.fa_fn (T := My.T) (p := ("law", 1)) (by simp [My.T]))))
    cases e
    exact ⟨K, KX, My.law_at c KX My.law_runs⟩
