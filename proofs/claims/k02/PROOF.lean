import PyProof.Rows.All
import Wide.All
import OpenK.AllK
import Wide.FinOn
import HandS.ForMost
import HandS.ForExc
import HandS.Evl
import HandS.More
import HandS.Conv
import HandS.SetKeys
import HandS.Deep
import HandS.IsInst
import HandS.ExcIs
import HandS.Rev
import HandS.SortInts
import HandS.Walk
import HandS.Strs
import HandS.SetFor
import PySem.Challenge.RW_mustpass_k02_what_is_no_net
set_option Elab.async false
set_option linter.all false
set_option maxRecDepth 100000
set_option maxHeartbeats 4000000
/-! set(xs), xs a list of whole numbers, as a call rule of the hand layer. -/
namespace MpSet
open PySem PySem.Spec PyProof.Rows L2
/-- the set object as it is laid, empty -/
abbrev empO (w : World) : Obj := { cls := .type "set", dict := none, data := .set #[] 0 (.fresh 0 0 (!w.params.followText "set-order")) }
abbrev withE (s : Shared) (w : World) : Shared := { s with heap := s.heap.push (empO w) }
section
variable {P : Program} {w : World} {A : Around} {E : Value → Shared → Prop} {s : Shared}
/-- what stands behind the filling -/
def Filled (w : World) (s : Shared) (ns : List Int) (s2 : Shared) : Prop :=
  ∃ (h2 : Heap) (t2 n2 : Nat), s2 = { s with heap := h2, toks := t2 } ∧ SetR w h2 s.heap.objs.size (fun j => decide (j ∈ ns)) n2 ∧ n2 ≤ ns.length ∧ ∀ b o, s.heap.get? b = some o → h2.get? b = some o
theorem set_of_list {l : Addr} {items : Array Value} (ns : List Int) {Q : Value → Shared → Prop} (hh : A.handled = none) (hl : s.heap.IsList l items) (hit : IntsAre items.toList ns) (hb : ns.length + 1 < scanBound)
    (h : ∀ s2, Filled w s ns s2 → Q (.ref s.heap.objs.size) s2) : wpAny (model P w) A (call (.type "set") [.ref l]) Q E s := by
  have hn : items.size = ns.length := (Array.length_toList (xs := items)).symm.trans (IntsAre.length hit)
  have k1 := F.called_set.notType
  have k2 := F.called_set.canCreate
  have k3 := F.typeCall_set_1 (.ref l)
  have k4 := F.called_set.made
  have k5 := F.called_set.sub
  obtain ⟨mc, ml, k6⟩ := F.called_set.mro
  refine wpAny_call (codeAny_of_tree (show wpAny _ _ (callAny (.type "set") _) _ _ _ from wpAny_pure ⟨Code.quiet_builtin _ (by decide +kernel), codeAny_builtin F.entry_type_call ?_⟩))
  rw [Around.under_plain (weight_type_call_type "set" [.ref l] []) rfl]
  repeat (any_goals (first | assumption | wp_step))
  refine codeAny_mono (code_set_led1 (.ref l) (E := E) (Q₁ := fun ob s1 => ob = .ref s.heap.objs.size ∧ s1 = withE s w) ⟨rfl, rfl⟩) fun r s1 hr => ?_
  cases r with
  | error e => exact hr
  | ok fl =>
    cases fl with
    | next => exact hr.elim
    | brk => exact hr.elim
    | cont => exact hr.elim
    | ret ob =>
      obtain ⟨rfl, rfl⟩ := hr
      have hS : (withE s w).heap.get? s.heap.objs.size = some (empO w) := Heap.get?_push_size _ rfl
      have hT : Shared.TypeIs (withE s w) (.ref s.heap.objs.size) "set" := ⟨_, hS, rfl⟩
      have k7 := F.called_set.init.lookup
      have k8 := F.called_set.init.bind (.ref s.heap.objs.size)
      repeat (any_goals (first | assumption | wp_step))
      refine codeAny_mono (codeAny_call_builtin (R := wants (fun r s2 => r = .none ∧ Filled w s ns s2) E) F.called_set.init.plain F.entry_set_init (check_set_init_1 hT ?_)) fun r2 s2 hr2 => ?_
      · obtain ⟨⟨oc, od, odt, osl⟩, hol, hcl, nl, hdl⟩ := hl
        dsimp only at hcl hdl
        subst hcl hdl
        have lS : l < s.heap.objs.size := Heap.lt_size hol
        have hol2 : (withE s w).heap.get? l = some { cls := .type "list", dict := od, data := .seq items nl, slots := osl } := Heap.get?_push_of_some _ hol
        have hl1 : (withE s w).heap.IsList l items := ⟨_, hol2, rfl, nl, rfl⟩
        have j1 := F.sub_list_set
        have j2 := F.sub_list_frozenset
        have j3 : (Value.type "list" == Value.type "dict") = false := by decide
        unfold Builtin.«set.__init__» noKeywords Builtin.Frozenset.updateFrom
        generalize hP : pyIter = PP
        wp_walk
        subst hP
        refine wpAny_pyIter_list hl1 (wpAny_bind (wpAny_runValue ?_))
        have g1 : A.in1.in1.in1.handled = none := by simp [hh]
        have g2 : (withE s w).heap.objs.size = s.heap.objs.size + 1 := Heap.size_push ..
        have g3 : l ≠ (withE s w).heap.objs.size := by rw [g2]; exact Nat.ne_of_lt (Nat.lt_succ_of_lt lS)
        have g4 : s.heap.objs.size ∉ [(withE s w).heap.objs.size, l] := fun hm => by
          rw [g2] at hm
          rcases List.mem_cons.mp hm with e | hm
          · exact Nat.ne_of_lt (Nat.lt_succ_self _) e
          · rcases List.mem_cons.mp hm with e | hm
            · exact Nat.ne_of_gt lS e
            · cases hm
        have g5 : ∀ (i : Nat) (v : Value), items[i]? = some v → ∃ k t, ns[i]? = some k ∧ v = .int k t := fun i v hv => by
          obtain ⟨t, e⟩ := PyProof.Rows.IntsAre.int_at hit i v ((Array.getElem?_toList (xs := items)).trans hv)
          have hi : i < ns.length := hn ▸ (Array.getElem?_eq_some_iff.mp hv).1
          exact ⟨ns[i], t, List.getElem?_eq_getElem hi, by rw [e, List.getD_eq_getElem?_getD, List.getElem?_eq_getElem hi]; rfl⟩
        refine set_update_ints ((Walks.list g1 _ l g3 items).toS) s.heap.objs.size g4 ns hn hb g5 (items.size - 0) 0 _ (by omega) (Nat.zero_le _) ⟨⟨_, Heap.get?_push_size _ rfl, rfl, rfl⟩, (hl1.push _)⟩ ⟨0, Nat.le_refl 0, setR_new_at (Heap.get?_push_of_some _ hS)⟩ ?_
        rintro ⟨h2, g2', d2, t2, o2⟩ n2 hm hle hS2
        obtain rfl : g2' = s.gens := hm.gens
        obtain rfl : d2 = s.drawn := hm.drawn
        obtain rfl : o2 = s.os := hm.os
        show wpAny _ _ _ _ _ _
        refine wpAny_pure (show wpAny _ _ (ret Value.none) _ _ _ from wpAny_pure ⟨rfl, h2, t2, n2, rfl, hS2, hn ▸ hle, fun b o e => ?_⟩)
        have b1 : b < s.heap.objs.size := Heap.lt_size e
        refine hm.heap b o (fun hmem => ?_) (Heap.get?_push_of_some _ (Heap.get?_push_of_some _ e))
        rcases List.mem_cons.mp hmem with z | hmem
        · exact Nat.ne_of_lt b1 z
        · rcases List.mem_cons.mp hmem with z | hmem
          · rw [g2] at z
            exact Nat.ne_of_lt (Nat.lt_succ_of_lt b1) z
          · cases hmem
      · cases r2 with
        | error e => exact hr2
        | ok fl2 =>
          cases fl2 with
          | ret r =>
            obtain ⟨rfl, hF⟩ := hr2
            have hF2 := hF
            obtain ⟨h2, t2, n2, rfl, hS2, hle, hk⟩ := hF
            repeat (any_goals (first | assumption | wp_step))
            exact h _ hF2
          | next => exact hr2.elim
          | brk => exact hr2.elim
          | cont => exact hr2.elim
end
end MpSet

/-! What the walks of all laws share: globals, promises of defs by name, rules of our own. -/
namespace Mp
open PySem L2 Evl
/-! ### sets -/
section
variable {X : Cx}
/-- no more different ints than the room they lie in -/
theorem nodup_le {l : List Int} {m : Nat} (hn : l.Nodup) (h : ∀ k ∈ l, 0 ≤ k ∧ k < (m : Int)) : l.length ≤ m := by
  have h1 : (l.map Int.toNat).Nodup := by
    refine List.pairwise_map.mpr (hn.imp_of_mem fun {a b} ha hb hab e => hab ?_)
    have := h a ha
    have := h b hb
    omega
  have h2 : (l.map Int.toNat) ⊆ List.range m := fun k hk => by
    obtain ⟨z, hz, rfl⟩ := List.mem_map.mp hk
    have := h z hz
    exact List.mem_range.mpr (by omega)
  have h3 := h1.length_le_of_subset h2
  rw [List.length_map, List.length_range] at h3
  exact h3
def rSetOf (K : PySem.W.Frag) (w : World) : List V → Hp → VK → Prop := fun xs H Q => ∃ (l : Addr) (ns : List Int), xs = [.ref l] ∧ SqL K H l (ns.map V.int) ∧ ns.length ≤ 1000 ∧
  ∀ (p : Addr) (c : Nat), H p = none → (∀ m : Nat, (∀ k ∈ ns, 0 ≤ k ∧ k < (m : Int)) → c ≤ m) → Q (.ref p) (upd H p (SetO w p (fun j => decide (j ∈ ns)) c))
theorem cr_setL (hc : X.calm = true) : CallR X (.type "set") (rSetOf X.K X.w) := by
  intro pins s σ H xs us Q I r h
  obtain ⟨l, ns, rfl, hs, hz, q⟩ := h
  cases r with
  | cons rx rr =>
    cases rr
    cases rx
    obtain ⟨its, rv, pl, _⟩ := I.list hs
    refine MpSet.set_of_list ns (I.ok.hd hc) pl.isList (by simpa using ints_of_vals rv) (by unfold scanBound; omega) fun s2 hF => ?_
    obtain ⟨h2, t2, n2, rfl, R, hle, hk⟩ := hF
    have hp : H s.heap.objs.size = none := I.hok.fresh (Nat.le_refl _)
    refine ⟨.ref s.heap.objs.size, _, I.laid (t' := t2) hk (Nat.le_refl _) (setO_new R), rfl, q _ n2 hp fun m hm => ?_⟩
    obtain ⟨o, es, ep, t, ho, hx, hd, g, nd, hmem, hb, hf, hn, _⟩ := R
    have e1 : n2 = (es.toList.map keyOf).length := by rw [List.length_map, Array.length_toList, hn]
    rw [e1]
    exact nodup_le nd fun k hk2 => hm k (of_decide_eq_true ((hmem k).mpr hk2))
end

/-! ### globals and defs by name -/
structure Gb where
  K : PySem.W.Frag
  w : World
  C : Addr
  cP : Addr
  cN : Addr
  cR : Addr
  cU : Addr
/-- the def of that name keeps the promise sp -/
structure FG (P : Program) (w : World) (K : PySem.W.Frag) (mg : Str → Option Value) (base : Heap) (CX : CXT) (k : Nat) (nm : Str) (ps : List Str) (sp : Sp) : Prop where
  ex : ∃ (f : Addr) (fd : FuncData), FnOk P w K mg base CX k f fd ps sp ∧ mg nm = some (.ref f) ∧ PySem.W.keepIn K (.ref f) = true ∧ Binds K fd ps []
/-- the method of that name of the class at C keeps the promise sp -/
structure MG (P : Program) (w : World) (K : PySem.W.Frag) (mg : Str → Option Value) (base : Heap) (CX : CXT) (k : Nat) (C : Addr) (nm : Str) (ps : List Str) (sp : Sp) : Prop where
  ex : ∃ (f : Addr) (fd : FuncData), FnOk P w K mg base CX k f fd ps sp ∧ Meth K C nm f ∧ Binds K fd ps []
/-- the class at C, its __init__ -/
structure NG (P : Program) (w : World) (K : PySem.W.Frag) (mg : Str → Option Value) (base : Heap) (CX : CXT) (k : Nat) (C : Addr) (nm : Str) (ps : List Str) (sp : Sp) : Prop where
  ex : ∃ (f : Addr) (fd : FuncData), FnOk P w K mg base CX k f fd ps sp ∧ Mk K C f ∧ mg nm = some (.ref C) ∧ Binds K fd ps []
/-- an own exception class over ValueError -/
structure XG (K : PySem.W.Frag) (mg : Str → Option Value) (nm : Str) (C : Addr) : Prop where
  g : mg nm = some (.ref C)
  x : PySem.W.excIn K C [.type "ValueError", .type "Exception", .type "BaseException", .type "object"] "ValueError.__new__" = true
  k : PySem.W.keepIn K (.ref C) = true
  b : PySem.W.subIn K (.ref C) (.type "BaseException") = some true
  t : PySem.W.typeIn K (.ref C) = some (.type "type")
/-- a def of the text as the top has made it; a method; an __init__ -/
structure FD (K : PySem.W.Frag) (mg : Str → Option Value) (nm : Str) (st : Stmt) : Prop where
  ex : ∃ (f : Addr) (fd : FuncData), Fun K nm nm st f fd ∧ mg nm = some (.ref f)
structure MD (K : PySem.W.Frag) (C : Addr) (nm qual : Str) (st : Stmt) : Prop where
  ex : ∃ (f : Addr) (fd : FuncData), Fun K nm qual st f fd ∧ Meth K C nm f
structure ND (K : PySem.W.Frag) (mg : Str → Option Value) (C : Addr) (nm qual : Str) (st : Stmt) : Prop where
  ex : ∃ (f : Addr) (fd : FuncData), Fun K "__init__" qual st f fd ∧ Mk K C f ∧ mg nm = some (.ref C)
section
variable {X : Cx} {CX : CXT} {k j : Nat} {nm m : Str} {ps : List Str} {sp : Sp} {E : XK} {C : Addr} {e o : Expr} {es : List Expr} {t : TA} {ta : TE} {p pos apos : Pos}
theorem pe_cl (F : FG X.prog X.w X.K X.mg X.base CX k nm ps sp) (hr : Room j X.A) (hg : Gl X nm) (hx : Passes CX X E) (ha : PA X (e :: es) t) (hkj : k ≤ j := by decide) (hdb : (nm == ("__debug__" : Str)) = false := by decide)
    (he : starEach (e :: es) X.env = (false, eval e X.env) :: starEach es X.env := by rfl) (hpl : (backTo pos (starEach es X.env)).any (·.1) = false := by rfl) : PE X (.Call (.Name nm p) (e :: es) [] pos) (tCall sp [] E t) := by
  obtain ⟨f, fd, G, hm, kp, b⟩ := F.ex
  exact pe_call G (hr.mono hkj) hg hm kp b .nil hx ha hdb he hpl
theorem pe_mt {pl : Sem Bool} (F : MG X.prog X.w X.K X.mg X.base CX k C m ps sp) (c : Cls X.K C) (hr : Room j X.A) (hx : Passes CX X E) (ho : PE X o ta) (ha : PA X (e :: es) t) (hkj : k ≤ j := by decide)
    (hst : starEach (e :: es) X.env = (false, eval e X.env) :: starEach es X.env := by rfl) (hpl : (backTo pos (starEach es X.env)).any (·.1) = false := by rfl)
    (ht : eval (.Call (.Attribute o m apos) (e :: es) [] pos) X.env = (do
      let ov ← eval o X.env
      standAt apos.atName
      let (f, first) ← holding [ov] (getMethod ov m pl)
      callWith pos f first (backTo pos (starEach (e :: es) X.env)) (backToKw pos (keywordEach [] X.env))) := by rfl) :
    PE X (.Call (.Attribute o m apos) (e :: es) [] pos) (tMeth C m sp [] E ta t) := by
  obtain ⟨f, fd, G, hm, b⟩ := F.ex
  exact pe_meth ho c hm G (hr.mono hkj) b .nil hx ha hst hpl ht
theorem pe_mt0 {pl : Sem Bool} (F : MG X.prog X.w X.K X.mg X.base CX k C m ps sp) (c : Cls X.K C) (hr : Room j X.A) (hx : Passes CX X E) (ho : PE X o ta) (hkj : k ≤ j := by decide)
    (ht : eval (.Call (.Attribute o m apos) [] [] pos) X.env = (do
      let ov ← eval o X.env
      standAt apos.atName
      let (f, first) ← holding [ov] (getMethod ov m pl)
      callWith pos f first (backTo pos (starEach [] X.env)) (backToKw pos (keywordEach [] X.env))) := by rfl) :
    PE X (.Call (.Attribute o m apos) [] [] pos) (tMeth C m sp [] E ta tNil) := by
  obtain ⟨f, fd, G, hm, b⟩ := F.ex
  exact pe_meth0 ho c hm G (hr.mono hkj) b .nil hx ht
theorem pe_mk (F : NG X.prog X.w X.K X.mg X.base CX k C nm ps sp) (hr : Room j X.A) (hg : Gl X nm) (hx : Passes CX X E) (ha : PA X (e :: es) t) (hkj : k + 1 ≤ j := by decide) (hdb : (nm == ("__debug__" : Str)) = false := by decide)
    (he : starEach (e :: es) X.env = (false, eval e X.env) :: starEach es X.env := by rfl) (hpl : (backTo pos (starEach es X.env)).any (·.1) = false := by rfl) : PE X (.Call (.Name nm p) (e :: es) [] pos) (tMake C sp [] E t) := by
  obtain ⟨f, fd, G, M, hm, b⟩ := F.ex
  exact pe_make M G (hr.mono hkj) hg hm b .nil hx ha hdb he hpl
theorem pe_gint {x : Str} {i : Int} (hg : Gl X x) (h : ∃ t, X.mg x = some (.int i t)) (hdb : (x == ("__debug__" : Str)) = false := by decide) : PE X (.Name x pos) (tC (.int i)) := by
  obtain ⟨tk, h⟩ := h
  exact pe_glob hg h ⟨tk, rfl⟩ hdb
theorem room65 {A : Around} (hr : Room k A) : A.units + 65 < cLine := by
  have := hr.un
  omega
/-- raise X('..') -/
def tRs (W : WX) (C : Addr) : TS := fun _ σ H => W (.ref C) none σ H
theorem ps_rs {W : WX} {x s : Str} {jj : Nat} {p2 p3 : Pos} (G : XG X.K X.mg x C) (hc : X.calm = true) (tk : Takes X W) (hg : Gl X x) (hdb : (x == ("__debug__" : Str)) = false := by decide) :
    PS X (.Raise (some (.Call (.Name x p) [.Constant (.str s) jj p2] [] p3)) none pos) (tRs W C) :=
  ps_raise hc tk (pmk_own PySem.F.excBase_ValueError G.x G.g G.k (raises_own G.b G.t) hg hdb)
end

/-! ### the relations by name -/
abbrev rAddI : R2 := rI0 fun i j => .int (i + j)
abbrev rSubI : R2 := rI0 fun i j => .int (i - j)
abbrev rModI : R2 := rI (fun _ j => 0 < j) fun i j => .int (i % j)
abbrev rDivI : R2 := rI CDiv fun i j => .int (i / j)
abbrev rPowI : R2 := rI CPow fun i j => .int (i ^ j.toNat)
abbrev rMulI : R2 := rI CMul fun i j => .int (i * j)
abbrev rNeg : V → Hp → VK → Prop := rU fun i => .int (-i)
abbrev rLtI : R2 := rI0 fun i j => .bl (decide (i < j))
abbrev rLeI : R2 := rI0 fun i j => .bl (decide (i ≤ j))
abbrev rGtI : R2 := rI0 fun i j => .bl (decide (j < i))
abbrev rGeI : R2 := rI0 fun i j => .bl (decide (j ≤ i))
def rIsN : R2 := fun x y H Q => y = .non ∧ Q (.bl (decide (x = .non))) H
def rNotN : R2 := fun x y H Q => y = .non ∧ Q (.bl (!decide (x = .non))) H
def rInsert : V → List V → Hp → VK → Prop := fun x vs H Q => ∃ (l : Addr) (xs : List V) (i : Int) (y : V), x = .ref l ∧ vs = [.int i, y] ∧ H l = some (.lst xs) ∧ xs.length < sizeLine ∧ 0 ≤ i ∧ i < 2 ^ 63 ∧
    Q .non (upd H l (.lst (xs.take i.toNat ++ [y] ++ xs.drop i.toNat)))

/-! ### what evaluates, further -/
section
variable {K : PySem.W.Frag} {σ : L2.St} {H H' : Hp} {ta tb tc te : TE} {t u : TT} {x y z v : V}
theorem et_ch {f f' : Int → Int → Bool} {a b c : Int} (ha : Ev ta σ H (.int a)) (hb : Ev tb σ H (.int b)) (hc : Ev tc σ H (.int c)) :
    EvT (tTest (tChain (rI0 fun i j => .bl (f i j)) (rI0 fun i j => .bl (f' i j)) ta tb tc)) σ H (f a b && f' b c) := fun H1 e Q q =>
  ha H1 e _ fun H2 e2 => hb H2 (e.trans e2) _ fun H3 e3 => ⟨a, b, rfl, rfl, f a b, rfl, by
    cases hf : f a b with
    | true =>
      refine iteT (hc H3 ((e.trans e2).trans e3) _ fun H4 e4 => ⟨b, c, rfl, rfl, f' b c, rfl, ?_⟩)
      rw [hf, Bool.true_and] at q
      exact q H4 ((e2.trans e3).trans e4)
    | false =>
      refine iteF ⟨false, rfl, ?_⟩
      rw [hf, Bool.false_and] at q
      exact q H3 (e2.trans e3)⟩
/-- a value that stands for something, in the heap that comes -/
def EvP (te : TE) (σ : L2.St) (H : Hp) (P : Hp → V → Hp → Prop) : Prop := ∀ H1, Ex H H1 → ∀ Q : VK, (∀ v H2, Ex H1 H2 → P H1 v H2 → Q v H2) → te σ H1 Q
theorem EvP.mono {P : Hp → V → Hp → Prop} (e : Ex H H') (h : EvP te σ H P) : EvP te σ H' P := fun H1 a Q q => h H1 (e.trans a) Q q
theorem a_asgP {i : Nat} {D : Ends} {tz : TS} {P : Hp → V → Hp → Prop} (h : EvP te σ H P) (k : ∀ v H1, Ex H H1 → P H v H1 → tz D (σ.set i (some v)) H1) : tSeq (tAsg te (gName i)) tz D σ H :=
  h H (Ex.refl H) _ fun v H1 e q => k v H1 e q
theorem q_callX {i : Nat} {D : Ends} {tz : TS} {sp : Sp} {vs : List V} {E : XK} {ts : TA} (h : EvA ts σ H vs) (k : ∀ H1, Ex H H1 → sp (vs ++ []) H1 (fun v H2 => tz D (σ.set i (some v)) H2) E) : tSeq (tAsg (tCall sp [] E ts) (gName i)) tz D σ H :=
  h H (Ex.refl H) _ k
theorem q_dropX {D : Ends} {tz : TS} {sp : Sp} {vs : List V} {E : XK} {ts : TA} (h : EvA ts σ H vs) (k : ∀ H1, Ex H H1 → sp (vs ++ []) H1 (fun _ H2 => tz D σ H2) E) : tSeq (tDrop (tCall sp [] E ts)) tz D σ H :=
  h H (Ex.refl H) _ k
theorem s_retX {D : Ends} {sp : Sp} {vs : List V} {E : XK} {ts : TA} (h : EvA ts σ H vs) (k : ∀ H1, Ex H H1 → sp (vs ++ []) H1 D.rt E) : tRet (tCall sp [] E ts) D σ H :=
  h H (Ex.refl H) _ k
theorem q_mkX {i : Nat} {D : Ends} {tz : TS} {sp : Sp} {C : Addr} {vs : List V} {E : XK} {ts : TA} (h : EvA ts σ H vs)
    (k : ∀ H1, Ex H H1 → ∀ x dx, H1 x = none → H1 dx = none → dx ≠ x → sp (.ref x :: (vs ++ [])) (upd (upd H1 dx (.own x)) x (.ins C dx [])) (fun v H2 => v = .non ∧ tz D (σ.set i (some (.ref x))) H2) E) : tSeq (tAsg (tMake C sp [] E ts) (gName i)) tz D σ H :=
  h H (Ex.refl H) _ k
theorem ev_call1 {sp : Sp} {vs : List V} {E : XK} {ts : TA} (h : EvA ts σ H vs) (hs : ∀ H1, Ex H H1 → ∀ Q : VK, RetV z H1 Q → sp (vs ++ []) H1 Q E) : Ev (tCall sp [] E ts) σ H z := fun H1 e Q q =>
  h H1 e _ fun H2 e2 => hs H2 (e.trans e2) Q fun H3 e3 => q H3 (e2.trans e3)
theorem el_call1 {sp : Sp} {vs xs : List V} {E : XK} {ts : TA} (h : EvA ts σ H vs) (hs : ∀ H1, Ex H H1 → ∀ Q : VK, RetL xs H1 Q → sp (vs ++ []) H1 Q E) : EvL (tCall sp [] E ts) σ H xs := fun H1 e Q q =>
  h H1 e _ fun H2 e2 => hs H2 (e.trans e2) Q fun p H3 hp e3 h3 => q p H3 (fresh_back e2 hp) (e2.trans e3) h3
end

/-! ### heaps with an object forgotten -/
def del (H : Hp) (p : Addr) : Hp := fun a => if a = p then none else H a
theorem del_self {H : Hp} {p : Addr} : del H p p = none := by unfold del; rw [if_pos rfl]
theorem del_ne {H : Hp} {p a : Addr} (h : a ≠ p) : del H p a = H a := by unfold del; rw [if_neg h]
theorem del_of {H : Hp} {p a : Addr} {o : HO} (h : del H p a = some o) : a ≠ p ∧ H a = some o := by
  unfold del at h
  split at h
  · cases h
  · exact ⟨‹_›, h⟩
theorem ex_del {H : Hp} {p : Addr} : Ex (del H p) H := fun _ _ h => (del_of h).2
theorem ex_delU {H H1 : Hp} {p : Addr} {o : HO} (e : Ex (del H p) H1) : Ex (del H p) (upd H1 p o) := fun a u h => by
  rw [upd_ne (del_of h).1]
  exact e a u h
/-- an object that B does not know may change -/
theorem exU {B H1 : Hp} {p : Addr} {o : HO} (e : Ex B H1) (h : B p = none) : Ex B (upd H1 p o) := Ex.mut e h
/-! ### what is walked, in order -/
def EvI {α : Type} (wi : TI) (σ : L2.St) (H : Hp) (l : List α) (R : α → V → Prop) : Prop := ∀ H1, Ex H H1 → ∀ Rk : It → Hp → Prop,
  (∀ J G H2, Ex H1 H2 → (∀ H3, Ex H2 H3 → G H3) → Walk J l.length G (fun i Ha x Hb => Hb = Ha ∧ ∃ a, l[i]? = some a ∧ R a x) → Rk J H2) → wi σ H1 Rk
section
variable {α : Type} {K : PySem.W.Frag} {σ : L2.St} {H H' : Hp} {tl te : TE} {t : TT} {l : List α} {R : α → V → Prop} {xs : List V} {a : Addr} {wi : TI} {j : Nat} {vs : List Nat}
theorem paired_len {β γ : Type} {F : β → γ → Prop} : ∀ {l : List β} {m : List γ}, Paired F l m → l.length = m.length
  | _, _, .nil => rfl
  | _, _, .cons _ t => congrArg (· + 1) (paired_len t)
theorem paired_at {β γ : Type} {F : β → γ → Prop} : ∀ {l : List β} {m : List γ} {i : Nat} {x : β}, Paired F l m → l[i]? = some x → ∃ y, m[i]? = some y ∧ F x y
  | _, _, _, _, .nil, e => by simp at e
  | _, _, 0, _, .cons r _, e => by simp at e; subst e; exact ⟨_, rfl, r⟩
  | _, _, i + 1, x, .cons _ t, e => by
    obtain ⟨y, h1, h2⟩ := paired_at (i := i) (x := x) t (by simpa using e)
    exact ⟨y, by simpa using h1, h2⟩
theorem paired_map {β γ : Type} {F : γ → β → Prop} {f : β → γ} (h : ∀ b, F (f b) b) : ∀ l : List β, Paired F (l.map f) l
  | [] => .nil
  | b :: r => .cons (h b) (paired_map h r)
theorem ei_walk (hp : Paired (fun x a => R a x) xs l) : Walk (Itl K a) l.length (fun H => SqL K H a xs) (fun i Ha x Hb => Hb = Ha ∧ ∃ a, l[i]? = some a ∧ R a x) := by
  rw [← paired_len hp]
  exact walk_list.mono (fun _ h => h) fun i H1 x H2 _ _ y => ⟨y.1, paired_at hp y.2⟩
theorem ei_list (h : Ev tl σ H (.ref a)) (hx : SqL K H a xs) (hp : Paired (fun x a => R a x) xs l) : EvI (iList K tl) σ H l R := fun H1 e Rk k =>
  h H1 e _ fun H2 e2 => ⟨a, rfl, ⟨xs, ex_l (e.trans e2) hx⟩, k _ _ H2 e2 (fun H3 e3 => ex_l ((e.trans e2).trans e3) hx) (ei_walk hp)⟩
theorem ei_listN (h : EvL tl σ H xs) (hp : Paired (fun x a => R a x) xs l) : EvI (iList K tl) σ H l R := fun H1 e Rk k =>
  h H1 e _ fun a H2 ha e2 hx => ⟨a, rfl, ⟨xs, sq_of hx⟩, k _ _ H2 e2 (fun H3 e3 => sq_of (e3 _ _ hx)) (ei_walk hp)⟩
theorem ei_range {ta : TA} {n : Nat} (h : EvA ta σ H [.int (n : Int)]) (hn : n ≤ 40000) : EvI (iRng1 ta) σ H (List.range n) (fun (k : Nat) x => x = .int (k : Int)) := fun H1 e Rk k =>
  h H1 e _ fun H2 e2 => ⟨n, rfl, by omega, by omega, k _ (fun _ => True) H2 e2 (fun _ _ => trivial) (by
    rw [List.length_range, Int.toNat_natCast]
    exact walk_range.mono (fun _ h => h) fun i Ha x Hb hi _ y => ⟨y.1, i, List.getElem?_range hi, by rw [y.2]; exact congrArg V.int (Int.zero_add _)⟩)⟩
theorem filter_take (pr : α → Bool) {i : Nat} {x : α} (h : l[i]? = some x) : (l.take (i + 1)).filter pr = if pr x = true then (l.take i).filter pr ++ [x] else (l.take i).filter pr := by
  rw [List.take_add_one, h, List.filter_append]
  cases hp : pr x <;> simp [hp]
/-- a comprehension: those of l for which pr holds, each by f -/
theorem el_lc (pr : α → Bool) (f : α → V) (hi : EvI wi σ H l R) (hz : l.length ≤ 40000) (hw : ∀ x, wipe ((wipe σ vs).set j (some x)) vs = wipe σ vs)
    (ht : ∀ a x H1, a ∈ l → R a x → Ex H H1 → EvT t ((wipe σ vs).set j (some x)) H1 (pr a)) (he : ∀ a x H1, a ∈ l → R a x → Ex H H1 → pr a = true → Ev te ((wipe σ vs).set j (some x)) H1 (f a)) :
    EvL (tLc wi (gName j) t te vs) σ H ((l.filter pr).map f) := fun H0 e Q q => hi H0 e _ fun J G H1 e1 hG w Dl hD =>
  lc_it w (fun i H' => Ex H1 H' ∧ H' Dl = some (.lst (((l.take i).filter pr).map f))) ⟨Ex.new hD, upd_same⟩ (fun i H' _ p => hG H' p.1) (fun i x Ha Hb hil p y => by
    obtain ⟨rfl, a, hl, hr⟩ := y
    have hm : a ∈ l := List.mem_of_getElem? hl
    refine ⟨hw x, ht a x Hb hm hr ((e.trans e1).trans p.1) Hb (Ex.refl _) _ fun H3 e3 => ?_⟩
    have hft := filter_take pr hl
    cases hp : pr a with
    | true =>
      refine iteT (he a x H3 hm hr (((e.trans e1).trans p.1).trans e3) hp H3 (Ex.refl _) _ fun H4 e4 => ⟨_, e4 _ _ (e3 _ _ p.2), ?_, ?_, ?_⟩)
      · refine sz_lt ?_
        have h1 := List.length_filter_le pr (l.take i)
        rw [List.length_map]
        rw [List.length_take] at h1
        omega
      · exact exU ((p.1.trans e3).trans e4) hD
      · rw [upd_same, hft, hp, if_pos rfl, List.map_append]
        rfl
    | false =>
      refine iteF ⟨p.1.trans e3, ?_⟩
      rw [hft, hp, if_neg (by decide)]
      exact e3 _ _ p.2) (fun H' p => q Dl H' (fresh_back e1 hD) (e1.trans p.1) (by rw [p.2, List.take_length]))
/-- a comprehension whose items are new lists -/
theorem ep_lcL (pr : α → Bool) (f : α → List V) (hi : EvI wi σ H l R) (hz : l.length ≤ 40000) (hw : ∀ x, wipe ((wipe σ vs).set j (some x)) vs = wipe σ vs)
    (ht : ∀ a x H1, a ∈ l → R a x → Ex H H1 → EvT t ((wipe σ vs).set j (some x)) H1 (pr a)) (he : ∀ a x H1, a ∈ l → R a x → Ex H H1 → pr a = true → EvL te ((wipe σ vs).set j (some x)) H1 (f a)) :
    EvP (tLc wi (gName j) t te vs) σ H (fun H1 v H2 => ∃ (p : Addr) (as : List Addr), v = .ref p ∧ H1 p = none ∧ H2 p = some (.lst (as.map V.ref)) ∧ Paired (fun a r => H1 a = none ∧ a ≠ p ∧ H2 a = some (.lst r)) as ((l.filter pr).map f)) := fun H0 e Q q => hi H0 e _ fun J G H1 e1 hG w Dl hD =>
  lc_it w (fun i H' => Ex H1 H' ∧ ∃ as : List Addr, H' Dl = some (.lst (as.map V.ref)) ∧ as.length ≤ i ∧ Paired (fun a r => H1 a = none ∧ a ≠ Dl ∧ H' a = some (.lst r)) as (((l.take i).filter pr).map f)) ⟨Ex.new hD, [], upd_same, Nat.le_refl _, .nil⟩ (fun i H' _ p => hG H' p.1) (fun i x Ha Hb hil p y => by
    obtain ⟨rfl, a, hl, hr⟩ := y
    obtain ⟨p1, as, p2, p3, p4⟩ := p
    have hm : a ∈ l := List.mem_of_getElem? hl
    refine ⟨hw x, ht a x Hb hm hr ((e.trans e1).trans p1) Hb (Ex.refl _) _ fun H3 e3 => ?_⟩
    have hft := filter_take pr hl
    cases hp : pr a with
    | true =>
      refine iteT (he a x H3 hm hr (((e.trans e1).trans p1).trans e3) hp H3 (Ex.refl _) _ fun b H4 hb e4 hb4 => ⟨_, e4 _ _ (e3 _ _ p2), ?_, ?_, as ++ [b], ?_, ?_, ?_⟩)
      · rw [List.length_map]
        exact sz_lt (by omega)
      · exact exU ((p1.trans e3).trans e4) hD
      · rw [upd_same, List.map_append]
        rfl
      · rw [List.length_append, List.length_singleton]
        omega
      · rw [hft, hp, if_pos rfl, List.map_append]
        have hbD : b ≠ Dl := fun z => by
          rw [z, e3 _ _ p2] at hb
          cases hb
        have h5 : ∀ c r, (H1 c = none ∧ c ≠ Dl ∧ Hb c = some (.lst r)) → (H1 c = none ∧ c ≠ Dl ∧ (upd H4 Dl (.lst (as.map V.ref ++ [V.ref b]))) c = some (.lst r)) := fun c r h => ⟨h.1, h.2.1, by rw [upd_ne h.2.1]; exact e4 _ _ (e3 _ _ h.2.2)⟩
        have h6 : ∀ {m : List Addr} {k : List (List V)}, Paired (fun c r => H1 c = none ∧ c ≠ Dl ∧ Hb c = some (.lst r)) m k → Paired (fun c r => H1 c = none ∧ c ≠ Dl ∧ (upd H4 Dl (.lst (as.map V.ref ++ [V.ref b]))) c = some (.lst r)) (m ++ [b]) (k ++ [f a]) := by
          intro m k h
          induction h with
          | nil => exact .cons ⟨fresh_back (p1.trans e3) hb, hbD, by rw [upd_ne hbD]; exact hb4⟩ .nil
          | cons r _ ih => exact .cons (h5 _ _ r) ih
        exact h6 p4
    | false =>
      refine iteF ⟨p1.trans e3, as, e3 _ _ p2, by omega, ?_⟩
      rw [hft, hp, if_neg (by decide)]
      exact Paired.mapP p4 fun c r h => ⟨h.1, h.2.1, e3 _ _ h.2.2⟩) (fun H' p => by
        obtain ⟨p1, as, p2, p3, p4⟩ := p
        rw [List.take_length] at p4
        exact q _ H' (e1.trans p1) ⟨Dl, as, rfl, fresh_back e1 hD, p2, Paired.mapP p4 fun c r h => ⟨fresh_back e1 h.1, h.2⟩⟩)
theorem et_yes : EvT tYes σ H true := fun H1 _ _ q => q H1 (Ex.refl H1)
theorem EvL.p {xs : List V} (h : EvL te σ H xs) : EvP te σ H (fun H1 v H2 => ∃ p, v = .ref p ∧ H1 p = none ∧ H2 p = some (.lst xs)) := fun H1 e Q q => h H1 e _ fun p H2 hp e2 h2 => q _ H2 e2 ⟨p, rfl, hp, h2⟩
theorem Ev.p {v : V} (h : Ev te σ H v) : EvP te σ H (fun _ v' _ => v' = v) := fun H1 e Q q => h H1 e _ fun H2 e2 => q _ H2 e2 rfl
end
/-! ### sorted(set(..)) -/
theorem rise_same : ∀ {a b : List Int}, a.Pairwise (· < ·) → b.Pairwise (· < ·) → (∀ k, k ∈ a ↔ k ∈ b) → a = b
  | [], [], _, _, _ => rfl
  | [], y :: b, _, _, h => absurd ((h y).mpr List.mem_cons_self) (by simp)
  | x :: a, [], _, _, h => absurd ((h x).mp List.mem_cons_self) (by simp)
  | x :: a, y :: b, ha, hb, h => by
    have ha1 := List.pairwise_cons.mp ha
    have hb1 := List.pairwise_cons.mp hb
    have e : x = y := by
      have h1 := (h x).mp List.mem_cons_self
      have h2 := (h y).mpr List.mem_cons_self
      rcases List.mem_cons.mp h1 with e | h1
      · exact e
      · rcases List.mem_cons.mp h2 with e | h2
        · exact e.symm
        · have := hb1.1 x h1
          have := ha1.1 y h2
          omega
    subst e
    rw [rise_same ha1.2 hb1.2 fun k => ?_]
    constructor
    · intro hk
      rcases List.mem_cons.mp ((h k).mp (List.mem_cons_of_mem _ hk)) with e | h1
      · have := ha1.1 k hk
        omega
      · exact h1
    · intro hk
      rcases List.mem_cons.mp ((h k).mpr (List.mem_cons_of_mem _ hk)) with e | h1
      · have := hb1.1 k hk
        omega
      · exact h1
/-- the rooms below m among ns, rising -/
def rising (m : Nat) (ns : List Int) : List Nat := (List.range m).filter fun (j : Nat) => decide ((j : Int) ∈ ns)
theorem rising_eq {m : Nat} {ns a : List Int} (ha : a.Pairwise (· < ·)) (hm : ∀ k : Int, k ∈ a ↔ k ∈ ns) (hb : ∀ k ∈ ns, 0 ≤ k ∧ k < (m : Int)) : a = (rising m ns).map (fun (k : Nat) => (k : Int)) := by
  refine rise_same ha ?_ fun k => ?_
  · refine List.pairwise_map.mpr (List.Pairwise.imp (fun {x y} h => ?_) ((List.pairwise_lt_range (n := m)).filter _))
    show (x : Int) < (y : Int)
    omega
  · rw [hm]
    constructor
    · intro hk
      have := hb k hk
      refine List.mem_map.mpr ⟨k.toNat, List.mem_filter.mpr ⟨List.mem_range.mpr (by omega), ?_⟩, by omega⟩
      rw [Int.toNat_of_nonneg (by omega)]
      exact decide_eq_true hk
    · intro hk
      obtain ⟨j, hj, rfl⟩ := List.mem_map.mp hk
      exact of_decide_eq_true (List.mem_filter.mp hj).2
theorem el_sset {K : PySem.W.Frag} {w : World} {σ : L2.St} {H : Hp} {te : TE} {ns : List Int} {m : Nat} (h : EvL te σ H (ns.map V.int)) (hl : ns.length ≤ 1000) (hm : m ≤ 63) (hb : ∀ k ∈ ns, 0 ≤ k ∧ k < (m : Int)) :
    EvL (tCB (rSortedSet w) (tCons (tCB (rSetOf K w) (tCons te tNil)) tNil)) σ H ((rising m ns).map fun (k : Nat) => V.int (k : Int)) := fun H1 e Q q =>
  h H1 e _ fun a H2 ha e2 h2 => ⟨a, ns, rfl, sq_of h2, hl, fun p c hp hc => ⟨p, _, c, rfl, upd_same, by have := hc m hb; omega, fun ns' r hs hk _ hr => by
    have e1 : ns' = _ := rising_eq hs (fun k => (hk k).trans ⟨fun z => of_decide_eq_true z, fun z => decide_eq_true z⟩) hb
    subst e1
    have hrp : H2 r = none := fresh_back (Ex.new hp) hr
    refine q r _ (fresh_back e2 hrp) ((e2.trans (Ex.new hp)).trans (Ex.new hr)) ?_
    rw [upd_same, List.map_map]
    rfl⟩⟩
/-! ### rows as they stand -/
section
variable {K : PySem.W.Frag} {σ : L2.St} {H H' : Hp} {ta tb tc te : TE} {D : Ends} {tz : TS} {P1 P2 : Hp → V → Hp → Prop}
theorem s_asgP {i : Nat} (h : EvP te σ H P1) (k : ∀ v H1, Ex H H1 → P1 H v H1 → D.nx (σ.set i (some v)) H1) : tAsg te (gName i) D σ H := h H (Ex.refl H) _ k
theorem q_raw {i : Nat} (h : te σ H fun v H1 => tz D (σ.set i (some v)) H1) : tSeq (tAsg te (gName i)) tz D σ H := h
theorem s_retOpX {sp : Sp} {vs : List V} {E : XK} {ts : TA} {r : R2} (h : EvA ts σ H vs) (k : ∀ H1, Ex H H1 → sp (vs ++ []) H1 (fun v H2 => tb σ H2 fun y H3 => r v y H3 D.rt) E) : tRet (tOp r (tCall sp [] E ts) tb) D σ H :=
  h H (Ex.refl H) _ k
theorem ep_tup2 (h1 : EvP ta σ H P1) (h2 : EvP tb σ H P2) : EvP (tTup (tCons ta (tCons tb tNil))) σ H (fun H1 v H4 => ∃ q v1 v2 H2 H3, v = .ref q ∧ H1 q = none ∧ P1 H1 v1 H2 ∧ P2 H2 v2 H3 ∧ Ex H1 H2 ∧ Ex H2 H3 ∧ H3 q = none ∧ H4 = upd H3 q (.tup [v1, v2])) := fun H1 e Q k =>
  h1 H1 e _ fun v1 H2 e2 p1 => h2 H2 (e.trans e2) _ fun v2 H3 e3 p2 => ⟨by show 2 ≤ sizeLine; decide, fun q hq => k _ _ ((e2.trans e3).trans (Ex.new hq)) ⟨q, v1, v2, H2, H3, rfl, fresh_back (e2.trans e3) hq, p1, p2, e2, e3, hq, rfl⟩⟩
theorem EvU.p {xs : List V} (h : EvU te σ H xs) : EvP te σ H (fun H1 v H2 => ∃ p, v = .ref p ∧ H1 p = none ∧ H2 p = some (.tup xs)) := fun H1 e Q q => h H1 e _ fun p H2 hp e2 h2 => q _ H2 e2 ⟨p, rfl, hp, h2⟩
/-- a list of one, of two new tuples -/
theorem ep_lst1 (h1 : EvP ta σ H P1) : EvP (tLst (tCons ta tNil)) σ H (fun H1 v H3 => ∃ q v1 H2, v = .ref q ∧ H1 q = none ∧ P1 H1 v1 H2 ∧ Ex H1 H2 ∧ H2 q = none ∧ H3 = upd H2 q (.lst [v1])) := fun H1 e Q k =>
  h1 H1 e _ fun v1 H2 e2 p1 => ⟨by show 1 ≤ sizeLine; decide, fun q hq => k _ _ (e2.trans (Ex.new hq)) ⟨q, v1, H2, rfl, fresh_back e2 hq, p1, e2, hq, rfl⟩⟩
theorem ep_lst2 (h1 : EvP ta σ H P1) (h2 : EvP tb σ H P2) : EvP (tLst (tCons ta (tCons tb tNil))) σ H (fun H1 v H4 => ∃ q v1 v2 H2 H3, v = .ref q ∧ H1 q = none ∧ P1 H1 v1 H2 ∧ P2 H2 v2 H3 ∧ Ex H1 H2 ∧ Ex H2 H3 ∧ H3 q = none ∧ H4 = upd H3 q (.lst [v1, v2])) := fun H1 e Q k =>
  h1 H1 e _ fun v1 H2 e2 p1 => h2 H2 (e.trans e2) _ fun v2 H3 e3 p2 => ⟨by show 2 ≤ sizeLine; decide, fun q hq => k _ _ ((e2.trans e3).trans (Ex.new hq)) ⟨q, v1, v2, H2, H3, rfl, fresh_back (e2.trans e3) hq, p1, p2, e2, e3, hq, rfl⟩⟩
theorem ep_op {r : R2} {P : Hp → V → Hp → Prop} (ha : EvP ta σ H P1) (hb : ∀ H1, Ex H H1 → EvP tb σ H1 P2) (hr : ∀ Ha v Hb w Hc, Ex H Ha → Ex Ha Hb → P1 Ha v Hb → Ex Hb Hc → P2 Hb w Hc → ∀ Q : VK, (∀ z Hd, Ex Hc Hd → P Ha z Hd → Q z Hd) → r v w Hc Q) : EvP (tOp r ta tb) σ H P := fun H1 e Q q =>
  ha H1 e _ fun v H2 e2 p1 => hb H2 (e.trans e2) H2 (Ex.refl _) _ fun w H3 e3 p2 => hr H1 v H2 w H3 e e2 p1 e3 p2 Q fun z H4 e4 p => q z H4 ((e2.trans e3).trans e4) p
end
end Mp

/-! Nets: the plain data, how it stands in a heap, promises of the class's methods. -/
namespace Mp
open PySem L2 Evl
structure Nt where
  n : Nat
  ds : List (Nat × Nat)
structure Nt.Ok (N : Nt) : Prop where
  pos : 1 ≤ N.n
  most : N.n ≤ 40
  few : N.ds.length ≤ 100
  ends : ∀ d ∈ N.ds, d.1 < N.n ∧ d.2 < N.n
def Nt.ahead (N : Nt) (r : Nat) : List Nat := (List.range N.n).filter fun j => decide ((r, j) ∈ N.ds)
def Nt.behind (N : Nt) (r : Nat) : List Nat := (List.range N.n).filter fun j => decide ((j, r) ∈ N.ds)
abbrev nv (k : Nat) : V := .int (k : Int)
abbrev nvs (l : List Nat) : List V := l.map nv
abbrev zp (d : Nat × Nat) : Int × Int := ((d.1 : Int), (d.2 : Int))
/-- a list of pairs of whole numbers -/
def PairsAt (H : Hp) (as : List Addr) (ds : List (Int × Int)) : Prop := Paired (fun a (d : Int × Int) => H a = some (.tup [.int d.1, .int d.2])) as ds
def PL (K : PySem.W.Frag) (H : Hp) (p : Addr) (ds : List (Int × Int)) : Prop := ∃ as : List Addr, SqL K H p (as.map V.ref) ∧ PairsAt H as ds
/-- such a list that is tracked -/
def PLt (H : Hp) (p : Addr) (ds : List (Int × Int)) : Prop := ∃ as : List Addr, H p = some (.lst (as.map V.ref)) ∧ PairsAt H as ds
/-- a list of lists of rooms -/
def Rows (H : Hp) (p : Addr) (rs : List (List Nat)) : Prop := ∃ as : List Addr, H p = some (.lst (as.map V.ref)) ∧ Paired (fun a r => H a = some (.lst (nvs r))) as rs
theorem Paired.mono {α β : Type} {F F' : α → β → Prop} (h : ∀ a b, F a b → F' a b) : ∀ {l : List α} {m : List β}, Paired F l m → Paired F' l m
  | _, _, .nil => .nil
  | _, _, .cons a r => .cons (h _ _ a) (Paired.mono h r)
theorem Paired.at {α β : Type} {F : α → β → Prop} : ∀ {l : List α} {m : List β} {i : Nat} {b : β}, Paired F l m → m[i]? = some b → ∃ a, l[i]? = some a ∧ F a b
  | _, _, _, _, .nil, e => by simp at e
  | _, _, 0, _, .cons r _, e => by simp at e; subst e; exact ⟨_, rfl, r⟩
  | _, _, i + 1, b, .cons _ t, e => by
    obtain ⟨a, h1, h2⟩ := Paired.at (i := i) (b := b) t (by simpa using e)
    exact ⟨a, by simpa using h1, h2⟩
theorem Paired.atL {α β : Type} {F : α → β → Prop} : ∀ {l : List α} {m : List β} {i : Nat} {a : α}, Paired F l m → l[i]? = some a → ∃ b, m[i]? = some b ∧ F a b
  | _, _, _, _, .nil, e => by simp at e
  | _, _, 0, _, .cons r _, e => by simp at e; subst e; exact ⟨_, rfl, r⟩
  | _, _, i + 1, b, .cons _ t, e => by
    obtain ⟨a, h1, h2⟩ := Paired.atL (i := i) (a := b) t (by simpa using e)
    exact ⟨a, by simpa using h1, h2⟩
theorem Paired.snoc {α β : Type} {F : α → β → Prop} {a : α} {b : β} (h : F a b) : ∀ {l : List α} {m : List β}, Paired F l m → Paired F (l ++ [a]) (m ++ [b])
  | _, _, .nil => .cons h .nil
  | _, _, .cons r t => .cons r (Paired.snoc h t)
/-- the pairs' tuples behind their list -/
theorem refs_paired {B : Hp} : ∀ {as : List Addr} {ds : List (Nat × Nat)}, PairsAt B as (ds.map zp) → Paired (fun x (d : Nat × Nat) => ∃ a, x = V.ref a ∧ B a = some (.tup [nv d.1, nv d.2])) (as.map V.ref) ds
  | [], [], _ => .nil
  | [], _ :: _, h => nomatch h
  | _ :: _, [], h => nomatch h
  | a :: as, d :: ds, h => by
    cases h with
    | cons h1 h2 => exact .cons ⟨a, rfl, h1⟩ (refs_paired h2)
section
variable {K : PySem.W.Frag} {H H' : Hp} {p : Addr} {ds : List (Int × Int)}
theorem PairsAt.mono {as : List Addr} (e : Ex H H') (h : PairsAt H as ds) : PairsAt H' as ds := Paired.mono (fun _ _ q => e _ _ q) h
theorem PL.mono (e : Ex H H') (h : PL K H p ds) : PL K H' p ds := let ⟨as, h1, h2⟩ := h; ⟨as, ex_l e h1, h2.mono e⟩
theorem PLt.mono (e : Ex H H') (h : PLt H p ds) : PLt H' p ds := let ⟨as, h1, h2⟩ := h; ⟨as, e _ _ h1, h2.mono e⟩
theorem PLt.pl (h : PLt H p ds) : PL K H p ds := let ⟨as, h1, h2⟩ := h; ⟨as, sq_of h1, h2⟩
theorem Rows.mono {rs : List (List Nat)} (e : Ex H H') (h : Rows H p rs) : Rows H' p rs := let ⟨as, h1, h2⟩ := h; ⟨as, e _ _ h1, Paired.mono (fun _ _ q => e _ _ q) h2⟩
end
/-! ### a net in a heap -/
def netF (n : Nat) (pa aa ba : Addr) : List (Str × V) := putF "behind" (.ref ba) (putF "ahead" (.ref aa) (putF "pairs" (.ref pa) (putF "many" (nv n) [])))
structure NetAt (g : Gb) (H : Hp) (p : Addr) (N : Nt) : Prop where
  ok : N.Ok
  ex : ∃ dx pa aa ba, H p = some (.ins g.C dx (netF N.n pa aa ba)) ∧ PLt H pa (N.ds.map zp) ∧ Rows H aa ((List.range N.n).map N.ahead) ∧ Rows H ba ((List.range N.n).map N.behind)
theorem NetAt.mono {g : Gb} {H H' : Hp} {p : Addr} {N : Nt} (e : Ex H H') (h : NetAt g H p N) : NetAt g H' p N :=
  let ⟨ok, dx, pa, aa, ba, h1, h2, h3, h4⟩ := h
  ⟨ok, dx, pa, aa, ba, e _ _ h1, h2.mono e, h3.mono e, h4.mono e⟩
section
variable (n : Nat) (pa aa ba : Addr)
theorem k12 : ¬ (("pairs" : Str) = "many") := by decide +kernel
theorem k13 : ¬ (("ahead" : Str) = "many") := by decide +kernel
theorem k14 : ¬ (("behind" : Str) = "many") := by decide +kernel
theorem k23 : ¬ (("ahead" : Str) = "pairs") := by decide +kernel
theorem k24 : ¬ (("behind" : Str) = "pairs") := by decide +kernel
theorem k34 : ¬ (("behind" : Str) = "ahead") := by decide +kernel
theorem netF_many : (netF n pa aa ba).lookup ("many" : Str) = some (nv n) := by
  unfold netF
  rw [lookup_putF, if_neg (Ne.symm k14), lookup_putF, if_neg (Ne.symm k13), lookup_putF, if_neg (Ne.symm k12), lookup_putF, if_pos rfl]
theorem netF_pairs : (netF n pa aa ba).lookup ("pairs" : Str) = some (.ref pa) := by
  unfold netF
  rw [lookup_putF, if_neg (Ne.symm k24), lookup_putF, if_neg (Ne.symm k23), lookup_putF, if_pos rfl]
theorem netF_ahead : (netF n pa aa ba).lookup ("ahead" : Str) = some (.ref aa) := by
  unfold netF
  rw [lookup_putF, if_neg (Ne.symm k34), lookup_putF, if_pos rfl]
theorem netF_behind : (netF n pa aa ba).lookup ("behind" : Str) = some (.ref ba) := by
  unfold netF
  rw [lookup_putF, if_pos rfl]
theorem netF_no {m : Str} (h1 : ¬ m = "many") (h2 : ¬ m = "pairs") (h3 : ¬ m = "ahead") (h4 : ¬ m = "behind") : (netF n pa aa ba).lookup m = none := by
  unfold netF
  rw [lookup_putF, if_neg h4, lookup_putF, if_neg h3, lookup_putF, if_neg h2, lookup_putF, if_neg h1]
  all_goals rfl
end
/-- what the top has made of the class -/
structure CF (g : Gb) : Prop where
  cl : Cls g.K g.C
  nM : NoAttr g.K g.C "many"
  nP : NoAttr g.K g.C "pairs"
  nA : NoAttr g.K g.C "ahead"
  nB : NoAttr g.K g.C "behind"
/-- the room is there -/
abbrev Nt.has (N : Nt) (r : Int) : Prop := 0 ≤ r ∧ r < (N.n : Int)
/-- a fresh list of pairs is handed back -/
def RetP (ds : List (Int × Int)) (H : Hp) (Q : VK) : Prop := ∀ p H2, H p = none → Ex H H2 → PLt H2 p ds → Q (.ref p) H2
def RetX (E : XK) (C : Addr) (H : Hp) : Prop := ∀ H2, Ex H H2 → E (.ref C) none H2
/-! ### promises -/
/-- rooms and doors that are a net -/
def IsNet (rooms : Int) (ds : List (Int × Int)) (N : Nt) : Prop := N.Ok ∧ rooms = N.n ∧ ds = N.ds.map zp
def sp_Net___init__ (g : Gb) : Sp := fun vs H Q E => ∃ (p dx l : Addr) (rooms : Int) (ds : List (Int × Int)), vs = [.ref p, .int rooms, .ref l] ∧ H p = some (.ins g.C dx []) ∧ PLt H l ds ∧ ds.length ≤ 1000 ∧
  (∀ N, IsNet rooms ds N → ∀ H2, NetAt g (del H2 l) p N → (∀ b o, H b = some o → b ≠ p → H2 b = some o) → Q .non H2) ∧ ((∀ N, ¬ IsNet rooms ds N) → RetX E g.cN H)
def sp_Net_ask (g : Gb) : Sp := fun vs H Q E => ∃ (p : Addr) (N : Nt) (r : Int), vs = [.ref p, .int r] ∧ NetAt g H p N ∧ (N.has r → RetV .non H Q) ∧ (¬ N.has r → RetX E g.cR H)
def sp_Net_rooms (g : Gb) : Sp := fun vs H Q _ => ∃ (p : Addr) (N : Nt), vs = [.ref p] ∧ NetAt g H p N ∧ RetV (nv N.n) H Q
def sp_Net_doors (g : Gb) : Sp := fun vs H Q _ => ∃ (p : Addr) (N : Nt), vs = [.ref p] ∧ NetAt g H p N ∧ RetP (N.ds.map zp) H Q
def sp_Net_leads (g : Gb) : Sp := fun vs H Q E => ∃ (p : Addr) (N : Nt) (r : Int), vs = [.ref p, .int r] ∧ NetAt g H p N ∧ (∀ k : Nat, k < N.n → r = k → RetL (nvs (N.ahead k)) H Q) ∧ (¬ N.has r → RetX E g.cR H)
def sp_Net_led (g : Gb) : Sp := fun vs H Q E => ∃ (p : Addr) (N : Nt) (r : Int), vs = [.ref p, .int r] ∧ NetAt g H p N ∧ (∀ k : Nat, k < N.n → r = k → RetL (nvs (N.behind k)) H Q) ∧ (¬ N.has r → RetX E g.cR H)
/-! Net.__init__: slots 0 self 1 rooms 2 doors 3 door 4 room -/
def t_Net___init___b1 (g : Gb) (E : XK)  : TS := tIfS (tNot (tTest (tChain rLeI rLtI (tC (.int 0)) (tVar 4) (tVar 1)))) (tRs (fun cls d _ H => E cls d H) g.cN) tNext
def t_Net___init___b2 (g : Gb) (E : XK)  : TS := tFor (iTup g.K (tVar 3)) (gName 4) (t_Net___init___b1 g E)
def t_Net___init__ (g : Gb) (E : XK) : TS := tSeq (tIfS (tOr (tNot (tTest (tChain rLeI rLeI (tC (.int 1)) (tVar 1) (tC (.int 40))))) (tTest (tOp rGtI (tCB (rLenS g.K) (tCons (tVar 2) tNil)) (tC (.int 100))))) (tRs (fun cls d _ H => E cls d H) g.cN) tNext)
  (tSeq (tFor (iList g.K (tVar 2)) (gName 3) (t_Net___init___b2 g E))
  (tSeq (sFld g.K (tVar 0) (tVar 1) "many")
  (tSeq (sFld g.K (tVar 0) (tCB (rListS g.K) (tCons (tVar 2) tNil)) "pairs")
  (tSeq (sFld g.K (tVar 0) (tLc (iRng1 (tCons (tVar 1) tNil)) (gName 4) tYes (tCB (rSortedSet g.w) (tCons (tCB (rSetOf g.K g.w) (tCons (tLc (iList g.K (tVar 2)) (gName 3) (tTest (tOp rEq (tOp (rIxT g.K) (tVar 3) (tC (.int 0))) (tVar 4))) (tOp (rIxT g.K) (tVar 3) (tC (.int 1))) [3]) tNil)) tNil)) [4]) "ahead")
  (sFld g.K (tVar 0) (tLc (iRng1 (tCons (tVar 1) tNil)) (gName 4) tYes (tCB (rSortedSet g.w) (tCons (tCB (rSetOf g.K g.w) (tCons (tLc (iList g.K (tVar 2)) (gName 3) (tTest (tOp rEq (tOp (rIxT g.K) (tVar 3) (tC (.int 1))) (tVar 4))) (tOp (rIxT g.K) (tVar 3) (tC (.int 0))) [3]) tNil)) tNil)) [4]) "behind")))))
abbrev N_Net___init__ : List Str := ["self", "rooms", "doors", "door", "room"]
/-! Net.ask: slots 0 self 1 room -/
def t_Net_ask (g : Gb) (E : XK) : TS := tIfS (tNot (tTest (tChain rLeI rLtI (tC (.int 0)) (tVar 1) (tFld g.K (tVar 0) "many")))) (tRs (fun cls d _ H => E cls d H) g.cR) tNext
abbrev N_Net_ask : List Str := ["self", "room"]
/-! Net.rooms: slots 0 self -/
def t_Net_rooms (g : Gb) : TS := tRet (tFld g.K (tVar 0) "many")
abbrev N_Net_rooms : List Str := ["self"]
/-! Net.doors: slots 0 self -/
def t_Net_doors (g : Gb) : TS := tRet (tCB (rListS g.K) (tCons (tFld g.K (tVar 0) "pairs") tNil))
abbrev N_Net_doors : List Str := ["self"]
/-! Net.leads: slots 0 self 1 room -/
def t_Net_leads (g : Gb) (E : XK) : TS := tSeq (tDrop (tMeth g.C "ask" (sp_Net_ask g) [] E (tVar 0) (tCons (tVar 1) tNil)))
  (tRet (tCB (rListS g.K) (tCons (tOp (rIxL g.K) (tFld g.K (tVar 0) "ahead") (tVar 1)) tNil)))
abbrev N_Net_leads : List Str := ["self", "room"]
/-! Net.led: slots 0 self 1 room -/
def t_Net_led (g : Gb) (E : XK) : TS := tSeq (tDrop (tMeth g.C "ask" (sp_Net_ask g) [] E (tVar 0) (tCons (tVar 1) tNil)))
  (tRet (tCB (rListS g.K) (tCons (tOp (rIxL g.K) (tFld g.K (tVar 0) "behind") (tVar 1)) tNil)))
abbrev N_Net_led : List Str := ["self", "room"]

section
variable {g : Gb} {σ : L2.St} {H : Hp} {D : Ends} {E : XK} {Q : VK} {vs : List V} {p : Addr} {N : Nt}
theorem ev_many (T : CF g) {te : TE} (h : Ev te σ H (.ref p)) (hn : NetAt g H p N) : Ev (tFld g.K te "many") σ H (nv N.n) := fun H1 e Q q =>
  h H1 e _ fun H2 e2 => let ⟨_, dx, pa, aa, ba, h1, _⟩ := hn.mono (e.trans e2); ⟨p, g.C, dx, _, _, rfl, h1, T.cl, T.nM, netF_many .., q H2 e2⟩
theorem pure_Net_ask (T : CF g) (h : sp_Net_ask g vs H Q E) : t_Net_ask g E { nx := fun _ H' => Q .non H', rt := Q } (start N_Net_ask vs) H := by
  obtain ⟨p, N, r, rfl, hn, k1, k2⟩ := h
  refine s_if (et_not (et_ch ev_c (ev_var rfl) (ev_many T (ev_var rfl) hn))) (fun hb H1 e1 => ?_) (fun hb H1 e1 => ?_)
  · exact k2 (fun ⟨a, b⟩ => by simp [a, b] at hb) H1 e1
  · exact k1 (by simpa using hb) H1 e1
theorem pure_Net_rooms (T : CF g) (h : sp_Net_rooms g vs H Q E) : t_Net_rooms g { nx := fun _ H' => Q .non H', rt := Q } (start N_Net_rooms vs) H := by
  obtain ⟨p, N, rfl, hn, k1⟩ := h
  exact s_ret (ev_many T (ev_var rfl) hn) k1
theorem pure_Net_doors (T : CF g) (h : sp_Net_doors g vs H Q E) : t_Net_doors g { nx := fun _ H' => Q .non H', rt := Q } (start N_Net_doors vs) H := by
  obtain ⟨p, N, rfl, hn, k1⟩ := h
  obtain ⟨ok, dx, pa, aa, ba, h1, h2, h3, h4⟩ := id hn
  obtain ⟨as, h5, h6⟩ := id h2
  have ef : Ev (tFld g.K (tVar 0) "pairs") (start N_Net_doors [V.ref p]) H (.ref pa) := fun H1 e Q q => ⟨_, rfl, p, g.C, dx, _, _, rfl, e _ _ h1, T.cl, T.nP, netF_pairs .., q H1 (Ex.refl H1)⟩
  exact s_retL (el_list ef (sq_of h5)) fun q H1 hq e1 hq1 => k1 q H1 hq e1 ⟨as, hq1, h6.mono e1⟩
theorem rows_at {H : Hp} {a : Addr} {n i : Nat} {f : Nat → List Nat} (h : Rows H a ((List.range n).map f)) (hi : i < n) : ∃ (as : List Addr) (b : Addr), H a = some (.lst (as.map V.ref)) ∧ (as.map V.ref)[i]? = some (V.ref b) ∧ H b = some (.lst (nvs (f i))) := by
  obtain ⟨as, h1, h2⟩ := h
  have e : ((List.range n).map f)[i]? = some (f i) := by rw [List.getElem?_map, List.getElem?_range hi]; rfl
  obtain ⟨b, h3, h4⟩ := Paired.at h2 e
  exact ⟨as, b, h1, by rw [List.getElem?_map, h3]; rfl, h4⟩
theorem pure_Net_leads (T : CF g) (h : sp_Net_leads g vs H Q E) : t_Net_leads g E { nx := fun _ H' => Q .non H', rt := Q } (start N_Net_leads vs) H := by
  obtain ⟨p, N, r, rfl, hn, k1, k2⟩ := h
  obtain ⟨ok, dx, pa, aa, ba, h1, h2, h3, h4⟩ := id hn
  refine ⟨_, rfl, p, dx, _, rfl, h1, netF_no _ _ _ _ (by decide +kernel) (by decide +kernel) (by decide +kernel) (by decide +kernel), _, rfl, p, N, r, rfl, hn, fun hr H1 e1 => ?_, k2⟩
  obtain ⟨k, rfl⟩ : ∃ k : Nat, r = k := ⟨r.toNat, by omega⟩
  have hk : k < N.n := by omega
  obtain ⟨as, b, r1, r2, r3⟩ := rows_at (h3.mono e1) hk
  have ef : Ev (tFld g.K (tVar 0) "ahead") (start N_Net_leads [V.ref p, V.int k]) H1 (.ref aa) := fun H2 e Q q => ⟨_, rfl, p, g.C, dx, _, _, rfl, e _ _ (e1 _ _ h1), T.cl, T.nA, netF_ahead .., q H2 (Ex.refl H2)⟩
  exact s_retL (el_list (ev_op ef (ev_var rfl) (rv_ixL (sq_of r1) (atI_nat r2))) (sq_of r3)) fun q H2 hq e2 hq2 => k1 k hk rfl q H2 (fresh_back e1 hq) (e1.trans e2) hq2
theorem pure_Net_led (T : CF g) (h : sp_Net_led g vs H Q E) : t_Net_led g E { nx := fun _ H' => Q .non H', rt := Q } (start N_Net_led vs) H := by
  obtain ⟨p, N, r, rfl, hn, k1, k2⟩ := h
  obtain ⟨ok, dx, pa, aa, ba, h1, h2, h3, h4⟩ := id hn
  refine ⟨_, rfl, p, dx, _, rfl, h1, netF_no _ _ _ _ (by decide +kernel) (by decide +kernel) (by decide +kernel) (by decide +kernel), _, rfl, p, N, r, rfl, hn, fun hr H1 e1 => ?_, k2⟩
  obtain ⟨k, rfl⟩ : ∃ k : Nat, r = k := ⟨r.toNat, by omega⟩
  have hk : k < N.n := by omega
  obtain ⟨as, b, r1, r2, r3⟩ := rows_at (h4.mono e1) hk
  have ef : Ev (tFld g.K (tVar 0) "behind") (start N_Net_led [V.ref p, V.int k]) H1 (.ref ba) := fun H2 e Q q => ⟨_, rfl, p, g.C, dx, _, _, rfl, e _ _ (e1 _ _ h1), T.cl, T.nB, netF_behind .., q H2 (Ex.refl H2)⟩
  exact s_retL (el_list (ev_op ef (ev_var rfl) (rv_ixL (sq_of r1) (atI_nat r2))) (sq_of r3)) fun q H2 hq e2 hq2 => k1 k hk rfl q H2 (fresh_back e1 hq) (e1.trans e2) hq2
end
end Mp

/-! Net's __init__. -/
namespace Mp
open PySem L2 Evl
section
variable {g : Gb} {σ : L2.St} {H B : Hp} {D : Ends} {E : XK} {Q : VK} {vs : List V} {p : Addr} {N : Nt}
theorem q_fld {C dx : Addr} {fs : List (Str × V)} {tv : TE} {f : Str} {tz : TS} {P : Hp → V → Hp → Prop} (h0 : σ[0]? = some (some (.ref p))) (eB : Ex B H) (hp : H p = some (.ins C dx fs)) (c : Cls g.K C) (na : NoAttr g.K C f) (hl : fs.length < 1000) (hv : EvP tv σ B P)
    (k : ∀ v H1, Ex H H1 → P H v H1 → tz D σ (upd H1 p (.ins C dx (putF f v fs)))) : tSeq (sFld g.K (tVar 0) tv f) tz D σ H :=
  hv H eB _ fun v H1 e1 q => ⟨_, h0, p, C, dx, fs, rfl, e1 _ _ hp, c, na, hl, k v H1 e1 q⟩
theorem s_fldE {C dx : Addr} {fs : List (Str × V)} {tv : TE} {f : Str} {P : Hp → V → Hp → Prop} (h0 : σ[0]? = some (some (.ref p))) (eB : Ex B H) (hp : H p = some (.ins C dx fs)) (c : Cls g.K C) (na : NoAttr g.K C f) (hl : fs.length < 1000) (hv : EvP tv σ B P)
    (k : ∀ v H1, Ex H H1 → P H v H1 → D.nx σ (upd H1 p (.ins C dx (putF f v fs)))) : sFld g.K (tVar 0) tv f D σ H :=
  hv H eB _ fun v H1 e1 q => ⟨_, h0, p, C, dx, fs, rfl, e1 _ _ hp, c, na, hl, k v H1 e1 q⟩
/-- what a row of a net's table is -/
theorem row_ahead {K : PySem.W.Frag} {w : World} {l : Addr} {ds : List (Nat × Nat)} {n r jl jv jr : Nat} (hN : ∀ d ∈ ds, d.1 < n ∧ d.2 < n) (hn : n ≤ 40) (hf : ds.length ≤ 1000) (sw : Bool)
    (hl : PL K B l (ds.map zp)) (h2 : σ[jl]? = some (some (.ref l))) (hw : ∀ x, wipe ((wipe σ [jv]).set jv (some x)) [jv] = wipe σ [jv]) (hv : ∀ x, ((wipe σ [jv]).set jv (some x))[jv]? = some (some x)) (hr : ∀ x, ((wipe σ [jv]).set jv (some x))[jr]? = some (some (nv r))) :
    EvL (tCB (rSortedSet w) (tCons (tCB (rSetOf K w) (tCons (tLc (iList K (tVar jl)) (gName jv) (tTest (tOp rEq (tOp (rIxT K) (tVar jv) (tC (.int (if sw then 1 else 0)))) (tVar jr))) (tOp (rIxT K) (tVar jv) (tC (.int (if sw then 0 else 1)))) [jv]) tNil)) tNil)) σ B
      (nvs (if sw then Nt.behind ⟨n, ds⟩ r else Nt.ahead ⟨n, ds⟩ r)) := by
  obtain ⟨as, hs, hp⟩ := hl
  have hp2 : Paired (fun x (d : Nat × Nat) => ∃ a, x = V.ref a ∧ B a = some (.tup [nv d.1, nv d.2])) (as.map V.ref) ds := refs_paired hp
  have key : EvL (tLc (iList K (tVar jl)) (gName jv) (tTest (tOp rEq (tOp (rIxT K) (tVar jv) (tC (.int (if sw then 1 else 0)))) (tVar jr))) (tOp (rIxT K) (tVar jv) (tC (.int (if sw then 0 else 1)))) [jv]) σ B
      (((ds.filter fun d => decide (nv (if sw then d.2 else d.1) = nv r)).map fun d => ((if sw then d.1 else d.2 : Nat) : Int)).map V.int) := by
    rw [List.map_map]
    refine el_lc (R := fun (d : Nat × Nat) x => ∃ a, x = V.ref a ∧ B a = some (.tup [nv d.1, nv d.2])) (fun d => decide (nv (if sw then d.2 else d.1) = nv r)) _ (ei_list (ev_var h2) hs hp2) (by omega) hw (fun d x H1 _ hx e1 => ?_) (fun d x H1 _ hx e1 _ => ?_)
    · obtain ⟨a, rfl, ha⟩ := hx
      cases sw
      · exact et_test (ev_op (ev_op (ev_var (hv _)) ev_c (rv_ixT (st_of (e1 _ _ ha)) rfl)) (ev_var (hr _)) (rv_eq rfl))
      · exact et_test (ev_op (ev_op (ev_var (hv _)) ev_c (rv_ixT (st_of (e1 _ _ ha)) rfl)) (ev_var (hr _)) (rv_eq rfl))
    · obtain ⟨a, rfl, ha⟩ := hx
      cases sw
      · exact ev_op (ev_var (hv _)) ev_c (rv_ixT (st_of (e1 _ _ ha)) rfl)
      · exact ev_op (ev_var (hv _)) ev_c (rv_ixT (st_of (e1 _ _ ha)) rfl)
  have hlen2 := List.length_filter_le (fun d : Nat × Nat => decide (nv (if sw then d.2 else d.1) = nv r)) ds
  have fin := el_sset (K := K) (w := w) key (by rw [List.length_map]; omega) (m := n) (by omega) (by
    intro k hk
    obtain ⟨d, hd, rfl⟩ := List.mem_map.mp hk
    have := hN d (List.mem_filter.mp hd).1
    cases sw
    · show (0 : Int) ≤ (d.2 : Nat) ∧ ((d.2 : Nat) : Int) < n
      omega
    · show (0 : Int) ≤ (d.1 : Nat) ∧ ((d.1 : Nat) : Int) < n
      omega)
  have e : (rising n ((ds.filter fun d => decide (nv (if sw then d.2 else d.1) = nv r)).map fun d => ((if sw then d.1 else d.2 : Nat) : Int))) = (if sw then Nt.behind ⟨n, ds⟩ r else Nt.ahead ⟨n, ds⟩ r) := by
    cases sw
    · refine List.filter_congr fun j _ => ?_
      show decide _ = decide ((r, j) ∈ ds)
      refine decide_eq_decide.mpr ⟨fun h => ?_, fun h => ?_⟩
      · obtain ⟨d, hd, e⟩ := List.mem_map.mp h
        obtain ⟨h1, h2⟩ := List.mem_filter.mp hd
        have h3 : nv d.1 = nv r := of_decide_eq_true h2
        have h4 : ((d.1 : Nat) : Int) = r := V.int.inj h3
        have h5 : ((d.2 : Nat) : Int) = j := e
        have h6 : d = (r, j) := Prod.ext (by omega) (by omega)
        exact h6 ▸ h1
      · exact List.mem_map.mpr ⟨(r, j), List.mem_filter.mpr ⟨h, decide_eq_true rfl⟩, rfl⟩
    · refine List.filter_congr fun j _ => ?_
      show decide _ = decide ((j, r) ∈ ds)
      refine decide_eq_decide.mpr ⟨fun h => ?_, fun h => ?_⟩
      · obtain ⟨d, hd, e⟩ := List.mem_map.mp h
        obtain ⟨h1, h2⟩ := List.mem_filter.mp hd
        have h3 : nv d.2 = nv r := of_decide_eq_true h2
        have h4 : ((d.2 : Nat) : Int) = r := V.int.inj h3
        have h5 : ((d.1 : Nat) : Int) = j := e
        have h6 : d = (j, r) := Prod.ext (by omega) (by omega)
        exact h6 ▸ h1
      · exact List.mem_map.mpr ⟨(j, r), List.mem_filter.mpr ⟨h, decide_eq_true rfl⟩, rfl⟩
  rw [e] at fin
  exact fin
/-- the whole table -/
theorem table {K : PySem.W.Frag} {w : World} {l : Addr} {ds : List (Nat × Nat)} {n : Nat} (hN : ∀ d ∈ ds, d.1 < n ∧ d.2 < n) (hn : n ≤ 40) (hf : ds.length ≤ 1000) (sw : Bool) {s0 s3 s4 : Option V}
    (hl : PL K B l (ds.map zp)) :
    EvP (tLc (iRng1 (tCons (tVar 1) tNil)) (gName 4) tYes (tCB (rSortedSet w) (tCons (tCB (rSetOf K w) (tCons (tLc (iList K (tVar 2)) (gName 3) (tTest (tOp rEq (tOp (rIxT K) (tVar 3) (tC (.int (if sw then 1 else 0)))) (tVar 4))) (tOp (rIxT K) (tVar 3) (tC (.int (if sw then 0 else 1)))) [3]) tNil)) tNil)) [4]) [s0, some (nv n), some (.ref l), s3, s4] B
      (fun H1 v H2 => ∃ q, v = .ref q ∧ H1 q = none ∧ ∃ as : List Addr, H2 q = some (.lst (as.map V.ref)) ∧ Paired (fun a r => H1 a = none ∧ a ≠ q ∧ H2 a = some (.lst (nvs r))) as ((List.range n).map (if sw then Nt.behind ⟨n, ds⟩ else Nt.ahead ⟨n, ds⟩))) := by
  intro H1 e1 Q q
  refine ep_lcL (l := List.range n) (fun _ => true) (fun r => nvs (if sw then Nt.behind ⟨n, ds⟩ r else Nt.ahead ⟨n, ds⟩ r)) (ei_range (ea_cons (ev_var rfl) ea_nil) (by omega)) (by rw [List.length_range]; omega) (fun _ => rfl) (fun _ _ _ _ _ _ => et_yes) (fun r x H2 hr hx e2 _ => ?_) H1 e1 Q fun v H2 e2 hv => q v H2 e2 ?_
  · subst hx
    exact row_ahead hN hn hf sw (hl.mono e2) rfl (fun _ => rfl) (fun _ => rfl) (fun _ => rfl)
  · obtain ⟨p, as, rfl, h1, h2, h3⟩ := hv
    refine ⟨p, rfl, h1, as, h2, ?_⟩
    rw [List.filter_eq_self.mpr (fun _ _ => rfl)] at h3
    have : ∀ {as : List Addr} {rs : List Nat}, Paired (fun a r => H1 a = none ∧ a ≠ p ∧ H2 a = some (.lst r)) as (rs.map fun r => nvs (if sw then Nt.behind ⟨n, ds⟩ r else Nt.ahead ⟨n, ds⟩ r)) → Paired (fun a r => H1 a = none ∧ a ≠ p ∧ H2 a = some (.lst (nvs r))) as (rs.map (if sw then Nt.behind ⟨n, ds⟩ else Nt.ahead ⟨n, ds⟩)) := by
      intro as rs h
      induction rs generalizing as with
      | nil => cases h; exact .nil
      | cons r rs ih => cases h with
        | cons h1 h2 => exact .cons (by cases sw <;> exact h1) (ih h2)
    exact this h3
theorem putF_len {f : Str} {v : V} {fs : List (Str × V)} {n : Nat} (h : fs.length ≤ n) : (putF f v fs).length ≤ n + 1 := Nat.le_trans (length_putF f v fs) (Nat.succ_le_succ h)
theorem pure_Net___init__ (T : CF g) (h : sp_Net___init__ g vs H Q E) : t_Net___init__ g E { nx := fun _ H' => Q .non H', rt := Q } (start N_Net___init__ vs) H := by
  obtain ⟨p, dx, l, rooms, ds, rfl, hp, hl, hlen, k1, k2⟩ := h
  obtain ⟨as, hlt, hpa⟩ := id hl
  have hs : SqL g.K H l (as.map V.ref) := sq_of hlt
  have hlp : l ≠ p := ne_of hlt hp (by intro z; cases z)
  have hasl : as.length = ds.length := paired_len hpa
  have hSlen : (as.map V.ref).length = ds.length := by rw [List.length_map, hasl]
  refine s_if (et_or (et_not (et_ch ev_c (ev_var rfl) ev_c)) (fun _ => et_test (ev_op (ev_len (ev_var rfl) hs) ev_c rv_I0))) (fun hb H1 e1 => ?_) (fun hb H1 e1 => ?_)
  · refine k2 (fun N hN => ?_) H1 e1
    obtain ⟨ok, e, e'⟩ := hN
    have h1 := ok.pos
    have h2 := ok.most
    have h3 := ok.few
    have h4 : ds.length = N.ds.length := by rw [e', List.length_map]
    rw [hSlen, h4, e] at hb
    simp at hb
    omega
  · rw [hSlen] at hb
    have hb2 : (1 ≤ rooms ∧ rooms ≤ 40) ∧ ds.length ≤ 100 := by
      simp at hb
      omega
    clear hb
    obtain ⟨hb, hfew⟩ := hb2
    have hs1 := ex_l e1 hs
    -- the doors' loop
    refine s_forL (ev_var rfl) hs1 (fun i σ' H' => Ex H H' ∧ (∀ k, k < i → ∀ d, ds[k]? = some d → (0 ≤ d.1 ∧ d.1 < rooms) ∧ (0 ≤ d.2 ∧ d.2 < rooms)) ∧ ∃ s3 s4, σ' = [some (.ref p), some (.int rooms), some (.ref l), s3, s4]) (fun H2 e2 => ⟨e1.trans e2, fun _ h => absurd h (Nat.not_lt_zero _), none, none, rfl⟩) (fun i σ' H' _ h => ex_l h.1 hs) (fun i x σ' H' hx hP => ?_) (fun σ' H' hP => ?_)
    · obtain ⟨eH, hk, s3, s4, rfl⟩ := hP
      obtain ⟨a, ha, rfl⟩ : ∃ a, as[i]? = some a ∧ x = V.ref a := by
        rw [List.getElem?_map] at hx
        cases h : as[i]? with
        | none => rw [h] at hx; cases hx
        | some a => rw [h] at hx; exact ⟨a, rfl, (Option.some.inj hx).symm⟩
      obtain ⟨d, hd, hT⟩ := paired_at hpa ha
      show t_Net___init___b2 g E _ [some (.ref p), some (.int rooms), some (.ref l), some (.ref a), s4] H'
      refine s_forT (ev_var rfl) (st_of (eH _ _ hT)) (fun i2 σ' H' => Ex H H' ∧ (0 < i2 → 0 ≤ d.1 ∧ d.1 < rooms) ∧ (1 < i2 → 0 ≤ d.2 ∧ d.2 < rooms) ∧ ∃ s4, σ' = [some (.ref p), some (.int rooms), some (.ref l), some (.ref a), s4]) (fun H2 e2 => ⟨eH.trans e2, fun h => absurd h (by decide), fun h => absurd h (by decide), s4, rfl⟩) (fun i σ' H' _ h => st_of (h.1 _ _ hT)) (fun i2 y σ2 H2 hy hP2 => ?_) (fun σ2 H2 hP2 => ?_)
      · obtain ⟨eH2, q1, q2, s4', rfl⟩ := hP2
        have bad : ∀ z : Int, (z = d.1 ∨ z = d.2) → ¬ (0 ≤ z ∧ z < rooms) → ∀ N, ¬ IsNet rooms ds N := fun z hz hn N hN => by
          obtain ⟨ok, e, e'⟩ := hN
          have hm : d ∈ N.ds.map zp := e' ▸ List.mem_of_getElem? hd
          obtain ⟨d', hd', rfl⟩ := List.mem_map.mp hm
          have := ok.ends d' hd'
          apply hn
          rcases hz with rfl | rfl
          · show (0 : Int) ≤ (d'.1 : Nat) ∧ ((d'.1 : Nat) : Int) < rooms
            omega
          · show (0 : Int) ≤ (d'.2 : Nat) ∧ ((d'.2 : Nat) : Int) < rooms
            omega
        obtain ⟨z, rfl, hz, hz0, hz1⟩ : ∃ z : Int, y = V.int z ∧ (z = d.1 ∨ z = d.2) ∧ (i2 = 0 → z = d.1) ∧ (i2 = 1 → z = d.2) ∧ i2 < 2 := by
          match i2, hy with
          | 0, hy => exact ⟨d.1, (Option.some.inj hy).symm, .inl rfl, fun _ => rfl, (fun h => by cases h), by omega⟩
          | 1, hy => exact ⟨d.2, (Option.some.inj hy).symm, .inr rfl, (fun h => by cases h), fun _ => rfl, by omega⟩
          | n + 2, hy => simp at hy
        show t_Net___init___b1 g E _ [some (.ref p), some (.int rooms), some (.ref l), some (.ref a), some (.int z)] H2
        refine s_if (et_not (et_ch ev_c (ev_var rfl) (ev_var rfl))) (fun hb H3 e3 => ?_) (fun hb H3 e3 => ?_)
        · exact k2 (bad z hz (fun h => by simp [h.1, h.2] at hb)) H3 (eH2.trans e3)
        · have hz2 : 0 ≤ z ∧ z < rooms := by simpa using hb
          refine ⟨eH2.trans e3, fun _ => ?_, fun hi => ?_, _, rfl⟩
          · match i2, hz0, q1 with
            | 0, hz0, _ => rw [← hz0 rfl]; exact hz2
            | n + 1, _, q1 => exact q1 (by omega)
          · match i2, hz1, q2 with
            | 0, _, _ => omega
            | 1, hz1, _ => rw [← hz1.1 rfl]; exact hz2
            | n + 2, _, q2 => exact q2 (by omega)
      · obtain ⟨eH2, q1, q2, s4', rfl⟩ := hP2
        have q1 := q1 (by simp)
        have q2 := q2 (by simp)
        refine ⟨eH2, fun k hk' d' hd' => ?_, _, _, rfl⟩
        by_cases hki : k = i
        · subst hki
          rw [hd] at hd'
          cases hd'
          exact ⟨q1, q2⟩
        · exact hk k (by omega) d' hd'
    · -- the fields
      obtain ⟨eH, hk, s3, s4, rfl⟩ := hP
      rw [hSlen] at hk
      obtain ⟨n, rfl⟩ : ∃ n : Nat, rooms = n := ⟨rooms.toNat, by omega⟩
      have hall : ∀ d ∈ ds, (0 ≤ d.1 ∧ d.1 < (n : Int)) ∧ (0 ≤ d.2 ∧ d.2 < (n : Int)) := fun d hd => by
        obtain ⟨k, hk1, hk2⟩ := List.mem_iff_getElem.mp hd
        exact hk k hk1 d (by rw [List.getElem?_eq_getElem hk1, hk2])
      obtain ⟨es, hes⟩ : ∃ es : List (Nat × Nat), es = ds.map fun d => (d.1.toNat, d.2.toNat) := ⟨_, rfl⟩
      have he1 : ds = es.map zp := by
        rw [hes, List.map_map]
        conv => lhs; rw [← List.map_id ds]
        refine List.map_congr_left fun d hd => ?_
        have := hall d hd
        refine Prod.ext ?_ ?_
        · show d.1 = ((d.1.toNat : Nat) : Int)
          omega
        · show d.2 = ((d.2.toNat : Nat) : Int)
          omega
      have hends : ∀ d ∈ es, d.1 < n ∧ d.2 < n := fun d hd => by
        rw [hes] at hd
        obtain ⟨d', h1, rfl⟩ := List.mem_map.mp hd
        have := hall d' h1
        show d'.1.toNat < n ∧ d'.2.toNat < n
        omega
      have hel : es.length = ds.length := by rw [hes, List.length_map]
      have hok : Nt.Ok ⟨n, es⟩ := ⟨by show 1 ≤ n; omega, by show n ≤ 40; omega, by show es.length ≤ 100; omega, hends⟩
      -- B: what was there, the instance forgotten
      have eB : Ex (del H p) H' := ex_del.trans eH
      have hB : PL g.K (del H p) l (es.map zp) := by
        rw [← he1]
        refine ⟨as, sq_of (by rw [del_ne hlp]; exact hlt), ?_⟩
        refine Paired.mono (fun a d q => ?_) hpa
        rw [del_ne (ne_of q hp (by intro z; cases z))]
        exact q
      have hBs : SqL g.K (del H p) l (as.map V.ref) := sq_of (by rw [del_ne hlp]; exact hlt)
      -- self.many = rooms
      refine q_fld (f := "many") rfl eB (eH _ _ hp) T.cl T.nM (by show 0 < 1000; decide) (Ev.p (ev_var rfl)) fun v H2 e2 hv => ?_
      subst hv
      -- self.pairs = list(doors)
      refine q_fld (f := "pairs") rfl (ex_delU (eB.trans e2)) upd_same T.cl T.nP (Nat.lt_of_le_of_lt (putF_len (Nat.le_refl 0)) (by decide)) (EvL.p (el_list (ev_var rfl) hBs)) fun v H3 e3 hv => ?_
      obtain ⟨pa, rfl, hpa1, hpa2⟩ := hv
      have npa : pa ≠ p := fun z => by
        rw [z, upd_same] at hpa1
        cases hpa1
      have B3 : Ex (del H p) (upd H3 p (.ins g.C dx (putF "pairs" (V.ref pa) (putF "many" (V.int (n : Int)) [])))) := ex_delU ((ex_delU (eB.trans e2)).trans e3)
      -- self.ahead
      refine q_fld (f := "ahead") rfl B3 upd_same T.cl T.nA (Nat.lt_of_le_of_lt (putF_len (putF_len (Nat.le_refl 0))) (by decide)) (table (w := g.w) hends hok.most (by omega) false hB) fun v H4 e4 hv => ?_
      obtain ⟨aa, rfl, haa1, asA, haa2, haa3⟩ := hv
      have naa : aa ≠ p := fun z => by
        rw [z, upd_same] at haa1
        cases haa1
      -- self.behind
      refine s_fldE (f := "behind") rfl (ex_delU (B3.trans e4)) upd_same T.cl T.nB (Nat.lt_of_le_of_lt (putF_len (putF_len (putF_len (Nat.le_refl 0)))) (by decide)) (table (w := g.w) hends hok.most (by omega) true hB) fun v H5 e5 hv => ?_
      obtain ⟨ba, rfl, hba1, asB, hba2, hba3⟩ := hv
      have nba : ba ≠ p := fun z => by
        rw [z, upd_same] at hba1
        cases hba1
      have B5 := ex_delU (o := .ins g.C dx (putF "behind" (V.ref ba) (putF "ahead" (V.ref aa) (putF "pairs" (V.ref pa) (putF "many" (V.int (n : Int)) []))))) ((ex_delU (o := .ins g.C dx (putF "ahead" (V.ref aa) (putF "pairs" (V.ref pa) (putF "many" (V.int (n : Int)) [])))) (B3.trans e4)).trans e5)
      have lB : (del H p) l = some (.lst (as.map V.ref)) := by rw [del_ne hlp]; exact hlt
      have npl : ∀ {q : Addr} {Hq : Hp}, Ex (del H p) Hq → Hq q = none → q ≠ l := fun {q Hq} e hq z => by
        rw [z, e _ _ lB] at hq
        cases hq
      have pal : pa ≠ l := npl (ex_delU (eB.trans e2)) hpa1
      have aal : aa ≠ l := npl B3 haa1
      have bal : ba ≠ l := npl (ex_delU (B3.trans e4)) hba1
      refine k1 ⟨n, es⟩ ⟨hok, rfl, he1⟩ _ ⟨hok, dx, pa, aa, ba, by rw [del_ne (Ne.symm hlp)]; exact upd_same, ⟨as, ?_, ?_⟩, ⟨asA, ?_, ?_⟩, ⟨asB, ?_, ?_⟩⟩ fun b o hb hbp => B5 b o (by rw [del_ne hbp]; exact hb)
      · rw [del_ne pal, upd_ne npa]
        refine e5 _ _ ?_
        rw [upd_ne npa]
        refine e4 _ _ ?_
        rw [upd_ne npa]
        exact hpa2
      · rw [← he1]
        refine Paired.mono (fun a d q => ?_) hpa
        have hap : a ≠ p := ne_of q hp (by intro z; cases z)
        rw [del_ne (ne_of q hlt (by intro z; cases z))]
        exact B5 a _ (by rw [del_ne hap]; exact q)
      · rw [del_ne aal, upd_ne naa]
        refine e5 _ _ ?_
        rw [upd_ne naa]
        exact haa2
      · refine Paired.mono (fun a r q => ?_) haa3
        have hap : a ≠ p := fun z => by
          have h1 := q.1
          rw [z, upd_same] at h1
          cases h1
        rw [del_ne (npl B3 q.1), upd_ne hap]
        refine e5 _ _ ?_
        rw [upd_ne hap]
        exact q.2.2
      · rw [del_ne bal, upd_ne nba]
        exact hba2
      · refine Paired.mono (fun a r q => ?_) hba3
        have hap : a ≠ p := fun z => by
          have h1 := q.1
          rw [z, upd_same] at h1
          cases h1
        rw [del_ne (npl (ex_delU (B3.trans e4)) q.1), upd_ne hap]
        exact q.2.2
end
end Mp

/-! The laws' common helpers. -/
namespace Mp
open PySem L2 Evl
/-! ### data -/
def iD (xs : List Int) : PyData := .list (xs.map PyData.int)
def pD (d : Int × Int) : PyData := .tuple [.int d.1, .int d.2]
theorem ints_lay : ∀ xs : List Int, PyData.canLayAll0 (xs.map PyData.int) = true
  | [] => by simp [PyData.canLayAll0]
  | x :: xs => by simp [PyData.canLayAll0, PyData.canLay0, ints_lay xs]
theorem ints_depth : ∀ xs : List Int, PyData.depthAll (xs.map PyData.int) ≤ 1
  | [] => by simp [PyData.depthAll]
  | x :: xs => by
    have h := ints_depth xs
    simp only [List.map_cons, PyData.depthAll, PyData.depth]
    omega
theorem shaped_of {d : PyData} (h1 : d.canLay0 = true) (h2 : d.depth ≤ 64) : SeqAt.shaped d = true := by
  show (d.canLay0 && decide (d.depth ≤ 64)) = true
  rw [h1, Bool.true_and]
  exact decide_eq_true h2
theorem iD_shaped (xs : List Int) : SeqAt.shaped (iD xs) = true := by
  have h := ints_depth xs
  refine shaped_of (by simp only [iD, PyData.canLay0]; exact ints_lay xs) ?_
  simp only [iD, PyData.depth]
  omega
theorem pD_shaped (d : Int × Int) : SeqAt.shaped (pD d) = true := by
  refine shaped_of (by simp [pD, PyData.canLay0, PyData.canLayAll0]) ?_
  simp only [pD, PyData.depth, PyData.depthAll]
  omega
section
variable {K : PySem.W.Frag} {H : Hp}
theorem dp_ints : ∀ xs : List Int, DpAll K H (xs.map V.int) (xs.map PyData.int)
  | [] => .nil
  | x :: xs => .cons (.int x) (dp_ints xs)
theorem dp_list {a : Addr} {xs : List Int} (h : SqL K H a (xs.map V.int)) : Dp K H (.ref a) (iD xs) := .lst h (dp_ints xs)
theorem dp_pair {a : Addr} {d : Int × Int} (h : H a = some (.tup [.int d.1, .int d.2])) : Dp K H (.ref a) (pD d) := .tup (st_of h) (.cons (.int _) (.cons (.int _) .nil))
theorem nvs_int (l : List Nat) : nvs l = (l.map fun (k : Nat) => (k : Int)).map V.int := by rw [List.map_map]; rfl
end
section
variable {K : PySem.W.Frag} {σ : L2.St} {H : Hp} {ta tb te : TE} {x y z v : V}
/-- two like things -/
theorem rv_eqD {d : PyData} (h1 : ∀ H1, Ex H H1 → Dp K H1 x d) (h2 : ∀ H1, Ex H H1 → Dp K H1 y d) (hs : SeqAt.shaped d = true) : RV (rEqD K) x y H (.bl true) := fun H1 e Q q =>
  ⟨d, d, h1 H1 e, h2 H1 e, hs, hs, by rw [SeqAt.eqv_refl d (SeqAt.canLay_of_shaped hs)]; exact q H1 (Ex.refl _)⟩
theorem rv_neD {d : PyData} (h1 : ∀ H1, Ex H H1 → Dp K H1 x d) (h2 : ∀ H1, Ex H H1 → Dp K H1 y d) (hs : SeqAt.shaped d = true) : RV (rNeD K) x y H (.bl false) := fun H1 e Q q =>
  ⟨d, d, h1 H1 e, h2 H1 e, hs, hs, by rw [SeqAt.eqv_refl d (SeqAt.canLay_of_shaped hs)]; exact q H1 (Ex.refl _)⟩
theorem ev_isi {a b : String} {r : Bool} (ha : Ev ta σ H x) (ty : ∀ H1, Ex H H1 → TyX K H1 x (.type a)) (hk : kitB a b = some r) : Ev (tCB (rIsi K) (tCons ta (tCons (tC (.ty b)) tNil))) σ H (.bl r) := fun H1 e Q q =>
  ha H1 e _ fun H2 e2 => ⟨x, .ty b, _, _, r, rfl, .ty b, ty H2 (e.trans e2), kit_ty hk, q H2 e2⟩
theorem tx_int {i : Int} {H1 : Hp} : TyX K H1 (.int i) (.type "int") := .base (.int i)
theorem tx_bl {i : Bool} {H1 : Hp} : TyX K H1 (.bl i) (.type "bool") := .base (.bl i)
theorem tx_lst {a : Addr} {xs : List V} {H1 : Hp} (h : H1 a = some (.lst xs)) : TyX K H1 (.ref a) (.type "list") := .base (.lst h)
theorem tx_tup {a : Addr} {xs : List V} {H1 : Hp} (h : H1 a = some (.tup xs)) : TyX K H1 (.ref a) (.type "tuple") := .base (.tup h)
theorem ev_lenT {p : Addr} {xs : List V} (ha : Ev ta σ H (.ref p)) (h : SqT K H p xs) : Ev (tCB (rLenS K) (tCons ta tNil)) σ H (.int (xs.length : Int)) := fun H1 e Q q =>
  ha H1 e _ fun H2 e2 => ⟨p, xs, rfl, Or.inr (ex_t (e.trans e2) h), q H2 e2⟩
theorem rv_mod {i j : Int} (h : 0 < j) : RV rModI (.int i) (.int j) H (.int (i % j)) := rv_I h
theorem rv_div {i j : Int} (h : 0 < j ∧ j < 1073741824) : RV rDivI (.int i) (.int j) H (.int (i / j)) := rv_I h
end
theorem k_li : kitB "list" "list" = some true := by decide +kernel
theorem k_tt : kitB "tuple" "tuple" = some true := by decide +kernel
theorem k_ii : kitB "int" "int" = some true := by decide +kernel
theorem k_ib : kitB "int" "bool" = some false := by decide +kernel
theorem k_bb : kitB "bool" "bool" = some true := by decide +kernel
/-! ### promises -/
def sp__law_cell_at (g : Gb) : Sp := fun vs H Q _ => ∃ (l : Addr) (ns : List Int) (j : Nat), vs = [.ref l, .int (j : Int)] ∧ SqL g.K H l (ns.map V.int) ∧ RetV (.int (ns.getD j 0)) H Q
def sp__law_whole (g : Gb) : Sp := fun vs H Q _ => ∃ i : Int, vs = [.int i] ∧ RetV (.bl true) H Q
/-- two like lists of whole numbers -/
def sp__law_numbers (g : Gb) : Sp := fun vs H Q _ => ∃ (a b : Addr) (xs : List Int), vs = [.ref a, .ref b] ∧ H a = some (.lst (xs.map V.int)) ∧ SqL g.K H b (xs.map V.int) ∧ RetV (.bl true) H Q
/-- a drawn net: any, within the bounds -/
def Drawn (g : Gb) (most extra : Nat) (H : Hp) (Q : VK) : Prop := ∀ (n : Nat) (ds : List (Nat × Nat)) (q pa : Addr) (H2 : Hp), 1 ≤ n → n ≤ most → ds.length ≤ extra → (∀ d ∈ ds, d.1 < n ∧ d.2 < n) → Ex H H2 → H q = none → H pa = none → q ≠ pa →
  H2 q = some (.tup [nv n, .ref pa]) → PLt H2 pa (ds.map zp) → Q (.ref q) H2
def sp__law_net (g : Gb) : Sp := fun vs H Q _ => ∃ (l : Addr) (ns : List Int) (at_ most extra : Nat), vs = [.ref l, .int (at_ : Int), .int (most : Int), .int (extra : Int)] ∧ SqL g.K H l (ns.map V.int) ∧ 1 ≤ most ∧ most ≤ 40 ∧ extra ≤ 100 ∧ Drawn g most extra H Q
/-- two like lists of pairs -/
def sp__law_pairs (g : Gb) : Sp := fun vs H Q _ => ∃ (a b : Addr) (ds : List (Int × Int)), vs = [.ref a, .ref b] ∧ PLt H a ds ∧ PLt H b ds ∧ ds.length ≤ 1000 ∧ RetV (.bl true) H Q
def spLawK (K : PySem.W.Frag) : Sp := fun vs H Q _ => ∃ (a : Addr) (ns : List Int), vs = [.ref a] ∧ SqL K H a (ns.map V.int) ∧ ns.length ≤ 63 ∧ ∀ H2, Q (.bl true) H2
abbrev spLaw (g : Gb) : Sp := spLawK g.K
/-! _law_cell_at: slots 0 script 1 k -/
def t__law_cell_at (g : Gb) : TS := tSeq (tIfS (tTest (tOp rLtI (tVar 1) (tCB (rLenS g.K) (tCons (tVar 0) tNil)))) (tRet (tOp (rIxL g.K) (tVar 0) (tVar 1))) tNext)
  (tRet (tC (.int 0)))
abbrev N__law_cell_at : List Str := ["script", "k"]
/-! _law_whole: slots 0 found -/
def t__law_whole (g : Gb) : TS := tRet (tAndV (tCB (rIsi g.K) (tCons (tVar 0) (tCons (tC (.ty "int")) tNil))) (tNotV (tCB (rIsi g.K) (tCons (tVar 0) (tCons (tC (.ty "bool")) tNil)))))
abbrev N__law_whole : List Str := ["found"]
/-! _law_numbers: slots 0 found 1 due 2 x -/
def t__law_numbers_b1 (g : Gb)  : TS := tIfS (tNot (tB (tCall (sp__law_whole g) [] E0 (tCons (tVar 2) tNil)))) (tRet (tC (.bl false))) tNext
def t__law_numbers (g : Gb) : TS := tSeq (tIfS (tOr (tNot (tB (tCB (rIsi g.K) (tCons (tVar 0) (tCons (tC (.ty "list")) tNil))))) (tTest (tOp rNe (tCB (rLenS g.K) (tCons (tVar 0) tNil)) (tCB (rLenS g.K) (tCons (tVar 1) tNil))))) (tRet (tC (.bl false))) tNext)
  (tSeq (tFor (iList g.K (tVar 0)) (gName 2) (t__law_numbers_b1 g))
  (tRet (tOp (rEqD g.K) (tVar 0) (tVar 1))))
abbrev N__law_numbers : List Str := ["found", "due", "x"]
/-! _law_net: slots 0 script 1 at 2 most 3 extra 4 many 5 pairs 6 k 7 cell -/
def t__law_net_b1 (g : Gb)  : TS := tSeq (tAsg (tCall (sp__law_cell_at g) [] E0 (tCons (tVar 0) (tCons (tOp rAddI (tOp rAddI (tVar 1) (tC (.int 1))) (tVar 6)) tNil))) (gName 7))
  (tDrop (tBM g.K "list" rAppend (tVar 5) (tCons (tTup (tCons (tOp rModI (tVar 7) (tVar 4)) (tCons (tOp rModI (tOp rDivI (tVar 7) (tVar 4)) (tVar 4)) tNil))) tNil)))
def t__law_net (g : Gb) : TS := tSeq (tAsg (tOp rAddI (tC (.int 1)) (tOp rModI (tCall (sp__law_cell_at g) [] E0 (tCons (tVar 0) (tCons (tVar 1) tNil))) (tVar 2))) (gName 4))
  (tSeq (tAsg (tLst tNil) (gName 5))
  (tSeq (tFor (iRng1 (tCons (tOp rModI (tOp rDivI (tCall (sp__law_cell_at g) [] E0 (tCons (tVar 0) (tCons (tVar 1) tNil))) (tVar 2)) (tOp rAddI (tVar 3) (tC (.int 1)))) tNil)) (gName 6) (t__law_net_b1 g))
  (tRet (tTup (tCons (tVar 4) (tCons (tVar 5) tNil))))))
abbrev N__law_net : List Str := ["script", "at", "most", "extra", "many", "pairs", "k", "cell"]
/-! _law_pairs: slots 0 found 1 due 2 k -/
def t__law_pairs_b1 (g : Gb)  : TS := tSeq (tIfS (tOr (tNot (tB (tCB (rIsi g.K) (tCons (tOp (rIxL g.K) (tVar 0) (tVar 2)) (tCons (tC (.ty "tuple")) tNil))))) (tOr (tTest (tOp rNe (tCB (rLenS g.K) (tCons (tOp (rIxL g.K) (tVar 0) (tVar 2)) tNil)) (tC (.int 2)))) (tTest (tOp (rNeD g.K) (tOp (rIxL g.K) (tVar 0) (tVar 2)) (tOp (rIxL g.K) (tVar 1) (tVar 2)))))) (tRet (tC (.bl false))) tNext)
  (tIfS (tOr (tNot (tB (tCall (sp__law_whole g) [] E0 (tCons (tOp (rIxT g.K) (tOp (rIxL g.K) (tVar 0) (tVar 2)) (tC (.int 0))) tNil)))) (tNot (tB (tCall (sp__law_whole g) [] E0 (tCons (tOp (rIxT g.K) (tOp (rIxL g.K) (tVar 0) (tVar 2)) (tC (.int 1))) tNil))))) (tRet (tC (.bl false))) tNext)
def t__law_pairs (g : Gb) : TS := tSeq (tIfS (tOr (tNot (tB (tCB (rIsi g.K) (tCons (tVar 0) (tCons (tC (.ty "list")) tNil))))) (tTest (tOp rNe (tCB (rLenS g.K) (tCons (tVar 0) tNil)) (tCB (rLenS g.K) (tCons (tVar 1) tNil))))) (tRet (tC (.bl false))) tNext)
  (tSeq (tFor (iRng1 (tCons (tCB (rLenS g.K) (tCons (tVar 1) tNil)) tNil)) (gName 2) (t__law_pairs_b1 g))
  (tRet (tC (.bl true))))
abbrev N__law_pairs : List Str := ["found", "due", "k"]

section
variable {g : Gb} {σ : L2.St} {H B : Hp} {D : Ends} {E : XK} {Q : VK} {vs : List V} {p : Addr} {N : Nt} {te : TE}
theorem pure__law_cell_at (h : sp__law_cell_at g vs H Q E) : t__law_cell_at g { nx := fun _ H' => Q .non H', rt := Q } (start N__law_cell_at vs) H := by
  obtain ⟨l, ns, j, rfl, hs, k⟩ := h
  refine q_when (et_test (ev_op (ev_var rfl) (ev_len (ev_var rfl) hs) rv_I0)) (fun hb H1 e1 => ?_) (fun hb H1 e1 => ?_)
  · have hj : j < ns.length := by
      rw [List.length_map] at hb
      have := of_decide_eq_true hb
      omega
    refine s_ret (ev_op (ev_var rfl) (ev_var rfl) (rv_ixL (ex_l e1 hs) (atI_nat (v := V.int (ns.getD j 0)) ?_))) fun H2 e2 => k H2 (e1.trans e2)
    rw [List.getElem?_map, List.getD_eq_getElem?_getD, List.getElem?_eq_getElem hj]
    rfl
  · have hj : ¬ j < ns.length := by
      rw [List.length_map] at hb
      have := of_decide_eq_false hb
      omega
    refine s_ret ev_c fun H2 e2 => ?_
    have := k H2 (e1.trans e2)
    rw [List.getD_eq_getElem?_getD, List.getElem?_eq_none (by omega)] at this
    exact this
theorem pure__law_whole (h : sp__law_whole g vs H Q E) : t__law_whole g { nx := fun _ H' => Q .non H', rt := Q } (start N__law_whole vs) H := by
  obtain ⟨i, rfl, k⟩ := h
  exact s_ret (ev_andV (ev_isi (ev_var rfl) (fun _ _ => tx_int) k_ii) fun _ => ev_notV (ev_isi (ev_var rfl) (fun _ _ => tx_int) k_ib)) k
theorem ev_whole {i : Int} (h : Ev te σ H (.int i)) : Ev (tCall (sp__law_whole g) [] E0 (tCons te tNil)) σ H (.bl true) := ev_call1 (ea_cons h ea_nil) fun H1 e Q k => ⟨i, rfl, k⟩
theorem pure__law_numbers (h : sp__law_numbers g vs H Q E) : t__law_numbers g { nx := fun _ H' => Q .non H', rt := Q } (start N__law_numbers vs) H := by
  obtain ⟨a, b, xs, rfl, h1, h2, k⟩ := h
  refine q_when (b := false) (et_is (et_or (et_not (et_B (ev_isi (ev_var rfl) (fun H1 e => tx_lst (e _ _ h1)) k_li))) fun _ => et_test (ev_op (ev_len (ev_var rfl) (sq_of h1)) (ev_len (ev_var rfl) h2) (rv_ne rfl))) (by simp)) (fun hb => by cases hb) (fun _ H1 e1 => ?_)
  refine q_forLn (ev_var rfl) (sq_of (e1 _ _ h1)) (fun i σ' H' => Ex H H' ∧ ∃ s2, σ' = [some (.ref a), some (.ref b), s2]) (fun H2 e2 => ⟨e1.trans e2, _, rfl⟩) (fun i σ' H' _ hP => sq_of (hP.1 _ _ h1)) (fun i x σ' H' hx hP => ?_) (fun σ' H' hP => ?_)
  · obtain ⟨eH, s2, rfl⟩ := hP
    obtain ⟨z, rfl⟩ : ∃ z, x = V.int z := by
      rw [List.getElem?_map] at hx
      cases e : xs[i]? with
      | none => rw [e] at hx; cases hx
      | some z => rw [e] at hx; exact ⟨z, (Option.some.inj hx).symm⟩
    exact s_when (b := false) (et_not (et_B (ev_whole (ev_var rfl)))) (fun hb => by cases hb) fun _ H2 e2 => ⟨eH.trans e2, _, rfl⟩
  · obtain ⟨eH, s2, rfl⟩ := hP
    exact s_ret (ev_op (ev_var rfl) (ev_var rfl) (rv_eqD (fun H1 e => dp_list (sq_of (e _ _ (eH _ _ h1)))) (fun H1 e => dp_list (ex_l e (ex_l eH h2))) (iD_shaped xs))) fun H2 e2 => k H2 (eH.trans e2)
theorem ev_cell {l : Addr} {ns : List Int} {j : Nat} {te : TE} (h : Ev (tVar 0) σ H (.ref l)) (hs : SqL g.K H l (ns.map V.int)) (hj : Ev te σ H (.int (j : Int))) : Ev (tCall (sp__law_cell_at g) [] E0 (tCons (tVar 0) (tCons te tNil))) σ H (.int (ns.getD j 0)) :=
  ev_call1 (ea_cons h (ea_cons hj ea_nil)) fun H1 e Q k => ⟨l, ns, j, rfl, ex_l e hs, k⟩
theorem emod_nat (i : Int) {m : Nat} (h : 0 < m) : ∃ k : Nat, i % (m : Int) = (k : Int) ∧ k < m := by
  have h1 := Int.emod_nonneg i (b := (m : Int)) (by omega)
  have h2 := Int.emod_lt_of_pos i (b := (m : Int)) (by omega)
  exact ⟨(i % (m : Int)).toNat, by omega, by omega⟩
theorem pure__law_net (h : sp__law_net g vs H Q E) : t__law_net g { nx := fun _ H' => Q .non H', rt := Q } (start N__law_net vs) H := by
  obtain ⟨l, ns, at_, most, extra, rfl, hs, hm1, hm2, hx, k⟩ := h
  obtain ⟨n0, hn0, hn1⟩ := emod_nat (ns.getD at_ 0) (m := most) (by omega)
  obtain ⟨c, hc0, hc1⟩ := emod_nat (ns.getD at_ 0 / (most : Int)) (m := extra + 1) (by omega)
  -- many
  refine q_asg (v := nv (1 + n0)) (ev_is (ev_op ev_c (ev_op (ev_cell (ev_var rfl) hs (ev_var rfl)) (ev_var rfl) (rv_mod (by omega))) rv_I0) ?_) fun H1 e1 => ?_
  · show V.int (1 + ns.getD at_ 0 % (most : Int)) = V.int ((1 + n0 : Nat) : Int)
    rw [hn0]
    exact congrArg V.int (by omega)
  -- pairs = []
  refine q_asgL (el_lst ea_nil (Nat.zero_le _)) fun pa H2 hpa e2 hpa2 => ?_
  have hs2 : SqL g.K H2 l (ns.map V.int) := ex_l (e1.trans e2) hs
  have npa : H pa = none := fresh_back e1 hpa
  refine q_forR1 (n := (c : Int)) (ea_cons (ev_is (ev_op (ev_op (ev_cell (ev_var rfl) hs2 (ev_var rfl)) (ev_var rfl) (rv_div ⟨by omega, by omega⟩)) (ev_op (ev_var rfl) ev_c rv_I0) (rv_mod (by show (0 : Int) < (extra : Int) + 1; omega))) ?_) ea_nil) ⟨by omega, by omega⟩
    (fun i σ' H' => Ex H H' ∧ ∃ (ds : List (Nat × Nat)) (as : List Addr) (s6 s7 : Option V), ds.length = i ∧ (∀ d ∈ ds, d.1 < 1 + n0 ∧ d.2 < 1 + n0) ∧ H' pa = some (.lst (as.map V.ref)) ∧ PairsAt H' as (ds.map zp) ∧ σ' = [some (.ref l), some (.int (at_ : Int)), some (.int (most : Int)), some (.int (extra : Int)), some (nv (1 + n0)), some (.ref pa), s6, s7])
    (fun H3 e3 => ⟨(e1.trans e2).trans e3, [], [], none, none, rfl, (fun _ h => by cases h), e3 _ _ hpa2, Paired.nil, rfl⟩) (fun i σ' H' hi hP => ?_) (fun σ' H' hP => ?_)
  · show V.int (ns.getD at_ 0 / (most : Int) % ((extra : Int) + 1)) = V.int (c : Int)
    rw [← hc0]
    rfl
  · obtain ⟨eH, ds, as, s6, s7, hl, hds, hpa3, hps, rfl⟩ := hP
    obtain ⟨u, hu0, hu1⟩ := emod_nat (ns.getD (at_ + 1 + i) 0) (m := 1 + n0) (by omega)
    obtain ⟨w, hw0, hw1⟩ := emod_nat (ns.getD (at_ + 1 + i) 0 / ((1 + n0 : Nat) : Int)) (m := 1 + n0) (by omega)
    refine q_asg (ev_cell (j := at_ + 1 + i) (ev_var rfl) (ex_l eH hs) (ev_is (ev_op (ev_op (ev_var rfl) ev_c rv_I0) (ev_var rfl) rv_I0) ?_)) fun H3 e3 => ?_
    · exact congrArg V.int (by omega)
    refine s_appU (ys := [nv u, nv w]) (e3 _ _ hpa3) (ev_var rfl) (eu_tup (ea_cons (ev_is (ev_op (ev_var rfl) (ev_var rfl) (rv_mod (by omega))) ?_) (ea_cons (ev_is (ev_op (ev_op (ev_var rfl) (ev_var rfl) (rv_div ⟨by omega, by omega⟩)) (ev_var rfl) (rv_mod (by omega))) ?_) ea_nil)) (by show 2 ≤ 100000; decide)) ?_ fun t H4 ht e4 ht4 => ?_
    · exact congrArg V.int hu0
    · exact congrArg V.int hw0
    · rw [List.length_map]
      have h1 := paired_len hps
      rw [List.length_map] at h1
      omega
    · have ntp : t ≠ pa := fun z => by
        rw [z, e3 _ _ hpa3] at ht
        cases ht
      refine ⟨exU ((eH.trans e3).trans e4) npa, ds ++ [(u, w)], as ++ [t], _, _, ?_, fun d hd => ?_, ?_, ?_, rfl⟩
      · rw [List.length_append, hl]
        rfl
      · rcases List.mem_append.mp hd with hd | hd
        · exact hds d hd
        · rw [List.mem_singleton.mp hd]
          exact ⟨hu1, hw1⟩
      · rw [upd_same, List.map_append]
        rfl
      · rw [List.map_append]
        refine Paired.snoc (by rw [upd_ne ntp]; exact ht4) (Paired.mono (fun a d q => ?_) hps)
        have hap : a ≠ pa := ne_of q hpa3 (by intro z; cases z)
        rw [upd_ne hap]
        exact e4 _ _ (e3 _ _ q)
  · obtain ⟨eH, ds, as, s6, s7, hl, hds, hpa3, hps, rfl⟩ := hP
    refine s_retU (eu_tup (ea_cons (ev_var rfl) (ea_cons (ev_var rfl) ea_nil)) (by show 2 ≤ 100000; decide)) fun q H3 hq e3 hq3 => ?_
    refine k (1 + n0) ds q pa H3 (by omega) (by omega) (by omega) hds (eH.trans e3) (fresh_back eH hq) npa (fun z => ?_) hq3 ⟨as, e3 _ _ hpa3, hps.mono e3⟩
    rw [z, hpa3] at hq
    cases hq
theorem pure__law_pairs (h : sp__law_pairs g vs H Q E) : t__law_pairs g { nx := fun _ H' => Q .non H', rt := Q } (start N__law_pairs vs) H := by
  obtain ⟨a, b, ds, rfl, ⟨as, h1, h1p⟩, ⟨bs, h2, h2p⟩, hlen, k⟩ := h
  have la : (as.map V.ref).length = ds.length := by rw [List.length_map]; exact paired_len h1p
  have lb : (bs.map V.ref).length = ds.length := by rw [List.length_map]; exact paired_len h2p
  refine q_when (b := false) (et_is (et_or (et_not (et_B (ev_isi (ev_var rfl) (fun H1 e => tx_lst (e _ _ h1)) k_li))) fun _ => et_test (ev_op (ev_len (ev_var rfl) (sq_of h1)) (ev_len (ev_var rfl) (sq_of h2)) (rv_ne rfl))) (by rw [la, lb]; simp)) (fun hb => by cases hb) (fun _ H1 e1 => ?_)
  refine q_forR1 (n := (ds.length : Int)) (ea_cons (ev_is (ev_len (ev_var rfl) (sq_of (e1 _ _ h2))) (by rw [lb])) ea_nil) ⟨by omega, by omega⟩ (fun i σ' H' => Ex H H' ∧ ∃ s2, σ' = [some (.ref a), some (.ref b), s2]) (fun H2 e2 => ⟨e1.trans e2, _, rfl⟩) (fun i σ' H' hi hP => ?_) (fun σ' H' hP => ?_)
  · obtain ⟨eH, s2, rfl⟩ := hP
    have hi2 : i < ds.length := by omega
    obtain ⟨t, ht, ht2⟩ := Paired.at h1p (List.getElem?_eq_getElem hi2)
    obtain ⟨u, hu, hu2⟩ := Paired.at h2p (List.getElem?_eq_getElem hi2)
    have gt : (as.map V.ref)[i]? = some (V.ref t) := by rw [List.getElem?_map, ht]; rfl
    have gu : (bs.map V.ref)[i]? = some (V.ref u) := by rw [List.getElem?_map, hu]; rfl
    have et : Ev (tOp (rIxL g.K) (tVar 0) (tVar 2)) [some (V.ref a), some (V.ref b), some (V.int (i : Int))] H' (.ref t) := ev_op (ev_var rfl) (ev_var rfl) (rv_ixL (sq_of (eH _ _ h1)) (atI_nat gt))
    have eu : Ev (tOp (rIxL g.K) (tVar 1) (tVar 2)) [some (V.ref a), some (V.ref b), some (V.int (i : Int))] H' (.ref u) := ev_op (ev_var rfl) (ev_var rfl) (rv_ixL (sq_of (eH _ _ h2)) (atI_nat gu))
    refine q_when (b := false) (et_is (et_or (et_not (et_B (ev_isi et (fun H1 e => tx_tup (e _ _ (eH _ _ ht2))) k_tt))) fun _ => et_or (et_test (ev_op (ev_lenT et (st_of (eH _ _ ht2))) ev_c (rv_ne rfl))) fun _ => et_test (ev_op et eu (rv_neD (fun H1 e => dp_pair (e _ _ (eH _ _ ht2))) (fun H1 e => dp_pair (e _ _ (eH _ _ hu2))) (pD_shaped _)))) (by simp)) (fun hb => by cases hb) (fun _ H2 e2 => ?_)
    have et2 := et.mono e2
    exact s_when (b := false) (et_is (et_or (et_not (et_B (ev_whole (ev_op et2 ev_c (rv_ixT (st_of (e2 _ _ (eH _ _ ht2))) rfl))))) fun _ => et_not (et_B (ev_whole (ev_op et2 ev_c (rv_ixT (st_of (e2 _ _ (eH _ _ ht2))) rfl))))) rfl) (fun hb => by cases hb) fun _ H3 e3 => ⟨(eH.trans e2).trans e3, _, rfl⟩
  · obtain ⟨eH, s2, rfl⟩ := hP
    exact s_ret ev_c fun H2 e2 => k H2 (eH.trans e2)
/-- the call of the class, from the heap at the call -/
theorem init_ok {x dx l : Addr} {rooms : Int} {ds : List (Int × Int)} {R : VK} (hx : H x = none) (hdx : H dx = none) (hl : PLt H l ds) (hlen : ds.length ≤ 1000)
    (k : ∀ N H2, IsNet rooms ds N → x ≠ l → Ex H H2 → NetAt g (del H2 l) x N → R (.ref x) H2) (kE : (∀ N, ¬ IsNet rooms ds N) → RetX E g.cN H) :
    sp_Net___init__ g [.ref x, .int rooms, .ref l] (upd (upd H dx (.own x)) x (.ins g.C dx [])) (fun v H2 => v = .non ∧ R (.ref x) H2) E := by
  have e2 : Ex H (upd (upd H dx (.own x)) x (.ins g.C dx [])) := fun a o ha => by
    rw [upd_ne (ne_of_none ha hx), upd_ne (ne_of_none ha hdx)]
    exact ha
  refine ⟨x, dx, l, rooms, ds, rfl, upd_same, hl.mono e2, hlen, fun M hM H2 hn hk => ⟨rfl, ?_⟩, fun h H2 e => kE h H2 (e2.trans e)⟩
  obtain ⟨as, ha, _⟩ := hl
  refine k M H2 hM (fun z => ?_) (fun a o ha => hk a o (e2 _ _ ha) (ne_of_none ha hx)) hn
  rw [z] at hx
  rw [hx] at ha
  cases ha
theorem zp_inj : ∀ a b : List (Nat × Nat), a.map zp = b.map zp → a = b
  | [], [], _ => rfl
  | [], _ :: _, h => nomatch h
  | _ :: _, [], h => nomatch h
  | x :: a, y :: b, h => by
    obtain ⟨h1, h2⟩ := List.cons.inj h
    have h5 : ((x.1 : Nat) : Int) = (y.1 : Nat) := congrArg Prod.fst h1
    have h6 : ((x.2 : Nat) : Int) = (y.2 : Nat) := congrArg Prod.snd h1
    rw [zp_inj a b h2, show x = y from Prod.ext (by omega) (by omega)]
theorem isNet_eq {N M : Nt} (h : IsNet (N.n : Int) (N.ds.map zp) M) : M = N := by
  obtain ⟨_, h2, h3⟩ := h
  cases M
  cases N
  have e := (zp_inj _ _ h3).symm
  have e1 : (_ : Int) = _ := h2
  simp only at e e1
  have e2 := Int.ofNat.inj e1
  subst e e2
  rfl
/-- net = Net(many, pairs): the list's own address forgotten, a net stands at a new address -/
theorem q_net {tm tl : TE} {i : Nat} {tz : TS} {la : Addr} (hN : N.Ok) (h1 : Ev tm σ H (nv N.n)) (h2 : Ev tl σ H (.ref la)) (hl : PLt H la (N.ds.map zp))
    (k : ∀ x H1, H x = none → x ≠ la → Ex H H1 → NetAt g (del H1 la) x N → tz D (σ.set i (some (.ref x))) H1) : tSeq (tAsg (tMake g.C (sp_Net___init__ g) [] E0 (tCons tm (tCons tl tNil))) (gName i)) tz D σ H :=
  q_mkX (ea_cons h1 (ea_cons h2 ea_nil)) fun H1 e1 x dx hx hdx _ => init_ok (R := fun v H2 => tz D (σ.set i (some v)) H2) hx hdx (hl.mono e1) (by have := hN.few; rw [List.length_map]; omega)
    (fun M H2 hM hxl e2 hn => k x H2 (fresh_back e1 hx) hxl (e1.trans e2) (isNet_eq hM ▸ hn)) (fun h => (h N ⟨hN, rfl, rfl⟩).elim)
theorem ev_leads {te tr : TE} {x : Addr} {r : Nat} (h : Ev te σ H (.ref x)) (hr : Ev tr σ H (nv r)) (hn : NetAt g H x N) (hlt : r < N.n) : EvL (tMeth g.C "leads" (sp_Net_leads g) [] E0 te (tCons tr tNil)) σ H (nvs (N.ahead r)) := fun H1 e1 Q q =>
  h H1 e1 _ fun H2 e2 => let ⟨_, dx, pa, aa, ba, h1, _⟩ := hn.mono (e1.trans e2); ⟨x, dx, _, rfl, h1, netF_no _ _ _ _ (by decide +kernel) (by decide +kernel) (by decide +kernel) (by decide +kernel), hr H2 (e1.trans e2) _ fun H3 e3 =>
    ⟨x, N, r, rfl, hn.mono ((e1.trans e2).trans e3), fun k _ hk => by
      have : r = k := by omega
      subst this
      exact fun p H4 hp e4 h4 => q p H4 (fresh_back (e2.trans e3) hp) ((e2.trans e3).trans e4) h4, fun z => (z ⟨by omega, by omega⟩).elim⟩⟩
theorem ev_led {te tr : TE} {x : Addr} {r : Nat} (h : Ev te σ H (.ref x)) (hr : Ev tr σ H (nv r)) (hn : NetAt g H x N) (hlt : r < N.n) : EvL (tMeth g.C "led" (sp_Net_led g) [] E0 te (tCons tr tNil)) σ H (nvs (N.behind r)) := fun H1 e1 Q q =>
  h H1 e1 _ fun H2 e2 => let ⟨_, dx, pa, aa, ba, h1, _⟩ := hn.mono (e1.trans e2); ⟨x, dx, _, rfl, h1, netF_no _ _ _ _ (by decide +kernel) (by decide +kernel) (by decide +kernel) (by decide +kernel), hr H2 (e1.trans e2) _ fun H3 e3 =>
    ⟨x, N, r, rfl, hn.mono ((e1.trans e2).trans e3), fun k _ hk => by
      have : r = k := by omega
      subst this
      exact fun p H4 hp e4 h4 => q p H4 (fresh_back (e2.trans e3) hp) ((e2.trans e3).trans e4) h4, fun z => (z ⟨by omega, by omega⟩).elim⟩⟩
theorem ev_rooms {te : TE} {x : Addr} (h : Ev te σ H (.ref x)) (hn : NetAt g H x N) : Ev (tMeth g.C "rooms" (sp_Net_rooms g) [] E0 te tNil) σ H (nv N.n) := fun H1 e1 Q q =>
  h H1 e1 _ fun H2 e2 => let ⟨_, dx, pa, aa, ba, h1, _⟩ := hn.mono (e1.trans e2); ⟨x, dx, _, rfl, h1, netF_no _ _ _ _ (by decide +kernel) (by decide +kernel) (by decide +kernel) (by decide +kernel),
    ⟨x, N, rfl, hn.mono (e1.trans e2), fun H3 e3 => q H3 (e2.trans e3)⟩⟩
/-- a fresh list of pairs -/
def EvPL (te : TE) (σ : L2.St) (H : Hp) (ds : List (Int × Int)) : Prop := EvP te σ H (fun H1 v H2 => ∃ p, v = .ref p ∧ H1 p = none ∧ PLt H2 p ds)
theorem ev_doors {te : TE} {x : Addr} (h : Ev te σ H (.ref x)) (hn : NetAt g H x N) : EvPL (tMeth g.C "doors" (sp_Net_doors g) [] E0 te tNil) σ H (N.ds.map zp) := fun H1 e1 Q q =>
  h H1 e1 _ fun H2 e2 => let ⟨_, dx, pa, aa, ba, h1, _⟩ := hn.mono (e1.trans e2); ⟨x, dx, _, rfl, h1, netF_no _ _ _ _ (by decide +kernel) (by decide +kernel) (by decide +kernel) (by decide +kernel),
    ⟨x, N, rfl, hn.mono (e1.trans e2), fun p H3 hp e3 h3 => q _ H3 (e2.trans e3) ⟨p, rfl, fresh_back e2 hp, h3⟩⟩⟩
theorem ev_numbers {ta tb : TE} {a b : Addr} {xs : List Nat} (h1 : Ev ta σ H (.ref a)) (h2 : Ev tb σ H (.ref b)) (h3 : H a = some (.lst (nvs xs))) (h4 : H b = some (.lst (nvs xs))) : Ev (tCall (sp__law_numbers g) [] E0 (tCons ta (tCons tb tNil))) σ H (.bl true) :=
  ev_call1 (ea_cons h1 (ea_cons h2 ea_nil)) fun H1 e Q k => ⟨a, b, _, rfl, by rw [← nvs_int]; exact e _ _ h3, by rw [← nvs_int]; exact sq_of (e _ _ h4), k⟩
theorem ev_pairs {ta tb : TE} {a b : Addr} {ds : List (Int × Int)} (h1 : Ev ta σ H (.ref a)) (h2 : Ev tb σ H (.ref b)) (h3 : PLt H a ds) (h4 : PLt H b ds) (hl : ds.length ≤ 1000) : Ev (tCall (sp__law_pairs g) [] E0 (tCons ta (tCons tb tNil))) σ H (.bl true) :=
  ev_call1 (ea_cons h1 (ea_cons h2 ea_nil)) fun H1 e Q k => ⟨a, b, ds, rfl, h3.mono e, h4.mono e, hl, k⟩
theorem PLt.del {H : Hp} {a l : Addr} {ds : List (Int × Int)} {xs : List V} (h : PLt H a ds) (hl : H l = some (.lst xs)) (hne : a ≠ l) : PLt (del H l) a ds :=
  let ⟨as, h1, h2⟩ := h
  ⟨as, by rw [del_ne hne]; exact h1, Paired.mono (fun c d q => by rw [del_ne (ne_of q hl (by intro z; cases z))]; exact q) h2⟩
/-! ### lists of pairs as data -/
theorem pairs_lay : ∀ xs : List (Int × Int), PyData.canLayAll0 (xs.map pD) = true
  | [] => by simp [PyData.canLayAll0]
  | x :: xs => by
    have h : (pD x).canLay0 = true := by simp [pD, PyData.canLay0, PyData.canLayAll0]
    simp [PyData.canLayAll0, h, pairs_lay xs]
theorem pairs_depth : ∀ xs : List (Int × Int), PyData.depthAll (xs.map pD) ≤ 2
  | [] => by simp [PyData.depthAll]
  | x :: xs => by
    have h := pairs_depth xs
    simp only [List.map_cons, PyData.depthAll, PyData.depth, pD]
    omega
theorem dp_pairs {K : PySem.W.Frag} {H : Hp} {a : Addr} {ds : List (Int × Int)} (h : PLt H a ds) : Dp K H (.ref a) (.list (ds.map pD)) := by
  obtain ⟨as, h1, h2⟩ := h
  refine .lst (sq_of h1) ?_
  clear h1
  unfold PairsAt at h2
  induction h2 with
  | nil => exact .nil
  | cons r _ ih => exact .cons (dp_pair r) ih
end
end Mp

/-! Rules for what stands in a try: a class called, isinstance of what was caught. -/
namespace Mp
open PySem L2 Evl
def tMakeS (C : Addr) (sp : Sp) (E : L2.St → XK) (t : TA) : TE := fun σ H Q => t σ H fun vs H1 => ∀ x dx, H1 x = none → H1 dx = none → dx ≠ x → sp (.ref x :: vs) (upd (upd H1 dx (.own x)) x (.ins C dx [])) (fun v H2 => v = .non ∧ Q (.ref x) H2) (E σ)
section
variable {X : Cx} {CX : CXT} {k j : Nat} {nm : Str} {ps : List Str} {sp : Sp} {E : L2.St → XK} {C f : Addr} {fd : FuncData} {e : Expr} {es : List Expr} {t : TA} {p pos : Pos}
theorem made_S {pins : List (Addr × Obj)} {σ : L2.St} {H : Hp} {s : Shared} {Q : VK} {us : List Value} {vs : List V} (I : Inv X pins σ H s) (rel : Vals vs us) (M : Mk X.K C f) (bnd : Binds X.K fd ps []) (room : Room (k + 1) X.A)
    (F : FnOk X.prog X.w X.K X.mg X.base CX k f fd ps sp) (out : PassesAt CX X σ (E σ))
    (h : ∀ x dx, H x = none → H dx = none → dx ≠ x → sp (.ref x :: vs) (upd (upd H dx (.own x)) x (.ins C dx [])) (fun v H2 => v = .non ∧ Q (.ref x) H2) (E σ)) : wpAny (model X.prog X.w) X.A (call (.ref C) us) (EP X pins σ Q) X.xe s := by
  have n0 : s.heap.objs.size < s.heap.objs.size + 1 := Nat.lt_succ_self _
  have word := h (s.heap.objs.size + 1) s.heap.objs.size (I.hok.fresh (Nat.le_succ _)) (I.hok.fresh (Nat.le_refl _)) (Nat.ne_of_lt n0)
  have J := Inv.made (C := C) I
  have relS : Vals (V.ref (s.heap.objs.size + 1) :: vs) (Value.ref (s.heap.objs.size + 1) :: us) := .cons rfl rel
  have many : (Value.ref (s.heap.objs.size + 1) :: us).length = ps.length := relS.length.symm.trans (F.len _ _ _ _ word)
  have bind := bnd _ (Value.ref (s.heap.objs.size + 1) :: us) J.kIn (by rw [List.append_nil]; exact many)
  rw [List.append_nil] at bind
  refine wpAny_call (make_map (f := f) I.kIn M.makes M.init (beq_iff_eq.mp M.fn) (codeAny_mono (F.run _ X.stack _ _ ⟨Value.ref (s.heap.objs.size + 1) :: us, []⟩ _ _ _ (E σ) (room.make C us []) (J.env0.make C us []) bind relS word) ?_))
  intro r s2 hr2
  match r with
  | .error u => exact out pins _ _ u s2 J hr2
  | .ok .next => exact hr2.elim
  | .ok .brk => exact hr2.elim
  | .ok .cont => exact hr2.elim
  | .ok (.ret u) =>
    obtain ⟨v, H3, J3, rv, hv, q3⟩ := J.after hr2
    subst hv
    exact ⟨rv, V.ref (s.heap.objs.size + 1), H3, J3, rfl, q3⟩
theorem pe_mkS (G : NG X.prog X.w X.K X.mg X.base CX k C nm ps sp) (hr : Room j X.A) (hg : Gl X nm) (hx : ∀ σ, PassesAt CX X σ (E σ)) (ha : PA X (e :: es) t) (hkj : k + 1 ≤ j := by decide) (hdb : (nm == ("__debug__" : Str)) = false := by decide)
    (he : starEach (e :: es) X.env = (false, eval e X.env) :: starEach es X.env := by rfl) (hpl : (backTo pos (starEach es X.env)).any (·.1) = false := by rfl) : PE X (.Call (.Name nm p) (e :: es) [] pos) (tMakeS C sp E t) := by
  obtain ⟨f, fd, F, M, hm, b⟩ := G.ex
  refine ⟨fun pins s σ H Q I h => wpAny_Call_Name_kw (ld_glob I hg hm ?_ hdb)⟩
  exact PySem.W.callWith_K (h₀ := X.base) I.ok.mod.kin M.kp (thn (ha.run pos pins s σ H _ I h) fun us s1 ⟨vs, H1, I1, r, q⟩ => ⟨I1.kIn, made_S I1 r M b (hr.mono hkj) F (hx σ) q⟩) he hpl
theorem pe_clS (G : FG X.prog X.w X.K X.mg X.base CX k nm ps sp) (hr : Room j X.A) (hg : Gl X nm) (hx : ∀ σ, PassesAt CX X σ (E σ)) (ha : PA X (e :: es) t) (hkj : k ≤ j := by decide) (hdb : (nm == ("__debug__" : Str)) = false := by decide)
    (he : starEach (e :: es) X.env = (false, eval e X.env) :: starEach es X.env := by rfl) (hpl : (backTo pos (starEach es X.env)).any (·.1) = false := by rfl) : PE X (.Call (.Name nm p) (e :: es) [] pos) (tCallS sp E t) := by
  obtain ⟨f, fd, F, hm, kp, b⟩ := G.ex
  exact pe_callS F (hr.mono hkj) hg hm kp b hx ha hdb he hpl
end
/-! ### isinstance(e, c), e caught -/
def rIsEX (K : PySem.W.Frag) (cls : Value) (d : Option Addr) (a : Addr) : List V → Hp → VK → Prop := fun xs H Q => ∃ (D : Addr) (c : V) (u : Value) (b : Bool), cls = .ref D ∧ d = none ∧ ExcC K D ∧ xs = [.ref a, c] ∧ ClsV c u ∧ PySem.W.kitOne K (.ref D) u = some b ∧ Q (.bl b) H
def rIsETX (K : PySem.W.Frag) (cls : Value) (d : Option Addr) (a : Addr) : List V → Hp → VK → Prop := fun xs H Q => ∃ (D tp : Addr) (cs : List V) (us : List Value) (b : Bool), cls = .ref D ∧ d = none ∧ ExcC K D ∧ xs = [.ref a, .ref tp] ∧ H tp = some (.tup cs) ∧ Paired ClsV cs us ∧
  PySem.W.kitAny K (.ref D) us = some b ∧ Q (.bl b) H
section
variable {X : Cx} {a : Addr} {oe : Obj} {pn : List (Addr × Obj)} {cls : Value} {d : Option Addr}
theorem call_isEX (hz : Zc cls d oe) (hf : ∃ vs, oe.data = .fields vs) : CallR (X.suite a ((a, oe) :: pn)) (.builtin "isinstance") (rIsEX X.K cls d a) := by
  intro pins s σ H xs us Q I r h
  obtain ⟨D, c, u, b, rfl, rfl, C, rfl, hc, e, q⟩ := h
  exact call_isE C hz hf pins s σ H _ us Q I r ⟨c, u, b, rfl, fun w hw => hc.eq hw, e, q⟩
theorem call_isETX (hz : Zc cls d oe) (hf : ∃ vs, oe.data = .fields vs) : CallR (X.suite a ((a, oe) :: pn)) (.builtin "isinstance") (rIsETX X.K cls d a) := by
  intro pins s σ H xs us Q I r h
  obtain ⟨D, tp, cs, ws, b, rfl, rfl, C, rfl, ht, hp, e, q⟩ := h
  obtain ⟨u1, u2, rfl, r1, r2⟩ := vals2 r
  obtain rfl : u1 = Value.ref a := r1
  obtain rfl : u2 = Value.ref tp := r2
  obtain ⟨hget, _⟩ := I.pin (a, oe) (List.mem_append_left _ List.mem_cons_self)
  obtain ⟨fv, hv⟩ := hf
  have J : PySem.W.InstAt s.heap a oe D none := by
    obtain ⟨oc, od, oda, osl⟩ := oe
    obtain ⟨z1, z2⟩ := hz
    dsimp only at z1 z2 hv
    subst z1 z2 hv
    exact ⟨hget, rfl, rfl, trivial⟩
  obtain ⟨_, its, rv, ⟨tc, td, tdt, tsl⟩, g1, g2, n, g3⟩ := (show ObjOk (X.suite a ((a, oe) :: pn)).prog (X.suite a ((a, oe) :: pn)).w H s.heap tp (.tup cs) from I.hok tp _ ht)
  dsimp only at g2 g3
  subst g2 g3
  obtain rfl := ClsV.all hp rv
  exact PySem.W.kia_tup (PySem.W.handS_kitx_exc C.hg C.hk C.hs C.hd C.ha C.hn C.ht C.hm) I.kIn J g1 e (fun z => nomatch z) fun tk => ⟨.bl b, H, I.kept (t' := tk) fun _ _ z => z, rfl, q⟩
end
/-! ### the reading of a try -/
def tTryAs (K : PySem.W.Frag) (c : Value) (i : Nat) (tb : WX → TS) (ts : Addr → Value → Option Addr → TS) : TS := fun D σ H => tb (wAs K c i ts (fun _ _ _ _ => False) D) D σ H
/-- the class C beside the class D -/
structure XS (K : PySem.W.Frag) (D C : Addr) (b : Bool) : Prop where
  sub : PySem.W.subIn K (.ref D) (.ref C) = some b
  cls : PySem.W.isClsIn K C = true
  ty : PySem.W.typeIn K (.ref C) = some (.type "type")
/-- an error's class D: what isinstance and the clause ask of it -/
structure XF (g : Gb) (D : Addr) (bN bR bU : Bool) : Prop where
  ec : ExcC g.K D
  self : PySem.W.subIn g.K (.ref D) (.ref D) = some true
  ve : PySem.W.subIn g.K (.ref D) (.type "ValueError") = some true
  p : PySem.W.exmOne g.K (.ref D) (.ref g.cP) = some true
  sN : XS g.K D g.cN bN
  sR : XS g.K D g.cR bR
  sU : XS g.K D g.cU bU
theorem XS.kit {K : PySem.W.Frag} {D C : Addr} {b : Bool} (h : XS K D C b) (self : PySem.W.subIn K (.ref D) (.ref D) = some true) : PySem.W.kitOne K (.ref D) (.ref C) = some b := by
  have h3 : ((PySem.W.clsIn K C).isSome && PySem.W.typeIn K (.ref C) == some (.type "type")) = true := by
    have h1 : (PySem.W.clsIn K C).isSome = true := h.cls
    rw [h1, h.ty]
    rfl
  by_cases e : D = C
  · subst e
    have h2 := h.sub.symm.trans self
    rw [Option.some.inj h2]
    show (if (Value.ref D == Value.ref D) = true then some true else _) = some true
    rw [if_pos (beq_self_eq_true _)]
  · show (if (Value.ref D == Value.ref C) = true then some true else (if ((PySem.W.clsIn K C).isSome && PySem.W.typeIn K (.ref C) == some (.type "type")) = true then PySem.W.subIn K (.ref D) (.ref C) else none)) = some b
    rw [if_neg (fun z => e (Value.ref.inj (beq_iff_eq.mp z))), if_pos h3]
    exact h.sub
theorem kit_ve {K : PySem.W.Frag} {D : Addr} (h : PySem.W.subIn K (.ref D) (.type "ValueError") = some true) : PySem.W.kitOne K (.ref D) (.type "ValueError") = some true := by
  show (if (Value.ref D == Value.type "ValueError") = true then some true else (if PySem.W.kitMeta "ValueError" = true then PySem.W.subIn K (.ref D) (.type "ValueError") else none)) = some true
  have h1 : (Value.ref D == Value.type "ValueError") = false := rfl
  rw [h1, if_neg Bool.false_ne_true, if_pos (by decide +kernel)]
  exact h
section
variable {K : PySem.W.Frag} {σ : L2.St} {H : Hp} {ta tb : TE} {a D : Addr} {c : V} {u : Value} {b : Bool}
theorem ev_isE (ec : ExcC K D) (ha : Ev ta σ H (.ref a)) (hb : Ev tb σ H c) (hc : ClsV c u) (hk : PySem.W.kitOne K (.ref D) u = some b) : Ev (tCB (rIsEX K (.ref D) none a) (tCons ta (tCons tb tNil))) σ H (.bl b) := fun H1 e Q q =>
  ha H1 e _ fun H2 e2 => hb H2 (e.trans e2) _ fun H3 e3 => ⟨D, c, u, b, rfl, rfl, ec, rfl, hc, hk, q H3 (e2.trans e3)⟩
theorem ev_isET {cs : List V} {us : List Value} (ec : ExcC K D) (ha : Ev ta σ H (.ref a)) (hb : EvU tb σ H cs) (hc : Paired ClsV cs us) (hk : PySem.W.kitAny K (.ref D) us = some b) : Ev (tCB (rIsETX K (.ref D) none a) (tCons ta (tCons tb tNil))) σ H (.bl b) := fun H1 e Q q =>
  ha H1 e _ fun H2 e2 => hb H2 (e.trans e2) _ fun p H3 _ e3 hp => ⟨D, p, cs, us, b, rfl, rfl, ec, rfl, hp, hc, hk, q H3 (e2.trans e3)⟩
end
theorem q_try {K : PySem.W.Frag} {c : Value} {i : Nat} {tb : WX → TS} {ts : Addr → Value → Option Addr → TS} {tz : TS} {D : Ends} {σ : L2.St} {H : Hp} (h : tb (wAs K c i ts (fun _ _ _ _ => False) { D with nx := tz D }) { D with nx := tz D } σ H) : tSeq (tTryAs K c i tb ts) tz D σ H := h
theorem w_as {K : PySem.W.Frag} {c : Value} {i : Nat} {ts : Addr → Value → Option Addr → TS} {D : Ends} {σ : L2.St} {H : Hp} {cls : Value} {d : Option Addr} (h : PySem.W.exmOne K cls c = some true)
    (k : ∀ a, H a = none → ts a cls d { nx := fun σ' H' => D.nx (σ'.set i none) H', rt := D.rt, bk := fun σ' H' => D.bk (σ'.set i none) H', ct := fun σ' H' => D.ct (σ'.set i none) H' } (σ.set i (some (.ref a))) H) : wAs K c i ts (fun _ _ _ _ => False) D cls d σ H :=
  ⟨true, h, fun _ => k, fun h => nomatch h⟩
theorem q_mkSL {σ : L2.St} {H : Hp} {D : Ends} {tz : TS} {ta tb : TE} {sp : Sp} {C : Addr} {E : L2.St → XK} {i : Nat} {x1 : V} {xs : List V} (h1 : Ev ta σ H x1) (h2 : EvL tb σ H xs)
    (k : ∀ l H1, H l = none → Ex H H1 → H1 l = some (.lst xs) → ∀ x dx, H1 x = none → H1 dx = none → sp [.ref x, x1, .ref l] (upd (upd H1 dx (.own x)) x (.ins C dx [])) (fun v H2 => v = .non ∧ tz D (σ.set i (some (.ref x))) H2) (E σ)) :
    tSeq (tAsg (tMakeS C sp E (tCons ta (tCons tb tNil))) (gName i)) tz D σ H :=
  h1 H (Ex.refl H) _ fun H1 e1 => h2 H1 e1 _ fun l H2 hl e2 hl2 x dx hx hdx _ => k l H2 (fresh_back e1 hl) (e1.trans e2) hl2 x dx hx hdx
end Mp

/-! law k02. -/
namespace Mp
open PySem L2 Evl
def sp__law_asked_k02 (g : Gb) : Sp := fun vs H Q _ => ∃ (many : Int) (la : Addr) (ds : List (Int × Int)), vs = [.int many, .ref la] ∧ PLt H la ds ∧ ds.length ≤ 1000 ∧
  (∀ N, IsNet many ds N → ∀ q l2 H2, Ex H H2 → H2 q = some (.tup [.int many, .ref l2]) → PLt H2 l2 ds → Q (.ref q) H2) ∧
  ((∀ N, ¬ IsNet many ds N) → ∀ q H2, Ex H H2 → H2 q = some (.tup [.bl true, .bl true, .bl false]) → Q (.ref q) H2)
/-! _law_asked@k02: slots 0 many 1 pairs 2 told 3 net 4 e -/
def t__law_asked_k02_try (g : Gb) (W : WX) : TS := tSeq (tAsg (tMakeS g.C (sp_Net___init__ g) (WE W) (tCons (tVar 0) (tCons (tCB (rListS g.K) (tCons (tVar 1) tNil)) tNil))) (gName 3))
  (tAsg (tTup (tCons (tMeth g.C "rooms" (sp_Net_rooms g) [] E0 (tVar 3) tNil) (tCons (tMeth g.C "doors" (sp_Net_doors g) [] E0 (tVar 3) tNil) tNil))) (gName 2))
def t__law_asked_k02_suite (g : Gb) (ax : Addr) (cx : Value) (dx : Option Addr) : TS := tAsg (tTup (tCons (tCB (rIsEX g.K cx dx ax) (tCons (tVar 4) (tCons (tC (.ref g.cN)) tNil))) (tCons (tCB (rIsEX g.K cx dx ax) (tCons (tVar 4) (tCons (tC (.ty "ValueError")) tNil))) (tCons (tCB (rIsETX g.K cx dx ax) (tCons (tVar 4) (tCons (tTup (tCons (tC (.ref g.cR)) (tCons (tC (.ref g.cU)) tNil))) tNil))) tNil)))) (gName 2)
def t__law_asked_k02 (g : Gb) : TS := tSeq (tAsg (tTup (tCons (tC (.int 0)) (tCons (tLst tNil) tNil))) (gName 2))
  (tSeq (tTryAs g.K (.ref g.cP) 4 (t__law_asked_k02_try g) (t__law_asked_k02_suite g))
  (tRet (tVar 2)))
abbrev N__law_asked_k02 : List Str := ["many", "pairs", "told", "net", "e"]
/-! law@k02: slots 0 script 1 drawn 2 many 3 pairs 4 k 5 cell 6 way 7 far 8 at 9 end 10 start 11 pair -/
def t_law_k02_b1 (g : Gb)  : TS := tSeq (tAsg (tOp rAddI (tCall (sp__law_cell_at g) [] E0 (tCons (tVar 0) (tCons (tOp rAddI (tC (.int 6)) (tOp rModI (tVar 4) (tC (.int 50)))) tNil))) (tOp rMulI (tC (.int 977)) (tOp rDivI (tVar 4) (tC (.int 50))))) (gName 5))
  (tDrop (tBM g.K "list" rAppend (tVar 3) (tCons (tTup (tCons (tOp rModI (tVar 5) (tC (.int 40))) (tCons (tOp rModI (tOp rDivI (tVar 5) (tC (.int 40))) (tC (.int 40))) tNil))) tNil)))
def t_law_k02 (g : Gb) : TS := tSeq (tAsg (tCall (sp__law_net g) [] E0 (tCons (tVar 0) (tCons (tC (.int 5)) (tCons (tC (.int 12)) (tCons (tC (.int 24)) tNil))))) (gName 1))
  (tSeq (tAsg (tOp (rIxT g.K) (tVar 1) (tC (.int 0))) (gName 2))
  (tSeq (tAsg (tOp (rIxT g.K) (tVar 1) (tC (.int 1))) (gName 3))
  (tSeq (tIfS (tTest (tOp rEq (tOp rModI (tOp rDivI (tCall (sp__law_cell_at g) [] E0 (tCons (tVar 0) (tCons (tC (.int 0)) tNil))) (tC (.int 5))) (tC (.int 8))) (tC (.int 1)))) (tSeq (tAsg (tC (.int 40)) (gName 2))
  (tSeq (tAsg (tLst tNil) (gName 3))
  (tFor (iRng1 (tCons (tC (.int 100)) tNil)) (gName 4) (t_law_k02_b1 g)))) tNext)
  (tSeq (tAsg (tOp rModI (tCall (sp__law_cell_at g) [] E0 (tCons (tVar 0) (tCons (tC (.int 0)) tNil))) (tC (.int 5))) (gName 6))
  (tSeq (tAsg (tOp rModI (tCall (sp__law_cell_at g) [] E0 (tCons (tVar 0) (tCons (tC (.int 1)) tNil))) (tOp rPowI (tC (.int 10)) (tC (.int 59)))) (gName 7))
  (tSeq (tIfS (tTest (tOp rEq (tVar 6) (tC (.int 1)))) (tAsg (tOp (rIxL g.K) (tLst (tCons (tC (.int 0)) (tCons (tOp rSubI (tUn rNeg (tC (.int 1))) (tVar 7)) (tCons (tC (.int 41)) (tCons (tOp rAddI (tC (.int 41)) (tVar 7)) tNil))))) (tOp rModI (tCall (sp__law_cell_at g) [] E0 (tCons (tVar 0) (tCons (tC (.int 2)) tNil))) (tC (.int 4)))) (gName 2)) tNext)
  (tSeq (tIfS (tTest (tOp rEq (tVar 6) (tC (.int 2)))) (tAsg (tSl (rSlL g.K) (tOp rCat (tVar 3) (tOp rRep (tLst (tCons (tTup (tCons (tC (.int 0)) (tCons (tC (.int 0)) tNil))) tNil)) (tC (.int 101)))) tNoPart (tPart (tC (.int 101)))) (gName 3)) tNext)
  (tSeq (tIfS (tTest (tOp rGtI (tVar 6) (tC (.int 2)))) (tSeq (tAsg (tOp rModI (tCall (sp__law_cell_at g) [] E0 (tCons (tVar 0) (tCons (tC (.int 2)) tNil))) (tOp rAddI (tCB (rLenS g.K) (tCons (tVar 3) tNil)) (tC (.int 1)))) (gName 8))
  (tSeq (tAsg (tOp (rIxL g.K) (tLst (tCons (tOp rSubI (tUn rNeg (tC (.int 1))) (tVar 7)) (tCons (tVar 2) (tCons (tOp rAddI (tVar 2) (tVar 7)) tNil)))) (tOp rModI (tCall (sp__law_cell_at g) [] E0 (tCons (tVar 0) (tCons (tC (.int 3)) tNil))) (tC (.int 3)))) (gName 9))
  (tSeq (tAsg (tOp rModI (tCall (sp__law_cell_at g) [] E0 (tCons (tVar 0) (tCons (tC (.int 4)) tNil))) (tVar 2)) (gName 10))
  (tSeq (tAsg (tOp (rIxL g.K) (tLst (tCons (tTup (tCons (tVar 9) (tCons (tVar 10) tNil))) (tCons (tTup (tCons (tVar 10) (tCons (tVar 9) tNil))) tNil))) (tOp rSubI (tVar 6) (tC (.int 3)))) (gName 11))
  (tSeq (tAsg (tOp rCat (tOp rCat (tSl (rSlL g.K) (tVar 3) tNoPart (tPart (tVar 8))) (tLst (tCons (tVar 11) tNil))) (tSl (rSlL g.K) (tVar 3) (tPart (tVar 8)) tNoPart)) (gName 3))
  (tAsg (tIf (tTest (tOp rLtI (tVar 8) (tC (.int 100)))) (tSl (rSlL g.K) (tVar 3) tNoPart (tPart (tC (.int 100)))) (tSl (rSlL g.K) (tVar 3) (tPart (tC (.int 1))) tNoPart)) (gName 3))))))) tNext)
  (tSeq (tIfS (tTest (tOp rGtI (tVar 6) (tC (.int 0)))) (tRet (tOp (rEqD g.K) (tCall (sp__law_asked_k02 g) [] E0 (tCons (tVar 2) (tCons (tVar 3) tNil))) (tTup (tCons (tC (.bl true)) (tCons (tC (.bl true)) (tCons (tC (.bl false)) tNil)))))) tNext)
  (tRet (tOp (rEqD g.K) (tCall (sp__law_asked_k02 g) [] E0 (tCons (tVar 2) (tCons (tVar 3) tNil))) (tTup (tCons (tVar 2) (tCons (tVar 3) tNil))))))))))))))
abbrev N_law_k02 : List Str := ["script", "drawn", "many", "pairs", "k", "cell", "way", "far", "at", "end", "start", "pair"]

section
variable {g : Gb} {σ : L2.St} {H B : Hp} {D : Ends} {E : XK} {Q : VK} {vs : List V} {p : Addr} {N : Nt} {te ta tb : TE} {K : PySem.W.Frag}
theorem asked_try (F : XF g g.cN true false false) {many : Int} {la : Addr} {ds : List (Int × Int)} {s2 : Option V} (hl : PLt H la ds) (hlen : ds.length ≤ 1000)
    (k1 : ∀ N, IsNet many ds N → ∀ q l2 H2 x, Ex H H2 → H2 q = some (.tup [.int many, .ref l2]) → PLt H2 l2 ds → D.nx [some (V.int many), some (V.ref la), some (V.ref q), some (V.ref x), none] H2) {W : WX}
    (k2 : (∀ N, ¬ IsNet many ds N) → ∀ H2, Ex H H2 → W (.ref g.cN) none [some (V.int many), some (V.ref la), s2, none, none] H2) :
    t__law_asked_k02_try g W D [some (V.int many), some (V.ref la), s2, none, none] H := by
  obtain ⟨as, hl1, hl2⟩ := id hl
  refine q_mkSL (ev_var rfl) (el_list (ev_var rfl) (sq_of hl1)) fun l3 H3 hl3 e3 hl33 x dx hx hdx => ?_
  refine init_ok (R := fun v H2 => tAsg (tTup (tCons (tMeth g.C "rooms" (sp_Net_rooms g) [] E0 (tVar 3) tNil) (tCons (tMeth g.C "doors" (sp_Net_doors g) [] E0 (tVar 3) tNil) tNil))) (gName 2) D [some (V.int many), some (V.ref la), s2, some v, none] H2) hx hdx ⟨as, hl33, hl2.mono e3⟩ hlen (fun N H4 hN hxl e4 hn => ?_) (fun hN H4 e4 => k2 hN H4 (e3.trans e4))
  have hn2 : NetAt g H4 x N := hn.mono ex_del
  refine s_asgP (ep_tup2 (Ev.p (ev_rooms (N := N) (ev_var rfl) hn2)) (ev_doors (N := N) (ev_var rfl) hn2)) fun v H7 e7 hv => ?_
  obtain ⟨q, v1, v2, H5, H6, rfl, _, hv1, ⟨l2, rfl, _, hl6⟩, e5, e6, hq, rfl⟩ := hv
  subst hv1
  obtain ⟨h1, h2, h3⟩ := id hN
  refine k1 N hN q l2 _ x ((e3.trans e4).trans e7) (by rw [upd_same, h2]) ?_
  rw [h3]
  exact hl6.mono (Ex.new hq)
theorem asked_suite (F : XF g g.cN true false false) {many : Int} {la a : Addr} {s2 s3 : Option V} (k : ∀ q H2, Ex H H2 → H2 q = some (.tup [.bl true, .bl true, .bl false]) → D.nx [some (V.int many), some (V.ref la), some (V.ref q), s3, some (V.ref a)] H2) :
    t__law_asked_k02_suite g a (.ref g.cN) none D [some (V.int many), some (V.ref la), s2, s3, some (V.ref a)] H := by
  have v1 : Ev (tCB (rIsEX g.K (.ref g.cN) none a) (tCons (tVar 4) (tCons (tC (.ref g.cN)) tNil))) [some (V.int many), some (V.ref la), s2, s3, some (V.ref a)] H (.bl true) := ev_isE F.ec (ev_var rfl) ev_c (ClsV.own _) (F.sN.kit F.self)
  have v2 : Ev (tCB (rIsEX g.K (.ref g.cN) none a) (tCons (tVar 4) (tCons (tC (.ty "ValueError")) tNil))) [some (V.int many), some (V.ref la), s2, s3, some (V.ref a)] H (.bl true) := ev_isE F.ec (ev_var rfl) ev_c (ClsV.ty _) (kit_ve F.ve)
  have v3 : Ev (tCB (rIsETX g.K (.ref g.cN) none a) (tCons (tVar 4) (tCons (tTup (tCons (tC (.ref g.cR)) (tCons (tC (.ref g.cU)) tNil))) tNil))) [some (V.int many), some (V.ref la), s2, s3, some (V.ref a)] H (.bl false) :=
    ev_isET (us := [.ref g.cR, .ref g.cU]) F.ec (ev_var rfl) (eu_tup (ea_cons ev_c (ea_cons ev_c ea_nil)) (by show 2 ≤ 100000; decide)) (.cons (ClsV.own _) (.cons (ClsV.own _) .nil)) (kitAny_cons (F.sR.kit F.self) (fun _ => kitAny_cons (F.sU.kit F.self) (fun _ => kitAny_nil) (fun h => nomatch h)) (fun h => nomatch h))
  exact s_asgU (eu_tup (ea_cons v1 (ea_cons v2 (ea_cons v3 ea_nil))) (by show 3 ≤ 100000; decide)) fun q H8 hq e8 hq8 => k q H8 e8 hq8
theorem pure__law_asked_k02 (F : XF g g.cN true false false) (h : sp__law_asked_k02 g vs H Q E) : t__law_asked_k02 g { nx := fun _ H' => Q .non H', rt := Q } (start N__law_asked_k02 vs) H := by
  obtain ⟨many, la, ds, rfl, hl, hlen, k1, k2⟩ := h
  -- told = (0, [])
  refine a_asgP (ep_tup2 (Ev.p ev_c) (EvL.p (el_lst ea_nil (Nat.zero_le _)))) fun v H2 e2 hv => ?_
  have hv2 : ∃ t0, v = V.ref t0 := by
    obtain ⟨t0, v1, v2, Ha, Hb, h1, h2⟩ := hv
    exact ⟨t0, h1⟩
  clear hv
  obtain ⟨t0, rfl⟩ := hv2
  refine q_try ?_
  refine asked_try F (hl.mono e2) hlen (fun N hN q l2 H3 x e3 hq hl2 => ?_) (fun hN H3 e3 => ?_)
  · exact ⟨_, rfl, k1 N hN q l2 H3 (e2.trans e3) hq hl2⟩
  · refine w_as F.p fun a ha => ?_
    refine asked_suite F fun q H4 e4 hq => ?_
    exact ⟨_, rfl, k2 hN q H4 ((e2.trans e3).trans e4) hq⟩
/-! ### small tools -/
theorem cut_to (xs : List V) (k : Nat) : cutV xs none (some (k : Int)) = xs.take k := by
  unfold cutV
  rw [HT.sIx_none, show HT.sIx xs.length xs.length (some (k : Int)) = min k xs.length from HT.sIx_nat xs.length xs.length k, Nat.sub_zero, List.drop_zero]
  by_cases h : k ≤ xs.length
  · rw [Nat.min_eq_left h]
  · rw [Nat.min_eq_right (by omega), List.take_length, List.take_of_length_le (by omega)]
theorem cut_from (xs : List V) (k : Nat) : cutV xs (some (k : Int)) none = xs.drop k := by
  unfold cutV
  rw [HT.sIx_none, show HT.sIx xs.length 0 (some (k : Int)) = min k xs.length from HT.sIx_nat xs.length 0 k]
  by_cases h : k ≤ xs.length
  · rw [Nat.min_eq_left h]
    exact List.take_of_length_le (by rw [List.length_drop]; omega)
  · rw [Nat.min_eq_right (by omega), List.drop_length, List.drop_of_length_le (by omega)]
    exact List.take_nil
theorem paired_append {α β : Type} {F : α → β → Prop} : ∀ {l l2 : List α} {m m2 : List β}, Paired F l m → Paired F l2 m2 → Paired F (l ++ l2) (m ++ m2)
  | _, _, _, _, .nil, h => h
  | _, _, _, _, .cons r t, h => .cons r (paired_append t h)
theorem paired_take {α β : Type} {F : α → β → Prop} : ∀ {l : List α} {m : List β} (k : Nat), Paired F l m → Paired F (l.take k) (m.take k)
  | _, _, 0, _ => .nil
  | _, _, _ + 1, .nil => .nil
  | _, _, k + 1, .cons r t => .cons r (paired_take k t)
theorem paired_drop {α β : Type} {F : α → β → Prop} : ∀ {l : List α} {m : List β} (k : Nat), Paired F l m → Paired F (l.drop k) (m.drop k)
  | _, _, 0, h => h
  | _, _, _ + 1, .nil => .nil
  | _, _, k + 1, .cons _ t => paired_drop k t
theorem ev_powt : Ev (tOp rPowI (tC (.int 10)) (tC (.int 59))) σ H (.int (10 ^ 59)) := ev_is (ev_op ev_c ev_c (rv_I (C := CPow) ⟨by decide, by decide, by decide⟩)) (by decide +kernel)
/-- [a, b, ..][i] -/
theorem ev_pick {ts : TA} {xs : List V} {v : V} {j : Nat} (h : EvA ts σ H xs) (hl : xs.length ≤ 100) (hi : ∀ H1, Ex H H1 → Ev te σ H1 (.int (j : Int))) (hv : xs[j]? = some v) : Ev (tOp (rIxL K) (tLst ts) te) σ H v :=
  ev_opL1 (el_lst h (by omega)) hi fun p H1 h1 _ => rv_ixL (sq_of h1) (atI_nat hv)
/-- the two last rows of the law -/
def k02end (g : Gb) : TS := tSeq (tIfS (tTest (tOp rGtI (tVar 6) (tC (.int 0)))) (tRet (tOp (rEqD g.K) (tCall (sp__law_asked_k02 g) [] E0 (tCons (tVar 2) (tCons (tVar 3) tNil))) (tTup (tCons (tC (.bl true)) (tCons (tC (.bl true)) (tCons (tC (.bl false)) tNil)))))) tNext)
  (tRet (tOp (rEqD g.K) (tCall (sp__law_asked_k02 g) [] E0 (tCons (tVar 2) (tCons (tVar 3) tNil))) (tTup (tCons (tVar 2) (tCons (tVar 3) tNil)))))
def ttf : PyData := .tuple [.bool true, .bool true, .bool false]
theorem ttf_shaped : SeqAt.shaped ttf = true := shaped_of (by simp [ttf, PyData.canLay0, PyData.canLayAll0]) (by simp [ttf, PyData.depth, PyData.depthAll])
theorem k02_bad {m w : Int} {pl : Addr} {ds : List (Int × Int)} (h2 : σ[2]? = some (some (.int m))) (h3 : σ[3]? = some (some (.ref pl))) (h6 : σ[6]? = some (some (.int w))) (hw : 0 < w) (hl : PLt H pl ds) (hlen : ds.length ≤ 1000) (hN : ∀ N, ¬ IsNet m ds N) (k : ∀ H2, D.rt (.bl true) H2) : k02end g D σ H := by
  refine q_when (b := true) (et_is (et_test (ev_op (ev_var h6) ev_c rv_I0)) (decide_eq_true hw)) (fun _ H1 e1 => ?_) (fun h => nomatch h)
  refine s_retOpX (ea_cons (ev_var h2) (ea_cons (ev_var h3) ea_nil)) fun H2 e2 => ⟨m, pl, ds, rfl, hl.mono (e1.trans e2), hlen, fun N h => (hN N h).elim, fun _ q H3 e3 hq => ?_⟩
  refine ⟨by show 3 ≤ sizeLine; decide, fun q2 hq2 => ⟨ttf, ttf, .tup (st_of (Ex.new hq2 _ _ hq)) (.cons (.bl _) (.cons (.bl _) (.cons (.bl _) .nil))), .tup (st_of upd_same) (.cons (.bl _) (.cons (.bl _) (.cons (.bl _) .nil))), ttf_shaped, ttf_shaped, ?_⟩⟩
  rw [SeqAt.eqv_refl ttf (SeqAt.canLay_of_shaped ttf_shaped)]
  exact k _
theorem k02_good {m : Int} {pl : Addr} {ds : List (Int × Int)} (h2 : σ[2]? = some (some (.int m))) (h3 : σ[3]? = some (some (.ref pl))) (h6 : σ[6]? = some (some (.int 0))) (hl : PLt H pl ds) (hlen : ds.length ≤ 1000) (hN : IsNet m ds N) (k : ∀ H2, D.rt (.bl true) H2) : k02end g D σ H := by
  refine q_when (b := false) (et_is (et_test (ev_op (ev_var h6) ev_c rv_I0)) (by decide)) (fun h => nomatch h) (fun _ H1 e1 => ?_)
  refine s_retOpX (ea_cons (ev_var h2) (ea_cons (ev_var h3) ea_nil)) fun H2 e2 => ⟨m, pl, ds, rfl, hl.mono (e1.trans e2), hlen, fun M hM q l2 H3 e3 hq hl2 => ?_, fun h => (h N hN).elim⟩
  have hs : SeqAt.shaped (.tuple [.int m, .list (ds.map pD)]) = true := by
    have h1 := pairs_depth ds
    refine shaped_of (by simp [PyData.canLay0, PyData.canLayAll0, pairs_lay ds]) ?_
    simp only [PyData.depth, PyData.depthAll]
    omega
  refine ⟨_, h2, _, h3, by show 2 ≤ sizeLine; decide, fun q2 hq2 => ⟨.tuple [.int m, .list (ds.map pD)], .tuple [.int m, .list (ds.map pD)], .tup (st_of (Ex.new hq2 _ _ hq)) (.cons (.int _) (.cons (dp_pairs (hl2.mono (Ex.new hq2))) .nil)),
    .tup (st_of upd_same) (.cons (.int _) (.cons (dp_pairs ((hl.mono ((e1.trans e2).trans e3)).mono (Ex.new hq2))) .nil)), hs, hs, ?_⟩⟩
  rw [SeqAt.eqv_refl _ (SeqAt.canLay_of_shaped hs)]
  exact k _
/-- a bad end somewhere -/
theorem bad_end {m : Int} {ds : List (Int × Int)} {d : Int × Int} (hd : d ∈ ds) (hb : ¬ (0 ≤ d.1 ∧ d.1 < m) ∨ ¬ (0 ≤ d.2 ∧ d.2 < m)) : ∀ N, ¬ IsNet m ds N := fun N hN => by
  obtain ⟨ok, h1, h2⟩ := hN
  rw [h2] at hd
  obtain ⟨e, he, rfl⟩ := List.mem_map.mp hd
  have := ok.ends e he
  rcases hb with hb | hb
  · apply hb
    show (0 : Int) ≤ (e.1 : Nat) ∧ ((e.1 : Nat) : Int) < m
    omega
  · apply hb
    show (0 : Int) ≤ (e.2 : Nat) ∧ ((e.2 : Nat) : Int) < m
    omega
/-- from «way = ..» on -/
def k02mid (g : Gb) : TS := (tSeq (tAsg (tOp rModI (tCall (sp__law_cell_at g) [] E0 (tCons (tVar 0) (tCons (tC (.int 0)) tNil))) (tC (.int 5))) (gName 6))
  (tSeq (tAsg (tOp rModI (tCall (sp__law_cell_at g) [] E0 (tCons (tVar 0) (tCons (tC (.int 1)) tNil))) (tOp rPowI (tC (.int 10)) (tC (.int 59)))) (gName 7))
  (tSeq (tIfS (tTest (tOp rEq (tVar 6) (tC (.int 1)))) (tAsg (tOp (rIxL g.K) (tLst (tCons (tC (.int 0)) (tCons (tOp rSubI (tUn rNeg (tC (.int 1))) (tVar 7)) (tCons (tC (.int 41)) (tCons (tOp rAddI (tC (.int 41)) (tVar 7)) tNil))))) (tOp rModI (tCall (sp__law_cell_at g) [] E0 (tCons (tVar 0) (tCons (tC (.int 2)) tNil))) (tC (.int 4)))) (gName 2)) tNext)
  (tSeq (tIfS (tTest (tOp rEq (tVar 6) (tC (.int 2)))) (tAsg (tSl (rSlL g.K) (tOp rCat (tVar 3) (tOp rRep (tLst (tCons (tTup (tCons (tC (.int 0)) (tCons (tC (.int 0)) tNil))) tNil)) (tC (.int 101)))) tNoPart (tPart (tC (.int 101)))) (gName 3)) tNext)
  (tSeq (tIfS (tTest (tOp rGtI (tVar 6) (tC (.int 2)))) (tSeq (tAsg (tOp rModI (tCall (sp__law_cell_at g) [] E0 (tCons (tVar 0) (tCons (tC (.int 2)) tNil))) (tOp rAddI (tCB (rLenS g.K) (tCons (tVar 3) tNil)) (tC (.int 1)))) (gName 8))
  (tSeq (tAsg (tOp (rIxL g.K) (tLst (tCons (tOp rSubI (tUn rNeg (tC (.int 1))) (tVar 7)) (tCons (tVar 2) (tCons (tOp rAddI (tVar 2) (tVar 7)) tNil)))) (tOp rModI (tCall (sp__law_cell_at g) [] E0 (tCons (tVar 0) (tCons (tC (.int 3)) tNil))) (tC (.int 3)))) (gName 9))
  (tSeq (tAsg (tOp rModI (tCall (sp__law_cell_at g) [] E0 (tCons (tVar 0) (tCons (tC (.int 4)) tNil))) (tVar 2)) (gName 10))
  (tSeq (tAsg (tOp (rIxL g.K) (tLst (tCons (tTup (tCons (tVar 9) (tCons (tVar 10) tNil))) (tCons (tTup (tCons (tVar 10) (tCons (tVar 9) tNil))) tNil))) (tOp rSubI (tVar 6) (tC (.int 3)))) (gName 11))
  (tSeq (tAsg (tOp rCat (tOp rCat (tSl (rSlL g.K) (tVar 3) tNoPart (tPart (tVar 8))) (tLst (tCons (tVar 11) tNil))) (tSl (rSlL g.K) (tVar 3) (tPart (tVar 8)) tNoPart)) (gName 3))
  (tAsg (tIf (tTest (tOp rLtI (tVar 8) (tC (.int 100)))) (tSl (rSlL g.K) (tVar 3) tNoPart (tPart (tC (.int 100)))) (tSl (rSlL g.K) (tVar 3) (tPart (tC (.int 1))) tNoPart)) (gName 3))))))) tNext)
  (k02end g))))))
theorem el_is {xs ys : List V} (h : EvL te σ H xs) (e : xs = ys) : EvL te σ H ys := e ▸ h
/-- xs + ys, both new or told -/
theorem el_cat {a b : Addr} {xs ys : List V} (ha : Ev ta σ H (.ref a)) (hb : Ev tb σ H (.ref b)) (h1 : H a = some (.lst xs)) (h2 : H b = some (.lst ys)) (hl : xs.length + ys.length ≤ 100000) : EvL (tOp rCat ta tb) σ H (xs ++ ys) := fun H1 e Q q =>
  ha H1 e _ fun H2 e2 => hb H2 (e.trans e2) _ fun H3 e3 => ⟨a, b, xs, ys, rfl, rfl, e3 _ _ (e2 _ _ (e _ _ h1)), e3 _ _ (e2 _ _ (e _ _ h2)), sz_of hl, fun p hp => q p _ (fresh_back (e2.trans e3) hp) ((e2.trans e3).trans (Ex.new hp)) upd_same⟩
theorem el_catL {a : Addr} {xs ys : List V} (ha : Ev ta σ H (.ref a)) (hb : EvL tb σ H ys) (h1 : H a = some (.lst xs)) (hl : xs.length + ys.length ≤ 100000) : EvL (tOp rCat ta tb) σ H (xs ++ ys) := fun H1 e Q q =>
  ha H1 e _ fun H2 e2 => hb H2 (e.trans e2) _ fun b H3 hb3 e3 h3 => ⟨a, b, xs, ys, rfl, rfl, e3 _ _ (e2 _ _ (e _ _ h1)), h3, sz_of hl, fun p hp => q p _ (fresh_back (e2.trans e3) hp) ((e2.trans e3).trans (Ex.new hp)) upd_same⟩
theorem el_catLL {xs ys : List V} (ha : EvL ta σ H xs) (hb : EvL tb σ H ys) (hl : xs.length + ys.length ≤ 100000) : EvL (tOp rCat ta tb) σ H (xs ++ ys) := fun H1 e Q q =>
  ha H1 e _ fun a H2 ha2 e2 h2 => hb H2 (e.trans e2) _ fun b H3 hb3 e3 h3 => ⟨a, b, xs, ys, rfl, rfl, e3 _ _ h2, h3, sz_of hl, fun p hp => q p _ (fresh_back (e2.trans e3) hp) ((e2.trans e3).trans (Ex.new hp)) upd_same⟩
theorem el_rep {xs : List V} {n : Nat} (ha : EvL ta σ H xs) (hb : ∀ H1, Ex H H1 → Ev tb σ H1 (.int (n : Int))) (hn : n ≤ 1000) (hl : xs.length ≤ 100) : EvL (tOp rRep ta tb) σ H (List.replicate n xs).flatten := fun H1 e Q q =>
  ha H1 e _ fun a H2 ha2 e2 h2 => hb H2 (e.trans e2) H2 (Ex.refl _) _ fun H3 e3 => ⟨a, n, xs, rfl, rfl, e3 _ _ h2, by omega, by omega, by
    rw [Int.toNat_natCast]
    refine sz_of (Nat.le_trans (Nat.mul_le_mul hl hn) (by decide)), fun p hp => q p _ (fresh_back (e2.trans e3) hp) ((e2.trans e3).trans (Ex.new hp)) (by rw [upd_same, Int.toNat_natCast])⟩
/-- a slice of a new list -/
theorem el_slN {tl th : TO} {xs : List V} {lo hi : Option Int} (h : EvL te σ H xs) (h1 : ∀ H1, Ex H H1 → EvO tl σ H1 lo) (h2 : ∀ H1, Ex H H1 → EvO th σ H1 hi) : EvL (tSl (rSlL K) te tl th) σ H (cutV xs lo hi) := fun H1 e _ q =>
  h H1 e _ fun a H2 ha e2 hx => h1 H2 (e.trans e2) H2 (Ex.refl _) _ fun H3 e3 => h2 H3 ((e.trans e2).trans e3) H3 (Ex.refl _) _ fun H4 e4 =>
    ⟨a, xs, rfl, sq_of (e4 _ _ (e3 _ _ hx)), fun p hp => q p _ (fresh_back ((e2.trans e3).trans e4) hp) (((e2.trans e3).trans e4).trans (Ex.new hp)) upd_same⟩
theorem k02_mid {ns : List Int} {a q pl : Addr} {m : Nat} {ds : List (Nat × Nat)} {s4 s5 s6 s7 s8 s9 s10 s11 : Option V} (hs : SqL g.K H a (ns.map V.int)) (hm : 1 ≤ m ∧ m ≤ 40) (hl : PLt H pl (ds.map zp)) (hlen : ds.length ≤ 100) (hd : ∀ d ∈ ds, d.1 < m ∧ d.2 < m) (k : ∀ H2, D.rt (.bl true) H2) :
    k02mid g D [some (.ref a), some (.ref q), some (nv m), some (.ref pl), s4, s5, s6, s7, s8, s9, s10, s11] H := by
  obtain ⟨w, hw0, hw1⟩ := emod_nat (ns.getD 0 0) (m := 5) (by decide)
  have hfar : 0 ≤ ns.getD 1 0 % (10 ^ 59 : Int) := Int.emod_nonneg _ (by decide)
  obtain ⟨far, hf⟩ : ∃ far : Int, far = ns.getD 1 0 % (10 ^ 59 : Int) := ⟨_, rfl⟩
  rw [← hf] at hfar
  refine q_asg (v := nv w) (ev_is (ev_op (ev_cell (j := 0) (ev_var rfl) hs ev_c) ev_c (rv_mod (by decide))) (congrArg V.int hw0)) fun H1 e1 => ?_
  refine q_asg (v := .int far) (ev_is (ev_op (ev_cell (j := 1) (ev_var rfl) (ex_l e1 hs) ev_c) ev_powt (rv_mod (by decide))) (congrArg V.int hf.symm)) fun H2 e2 => ?_
  have hs2 : SqL g.K H2 a (ns.map V.int) := ex_l (e1.trans e2) hs
  have hl2 := hl.mono (e1.trans e2)
  have hlz : (ds.map zp).length ≤ 100 := by rw [List.length_map]; exact hlen
  obtain ⟨c2, hc0, hc1⟩ := emod_nat (ns.getD 2 0) (m := 4) (by decide)
  have tst : ∀ (j : Nat) (z : Nat) (σ : L2.St) (H : Hp), σ[6]? = some (some (nv w)) → EvT (tTest (tOp rEq (tVar 6) (tC (.int (j : Int))))) σ H (decide (w = j)) := fun j z σ H h => et_is (et_test (ev_op (ev_var h) ev_c (rv_eq rfl))) (decide_eq_decide.mpr ⟨fun h => by have := V.int.inj h; omega, fun h => by rw [h]⟩)
  -- way == 1
  refine q_if (tst 1 0 _ _ rfl) (fun hb H3 e3 => ?_) (fun hb H3 e3 => ?_)
  · have hw : w = 1 := of_decide_eq_true hb
    subst hw
    obtain ⟨mm, hmm, hbad⟩ : ∃ mm : Int, ([V.int 0, V.int (-1 - far), V.int 41, V.int (41 + far)] : List V)[c2]? = some (V.int mm) ∧ ¬ (1 ≤ mm ∧ mm ≤ 40) := by
      match c2, hc1 with
      | 0, _ => exact ⟨_, rfl, by omega⟩
      | 1, _ => exact ⟨_, rfl, by omega⟩
      | 2, _ => exact ⟨_, rfl, by omega⟩
      | 3, _ => exact ⟨_, rfl, by omega⟩
    have hs3 := ex_l e3 hs2
    refine s_asg (v := .int mm) (ev_pick (ea_cons ev_c (ea_cons (ev_op (ev_un ev_c ru_neg) (ev_var rfl) rv_I0) (ea_cons ev_c (ea_cons (ev_op ev_c (ev_var rfl) rv_I0) ea_nil)))) (by show 4 ≤ 100; decide) (fun H4 e4 => ev_is (ev_op (ev_cell (j := 2) (ev_var rfl) (ex_l e4 hs3) ev_c) ev_c (rv_mod (by decide))) (congrArg V.int hc0)) hmm) fun H4 e4 => ?_
    refine q_when (tst 2 0 _ _ rfl) (fun hb => by cases hb) (fun _ H5 e5 => ?_)
    refine q_when (et_is (et_test (ev_op (ev_var rfl) ev_c rv_I0)) (by decide : _ = false)) (fun hb => by cases hb) (fun _ H6 e6 => ?_)
    refine k02_bad (m := mm) (w := 1) rfl rfl rfl (by decide) (hl2.mono (((e3.trans e4).trans e5).trans e6)) (by omega) (fun N hN => ?_) k
    obtain ⟨ok, h1, _⟩ := hN
    have := ok.pos
    have := ok.most
    exact hbad (by omega)
  have hw1' : w ≠ 1 := of_decide_eq_false hb
  -- way == 2
  refine q_if (tst 2 0 _ _ rfl) (fun hb H4 e4 => ?_) (fun hb H4 e4 => ?_)
  · have hw : w = 2 := of_decide_eq_true hb
    subst hw
    obtain ⟨as, hp1', hp2⟩ := hl2.mono (e3.trans e4)
    have hal : as.length = (ds.map zp).length := paired_len hp2
    -- (pairs + [(0, 0)] * 101)[:101]
    have hrep : EvP (tOp rRep (tLst (tCons (tTup (tCons (tC (.int 0)) (tCons (tC (.int 0)) tNil))) tNil)) (tC (.int 101))) [some (V.ref a), some (V.ref q), some (nv m), some (V.ref pl), s4, s5, some (nv 2), some (V.int far), s8, s9, s10, s11] H4
        (fun H1 v H2 => ∃ p t, v = .ref p ∧ H1 p = none ∧ H2 p = some (.lst (List.replicate 101 (V.ref t))) ∧ H2 t = some (.tup [.int 0, .int 0])) := by
      refine ep_op (ep_lst1 (EvU.p (eu_tup (vs := [V.int 0, V.int 0]) (ea_cons ev_c (ea_cons ev_c ea_nil)) (by show 2 ≤ 100000; decide)))) (fun H1 e => Ev.p ev_c) fun Ha v Hb w Hc eA eB hv eC hw Q k => ?_
      obtain ⟨p1, v1, Hx, rfl, hp1, ⟨t, rfl, ht1, ht2⟩, ex, hpx, rfl⟩ := hv
      subst hw
      refine ⟨p1, 101, [V.ref t], rfl, rfl, eC _ _ upd_same, by decide, by decide, by show 1 * 101 ≤ sizeLine; decide, fun p hp => k _ _ (Ex.new hp) ⟨p, t, rfl, fresh_back (eB.trans eC) hp, ?_, ?_⟩⟩
      · rw [upd_same]
        rfl
      · exact Ex.new hp _ _ (eC _ _ (Ex.new hpx _ _ ht2))
    have hcat : EvP (tOp rCat (tVar 3) (tOp rRep (tLst (tCons (tTup (tCons (tC (.int 0)) (tCons (tC (.int 0)) tNil))) tNil)) (tC (.int 101)))) [some (V.ref a), some (V.ref q), some (nv m), some (V.ref pl), s4, s5, some (nv 2), some (V.int far), s8, s9, s10, s11] H4
        (fun H1 v H2 => ∃ p t, v = .ref p ∧ H1 p = none ∧ H2 p = some (.lst (as.map V.ref ++ List.replicate 101 (V.ref t))) ∧ H2 t = some (.tup [.int 0, .int 0])) := by
      refine ep_op (Ev.p (ev_var rfl)) (fun H1 e => hrep.mono e) fun Ha v Hb w Hc eA eB hv eC hw Q k => ?_
      subst hv
      obtain ⟨p1, t, rfl, hp1, hp3, ht⟩ := hw
      refine ⟨pl, p1, _, _, rfl, rfl, eC _ _ (eB _ _ (eA _ _ hp1')), hp3, ?_, fun p hp => k _ _ (Ex.new hp) ⟨p, t, rfl, fresh_back (eB.trans eC) hp, upd_same, Ex.new hp _ _ ht⟩⟩
      rw [List.length_map, List.length_replicate]
      exact sz_of (by omega)
    have hfin : EvP (tSl (rSlL g.K) (tOp rCat (tVar 3) (tOp rRep (tLst (tCons (tTup (tCons (tC (.int 0)) (tCons (tC (.int 0)) tNil))) tNil)) (tC (.int 101)))) tNoPart (tPart (tC (.int 101)))) [some (V.ref a), some (V.ref q), some (nv m), some (V.ref pl), s4, s5, some (nv 2), some (V.int far), s8, s9, s10, s11] H4
        (fun H1 v H2 => ∃ p t, v = .ref p ∧ H2 p = some (.lst ((as.map V.ref ++ List.replicate 101 (V.ref t)).take 101)) ∧ H2 t = some (.tup [.int 0, .int 0])) := fun H1 e Q k =>
      hcat H1 e _ fun v H2 e2' hv => by
        obtain ⟨p1, t, rfl, hp1, hp3, ht⟩ := hv
        refine ⟨101, rfl, p1, _, rfl, sq_of hp3, fun p hp => k _ _ (e2'.trans (Ex.new hp)) ⟨p, t, rfl, ?_, Ex.new hp _ _ ht⟩⟩
        rw [upd_same]
        exact congrArg (fun z => some (HO.lst z)) (cut_to _ 101)
    refine hfin H4 (Ex.refl _) _ fun v H5 e5 hv => ?_
    obtain ⟨p, t, rfl, hp, ht⟩ := hv
    have hnew : PLt H5 p (((ds.map zp) ++ List.replicate 101 ((0 : Int), (0 : Int))).take 101) := by
      refine ⟨(as ++ List.replicate 101 t).take 101, ?_, ?_⟩
      · rw [hp, List.map_take, List.map_append, List.map_replicate]
      · refine paired_take 101 (paired_append (hp2.mono e5) ?_)
        have : ∀ n, Paired (fun a (d : Int × Int) => H5 a = some (.tup [.int d.1, .int d.2])) (List.replicate n t) (List.replicate n ((0 : Int), (0 : Int))) := fun n => by
          induction n with
          | zero => exact .nil
          | succ n ih => exact .cons ht ih
        exact this 101
    have hlen5 : (((ds.map zp) ++ List.replicate 101 ((0 : Int), (0 : Int))).take 101).length = 101 := by
      rw [List.length_take, List.length_append, List.length_replicate]
      omega
    refine q_when (et_is (et_test (ev_op (ev_var rfl) ev_c rv_I0)) (by decide : _ = false)) (fun hb => by cases hb) (fun _ H6 e6 => ?_)
    refine k02_bad (m := (m : Int)) (w := 2) rfl rfl rfl (by decide) (hnew.mono e6) (by omega) (fun N hN => ?_) k
    obtain ⟨ok, _, h2⟩ := hN
    have h3 := congrArg List.length h2
    rw [hlen5, List.length_map] at h3
    have := ok.few
    omega
  have hw2' : w ≠ 2 := of_decide_eq_false hb
  have e4' := e3.trans e4
  have gt : ∀ (j : Nat) (σ : L2.St) (H : Hp), σ[6]? = some (some (nv w)) → EvT (tTest (tOp rGtI (tVar 6) (tC (.int (j : Int))))) σ H (decide (j < w)) := fun j σ H h => et_is (et_test (ev_op (ev_var h) ev_c rv_I0)) (decide_eq_decide.mpr ⟨fun h => by omega, fun h => by omega⟩)
  refine q_if (gt 2 _ _ rfl) (fun hb H5 e5 => ?_) (fun hb H5 e5 => ?_)
  · -- an end beyond
    have hw : 2 < w := of_decide_eq_true hb
    have e5' := e4'.trans e5
    have hs5 := ex_l e5' hs2
    obtain ⟨as, hp1, hp2⟩ := hl2.mono e5'
    have hal : as.length = ds.length := (paired_len hp2).trans (List.length_map ..)
    obtain ⟨at_, ha0, ha1⟩ := emod_nat (ns.getD 2 0) (m := ds.length + 1) (by omega)
    obtain ⟨c3, hc30, hc31⟩ := emod_nat (ns.getD 3 0) (m := 3) (by decide)
    obtain ⟨st, hst0, hst1⟩ := emod_nat (ns.getD 4 0) (m := m) (by omega)
    refine q_asg (v := nv at_) (ev_is (ev_op (ev_cell (j := 2) (ev_var rfl) hs5 ev_c) (ev_op (ev_len (ev_var rfl) (sq_of hp1)) ev_c rv_I0) (rv_mod (by rw [List.length_map]; omega))) ?_) fun H6 e6 => ?_
    · rw [List.length_map, hal]
      exact congrArg V.int ha0
    have hs6 := ex_l e6 hs5
    obtain ⟨en, hen, hbad⟩ : ∃ en : Int, ([V.int (-1 - far), nv m, V.int ((m : Int) + far)] : List V)[c3]? = some (V.int en) ∧ ¬ (0 ≤ en ∧ en < (m : Int)) := by
      match c3, hc31 with
      | 0, _ => exact ⟨_, rfl, by omega⟩
      | 1, _ => exact ⟨_, rfl, by omega⟩
      | 2, _ => exact ⟨_, rfl, by omega⟩
    refine q_asg (v := .int en) (ev_pick (ea_cons (ev_op (ev_un ev_c ru_neg) (ev_var rfl) rv_I0) (ea_cons (ev_var rfl) (ea_cons (ev_op (ev_var rfl) (ev_var rfl) rv_I0) ea_nil))) (by show 3 ≤ 100; decide) (fun H7 e7 => ev_is (ev_op (ev_cell (j := 3) (ev_var rfl) (ex_l e7 hs6) ev_c) ev_c (rv_mod (by decide))) (congrArg V.int hc30)) hen) fun H7 e7 => ?_
    refine q_asg (v := nv st) (ev_is (ev_op (ev_cell (j := 4) (ev_var rfl) (ex_l e7 hs6) ev_c) (ev_var rfl) (rv_mod (by omega))) (congrArg V.int hst0)) fun H8 e8 => ?_
    -- pair
    have hpair : EvP (tOp (rIxL g.K) (tLst (tCons (tTup (tCons (tVar 9) (tCons (tVar 10) tNil))) (tCons (tTup (tCons (tVar 10) (tCons (tVar 9) tNil))) tNil))) (tOp rSubI (tVar 6) (tC (.int 3)))) [some (V.ref a), some (V.ref q), some (nv m), some (V.ref pl), s4, s5, some (nv w), some (V.int far), some (nv at_), some (V.int en), some (nv st), s11] H8
        (fun H1 v H2 => ∃ t x y, v = .ref t ∧ H2 t = some (.tup [.int x, .int y]) ∧ (x = en ∨ y = en)) := by
      refine ep_op (ep_lst2 (EvU.p (eu_tup (vs := [V.int en, nv st]) (ea_cons (ev_var rfl) (ea_cons (ev_var rfl) ea_nil)) (by show 2 ≤ 100000; decide))) (EvU.p (eu_tup (vs := [nv st, V.int en]) (ea_cons (ev_var rfl) (ea_cons (ev_var rfl) ea_nil)) (by show 2 ≤ 100000; decide)))) (fun H1 e => Ev.p (v := .int ((w : Int) - 3)) (ev_op (ev_var rfl) ev_c rv_I0)) fun Ha v Hb w' Hc eA eB hv eC hw' Q k => ?_
      obtain ⟨p1, v1, v2, Hx, Hy, rfl, hp1, ⟨t1, rfl, _, ht1⟩, ⟨t2, rfl, _, ht2⟩, ex, ey, hpy, rfl⟩ := hv
      subst hw'
      have hwc : w = 3 ∨ w = 4 := by omega
      rcases hwc with rfl | rfl
      · exact ⟨p1, _, 0, V.ref t1, rfl, rfl, sq_of (eC _ _ upd_same), atI_nat (j := 0) rfl, k _ _ (Ex.refl _) ⟨t1, en, st, rfl, eC _ _ (Ex.new hpy _ _ (ey _ _ ht1)), .inl rfl⟩⟩
      · exact ⟨p1, _, 1, V.ref t2, rfl, rfl, sq_of (eC _ _ upd_same), atI_nat (j := 1) rfl, k _ _ (Ex.refl _) ⟨t2, st, en, rfl, eC _ _ (Ex.new hpy _ _ ht2), .inr rfl⟩⟩
    refine a_asgP hpair fun v H9 e9 hv => ?_
    obtain ⟨t, x, y, rfl, ht, hxy⟩ := hv
    have e9' := ((e6.trans e7).trans e8).trans e9
    have hp9 := e9' _ _ hp1
    have hps9 := hp2.mono e9'
    have hlz2 : (as.map V.ref).length ≤ 100 := by rw [List.length_map]; omega
    -- pairs[:at] + [pair] + pairs[at:]
    refine q_asgL (xs := (as.map V.ref).take at_ ++ [V.ref t] ++ (as.map V.ref).drop at_) (el_catLL (el_catLL (el_is (el_sl (ev_var rfl) eo_none (eo_some (ev_var rfl)) (sq_of hp9)) (cut_to _ at_)) (el_lst (ea_cons (ev_var rfl) ea_nil) (by show 1 ≤ 100000; decide)) ?_) (el_is (el_sl (ev_var rfl) (eo_some (ev_var rfl)) eo_none (sq_of hp9)) (cut_from _ at_)) ?_) fun pn H10 hpn e10 hpn10 => ?_
    · rw [List.length_take]
      show _ + 1 ≤ 100000
      omega
    · rw [List.length_append, List.length_take, List.length_drop]
      show _ + 1 + _ ≤ 100000
      omega
    have hps10 := hps9.mono e10
    have ht10 := e10 _ _ ht
    have pall : Paired (fun a (d : Int × Int) => H10 a = some (.tup [.int d.1, .int d.2])) (as.take at_ ++ [t] ++ as.drop at_) ((ds.map zp).take at_ ++ [(x, y)] ++ (ds.map zp).drop at_) :=
      paired_append (paired_append (paired_take at_ hps10) (.cons ht10 .nil)) (paired_drop at_ hps10)
    have emap : (as.map V.ref).take at_ ++ [V.ref t] ++ (as.map V.ref).drop at_ = (as.take at_ ++ [t] ++ as.drop at_).map V.ref := by
      rw [List.map_append, List.map_append, List.map_take, List.map_drop]
      rfl
    rw [emap] at hpn10
    have hdl : ds.length = (ds.map zp).length := (List.length_map ..).symm
    have badIn : ∀ {dd : List (Int × Int)}, (x, y) ∈ dd → ∀ N, ¬ IsNet (m : Int) dd N := fun {dd} hd => bad_end hd (by
      rcases hxy with rfl | rfl
      · exact .inl hbad
      · exact .inr hbad)
    have done : ∀ (n : Nat) (xs' : List Addr) (dd : List (Int × Int)) (H11 : Hp), (x, y) ∈ dd → dd.length ≤ 1000 → Ex H10 H11 → H11 n = some (.lst (xs'.map V.ref)) → Paired (fun a (d : Int × Int) => H10 a = some (.tup [.int d.1, .int d.2])) xs' dd →
        k02end g D [some (V.ref a), some (V.ref q), some (nv m), some (V.ref n), s4, s5, some (nv w), some (V.int far), some (nv at_), some (V.int en), some (nv st), some (V.ref t)] H11 := fun n xs' dd H11 hin hle e11 hn hpp =>
      k02_bad (m := (m : Int)) (w := (w : Int)) rfl rfl rfl (by omega) ⟨xs', hn, Paired.mono (fun _ _ q => e11 _ _ q) hpp⟩ hle (badIn hin) k
    by_cases hat : at_ < 100
    · refine s_asgL (xs := ((as.take at_ ++ [t] ++ as.drop at_).take 100).map V.ref) (fun H1 e Q q => (et_test (ev_op (ev_var rfl) ev_c rv_I0)) H1 e _ fun H2 e2 => ?_) fun pm H11 hpm e11 hpm11 => done _ _ _ _ ?_ ?_ e11 hpm11 (paired_take 100 pall)
      · refine ite2 (fun _ => ?_) (fun hn => (hn (decide_eq_true (by omega))).elim)
        exact el_is (el_sl (ev_var rfl) eo_none (eo_some ev_c) (sq_of (e2 _ _ (e _ _ hpn10)))) (by rw [List.map_take]; exact cut_to _ 100) H2 (Ex.refl _) Q fun p H3 hp e3 h3 => q p H3 (fresh_back e2 hp) (e2.trans e3) h3
      · have h1 : ((ds.map zp).take at_ ++ [(x, y)]).length ≤ 100 := by
          rw [List.length_append, List.length_take]
          show _ + 1 ≤ 100
          omega
        rw [List.take_append, List.take_of_length_le h1]
        exact List.mem_append_left _ (List.mem_append_right _ (List.mem_singleton.mpr rfl))
      · rw [List.length_take]
        omega
    · have hat2 : at_ = 100 := by omega
      refine s_asgL (xs := ((as.take at_ ++ [t] ++ as.drop at_).drop 1).map V.ref) (fun H1 e Q q => (et_test (ev_op (ev_var rfl) ev_c rv_I0)) H1 e _ fun H2 e2 => ?_) fun pm H11 hpm e11 hpm11 => done _ _ _ _ ?_ ?_ e11 hpm11 (paired_drop 1 pall)
      · refine ite2 (fun hn => ?_) (fun _ => ?_)
        · have := of_decide_eq_true hn
          omega
        · exact el_is (el_sl (ev_var rfl) (eo_some ev_c) eo_none (sq_of (e2 _ _ (e _ _ hpn10)))) (by rw [List.map_drop]; exact cut_from _ 1) H2 (Ex.refl _) Q fun p H3 hp e3 h3 => q p H3 (fresh_back e2 hp) (e2.trans e3) h3
      · have h1 : 1 ≤ ((ds.map zp).take at_).length := by
          rw [List.length_take]
          omega
        rw [List.append_assoc, List.drop_append_of_le_length h1]
        exact List.mem_append_right _ (List.mem_append_left _ (List.mem_singleton.mpr rfl))
      · rw [List.length_drop, List.length_append, List.length_append, List.length_take, List.length_drop]
        show _ + 1 + _ - 1 ≤ 1000
        omega
  · -- nothing turned
    have hw : ¬ 2 < w := of_decide_eq_false hb
    have hw0' : w = 0 := by omega
    subst hw0'
    exact k02_good (m := (m : Int)) (N := ⟨m, ds⟩) rfl rfl rfl (hl2.mono (e4'.trans e5)) (by omega) ⟨⟨hm.1, hm.2, hlen, hd⟩, rfl, rfl⟩ k
theorem pure_law_k02 (h : spLaw g vs H Q E) : t_law_k02 g { nx := fun _ H' => Q .non H', rt := Q } (start N_law_k02 vs) H := by
  obtain ⟨a, ns, rfl, hs, hlen, k⟩ := h
  refine q_callX (ea_cons (ev_var rfl) (ea_cons ev_c (ea_cons ev_c (ea_cons ev_c ea_nil)))) fun H1 e1 => ⟨a, ns, 5, 12, 24, rfl, ex_l e1 hs, by decide, by decide, by decide, fun n ds q pa H2 hn1 hn2 hd1 hd2 e2 hq hpa hne hq2 hP => ?_⟩
  refine q_asg (ev_op (ev_var rfl) ev_c (rv_ixT (st_of hq2) rfl)) fun H3 e3 => ?_
  refine q_asg (ev_op (ev_var rfl) ev_c (rv_ixT (st_of (e3 _ _ hq2)) rfl)) fun H4 e4 => ?_
  have hs4 : SqL g.K H4 a (ns.map V.int) := ex_l (((e1.trans e2).trans e3).trans e4) hs
  have hP4 := hP.mono (e3.trans e4)
  have one : ∃ b, EvT (tTest (tOp rEq (tOp rModI (tOp rDivI (tCall (sp__law_cell_at g) [] E0 (tCons (tVar 0) (tCons (tC (.int 0)) tNil))) (tC (.int 5))) (tC (.int 8))) (tC (.int 1)))) [some (V.ref a), some (V.ref q), some (nv n), some (V.ref pa), none, none, none, none, none, none, none, none] H4 b :=
    ⟨_, et_test (ev_op (ev_op (ev_op (ev_cell (j := 0) (ev_var rfl) hs4 ev_c) ev_c (rv_div (by decide))) ev_c (rv_mod (by decide))) ev_c (rv_eq rfl))⟩
  obtain ⟨b, hb⟩ := one
  refine q_if hb (fun _ H5 e5 => ?_) (fun _ H5 e5 => ?_)
  · refine q_asg ev_c fun H6 e6 => ?_
    refine q_asgL (el_lst ea_nil (Nat.zero_le _)) fun pl H7 hpl e7 hpl7 => ?_
    have hs7 := ex_l ((e5.trans e6).trans e7) hs4
    refine s_forR1 (n := 100) (ea_cons ev_c ea_nil) ⟨by decide, by decide⟩ (fun i σ' H' => Ex H6 H' ∧ ∃ (ds : List (Nat × Nat)) (s4 s5 : Option V), ds.length = i ∧ (∀ d ∈ ds, d.1 < 40 ∧ d.2 < 40) ∧ PLt H' pl (ds.map zp) ∧ σ' = [some (V.ref a), some (V.ref q), some (nv 40), some (V.ref pl), s4, s5, none, none, none, none, none, none])
      (fun H8 e8 => ⟨e7.trans e8, [], none, none, rfl, (fun _ h => by cases h), ⟨[], e8 _ _ hpl7, Paired.nil⟩, rfl⟩) (fun i σ' H' hi hP => ?_) (fun σ' H' hP => ?_)
    · obtain ⟨eX, ds, s4, s5, hl, hds, ⟨as, hpa3, hps⟩, rfl⟩ := hP
      have hsl : SqL g.K H' a (ns.map V.int) := ex_l ((e5.trans e6).trans eX) hs4
      obtain ⟨r, hr0, hr1⟩ := emod_nat (i : Int) (m := 50) (by decide)
      have hi2 : i < 100 := by omega
      obtain ⟨c, hc⟩ : ∃ c : Int, c = ns.getD (6 + r) 0 + 977 * ((i : Int) / 50) := ⟨_, rfl⟩
      obtain ⟨u, hu0, hu1⟩ := emod_nat c (m := 40) (by decide)
      obtain ⟨w, hw0, hw1⟩ := emod_nat (c / 40) (m := 40) (by decide)
      refine q_asg (v := .int c) (ev_is (ev_op (ev_cell (j := 6 + r) (ev_var rfl) hsl (ev_is (ev_op ev_c (ev_op (ev_var rfl) ev_c (rv_mod (by decide))) rv_I0) ?_)) (ev_op ev_c (ev_op (ev_var rfl) ev_c (rv_div (by decide))) (rv_I (C := CMul) (.inl (by decide)))) rv_I0) ?_) fun H3 e3 => ?_
      · exact congrArg V.int (show (6 : Int) + (i : Int) % 50 = ((6 + r : Nat) : Int) by rw [show ((i : Int) % 50) = r from hr0]; omega)
      · exact congrArg V.int hc.symm
      refine s_appU (ys := [nv u, nv w]) (e3 _ _ hpa3) (ev_var rfl) (eu_tup (ea_cons (ev_is (ev_op (ev_var rfl) ev_c (rv_mod (by decide))) (congrArg V.int hu0)) (ea_cons (ev_is (ev_op (ev_op (ev_var rfl) ev_c (rv_div (by decide))) ev_c (rv_mod (by decide))) (congrArg V.int hw0)) ea_nil)) (by show 2 ≤ 100000; decide)) ?_ fun t H4 ht e4 ht4 => ?_
      · rw [List.length_map]
        have h1 := paired_len hps
        rw [List.length_map] at h1
        omega
      · have ntp : t ≠ pl := fun z => by
          rw [z, e3 _ _ hpa3] at ht
          cases ht
        refine ⟨?_, ds ++ [(u, w)], _, _, ?_, fun d hd => ?_, ⟨as ++ [t], ?_, ?_⟩, rfl⟩
        · exact exU ((eX.trans e3).trans e4) hpl
        · rw [List.length_append, hl]
          rfl
        · rcases List.mem_append.mp hd with hd | hd
          · exact hds d hd
          · rw [List.mem_singleton.mp hd]
            exact ⟨hu1, hw1⟩
        · rw [upd_same, List.map_append]
          rfl
        · rw [List.map_append]
          refine Paired.snoc (by rw [upd_ne ntp]; exact ht4) (Paired.mono (fun a d q => ?_) hps)
          have hap : a ≠ pl := ne_of q hpa3 (by intro z; cases z)
          rw [upd_ne hap]
          exact e4 _ _ (e3 _ _ q)
    · obtain ⟨eX, ds, s4, s5, hl, hds, hP, rfl⟩ := hP
      exact k02_mid (ex_l ((e5.trans e6).trans eX) hs4) (by decide) hP (by omega) hds k
  · exact k02_mid (ex_l e5 hs4) ⟨hn1, by omega⟩ (hP4.mono e5) (by omega) hd2 k
end
end Mp

namespace Mp
open PySem L2 Evl
def top (i : Nat) : Stmt := PySem.Challenge.pw_mustpass_k02_what_is_no_net.main.body.getD i (.Pass ⟨0, 0, 0, 0⟩)
abbrev s__law_cell_at : Stmt := top 11
abbrev s__law_net : Stmt := top 12
abbrev s_Net___init__ : Stmt := inClass (top 9) 0
abbrev s_Net_doors : Stmt := inClass (top 9) 3
abbrev s_Net_rooms : Stmt := inClass (top 9) 2
abbrev s__law_asked_k02 : Stmt := top 13
abbrev s_law_k02 : Stmt := top 14
theorem sc__law_cell_at : FnScope N__law_cell_at ["script", "k"] (defScope s__law_cell_at) := ⟨rfl, rfl, rfl, by decide +kernel, rfl, by decide +kernel, by decide +kernel⟩
theorem sc__law_net : FnScope N__law_net ["script", "at", "most", "extra"] (defScope s__law_net) := ⟨rfl, rfl, rfl, by decide +kernel, rfl, by decide +kernel, by decide +kernel⟩
theorem sc_Net___init__ : FnScope N_Net___init__ ["self", "rooms", "doors"] (defScope s_Net___init__) := ⟨rfl, rfl, rfl, by decide +kernel, rfl, by decide +kernel, by decide +kernel⟩
theorem sc_Net_doors : FnScope N_Net_doors ["self"] (defScope s_Net_doors) := ⟨rfl, rfl, rfl, by decide +kernel, rfl, by decide +kernel, by decide +kernel⟩
theorem sc_Net_rooms : FnScope N_Net_rooms ["self"] (defScope s_Net_rooms) := ⟨rfl, rfl, rfl, by decide +kernel, rfl, by decide +kernel, by decide +kernel⟩
theorem sc__law_asked_k02 : FnScope N__law_asked_k02 ["many", "pairs"] (defScope s__law_asked_k02) := ⟨rfl, rfl, rfl, by decide +kernel, rfl, by decide +kernel, by decide +kernel⟩
theorem sc_law_k02 : FnScope N_law_k02 ["script"] (defScope s_law_k02) := ⟨rfl, rfl, rfl, by decide +kernel, rfl, by decide +kernel, by decide +kernel⟩
structure Tx (g : Gb) (mg : Str → Option Value) : Prop where
  cf : CF g
  cl : Cls g.K g.C
  n_ValueError : mg "ValueError" = none
  n_isinstance : mg "isinstance" = none
  n_len : mg "len" = none
  n_list : mg "list" = none
  n_range : mg "range" = none
  n_set : mg "set" = none
  n_sorted : mg "sorted" = none
  m_MOST_ROOMS : ∃ t, mg "MOST_ROOMS" = some (.int 40 t)
  m_MOST_DOORS : ∃ t, mg "MOST_DOORS" = some (.int 100 t)
  x_PassError : XG g.K mg "PassError" g.cP
  x_NoNet : XG g.K mg "NoNet" g.cN
  x_NoRoom : XG g.K mg "NoRoom" g.cR
  x_Unreached : XG g.K mg "Unreached" g.cU
  xf_NoNet : XF g g.cN true false false
section
variable {P : Program} {mg : Str → Option Value} {base : Heap} {g : Gb}
theorem ok__law_cell_at (T : Tx g mg) (D : FD g.K mg "_law_cell_at" s__law_cell_at)  : FG P g.w g.K mg base CX0 1 "_law_cell_at" ["script", "k"] (sp__law_cell_at g) := by
  obtain ⟨f, fd, F, M⟩ := D.ex
  refine ⟨f, fd, ?_, M, F.kp, F.binds (ps := ["script", "k"]) fun _ _ _ _ _ _ us hl => match us, hl with | [_, _], _ => rfl⟩
  refine F.ok sc__law_cell_at (fun vs H Q E h => by (unfold sp__law_cell_at at h; (repeat (obtain ⟨hh, h⟩ := h; try (subst hh))); rfl)) (fun cdv A outer s H vs Q E hr h => ⟨t__law_cell_at g, ?_, pure__law_cell_at  h⟩)
  exact pss_cons (ps_if (pt_cmpR op_lt (pv 1) (pe_callB call_len_seq (by rfl) T.n_len PySem.boot_len (pa_cons (pv 0) pa_nil)) (nomark _)) (pss_one (ps_ret (pe_ix ix_list (pv 0) (pv 1) (fun _ _ => rfl)))) pss_nil)
      (pss_one (ps_ret pe_int))
theorem ok__law_net (T : Tx g mg) (D : FD g.K mg "_law_net" s__law_net) (G__law_cell_at : FG P g.w g.K mg base CX0 1 "_law_cell_at" ["script", "k"] (sp__law_cell_at g)) : FG P g.w g.K mg base CX0 2 "_law_net" ["script", "at", "most", "extra"] (sp__law_net g) := by
  obtain ⟨f, fd, F, M⟩ := D.ex
  refine ⟨f, fd, ?_, M, F.kp, F.binds (ps := ["script", "at", "most", "extra"]) fun _ _ _ _ _ _ us hl => match us, hl with | [_, _, _, _], _ => rfl⟩
  refine F.ok sc__law_net (fun vs H Q E h => by (unfold sp__law_net at h; (repeat (obtain ⟨hh, h⟩ := h; try (subst hh))); rfl)) (fun cdv A outer s H vs Q E hr h => ⟨t__law_net g, ?_, pure__law_net  h⟩)
  exact pss_cons (ps_set (i := 4) sc__law_net.nd rfl (Or.inl rfl) (pe_op op_add pe_int (pe_op op_mod (pe_cl G__law_cell_at hr (by rfl) pass0 (pa_cons (pv 0) (pa_cons (pv 1) pa_nil))) (pv 2))))
      (pss_cons (ps_set (i := 5) sc__law_net.nd rfl (Or.inl rfl) (pe_lst pa_nil))
      (pss_cons (ps_for PassesOwn.never rfl (pi_range1 (by rfl) T.n_range (pa_cons (pe_op op_mod (pe_op op_fdiv (pe_cl G__law_cell_at hr (by rfl) pass0 (pa_cons (pv 0) (pa_cons (pv 1) pa_nil))) (pv 2)) (pe_op op_add (pv 3) pe_int)) pa_nil)) (pg_name (i := 6) sc__law_net.nd rfl (Or.inl rfl)) (pss_cons (ps_set (i := 7) sc__law_net.nd rfl (Or.inl rfl) (pe_cl G__law_cell_at hr (by rfl) pass0 (pa_cons (pv 0) (pa_cons (pe_op op_add (pe_op op_add (pv 1) pe_int) (pv 6)) pa_nil))))
      (pss_one (ps_expr (pe_bm PySem.F.plainAttrs_list PySem.F.slot_list_append PySem.F.type_list_append mt_append (pv 5) (pa_cons (pe_tup (pa_cons (pe_op op_mod (pv 7) (pv 4)) (pa_cons (pe_op op_mod (pe_op op_fdiv (pv 7) (pv 4)) (pv 4)) pa_nil))) pa_nil))))))
      (pss_one (ps_ret (pe_tup (pa_cons (pv 4) (pa_cons (pv 5) pa_nil)))))))
theorem ok_Net___init__ (T : Tx g mg) (D : ND g.K mg g.C "Net" "Net.__init__" s_Net___init__)  : NG P g.w g.K mg base (L2.CX P g.w) 1 g.C "Net" ["self", "rooms", "doors"] (sp_Net___init__ g) := by
  obtain ⟨f, fd, F, M, M2⟩ := D.ex
  refine ⟨f, fd, ?_, M, M2, F.binds (ps := ["self", "rooms", "doors"]) fun _ _ _ _ _ _ us hl => match us, hl with | [_, _, _], _ => rfl⟩
  refine F.okX sc_Net___init__ (fun vs H Q E h => by (unfold sp_Net___init__ at h; (repeat (obtain ⟨hh, h⟩ := h; try (subst hh))); rfl)) (fun cdv A outer s H vs Q E hr h => ⟨t_Net___init__ g E, ?_, pure_Net___init__ T.cf h⟩)
  exact pss_cons (ps_if (PW.pt (pw_or (pt_not (pt_chain op_le op_le pe_int (pv 1) (pe_gint (by rfl) T.m_MOST_ROOMS))) (pw_or1 (pt_cmpR op_gt (pe_callB call_len_seq (by rfl) T.n_len PySem.boot_len (pa_cons (pv 2) pa_nil)) (pe_gint (by rfl) T.m_MOST_DOORS) (nomark _))))) (pss_one (ps_rs T.x_NoNet rfl (takes_of rfl rfl rfl rfl) (by rfl))) pss_nil)
      (pss_cons (ps_for (passes_of rfl) rfl (pi_list (pv 2)) (pg_name (i := 3) sc_Net___init__.nd rfl (Or.inl rfl)) (pss_one (ps_for (passes_of rfl) rfl (pi_tup (pv 3)) (pg_name (i := 4) sc_Net___init__.nd rfl (Or.inl rfl)) (pss_one (ps_if (pt_not (pt_chain op_le op_lt pe_int (pv 4) (pv 1))) (pss_one (ps_rs T.x_NoNet rfl (takes_of rfl rfl rfl rfl) (by rfl))) pss_nil)))))
      (pss_cons (ps_fld (pv 0) (pv 1) rfl)
      (pss_cons (ps_fld (pv 0) (pe_callTy call_list_of (by rfl) T.n_list (by decide +kernel) (pa_cons (pv 2) pa_nil)) rfl)
      (pss_cons (ps_fld (pv 0) (pe_lc (own := [("room", 4)]) (g := gName 4) rfl sc_Net___init__.nd (pi_range1 (by rfl) T.n_range (pa_cons (pv 1) pa_nil)) (blkOk_by (N := N_Net___init__) (sc := defScope s_Net___init__) (by decide +kernel)) (fun _ _ _ _ _ => pg_name (i := 4) sc_Net___init__.nd rfl (Or.inr rfl)) (fun _ _ _ _ _ => pts_nil) (fun _ _ _ _ _ => pe_callB (cr_sortedSet rfl) (by rfl) T.n_sorted (by decide +kernel) (pa_cons (pe_callTy (cr_setL rfl) (by rfl) T.n_set (by decide +kernel) (pa_cons (pe_lc (own := [("door", 3)]) (g := gName 3) rfl sc_Net___init__.nd (pi_list (pv 2)) (blkOk_by (N := N_Net___init__) (sc := relS _ (defScope s_Net___init__)) (by decide +kernel)) (fun _ _ _ _ _ => pg_name (i := 3) sc_Net___init__.nd rfl (Or.inl rfl)) (fun _ _ _ _ _ => pts_one (pt_cmpR op_eq (pe_ix ix_tup (pv 3) pe_int (fun _ _ => rfl)) (pv 4) (nomark _))) (fun _ _ _ _ _ => pe_ix ix_tup (pv 3) pe_int (fun _ _ => rfl))) pa_nil)) pa_nil))) rfl)
      (pss_one (ps_fld (pv 0) (pe_lc (own := [("room", 4)]) (g := gName 4) rfl sc_Net___init__.nd (pi_range1 (by rfl) T.n_range (pa_cons (pv 1) pa_nil)) (blkOk_by (N := N_Net___init__) (sc := defScope s_Net___init__) (by decide +kernel)) (fun _ _ _ _ _ => pg_name (i := 4) sc_Net___init__.nd rfl (Or.inr rfl)) (fun _ _ _ _ _ => pts_nil) (fun _ _ _ _ _ => pe_callB (cr_sortedSet rfl) (by rfl) T.n_sorted (by decide +kernel) (pa_cons (pe_callTy (cr_setL rfl) (by rfl) T.n_set (by decide +kernel) (pa_cons (pe_lc (own := [("door", 3)]) (g := gName 3) rfl sc_Net___init__.nd (pi_list (pv 2)) (blkOk_by (N := N_Net___init__) (sc := relS _ (defScope s_Net___init__)) (by decide +kernel)) (fun _ _ _ _ _ => pg_name (i := 3) sc_Net___init__.nd rfl (Or.inl rfl)) (fun _ _ _ _ _ => pts_one (pt_cmpR op_eq (pe_ix ix_tup (pv 3) pe_int (fun _ _ => rfl)) (pv 4) (nomark _))) (fun _ _ _ _ _ => pe_ix ix_tup (pv 3) pe_int (fun _ _ => rfl))) pa_nil)) pa_nil))) rfl))))))
theorem ok_Net_doors (T : Tx g mg) (D : MD g.K g.C "doors" "Net.doors" s_Net_doors)  : MG P g.w g.K mg base CX0 1 g.C "doors" ["self"] (sp_Net_doors g) := by
  obtain ⟨f, fd, F, M⟩ := D.ex
  refine ⟨f, fd, ?_, M, F.binds (ps := ["self"]) fun _ _ _ _ _ _ us hl => match us, hl with | [_], _ => rfl⟩
  refine F.ok sc_Net_doors (fun vs H Q E h => by (unfold sp_Net_doors at h; (repeat (obtain ⟨hh, h⟩ := h; try (subst hh))); rfl)) (fun cdv A outer s H vs Q E hr h => ⟨t_Net_doors g, ?_, pure_Net_doors T.cf h⟩)
  exact pss_one (ps_ret (pe_callTy call_list_of (by rfl) T.n_list (by decide +kernel) (pa_cons (pe_fld (pv 0) rfl) pa_nil)))
theorem ok_Net_rooms (T : Tx g mg) (D : MD g.K g.C "rooms" "Net.rooms" s_Net_rooms)  : MG P g.w g.K mg base CX0 1 g.C "rooms" ["self"] (sp_Net_rooms g) := by
  obtain ⟨f, fd, F, M⟩ := D.ex
  refine ⟨f, fd, ?_, M, F.binds (ps := ["self"]) fun _ _ _ _ _ _ us hl => match us, hl with | [_], _ => rfl⟩
  refine F.ok sc_Net_rooms (fun vs H Q E h => by (unfold sp_Net_rooms at h; (repeat (obtain ⟨hh, h⟩ := h; try (subst hh))); rfl)) (fun cdv A outer s H vs Q E hr h => ⟨t_Net_rooms g, ?_, pure_Net_rooms T.cf h⟩)
  exact pss_one (ps_ret (pe_fld (pv 0) rfl))
theorem ok__law_asked_k02 (T : Tx g mg) (D : FD g.K mg "_law_asked" s__law_asked_k02) (G_Net___init__ : NG P g.w g.K mg base (L2.CX P g.w) 1 g.C "Net" ["self", "rooms", "doors"] (sp_Net___init__ g)) (G_Net_doors : MG P g.w g.K mg base CX0 1 g.C "doors" ["self"] (sp_Net_doors g)) (G_Net_rooms : MG P g.w g.K mg base CX0 1 g.C "rooms" ["self"] (sp_Net_rooms g)) : FG P g.w g.K mg base CX0 3 "_law_asked" ["many", "pairs"] (sp__law_asked_k02 g) := by
  obtain ⟨f, fd, F, M⟩ := D.ex
  refine ⟨f, fd, ?_, M, F.kp, F.binds (ps := ["many", "pairs"]) fun _ _ _ _ _ _ us hl => match us, hl with | [_, _], _ => rfl⟩
  refine F.ok sc__law_asked_k02 (fun vs H Q E h => by (unfold sp__law_asked_k02 at h; (repeat (obtain ⟨hh, h⟩ := h; try (subst hh))); rfl)) (fun cdv A outer s H vs Q E hr h => ⟨t__law_asked_k02 g, ?_, pure__law_asked_k02 T.xf_NoNet h⟩)
  exact pss_cons (ps_set (i := 2) sc__law_asked_k02.nd rfl (Or.inl rfl) (pe_tup (pa_cons pe_int (pa_cons (pe_lst pa_nil) pa_nil))))
      (pss_cons (ps_try_as (i := 4) (tb := fun W => t__law_asked_k02_try g W) (ts := t__law_asked_k02_suite g) (Wout := fun _ _ _ _ => False) rfl rfl sc__law_asked_k02.nd rfl rfl ⟨rfl, by decide, .inl T.x_PassError.g⟩ takes0 (fun W pn xe tk _ => pss_cons (ps_set (i := 3) sc__law_asked_k02.nd rfl (Or.inl rfl) (pe_mkS G_Net___init__ hr (by rfl) (fun σ => passAt tk σ) (pa_cons (pv 0) (pa_cons (pe_callTy call_list_of (by rfl) T.n_list (by decide +kernel) (pa_cons (pv 1) pa_nil)) pa_nil))))
      (pss_one (ps_set (i := 2) sc__law_asked_k02.nd rfl (Or.inl rfl) (pe_tup (pa_cons (pe_mt0 G_Net_rooms T.cl hr pass0 (pv 3)) (pa_cons (pe_mt0 G_Net_doors T.cl hr pass0 (pv 3)) pa_nil)))))) (fun a oe cls d pn hz hf => pss_one (ps_set (i := 2) sc__law_asked_k02.nd rfl (Or.inl rfl) (pe_tup (pa_cons (pe_callB (call_isEX hz hf) (by rfl) T.n_isinstance (by decide +kernel) (pa_cons (pv 4) (pa_cons (pe_glob (by rfl) T.x_NoNet.g rfl) pa_nil))) (pa_cons (pe_callB (call_isEX hz hf) (by rfl) T.n_isinstance (by decide +kernel) (pa_cons (pv 4) (pa_cons (pe_bltn (by rfl) T.n_ValueError (by decide +kernel) rfl) pa_nil))) (pa_cons (pe_callB (call_isETX hz hf) (by rfl) T.n_isinstance (by decide +kernel) (pa_cons (pv 4) (pa_cons (pe_tup (pa_cons (pe_glob (by rfl) T.x_NoRoom.g rfl) (pa_cons (pe_glob (by rfl) T.x_Unreached.g rfl) pa_nil))) pa_nil))) pa_nil)))))))
      (pss_one (ps_ret (pv 2))))
theorem ok_law_k02 (T : Tx g mg) {f : Addr} {fd : FuncData} (F : Fun g.K "law" "law" s_law_k02 f fd) (G__law_net : FG P g.w g.K mg base CX0 2 "_law_net" ["script", "at", "most", "extra"] (sp__law_net g)) (G__law_cell_at : FG P g.w g.K mg base CX0 1 "_law_cell_at" ["script", "k"] (sp__law_cell_at g)) (G__law_asked_k02 : FG P g.w g.K mg base CX0 3 "_law_asked" ["many", "pairs"] (sp__law_asked_k02 g)) : FnOk P g.w g.K mg base CX0 4 f fd ["script"] (spLaw g) := by
  refine F.ok sc_law_k02 (fun vs H Q E h => by (unfold spLaw spLawK at h; (repeat (obtain ⟨hh, h⟩ := h; try (subst hh))); rfl)) (fun cdv A outer s H vs Q E hr h => ⟨t_law_k02 g, ?_, pure_law_k02  h⟩)
  exact pss_cons (ps_set (i := 1) sc_law_k02.nd rfl (Or.inl rfl) (pe_cl G__law_net hr (by rfl) pass0 (pa_cons (pv 0) (pa_cons pe_int (pa_cons pe_int (pa_cons pe_int pa_nil))))))
      (pss_cons (ps_set (i := 2) sc_law_k02.nd rfl (Or.inl rfl) (pe_ix ix_tup (pv 1) pe_int (fun _ _ => rfl)))
      (pss_cons (ps_set (i := 3) sc_law_k02.nd rfl (Or.inl rfl) (pe_ix ix_tup (pv 1) pe_int (fun _ _ => rfl)))
      (pss_cons (ps_if (pt_cmpR op_eq (pe_op op_mod (pe_op op_fdiv (pe_cl G__law_cell_at hr (by rfl) pass0 (pa_cons (pv 0) (pa_cons pe_int pa_nil))) pe_int) pe_int) pe_int (nomark _)) (pss_cons (ps_set (i := 2) sc_law_k02.nd rfl (Or.inl rfl) pe_int)
      (pss_cons (ps_set (i := 3) sc_law_k02.nd rfl (Or.inl rfl) (pe_lst pa_nil))
      (pss_one (ps_for PassesOwn.never rfl (pi_range1 (by rfl) T.n_range (pa_cons pe_int pa_nil)) (pg_name (i := 4) sc_law_k02.nd rfl (Or.inl rfl)) (pss_cons (ps_set (i := 5) sc_law_k02.nd rfl (Or.inl rfl) (pe_op op_add (pe_cl G__law_cell_at hr (by rfl) pass0 (pa_cons (pv 0) (pa_cons (pe_op op_add pe_int (pe_op op_mod (pv 4) pe_int)) pa_nil))) (pe_op op_mul pe_int (pe_op op_fdiv (pv 4) pe_int))))
      (pss_one (ps_expr (pe_bm PySem.F.plainAttrs_list PySem.F.slot_list_append PySem.F.type_list_append mt_append (pv 3) (pa_cons (pe_tup (pa_cons (pe_op op_mod (pv 5) pe_int) (pa_cons (pe_op op_mod (pe_op op_fdiv (pv 5) pe_int) pe_int) pa_nil))) pa_nil))))))))) pss_nil)
      (pss_cons (ps_set (i := 6) sc_law_k02.nd rfl (Or.inl rfl) (pe_op op_mod (pe_cl G__law_cell_at hr (by rfl) pass0 (pa_cons (pv 0) (pa_cons pe_int pa_nil))) pe_int))
      (pss_cons (ps_set (i := 7) sc_law_k02.nd rfl (Or.inl rfl) (pe_op op_mod (pe_cl G__law_cell_at hr (by rfl) pass0 (pa_cons (pv 0) (pa_cons pe_int pa_nil))) (pe_op op_pow pe_int pe_int)))
      (pss_cons (ps_if (pt_cmpR op_eq (pv 6) pe_int (nomark _)) (pss_one (ps_set (i := 2) sc_law_k02.nd rfl (Or.inl rfl) (pe_ix ix_list (pe_lst (pa_cons pe_int (pa_cons (pe_op op_sub (pe_un un_neg pe_int) (pv 7)) (pa_cons pe_int (pa_cons (pe_op op_add pe_int (pv 7)) pa_nil))))) (pe_op op_mod (pe_cl G__law_cell_at hr (by rfl) pass0 (pa_cons (pv 0) (pa_cons pe_int pa_nil))) pe_int) (fun _ _ => rfl)))) pss_nil)
      (pss_cons (ps_if (pt_cmpR op_eq (pv 6) pe_int (nomark _)) (pss_one (ps_set (i := 3) sc_law_k02.nd rfl (Or.inl rfl) (pe_slice sl_list (pe_op op_cat (pv 3) (pe_op op_rep (pe_lst (pa_cons (pe_tup (pa_cons pe_int (pa_cons pe_int pa_nil))) pa_nil)) pe_int)) po_none (po_some pe_int)))) pss_nil)
      (pss_cons (ps_if (pt_cmpR op_gt (pv 6) pe_int (nomark _)) (pss_cons (ps_set (i := 8) sc_law_k02.nd rfl (Or.inl rfl) (pe_op op_mod (pe_cl G__law_cell_at hr (by rfl) pass0 (pa_cons (pv 0) (pa_cons pe_int pa_nil))) (pe_op op_add (pe_callB call_len_seq (by rfl) T.n_len PySem.boot_len (pa_cons (pv 3) pa_nil)) pe_int)))
      (pss_cons (ps_set (i := 9) sc_law_k02.nd rfl (Or.inl rfl) (pe_ix ix_list (pe_lst (pa_cons (pe_op op_sub (pe_un un_neg pe_int) (pv 7)) (pa_cons (pv 2) (pa_cons (pe_op op_add (pv 2) (pv 7)) pa_nil)))) (pe_op op_mod (pe_cl G__law_cell_at hr (by rfl) pass0 (pa_cons (pv 0) (pa_cons pe_int pa_nil))) pe_int) (fun _ _ => rfl)))
      (pss_cons (ps_set (i := 10) sc_law_k02.nd rfl (Or.inl rfl) (pe_op op_mod (pe_cl G__law_cell_at hr (by rfl) pass0 (pa_cons (pv 0) (pa_cons pe_int pa_nil))) (pv 2)))
      (pss_cons (ps_set (i := 11) sc_law_k02.nd rfl (Or.inl rfl) (pe_ix ix_list (pe_lst (pa_cons (pe_tup (pa_cons (pv 9) (pa_cons (pv 10) pa_nil))) (pa_cons (pe_tup (pa_cons (pv 10) (pa_cons (pv 9) pa_nil))) pa_nil))) (pe_op op_sub (pv 6) pe_int) (fun _ _ => rfl)))
      (pss_cons (ps_set (i := 3) sc_law_k02.nd rfl (Or.inl rfl) (pe_op op_cat (pe_op op_cat (pe_slice sl_list (pv 3) po_none (po_some (pv 8))) (pe_lst (pa_cons (pv 11) pa_nil))) (pe_slice sl_list (pv 3) (po_some (pv 8)) po_none)))
      (pss_one (ps_set (i := 3) sc_law_k02.nd rfl (Or.inl rfl) (pe_ifExp (pt_cmpR op_lt (pv 8) pe_int (nomark _)) (pe_slice sl_list (pv 3) po_none (po_some pe_int)) (pe_slice sl_list (pv 3) (po_some pe_int) po_none))))))))) pss_nil)
      (pss_cons (ps_if (pt_cmpR op_gt (pv 6) pe_int (nomark _)) (pss_one (ps_ret (pe_cmpR (op_eqD hr.units) (pe_cl G__law_asked_k02 hr (by rfl) pass0 (pa_cons (pv 2) (pa_cons (pv 3) pa_nil))) (pe_tup (pa_cons pe_bl (pa_cons pe_bl (pa_cons pe_bl pa_nil)))) (nomark _)))) pss_nil)
      (pss_one (ps_ret (pe_cmpR (op_eqD hr.units) (pe_cl G__law_asked_k02 hr (by rfl) pass0 (pa_cons (pv 2) (pa_cons (pv 3) pa_nil))) (pe_tup (pa_cons (pv 2) (pa_cons (pv 3) pa_nil))) (nomark _)))))))))))))
theorem ok_all (T : Tx g mg) (D__law_cell_at : FD g.K mg "_law_cell_at" s__law_cell_at) (D__law_net : FD g.K mg "_law_net" s__law_net) (D_Net___init__ : ND g.K mg g.C "Net" "Net.__init__" s_Net___init__) (D_Net_doors : MD g.K g.C "doors" "Net.doors" s_Net_doors) (D_Net_rooms : MD g.K g.C "rooms" "Net.rooms" s_Net_rooms) (D__law_asked_k02 : FD g.K mg "_law_asked" s__law_asked_k02) {fa : Addr} {fd : FuncData} (FL : Fun g.K "law" "law" s_law_k02 fa fd) : FnOk P g.w g.K mg base CX0 4 fa fd ["script"] (spLaw g) := by
  have G__law_cell_at : FG P g.w g.K mg base CX0 1 "_law_cell_at" ["script", "k"] (sp__law_cell_at g) := (ok__law_cell_at T D__law_cell_at)
  have G__law_net : FG P g.w g.K mg base CX0 2 "_law_net" ["script", "at", "most", "extra"] (sp__law_net g) := (ok__law_net T D__law_net G__law_cell_at)
  have G_Net___init__ : NG P g.w g.K mg base (L2.CX P g.w) 1 g.C "Net" ["self", "rooms", "doors"] (sp_Net___init__ g) := (ok_Net___init__ T D_Net___init__)
  have G_Net_doors : MG P g.w g.K mg base CX0 1 g.C "doors" ["self"] (sp_Net_doors g) := (ok_Net_doors T D_Net_doors)
  have G_Net_rooms : MG P g.w g.K mg base CX0 1 g.C "rooms" ["self"] (sp_Net_rooms g) := (ok_Net_rooms T D_Net_rooms)
  have G__law_asked_k02 : FG P g.w g.K mg base CX0 3 "_law_asked" ["many", "pairs"] (sp__law_asked_k02 g) := (ok__law_asked_k02 T D__law_asked_k02 G_Net___init__ G_Net_doors G_Net_rooms)
  exact ok_law_k02 T FL G__law_net G__law_cell_at G__law_asked_k02
end
theorem all_mk {l : PySem.W.OpenLaw} {w : World} {K : PySem.W.Frag} {h : Heap} {mg : Str → Option Value} {fa C cP cN cR cU : Addr} (X : K.In h) (G : h.Ns mainGlobals mg) (hfa : mg "law" = some (.ref fa))
    {f0 : Addr} {od0 an0 : Option Addr} {sl0 : Array (Option Value)} {oc0 kV0 dc0 pm0 cd0 ct0 : Value}
    (a0 : PySem.W.nsIn K mainGlobals "_law_cell_at" = some (some (.ref f0)))
    (l0 : K.lookup f0 = some ⟨oc0, od0, .func (PySem.W.fnOf "_law_cell_at" "_law_cell_at" (defArgs s__law_cell_at) (defBody s__law_cell_at) (defScope s__law_cell_at) .none kV0 dc0 pm0 an0 cd0 ct0), sl0⟩) (c0 : PySem.W.codeIn K cd0 "_law_cell_at" = true) (k0 : PySem.W.keepIn K (.ref f0) = true)
    {f1 : Addr} {od1 an1 : Option Addr} {sl1 : Array (Option Value)} {oc1 kV1 dc1 pm1 cd1 ct1 : Value}
    (a1 : PySem.W.nsIn K mainGlobals "_law_net" = some (some (.ref f1)))
    (l1 : K.lookup f1 = some ⟨oc1, od1, .func (PySem.W.fnOf "_law_net" "_law_net" (defArgs s__law_net) (defBody s__law_net) (defScope s__law_net) .none kV1 dc1 pm1 an1 cd1 ct1), sl1⟩) (c1 : PySem.W.codeIn K cd1 "_law_net" = true) (k1 : PySem.W.keepIn K (.ref f1) = true)
    {f2 : Addr} {od2 an2 : Option Addr} {sl2 : Array (Option Value)} {oc2 kV2 dc2 pm2 cd2 ct2 : Value}
    (a2 : PySem.W.findIn K (.ref C) "__init__" = some (some (.ref f2))) (i2 : PySem.W.isFn K (.ref f2) = true)
    (l2 : K.lookup f2 = some ⟨oc2, od2, .func (PySem.W.fnOf "__init__" "Net.__init__" (defArgs s_Net___init__) (defBody s_Net___init__) (defScope s_Net___init__) .none kV2 dc2 pm2 an2 cd2 ct2), sl2⟩) (c2 : PySem.W.codeIn K cd2 "Net.__init__" = true) (k2 : PySem.W.keepIn K (.ref f2) = true)
    {f3 : Addr} {od3 an3 : Option Addr} {sl3 : Array (Option Value)} {oc3 kV3 dc3 pm3 cd3 ct3 : Value}
    (a3 : PySem.W.findIn K (.ref C) "doors" = some (some (.ref f3))) (i3 : PySem.W.isFn K (.ref f3) = true)
    (l3 : K.lookup f3 = some ⟨oc3, od3, .func (PySem.W.fnOf "doors" "Net.doors" (defArgs s_Net_doors) (defBody s_Net_doors) (defScope s_Net_doors) .none kV3 dc3 pm3 an3 cd3 ct3), sl3⟩) (c3 : PySem.W.codeIn K cd3 "Net.doors" = true) (k3 : PySem.W.keepIn K (.ref f3) = true)
    {f4 : Addr} {od4 an4 : Option Addr} {sl4 : Array (Option Value)} {oc4 kV4 dc4 pm4 cd4 ct4 : Value}
    (a4 : PySem.W.findIn K (.ref C) "rooms" = some (some (.ref f4))) (i4 : PySem.W.isFn K (.ref f4) = true)
    (l4 : K.lookup f4 = some ⟨oc4, od4, .func (PySem.W.fnOf "rooms" "Net.rooms" (defArgs s_Net_rooms) (defBody s_Net_rooms) (defScope s_Net_rooms) .none kV4 dc4 pm4 an4 cd4 ct4), sl4⟩) (c4 : PySem.W.codeIn K cd4 "Net.rooms" = true) (k4 : PySem.W.keepIn K (.ref f4) = true)
    {f5 : Addr} {od5 an5 : Option Addr} {sl5 : Array (Option Value)} {oc5 kV5 dc5 pm5 cd5 ct5 : Value}
    (a5 : PySem.W.nsIn K mainGlobals "_law_asked" = some (some (.ref f5)))
    (l5 : K.lookup f5 = some ⟨oc5, od5, .func (PySem.W.fnOf "_law_asked" "_law_asked" (defArgs s__law_asked_k02) (defBody s__law_asked_k02) (defScope s__law_asked_k02) .none kV5 dc5 pm5 an5 cd5 ct5), sl5⟩) (c5 : PySem.W.codeIn K cd5 "_law_asked" = true) (k5 : PySem.W.keepIn K (.ref f5) = true)
    {f6 : Addr} {od6 an6 : Option Addr} {sl6 : Array (Option Value)} {oc6 kV6 dc6 pm6 cd6 ct6 : Value}
    (a6 : PySem.W.nsIn K mainGlobals "law" = some (some (.ref f6)))
    (l6 : K.lookup f6 = some ⟨oc6, od6, .func (PySem.W.fnOf "law" "law" (defArgs s_law_k02) (defBody s_law_k02) (defScope s_law_k02) .none kV6 dc6 pm6 an6 cd6 ct6), sl6⟩) (c6 : PySem.W.codeIn K cd6 "law" = true) (k6 : PySem.W.keepIn K (.ref f6) = true)
    (aC : PySem.W.nsIn K mainGlobals "Net" = some (some (.ref C))) (pg : PySem.W.plainGet K C Str.empty = true) (hd : PySem.W.hasDictIn K C = true) (po : PySem.W.plainOver K C = true) (sa : PySem.W.findIn K (.ref C) "__setattr__" = some (some (.builtin "object.__setattr__"))) (mk : PySem.W.makesIn K C = true) (kc : PySem.W.keepIn K (.ref C) = true)
    (no_many : PySem.W.findIn K (.ref C) "many" = some none)
    (no_pairs : PySem.W.findIn K (.ref C) "pairs" = some none)
    (no_ahead : PySem.W.findIn K (.ref C) "ahead" = some none)
    (no_behind : PySem.W.findIn K (.ref C) "behind" = some none)
    (z_ValueError : PySem.W.nsIn K mainGlobals "ValueError" = some none)
    (z_isinstance : PySem.W.nsIn K mainGlobals "isinstance" = some none)
    (z_len : PySem.W.nsIn K mainGlobals "len" = some none)
    (z_list : PySem.W.nsIn K mainGlobals "list" = some none)
    (z_range : PySem.W.nsIn K mainGlobals "range" = some none)
    (z_set : PySem.W.nsIn K mainGlobals "set" = some none)
    (z_sorted : PySem.W.nsIn K mainGlobals "sorted" = some none)
    {t_MOST_ROOMS : Tok} (z_MOST_ROOMS : PySem.W.nsIn K mainGlobals "MOST_ROOMS" = some (some (.int 40 t_MOST_ROOMS)))
    {t_MOST_DOORS : Tok} (z_MOST_DOORS : PySem.W.nsIn K mainGlobals "MOST_DOORS" = some (some (.int 100 t_MOST_DOORS)))
    (g_PassError : PySem.W.nsIn K mainGlobals "PassError" = some (some (.ref cP))) (x_PassError : PySem.W.excIn K cP [.type "ValueError", .type "Exception", .type "BaseException", .type "object"] "ValueError.__new__" = true) (k_PassError : PySem.W.keepIn K (.ref cP) = true) (b_PassError : PySem.W.subIn K (.ref cP) (.type "BaseException") = some true) (t_PassError : PySem.W.typeIn K (.ref cP) = some (.type "type"))
    (g_NoNet : PySem.W.nsIn K mainGlobals "NoNet" = some (some (.ref cN))) (x_NoNet : PySem.W.excIn K cN [.type "ValueError", .type "Exception", .type "BaseException", .type "object"] "ValueError.__new__" = true) (k_NoNet : PySem.W.keepIn K (.ref cN) = true) (b_NoNet : PySem.W.subIn K (.ref cN) (.type "BaseException") = some true) (t_NoNet : PySem.W.typeIn K (.ref cN) = some (.type "type"))
    (g_NoRoom : PySem.W.nsIn K mainGlobals "NoRoom" = some (some (.ref cR))) (x_NoRoom : PySem.W.excIn K cR [.type "ValueError", .type "Exception", .type "BaseException", .type "object"] "ValueError.__new__" = true) (k_NoRoom : PySem.W.keepIn K (.ref cR) = true) (b_NoRoom : PySem.W.subIn K (.ref cR) (.type "BaseException") = some true) (t_NoRoom : PySem.W.typeIn K (.ref cR) = some (.type "type"))
    (g_Unreached : PySem.W.nsIn K mainGlobals "Unreached" = some (some (.ref cU))) (x_Unreached : PySem.W.excIn K cU [.type "ValueError", .type "Exception", .type "BaseException", .type "object"] "ValueError.__new__" = true) (k_Unreached : PySem.W.keepIn K (.ref cU) = true) (b_Unreached : PySem.W.subIn K (.ref cU) (.type "BaseException") = some true) (t_Unreached : PySem.W.typeIn K (.ref cU) = some (.type "type"))
    (xa_NoNet : PySem.W.findIn K (.ref cN) "__getattribute__" = some (some (.builtin "BaseException.__getattribute__")))
    (xb_NoNet : PySem.W.findIn K (.ref cN) "__getattr__" = some none)
    (xc_NoNet : PySem.W.hasDictIn K cN = true)
    (xd_NoNet : PySem.W.findIn K (.ref cN) "__class__" = some (some (.builtin "object.__class__")))
    (xe_NoNet : PySem.W.specialIn K (.builtin "object.__class__") "__get__" = some (some (.builtin "getset_descriptor.__get__")))
    (xf_NoNet : PySem.W.takesIn K (.builtin "object.__class__") = some true)
    (xg_NoNet : PySem.W.mroIn K cN (.type "object") = some true)
    (xh_NoNet : PySem.W.subIn K (.ref cN) (.ref cN) = some true)
    (xi_NoNet : PySem.W.subIn K (.ref cN) (.type "ValueError") = some true)
    (xj_NoNet : PySem.W.subIn K (.ref cN) (.ref cP) = some true)
    (xk_NoNet : PySem.W.hasDictIn K cP = true)
    (xs_NoNet_NoNet : PySem.W.subIn K (.ref cN) (.ref cN) = some true)
    (xt_NoNet_NoNet : PySem.W.isClsIn K cN = true)
    (xs_NoNet_NoRoom : PySem.W.subIn K (.ref cN) (.ref cR) = some false)
    (xt_NoNet_NoRoom : PySem.W.isClsIn K cR = true)
    (xs_NoNet_Unreached : PySem.W.subIn K (.ref cN) (.ref cU) = some false)
    (xt_NoNet_Unreached : PySem.W.isClsIn K cU = true)
    : ∃ fd : FuncData, (∀ (s : Shared) (v : Value), BindsTo s fd ⟨[v], []⟩ [("script", v)]) ∧ ∀ base : Heap, K.In base → base.Ns mainGlobals mg → FnOk l.prog w K mg base CX0 4 fa fd ["script"] (spLawK K) := by
  have e := hfa.symm.trans (PySem.W.mg_of X G a6)
  cases e
  have cl : Cls K C := ⟨pg, hd, po, sa⟩
  have T : Tx ⟨K, w, C, cP, cN, cR, cU⟩ mg := { cf := ⟨cl, no_many, no_pairs, no_ahead, no_behind⟩, cl := cl, n_ValueError := PySem.W.mg_none_of X G z_ValueError, n_isinstance := PySem.W.mg_none_of X G z_isinstance, n_len := PySem.W.mg_none_of X G z_len, n_list := PySem.W.mg_none_of X G z_list, n_range := PySem.W.mg_none_of X G z_range, n_set := PySem.W.mg_none_of X G z_set, n_sorted := PySem.W.mg_none_of X G z_sorted, m_MOST_ROOMS := ⟨_, PySem.W.mg_of X G z_MOST_ROOMS⟩, m_MOST_DOORS := ⟨_, PySem.W.mg_of X G z_MOST_DOORS⟩, x_PassError := ⟨PySem.W.mg_of X G g_PassError, x_PassError, k_PassError, b_PassError, t_PassError⟩, x_NoNet := ⟨PySem.W.mg_of X G g_NoNet, x_NoNet, k_NoNet, b_NoNet, t_NoNet⟩, x_NoRoom := ⟨PySem.W.mg_of X G g_NoRoom, x_NoRoom, k_NoRoom, b_NoRoom, t_NoRoom⟩, x_Unreached := ⟨PySem.W.mg_of X G g_Unreached, x_Unreached, k_Unreached, b_Unreached, t_Unreached⟩, xf_NoNet := ⟨⟨xa_NoNet, xb_NoNet, b_NoNet, xc_NoNet, xd_NoNet, xe_NoNet, xf_NoNet, xg_NoNet⟩, xh_NoNet, xi_NoNet, PySem.W.exm_ref b_PassError xk_NoNet t_PassError xj_NoNet, ⟨xs_NoNet_NoNet, xt_NoNet_NoNet, t_NoNet⟩, ⟨xs_NoNet_NoRoom, xt_NoNet_NoRoom, t_NoRoom⟩, ⟨xs_NoNet_Unreached, xt_NoNet_Unreached, t_Unreached⟩⟩ }
  have D__law_cell_at : FD K mg "_law_cell_at" s__law_cell_at := ⟨_, _, fun_mk (st := s__law_cell_at) l0 c0 k0, PySem.W.mg_of X G a0⟩
  have D__law_net : FD K mg "_law_net" s__law_net := ⟨_, _, fun_mk (st := s__law_net) l1 c1 k1, PySem.W.mg_of X G a1⟩
  have D_Net___init__ : ND K mg C "Net" "Net.__init__" s_Net___init__ := ⟨_, _, fun_mk (st := s_Net___init__) l2 c2 k2, ⟨mk, a2, i2, kc⟩, PySem.W.mg_of X G aC⟩
  have D_Net_doors : MD K C "doors" "Net.doors" s_Net_doors := ⟨_, _, fun_mk (st := s_Net_doors) l3 c3 k3, ⟨a3, i3, k3⟩⟩
  have D_Net_rooms : MD K C "rooms" "Net.rooms" s_Net_rooms := ⟨_, _, fun_mk (st := s_Net_rooms) l4 c4 k4, ⟨a4, i4, k4⟩⟩
  have D__law_asked_k02 : FD K mg "_law_asked" s__law_asked_k02 := ⟨_, _, fun_mk (st := s__law_asked_k02) l5 c5 k5, PySem.W.mg_of X G a5⟩
  exact ⟨PySem.W.fnOf "law" "law" (defArgs s_law_k02) (defBody s_law_k02) (defScope s_law_k02) .none kV6 dc6 pm6 an6 cd6 ct6, fun s v => .of_eq rfl, fun base _ _ => ok_all (g := ⟨K, w, C, cP, cN, cR, cU⟩) T D__law_cell_at D__law_net D_Net___init__ D_Net_doors D_Net_rooms D__law_asked_k02 (fun_mk (st := s_law_k02) l6 c6 k6)⟩
end Mp
open PySem PySem.W PyProof.Rows
set_option maxRecDepth 100000 in
set_option maxHeartbeats 0 in
theorem PySem.Challenge.cw_mustpass_k02_what_is_no_net_holds : PySem.Challenge.rw_mustpass_k02_what_is_no_net.Holds := by
  w_on; o_law; k_head; (case hw => w_witness2)
  k_fill
  refine L2.walk_of (l := PySem.Challenge.rw_mustpass_k02_what_is_no_net) (n := 63) (k := 4) (x := "script") (CX := fun _ => L2.CX0) (sp := fun w => Mp.spLawK _) rfl (by decide) rfl ⟨rfl, by decide, by decide⟩ (fun w h Y => PySem.W.kIn_of Y) ?F (fun _ _ a ns hl _ hS => ⟨a, ns, rfl, hS, hl, fun _ => rfl⟩) (fun _ _ _ _ _ h => h)
  case F =>
    intro w mg fa h KX G hmg
    refine' Mp.all_mk KX G hmg ?a0 ?l0 ?c0 ?k0 ?a1 ?l1 ?c1 ?k1 ?a2 ?i2 ?l2 ?c2 ?k2 ?a3 ?i3 ?l3 ?c3 ?k3 ?a4 ?i4 ?l4 ?c4 ?k4 ?a5 ?l5 ?c5 ?k5 ?a6 ?l6 ?c6 ?k6 ?aC ?pg ?hd ?po ?sa ?mk ?kc ?no_many ?no_pairs ?no_ahead ?no_behind ?z_ValueError ?z_isinstance ?z_len ?z_list ?z_range ?z_set ?z_sorted ?z_MOST_ROOMS ?z_MOST_DOORS ?g_PassError ?x_PassError ?k_PassError ?b_PassError ?t_PassError ?g_NoNet ?x_NoNet ?k_NoNet ?b_NoNet ?t_NoNet ?g_NoRoom ?x_NoRoom ?k_NoRoom ?b_NoRoom ?t_NoRoom ?g_Unreached ?x_Unreached ?k_Unreached ?b_Unreached ?t_Unreached ?xa_NoNet ?xb_NoNet ?xc_NoNet ?xd_NoNet ?xe_NoNet ?xf_NoNet ?xg_NoNet ?xh_NoNet ?xi_NoNet ?xj_NoNet ?xk_NoNet ?xs_NoNet_NoNet ?xt_NoNet_NoNet ?xs_NoNet_NoRoom ?xt_NoNet_NoRoom ?xs_NoNet_Unreached ?xt_NoNet_Unreached
    (case aC => k_is)
    (case g_PassError => k_is)
    (case g_NoNet => k_is)
    (case g_NoRoom => k_is)
    (case g_Unreached => k_is)
    (case a0 => k_is)
    (case l0 => k_is)
    (case c0 => k_is)
    (case k0 => k_is)
    (case a1 => k_is)
    (case l1 => k_is)
    (case c1 => k_is)
    (case k1 => k_is)
    (case a2 => k_is)
    (case i2 => k_is)
    (case l2 => k_is)
    (case c2 => k_is)
    (case k2 => k_is)
    (case a3 => k_is)
    (case i3 => k_is)
    (case l3 => k_is)
    (case c3 => k_is)
    (case k3 => k_is)
    (case a4 => k_is)
    (case i4 => k_is)
    (case l4 => k_is)
    (case c4 => k_is)
    (case k4 => k_is)
    (case a5 => k_is)
    (case l5 => k_is)
    (case c5 => k_is)
    (case k5 => k_is)
    (case a6 => k_is)
    (case l6 => k_is)
    (case c6 => k_is)
    (case k6 => k_is)
    (case pg => k_is)
    (case hd => k_is)
    (case po => k_is)
    (case sa => k_is)
    (case mk => k_is)
    (case kc => k_is)
    (case no_many => k_is)
    (case no_pairs => k_is)
    (case no_ahead => k_is)
    (case no_behind => k_is)
    (case z_ValueError => k_is)
    (case z_isinstance => k_is)
    (case z_len => k_is)
    (case z_list => k_is)
    (case z_range => k_is)
    (case z_set => k_is)
    (case z_sorted => k_is)
    (case z_MOST_ROOMS => k_is)
    (case z_MOST_DOORS => k_is)
    (case k_PassError => k_is)
    (case b_PassError => k_is)
    (case t_PassError => k_is)
    (case k_NoNet => k_is)
    (case b_NoNet => k_is)
    (case t_NoNet => k_is)
    (case k_NoRoom => k_is)
    (case b_NoRoom => k_is)
    (case t_NoRoom => k_is)
    (case k_Unreached => k_is)
    (case b_Unreached => k_is)
    (case t_Unreached => k_is)
    (case xa_NoNet => k_is)
    (case xb_NoNet => k_is)
    (case xc_NoNet => k_is)
    (case xd_NoNet => k_is)
    (case xe_NoNet => k_is)
    (case xf_NoNet => k_is)
    (case xg_NoNet => k_is)
    (case xh_NoNet => k_is)
    (case xi_NoNet => k_is)
    (case xj_NoNet => k_is)
    (case xk_NoNet => k_is)
    (case xs_NoNet_NoNet => k_is)
    (case xt_NoNet_NoNet => k_is)
    (case xs_NoNet_NoRoom => k_is)
    (case xt_NoNet_NoRoom => k_is)
    (case xs_NoNet_Unreached => k_is)
    (case xt_NoNet_Unreached => k_is)
    (case x_PassError => k_exc)
    (case x_NoNet => k_exc)
    (case x_NoRoom => k_exc)
    (case x_Unreached => k_exc)



