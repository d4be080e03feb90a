import PyProof.Rows.All
import Wide.All
import OpenK.AllK
import Wide.FinOn
import HandS.ForMost
import HandS.ForExc
import HandS.Evl
import HandS.More
import HandS.Conv
import HandS.SetKeys
import HandS.Deep
import HandS.IsInst
import HandS.ExcIs
import HandS.Rev
import HandS.SortInts
import HandS.Walk
import HandS.Strs
import HandS.SetFor
import PyProof.ListRange
import PySem.Challenge.RW_mustpass_k10_whole_tame_or_a_wild_ring
set_option Elab.async false
set_option linter.all false
set_option maxRecDepth 100000
set_option maxHeartbeats 4000000
/-! set(xs), xs a list of whole numbers, as a call rule of the hand layer. -/
namespace MpSet
open PySem PySem.Spec PyProof.Rows L2
/-- the set object as it is laid, empty -/
abbrev empO (w : World) : Obj := { cls := .type "set", dict := none, data := .set #[] 0 (.fresh 0 0 (!w.params.followText "set-order")) }
abbrev withE (s : Shared) (w : World) : Shared := { s with heap := s.heap.push (empO w) }
section
variable {P : Program} {w : World} {A : Around} {E : Value → Shared → Prop} {s : Shared}
/-- what stands behind the filling -/
def Filled (w : World) (s : Shared) (ns : List Int) (s2 : Shared) : Prop :=
  ∃ (h2 : Heap) (t2 n2 : Nat), s2 = { s with heap := h2, toks := t2 } ∧ SetR w h2 s.heap.objs.size (fun j => decide (j ∈ ns)) n2 ∧ n2 ≤ ns.length ∧ ∀ b o, s.heap.get? b = some o → h2.get? b = some o
theorem set_of_list {l : Addr} {items : Array Value} (ns : List Int) {Q : Value → Shared → Prop} (hh : A.handled = none) (hl : s.heap.IsList l items) (hit : IntsAre items.toList ns) (hb : ns.length + 1 < scanBound)
    (h : ∀ s2, Filled w s ns s2 → Q (.ref s.heap.objs.size) s2) : wpAny (model P w) A (call (.type "set") [.ref l]) Q E s := by
  have hn : items.size = ns.length := (Array.length_toList (xs := items)).symm.trans (IntsAre.length hit)
  have k1 := F.called_set.notType
  have k2 := F.called_set.canCreate
  have k3 := F.typeCall_set_1 (.ref l)
  have k4 := F.called_set.made
  have k5 := F.called_set.sub
  obtain ⟨mc, ml, k6⟩ := F.called_set.mro
  refine wpAny_call (codeAny_of_tree (show wpAny _ _ (callAny (.type "set") _) _ _ _ from wpAny_pure ⟨Code.quiet_builtin _ (by decide +kernel), codeAny_builtin F.entry_type_call ?_⟩))
  rw [Around.under_plain (weight_type_call_type "set" [.ref l] []) rfl]
  repeat (any_goals (first | assumption | wp_step))
  refine codeAny_mono (code_set_led1 (.ref l) (E := E) (Q₁ := fun ob s1 => ob = .ref s.heap.objs.size ∧ s1 = withE s w) ⟨rfl, rfl⟩) fun r s1 hr => ?_
  cases r with
  | error e => exact hr
  | ok fl =>
    cases fl with
    | next => exact hr.elim
    | brk => exact hr.elim
    | cont => exact hr.elim
    | ret ob =>
      obtain ⟨rfl, rfl⟩ := hr
      have hS : (withE s w).heap.get? s.heap.objs.size = some (empO w) := Heap.get?_push_size _ rfl
      have hT : Shared.TypeIs (withE s w) (.ref s.heap.objs.size) "set" := ⟨_, hS, rfl⟩
      have k7 := F.called_set.init.lookup
      have k8 := F.called_set.init.bind (.ref s.heap.objs.size)
      repeat (any_goals (first | assumption | wp_step))
      refine codeAny_mono (codeAny_call_builtin (R := wants (fun r s2 => r = .none ∧ Filled w s ns s2) E) F.called_set.init.plain F.entry_set_init (check_set_init_1 hT ?_)) fun r2 s2 hr2 => ?_
      · obtain ⟨⟨oc, od, odt, osl⟩, hol, hcl, nl, hdl⟩ := hl
        dsimp only at hcl hdl
        subst hcl hdl
        have lS : l < s.heap.objs.size := Heap.lt_size hol
        have hol2 : (withE s w).heap.get? l = some { cls := .type "list", dict := od, data := .seq items nl, slots := osl } := Heap.get?_push_of_some _ hol
        have hl1 : (withE s w).heap.IsList l items := ⟨_, hol2, rfl, nl, rfl⟩
        have j1 := F.sub_list_set
        have j2 := F.sub_list_frozenset
        have j3 : (Value.type "list" == Value.type "dict") = false := by decide
        unfold Builtin.«set.__init__» noKeywords Builtin.Frozenset.updateFrom
        generalize hP : pyIter = PP
        wp_walk
        subst hP
        refine wpAny_pyIter_list hl1 (wpAny_bind (wpAny_runValue ?_))
        have g1 : A.in1.in1.in1.handled = none := by simp [hh]
        have g2 : (withE s w).heap.objs.size = s.heap.objs.size + 1 := Heap.size_push ..
        have g3 : l ≠ (withE s w).heap.objs.size := by rw [g2]; exact Nat.ne_of_lt (Nat.lt_succ_of_lt lS)
        have g4 : s.heap.objs.size ∉ [(withE s w).heap.objs.size, l] := fun hm => by
          rw [g2] at hm
          rcases List.mem_cons.mp hm with e | hm
          · exact Nat.ne_of_lt (Nat.lt_succ_self _) e
          · rcases List.mem_cons.mp hm with e | hm
            · exact Nat.ne_of_gt lS e
            · cases hm
        have g5 : ∀ (i : Nat) (v : Value), items[i]? = some v → ∃ k t, ns[i]? = some k ∧ v = .int k t := fun i v hv => by
          obtain ⟨t, e⟩ := PyProof.Rows.IntsAre.int_at hit i v ((Array.getElem?_toList (xs := items)).trans hv)
          have hi : i < ns.length := hn ▸ (Array.getElem?_eq_some_iff.mp hv).1
          exact ⟨ns[i], t, List.getElem?_eq_getElem hi, by rw [e, List.getD_eq_getElem?_getD, List.getElem?_eq_getElem hi]; rfl⟩
        refine set_update_ints ((Walks.list g1 _ l g3 items).toS) s.heap.objs.size g4 ns hn hb g5 (items.size - 0) 0 _ (by omega) (Nat.zero_le _) ⟨⟨_, Heap.get?_push_size _ rfl, rfl, rfl⟩, (hl1.push _)⟩ ⟨0, Nat.le_refl 0, setR_new_at (Heap.get?_push_of_some _ hS)⟩ ?_
        rintro ⟨h2, g2', d2, t2, o2⟩ n2 hm hle hS2
        obtain rfl : g2' = s.gens := hm.gens
        obtain rfl : d2 = s.drawn := hm.drawn
        obtain rfl : o2 = s.os := hm.os
        show wpAny _ _ _ _ _ _
        refine wpAny_pure (show wpAny _ _ (ret Value.none) _ _ _ from wpAny_pure ⟨rfl, h2, t2, n2, rfl, hS2, hn ▸ hle, fun b o e => ?_⟩)
        have b1 : b < s.heap.objs.size := Heap.lt_size e
        refine hm.heap b o (fun hmem => ?_) (Heap.get?_push_of_some _ (Heap.get?_push_of_some _ e))
        rcases List.mem_cons.mp hmem with z | hmem
        · exact Nat.ne_of_lt b1 z
        · rcases List.mem_cons.mp hmem with z | hmem
          · rw [g2] at z
            exact Nat.ne_of_lt (Nat.lt_succ_of_lt b1) z
          · cases hmem
      · cases r2 with
        | error e => exact hr2
        | ok fl2 =>
          cases fl2 with
          | ret r =>
            obtain ⟨rfl, hF⟩ := hr2
            have hF2 := hF
            obtain ⟨h2, t2, n2, rfl, hS2, hle, hk⟩ := hF
            repeat (any_goals (first | assumption | wp_step))
            exact h _ hF2
          | next => exact hr2.elim
          | brk => exact hr2.elim
          | cont => exact hr2.elim
end
end MpSet

/-! What the walks of all laws share: globals, promises of defs by name, rules of our own. -/
namespace Mp
open PySem L2 Evl
/-! ### sets -/
section
variable {X : Cx}
/-- no more different ints than the room they lie in -/
theorem nodup_le {l : List Int} {m : Nat} (hn : l.Nodup) (h : ∀ k ∈ l, 0 ≤ k ∧ k < (m : Int)) : l.length ≤ m := by
  have h1 : (l.map Int.toNat).Nodup := by
    refine List.pairwise_map.mpr (hn.imp_of_mem fun {a b} ha hb hab e => hab ?_)
    have := h a ha
    have := h b hb
    omega
  have h2 : (l.map Int.toNat) ⊆ List.range m := fun k hk => by
    obtain ⟨z, hz, rfl⟩ := List.mem_map.mp hk
    have := h z hz
    exact List.mem_range.mpr (by omega)
  have h3 := h1.length_le_of_subset h2
  rw [List.length_map, List.length_range] at h3
  exact h3
def rSetOf (K : PySem.W.Frag) (w : World) : List V → Hp → VK → Prop := fun xs H Q => ∃ (l : Addr) (ns : List Int), xs = [.ref l] ∧ SqL K H l (ns.map V.int) ∧ ns.length ≤ 1000 ∧
  ∀ (p : Addr) (c : Nat), H p = none → (∀ m : Nat, (∀ k ∈ ns, 0 ≤ k ∧ k < (m : Int)) → c ≤ m) → Q (.ref p) (upd H p (SetO w p (fun j => decide (j ∈ ns)) c))
theorem cr_setL (hc : X.calm = true) : CallR X (.type "set") (rSetOf X.K X.w) := by
  intro pins s σ H xs us Q I r h
  obtain ⟨l, ns, rfl, hs, hz, q⟩ := h
  cases r with
  | cons rx rr =>
    cases rr
    cases rx
    obtain ⟨its, rv, pl, _⟩ := I.list hs
    refine MpSet.set_of_list ns (I.ok.hd hc) pl.isList (by simpa using ints_of_vals rv) (by unfold scanBound; omega) fun s2 hF => ?_
    obtain ⟨h2, t2, n2, rfl, R, hle, hk⟩ := hF
    have hp : H s.heap.objs.size = none := I.hok.fresh (Nat.le_refl _)
    refine ⟨.ref s.heap.objs.size, _, I.laid (t' := t2) hk (Nat.le_refl _) (setO_new R), rfl, q _ n2 hp fun m hm => ?_⟩
    obtain ⟨o, es, ep, t, ho, hx, hd, g, nd, hmem, hb, hf, hn, _⟩ := R
    have e1 : n2 = (es.toList.map keyOf).length := by rw [List.length_map, Array.length_toList, hn]
    rw [e1]
    exact nodup_le nd fun k hk2 => hm k (of_decide_eq_true ((hmem k).mpr hk2))
end

/-! ### globals and defs by name -/
structure Gb where
  K : PySem.W.Frag
  w : World
  C : Addr
  cP : Addr
  cN : Addr
  cR : Addr
  cU : Addr
/-- the def of that name keeps the promise sp -/
structure FG (P : Program) (w : World) (K : PySem.W.Frag) (mg : Str → Option Value) (base : Heap) (CX : CXT) (k : Nat) (nm : Str) (ps : List Str) (sp : Sp) : Prop where
  ex : ∃ (f : Addr) (fd : FuncData), FnOk P w K mg base CX k f fd ps sp ∧ mg nm = some (.ref f) ∧ PySem.W.keepIn K (.ref f) = true ∧ Binds K fd ps []
/-- the method of that name of the class at C keeps the promise sp -/
structure MG (P : Program) (w : World) (K : PySem.W.Frag) (mg : Str → Option Value) (base : Heap) (CX : CXT) (k : Nat) (C : Addr) (nm : Str) (ps : List Str) (sp : Sp) : Prop where
  ex : ∃ (f : Addr) (fd : FuncData), FnOk P w K mg base CX k f fd ps sp ∧ Meth K C nm f ∧ Binds K fd ps []
/-- the class at C, its __init__ -/
structure NG (P : Program) (w : World) (K : PySem.W.Frag) (mg : Str → Option Value) (base : Heap) (CX : CXT) (k : Nat) (C : Addr) (nm : Str) (ps : List Str) (sp : Sp) : Prop where
  ex : ∃ (f : Addr) (fd : FuncData), FnOk P w K mg base CX k f fd ps sp ∧ Mk K C f ∧ mg nm = some (.ref C) ∧ Binds K fd ps []
/-- an own exception class over ValueError -/
structure XG (K : PySem.W.Frag) (mg : Str → Option Value) (nm : Str) (C : Addr) : Prop where
  g : mg nm = some (.ref C)
  x : PySem.W.excIn K C [.type "ValueError", .type "Exception", .type "BaseException", .type "object"] "ValueError.__new__" = true
  k : PySem.W.keepIn K (.ref C) = true
  b : PySem.W.subIn K (.ref C) (.type "BaseException") = some true
  t : PySem.W.typeIn K (.ref C) = some (.type "type")
/-- a def of the text as the top has made it; a method; an __init__ -/
structure FD (K : PySem.W.Frag) (mg : Str → Option Value) (nm : Str) (st : Stmt) : Prop where
  ex : ∃ (f : Addr) (fd : FuncData), Fun K nm nm st f fd ∧ mg nm = some (.ref f)
structure MD (K : PySem.W.Frag) (C : Addr) (nm qual : Str) (st : Stmt) : Prop where
  ex : ∃ (f : Addr) (fd : FuncData), Fun K nm qual st f fd ∧ Meth K C nm f
structure ND (K : PySem.W.Frag) (mg : Str → Option Value) (C : Addr) (nm qual : Str) (st : Stmt) : Prop where
  ex : ∃ (f : Addr) (fd : FuncData), Fun K "__init__" qual st f fd ∧ Mk K C f ∧ mg nm = some (.ref C)
section
variable {X : Cx} {CX : CXT} {k j : Nat} {nm m : Str} {ps : List Str} {sp : Sp} {E : XK} {C : Addr} {e o : Expr} {es : List Expr} {t : TA} {ta : TE} {p pos apos : Pos}
theorem pe_cl (F : FG X.prog X.w X.K X.mg X.base CX k nm ps sp) (hr : Room j X.A) (hg : Gl X nm) (hx : Passes CX X E) (ha : PA X (e :: es) t) (hkj : k ≤ j := by decide) (hdb : (nm == ("__debug__" : Str)) = false := by decide)
    (he : starEach (e :: es) X.env = (false, eval e X.env) :: starEach es X.env := by rfl) (hpl : (backTo pos (starEach es X.env)).any (·.1) = false := by rfl) : PE X (.Call (.Name nm p) (e :: es) [] pos) (tCall sp [] E t) := by
  obtain ⟨f, fd, G, hm, kp, b⟩ := F.ex
  exact pe_call G (hr.mono hkj) hg hm kp b .nil hx ha hdb he hpl
theorem pe_mt {pl : Sem Bool} (F : MG X.prog X.w X.K X.mg X.base CX k C m ps sp) (c : Cls X.K C) (hr : Room j X.A) (hx : Passes CX X E) (ho : PE X o ta) (ha : PA X (e :: es) t) (hkj : k ≤ j := by decide)
    (hst : starEach (e :: es) X.env = (false, eval e X.env) :: starEach es X.env := by rfl) (hpl : (backTo pos (starEach es X.env)).any (·.1) = false := by rfl)
    (ht : eval (.Call (.Attribute o m apos) (e :: es) [] pos) X.env = (do
      let ov ← eval o X.env
      standAt apos.atName
      let (f, first) ← holding [ov] (getMethod ov m pl)
      callWith pos f first (backTo pos (starEach (e :: es) X.env)) (backToKw pos (keywordEach [] X.env))) := by rfl) :
    PE X (.Call (.Attribute o m apos) (e :: es) [] pos) (tMeth C m sp [] E ta t) := by
  obtain ⟨f, fd, G, hm, b⟩ := F.ex
  exact pe_meth ho c hm G (hr.mono hkj) b .nil hx ha hst hpl ht
theorem pe_mt0 {pl : Sem Bool} (F : MG X.prog X.w X.K X.mg X.base CX k C m ps sp) (c : Cls X.K C) (hr : Room j X.A) (hx : Passes CX X E) (ho : PE X o ta) (hkj : k ≤ j := by decide)
    (ht : eval (.Call (.Attribute o m apos) [] [] pos) X.env = (do
      let ov ← eval o X.env
      standAt apos.atName
      let (f, first) ← holding [ov] (getMethod ov m pl)
      callWith pos f first (backTo pos (starEach [] X.env)) (backToKw pos (keywordEach [] X.env))) := by rfl) :
    PE X (.Call (.Attribute o m apos) [] [] pos) (tMeth C m sp [] E ta tNil) := by
  obtain ⟨f, fd, G, hm, b⟩ := F.ex
  exact pe_meth0 ho c hm G (hr.mono hkj) b .nil hx ht
theorem pe_mk (F : NG X.prog X.w X.K X.mg X.base CX k C nm ps sp) (hr : Room j X.A) (hg : Gl X nm) (hx : Passes CX X E) (ha : PA X (e :: es) t) (hkj : k + 1 ≤ j := by decide) (hdb : (nm == ("__debug__" : Str)) = false := by decide)
    (he : starEach (e :: es) X.env = (false, eval e X.env) :: starEach es X.env := by rfl) (hpl : (backTo pos (starEach es X.env)).any (·.1) = false := by rfl) : PE X (.Call (.Name nm p) (e :: es) [] pos) (tMake C sp [] E t) := by
  obtain ⟨f, fd, G, M, hm, b⟩ := F.ex
  exact pe_make M G (hr.mono hkj) hg hm b .nil hx ha hdb he hpl
theorem pe_gint {x : Str} {i : Int} (hg : Gl X x) (h : ∃ t, X.mg x = some (.int i t)) (hdb : (x == ("__debug__" : Str)) = false := by decide) : PE X (.Name x pos) (tC (.int i)) := by
  obtain ⟨tk, h⟩ := h
  exact pe_glob hg h ⟨tk, rfl⟩ hdb
theorem room65 {A : Around} (hr : Room k A) : A.units + 65 < cLine := by
  have := hr.un
  omega
/-- raise X('..') -/
def tRs (W : WX) (C : Addr) : TS := fun _ σ H => W (.ref C) none σ H
theorem ps_rs {W : WX} {x s : Str} {jj : Nat} {p2 p3 : Pos} (G : XG X.K X.mg x C) (hc : X.calm = true) (tk : Takes X W) (hg : Gl X x) (hdb : (x == ("__debug__" : Str)) = false := by decide) :
    PS X (.Raise (some (.Call (.Name x p) [.Constant (.str s) jj p2] [] p3)) none pos) (tRs W C) :=
  ps_raise hc tk (pmk_own PySem.F.excBase_ValueError G.x G.g G.k (raises_own G.b G.t) hg hdb)
end

/-! ### the relations by name -/
abbrev rAddI : R2 := rI0 fun i j => .int (i + j)
abbrev rSubI : R2 := rI0 fun i j => .int (i - j)
abbrev rModI : R2 := rI (fun _ j => 0 < j) fun i j => .int (i % j)
abbrev rDivI : R2 := rI CDiv fun i j => .int (i / j)
abbrev rPowI : R2 := rI CPow fun i j => .int (i ^ j.toNat)
abbrev rMulI : R2 := rI CMul fun i j => .int (i * j)
abbrev rNeg : V → Hp → VK → Prop := rU fun i => .int (-i)
abbrev rLtI : R2 := rI0 fun i j => .bl (decide (i < j))
abbrev rLeI : R2 := rI0 fun i j => .bl (decide (i ≤ j))
abbrev rGtI : R2 := rI0 fun i j => .bl (decide (j < i))
abbrev rGeI : R2 := rI0 fun i j => .bl (decide (j ≤ i))
def rIsN : R2 := fun x y H Q => y = .non ∧ Q (.bl (decide (x = .non))) H
def rNotN : R2 := fun x y H Q => y = .non ∧ Q (.bl (!decide (x = .non))) H
def rInsert : V → List V → Hp → VK → Prop := fun x vs H Q => ∃ (l : Addr) (xs : List V) (i : Int) (y : V), x = .ref l ∧ vs = [.int i, y] ∧ H l = some (.lst xs) ∧ xs.length < sizeLine ∧ 0 ≤ i ∧ i < 2 ^ 63 ∧
    Q .non (upd H l (.lst (xs.take i.toNat ++ [y] ++ xs.drop i.toNat)))

/-! ### what evaluates, further -/
section
variable {K : PySem.W.Frag} {σ : L2.St} {H H' : Hp} {ta tb tc te : TE} {t u : TT} {x y z v : V}
theorem et_ch {f f' : Int → Int → Bool} {a b c : Int} (ha : Ev ta σ H (.int a)) (hb : Ev tb σ H (.int b)) (hc : Ev tc σ H (.int c)) :
    EvT (tTest (tChain (rI0 fun i j => .bl (f i j)) (rI0 fun i j => .bl (f' i j)) ta tb tc)) σ H (f a b && f' b c) := fun H1 e Q q =>
  ha H1 e _ fun H2 e2 => hb H2 (e.trans e2) _ fun H3 e3 => ⟨a, b, rfl, rfl, f a b, rfl, by
    cases hf : f a b with
    | true =>
      refine iteT (hc H3 ((e.trans e2).trans e3) _ fun H4 e4 => ⟨b, c, rfl, rfl, f' b c, rfl, ?_⟩)
      rw [hf, Bool.true_and] at q
      exact q H4 ((e2.trans e3).trans e4)
    | false =>
      refine iteF ⟨false, rfl, ?_⟩
      rw [hf, Bool.false_and] at q
      exact q H3 (e2.trans e3)⟩
/-- a value that stands for something, in the heap that comes -/
def EvP (te : TE) (σ : L2.St) (H : Hp) (P : Hp → V → Hp → Prop) : Prop := ∀ H1, Ex H H1 → ∀ Q : VK, (∀ v H2, Ex H1 H2 → P H1 v H2 → Q v H2) → te σ H1 Q
theorem EvP.mono {P : Hp → V → Hp → Prop} (e : Ex H H') (h : EvP te σ H P) : EvP te σ H' P := fun H1 a Q q => h H1 (e.trans a) Q q
theorem a_asgP {i : Nat} {D : Ends} {tz : TS} {P : Hp → V → Hp → Prop} (h : EvP te σ H P) (k : ∀ v H1, Ex H H1 → P H v H1 → tz D (σ.set i (some v)) H1) : tSeq (tAsg te (gName i)) tz D σ H :=
  h H (Ex.refl H) _ fun v H1 e q => k v H1 e q
theorem q_callX {i : Nat} {D : Ends} {tz : TS} {sp : Sp} {vs : List V} {E : XK} {ts : TA} (h : EvA ts σ H vs) (k : ∀ H1, Ex H H1 → sp (vs ++ []) H1 (fun v H2 => tz D (σ.set i (some v)) H2) E) : tSeq (tAsg (tCall sp [] E ts) (gName i)) tz D σ H :=
  h H (Ex.refl H) _ k
theorem q_dropX {D : Ends} {tz : TS} {sp : Sp} {vs : List V} {E : XK} {ts : TA} (h : EvA ts σ H vs) (k : ∀ H1, Ex H H1 → sp (vs ++ []) H1 (fun _ H2 => tz D σ H2) E) : tSeq (tDrop (tCall sp [] E ts)) tz D σ H :=
  h H (Ex.refl H) _ k
theorem s_retX {D : Ends} {sp : Sp} {vs : List V} {E : XK} {ts : TA} (h : EvA ts σ H vs) (k : ∀ H1, Ex H H1 → sp (vs ++ []) H1 D.rt E) : tRet (tCall sp [] E ts) D σ H :=
  h H (Ex.refl H) _ k
theorem q_mkX {i : Nat} {D : Ends} {tz : TS} {sp : Sp} {C : Addr} {vs : List V} {E : XK} {ts : TA} (h : EvA ts σ H vs)
    (k : ∀ H1, Ex H H1 → ∀ x dx, H1 x = none → H1 dx = none → dx ≠ x → sp (.ref x :: (vs ++ [])) (upd (upd H1 dx (.own x)) x (.ins C dx [])) (fun v H2 => v = .non ∧ tz D (σ.set i (some (.ref x))) H2) E) : tSeq (tAsg (tMake C sp [] E ts) (gName i)) tz D σ H :=
  h H (Ex.refl H) _ k
theorem ev_call1 {sp : Sp} {vs : List V} {E : XK} {ts : TA} (h : EvA ts σ H vs) (hs : ∀ H1, Ex H H1 → ∀ Q : VK, RetV z H1 Q → sp (vs ++ []) H1 Q E) : Ev (tCall sp [] E ts) σ H z := fun H1 e Q q =>
  h H1 e _ fun H2 e2 => hs H2 (e.trans e2) Q fun H3 e3 => q H3 (e2.trans e3)
theorem el_call1 {sp : Sp} {vs xs : List V} {E : XK} {ts : TA} (h : EvA ts σ H vs) (hs : ∀ H1, Ex H H1 → ∀ Q : VK, RetL xs H1 Q → sp (vs ++ []) H1 Q E) : EvL (tCall sp [] E ts) σ H xs := fun H1 e Q q =>
  h H1 e _ fun H2 e2 => hs H2 (e.trans e2) Q fun p H3 hp e3 h3 => q p H3 (fresh_back e2 hp) (e2.trans e3) h3
end

/-! ### heaps with an object forgotten -/
def del (H : Hp) (p : Addr) : Hp := fun a => if a = p then none else H a
theorem del_self {H : Hp} {p : Addr} : del H p p = none := by unfold del; rw [if_pos rfl]
theorem del_ne {H : Hp} {p a : Addr} (h : a ≠ p) : del H p a = H a := by unfold del; rw [if_neg h]
theorem del_of {H : Hp} {p a : Addr} {o : HO} (h : del H p a = some o) : a ≠ p ∧ H a = some o := by
  unfold del at h
  split at h
  · cases h
  · exact ⟨‹_›, h⟩
theorem ex_del {H : Hp} {p : Addr} : Ex (del H p) H := fun _ _ h => (del_of h).2
theorem ex_delU {H H1 : Hp} {p : Addr} {o : HO} (e : Ex (del H p) H1) : Ex (del H p) (upd H1 p o) := fun a u h => by
  rw [upd_ne (del_of h).1]
  exact e a u h
/-- an object that B does not know may change -/
theorem exU {B H1 : Hp} {p : Addr} {o : HO} (e : Ex B H1) (h : B p = none) : Ex B (upd H1 p o) := Ex.mut e h
/-! ### what is walked, in order -/
def EvI {α : Type} (wi : TI) (σ : L2.St) (H : Hp) (l : List α) (R : α → V → Prop) : Prop := ∀ H1, Ex H H1 → ∀ Rk : It → Hp → Prop,
  (∀ J G H2, Ex H1 H2 → (∀ H3, Ex H2 H3 → G H3) → Walk J l.length G (fun i Ha x Hb => Hb = Ha ∧ ∃ a, l[i]? = some a ∧ R a x) → Rk J H2) → wi σ H1 Rk
section
variable {α : Type} {K : PySem.W.Frag} {σ : L2.St} {H H' : Hp} {tl te : TE} {t : TT} {l : List α} {R : α → V → Prop} {xs : List V} {a : Addr} {wi : TI} {j : Nat} {vs : List Nat}
theorem paired_len {β γ : Type} {F : β → γ → Prop} : ∀ {l : List β} {m : List γ}, Paired F l m → l.length = m.length
  | _, _, .nil => rfl
  | _, _, .cons _ t => congrArg (· + 1) (paired_len t)
theorem paired_at {β γ : Type} {F : β → γ → Prop} : ∀ {l : List β} {m : List γ} {i : Nat} {x : β}, Paired F l m → l[i]? = some x → ∃ y, m[i]? = some y ∧ F x y
  | _, _, _, _, .nil, e => by simp at e
  | _, _, 0, _, .cons r _, e => by simp at e; subst e; exact ⟨_, rfl, r⟩
  | _, _, i + 1, x, .cons _ t, e => by
    obtain ⟨y, h1, h2⟩ := paired_at (i := i) (x := x) t (by simpa using e)
    exact ⟨y, by simpa using h1, h2⟩
theorem paired_map {β γ : Type} {F : γ → β → Prop} {f : β → γ} (h : ∀ b, F (f b) b) : ∀ l : List β, Paired F (l.map f) l
  | [] => .nil
  | b :: r => .cons (h b) (paired_map h r)
theorem ei_walk (hp : Paired (fun x a => R a x) xs l) : Walk (Itl K a) l.length (fun H => SqL K H a xs) (fun i Ha x Hb => Hb = Ha ∧ ∃ a, l[i]? = some a ∧ R a x) := by
  rw [← paired_len hp]
  exact walk_list.mono (fun _ h => h) fun i H1 x H2 _ _ y => ⟨y.1, paired_at hp y.2⟩
theorem ei_list (h : Ev tl σ H (.ref a)) (hx : SqL K H a xs) (hp : Paired (fun x a => R a x) xs l) : EvI (iList K tl) σ H l R := fun H1 e Rk k =>
  h H1 e _ fun H2 e2 => ⟨a, rfl, ⟨xs, ex_l (e.trans e2) hx⟩, k _ _ H2 e2 (fun H3 e3 => ex_l ((e.trans e2).trans e3) hx) (ei_walk hp)⟩
theorem ei_listN (h : EvL tl σ H xs) (hp : Paired (fun x a => R a x) xs l) : EvI (iList K tl) σ H l R := fun H1 e Rk k =>
  h H1 e _ fun a H2 ha e2 hx => ⟨a, rfl, ⟨xs, sq_of hx⟩, k _ _ H2 e2 (fun H3 e3 => sq_of (e3 _ _ hx)) (ei_walk hp)⟩
theorem ei_range {ta : TA} {n : Nat} (h : EvA ta σ H [.int (n : Int)]) (hn : n ≤ 40000) : EvI (iRng1 ta) σ H (List.range n) (fun (k : Nat) x => x = .int (k : Int)) := fun H1 e Rk k =>
  h H1 e _ fun H2 e2 => ⟨n, rfl, by omega, by omega, k _ (fun _ => True) H2 e2 (fun _ _ => trivial) (by
    rw [List.length_range, Int.toNat_natCast]
    exact walk_range.mono (fun _ h => h) fun i Ha x Hb hi _ y => ⟨y.1, i, List.getElem?_range hi, by rw [y.2]; exact congrArg V.int (Int.zero_add _)⟩)⟩
theorem filter_take (pr : α → Bool) {i : Nat} {x : α} (h : l[i]? = some x) : (l.take (i + 1)).filter pr = if pr x = true then (l.take i).filter pr ++ [x] else (l.take i).filter pr := by
  rw [List.take_add_one, h, List.filter_append]
  cases hp : pr x <;> simp [hp]
/-- a comprehension: those of l for which pr holds, each by f -/
theorem el_lc (pr : α → Bool) (f : α → V) (hi : EvI wi σ H l R) (hz : l.length ≤ 40000) (hw : ∀ x, wipe ((wipe σ vs).set j (some x)) vs = wipe σ vs)
    (ht : ∀ a x H1, a ∈ l → R a x → Ex H H1 → EvT t ((wipe σ vs).set j (some x)) H1 (pr a)) (he : ∀ a x H1, a ∈ l → R a x → Ex H H1 → pr a = true → Ev te ((wipe σ vs).set j (some x)) H1 (f a)) :
    EvL (tLc wi (gName j) t te vs) σ H ((l.filter pr).map f) := fun H0 e Q q => hi H0 e _ fun J G H1 e1 hG w Dl hD =>
  lc_it w (fun i H' => Ex H1 H' ∧ H' Dl = some (.lst (((l.take i).filter pr).map f))) ⟨Ex.new hD, upd_same⟩ (fun i H' _ p => hG H' p.1) (fun i x Ha Hb hil p y => by
    obtain ⟨rfl, a, hl, hr⟩ := y
    have hm : a ∈ l := List.mem_of_getElem? hl
    refine ⟨hw x, ht a x Hb hm hr ((e.trans e1).trans p.1) Hb (Ex.refl _) _ fun H3 e3 => ?_⟩
    have hft := filter_take pr hl
    cases hp : pr a with
    | true =>
      refine iteT (he a x H3 hm hr (((e.trans e1).trans p.1).trans e3) hp H3 (Ex.refl _) _ fun H4 e4 => ⟨_, e4 _ _ (e3 _ _ p.2), ?_, ?_, ?_⟩)
      · refine sz_lt ?_
        have h1 := List.length_filter_le pr (l.take i)
        rw [List.length_map]
        rw [List.length_take] at h1
        omega
      · exact exU ((p.1.trans e3).trans e4) hD
      · rw [upd_same, hft, hp, if_pos rfl, List.map_append]
        rfl
    | false =>
      refine iteF ⟨p.1.trans e3, ?_⟩
      rw [hft, hp, if_neg (by decide)]
      exact e3 _ _ p.2) (fun H' p => q Dl H' (fresh_back e1 hD) (e1.trans p.1) (by rw [p.2, List.take_length]))
/-- a comprehension whose items are new lists -/
theorem ep_lcL (pr : α → Bool) (f : α → List V) (hi : EvI wi σ H l R) (hz : l.length ≤ 40000) (hw : ∀ x, wipe ((wipe σ vs).set j (some x)) vs = wipe σ vs)
    (ht : ∀ a x H1, a ∈ l → R a x → Ex H H1 → EvT t ((wipe σ vs).set j (some x)) H1 (pr a)) (he : ∀ a x H1, a ∈ l → R a x → Ex H H1 → pr a = true → EvL te ((wipe σ vs).set j (some x)) H1 (f a)) :
    EvP (tLc wi (gName j) t te vs) σ H (fun H1 v H2 => ∃ (p : Addr) (as : List Addr), v = .ref p ∧ H1 p = none ∧ H2 p = some (.lst (as.map V.ref)) ∧ Paired (fun a r => H1 a = none ∧ a ≠ p ∧ H2 a = some (.lst r)) as ((l.filter pr).map f)) := fun H0 e Q q => hi H0 e _ fun J G H1 e1 hG w Dl hD =>
  lc_it w (fun i H' => Ex H1 H' ∧ ∃ as : List Addr, H' Dl = some (.lst (as.map V.ref)) ∧ as.length ≤ i ∧ Paired (fun a r => H1 a = none ∧ a ≠ Dl ∧ H' a = some (.lst r)) as (((l.take i).filter pr).map f)) ⟨Ex.new hD, [], upd_same, Nat.le_refl _, .nil⟩ (fun i H' _ p => hG H' p.1) (fun i x Ha Hb hil p y => by
    obtain ⟨rfl, a, hl, hr⟩ := y
    obtain ⟨p1, as, p2, p3, p4⟩ := p
    have hm : a ∈ l := List.mem_of_getElem? hl
    refine ⟨hw x, ht a x Hb hm hr ((e.trans e1).trans p1) Hb (Ex.refl _) _ fun H3 e3 => ?_⟩
    have hft := filter_take pr hl
    cases hp : pr a with
    | true =>
      refine iteT (he a x H3 hm hr (((e.trans e1).trans p1).trans e3) hp H3 (Ex.refl _) _ fun b H4 hb e4 hb4 => ⟨_, e4 _ _ (e3 _ _ p2), ?_, ?_, as ++ [b], ?_, ?_, ?_⟩)
      · rw [List.length_map]
        exact sz_lt (by omega)
      · exact exU ((p1.trans e3).trans e4) hD
      · rw [upd_same, List.map_append]
        rfl
      · rw [List.length_append, List.length_singleton]
        omega
      · rw [hft, hp, if_pos rfl, List.map_append]
        have hbD : b ≠ Dl := fun z => by
          rw [z, e3 _ _ p2] at hb
          cases hb
        have h5 : ∀ c r, (H1 c = none ∧ c ≠ Dl ∧ Hb c = some (.lst r)) → (H1 c = none ∧ c ≠ Dl ∧ (upd H4 Dl (.lst (as.map V.ref ++ [V.ref b]))) c = some (.lst r)) := fun c r h => ⟨h.1, h.2.1, by rw [upd_ne h.2.1]; exact e4 _ _ (e3 _ _ h.2.2)⟩
        have h6 : ∀ {m : List Addr} {k : List (List V)}, Paired (fun c r => H1 c = none ∧ c ≠ Dl ∧ Hb c = some (.lst r)) m k → Paired (fun c r => H1 c = none ∧ c ≠ Dl ∧ (upd H4 Dl (.lst (as.map V.ref ++ [V.ref b]))) c = some (.lst r)) (m ++ [b]) (k ++ [f a]) := by
          intro m k h
          induction h with
          | nil => exact .cons ⟨fresh_back (p1.trans e3) hb, hbD, by rw [upd_ne hbD]; exact hb4⟩ .nil
          | cons r _ ih => exact .cons (h5 _ _ r) ih
        exact h6 p4
    | false =>
      refine iteF ⟨p1.trans e3, as, e3 _ _ p2, by omega, ?_⟩
      rw [hft, hp, if_neg (by decide)]
      exact Paired.mapP p4 fun c r h => ⟨h.1, h.2.1, e3 _ _ h.2.2⟩) (fun H' p => by
        obtain ⟨p1, as, p2, p3, p4⟩ := p
        rw [List.take_length] at p4
        exact q _ H' (e1.trans p1) ⟨Dl, as, rfl, fresh_back e1 hD, p2, Paired.mapP p4 fun c r h => ⟨fresh_back e1 h.1, h.2⟩⟩)
theorem et_yes : EvT tYes σ H true := fun H1 _ _ q => q H1 (Ex.refl H1)
theorem EvL.p {xs : List V} (h : EvL te σ H xs) : EvP te σ H (fun H1 v H2 => ∃ p, v = .ref p ∧ H1 p = none ∧ H2 p = some (.lst xs)) := fun H1 e Q q => h H1 e _ fun p H2 hp e2 h2 => q _ H2 e2 ⟨p, rfl, hp, h2⟩
theorem Ev.p {v : V} (h : Ev te σ H v) : EvP te σ H (fun _ v' _ => v' = v) := fun H1 e Q q => h H1 e _ fun H2 e2 => q _ H2 e2 rfl
end
/-! ### sorted(set(..)) -/
theorem rise_same : ∀ {a b : List Int}, a.Pairwise (· < ·) → b.Pairwise (· < ·) → (∀ k, k ∈ a ↔ k ∈ b) → a = b
  | [], [], _, _, _ => rfl
  | [], y :: b, _, _, h => absurd ((h y).mpr List.mem_cons_self) (by simp)
  | x :: a, [], _, _, h => absurd ((h x).mp List.mem_cons_self) (by simp)
  | x :: a, y :: b, ha, hb, h => by
    have ha1 := List.pairwise_cons.mp ha
    have hb1 := List.pairwise_cons.mp hb
    have e : x = y := by
      have h1 := (h x).mp List.mem_cons_self
      have h2 := (h y).mpr List.mem_cons_self
      rcases List.mem_cons.mp h1 with e | h1
      · exact e
      · rcases List.mem_cons.mp h2 with e | h2
        · exact e.symm
        · have := hb1.1 x h1
          have := ha1.1 y h2
          omega
    subst e
    rw [rise_same ha1.2 hb1.2 fun k => ?_]
    constructor
    · intro hk
      rcases List.mem_cons.mp ((h k).mp (List.mem_cons_of_mem _ hk)) with e | h1
      · have := ha1.1 k hk
        omega
      · exact h1
    · intro hk
      rcases List.mem_cons.mp ((h k).mpr (List.mem_cons_of_mem _ hk)) with e | h1
      · have := hb1.1 k hk
        omega
      · exact h1
/-- the rooms below m among ns, rising -/
def rising (m : Nat) (ns : List Int) : List Nat := (List.range m).filter fun (j : Nat) => decide ((j : Int) ∈ ns)
theorem rising_eq {m : Nat} {ns a : List Int} (ha : a.Pairwise (· < ·)) (hm : ∀ k : Int, k ∈ a ↔ k ∈ ns) (hb : ∀ k ∈ ns, 0 ≤ k ∧ k < (m : Int)) : a = (rising m ns).map (fun (k : Nat) => (k : Int)) := by
  refine rise_same ha ?_ fun k => ?_
  · refine List.pairwise_map.mpr (List.Pairwise.imp (fun {x y} h => ?_) ((List.pairwise_lt_range (n := m)).filter _))
    show (x : Int) < (y : Int)
    omega
  · rw [hm]
    constructor
    · intro hk
      have := hb k hk
      refine List.mem_map.mpr ⟨k.toNat, List.mem_filter.mpr ⟨List.mem_range.mpr (by omega), ?_⟩, by omega⟩
      rw [Int.toNat_of_nonneg (by omega)]
      exact decide_eq_true hk
    · intro hk
      obtain ⟨j, hj, rfl⟩ := List.mem_map.mp hk
      exact of_decide_eq_true (List.mem_filter.mp hj).2
theorem el_sset {K : PySem.W.Frag} {w : World} {σ : L2.St} {H : Hp} {te : TE} {ns : List Int} {m : Nat} (h : EvL te σ H (ns.map V.int)) (hl : ns.length ≤ 1000) (hm : m ≤ 63) (hb : ∀ k ∈ ns, 0 ≤ k ∧ k < (m : Int)) :
    EvL (tCB (rSortedSet w) (tCons (tCB (rSetOf K w) (tCons te tNil)) tNil)) σ H ((rising m ns).map fun (k : Nat) => V.int (k : Int)) := fun H1 e Q q =>
  h H1 e _ fun a H2 ha e2 h2 => ⟨a, ns, rfl, sq_of h2, hl, fun p c hp hc => ⟨p, _, c, rfl, upd_same, by have := hc m hb; omega, fun ns' r hs hk _ hr => by
    have e1 : ns' = _ := rising_eq hs (fun k => (hk k).trans ⟨fun z => of_decide_eq_true z, fun z => decide_eq_true z⟩) hb
    subst e1
    have hrp : H2 r = none := fresh_back (Ex.new hp) hr
    refine q r _ (fresh_back e2 hrp) ((e2.trans (Ex.new hp)).trans (Ex.new hr)) ?_
    rw [upd_same, List.map_map]
    rfl⟩⟩
/-! ### rows as they stand -/
section
variable {K : PySem.W.Frag} {σ : L2.St} {H H' : Hp} {ta tb tc te : TE} {D : Ends} {tz : TS} {P1 P2 : Hp → V → Hp → Prop}
theorem s_asgP {i : Nat} (h : EvP te σ H P1) (k : ∀ v H1, Ex H H1 → P1 H v H1 → D.nx (σ.set i (some v)) H1) : tAsg te (gName i) D σ H := h H (Ex.refl H) _ k
theorem q_raw {i : Nat} (h : te σ H fun v H1 => tz D (σ.set i (some v)) H1) : tSeq (tAsg te (gName i)) tz D σ H := h
theorem s_retOpX {sp : Sp} {vs : List V} {E : XK} {ts : TA} {r : R2} (h : EvA ts σ H vs) (k : ∀ H1, Ex H H1 → sp (vs ++ []) H1 (fun v H2 => tb σ H2 fun y H3 => r v y H3 D.rt) E) : tRet (tOp r (tCall sp [] E ts) tb) D σ H :=
  h H (Ex.refl H) _ k
theorem ep_tup2 (h1 : EvP ta σ H P1) (h2 : EvP tb σ H P2) : EvP (tTup (tCons ta (tCons tb tNil))) σ H (fun H1 v H4 => ∃ q v1 v2 H2 H3, v = .ref q ∧ H1 q = none ∧ P1 H1 v1 H2 ∧ P2 H2 v2 H3 ∧ Ex H1 H2 ∧ Ex H2 H3 ∧ H3 q = none ∧ H4 = upd H3 q (.tup [v1, v2])) := fun H1 e Q k =>
  h1 H1 e _ fun v1 H2 e2 p1 => h2 H2 (e.trans e2) _ fun v2 H3 e3 p2 => ⟨by show 2 ≤ sizeLine; decide, fun q hq => k _ _ ((e2.trans e3).trans (Ex.new hq)) ⟨q, v1, v2, H2, H3, rfl, fresh_back (e2.trans e3) hq, p1, p2, e2, e3, hq, rfl⟩⟩
theorem EvU.p {xs : List V} (h : EvU te σ H xs) : EvP te σ H (fun H1 v H2 => ∃ p, v = .ref p ∧ H1 p = none ∧ H2 p = some (.tup xs)) := fun H1 e Q q => h H1 e _ fun p H2 hp e2 h2 => q _ H2 e2 ⟨p, rfl, hp, h2⟩
/-- a list of one, of two new tuples -/
theorem ep_lst1 (h1 : EvP ta σ H P1) : EvP (tLst (tCons ta tNil)) σ H (fun H1 v H3 => ∃ q v1 H2, v = .ref q ∧ H1 q = none ∧ P1 H1 v1 H2 ∧ Ex H1 H2 ∧ H2 q = none ∧ H3 = upd H2 q (.lst [v1])) := fun H1 e Q k =>
  h1 H1 e _ fun v1 H2 e2 p1 => ⟨by show 1 ≤ sizeLine; decide, fun q hq => k _ _ (e2.trans (Ex.new hq)) ⟨q, v1, H2, rfl, fresh_back e2 hq, p1, e2, hq, rfl⟩⟩
theorem ep_lst2 (h1 : EvP ta σ H P1) (h2 : EvP tb σ H P2) : EvP (tLst (tCons ta (tCons tb tNil))) σ H (fun H1 v H4 => ∃ q v1 v2 H2 H3, v = .ref q ∧ H1 q = none ∧ P1 H1 v1 H2 ∧ P2 H2 v2 H3 ∧ Ex H1 H2 ∧ Ex H2 H3 ∧ H3 q = none ∧ H4 = upd H3 q (.lst [v1, v2])) := fun H1 e Q k =>
  h1 H1 e _ fun v1 H2 e2 p1 => h2 H2 (e.trans e2) _ fun v2 H3 e3 p2 => ⟨by show 2 ≤ sizeLine; decide, fun q hq => k _ _ ((e2.trans e3).trans (Ex.new hq)) ⟨q, v1, v2, H2, H3, rfl, fresh_back (e2.trans e3) hq, p1, p2, e2, e3, hq, rfl⟩⟩
theorem ep_op {r : R2} {P : Hp → V → Hp → Prop} (ha : EvP ta σ H P1) (hb : ∀ H1, Ex H H1 → EvP tb σ H1 P2) (hr : ∀ Ha v Hb w Hc, Ex H Ha → Ex Ha Hb → P1 Ha v Hb → Ex Hb Hc → P2 Hb w Hc → ∀ Q : VK, (∀ z Hd, Ex Hc Hd → P Ha z Hd → Q z Hd) → r v w Hc Q) : EvP (tOp r ta tb) σ H P := fun H1 e Q q =>
  ha H1 e _ fun v H2 e2 p1 => hb H2 (e.trans e2) H2 (Ex.refl _) _ fun w H3 e3 p2 => hr H1 v H2 w H3 e e2 p1 e3 p2 Q fun z H4 e4 p => q z H4 ((e2.trans e3).trans e4) p
end
end Mp

/-! Nets: the plain data, how it stands in a heap, promises of the class's methods. -/
namespace Mp
open PySem L2 Evl
structure Nt where
  n : Nat
  ds : List (Nat × Nat)
structure Nt.Ok (N : Nt) : Prop where
  pos : 1 ≤ N.n
  most : N.n ≤ 40
  few : N.ds.length ≤ 100
  ends : ∀ d ∈ N.ds, d.1 < N.n ∧ d.2 < N.n
def Nt.ahead (N : Nt) (r : Nat) : List Nat := (List.range N.n).filter fun j => decide ((r, j) ∈ N.ds)
def Nt.behind (N : Nt) (r : Nat) : List Nat := (List.range N.n).filter fun j => decide ((j, r) ∈ N.ds)
abbrev nv (k : Nat) : V := .int (k : Int)
abbrev nvs (l : List Nat) : List V := l.map nv
abbrev zp (d : Nat × Nat) : Int × Int := ((d.1 : Int), (d.2 : Int))
/-- a list of pairs of whole numbers -/
def PairsAt (H : Hp) (as : List Addr) (ds : List (Int × Int)) : Prop := Paired (fun a (d : Int × Int) => H a = some (.tup [.int d.1, .int d.2])) as ds
def PL (K : PySem.W.Frag) (H : Hp) (p : Addr) (ds : List (Int × Int)) : Prop := ∃ as : List Addr, SqL K H p (as.map V.ref) ∧ PairsAt H as ds
/-- such a list that is tracked -/
def PLt (H : Hp) (p : Addr) (ds : List (Int × Int)) : Prop := ∃ as : List Addr, H p = some (.lst (as.map V.ref)) ∧ PairsAt H as ds
/-- a list of lists of rooms -/
def Rows (H : Hp) (p : Addr) (rs : List (List Nat)) : Prop := ∃ as : List Addr, H p = some (.lst (as.map V.ref)) ∧ Paired (fun a r => H a = some (.lst (nvs r))) as rs
theorem Paired.mono {α β : Type} {F F' : α → β → Prop} (h : ∀ a b, F a b → F' a b) : ∀ {l : List α} {m : List β}, Paired F l m → Paired F' l m
  | _, _, .nil => .nil
  | _, _, .cons a r => .cons (h _ _ a) (Paired.mono h r)
theorem Paired.at {α β : Type} {F : α → β → Prop} : ∀ {l : List α} {m : List β} {i : Nat} {b : β}, Paired F l m → m[i]? = some b → ∃ a, l[i]? = some a ∧ F a b
  | _, _, _, _, .nil, e => by simp at e
  | _, _, 0, _, .cons r _, e => by simp at e; subst e; exact ⟨_, rfl, r⟩
  | _, _, i + 1, b, .cons _ t, e => by
    obtain ⟨a, h1, h2⟩ := Paired.at (i := i) (b := b) t (by simpa using e)
    exact ⟨a, by simpa using h1, h2⟩
theorem Paired.atL {α β : Type} {F : α → β → Prop} : ∀ {l : List α} {m : List β} {i : Nat} {a : α}, Paired F l m → l[i]? = some a → ∃ b, m[i]? = some b ∧ F a b
  | _, _, _, _, .nil, e => by simp at e
  | _, _, 0, _, .cons r _, e => by simp at e; subst e; exact ⟨_, rfl, r⟩
  | _, _, i + 1, b, .cons _ t, e => by
    obtain ⟨a, h1, h2⟩ := Paired.atL (i := i) (a := b) t (by simpa using e)
    exact ⟨a, by simpa using h1, h2⟩
theorem Paired.snoc {α β : Type} {F : α → β → Prop} {a : α} {b : β} (h : F a b) : ∀ {l : List α} {m : List β}, Paired F l m → Paired F (l ++ [a]) (m ++ [b])
  | _, _, .nil => .cons h .nil
  | _, _, .cons r t => .cons r (Paired.snoc h t)
/-- the pairs' tuples behind their list -/
theorem refs_paired {B : Hp} : ∀ {as : List Addr} {ds : List (Nat × Nat)}, PairsAt B as (ds.map zp) → Paired (fun x (d : Nat × Nat) => ∃ a, x = V.ref a ∧ B a = some (.tup [nv d.1, nv d.2])) (as.map V.ref) ds
  | [], [], _ => .nil
  | [], _ :: _, h => nomatch h
  | _ :: _, [], h => nomatch h
  | a :: as, d :: ds, h => by
    cases h with
    | cons h1 h2 => exact .cons ⟨a, rfl, h1⟩ (refs_paired h2)
section
variable {K : PySem.W.Frag} {H H' : Hp} {p : Addr} {ds : List (Int × Int)}
theorem PairsAt.mono {as : List Addr} (e : Ex H H') (h : PairsAt H as ds) : PairsAt H' as ds := Paired.mono (fun _ _ q => e _ _ q) h
theorem PL.mono (e : Ex H H') (h : PL K H p ds) : PL K H' p ds := let ⟨as, h1, h2⟩ := h; ⟨as, ex_l e h1, h2.mono e⟩
theorem PLt.mono (e : Ex H H') (h : PLt H p ds) : PLt H' p ds := let ⟨as, h1, h2⟩ := h; ⟨as, e _ _ h1, h2.mono e⟩
theorem PLt.pl (h : PLt H p ds) : PL K H p ds := let ⟨as, h1, h2⟩ := h; ⟨as, sq_of h1, h2⟩
theorem Rows.mono {rs : List (List Nat)} (e : Ex H H') (h : Rows H p rs) : Rows H' p rs := let ⟨as, h1, h2⟩ := h; ⟨as, e _ _ h1, Paired.mono (fun _ _ q => e _ _ q) h2⟩
end
/-! ### a net in a heap -/
def netF (n : Nat) (pa aa ba : Addr) : List (Str × V) := putF "behind" (.ref ba) (putF "ahead" (.ref aa) (putF "pairs" (.ref pa) (putF "many" (nv n) [])))
structure NetAt (g : Gb) (H : Hp) (p : Addr) (N : Nt) : Prop where
  ok : N.Ok
  ex : ∃ dx pa aa ba, H p = some (.ins g.C dx (netF N.n pa aa ba)) ∧ PLt H pa (N.ds.map zp) ∧ Rows H aa ((List.range N.n).map N.ahead) ∧ Rows H ba ((List.range N.n).map N.behind)
theorem NetAt.mono {g : Gb} {H H' : Hp} {p : Addr} {N : Nt} (e : Ex H H') (h : NetAt g H p N) : NetAt g H' p N :=
  let ⟨ok, dx, pa, aa, ba, h1, h2, h3, h4⟩ := h
  ⟨ok, dx, pa, aa, ba, e _ _ h1, h2.mono e, h3.mono e, h4.mono e⟩
section
variable (n : Nat) (pa aa ba : Addr)
theorem k12 : ¬ (("pairs" : Str) = "many") := by decide +kernel
theorem k13 : ¬ (("ahead" : Str) = "many") := by decide +kernel
theorem k14 : ¬ (("behind" : Str) = "many") := by decide +kernel
theorem k23 : ¬ (("ahead" : Str) = "pairs") := by decide +kernel
theorem k24 : ¬ (("behind" : Str) = "pairs") := by decide +kernel
theorem k34 : ¬ (("behind" : Str) = "ahead") := by decide +kernel
theorem netF_many : (netF n pa aa ba).lookup ("many" : Str) = some (nv n) := by
  unfold netF
  rw [lookup_putF, if_neg (Ne.symm k14), lookup_putF, if_neg (Ne.symm k13), lookup_putF, if_neg (Ne.symm k12), lookup_putF, if_pos rfl]
theorem netF_pairs : (netF n pa aa ba).lookup ("pairs" : Str) = some (.ref pa) := by
  unfold netF
  rw [lookup_putF, if_neg (Ne.symm k24), lookup_putF, if_neg (Ne.symm k23), lookup_putF, if_pos rfl]
theorem netF_ahead : (netF n pa aa ba).lookup ("ahead" : Str) = some (.ref aa) := by
  unfold netF
  rw [lookup_putF, if_neg (Ne.symm k34), lookup_putF, if_pos rfl]
theorem netF_behind : (netF n pa aa ba).lookup ("behind" : Str) = some (.ref ba) := by
  unfold netF
  rw [lookup_putF, if_pos rfl]
theorem netF_no {m : Str} (h1 : ¬ m = "many") (h2 : ¬ m = "pairs") (h3 : ¬ m = "ahead") (h4 : ¬ m = "behind") : (netF n pa aa ba).lookup m = none := by
  unfold netF
  rw [lookup_putF, if_neg h4, lookup_putF, if_neg h3, lookup_putF, if_neg h2, lookup_putF, if_neg h1]
  all_goals rfl
end
/-- what the top has made of the class -/
structure CF (g : Gb) : Prop where
  cl : Cls g.K g.C
  nM : NoAttr g.K g.C "many"
  nP : NoAttr g.K g.C "pairs"
  nA : NoAttr g.K g.C "ahead"
  nB : NoAttr g.K g.C "behind"
/-- the room is there -/
abbrev Nt.has (N : Nt) (r : Int) : Prop := 0 ≤ r ∧ r < (N.n : Int)
/-- a fresh list of pairs is handed back -/
def RetP (ds : List (Int × Int)) (H : Hp) (Q : VK) : Prop := ∀ p H2, H p = none → Ex H H2 → PLt H2 p ds → Q (.ref p) H2
def RetX (E : XK) (C : Addr) (H : Hp) : Prop := ∀ H2, Ex H H2 → E (.ref C) none H2
/-! ### promises -/
/-- rooms and doors that are a net -/
def IsNet (rooms : Int) (ds : List (Int × Int)) (N : Nt) : Prop := N.Ok ∧ rooms = N.n ∧ ds = N.ds.map zp
def sp_Net___init__ (g : Gb) : Sp := fun vs H Q E => ∃ (p dx l : Addr) (rooms : Int) (ds : List (Int × Int)), vs = [.ref p, .int rooms, .ref l] ∧ H p = some (.ins g.C dx []) ∧ PLt H l ds ∧ ds.length ≤ 1000 ∧
  (∀ N, IsNet rooms ds N → ∀ H2, NetAt g (del H2 l) p N → (∀ b o, H b = some o → b ≠ p → H2 b = some o) → Q .non H2) ∧ ((∀ N, ¬ IsNet rooms ds N) → RetX E g.cN H)
def sp_Net_ask (g : Gb) : Sp := fun vs H Q E => ∃ (p : Addr) (N : Nt) (r : Int), vs = [.ref p, .int r] ∧ NetAt g H p N ∧ (N.has r → RetV .non H Q) ∧ (¬ N.has r → RetX E g.cR H)
def sp_Net_rooms (g : Gb) : Sp := fun vs H Q _ => ∃ (p : Addr) (N : Nt), vs = [.ref p] ∧ NetAt g H p N ∧ RetV (nv N.n) H Q
def sp_Net_doors (g : Gb) : Sp := fun vs H Q _ => ∃ (p : Addr) (N : Nt), vs = [.ref p] ∧ NetAt g H p N ∧ RetP (N.ds.map zp) H Q
def sp_Net_leads (g : Gb) : Sp := fun vs H Q E => ∃ (p : Addr) (N : Nt) (r : Int), vs = [.ref p, .int r] ∧ NetAt g H p N ∧ (∀ k : Nat, k < N.n → r = k → RetL (nvs (N.ahead k)) H Q) ∧ (¬ N.has r → RetX E g.cR H)
def sp_Net_led (g : Gb) : Sp := fun vs H Q E => ∃ (p : Addr) (N : Nt) (r : Int), vs = [.ref p, .int r] ∧ NetAt g H p N ∧ (∀ k : Nat, k < N.n → r = k → RetL (nvs (N.behind k)) H Q) ∧ (¬ N.has r → RetX E g.cR H)
/-! Net.__init__: slots 0 self 1 rooms 2 doors 3 door 4 room -/
def t_Net___init___b1 (g : Gb) (E : XK)  : TS := tIfS (tNot (tTest (tChain rLeI rLtI (tC (.int 0)) (tVar 4) (tVar 1)))) (tRs (fun cls d _ H => E cls d H) g.cN) tNext
def t_Net___init___b2 (g : Gb) (E : XK)  : TS := tFor (iTup g.K (tVar 3)) (gName 4) (t_Net___init___b1 g E)
def t_Net___init__ (g : Gb) (E : XK) : TS := tSeq (tIfS (tOr (tNot (tTest (tChain rLeI rLeI (tC (.int 1)) (tVar 1) (tC (.int 40))))) (tTest (tOp rGtI (tCB (rLenS g.K) (tCons (tVar 2) tNil)) (tC (.int 100))))) (tRs (fun cls d _ H => E cls d H) g.cN) tNext)
  (tSeq (tFor (iList g.K (tVar 2)) (gName 3) (t_Net___init___b2 g E))
  (tSeq (sFld g.K (tVar 0) (tVar 1) "many")
  (tSeq (sFld g.K (tVar 0) (tCB (rListS g.K) (tCons (tVar 2) tNil)) "pairs")
  (tSeq (sFld g.K (tVar 0) (tLc (iRng1 (tCons (tVar 1) tNil)) (gName 4) tYes (tCB (rSortedSet g.w) (tCons (tCB (rSetOf g.K g.w) (tCons (tLc (iList g.K (tVar 2)) (gName 3) (tTest (tOp rEq (tOp (rIxT g.K) (tVar 3) (tC (.int 0))) (tVar 4))) (tOp (rIxT g.K) (tVar 3) (tC (.int 1))) [3]) tNil)) tNil)) [4]) "ahead")
  (sFld g.K (tVar 0) (tLc (iRng1 (tCons (tVar 1) tNil)) (gName 4) tYes (tCB (rSortedSet g.w) (tCons (tCB (rSetOf g.K g.w) (tCons (tLc (iList g.K (tVar 2)) (gName 3) (tTest (tOp rEq (tOp (rIxT g.K) (tVar 3) (tC (.int 1))) (tVar 4))) (tOp (rIxT g.K) (tVar 3) (tC (.int 0))) [3]) tNil)) tNil)) [4]) "behind")))))
abbrev N_Net___init__ : List Str := ["self", "rooms", "doors", "door", "room"]
/-! Net.ask: slots 0 self 1 room -/
def t_Net_ask (g : Gb) (E : XK) : TS := tIfS (tNot (tTest (tChain rLeI rLtI (tC (.int 0)) (tVar 1) (tFld g.K (tVar 0) "many")))) (tRs (fun cls d _ H => E cls d H) g.cR) tNext
abbrev N_Net_ask : List Str := ["self", "room"]
/-! Net.rooms: slots 0 self -/
def t_Net_rooms (g : Gb) : TS := tRet (tFld g.K (tVar 0) "many")
abbrev N_Net_rooms : List Str := ["self"]
/-! Net.doors: slots 0 self -/
def t_Net_doors (g : Gb) : TS := tRet (tCB (rListS g.K) (tCons (tFld g.K (tVar 0) "pairs") tNil))
abbrev N_Net_doors : List Str := ["self"]
/-! Net.leads: slots 0 self 1 room -/
def t_Net_leads (g : Gb) (E : XK) : TS := tSeq (tDrop (tMeth g.C "ask" (sp_Net_ask g) [] E (tVar 0) (tCons (tVar 1) tNil)))
  (tRet (tCB (rListS g.K) (tCons (tOp (rIxL g.K) (tFld g.K (tVar 0) "ahead") (tVar 1)) tNil)))
abbrev N_Net_leads : List Str := ["self", "room"]
/-! Net.led: slots 0 self 1 room -/
def t_Net_led (g : Gb) (E : XK) : TS := tSeq (tDrop (tMeth g.C "ask" (sp_Net_ask g) [] E (tVar 0) (tCons (tVar 1) tNil)))
  (tRet (tCB (rListS g.K) (tCons (tOp (rIxL g.K) (tFld g.K (tVar 0) "behind") (tVar 1)) tNil)))
abbrev N_Net_led : List Str := ["self", "room"]

section
variable {g : Gb} {σ : L2.St} {H : Hp} {D : Ends} {E : XK} {Q : VK} {vs : List V} {p : Addr} {N : Nt}
theorem ev_many (T : CF g) {te : TE} (h : Ev te σ H (.ref p)) (hn : NetAt g H p N) : Ev (tFld g.K te "many") σ H (nv N.n) := fun H1 e Q q =>
  h H1 e _ fun H2 e2 => let ⟨_, dx, pa, aa, ba, h1, _⟩ := hn.mono (e.trans e2); ⟨p, g.C, dx, _, _, rfl, h1, T.cl, T.nM, netF_many .., q H2 e2⟩
theorem pure_Net_ask (T : CF g) (h : sp_Net_ask g vs H Q E) : t_Net_ask g E { nx := fun _ H' => Q .non H', rt := Q } (start N_Net_ask vs) H := by
  obtain ⟨p, N, r, rfl, hn, k1, k2⟩ := h
  refine s_if (et_not (et_ch ev_c (ev_var rfl) (ev_many T (ev_var rfl) hn))) (fun hb H1 e1 => ?_) (fun hb H1 e1 => ?_)
  · exact k2 (fun ⟨a, b⟩ => by simp [a, b] at hb) H1 e1
  · exact k1 (by simpa using hb) H1 e1
theorem pure_Net_rooms (T : CF g) (h : sp_Net_rooms g vs H Q E) : t_Net_rooms g { nx := fun _ H' => Q .non H', rt := Q } (start N_Net_rooms vs) H := by
  obtain ⟨p, N, rfl, hn, k1⟩ := h
  exact s_ret (ev_many T (ev_var rfl) hn) k1
theorem pure_Net_doors (T : CF g) (h : sp_Net_doors g vs H Q E) : t_Net_doors g { nx := fun _ H' => Q .non H', rt := Q } (start N_Net_doors vs) H := by
  obtain ⟨p, N, rfl, hn, k1⟩ := h
  obtain ⟨ok, dx, pa, aa, ba, h1, h2, h3, h4⟩ := id hn
  obtain ⟨as, h5, h6⟩ := id h2
  have ef : Ev (tFld g.K (tVar 0) "pairs") (start N_Net_doors [V.ref p]) H (.ref pa) := fun H1 e Q q => ⟨_, rfl, p, g.C, dx, _, _, rfl, e _ _ h1, T.cl, T.nP, netF_pairs .., q H1 (Ex.refl H1)⟩
  exact s_retL (el_list ef (sq_of h5)) fun q H1 hq e1 hq1 => k1 q H1 hq e1 ⟨as, hq1, h6.mono e1⟩
theorem rows_at {H : Hp} {a : Addr} {n i : Nat} {f : Nat → List Nat} (h : Rows H a ((List.range n).map f)) (hi : i < n) : ∃ (as : List Addr) (b : Addr), H a = some (.lst (as.map V.ref)) ∧ (as.map V.ref)[i]? = some (V.ref b) ∧ H b = some (.lst (nvs (f i))) := by
  obtain ⟨as, h1, h2⟩ := h
  have e : ((List.range n).map f)[i]? = some (f i) := by rw [List.getElem?_map, List.getElem?_range hi]; rfl
  obtain ⟨b, h3, h4⟩ := Paired.at h2 e
  exact ⟨as, b, h1, by rw [List.getElem?_map, h3]; rfl, h4⟩
theorem pure_Net_leads (T : CF g) (h : sp_Net_leads g vs H Q E) : t_Net_leads g E { nx := fun _ H' => Q .non H', rt := Q } (start N_Net_leads vs) H := by
  obtain ⟨p, N, r, rfl, hn, k1, k2⟩ := h
  obtain ⟨ok, dx, pa, aa, ba, h1, h2, h3, h4⟩ := id hn
  refine ⟨_, rfl, p, dx, _, rfl, h1, netF_no _ _ _ _ (by decide +kernel) (by decide +kernel) (by decide +kernel) (by decide +kernel), _, rfl, p, N, r, rfl, hn, fun hr H1 e1 => ?_, k2⟩
  obtain ⟨k, rfl⟩ : ∃ k : Nat, r = k := ⟨r.toNat, by omega⟩
  have hk : k < N.n := by omega
  obtain ⟨as, b, r1, r2, r3⟩ := rows_at (h3.mono e1) hk
  have ef : Ev (tFld g.K (tVar 0) "ahead") (start N_Net_leads [V.ref p, V.int k]) H1 (.ref aa) := fun H2 e Q q => ⟨_, rfl, p, g.C, dx, _, _, rfl, e _ _ (e1 _ _ h1), T.cl, T.nA, netF_ahead .., q H2 (Ex.refl H2)⟩
  exact s_retL (el_list (ev_op ef (ev_var rfl) (rv_ixL (sq_of r1) (atI_nat r2))) (sq_of r3)) fun q H2 hq e2 hq2 => k1 k hk rfl q H2 (fresh_back e1 hq) (e1.trans e2) hq2
theorem pure_Net_led (T : CF g) (h : sp_Net_led g vs H Q E) : t_Net_led g E { nx := fun _ H' => Q .non H', rt := Q } (start N_Net_led vs) H := by
  obtain ⟨p, N, r, rfl, hn, k1, k2⟩ := h
  obtain ⟨ok, dx, pa, aa, ba, h1, h2, h3, h4⟩ := id hn
  refine ⟨_, rfl, p, dx, _, rfl, h1, netF_no _ _ _ _ (by decide +kernel) (by decide +kernel) (by decide +kernel) (by decide +kernel), _, rfl, p, N, r, rfl, hn, fun hr H1 e1 => ?_, k2⟩
  obtain ⟨k, rfl⟩ : ∃ k : Nat, r = k := ⟨r.toNat, by omega⟩
  have hk : k < N.n := by omega
  obtain ⟨as, b, r1, r2, r3⟩ := rows_at (h4.mono e1) hk
  have ef : Ev (tFld g.K (tVar 0) "behind") (start N_Net_led [V.ref p, V.int k]) H1 (.ref ba) := fun H2 e Q q => ⟨_, rfl, p, g.C, dx, _, _, rfl, e _ _ (e1 _ _ h1), T.cl, T.nB, netF_behind .., q H2 (Ex.refl H2)⟩
  exact s_retL (el_list (ev_op ef (ev_var rfl) (rv_ixL (sq_of r1) (atI_nat r2))) (sq_of r3)) fun q H2 hq e2 hq2 => k1 k hk rfl q H2 (fresh_back e1 hq) (e1.trans e2) hq2
end
end Mp

/-! Net's __init__. -/
namespace Mp
open PySem L2 Evl
section
variable {g : Gb} {σ : L2.St} {H B : Hp} {D : Ends} {E : XK} {Q : VK} {vs : List V} {p : Addr} {N : Nt}
theorem q_fld {C dx : Addr} {fs : List (Str × V)} {tv : TE} {f : Str} {tz : TS} {P : Hp → V → Hp → Prop} (h0 : σ[0]? = some (some (.ref p))) (eB : Ex B H) (hp : H p = some (.ins C dx fs)) (c : Cls g.K C) (na : NoAttr g.K C f) (hl : fs.length < 1000) (hv : EvP tv σ B P)
    (k : ∀ v H1, Ex H H1 → P H v H1 → tz D σ (upd H1 p (.ins C dx (putF f v fs)))) : tSeq (sFld g.K (tVar 0) tv f) tz D σ H :=
  hv H eB _ fun v H1 e1 q => ⟨_, h0, p, C, dx, fs, rfl, e1 _ _ hp, c, na, hl, k v H1 e1 q⟩
theorem s_fldE {C dx : Addr} {fs : List (Str × V)} {tv : TE} {f : Str} {P : Hp → V → Hp → Prop} (h0 : σ[0]? = some (some (.ref p))) (eB : Ex B H) (hp : H p = some (.ins C dx fs)) (c : Cls g.K C) (na : NoAttr g.K C f) (hl : fs.length < 1000) (hv : EvP tv σ B P)
    (k : ∀ v H1, Ex H H1 → P H v H1 → D.nx σ (upd H1 p (.ins C dx (putF f v fs)))) : sFld g.K (tVar 0) tv f D σ H :=
  hv H eB _ fun v H1 e1 q => ⟨_, h0, p, C, dx, fs, rfl, e1 _ _ hp, c, na, hl, k v H1 e1 q⟩
/-- what a row of a net's table is -/
theorem row_ahead {K : PySem.W.Frag} {w : World} {l : Addr} {ds : List (Nat × Nat)} {n r jl jv jr : Nat} (hN : ∀ d ∈ ds, d.1 < n ∧ d.2 < n) (hn : n ≤ 40) (hf : ds.length ≤ 1000) (sw : Bool)
    (hl : PL K B l (ds.map zp)) (h2 : σ[jl]? = some (some (.ref l))) (hw : ∀ x, wipe ((wipe σ [jv]).set jv (some x)) [jv] = wipe σ [jv]) (hv : ∀ x, ((wipe σ [jv]).set jv (some x))[jv]? = some (some x)) (hr : ∀ x, ((wipe σ [jv]).set jv (some x))[jr]? = some (some (nv r))) :
    EvL (tCB (rSortedSet w) (tCons (tCB (rSetOf K w) (tCons (tLc (iList K (tVar jl)) (gName jv) (tTest (tOp rEq (tOp (rIxT K) (tVar jv) (tC (.int (if sw then 1 else 0)))) (tVar jr))) (tOp (rIxT K) (tVar jv) (tC (.int (if sw then 0 else 1)))) [jv]) tNil)) tNil)) σ B
      (nvs (if sw then Nt.behind ⟨n, ds⟩ r else Nt.ahead ⟨n, ds⟩ r)) := by
  obtain ⟨as, hs, hp⟩ := hl
  have hp2 : Paired (fun x (d : Nat × Nat) => ∃ a, x = V.ref a ∧ B a = some (.tup [nv d.1, nv d.2])) (as.map V.ref) ds := refs_paired hp
  have key : EvL (tLc (iList K (tVar jl)) (gName jv) (tTest (tOp rEq (tOp (rIxT K) (tVar jv) (tC (.int (if sw then 1 else 0)))) (tVar jr))) (tOp (rIxT K) (tVar jv) (tC (.int (if sw then 0 else 1)))) [jv]) σ B
      (((ds.filter fun d => decide (nv (if sw then d.2 else d.1) = nv r)).map fun d => ((if sw then d.1 else d.2 : Nat) : Int)).map V.int) := by
    rw [List.map_map]
    refine el_lc (R := fun (d : Nat × Nat) x => ∃ a, x = V.ref a ∧ B a = some (.tup [nv d.1, nv d.2])) (fun d => decide (nv (if sw then d.2 else d.1) = nv r)) _ (ei_list (ev_var h2) hs hp2) (by omega) hw (fun d x H1 _ hx e1 => ?_) (fun d x H1 _ hx e1 _ => ?_)
    · obtain ⟨a, rfl, ha⟩ := hx
      cases sw
      · exact et_test (ev_op (ev_op (ev_var (hv _)) ev_c (rv_ixT (st_of (e1 _ _ ha)) rfl)) (ev_var (hr _)) (rv_eq rfl))
      · exact et_test (ev_op (ev_op (ev_var (hv _)) ev_c (rv_ixT (st_of (e1 _ _ ha)) rfl)) (ev_var (hr _)) (rv_eq rfl))
    · obtain ⟨a, rfl, ha⟩ := hx
      cases sw
      · exact ev_op (ev_var (hv _)) ev_c (rv_ixT (st_of (e1 _ _ ha)) rfl)
      · exact ev_op (ev_var (hv _)) ev_c (rv_ixT (st_of (e1 _ _ ha)) rfl)
  have hlen2 := List.length_filter_le (fun d : Nat × Nat => decide (nv (if sw then d.2 else d.1) = nv r)) ds
  have fin := el_sset (K := K) (w := w) key (by rw [List.length_map]; omega) (m := n) (by omega) (by
    intro k hk
    obtain ⟨d, hd, rfl⟩ := List.mem_map.mp hk
    have := hN d (List.mem_filter.mp hd).1
    cases sw
    · show (0 : Int) ≤ (d.2 : Nat) ∧ ((d.2 : Nat) : Int) < n
      omega
    · show (0 : Int) ≤ (d.1 : Nat) ∧ ((d.1 : Nat) : Int) < n
      omega)
  have e : (rising n ((ds.filter fun d => decide (nv (if sw then d.2 else d.1) = nv r)).map fun d => ((if sw then d.1 else d.2 : Nat) : Int))) = (if sw then Nt.behind ⟨n, ds⟩ r else Nt.ahead ⟨n, ds⟩ r) := by
    cases sw
    · refine List.filter_congr fun j _ => ?_
      show decide _ = decide ((r, j) ∈ ds)
      refine decide_eq_decide.mpr ⟨fun h => ?_, fun h => ?_⟩
      · obtain ⟨d, hd, e⟩ := List.mem_map.mp h
        obtain ⟨h1, h2⟩ := List.mem_filter.mp hd
        have h3 : nv d.1 = nv r := of_decide_eq_true h2
        have h4 : ((d.1 : Nat) : Int) = r := V.int.inj h3
        have h5 : ((d.2 : Nat) : Int) = j := e
        have h6 : d = (r, j) := Prod.ext (by omega) (by omega)
        exact h6 ▸ h1
      · exact List.mem_map.mpr ⟨(r, j), List.mem_filter.mpr ⟨h, decide_eq_true rfl⟩, rfl⟩
    · refine List.filter_congr fun j _ => ?_
      show decide _ = decide ((j, r) ∈ ds)
      refine decide_eq_decide.mpr ⟨fun h => ?_, fun h => ?_⟩
      · obtain ⟨d, hd, e⟩ := List.mem_map.mp h
        obtain ⟨h1, h2⟩ := List.mem_filter.mp hd
        have h3 : nv d.2 = nv r := of_decide_eq_true h2
        have h4 : ((d.2 : Nat) : Int) = r := V.int.inj h3
        have h5 : ((d.1 : Nat) : Int) = j := e
        have h6 : d = (j, r) := Prod.ext (by omega) (by omega)
        exact h6 ▸ h1
      · exact List.mem_map.mpr ⟨(j, r), List.mem_filter.mpr ⟨h, decide_eq_true rfl⟩, rfl⟩
  rw [e] at fin
  exact fin
/-- the whole table -/
theorem table {K : PySem.W.Frag} {w : World} {l : Addr} {ds : List (Nat × Nat)} {n : Nat} (hN : ∀ d ∈ ds, d.1 < n ∧ d.2 < n) (hn : n ≤ 40) (hf : ds.length ≤ 1000) (sw : Bool) {s0 s3 s4 : Option V}
    (hl : PL K B l (ds.map zp)) :
    EvP (tLc (iRng1 (tCons (tVar 1) tNil)) (gName 4) tYes (tCB (rSortedSet w) (tCons (tCB (rSetOf K w) (tCons (tLc (iList K (tVar 2)) (gName 3) (tTest (tOp rEq (tOp (rIxT K) (tVar 3) (tC (.int (if sw then 1 else 0)))) (tVar 4))) (tOp (rIxT K) (tVar 3) (tC (.int (if sw then 0 else 1)))) [3]) tNil)) tNil)) [4]) [s0, some (nv n), some (.ref l), s3, s4] B
      (fun H1 v H2 => ∃ q, v = .ref q ∧ H1 q = none ∧ ∃ as : List Addr, H2 q = some (.lst (as.map V.ref)) ∧ Paired (fun a r => H1 a = none ∧ a ≠ q ∧ H2 a = some (.lst (nvs r))) as ((List.range n).map (if sw then Nt.behind ⟨n, ds⟩ else Nt.ahead ⟨n, ds⟩))) := by
  intro H1 e1 Q q
  refine ep_lcL (l := List.range n) (fun _ => true) (fun r => nvs (if sw then Nt.behind ⟨n, ds⟩ r else Nt.ahead ⟨n, ds⟩ r)) (ei_range (ea_cons (ev_var rfl) ea_nil) (by omega)) (by rw [List.length_range]; omega) (fun _ => rfl) (fun _ _ _ _ _ _ => et_yes) (fun r x H2 hr hx e2 _ => ?_) H1 e1 Q fun v H2 e2 hv => q v H2 e2 ?_
  · subst hx
    exact row_ahead hN hn hf sw (hl.mono e2) rfl (fun _ => rfl) (fun _ => rfl) (fun _ => rfl)
  · obtain ⟨p, as, rfl, h1, h2, h3⟩ := hv
    refine ⟨p, rfl, h1, as, h2, ?_⟩
    rw [List.filter_eq_self.mpr (fun _ _ => rfl)] at h3
    have : ∀ {as : List Addr} {rs : List Nat}, Paired (fun a r => H1 a = none ∧ a ≠ p ∧ H2 a = some (.lst r)) as (rs.map fun r => nvs (if sw then Nt.behind ⟨n, ds⟩ r else Nt.ahead ⟨n, ds⟩ r)) → Paired (fun a r => H1 a = none ∧ a ≠ p ∧ H2 a = some (.lst (nvs r))) as (rs.map (if sw then Nt.behind ⟨n, ds⟩ else Nt.ahead ⟨n, ds⟩)) := by
      intro as rs h
      induction rs generalizing as with
      | nil => cases h; exact .nil
      | cons r rs ih => cases h with
        | cons h1 h2 => exact .cons (by cases sw <;> exact h1) (ih h2)
    exact this h3
theorem putF_len {f : Str} {v : V} {fs : List (Str × V)} {n : Nat} (h : fs.length ≤ n) : (putF f v fs).length ≤ n + 1 := Nat.le_trans (length_putF f v fs) (Nat.succ_le_succ h)
theorem pure_Net___init__ (T : CF g) (h : sp_Net___init__ g vs H Q E) : t_Net___init__ g E { nx := fun _ H' => Q .non H', rt := Q } (start N_Net___init__ vs) H := by
  obtain ⟨p, dx, l, rooms, ds, rfl, hp, hl, hlen, k1, k2⟩ := h
  obtain ⟨as, hlt, hpa⟩ := id hl
  have hs : SqL g.K H l (as.map V.ref) := sq_of hlt
  have hlp : l ≠ p := ne_of hlt hp (by intro z; cases z)
  have hasl : as.length = ds.length := paired_len hpa
  have hSlen : (as.map V.ref).length = ds.length := by rw [List.length_map, hasl]
  refine s_if (et_or (et_not (et_ch ev_c (ev_var rfl) ev_c)) (fun _ => et_test (ev_op (ev_len (ev_var rfl) hs) ev_c rv_I0))) (fun hb H1 e1 => ?_) (fun hb H1 e1 => ?_)
  · refine k2 (fun N hN => ?_) H1 e1
    obtain ⟨ok, e, e'⟩ := hN
    have h1 := ok.pos
    have h2 := ok.most
    have h3 := ok.few
    have h4 : ds.length = N.ds.length := by rw [e', List.length_map]
    rw [hSlen, h4, e] at hb
    simp at hb
    omega
  · rw [hSlen] at hb
    have hb2 : (1 ≤ rooms ∧ rooms ≤ 40) ∧ ds.length ≤ 100 := by
      simp at hb
      omega
    clear hb
    obtain ⟨hb, hfew⟩ := hb2
    have hs1 := ex_l e1 hs
    -- the doors' loop
    refine s_forL (ev_var rfl) hs1 (fun i σ' H' => Ex H H' ∧ (∀ k, k < i → ∀ d, ds[k]? = some d → (0 ≤ d.1 ∧ d.1 < rooms) ∧ (0 ≤ d.2 ∧ d.2 < rooms)) ∧ ∃ s3 s4, σ' = [some (.ref p), some (.int rooms), some (.ref l), s3, s4]) (fun H2 e2 => ⟨e1.trans e2, fun _ h => absurd h (Nat.not_lt_zero _), none, none, rfl⟩) (fun i σ' H' _ h => ex_l h.1 hs) (fun i x σ' H' hx hP => ?_) (fun σ' H' hP => ?_)
    · obtain ⟨eH, hk, s3, s4, rfl⟩ := hP
      obtain ⟨a, ha, rfl⟩ : ∃ a, as[i]? = some a ∧ x = V.ref a := by
        rw [List.getElem?_map] at hx
        cases h : as[i]? with
        | none => rw [h] at hx; cases hx
        | some a => rw [h] at hx; exact ⟨a, rfl, (Option.some.inj hx).symm⟩
      obtain ⟨d, hd, hT⟩ := paired_at hpa ha
      show t_Net___init___b2 g E _ [some (.ref p), some (.int rooms), some (.ref l), some (.ref a), s4] H'
      refine s_forT (ev_var rfl) (st_of (eH _ _ hT)) (fun i2 σ' H' => Ex H H' ∧ (0 < i2 → 0 ≤ d.1 ∧ d.1 < rooms) ∧ (1 < i2 → 0 ≤ d.2 ∧ d.2 < rooms) ∧ ∃ s4, σ' = [some (.ref p), some (.int rooms), some (.ref l), some (.ref a), s4]) (fun H2 e2 => ⟨eH.trans e2, fun h => absurd h (by decide), fun h => absurd h (by decide), s4, rfl⟩) (fun i σ' H' _ h => st_of (h.1 _ _ hT)) (fun i2 y σ2 H2 hy hP2 => ?_) (fun σ2 H2 hP2 => ?_)
      · obtain ⟨eH2, q1, q2, s4', rfl⟩ := hP2
        have bad : ∀ z : Int, (z = d.1 ∨ z = d.2) → ¬ (0 ≤ z ∧ z < rooms) → ∀ N, ¬ IsNet rooms ds N := fun z hz hn N hN => by
          obtain ⟨ok, e, e'⟩ := hN
          have hm : d ∈ N.ds.map zp := e' ▸ List.mem_of_getElem? hd
          obtain ⟨d', hd', rfl⟩ := List.mem_map.mp hm
          have := ok.ends d' hd'
          apply hn
          rcases hz with rfl | rfl
          · show (0 : Int) ≤ (d'.1 : Nat) ∧ ((d'.1 : Nat) : Int) < rooms
            omega
          · show (0 : Int) ≤ (d'.2 : Nat) ∧ ((d'.2 : Nat) : Int) < rooms
            omega
        obtain ⟨z, rfl, hz, hz0, hz1⟩ : ∃ z : Int, y = V.int z ∧ (z = d.1 ∨ z = d.2) ∧ (i2 = 0 → z = d.1) ∧ (i2 = 1 → z = d.2) ∧ i2 < 2 := by
          match i2, hy with
          | 0, hy => exact ⟨d.1, (Option.some.inj hy).symm, .inl rfl, fun _ => rfl, (fun h => by cases h), by omega⟩
          | 1, hy => exact ⟨d.2, (Option.some.inj hy).symm, .inr rfl, (fun h => by cases h), fun _ => rfl, by omega⟩
          | n + 2, hy => simp at hy
        show t_Net___init___b1 g E _ [some (.ref p), some (.int rooms), some (.ref l), some (.ref a), some (.int z)] H2
        refine s_if (et_not (et_ch ev_c (ev_var rfl) (ev_var rfl))) (fun hb H3 e3 => ?_) (fun hb H3 e3 => ?_)
        · exact k2 (bad z hz (fun h => by simp [h.1, h.2] at hb)) H3 (eH2.trans e3)
        · have hz2 : 0 ≤ z ∧ z < rooms := by simpa using hb
          refine ⟨eH2.trans e3, fun _ => ?_, fun hi => ?_, _, rfl⟩
          · match i2, hz0, q1 with
            | 0, hz0, _ => rw [← hz0 rfl]; exact hz2
            | n + 1, _, q1 => exact q1 (by omega)
          · match i2, hz1, q2 with
            | 0, _, _ => omega
            | 1, hz1, _ => rw [← hz1.1 rfl]; exact hz2
            | n + 2, _, q2 => exact q2 (by omega)
      · obtain ⟨eH2, q1, q2, s4', rfl⟩ := hP2
        have q1 := q1 (by simp)
        have q2 := q2 (by simp)
        refine ⟨eH2, fun k hk' d' hd' => ?_, _, _, rfl⟩
        by_cases hki : k = i
        · subst hki
          rw [hd] at hd'
          cases hd'
          exact ⟨q1, q2⟩
        · exact hk k (by omega) d' hd'
    · -- the fields
      obtain ⟨eH, hk, s3, s4, rfl⟩ := hP
      rw [hSlen] at hk
      obtain ⟨n, rfl⟩ : ∃ n : Nat, rooms = n := ⟨rooms.toNat, by omega⟩
      have hall : ∀ d ∈ ds, (0 ≤ d.1 ∧ d.1 < (n : Int)) ∧ (0 ≤ d.2 ∧ d.2 < (n : Int)) := fun d hd => by
        obtain ⟨k, hk1, hk2⟩ := List.mem_iff_getElem.mp hd
        exact hk k hk1 d (by rw [List.getElem?_eq_getElem hk1, hk2])
      obtain ⟨es, hes⟩ : ∃ es : List (Nat × Nat), es = ds.map fun d => (d.1.toNat, d.2.toNat) := ⟨_, rfl⟩
      have he1 : ds = es.map zp := by
        rw [hes, List.map_map]
        conv => lhs; rw [← List.map_id ds]
        refine List.map_congr_left fun d hd => ?_
        have := hall d hd
        refine Prod.ext ?_ ?_
        · show d.1 = ((d.1.toNat : Nat) : Int)
          omega
        · show d.2 = ((d.2.toNat : Nat) : Int)
          omega
      have hends : ∀ d ∈ es, d.1 < n ∧ d.2 < n := fun d hd => by
        rw [hes] at hd
        obtain ⟨d', h1, rfl⟩ := List.mem_map.mp hd
        have := hall d' h1
        show d'.1.toNat < n ∧ d'.2.toNat < n
        omega
      have hel : es.length = ds.length := by rw [hes, List.length_map]
      have hok : Nt.Ok ⟨n, es⟩ := ⟨by show 1 ≤ n; omega, by show n ≤ 40; omega, by show es.length ≤ 100; omega, hends⟩
      -- B: what was there, the instance forgotten
      have eB : Ex (del H p) H' := ex_del.trans eH
      have hB : PL g.K (del H p) l (es.map zp) := by
        rw [← he1]
        refine ⟨as, sq_of (by rw [del_ne hlp]; exact hlt), ?_⟩
        refine Paired.mono (fun a d q => ?_) hpa
        rw [del_ne (ne_of q hp (by intro z; cases z))]
        exact q
      have hBs : SqL g.K (del H p) l (as.map V.ref) := sq_of (by rw [del_ne hlp]; exact hlt)
      -- self.many = rooms
      refine q_fld (f := "many") rfl eB (eH _ _ hp) T.cl T.nM (by show 0 < 1000; decide) (Ev.p (ev_var rfl)) fun v H2 e2 hv => ?_
      subst hv
      -- self.pairs = list(doors)
      refine q_fld (f := "pairs") rfl (ex_delU (eB.trans e2)) upd_same T.cl T.nP (Nat.lt_of_le_of_lt (putF_len (Nat.le_refl 0)) (by decide)) (EvL.p (el_list (ev_var rfl) hBs)) fun v H3 e3 hv => ?_
      obtain ⟨pa, rfl, hpa1, hpa2⟩ := hv
      have npa : pa ≠ p := fun z => by
        rw [z, upd_same] at hpa1
        cases hpa1
      have B3 : Ex (del H p) (upd H3 p (.ins g.C dx (putF "pairs" (V.ref pa) (putF "many" (V.int (n : Int)) [])))) := ex_delU ((ex_delU (eB.trans e2)).trans e3)
      -- self.ahead
      refine q_fld (f := "ahead") rfl B3 upd_same T.cl T.nA (Nat.lt_of_le_of_lt (putF_len (putF_len (Nat.le_refl 0))) (by decide)) (table (w := g.w) hends hok.most (by omega) false hB) fun v H4 e4 hv => ?_
      obtain ⟨aa, rfl, haa1, asA, haa2, haa3⟩ := hv
      have naa : aa ≠ p := fun z => by
        rw [z, upd_same] at haa1
        cases haa1
      -- self.behind
      refine s_fldE (f := "behind") rfl (ex_delU (B3.trans e4)) upd_same T.cl T.nB (Nat.lt_of_le_of_lt (putF_len (putF_len (putF_len (Nat.le_refl 0)))) (by decide)) (table (w := g.w) hends hok.most (by omega) true hB) fun v H5 e5 hv => ?_
      obtain ⟨ba, rfl, hba1, asB, hba2, hba3⟩ := hv
      have nba : ba ≠ p := fun z => by
        rw [z, upd_same] at hba1
        cases hba1
      have B5 := ex_delU (o := .ins g.C dx (putF "behind" (V.ref ba) (putF "ahead" (V.ref aa) (putF "pairs" (V.ref pa) (putF "many" (V.int (n : Int)) []))))) ((ex_delU (o := .ins g.C dx (putF "ahead" (V.ref aa) (putF "pairs" (V.ref pa) (putF "many" (V.int (n : Int)) [])))) (B3.trans e4)).trans e5)
      have lB : (del H p) l = some (.lst (as.map V.ref)) := by rw [del_ne hlp]; exact hlt
      have npl : ∀ {q : Addr} {Hq : Hp}, Ex (del H p) Hq → Hq q = none → q ≠ l := fun {q Hq} e hq z => by
        rw [z, e _ _ lB] at hq
        cases hq
      have pal : pa ≠ l := npl (ex_delU (eB.trans e2)) hpa1
      have aal : aa ≠ l := npl B3 haa1
      have bal : ba ≠ l := npl (ex_delU (B3.trans e4)) hba1
      refine k1 ⟨n, es⟩ ⟨hok, rfl, he1⟩ _ ⟨hok, dx, pa, aa, ba, by rw [del_ne (Ne.symm hlp)]; exact upd_same, ⟨as, ?_, ?_⟩, ⟨asA, ?_, ?_⟩, ⟨asB, ?_, ?_⟩⟩ fun b o hb hbp => B5 b o (by rw [del_ne hbp]; exact hb)
      · rw [del_ne pal, upd_ne npa]
        refine e5 _ _ ?_
        rw [upd_ne npa]
        refine e4 _ _ ?_
        rw [upd_ne npa]
        exact hpa2
      · rw [← he1]
        refine Paired.mono (fun a d q => ?_) hpa
        have hap : a ≠ p := ne_of q hp (by intro z; cases z)
        rw [del_ne (ne_of q hlt (by intro z; cases z))]
        exact B5 a _ (by rw [del_ne hap]; exact q)
      · rw [del_ne aal, upd_ne naa]
        refine e5 _ _ ?_
        rw [upd_ne naa]
        exact haa2
      · refine Paired.mono (fun a r q => ?_) haa3
        have hap : a ≠ p := fun z => by
          have h1 := q.1
          rw [z, upd_same] at h1
          cases h1
        rw [del_ne (npl B3 q.1), upd_ne hap]
        refine e5 _ _ ?_
        rw [upd_ne hap]
        exact q.2.2
      · rw [del_ne bal, upd_ne nba]
        exact hba2
      · refine Paired.mono (fun a r q => ?_) hba3
        have hap : a ≠ p := fun z => by
          have h1 := q.1
          rw [z, upd_same] at h1
          cases h1
        rw [del_ne (npl (ex_delU (B3.trans e4)) q.1), upd_ne hap]
        exact q.2.2
end
end Mp

/-! The laws' common helpers. -/
namespace Mp
open PySem L2 Evl
/-! ### data -/
def iD (xs : List Int) : PyData := .list (xs.map PyData.int)
def pD (d : Int × Int) : PyData := .tuple [.int d.1, .int d.2]
theorem ints_lay : ∀ xs : List Int, PyData.canLayAll0 (xs.map PyData.int) = true
  | [] => by simp [PyData.canLayAll0]
  | x :: xs => by simp [PyData.canLayAll0, PyData.canLay0, ints_lay xs]
theorem ints_depth : ∀ xs : List Int, PyData.depthAll (xs.map PyData.int) ≤ 1
  | [] => by simp [PyData.depthAll]
  | x :: xs => by
    have h := ints_depth xs
    simp only [List.map_cons, PyData.depthAll, PyData.depth]
    omega
theorem shaped_of {d : PyData} (h1 : d.canLay0 = true) (h2 : d.depth ≤ 64) : SeqAt.shaped d = true := by
  show (d.canLay0 && decide (d.depth ≤ 64)) = true
  rw [h1, Bool.true_and]
  exact decide_eq_true h2
theorem iD_shaped (xs : List Int) : SeqAt.shaped (iD xs) = true := by
  have h := ints_depth xs
  refine shaped_of (by simp only [iD, PyData.canLay0]; exact ints_lay xs) ?_
  simp only [iD, PyData.depth]
  omega
theorem pD_shaped (d : Int × Int) : SeqAt.shaped (pD d) = true := by
  refine shaped_of (by simp [pD, PyData.canLay0, PyData.canLayAll0]) ?_
  simp only [pD, PyData.depth, PyData.depthAll]
  omega
section
variable {K : PySem.W.Frag} {H : Hp}
theorem dp_ints : ∀ xs : List Int, DpAll K H (xs.map V.int) (xs.map PyData.int)
  | [] => .nil
  | x :: xs => .cons (.int x) (dp_ints xs)
theorem dp_list {a : Addr} {xs : List Int} (h : SqL K H a (xs.map V.int)) : Dp K H (.ref a) (iD xs) := .lst h (dp_ints xs)
theorem dp_pair {a : Addr} {d : Int × Int} (h : H a = some (.tup [.int d.1, .int d.2])) : Dp K H (.ref a) (pD d) := .tup (st_of h) (.cons (.int _) (.cons (.int _) .nil))
theorem nvs_int (l : List Nat) : nvs l = (l.map fun (k : Nat) => (k : Int)).map V.int := by rw [List.map_map]; rfl
end
section
variable {K : PySem.W.Frag} {σ : L2.St} {H : Hp} {ta tb te : TE} {x y z v : V}
/-- two like things -/
theorem rv_eqD {d : PyData} (h1 : ∀ H1, Ex H H1 → Dp K H1 x d) (h2 : ∀ H1, Ex H H1 → Dp K H1 y d) (hs : SeqAt.shaped d = true) : RV (rEqD K) x y H (.bl true) := fun H1 e Q q =>
  ⟨d, d, h1 H1 e, h2 H1 e, hs, hs, by rw [SeqAt.eqv_refl d (SeqAt.canLay_of_shaped hs)]; exact q H1 (Ex.refl _)⟩
theorem rv_neD {d : PyData} (h1 : ∀ H1, Ex H H1 → Dp K H1 x d) (h2 : ∀ H1, Ex H H1 → Dp K H1 y d) (hs : SeqAt.shaped d = true) : RV (rNeD K) x y H (.bl false) := fun H1 e Q q =>
  ⟨d, d, h1 H1 e, h2 H1 e, hs, hs, by rw [SeqAt.eqv_refl d (SeqAt.canLay_of_shaped hs)]; exact q H1 (Ex.refl _)⟩
theorem ev_isi {a b : String} {r : Bool} (ha : Ev ta σ H x) (ty : ∀ H1, Ex H H1 → TyX K H1 x (.type a)) (hk : kitB a b = some r) : Ev (tCB (rIsi K) (tCons ta (tCons (tC (.ty b)) tNil))) σ H (.bl r) := fun H1 e Q q =>
  ha H1 e _ fun H2 e2 => ⟨x, .ty b, _, _, r, rfl, .ty b, ty H2 (e.trans e2), kit_ty hk, q H2 e2⟩
theorem tx_int {i : Int} {H1 : Hp} : TyX K H1 (.int i) (.type "int") := .base (.int i)
theorem tx_bl {i : Bool} {H1 : Hp} : TyX K H1 (.bl i) (.type "bool") := .base (.bl i)
theorem tx_lst {a : Addr} {xs : List V} {H1 : Hp} (h : H1 a = some (.lst xs)) : TyX K H1 (.ref a) (.type "list") := .base (.lst h)
theorem tx_tup {a : Addr} {xs : List V} {H1 : Hp} (h : H1 a = some (.tup xs)) : TyX K H1 (.ref a) (.type "tuple") := .base (.tup h)
theorem ev_lenT {p : Addr} {xs : List V} (ha : Ev ta σ H (.ref p)) (h : SqT K H p xs) : Ev (tCB (rLenS K) (tCons ta tNil)) σ H (.int (xs.length : Int)) := fun H1 e Q q =>
  ha H1 e _ fun H2 e2 => ⟨p, xs, rfl, Or.inr (ex_t (e.trans e2) h), q H2 e2⟩
theorem rv_mod {i j : Int} (h : 0 < j) : RV rModI (.int i) (.int j) H (.int (i % j)) := rv_I h
theorem rv_div {i j : Int} (h : 0 < j ∧ j < 1073741824) : RV rDivI (.int i) (.int j) H (.int (i / j)) := rv_I h
end
theorem k_li : kitB "list" "list" = some true := by decide +kernel
theorem k_tt : kitB "tuple" "tuple" = some true := by decide +kernel
theorem k_ii : kitB "int" "int" = some true := by decide +kernel
theorem k_ib : kitB "int" "bool" = some false := by decide +kernel
theorem k_bb : kitB "bool" "bool" = some true := by decide +kernel
/-! ### promises -/
def sp__law_cell_at (g : Gb) : Sp := fun vs H Q _ => ∃ (l : Addr) (ns : List Int) (j : Nat), vs = [.ref l, .int (j : Int)] ∧ SqL g.K H l (ns.map V.int) ∧ RetV (.int (ns.getD j 0)) H Q
def sp__law_whole (g : Gb) : Sp := fun vs H Q _ => ∃ i : Int, vs = [.int i] ∧ RetV (.bl true) H Q
/-- two like lists of whole numbers -/
def sp__law_numbers (g : Gb) : Sp := fun vs H Q _ => ∃ (a b : Addr) (xs : List Int), vs = [.ref a, .ref b] ∧ H a = some (.lst (xs.map V.int)) ∧ SqL g.K H b (xs.map V.int) ∧ RetV (.bl true) H Q
/-- a drawn net: any, within the bounds -/
def Drawn (g : Gb) (most extra : Nat) (H : Hp) (Q : VK) : Prop := ∀ (n : Nat) (ds : List (Nat × Nat)) (q pa : Addr) (H2 : Hp), 1 ≤ n → n ≤ most → ds.length ≤ extra → (∀ d ∈ ds, d.1 < n ∧ d.2 < n) → Ex H H2 → H q = none → H pa = none → q ≠ pa →
  H2 q = some (.tup [nv n, .ref pa]) → PLt H2 pa (ds.map zp) → Q (.ref q) H2
def sp__law_net (g : Gb) : Sp := fun vs H Q _ => ∃ (l : Addr) (ns : List Int) (at_ most extra : Nat), vs = [.ref l, .int (at_ : Int), .int (most : Int), .int (extra : Int)] ∧ SqL g.K H l (ns.map V.int) ∧ 1 ≤ most ∧ most ≤ 40 ∧ extra ≤ 100 ∧ Drawn g most extra H Q
/-- two like lists of pairs -/
def sp__law_pairs (g : Gb) : Sp := fun vs H Q _ => ∃ (a b : Addr) (ds : List (Int × Int)), vs = [.ref a, .ref b] ∧ PLt H a ds ∧ PLt H b ds ∧ ds.length ≤ 1000 ∧ RetV (.bl true) H Q
def spLawK (K : PySem.W.Frag) : Sp := fun vs H Q _ => ∃ (a : Addr) (ns : List Int), vs = [.ref a] ∧ SqL K H a (ns.map V.int) ∧ ns.length ≤ 63 ∧ ∀ H2, Q (.bl true) H2
abbrev spLaw (g : Gb) : Sp := spLawK g.K
/-! _law_cell_at: slots 0 script 1 k -/
def t__law_cell_at (g : Gb) : TS := tSeq (tIfS (tTest (tOp rLtI (tVar 1) (tCB (rLenS g.K) (tCons (tVar 0) tNil)))) (tRet (tOp (rIxL g.K) (tVar 0) (tVar 1))) tNext)
  (tRet (tC (.int 0)))
abbrev N__law_cell_at : List Str := ["script", "k"]
/-! _law_whole: slots 0 found -/
def t__law_whole (g : Gb) : TS := tRet (tAndV (tCB (rIsi g.K) (tCons (tVar 0) (tCons (tC (.ty "int")) tNil))) (tNotV (tCB (rIsi g.K) (tCons (tVar 0) (tCons (tC (.ty "bool")) tNil)))))
abbrev N__law_whole : List Str := ["found"]
/-! _law_numbers: slots 0 found 1 due 2 x -/
def t__law_numbers_b1 (g : Gb)  : TS := tIfS (tNot (tB (tCall (sp__law_whole g) [] E0 (tCons (tVar 2) tNil)))) (tRet (tC (.bl false))) tNext
def t__law_numbers (g : Gb) : TS := tSeq (tIfS (tOr (tNot (tB (tCB (rIsi g.K) (tCons (tVar 0) (tCons (tC (.ty "list")) tNil))))) (tTest (tOp rNe (tCB (rLenS g.K) (tCons (tVar 0) tNil)) (tCB (rLenS g.K) (tCons (tVar 1) tNil))))) (tRet (tC (.bl false))) tNext)
  (tSeq (tFor (iList g.K (tVar 0)) (gName 2) (t__law_numbers_b1 g))
  (tRet (tOp (rEqD g.K) (tVar 0) (tVar 1))))
abbrev N__law_numbers : List Str := ["found", "due", "x"]
/-! _law_net: slots 0 script 1 at 2 most 3 extra 4 many 5 pairs 6 k 7 cell -/
def t__law_net_b1 (g : Gb)  : TS := tSeq (tAsg (tCall (sp__law_cell_at g) [] E0 (tCons (tVar 0) (tCons (tOp rAddI (tOp rAddI (tVar 1) (tC (.int 1))) (tVar 6)) tNil))) (gName 7))
  (tDrop (tBM g.K "list" rAppend (tVar 5) (tCons (tTup (tCons (tOp rModI (tVar 7) (tVar 4)) (tCons (tOp rModI (tOp rDivI (tVar 7) (tVar 4)) (tVar 4)) tNil))) tNil)))
def t__law_net (g : Gb) : TS := tSeq (tAsg (tOp rAddI (tC (.int 1)) (tOp rModI (tCall (sp__law_cell_at g) [] E0 (tCons (tVar 0) (tCons (tVar 1) tNil))) (tVar 2))) (gName 4))
  (tSeq (tAsg (tLst tNil) (gName 5))
  (tSeq (tFor (iRng1 (tCons (tOp rModI (tOp rDivI (tCall (sp__law_cell_at g) [] E0 (tCons (tVar 0) (tCons (tVar 1) tNil))) (tVar 2)) (tOp rAddI (tVar 3) (tC (.int 1)))) tNil)) (gName 6) (t__law_net_b1 g))
  (tRet (tTup (tCons (tVar 4) (tCons (tVar 5) tNil))))))
abbrev N__law_net : List Str := ["script", "at", "most", "extra", "many", "pairs", "k", "cell"]
/-! _law_pairs: slots 0 found 1 due 2 k -/
def t__law_pairs_b1 (g : Gb)  : TS := tSeq (tIfS (tOr (tNot (tB (tCB (rIsi g.K) (tCons (tOp (rIxL g.K) (tVar 0) (tVar 2)) (tCons (tC (.ty "tuple")) tNil))))) (tOr (tTest (tOp rNe (tCB (rLenS g.K) (tCons (tOp (rIxL g.K) (tVar 0) (tVar 2)) tNil)) (tC (.int 2)))) (tTest (tOp (rNeD g.K) (tOp (rIxL g.K) (tVar 0) (tVar 2)) (tOp (rIxL g.K) (tVar 1) (tVar 2)))))) (tRet (tC (.bl false))) tNext)
  (tIfS (tOr (tNot (tB (tCall (sp__law_whole g) [] E0 (tCons (tOp (rIxT g.K) (tOp (rIxL g.K) (tVar 0) (tVar 2)) (tC (.int 0))) tNil)))) (tNot (tB (tCall (sp__law_whole g) [] E0 (tCons (tOp (rIxT g.K) (tOp (rIxL g.K) (tVar 0) (tVar 2)) (tC (.int 1))) tNil))))) (tRet (tC (.bl false))) tNext)
def t__law_pairs (g : Gb) : TS := tSeq (tIfS (tOr (tNot (tB (tCB (rIsi g.K) (tCons (tVar 0) (tCons (tC (.ty "list")) tNil))))) (tTest (tOp rNe (tCB (rLenS g.K) (tCons (tVar 0) tNil)) (tCB (rLenS g.K) (tCons (tVar 1) tNil))))) (tRet (tC (.bl false))) tNext)
  (tSeq (tFor (iRng1 (tCons (tCB (rLenS g.K) (tCons (tVar 1) tNil)) tNil)) (gName 2) (t__law_pairs_b1 g))
  (tRet (tC (.bl true))))
abbrev N__law_pairs : List Str := ["found", "due", "k"]

section
variable {g : Gb} {σ : L2.St} {H B : Hp} {D : Ends} {E : XK} {Q : VK} {vs : List V} {p : Addr} {N : Nt} {te : TE}
theorem pure__law_cell_at (h : sp__law_cell_at g vs H Q E) : t__law_cell_at g { nx := fun _ H' => Q .non H', rt := Q } (start N__law_cell_at vs) H := by
  obtain ⟨l, ns, j, rfl, hs, k⟩ := h
  refine q_when (et_test (ev_op (ev_var rfl) (ev_len (ev_var rfl) hs) rv_I0)) (fun hb H1 e1 => ?_) (fun hb H1 e1 => ?_)
  · have hj : j < ns.length := by
      rw [List.length_map] at hb
      have := of_decide_eq_true hb
      omega
    refine s_ret (ev_op (ev_var rfl) (ev_var rfl) (rv_ixL (ex_l e1 hs) (atI_nat (v := V.int (ns.getD j 0)) ?_))) fun H2 e2 => k H2 (e1.trans e2)
    rw [List.getElem?_map, List.getD_eq_getElem?_getD, List.getElem?_eq_getElem hj]
    rfl
  · have hj : ¬ j < ns.length := by
      rw [List.length_map] at hb
      have := of_decide_eq_false hb
      omega
    refine s_ret ev_c fun H2 e2 => ?_
    have := k H2 (e1.trans e2)
    rw [List.getD_eq_getElem?_getD, List.getElem?_eq_none (by omega)] at this
    exact this
theorem pure__law_whole (h : sp__law_whole g vs H Q E) : t__law_whole g { nx := fun _ H' => Q .non H', rt := Q } (start N__law_whole vs) H := by
  obtain ⟨i, rfl, k⟩ := h
  exact s_ret (ev_andV (ev_isi (ev_var rfl) (fun _ _ => tx_int) k_ii) fun _ => ev_notV (ev_isi (ev_var rfl) (fun _ _ => tx_int) k_ib)) k
theorem ev_whole {i : Int} (h : Ev te σ H (.int i)) : Ev (tCall (sp__law_whole g) [] E0 (tCons te tNil)) σ H (.bl true) := ev_call1 (ea_cons h ea_nil) fun H1 e Q k => ⟨i, rfl, k⟩
theorem pure__law_numbers (h : sp__law_numbers g vs H Q E) : t__law_numbers g { nx := fun _ H' => Q .non H', rt := Q } (start N__law_numbers vs) H := by
  obtain ⟨a, b, xs, rfl, h1, h2, k⟩ := h
  refine q_when (b := false) (et_is (et_or (et_not (et_B (ev_isi (ev_var rfl) (fun H1 e => tx_lst (e _ _ h1)) k_li))) fun _ => et_test (ev_op (ev_len (ev_var rfl) (sq_of h1)) (ev_len (ev_var rfl) h2) (rv_ne rfl))) (by simp)) (fun hb => by cases hb) (fun _ H1 e1 => ?_)
  refine q_forLn (ev_var rfl) (sq_of (e1 _ _ h1)) (fun i σ' H' => Ex H H' ∧ ∃ s2, σ' = [some (.ref a), some (.ref b), s2]) (fun H2 e2 => ⟨e1.trans e2, _, rfl⟩) (fun i σ' H' _ hP => sq_of (hP.1 _ _ h1)) (fun i x σ' H' hx hP => ?_) (fun σ' H' hP => ?_)
  · obtain ⟨eH, s2, rfl⟩ := hP
    obtain ⟨z, rfl⟩ : ∃ z, x = V.int z := by
      rw [List.getElem?_map] at hx
      cases e : xs[i]? with
      | none => rw [e] at hx; cases hx
      | some z => rw [e] at hx; exact ⟨z, (Option.some.inj hx).symm⟩
    exact s_when (b := false) (et_not (et_B (ev_whole (ev_var rfl)))) (fun hb => by cases hb) fun _ H2 e2 => ⟨eH.trans e2, _, rfl⟩
  · obtain ⟨eH, s2, rfl⟩ := hP
    exact s_ret (ev_op (ev_var rfl) (ev_var rfl) (rv_eqD (fun H1 e => dp_list (sq_of (e _ _ (eH _ _ h1)))) (fun H1 e => dp_list (ex_l e (ex_l eH h2))) (iD_shaped xs))) fun H2 e2 => k H2 (eH.trans e2)
theorem ev_cell {l : Addr} {ns : List Int} {j : Nat} {te : TE} (h : Ev (tVar 0) σ H (.ref l)) (hs : SqL g.K H l (ns.map V.int)) (hj : Ev te σ H (.int (j : Int))) : Ev (tCall (sp__law_cell_at g) [] E0 (tCons (tVar 0) (tCons te tNil))) σ H (.int (ns.getD j 0)) :=
  ev_call1 (ea_cons h (ea_cons hj ea_nil)) fun H1 e Q k => ⟨l, ns, j, rfl, ex_l e hs, k⟩
theorem emod_nat (i : Int) {m : Nat} (h : 0 < m) : ∃ k : Nat, i % (m : Int) = (k : Int) ∧ k < m := by
  have h1 := Int.emod_nonneg i (b := (m : Int)) (by omega)
  have h2 := Int.emod_lt_of_pos i (b := (m : Int)) (by omega)
  exact ⟨(i % (m : Int)).toNat, by omega, by omega⟩
theorem pure__law_net (h : sp__law_net g vs H Q E) : t__law_net g { nx := fun _ H' => Q .non H', rt := Q } (start N__law_net vs) H := by
  obtain ⟨l, ns, at_, most, extra, rfl, hs, hm1, hm2, hx, k⟩ := h
  obtain ⟨n0, hn0, hn1⟩ := emod_nat (ns.getD at_ 0) (m := most) (by omega)
  obtain ⟨c, hc0, hc1⟩ := emod_nat (ns.getD at_ 0 / (most : Int)) (m := extra + 1) (by omega)
  -- many
  refine q_asg (v := nv (1 + n0)) (ev_is (ev_op ev_c (ev_op (ev_cell (ev_var rfl) hs (ev_var rfl)) (ev_var rfl) (rv_mod (by omega))) rv_I0) ?_) fun H1 e1 => ?_
  · show V.int (1 + ns.getD at_ 0 % (most : Int)) = V.int ((1 + n0 : Nat) : Int)
    rw [hn0]
    exact congrArg V.int (by omega)
  -- pairs = []
  refine q_asgL (el_lst ea_nil (Nat.zero_le _)) fun pa H2 hpa e2 hpa2 => ?_
  have hs2 : SqL g.K H2 l (ns.map V.int) := ex_l (e1.trans e2) hs
  have npa : H pa = none := fresh_back e1 hpa
  refine q_forR1 (n := (c : Int)) (ea_cons (ev_is (ev_op (ev_op (ev_cell (ev_var rfl) hs2 (ev_var rfl)) (ev_var rfl) (rv_div ⟨by omega, by omega⟩)) (ev_op (ev_var rfl) ev_c rv_I0) (rv_mod (by show (0 : Int) < (extra : Int) + 1; omega))) ?_) ea_nil) ⟨by omega, by omega⟩
    (fun i σ' H' => Ex H H' ∧ ∃ (ds : List (Nat × Nat)) (as : List Addr) (s6 s7 : Option V), ds.length = i ∧ (∀ d ∈ ds, d.1 < 1 + n0 ∧ d.2 < 1 + n0) ∧ H' pa = some (.lst (as.map V.ref)) ∧ PairsAt H' as (ds.map zp) ∧ σ' = [some (.ref l), some (.int (at_ : Int)), some (.int (most : Int)), some (.int (extra : Int)), some (nv (1 + n0)), some (.ref pa), s6, s7])
    (fun H3 e3 => ⟨(e1.trans e2).trans e3, [], [], none, none, rfl, (fun _ h => by cases h), e3 _ _ hpa2, Paired.nil, rfl⟩) (fun i σ' H' hi hP => ?_) (fun σ' H' hP => ?_)
  · show V.int (ns.getD at_ 0 / (most : Int) % ((extra : Int) + 1)) = V.int (c : Int)
    rw [← hc0]
    rfl
  · obtain ⟨eH, ds, as, s6, s7, hl, hds, hpa3, hps, rfl⟩ := hP
    obtain ⟨u, hu0, hu1⟩ := emod_nat (ns.getD (at_ + 1 + i) 0) (m := 1 + n0) (by omega)
    obtain ⟨w, hw0, hw1⟩ := emod_nat (ns.getD (at_ + 1 + i) 0 / ((1 + n0 : Nat) : Int)) (m := 1 + n0) (by omega)
    refine q_asg (ev_cell (j := at_ + 1 + i) (ev_var rfl) (ex_l eH hs) (ev_is (ev_op (ev_op (ev_var rfl) ev_c rv_I0) (ev_var rfl) rv_I0) ?_)) fun H3 e3 => ?_
    · exact congrArg V.int (by omega)
    refine s_appU (ys := [nv u, nv w]) (e3 _ _ hpa3) (ev_var rfl) (eu_tup (ea_cons (ev_is (ev_op (ev_var rfl) (ev_var rfl) (rv_mod (by omega))) ?_) (ea_cons (ev_is (ev_op (ev_op (ev_var rfl) (ev_var rfl) (rv_div ⟨by omega, by omega⟩)) (ev_var rfl) (rv_mod (by omega))) ?_) ea_nil)) (by show 2 ≤ 100000; decide)) ?_ fun t H4 ht e4 ht4 => ?_
    · exact congrArg V.int hu0
    · exact congrArg V.int hw0
    · rw [List.length_map]
      have h1 := paired_len hps
      rw [List.length_map] at h1
      omega
    · have ntp : t ≠ pa := fun z => by
        rw [z, e3 _ _ hpa3] at ht
        cases ht
      refine ⟨exU ((eH.trans e3).trans e4) npa, ds ++ [(u, w)], as ++ [t], _, _, ?_, fun d hd => ?_, ?_, ?_, rfl⟩
      · rw [List.length_append, hl]
        rfl
      · rcases List.mem_append.mp hd with hd | hd
        · exact hds d hd
        · rw [List.mem_singleton.mp hd]
          exact ⟨hu1, hw1⟩
      · rw [upd_same, List.map_append]
        rfl
      · rw [List.map_append]
        refine Paired.snoc (by rw [upd_ne ntp]; exact ht4) (Paired.mono (fun a d q => ?_) hps)
        have hap : a ≠ pa := ne_of q hpa3 (by intro z; cases z)
        rw [upd_ne hap]
        exact e4 _ _ (e3 _ _ q)
  · obtain ⟨eH, ds, as, s6, s7, hl, hds, hpa3, hps, rfl⟩ := hP
    refine s_retU (eu_tup (ea_cons (ev_var rfl) (ea_cons (ev_var rfl) ea_nil)) (by show 2 ≤ 100000; decide)) fun q H3 hq e3 hq3 => ?_
    refine k (1 + n0) ds q pa H3 (by omega) (by omega) (by omega) hds (eH.trans e3) (fresh_back eH hq) npa (fun z => ?_) hq3 ⟨as, e3 _ _ hpa3, hps.mono e3⟩
    rw [z, hpa3] at hq
    cases hq
theorem pure__law_pairs (h : sp__law_pairs g vs H Q E) : t__law_pairs g { nx := fun _ H' => Q .non H', rt := Q } (start N__law_pairs vs) H := by
  obtain ⟨a, b, ds, rfl, ⟨as, h1, h1p⟩, ⟨bs, h2, h2p⟩, hlen, k⟩ := h
  have la : (as.map V.ref).length = ds.length := by rw [List.length_map]; exact paired_len h1p
  have lb : (bs.map V.ref).length = ds.length := by rw [List.length_map]; exact paired_len h2p
  refine q_when (b := false) (et_is (et_or (et_not (et_B (ev_isi (ev_var rfl) (fun H1 e => tx_lst (e _ _ h1)) k_li))) fun _ => et_test (ev_op (ev_len (ev_var rfl) (sq_of h1)) (ev_len (ev_var rfl) (sq_of h2)) (rv_ne rfl))) (by rw [la, lb]; simp)) (fun hb => by cases hb) (fun _ H1 e1 => ?_)
  refine q_forR1 (n := (ds.length : Int)) (ea_cons (ev_is (ev_len (ev_var rfl) (sq_of (e1 _ _ h2))) (by rw [lb])) ea_nil) ⟨by omega, by omega⟩ (fun i σ' H' => Ex H H' ∧ ∃ s2, σ' = [some (.ref a), some (.ref b), s2]) (fun H2 e2 => ⟨e1.trans e2, _, rfl⟩) (fun i σ' H' hi hP => ?_) (fun σ' H' hP => ?_)
  · obtain ⟨eH, s2, rfl⟩ := hP
    have hi2 : i < ds.length := by omega
    obtain ⟨t, ht, ht2⟩ := Paired.at h1p (List.getElem?_eq_getElem hi2)
    obtain ⟨u, hu, hu2⟩ := Paired.at h2p (List.getElem?_eq_getElem hi2)
    have gt : (as.map V.ref)[i]? = some (V.ref t) := by rw [List.getElem?_map, ht]; rfl
    have gu : (bs.map V.ref)[i]? = some (V.ref u) := by rw [List.getElem?_map, hu]; rfl
    have et : Ev (tOp (rIxL g.K) (tVar 0) (tVar 2)) [some (V.ref a), some (V.ref b), some (V.int (i : Int))] H' (.ref t) := ev_op (ev_var rfl) (ev_var rfl) (rv_ixL (sq_of (eH _ _ h1)) (atI_nat gt))
    have eu : Ev (tOp (rIxL g.K) (tVar 1) (tVar 2)) [some (V.ref a), some (V.ref b), some (V.int (i : Int))] H' (.ref u) := ev_op (ev_var rfl) (ev_var rfl) (rv_ixL (sq_of (eH _ _ h2)) (atI_nat gu))
    refine q_when (b := false) (et_is (et_or (et_not (et_B (ev_isi et (fun H1 e => tx_tup (e _ _ (eH _ _ ht2))) k_tt))) fun _ => et_or (et_test (ev_op (ev_lenT et (st_of (eH _ _ ht2))) ev_c (rv_ne rfl))) fun _ => et_test (ev_op et eu (rv_neD (fun H1 e => dp_pair (e _ _ (eH _ _ ht2))) (fun H1 e => dp_pair (e _ _ (eH _ _ hu2))) (pD_shaped _)))) (by simp)) (fun hb => by cases hb) (fun _ H2 e2 => ?_)
    have et2 := et.mono e2
    exact s_when (b := false) (et_is (et_or (et_not (et_B (ev_whole (ev_op et2 ev_c (rv_ixT (st_of (e2 _ _ (eH _ _ ht2))) rfl))))) fun _ => et_not (et_B (ev_whole (ev_op et2 ev_c (rv_ixT (st_of (e2 _ _ (eH _ _ ht2))) rfl))))) rfl) (fun hb => by cases hb) fun _ H3 e3 => ⟨(eH.trans e2).trans e3, _, rfl⟩
  · obtain ⟨eH, s2, rfl⟩ := hP
    exact s_ret ev_c fun H2 e2 => k H2 (eH.trans e2)
/-- the call of the class, from the heap at the call -/
theorem init_ok {x dx l : Addr} {rooms : Int} {ds : List (Int × Int)} {R : VK} (hx : H x = none) (hdx : H dx = none) (hl : PLt H l ds) (hlen : ds.length ≤ 1000)
    (k : ∀ N H2, IsNet rooms ds N → x ≠ l → Ex H H2 → NetAt g (del H2 l) x N → R (.ref x) H2) (kE : (∀ N, ¬ IsNet rooms ds N) → RetX E g.cN H) :
    sp_Net___init__ g [.ref x, .int rooms, .ref l] (upd (upd H dx (.own x)) x (.ins g.C dx [])) (fun v H2 => v = .non ∧ R (.ref x) H2) E := by
  have e2 : Ex H (upd (upd H dx (.own x)) x (.ins g.C dx [])) := fun a o ha => by
    rw [upd_ne (ne_of_none ha hx), upd_ne (ne_of_none ha hdx)]
    exact ha
  refine ⟨x, dx, l, rooms, ds, rfl, upd_same, hl.mono e2, hlen, fun M hM H2 hn hk => ⟨rfl, ?_⟩, fun h H2 e => kE h H2 (e2.trans e)⟩
  obtain ⟨as, ha, _⟩ := hl
  refine k M H2 hM (fun z => ?_) (fun a o ha => hk a o (e2 _ _ ha) (ne_of_none ha hx)) hn
  rw [z] at hx
  rw [hx] at ha
  cases ha
theorem zp_inj : ∀ a b : List (Nat × Nat), a.map zp = b.map zp → a = b
  | [], [], _ => rfl
  | [], _ :: _, h => nomatch h
  | _ :: _, [], h => nomatch h
  | x :: a, y :: b, h => by
    obtain ⟨h1, h2⟩ := List.cons.inj h
    have h5 : ((x.1 : Nat) : Int) = (y.1 : Nat) := congrArg Prod.fst h1
    have h6 : ((x.2 : Nat) : Int) = (y.2 : Nat) := congrArg Prod.snd h1
    rw [zp_inj a b h2, show x = y from Prod.ext (by omega) (by omega)]
theorem isNet_eq {N M : Nt} (h : IsNet (N.n : Int) (N.ds.map zp) M) : M = N := by
  obtain ⟨_, h2, h3⟩ := h
  cases M
  cases N
  have e := (zp_inj _ _ h3).symm
  have e1 : (_ : Int) = _ := h2
  simp only at e e1
  have e2 := Int.ofNat.inj e1
  subst e e2
  rfl
/-- net = Net(many, pairs): the list's own address forgotten, a net stands at a new address -/
theorem q_net {tm tl : TE} {i : Nat} {tz : TS} {la : Addr} (hN : N.Ok) (h1 : Ev tm σ H (nv N.n)) (h2 : Ev tl σ H (.ref la)) (hl : PLt H la (N.ds.map zp))
    (k : ∀ x H1, H x = none → x ≠ la → Ex H H1 → NetAt g (del H1 la) x N → tz D (σ.set i (some (.ref x))) H1) : tSeq (tAsg (tMake g.C (sp_Net___init__ g) [] E0 (tCons tm (tCons tl tNil))) (gName i)) tz D σ H :=
  q_mkX (ea_cons h1 (ea_cons h2 ea_nil)) fun H1 e1 x dx hx hdx _ => init_ok (R := fun v H2 => tz D (σ.set i (some v)) H2) hx hdx (hl.mono e1) (by have := hN.few; rw [List.length_map]; omega)
    (fun M H2 hM hxl e2 hn => k x H2 (fresh_back e1 hx) hxl (e1.trans e2) (isNet_eq hM ▸ hn)) (fun h => (h N ⟨hN, rfl, rfl⟩).elim)
theorem ev_leads {te tr : TE} {x : Addr} {r : Nat} (h : Ev te σ H (.ref x)) (hr : Ev tr σ H (nv r)) (hn : NetAt g H x N) (hlt : r < N.n) : EvL (tMeth g.C "leads" (sp_Net_leads g) [] E0 te (tCons tr tNil)) σ H (nvs (N.ahead r)) := fun H1 e1 Q q =>
  h H1 e1 _ fun H2 e2 => let ⟨_, dx, pa, aa, ba, h1, _⟩ := hn.mono (e1.trans e2); ⟨x, dx, _, rfl, h1, netF_no _ _ _ _ (by decide +kernel) (by decide +kernel) (by decide +kernel) (by decide +kernel), hr H2 (e1.trans e2) _ fun H3 e3 =>
    ⟨x, N, r, rfl, hn.mono ((e1.trans e2).trans e3), fun k _ hk => by
      have : r = k := by omega
      subst this
      exact fun p H4 hp e4 h4 => q p H4 (fresh_back (e2.trans e3) hp) ((e2.trans e3).trans e4) h4, fun z => (z ⟨by omega, by omega⟩).elim⟩⟩
theorem ev_led {te tr : TE} {x : Addr} {r : Nat} (h : Ev te σ H (.ref x)) (hr : Ev tr σ H (nv r)) (hn : NetAt g H x N) (hlt : r < N.n) : EvL (tMeth g.C "led" (sp_Net_led g) [] E0 te (tCons tr tNil)) σ H (nvs (N.behind r)) := fun H1 e1 Q q =>
  h H1 e1 _ fun H2 e2 => let ⟨_, dx, pa, aa, ba, h1, _⟩ := hn.mono (e1.trans e2); ⟨x, dx, _, rfl, h1, netF_no _ _ _ _ (by decide +kernel) (by decide +kernel) (by decide +kernel) (by decide +kernel), hr H2 (e1.trans e2) _ fun H3 e3 =>
    ⟨x, N, r, rfl, hn.mono ((e1.trans e2).trans e3), fun k _ hk => by
      have : r = k := by omega
      subst this
      exact fun p H4 hp e4 h4 => q p H4 (fresh_back (e2.trans e3) hp) ((e2.trans e3).trans e4) h4, fun z => (z ⟨by omega, by omega⟩).elim⟩⟩
theorem ev_rooms {te : TE} {x : Addr} (h : Ev te σ H (.ref x)) (hn : NetAt g H x N) : Ev (tMeth g.C "rooms" (sp_Net_rooms g) [] E0 te tNil) σ H (nv N.n) := fun H1 e1 Q q =>
  h H1 e1 _ fun H2 e2 => let ⟨_, dx, pa, aa, ba, h1, _⟩ := hn.mono (e1.trans e2); ⟨x, dx, _, rfl, h1, netF_no _ _ _ _ (by decide +kernel) (by decide +kernel) (by decide +kernel) (by decide +kernel),
    ⟨x, N, rfl, hn.mono (e1.trans e2), fun H3 e3 => q H3 (e2.trans e3)⟩⟩
/-- a fresh list of pairs -/
def EvPL (te : TE) (σ : L2.St) (H : Hp) (ds : List (Int × Int)) : Prop := EvP te σ H (fun H1 v H2 => ∃ p, v = .ref p ∧ H1 p = none ∧ PLt H2 p ds)
theorem ev_doors {te : TE} {x : Addr} (h : Ev te σ H (.ref x)) (hn : NetAt g H x N) : EvPL (tMeth g.C "doors" (sp_Net_doors g) [] E0 te tNil) σ H (N.ds.map zp) := fun H1 e1 Q q =>
  h H1 e1 _ fun H2 e2 => let ⟨_, dx, pa, aa, ba, h1, _⟩ := hn.mono (e1.trans e2); ⟨x, dx, _, rfl, h1, netF_no _ _ _ _ (by decide +kernel) (by decide +kernel) (by decide +kernel) (by decide +kernel),
    ⟨x, N, rfl, hn.mono (e1.trans e2), fun p H3 hp e3 h3 => q _ H3 (e2.trans e3) ⟨p, rfl, fresh_back e2 hp, h3⟩⟩⟩
theorem ev_numbers {ta tb : TE} {a b : Addr} {xs : List Nat} (h1 : Ev ta σ H (.ref a)) (h2 : Ev tb σ H (.ref b)) (h3 : H a = some (.lst (nvs xs))) (h4 : H b = some (.lst (nvs xs))) : Ev (tCall (sp__law_numbers g) [] E0 (tCons ta (tCons tb tNil))) σ H (.bl true) :=
  ev_call1 (ea_cons h1 (ea_cons h2 ea_nil)) fun H1 e Q k => ⟨a, b, _, rfl, by rw [← nvs_int]; exact e _ _ h3, by rw [← nvs_int]; exact sq_of (e _ _ h4), k⟩
theorem ev_pairs {ta tb : TE} {a b : Addr} {ds : List (Int × Int)} (h1 : Ev ta σ H (.ref a)) (h2 : Ev tb σ H (.ref b)) (h3 : PLt H a ds) (h4 : PLt H b ds) (hl : ds.length ≤ 1000) : Ev (tCall (sp__law_pairs g) [] E0 (tCons ta (tCons tb tNil))) σ H (.bl true) :=
  ev_call1 (ea_cons h1 (ea_cons h2 ea_nil)) fun H1 e Q k => ⟨a, b, ds, rfl, h3.mono e, h4.mono e, hl, k⟩
theorem PLt.del {H : Hp} {a l : Addr} {ds : List (Int × Int)} {xs : List V} (h : PLt H a ds) (hl : H l = some (.lst xs)) (hne : a ≠ l) : PLt (del H l) a ds :=
  let ⟨as, h1, h2⟩ := h
  ⟨as, by rw [del_ne hne]; exact h1, Paired.mono (fun c d q => by rw [del_ne (ne_of q hl (by intro z; cases z))]; exact q) h2⟩
/-! ### lists of pairs as data -/
theorem pairs_lay : ∀ xs : List (Int × Int), PyData.canLayAll0 (xs.map pD) = true
  | [] => by simp [PyData.canLayAll0]
  | x :: xs => by
    have h : (pD x).canLay0 = true := by simp [pD, PyData.canLay0, PyData.canLayAll0]
    simp [PyData.canLayAll0, h, pairs_lay xs]
theorem pairs_depth : ∀ xs : List (Int × Int), PyData.depthAll (xs.map pD) ≤ 2
  | [] => by simp [PyData.depthAll]
  | x :: xs => by
    have h := pairs_depth xs
    simp only [List.map_cons, PyData.depthAll, PyData.depth, pD]
    omega
theorem dp_pairs {K : PySem.W.Frag} {H : Hp} {a : Addr} {ds : List (Int × Int)} (h : PLt H a ds) : Dp K H (.ref a) (.list (ds.map pD)) := by
  obtain ⟨as, h1, h2⟩ := h
  refine .lst (sq_of h1) ?_
  clear h1
  unfold PairsAt at h2
  induction h2 with
  | nil => exact .nil
  | cons r _ ih => exact .cons (dp_pair r) ih
end
end Mp

/-! Plain graphs: what is reached past a room, paths, which rooms guard which. -/
namespace Mp
abbrev DL := List (Nat × Nat)
inductive Rch (ds : DL) (s : Int) : Nat → Prop
  | zero : s ≠ 0 → Rch ds s 0
  | step {a b : Nat} : Rch ds s a → (a, b) ∈ ds → (b : Int) ≠ s → Rch ds s b
/-- from a to b by the rooms w, none of them s -/
inductive Pth (ds : DL) (s : Int) : Nat → List Nat → Nat → Prop
  | one {a : Nat} : (a : Int) ≠ s → Pth ds s a [a] a
  | cons {a c b : Nat} {w : List Nat} : (a, c) ∈ ds → (a : Int) ≠ s → Pth ds s c w b → Pth ds s a (a :: w) b
section
variable {ds : DL} {s t : Int} {a b c r x : Nat} {w u v : List Nat}
theorem Rch.ne (h : Rch ds s r) : (r : Int) ≠ s := by
  cases h with
  | zero h => exact fun z => h z.symm
  | step _ _ h => exact h
theorem Rch.next (h : Rch ds (-1) a) (hd : (a, b) ∈ ds) : Rch ds (-1) b := .step h hd (by omega)
theorem Rch.weak (h : Rch ds s r) : Rch ds (-1) r := by
  induction h with
  | zero h => exact .zero (by decide)
  | step _ h1 _ ih => exact .step ih h1 (by omega)
theorem Rch.lt {n : Nat} (hn : 1 ≤ n) (ok : ∀ d ∈ ds, d.1 < n ∧ d.2 < n) (h : Rch ds s r) : r < n := by
  cases h with
  | zero h => omega
  | step _ h1 _ => exact (ok _ h1).2
theorem Rch.not_zero : ¬ Rch ds 0 r := fun h => by
  induction h with
  | zero h => exact h rfl
  | step _ _ _ ih => exact ih
theorem Rch.mono {es : DL} (hs : ∀ d ∈ ds, d ∈ es) (h : Rch ds s r) : Rch es s r := by
  induction h with
  | zero h => exact .zero h
  | step _ h1 h2 ih => exact .step ih (hs _ h1) h2
theorem Pth.fst (h : Pth ds s a w b) : ∃ u, w = a :: u := by
  cases h with
  | one _ => exact ⟨_, rfl⟩
  | cons _ _ _ => exact ⟨_, rfl⟩
theorem Pth.last (h : Pth ds s a w b) : w.getLast? = some b := by
  induction h with
  | one _ => rfl
  | cons h1 h2 h3 ih =>
    obtain ⟨u, rfl⟩ := h3.fst
    rw [List.getLast?_cons_cons]
    exact ih
theorem Pth.mem_last (h : Pth ds s a w b) : b ∈ w := List.mem_of_getLast? h.last
theorem Pth.ne (h : Pth ds s a w b) : ∀ x ∈ w, (x : Int) ≠ s := by
  induction h with
  | one h => exact fun x hx => by rw [List.mem_singleton.mp hx]; exact h
  | cons h1 h2 h3 ih =>
    intro x hx
    rcases List.mem_cons.mp hx with rfl | hx
    · exact h2
    · exact ih x hx
theorem Pth.rch (h : Pth ds s a w b) (ha : Rch ds s a) : ∀ x ∈ w, Rch ds s x := by
  induction h with
  | one h => exact fun x hx => by rw [List.mem_singleton.mp hx]; exact ha
  | cons h1 h2 h3 ih =>
    intro x hx
    rcases List.mem_cons.mp hx with rfl | hx
    · exact ha
    · obtain ⟨u, rfl⟩ := h3.fst
      exact ih (.step ha h1 (h3.ne _ List.mem_cons_self)) x hx
/-- the same path past another room that does not stand in it -/
theorem Pth.past (h : Pth ds s a w b) (hw : ∀ x ∈ w, (x : Int) ≠ t) : Pth ds t a w b := by
  induction h with
  | one h => exact .one (hw _ List.mem_cons_self)
  | cons h1 h2 h3 ih => exact .cons h1 (hw _ List.mem_cons_self) (ih fun x hx => hw x (List.mem_cons_of_mem _ hx))
theorem Pth.split (h : Pth ds s a w b) (hx : x ∈ w) : ∃ u v, w = u ++ x :: v ∧ x ∉ u ∧ Pth ds s a (u ++ [x]) x ∧ Pth ds s x (x :: v) b := by
  induction h with
  | one h => exact ⟨[], [], by rw [List.mem_singleton.mp hx]; rfl, by simp, by rw [List.mem_singleton.mp hx]; exact .one h, by rw [List.mem_singleton.mp hx]; exact .one h⟩
  | @cons a c b w h1 h2 h3 ih =>
    by_cases e : x = a
    · subst e
      exact ⟨[], w, rfl, by simp, .one h2, .cons h1 h2 h3⟩
    · rcases List.mem_cons.mp hx with e' | hx
      · exact (e e').elim
      · obtain ⟨u, v, rfl, h4, h5, h6⟩ := ih hx
        exact ⟨a :: u, v, rfl, fun z => by
          rcases List.mem_cons.mp z with z | z
          · exact e z
          · exact h4 z, .cons h1 h2 h5, h6⟩
theorem Pth.append (h : Pth ds s a w b) : ∀ {v : List Nat} {c : Nat}, Pth ds s b (b :: v) c → Pth ds s a (w ++ v) c := by
  induction h with
  | one h => exact fun h2 => h2
  | cons h1 h2 h3 ih => exact fun h4 => .cons h1 h2 (ih h4)
theorem Pth.snoc (h : Pth ds s a w b) (h1 : (b, c) ∈ ds) (h2 : (c : Int) ≠ s) : Pth ds s a (w ++ [c]) c :=
  h.append (.cons h1 (h.ne _ h.mem_last) (.one h2))
/-- any path can be made one without a room twice -/
theorem Pth.short : ∀ {n : Nat} {w : List Nat}, w.length ≤ n → Pth ds s a w b → ∃ u, Pth ds s a u b ∧ u.Nodup ∧ (∀ x ∈ u, x ∈ w) := by
  intro n
  induction n generalizing a with
  | zero =>
      intro w hl h
      obtain ⟨u, rfl⟩ := h.fst
      exact absurd hl (by simp)
  | succ n ih =>
      intro w hl h
      cases h with
      | one h => exact ⟨[_], .one h, by simp, fun x hx => hx⟩
      | @cons a c _ w h1 h2 h3 =>
        by_cases hm : a ∈ w
        · obtain ⟨u, v, rfl, _, _, h6⟩ := h3.split hm
          obtain ⟨z, q1, q2, q3⟩ := ih (w := a :: v) (by simp at hl; simp; omega) h6
          exact ⟨z, q1, q2, fun x hx => by
            rcases List.mem_cons.mp (q3 x hx) with e | e
            · rw [e]; exact List.mem_cons_self
            · exact List.mem_cons_of_mem _ (List.mem_append_right _ (List.mem_cons_of_mem _ e))⟩
        · obtain ⟨z, q1, q2, q3⟩ := ih (w := w) (by simp at hl; omega) h3
          exact ⟨a :: z, .cons h1 h2 q1, List.nodup_cons.mpr ⟨fun hz => hm (q3 a hz), q2⟩, fun x hx => by
            rcases List.mem_cons.mp hx with e | e
            · rw [e]; exact List.mem_cons_self
            · exact List.mem_cons_of_mem _ (q3 x e)⟩
theorem Rch.pth (h : Rch ds s r) : ∃ w, Pth ds s 0 w r := by
  induction h with
  | zero h => exact ⟨[0], .one (fun z => h z.symm)⟩
  | step _ h1 h2 ih =>
    obtain ⟨w, hw⟩ := ih
    exact ⟨_, hw.snoc h1 h2⟩
theorem rch0 (hs : s ≠ 0) : Rch ds s 0 := .zero hs
theorem Pth.rch0 (h : Pth ds s 0 w b) : ∀ x ∈ w, Rch ds s x := by
  obtain ⟨u, rfl⟩ := h.fst
  exact h.rch (.zero fun z => h.ne 0 List.mem_cons_self (by omega))
/-- a way: from 0, no room twice -/
structure Way (ds : DL) (s : Int) (w : List Nat) (r : Nat) : Prop where
  p : Pth ds s 0 w r
  nd : w.Nodup
theorem Rch.way (h : Rch ds s r) : ∃ w, Way ds s w r := by
  obtain ⟨w, hw⟩ := h.pth
  obtain ⟨u, h1, h2, _⟩ := Pth.short (Nat.le_refl _) hw
  exact ⟨u, h1, h2⟩
theorem Way.rch (h : Way ds s w r) : Rch ds s r := h.p.rch0 r h.p.mem_last
/-- a guards b -/
def Dm (ds : DL) (a b : Nat) : Prop := Rch ds (-1) b ∧ ¬ Rch ds (a : Int) b
theorem Dm.mem (h : Dm ds a b) (hw : Pth ds (-1) 0 w b) : a ∈ w := by
  refine Classical.byContradiction fun hn => h.2 ?_
  refine (hw.past (t := (a : Int)) fun x hx z => hn ?_).rch0 b hw.mem_last
  have : x = a := by omega
  exact this ▸ hx
theorem Dm.refl (h : Rch ds (-1) a) : Dm ds a a := ⟨h, fun z => z.ne rfl⟩
theorem Dm.zero (h : Rch ds (-1) a) : Dm ds 0 a := ⟨h, Rch.not_zero⟩
theorem Dm.rch1 (h : Dm ds a b) : Rch ds (-1) a := by
  obtain ⟨w, hw⟩ := h.1.pth
  exact hw.rch0 a (h.mem hw)
theorem pth_unique_mem (h : w = u ++ x :: v) (nd : w.Nodup) : x ∉ u ∧ x ∉ v := by
  rw [h] at nd
  have h1 := List.nodup_append.mp nd
  exact ⟨fun hx => h1.2.2 x hx x List.mem_cons_self rfl, (List.nodup_cons.mp h1.2.1).1⟩
theorem Dm.antisymm (h1 : Dm ds a b) (h2 : Dm ds b a) : a = b := by
  refine Classical.byContradiction fun hne => ?_
  obtain ⟨w, hw⟩ := h1.rch1.way
  have hb : b ∈ w := h2.mem hw.p
  obtain ⟨u, v, rfl, hbu, p1, p2⟩ := hw.p.split hb
  have ha : a ∈ u := by
    rcases List.mem_append.mp (h1.mem p1) with h | h
    · exact h
    · exact (hne (List.mem_singleton.mp h)).elim
  have ha2 : a ∈ b :: v := p2.mem_last
  exact (List.nodup_append.mp hw.nd).2.2 a ha a ha2 rfl
/-- what stands ahead of a guard guards it, being a guard of the same room -/
theorem Dm.order (hw : Way ds (-1) w r) (e : w = u ++ a :: v) (hb : b ∈ v) (h1 : Dm ds a r) (h2 : Dm ds b r) : Dm ds a b := by
  refine ⟨h2.rch1, fun hr => h1.2 ?_⟩
  have hav := pth_unique_mem e hw.nd
  have hbw : b ∈ w := by rw [e]; exact List.mem_append_right _ (List.mem_cons_of_mem _ hb)
  obtain ⟨p, hp⟩ := hr.pth
  obtain ⟨u2, v2, e2, hbu, p1, p2⟩ := hw.p.split hbw
  -- v2 is a suffix of v
  have hnav : a ∉ b :: v2 := by
    -- a stands ahead of b
    have key : ∀ {u u2 v v2 : List Nat}, u ++ a :: v = u2 ++ b :: v2 → b ∈ v → a ∉ u → (u ++ a :: v).Nodup → a ∉ b :: v2 := by
      intro u
      induction u with
      | nil =>
        intro u2 v v2 e hb _ nd hn
        cases u2 with
        | nil =>
          simp at e
          obtain ⟨e1, e2⟩ := e
          subst e1 e2
          exact (List.nodup_cons.mp nd).1 hb
        | cons y u2 =>
          simp at e
          obtain ⟨e1, e2⟩ := e
          subst e1
          refine (List.nodup_cons.mp nd).1 ?_
          show a ∈ v
          rw [e2]
          exact List.mem_append_right _ hn
      | cons y u ih =>
        intro u2 v v2 e hb hau nd hn
        cases u2 with
        | nil =>
          simp at e
          obtain ⟨e1, e2⟩ := e
          subst e1
          refine (List.nodup_cons.mp nd).1 ?_
          exact List.mem_append_right _ (List.mem_cons_of_mem _ hb)
        | cons z u2 =>
          simp at e
          obtain ⟨e1, e2⟩ := e
          subst e1
          exact ih e2 hb (fun z => hau (List.mem_cons_of_mem _ z)) (List.nodup_cons.mp nd).2 hn
    exact key (e ▸ e2) hb hav.1 (e ▸ hw.nd)
  have q := p2.past (t := (a : Int)) fun x hx z => hnav (by
    have : x = a := by omega
    exact this ▸ hx)
  have := hp.append q
  exact this.rch0 r this.mem_last
theorem Dm.trans (h1 : Dm ds a b) (h2 : Dm ds b c) : Dm ds a c := by
  refine ⟨h2.1, fun h => ?_⟩
  obtain ⟨w, hw⟩ := h.pth
  have hw1 : Pth ds (-1) 0 w c := hw.past fun x _ => by omega
  obtain ⟨u, v, rfl, _, p1, p2⟩ := hw1.split (h2.mem hw1)
  exact hw.ne a (by
    rcases List.mem_append.mp (h1.mem p1) with h | h
    · exact List.mem_append_left _ h
    · rw [List.mem_singleton.mp h]; exact List.mem_append_right _ List.mem_cons_self) rfl
open Classical in
noncomputable def rch (ds : DL) (s : Int) (r : Nat) : Bool := decide (Rch ds s r)
open Classical in
noncomputable def dm (ds : DL) (a b : Nat) : Bool := decide (Dm ds a b)
open Classical in
theorem rch_iff : rch ds s r = true ↔ Rch ds s r := by unfold rch; exact decide_eq_true_iff
open Classical in
theorem rch_no : rch ds s r = false ↔ ¬ Rch ds s r := by unfold rch; exact decide_eq_false_iff_not
open Classical in
theorem dm_iff : dm ds a b = true ↔ Dm ds a b := by unfold dm; exact decide_eq_true_iff
open Classical in
theorem dm_no : dm ds a b = false ↔ ¬ Dm ds a b := by unfold dm; exact decide_eq_false_iff_not
theorem dm_eq : dm ds a b = (rch ds (-1) b && !rch ds (a : Int) b) := by
  rw [Bool.eq_iff_iff, dm_iff, Bool.and_eq_true, rch_iff, Bool.not_eq_true', rch_no]
  exact Iff.rfl
/-- the guards of r in a way -/
noncomputable def gdsOf (ds : DL) (r : Nat) (w : List Nat) : List Nat := w.filter fun a => dm ds a r
theorem gdsOf_pw (hw : Way ds (-1) w r) : (gdsOf ds r w).Pairwise (Dm ds) := by
  have key : ∀ {u v : List Nat}, w = u ++ v → (v.filter fun a => dm ds a r).Pairwise (Dm ds) := by
    intro u v
    induction v generalizing u with
    | nil => intro _; exact .nil
    | cons a v ih =>
      intro e
      have h1 := ih (u := u ++ [a]) (by rw [e]; simp)
      rw [List.filter_cons]
      by_cases hd : dm ds a r = true
      · rw [if_pos hd]
        refine List.pairwise_cons.mpr ⟨fun b hb => ?_, h1⟩
        have := List.mem_filter.mp hb
        exact Dm.order hw e this.1 (dm_iff.mp hd) (dm_iff.mp this.2)
      · rw [if_neg hd]
        exact h1
  exact key (u := []) rfl
theorem gdsOf_mem (hw : Way ds (-1) w r) : a ∈ gdsOf ds r w ↔ Dm ds a r := by
  unfold gdsOf
  rw [List.mem_filter, dm_iff]
  exact ⟨fun h => h.2, fun h => ⟨h.mem hw.p, h⟩⟩
/-- two lists in the order of guarding, of like members -/
theorem dm_same {l m : List Nat} (hl : l.Pairwise (Dm ds)) (hm : m.Pairwise (Dm ds)) (nl : l.Nodup) (nm : m.Nodup) (h : ∀ x, x ∈ l ↔ x ∈ m) : l = m :=
  List.Perm.eq_of_pairwise (fun _ _ _ _ h1 h2 => h1.antisymm h2) hl hm ((List.perm_ext_iff_of_nodup nl nm).mpr h)
open Classical in
noncomputable def gds (ds : DL) (r : Nat) : List Nat := if h : ∃ w, Way ds (-1) w r then gdsOf ds r h.choose else []
theorem gds_eq (hw : Way ds (-1) w r) : gdsOf ds r w = gds ds r := by
  unfold gds
  have h : ∃ w, Way ds (-1) w r := ⟨w, hw⟩
  rw [dif_pos h]
  have hc := h.choose_spec
  exact dm_same (gdsOf_pw hw) (gdsOf_pw hc) (hw.nd.filter _) (hc.nd.filter _) fun x => by rw [gdsOf_mem hw, gdsOf_mem hc]
theorem gds_pw (h : Rch ds (-1) r) : (gds ds r).Pairwise (Dm ds) := let ⟨_, hw⟩ := h.way; gds_eq hw ▸ gdsOf_pw hw
theorem gds_nd (h : Rch ds (-1) r) : (gds ds r).Nodup := let ⟨_, hw⟩ := h.way; gds_eq hw ▸ hw.nd.filter _
theorem gds_mem (h : Rch ds (-1) r) : a ∈ gds ds r ↔ Dm ds a r := let ⟨_, hw⟩ := h.way; gds_eq hw ▸ gdsOf_mem hw
/-- the guards, told in any way -/
theorem gds_is {l : List Nat} (h : Rch ds (-1) r) (nd : l.Nodup) (pw : l.Pairwise (Dm ds)) (hm : ∀ a, a ∈ l ↔ Dm ds a r) : gds ds r = l :=
  dm_same (gds_pw h) pw (gds_nd h) nd fun x => by rw [gds_mem h, hm]
theorem Dm.total (h1 : Dm ds a r) (h2 : Dm ds b r) : Dm ds a b ∨ Dm ds b a := by
  obtain ⟨w, hw⟩ := h1.1.way
  have ha := h1.mem hw.p
  obtain ⟨u, v, e⟩ := List.append_of_mem ha
  have hb := h2.mem hw.p
  rw [e] at hb
  rcases List.mem_append.mp hb with hb | hb
  · obtain ⟨u2, v2, e2⟩ := List.append_of_mem hb
    refine .inr (Dm.order hw (u := u2) (v := v2 ++ a :: v) (by rw [e, e2]; simp) (List.mem_append_right _ List.mem_cons_self) h2 h1)
  · rcases List.mem_cons.mp hb with rfl | hb
    · exact .inl (.refl h1.rch1)
    · exact .inl (Dm.order hw e hb h1 h2)
end
end Mp

/-! The package's ways.py and guards.py but bars_of. -/
namespace Mp
open PySem L2 Evl
/-! ### dicts by rooms -/
def dK (l : List (Nat × V)) : List (Key × V) := l.map fun e => ((.inl (e.1 : Int) : Key), e.2)
def ks (l : List (Nat × V)) : List Nat := l.map (·.1)
section
variable {l m : List (Nat × V)} {r : Nat} {v : V}
theorem kne {a b : Nat} (h : a ≠ b) : ¬ ((.inl (a : Int) : Key) = .inl (b : Int)) := fun z => h (by have := Sum.inl.inj z; omega)
theorem dK_has : (valV (dK l) (.inl (r : Int))).isSome = decide (r ∈ ks l) := by
  induction l with
  | nil => simp [dK, ks, valV_nil]
  | cons e l ih =>
    by_cases h : e.1 = r
    · rw [show dK (e :: l) = ((.inl (e.1 : Int) : Key), e.2) :: dK l from rfl, valV_pos (by rw [h])]
      simp [ks, h]
    · rw [show dK (e :: l) = ((.inl (e.1 : Int) : Key), e.2) :: dK l from rfl, valV_neg (kne h), ih]
      refine decide_eq_decide.mpr ⟨fun z => List.mem_cons_of_mem _ z, fun z => ?_⟩
      rcases List.mem_cons.mp z with z | z
      · exact (h z.symm).elim
      · exact z
theorem dK_none (h : r ∉ ks l) : valV (dK l) (.inl (r : Int)) = none := by
  have h1 := dK_has (l := l) (r := r)
  rw [decide_eq_false h] at h1
  cases e : valV (dK l) (.inl (r : Int)) with
  | none => rfl
  | some v => rw [e] at h1; cases h1
theorem dK_get {i : Nat} (nd : (ks l).Nodup) (h : l[i]? = some (r, v)) : valV (dK l) (.inl (r : Int)) = some v := by
  induction l generalizing i with
  | nil => simp at h
  | cons e l ih =>
    have nd2 := List.nodup_cons.mp nd
    cases i with
    | zero =>
      simp at h
      subst h
      exact valV_pos rfl
    | succ i =>
      have h2 : l[i]? = some (r, v) := by simpa using h
      have hm : r ∈ ks l := List.mem_map.mpr ⟨_, List.mem_of_getElem? h2, rfl⟩
      have hne : e.1 ≠ r := fun z => nd2.1 (by show e.1 ∈ ks l; rw [z]; exact hm)
      rw [show dK (e :: l) = ((.inl (e.1 : Int) : Key), e.2) :: dK l from rfl, valV_neg (kne hne)]
      exact ih nd2.2 h2
theorem dK_put (h : r ∉ ks l) : putK (dK l) (.inl (r : Int)) v = dK (l ++ [(r, v)]) := by
  rw [putK_new v (dK_none h)]
  unfold dK
  rw [List.map_append]
  rfl
theorem ks_append : ks (l ++ m) = ks l ++ ks m := List.map_append ..
theorem ks_at {i : Nat} (h : (ks l)[i]? = some r) : ∃ v, l[i]? = some (r, v) := by
  unfold ks at h
  rw [List.getElem?_map] at h
  cases e : l[i]? with
  | none => rw [e] at h; cases h
  | some p => rw [e] at h; exact ⟨p.2, by rw [← Option.some.inj h]⟩
theorem ks_mem (h : r ∈ ks l) : ∃ (i : Nat) (v : V), l[i]? = some (r, v) := by
  obtain ⟨i, hi, e⟩ := List.mem_iff_getElem.mp h
  obtain ⟨v, hv⟩ := ks_at (l := l) (i := i) (r := r) (by rw [List.getElem?_eq_getElem hi, e])
  exact ⟨i, v, hv⟩
theorem ks_of {i : Nat} (h : l[i]? = some (r, v)) : r ∈ ks l := List.mem_map.mpr ⟨_, List.mem_of_getElem? h, rfl⟩
theorem ks_index {i j : Nat} {w : V} (nd : (ks l).Nodup) (h : l[i]? = some (r, v)) (h2 : l[j]? = some (r, w)) : i = j := by
  have hi := (List.getElem?_eq_some_iff.mp h).1
  have hj := (List.getElem?_eq_some_iff.mp h2).1
  have e1 : (ks l)[i]? = some r := by unfold ks; rw [List.getElem?_map, h]; rfl
  have e2 : (ks l)[j]? = some r := by unfold ks; rw [List.getElem?_map, h2]; rfl
  have hi2 : i < (ks l).length := by unfold ks; rw [List.length_map]; exact hi
  have hj2 : j < (ks l).length := by unfold ks; rw [List.length_map]; exact hj
  rw [List.getElem?_eq_getElem hi2] at e1
  rw [List.getElem?_eq_getElem hj2] at e2
  exact (List.getElem_inj (h₀ := hi2) (h₁ := hj2) nd).mp ((Option.some.inj e1).trans (Option.some.inj e2).symm)
end
section
variable {K : PySem.W.Frag} {σ : L2.St} {H : Hp} {ta tb td ty tv te : TE} {l : List (Nat × V)} {r : Nat} {d : Addr} {D : Ends} {tz : TS} {v : V}
theorem et_dnin (h1 : Ev ty σ H (nv r)) (h2 : Ev td σ H (.ref d)) (hd : H d = some (.dK (dK l))) : EvT (tB (tDNotIn ty td)) σ H (!decide (r ∈ ks l)) := et_B fun H1 e Q q =>
  h1 H1 e _ fun H2 e2 => h2 H2 (e.trans e2) _ fun H3 e3 => ⟨d, _, rfl, DGet.k (k := .inl (r : Int)) (e3 _ _ (e2 _ _ (e _ _ hd))), by rw [dK_has]; exact q H3 (e2.trans e3)⟩
theorem et_din (h1 : Ev ty σ H (nv r)) (h2 : Ev td σ H (.ref d)) (hd : H d = some (.dK (dK l))) : EvT (tB (tDIn ty td)) σ H (decide (r ∈ ks l)) := et_B fun H1 e Q q =>
  h1 H1 e _ fun H2 e2 => h2 H2 (e.trans e2) _ fun H3 e3 => ⟨d, _, rfl, DGet.k (k := .inl (r : Int)) (e3 _ _ (e2 _ _ (e _ _ hd))), by rw [dK_has]; exact q H3 (e2.trans e3)⟩
theorem ev_dget {i : Nat} (h2 : Ev td σ H (.ref d)) (h1 : Ev ty σ H (nv r)) (hd : H d = some (.dK (dK l))) (nd : (ks l).Nodup) (hi : l[i]? = some (r, v)) : Ev (tDGet td ty) σ H v := fun H1 e Q q =>
  h2 H1 e _ fun H2 e2 => h1 H2 (e.trans e2) _ fun H3 e3 => ⟨d, v, rfl, by
    have := DGet.k (k := .inl (r : Int)) (e3 _ _ (e2 _ _ (e _ _ hd)))
    rw [dK_get nd hi] at this
    exact this, q H3 (e2.trans e3)⟩
theorem s_dput (hd : H d = some (.dK (dK l))) (h2 : Ev td σ H (.ref d)) (h1 : Ev ty σ H (nv r)) (hv : Ev tv σ H v) (hn : r ∉ ks l) (hl : l.length < 1000) (k : ∀ H1, Ex H H1 → D.nx σ (upd H1 d (.dK (dK (l ++ [(r, v)]))))) : sDPut td ty tv D σ H :=
  hv H (Ex.refl H) _ fun H1 e1 => h2 H1 e1 _ fun H2 e2 => h1 H2 (e1.trans e2) _ fun H3 e3 => ⟨d, _, rfl, DPut.k (k := .inl (r : Int)) (((e1.trans e2).trans e3) _ _ hd) (by unfold dK; rw [List.length_map]; exact sz_lt (by omega)), by
    rw [dK_put hn]
    exact k H3 ((e1.trans e2).trans e3)⟩
theorem q_dput (hd : H d = some (.dK (dK l))) (h2 : Ev td σ H (.ref d)) (h1 : Ev ty σ H (nv r)) (hv : Ev tv σ H v) (hn : r ∉ ks l) (hl : l.length < 1000) (k : ∀ H1, Ex H H1 → tz D σ (upd H1 d (.dK (dK (l ++ [(r, v)]))))) : tSeq (sDPut td ty tv) tz D σ H :=
  s_dput (D := { D with nx := tz D }) hd h2 h1 hv hn hl k
/-- list(d), a new dict -/
theorem el_dlist (h : Ev td σ H (.ref d)) (hd : H d = some (.dK (dK l))) : EvL (tCB rListD (tCons td tNil)) σ H (nvs (ks l)) := fun H1 e Q q =>
  h H1 e _ fun H2 e2 => ⟨d, _, rfl, (e.trans e2) _ _ hd, fun p hp => q p _ (fresh_back e2 hp) (e2.trans (Ex.new hp)) (by
    rw [upd_same]
    refine congrArg (fun z => some (HO.lst z)) ?_
    unfold dK ks nvs
    rw [List.map_map, List.map_map]
    rfl)⟩
end
section
variable {K : PySem.W.Frag} {σ : L2.St} {H H' : Hp} {ta tb td ty tv te : TE} {D : Ends} {tz : TS} {v : V} {xs : List V} {a : Addr}
theorem s_ins {i : Nat} (hl : H a = some (.lst xs)) (ha : Ev ta σ H (.ref a)) (hi : Ev tb σ H (.int (i : Int))) (h : Ev te σ H v) (hz : xs.length < 100000) (hi2 : i < 100000) (k : ∀ H1, Ex H H1 → D.nx σ (upd H1 a (.lst (xs.take i ++ [v] ++ xs.drop i)))) :
    tDrop (tBM K "list" rInsert ta (tCons tb (tCons te tNil))) D σ H := ha H (Ex.refl H) _ fun H1 e1 =>
  ⟨Or.inl ⟨rfl, xs, sq_of (e1 a _ hl)⟩, hi H1 e1 _ fun H2 e2 => h H2 (e1.trans e2) _ fun H3 e3 => ⟨a, xs, (i : Int), v, rfl, rfl, e3 _ _ (e2 a _ (e1 a _ hl)), sz_lt hz, by omega, by omega, by
    rw [Int.toNat_natCast]
    exact k H3 ((e1.trans e2).trans e3)⟩⟩
theorem s_clear (hl : H a = some (.lst xs)) (ha : Ev ta σ H (.ref a)) (k : ∀ H1, Ex H H1 → D.nx σ (upd H1 a (.lst []))) : tDrop (tBM0 K "list" rClear ta) D σ H := ha H (Ex.refl H) _ fun H1 e1 =>
  ⟨Or.inl ⟨rfl, xs, sq_of (e1 a _ hl)⟩, a, xs, rfl, rfl, e1 a _ hl, k H1 e1⟩
theorem q_clear (hl : H a = some (.lst xs)) (ha : Ev ta σ H (.ref a)) (k : ∀ H1, Ex H H1 → tz D σ (upd H1 a (.lst []))) : tSeq (tDrop (tBM0 K "list" rClear ta)) tz D σ H := s_clear (D := { D with nx := tz D }) hl ha k
/-- sorted(xs), rooms each once -/
theorem sort_is {n : Nat} {l : List Nat} {p : Nat → Bool} {ns : List Int} (nd : l.Nodup) (hm : ∀ r, r ∈ l ↔ r < n ∧ p r = true) (h1 : ns.Perm (l.map fun (k : Nat) => (k : Int))) (h2 : ns.Pairwise (· ≤ ·)) : ns.map V.int = nvs ((List.range n).filter p) := by
  have nd2 : ns.Nodup := (h1.nodup_iff).mpr (List.pairwise_map.mpr (nd.imp fun h => by omega))
  have h3 : ns.Pairwise (· < ·) := (h2.and nd2).imp fun ⟨a, b⟩ => by omega
  have e : ns = ((List.range n).filter p).map fun (k : Nat) => (k : Int) := by
    refine rise_same h3 (List.pairwise_map.mpr (List.Pairwise.imp (fun {x y} h => ?_) ((List.pairwise_lt_range (n := n)).filter p))) fun k => ?_
    · show (x : Int) < (y : Int)
      omega
    · rw [h1.mem_iff]
      constructor
      · intro h
        obtain ⟨r, hr, rfl⟩ := List.mem_map.mp h
        have := (hm r).mp hr
        exact List.mem_map.mpr ⟨r, List.mem_filter.mpr ⟨List.mem_range.mpr this.1, this.2⟩, rfl⟩
      · intro h
        obtain ⟨r, hr, rfl⟩ := List.mem_map.mp h
        have := List.mem_filter.mp hr
        exact List.mem_map.mpr ⟨r, (hm r).mpr ⟨List.mem_range.mp this.1, this.2⟩, rfl⟩
  rw [e, List.map_map]
  rfl
theorem el_sort {n : Nat} {l : List Nat} {p : Nat → Bool} (h : EvL te σ H (nvs l)) (nd : l.Nodup) (hm : ∀ r, r ∈ l ↔ r < n ∧ p r = true) : EvL (tCB (rSortedI K) (tCons te tNil)) σ H (nvs ((List.range n).filter p)) := fun H1 e Q q =>
  h H1 e _ fun a H2 ha e2 h2 => ⟨a, l.map fun (k : Nat) => (k : Int), rfl, by rw [← nvs_int]; exact sq_of h2, fun ns p' hp hs hp' => q p' _ (fresh_back e2 hp') (e2.trans (Ex.new hp')) (by
    rw [upd_same, sort_is nd hm hp hs])⟩
end
/-! ### promises -/
structure StepsOf (ds : DL) (s : Int) (l : List (Nat × V)) : Prop where
  nd : (ks l).Nodup
  mem : ∀ r, r ∈ ks l ↔ Rch ds s r
  pred : ∀ (i r : Nat) (v : V), l[i]? = some (r, v) → (r = 0 ∧ v = .non) ∨ ∃ (j a : Nat) (v' : V), j < i ∧ l[j]? = some (a, v') ∧ v = nv a ∧ (a, r) ∈ ds
noncomputable def Nt.there (N : Nt) : List Nat := (List.range N.n).filter fun k => rch N.ds (-1) k
/-- the reached rooms that s guards -/
noncomputable def Nt.under (N : Nt) (s : Int) : List Nat := (List.range N.n).filter fun k => rch N.ds (-1) k && !rch N.ds s k
def sp_steps (g : Gb) : Sp := fun vs H Q _ => ∃ (p : Addr) (N : Nt) (s : Int), vs = [.ref p, .int s] ∧ NetAt g H p N ∧ ∀ l d H2, StepsOf N.ds s l → H d = none → Ex H H2 → H2 d = some (.dK (dK l)) → Q (.ref d) H2
def sp_way_of (g : Gb) : Sp := fun vs H Q _ => ∃ (d : Addr) (l : List (Nat × V)) (ds : DL) (s : Int) (r : Nat), vs = [.ref d, nv r] ∧ H d = some (.dK (dK l)) ∧ StepsOf ds s l ∧ Rch ds s r ∧ l.length ≤ 1000 ∧ ∀ w, Way ds s w r → RetL (nvs w) H Q
def sp_reached (g : Gb) : Sp := fun vs H Q _ => ∃ (p : Addr) (N : Nt), vs = [.ref p] ∧ NetAt g H p N ∧ RetL (nvs N.there) H Q
def sp_ask_reached (g : Gb) : Sp := fun vs H Q E => ∃ (p a : Addr) (N : Nt) (ns : List Int), vs = [.ref p, .ref a] ∧ NetAt g H p N ∧ SqL g.K H a (ns.map V.int) ∧
  ((∀ k ∈ ns, ∃ r : Nat, k = r ∧ Rch N.ds (-1) r) → RetV .non H Q) ∧ ((∃ k ∈ ns, ¬ N.has k) → RetX E g.cR H) ∧ ((∀ k ∈ ns, N.has k) → (∃ r : Nat, (r : Int) ∈ ns ∧ ¬ Rch N.ds (-1) r) → RetX E g.cU H)
/-- what asks for a reached room -/
def Asked (g : Gb) (E : XK) (H : Hp) (N : Nt) (r : Int) (S : Nat → Prop) : Prop := (∀ k : Nat, r = k → Rch N.ds (-1) k → S k) ∧ (¬ N.has r → RetX E g.cR H) ∧ (∀ k : Nat, k < N.n → r = k → ¬ Rch N.ds (-1) k → RetX E g.cU H)
def sp_way_to (g : Gb) : Sp := fun vs H Q E => ∃ (p : Addr) (N : Nt) (r : Int), vs = [.ref p, .int r] ∧ NetAt g H p N ∧ Asked g E H N r fun k => ∀ w, Way N.ds (-1) w k → RetL (nvs w) H Q
def sp_way_past (g : Gb) : Sp := fun vs H Q E => ∃ (p : Addr) (N : Nt) (r o : Int), vs = [.ref p, .int r, .int o] ∧ NetAt g H p N ∧
  (∀ k j : Nat, r = k → o = j → j < N.n → Rch N.ds (-1) k → (∀ w, Way N.ds j w k → RetL (nvs w) H Q) ∧ (¬ Rch N.ds j k → RetV .non H Q)) ∧ (¬ N.has r ∨ ¬ N.has o → RetX E g.cR H) ∧ (N.has o → ∀ k : Nat, k < N.n → r = k → ¬ Rch N.ds (-1) k → RetX E g.cU H)
def sp_guarded (g : Gb) : Sp := fun vs H Q _ => ∃ (p : Addr) (N : Nt) (s : Int), vs = [.ref p, .int s] ∧ NetAt g H p N ∧ RetL (nvs (N.under s)) H Q
def sp_guards (g : Gb) : Sp := fun vs H Q E => ∃ (p : Addr) (N : Nt) (r o : Int), vs = [.ref p, .int r, .int o] ∧ NetAt g H p N ∧
  (∀ k j : Nat, r = k → o = j → k < N.n → Rch N.ds (-1) j → RetV (.bl (dm N.ds k j)) H Q) ∧ (¬ N.has r ∨ ¬ N.has o → RetX E g.cR H) ∧ (N.has r → ∀ j : Nat, j < N.n → o = j → ¬ Rch N.ds (-1) j → RetX E g.cU H)
def sp_guards_of (g : Gb) : Sp := fun vs H Q E => ∃ (p : Addr) (N : Nt) (r : Int), vs = [.ref p, .int r] ∧ NetAt g H p N ∧ Asked g E H N r fun k => RetL (nvs (gds N.ds k)) H Q
def sp_nearest (g : Gb) : Sp := fun vs H Q E => ∃ (p : Addr) (N : Nt) (r : Int), vs = [.ref p, .int r] ∧ NetAt g H p N ∧ Asked g E H N r fun k => ((gds N.ds k).length = 1 → RetV .non H Q) ∧ ∀ u x y, gds N.ds k = u ++ [x, y] → RetV (nv x) H Q
/-! steps: slots 0 net 1 shunned 2 found 3 row 4 at 5 room -/
def t_steps_b1 (g : Gb)  : TS := tIfS (tAnd (tTest (tOp rNe (tVar 5) (tVar 1))) (tB (tDNotIn (tVar 5) (tVar 2)))) (tSeq (sDPut (tVar 2) (tVar 5) (tOp (rIxL g.K) (tVar 3) (tVar 4)))
  (tDrop (tBM g.K "list" rAppend (tVar 3) (tCons (tVar 5) tNil)))) tNext
def t_steps_b2 (g : Gb)  : TS := tSeq (tFor (iList g.K (tMeth g.C "leads" (sp_Net_leads g) [] E0 (tVar 0) (tCons (tOp (rIxL g.K) (tVar 3) (tVar 4)) tNil))) (gName 5) (t_steps_b1 g))
  (tAsg (tOp rAddI (tVar 4) (tC (.int 1))) (gName 4))
def t_steps (g : Gb) : TS := tSeq (tIfS (tTest (tOp rEq (tVar 1) (tC (.int 0)))) (tRet tDNewK) tNext)
  (tSeq (tAsg (tDisp [(tC (.int 0), tC .non)]) (gName 2))
  (tSeq (tAsg (tLst (tCons (tC (.int 0)) tNil)) (gName 3))
  (tSeq (tAsg (tC (.int 0)) (gName 4))
  (tSeq (tWhile (tTest (tOp rLtI (tVar 4) (tCB (rLenS g.K) (tCons (tVar 3) tNil)))) (t_steps_b2 g))
  (tRet (tVar 2))))))
abbrev N_steps : List Str := ["net", "shunned", "found", "row", "at", "room"]
/-! way_of: slots 0 found 1 room 2 way -/
def t_way_of_b1 (g : Gb)  : TS := tDrop (tBM g.K "list" rInsert (tVar 2) (tCons (tC (.int 0)) (tCons (tDGet (tVar 0) (tOp (rIxL g.K) (tVar 2) (tC (.int 0)))) tNil)))
def t_way_of (g : Gb) : TS := tSeq (tAsg (tLst (tCons (tVar 1) tNil)) (gName 2))
  (tSeq (tWhile (tTest (tOp rNotN (tDGet (tVar 0) (tOp (rIxL g.K) (tVar 2) (tC (.int 0)))) (tC .non))) (t_way_of_b1 g))
  (tRet (tVar 2)))
abbrev N_way_of : List Str := ["found", "room", "way"]
/-! reached: slots 0 net -/
def t_reached (g : Gb) : TS := tRet (tCB (rSortedI g.K) (tCons (tCB rListD (tCons (tCall (sp_steps g) [] E0 (tCons (tVar 0) (tCons (tUn rNeg (tC (.int 1))) tNil))) tNil)) tNil))
abbrev N_reached : List Str := ["net"]
/-! ask_reached: slots 0 net 1 some 2 room 3 found -/
def t_ask_reached_b1 (g : Gb) (E : XK)  : TS := tDrop (tMeth g.C "ask" (sp_Net_ask g) [] E (tVar 0) (tCons (tVar 2) tNil))
def t_ask_reached_b2 (g : Gb) (E : XK)  : TS := tIfS (tB (tDNotIn (tVar 2) (tVar 3))) (tRs (fun cls d _ H => E cls d H) g.cU) tNext
def t_ask_reached (g : Gb) (E : XK) : TS := tSeq (tFor (iList g.K (tVar 1)) (gName 2) (t_ask_reached_b1 g E))
  (tSeq (tAsg (tCall (sp_steps g) [] E0 (tCons (tVar 0) (tCons (tUn rNeg (tC (.int 1))) tNil))) (gName 3))
  (tFor (iList g.K (tVar 1)) (gName 2) (t_ask_reached_b2 g E)))
abbrev N_ask_reached : List Str := ["net", "some", "room", "found"]
/-! way_to: slots 0 net 1 room -/
def t_way_to (g : Gb) (E : XK) : TS := tSeq (tDrop (tCall (sp_ask_reached g) [] E (tCons (tVar 0) (tCons (tLst (tCons (tVar 1) tNil)) tNil))))
  (tRet (tCall (sp_way_of g) [] E0 (tCons (tCall (sp_steps g) [] E0 (tCons (tVar 0) (tCons (tUn rNeg (tC (.int 1))) tNil))) (tCons (tVar 1) tNil))))
abbrev N_way_to : List Str := ["net", "room"]
/-! way_past: slots 0 net 1 room 2 other 3 found -/
def t_way_past (g : Gb) (E : XK) : TS := tSeq (tDrop (tMeth g.C "ask" (sp_Net_ask g) [] E (tVar 0) (tCons (tVar 1) tNil)))
  (tSeq (tDrop (tMeth g.C "ask" (sp_Net_ask g) [] E (tVar 0) (tCons (tVar 2) tNil)))
  (tSeq (tDrop (tCall (sp_ask_reached g) [] E (tCons (tVar 0) (tCons (tLst (tCons (tVar 1) tNil)) tNil))))
  (tSeq (tAsg (tCall (sp_steps g) [] E0 (tCons (tVar 0) (tCons (tVar 2) tNil))) (gName 3))
  (tSeq (tIfS (tB (tDNotIn (tVar 1) (tVar 3))) (tRet (tC .non)) tNext)
  (tRet (tCall (sp_way_of g) [] E0 (tCons (tVar 3) (tCons (tVar 1) tNil))))))))
abbrev N_way_past : List Str := ["net", "room", "other", "found"]
/-! guarded: slots 0 net 1 room 2 past 3 one -/
def t_guarded (g : Gb) : TS := tSeq (tAsg (tCall (sp_steps g) [] E0 (tCons (tVar 0) (tCons (tVar 1) tNil))) (gName 2))
  (tRet (tLc (iList g.K (tCall (sp_reached g) [] E0 (tCons (tVar 0) tNil))) (gName 3) (tB (tDNotIn (tVar 3) (tVar 2))) (tVar 3) [3]))
abbrev N_guarded : List Str := ["net", "room", "past", "one"]
/-! guards: slots 0 net 1 room 2 other -/
def t_guards (g : Gb) (E : XK) : TS := tSeq (tDrop (tMeth g.C "ask" (sp_Net_ask g) [] E (tVar 0) (tCons (tVar 1) tNil)))
  (tSeq (tDrop (tCall (sp_ask_reached g) [] E (tCons (tVar 0) (tCons (tLst (tCons (tVar 2) tNil)) tNil))))
  (tRet (tOp (rIn g.K false) (tVar 2) (tCall (sp_guarded g) [] E0 (tCons (tVar 0) (tCons (tVar 1) tNil))))))
abbrev N_guards : List Str := ["net", "room", "other"]
/-! guards_of: slots 0 net 1 room 2 one -/
def t_guards_of (g : Gb) (E : XK) : TS := tRet (tLc (iList g.K (tCall (sp_way_to g) [] E (tCons (tVar 0) (tCons (tVar 1) tNil)))) (gName 2) (tB (tDNotIn (tVar 1) (tCall (sp_steps g) [] E0 (tCons (tVar 0) (tCons (tVar 2) tNil))))) (tVar 2) [2])
abbrev N_guards_of : List Str := ["net", "room", "one"]
/-! nearest: slots 0 net 1 room 2 found -/
def t_nearest (g : Gb) (E : XK) : TS := tSeq (tAsg (tCall (sp_guards_of g) [] E (tCons (tVar 0) (tCons (tVar 1) tNil))) (gName 2))
  (tSeq (tIfS (tTest (tOp rEq (tCB (rLenS g.K) (tCons (tVar 2) tNil)) (tC (.int 1)))) (tRet (tC .non)) tNext)
  (tRet (tOp (rIxL g.K) (tVar 2) (tUn rNeg (tC (.int 2))))))
abbrev N_nearest : List Str := ["net", "room", "found"]

section
variable {g : Gb} {σ : L2.St} {H B : Hp} {D : Ends} {E : XK} {Q : VK} {vs : List V} {p : Addr} {N : Nt} {te tn ts tr to : TE} {s : Int} {r : Nat}
/-- what holds while steps are taken -/
structure StepI (ds : DL) (s : Int) (l : List (Nat × V)) : Prop where
  nd : (ks l).Nodup
  rch : ∀ r, r ∈ ks l → Rch ds s r
  zero : 0 ∈ ks l
  pred : ∀ (i r : Nat) (v : V), l[i]? = some (r, v) → (r = 0 ∧ v = .non) ∨ ∃ (j a : Nat) (v' : V), j < i ∧ l[j]? = some (a, v') ∧ v = nv a ∧ (a, r) ∈ ds
theorem StepI.snoc {ds : DL} {l : List (Nat × V)} {i a b : Nat} {v : V} (h : StepI ds s l) (ha : l[i]? = some (a, v)) (hd : (a, b) ∈ ds) (hs : (b : Int) ≠ s) (hn : b ∉ ks l) : StepI ds s (l ++ [(b, nv a)]) := by
  have hi := (List.getElem?_eq_some_iff.mp ha).1
  refine ⟨?_, fun r hr => ?_, ?_, fun k r v' hk => ?_⟩
  · rw [ks_append]
    exact List.nodup_append.mpr ⟨h.nd, by simp [ks], fun x hx y hy e => hn (by simp [ks] at hy; rw [← hy, ← e]; exact hx)⟩
  · rw [ks_append] at hr
    rcases List.mem_append.mp hr with hr | hr
    · exact h.rch r hr
    · simp [ks] at hr
      rw [hr]
      exact .step (h.rch a (ks_of ha)) hd hs
  · rw [ks_append]
    exact List.mem_append_left _ h.zero
  · by_cases hk2 : k < l.length
    · rw [List.getElem?_append_left hk2] at hk
      rcases h.pred k r v' hk with e | ⟨j, a', v2, hj, h1, h2, h3⟩
      · exact .inl e
      · exact .inr ⟨j, a', v2, hj, by rw [List.getElem?_append_left (by omega)]; exact h1, h2, h3⟩
    · rw [List.getElem?_append_right (by omega)] at hk
      have : k - l.length = 0 := by
        have := (List.getElem?_eq_some_iff.mp hk).1
        simp at this
        omega
      rw [this] at hk
      simp at hk
      obtain ⟨rfl, rfl⟩ := hk
      exact .inr ⟨i, a, v, by omega, by rw [List.getElem?_append_left hi]; exact ha, rfl, hd⟩
/-- all doors of the first rooms have been gone through -/
def Closed (ds : DL) (s : Int) (l : List (Nat × V)) (at_ : Nat) : Prop := ∀ i : Nat, i < at_ → ∀ (a : Nat) (v : V), l[i]? = some (a, v) → ∀ b : Nat, (a, b) ∈ ds → (b : Int) ≠ s → b ∈ ks l
theorem StepI.fin {ds : DL} {l : List (Nat × V)} (h : StepI ds s l) (hc : Closed ds s l l.length) : StepsOf ds s l := by
  refine ⟨h.nd, fun r => ⟨h.rch r, fun hr => ?_⟩, h.pred⟩
  induction hr with
  | zero _ => exact h.zero
  | step _ h1 h2 ih =>
    obtain ⟨i, v, hi⟩ := ks_mem ih
    exact hc i (List.getElem?_eq_some_iff.mp hi).1 _ v hi _ h1 h2
theorem StepI.len {l : List (Nat × V)} (h : StepI N.ds s l) (ok : N.Ok) : l.length ≤ N.n := by
  have h1 := h.nd.length_le_of_subset (l₂ := List.range N.n) fun r hr => List.mem_range.mpr ((h.rch r hr).lt ok.pos ok.ends)
  rw [List.length_range] at h1
  unfold ks at h1
  rw [List.length_map] at h1
  exact h1
theorem StepsOf.len {l : List (Nat × V)} (h : StepsOf N.ds s l) (ok : N.Ok) : l.length ≤ N.n := by
  have h1 := h.nd.length_le_of_subset (l₂ := List.range N.n) fun r hr => List.mem_range.mpr (((h.mem r).mp hr).lt ok.pos ok.ends)
  rw [List.length_range] at h1
  unfold ks at h1
  rw [List.length_map] at h1
  exact h1
theorem pure_steps (T : CF g) (h : sp_steps g vs H Q E) : t_steps g { nx := fun _ H' => Q .non H', rt := Q } (start N_steps vs) H := by
  obtain ⟨p, N, s, rfl, hn, k⟩ := h
  refine q_when (et_test (ev_op (ev_var rfl) ev_c (rv_eq rfl))) (fun hb H1 e1 => ?_) (fun hb H1 e1 => ?_)
  · have hs : s = 0 := V.int.inj (of_decide_eq_true hb)
    subst hs
    exact fun d hd => k [] d _ ⟨by simp [ks], fun r => ⟨fun h => by simp [ks] at h, fun h => (Rch.not_zero h).elim⟩, fun i r v h => by simp at h⟩ (fresh_back e1 hd) (e1.trans (Ex.new hd)) upd_same
  have hs : s ≠ 0 := fun z => of_decide_eq_false hb (by rw [z])
  refine q_raw fun d hd => ?_
  refine ⟨upd_same, [(.inl 0, .non)], rfl, by decide, ?_⟩
  have hd0 : H d = none := fresh_back e1 hd
  obtain ⟨H2, hH2⟩ : ∃ H2, H2 = upd (upd H1 d (.dK [])) d (.dK (mergeK [] [(.inl 0, .non)])) := ⟨_, rfl⟩
  rw [← hH2]
  have e2 : Ex H H2 := by
    rw [hH2]
    exact exU (exU e1 hd0) hd0
  have hd2 : H2 d = some (.dK (dK [(0, .non)])) := by
    rw [hH2, upd_same]
    rfl
  clear hH2
  refine q_asgL (el_lst (ea_cons ev_c ea_nil) (by show 1 ≤ 100000; decide)) fun rw_ H3 hrw e3 hrw3 => ?_
  have hrw0 : H rw_ = none := fresh_back e2 hrw
  have nrd : rw_ ≠ d := fun z => by
    rw [z, hd2] at hrw
    cases hrw
  refine q_asg ev_c fun H4 e4 => ?_
  refine q_while (fun m σ' H' => ∃ (l : List (Nat × V)) (at_ : Nat) (s5 : Option V), σ' = [some (.ref p), some (.int s), some (.ref d), some (.ref rw_), some (nv at_), s5] ∧ Ex H H' ∧ H' d = some (.dK (dK l)) ∧ H' rw_ = some (.lst (nvs (ks l))) ∧
    StepI N.ds s l ∧ at_ ≤ l.length ∧ Closed N.ds s l at_ ∧ m = N.n - at_) N.n ⟨[(0, .non)], 0, none, rfl, (e2.trans e3).trans e4, e4 _ _ (e3 _ _ hd2), e4 _ _ hrw3, ⟨by simp [ks], fun r hr => by
      simp [ks] at hr
      rw [hr]
      exact .zero hs, by simp [ks], fun i r v hi => by
        match i, hi with
        | 0, hi =>
          simp at hi
          exact .inl ⟨hi.1.symm, hi.2.symm⟩⟩, Nat.zero_le _, fun i hi => absurd hi (Nat.not_lt_zero _), rfl⟩ fun m σ' H' hW => ?_
  obtain ⟨l, at_, s5, rfl, eH, hd', hrw', hI, hat, hcl, rfl⟩ := hW
  have hlen := hI.len hn.ok
  have hkl : (nvs (ks l)).length = l.length := by unfold ks; rw [List.length_map, List.length_map]
  refine ⟨decide (at_ < l.length), et_is (et_test (ev_op (ev_var rfl) (ev_len (ev_var rfl) (sq_of hrw')) rv_I0)) (by rw [hkl]; exact decide_eq_decide.mpr ⟨fun h => by omega, fun h => by omega⟩), fun hb H5 e5 => ?_, fun hb H5 e5 => ?_⟩
  · have hlt : at_ < l.length := of_decide_eq_true hb
    obtain ⟨⟨a, va⟩, hla⟩ : ∃ e, l[at_]? = some e := ⟨_, List.getElem?_eq_getElem hlt⟩
    have hix : (nvs (ks l))[at_]? = some (nv a) := by
      unfold ks
      rw [List.getElem?_map, List.getElem?_map, hla]
      rfl
    have han : a < N.n := (hI.rch a (ks_of hla)).lt hn.ok.pos hn.ok.ends
    refine ⟨fun σ2 H2 => ∃ (l2 : List (Nat × V)) (s5 : Option V), σ2 = [some (.ref p), some (.int s), some (.ref d), some (.ref rw_), some (nv (at_ + 1)), s5] ∧ Ex H H2 ∧ H2 d = some (.dK (dK l2)) ∧ H2 rw_ = some (.lst (nvs (ks l2))) ∧ StepI N.ds s l2 ∧ at_ + 1 ≤ l2.length ∧ Closed N.ds s l2 (at_ + 1), fun σ2 H2 hN => ?_, ?_⟩
    · obtain ⟨l2, s5, h1, h2, h3, h4, h5, h6, h7⟩ := hN
      exact ⟨N.n - (at_ + 1), by omega, l2, at_ + 1, s5, h1, h2, h3, h4, h5, h6, h7, rfl⟩
    refine q_forNLn (ev_leads (N := N) (r := a) (ev_var rfl) (ev_op (ev_var rfl) (ev_var rfl) (rv_ixL (sq_of (e5 _ _ hrw')) (atI_nat hix))) (hn.mono (eH.trans e5)) han)
      (fun q i σ' H' => ∃ (l2 : List (Nat × V)) (s5 : Option V), σ' = [some (.ref p), some (.int s), some (.ref d), some (.ref rw_), some (nv at_), s5] ∧ Ex H H' ∧ q ≠ d ∧ q ≠ rw_ ∧ H' q = some (.lst (nvs (N.ahead a))) ∧ H' d = some (.dK (dK l2)) ∧ H' rw_ = some (.lst (nvs (ks l2))) ∧
        StepI N.ds s l2 ∧ at_ < l2.length ∧ l2[at_]? = some (a, va) ∧ Closed N.ds s l2 at_ ∧ ∀ k b, k < i → (N.ahead a)[k]? = some b → (b : Int) ≠ s → b ∈ ks l2)
      (fun q H6 hq e6 hq6 => ⟨l, s5, rfl, (eH.trans e5).trans e6, (fun z => by rw [z, e5 _ _ hd'] at hq; cases hq), (fun z => by rw [z, e5 _ _ hrw'] at hq; cases hq), hq6, e6 _ _ (e5 _ _ hd'), e6 _ _ (e5 _ _ hrw'), hI, hlt, hla, hcl, fun k b hk => absurd hk (Nat.not_lt_zero _)⟩)
      (fun q i σ' H' _ hP => by
        obtain ⟨l2, s5, _, _, _, _, hq, _⟩ := hP
        exact sq_of hq) (fun q i x σ' H' hx hP => ?_) (fun q σ' H' hP => ?_)
    · obtain ⟨l2, s5, rfl, eH2, nqd, nqr, hq, hd2, hrw2, hI2, hlt2, hla2, hcl2, hdone⟩ := hP
      obtain ⟨b, hb, rfl⟩ : ∃ b, (N.ahead a)[i]? = some b ∧ x = nv b := by
        rw [List.getElem?_map] at hx
        cases e : (N.ahead a)[i]? with
        | none => rw [e] at hx; cases hx
        | some b => rw [e] at hx; exact ⟨b, rfl, (Option.some.inj hx).symm⟩
      have hab : (a, b) ∈ N.ds := of_decide_eq_true (List.mem_filter.mp (List.mem_of_getElem? hb)).2
      have hix2 : (nvs (ks l2))[at_]? = some (nv a) := by
        unfold ks
        rw [List.getElem?_map, List.getElem?_map, hla2]
        rfl
      have hkl2 : (nvs (ks l2)).length = l2.length := by unfold ks; rw [List.length_map, List.length_map]
      refine s_when (et_and (et_test (ev_op (ev_var rfl) (ev_var rfl) (rv_ne rfl))) fun _ => et_dnin (r := b) (ev_var rfl) (ev_var rfl) hd2) (fun hb2 H6 e6 => ?_) (fun hb2 H6 e6 => ?_)
      · have hb3 : (b : Int) ≠ s ∧ b ∉ ks l2 := by
          simp at hb2
          exact hb2
        have hlen2 := hI2.len hn.ok
        have hm := hn.ok.most
        refine q_dput (v := nv a) (e6 _ _ hd2) (ev_var rfl) (ev_var rfl) (ev_op (ev_var rfl) (ev_var rfl) (rv_ixL (sq_of (e6 _ _ hrw2)) (atI_nat hix2))) hb3.2 (by omega) fun H7 e7 => ?_
        refine s_app (l := rw_) (xs := nvs (ks l2)) (by rw [upd_ne nrd]; exact e7 _ _ (e6 _ _ hrw2)) (ev_var rfl) (ev_var rfl) (by omega) fun H8 e8 => ?_
        have e68 := e6.trans e7
        have hks : ks (l2 ++ [(b, nv a)]) = ks l2 ++ [b] := ks_append
        refine ⟨l2 ++ [(b, nv a)], _, rfl, exU ((exU (eH2.trans e68) hd0).trans e8) hrw0, nqd, nqr, ?_, ?_, ?_, hI2.snoc hla2 hab hb3.1 hb3.2, ?_, ?_, ?_, ?_⟩
        · rw [upd_ne nqr]
          refine e8 _ _ ?_
          rw [upd_ne nqd]
          exact e68 _ _ hq
        · rw [upd_ne (Ne.symm nrd)]
          exact e8 _ _ upd_same
        · rw [upd_same, hks]
          unfold nvs
          rw [List.map_append]
          rfl
        · rw [List.length_append]
          omega
        · rw [List.getElem?_append_left hlt2]
          exact hla2
        · intro k hk a' v' hk2 b' h1 h2
          rw [List.getElem?_append_left (by omega)] at hk2
          rw [hks]
          exact List.mem_append_left _ (hcl2 k hk a' v' hk2 b' h1 h2)
        · intro k b' hk hk2 h2
          rw [hks]
          by_cases hki : k = i
          · subst hki
            rw [hb] at hk2
            rw [← Option.some.inj hk2]
            exact List.mem_append_right _ List.mem_cons_self
          · exact List.mem_append_left _ (hdone k b' (by omega) hk2 h2)
      · refine ⟨l2, _, rfl, eH2.trans e6, nqd, nqr, e6 _ _ hq, e6 _ _ hd2, e6 _ _ hrw2, hI2, hlt2, hla2, hcl2, fun k b' hk hk2 h2 => ?_⟩
        by_cases hki : k = i
        · subst hki
          rw [hb] at hk2
          have := Option.some.inj hk2
          subst this
          simp at hb2
          exact hb2 h2
        · exact hdone k b' (by omega) hk2 h2
    · obtain ⟨l2, s5, rfl, eH2, nqd, nqr, hq, hd2, hrw2, hI2, hlt2, hla2, hcl2, hdone⟩ := hP
      refine s_asg (v := nv (at_ + 1)) (ev_op (ev_var rfl) ev_c rv_I0) fun H6 e6 => ?_
      refine ⟨l2, s5, rfl, eH2.trans e6, e6 _ _ hd2, e6 _ _ hrw2, hI2, hlt2, fun i hi a' v' hi2 b h1 h2 => ?_⟩
      by_cases hia : i = at_
      · subst hia
        rw [hla2] at hi2
        have := Option.some.inj hi2
        obtain ⟨rfl, rfl⟩ := Prod.mk.inj this
        have hbm : b ∈ N.ahead a := List.mem_filter.mpr ⟨List.mem_range.mpr (hn.ok.ends _ h1).2, decide_eq_true h1⟩
        obtain ⟨k, hk, e⟩ := List.mem_iff_getElem.mp hbm
        refine hdone k b ?_ (by rw [List.getElem?_eq_getElem hk, e]) h2
        show k < (nvs (N.ahead a)).length
        rw [List.length_map]
        exact hk
      · exact hcl2 i (by omega) a' v' hi2 b h1 h2
  · have hge : ¬ at_ < l.length := of_decide_eq_false hb
    have hat2 : at_ = l.length := by omega
    subst hat2
    exact s_ret (ev_var rfl) fun H6 e6 => k l d H6 (hI.fin hcl) hd0 ((eH.trans e5).trans e6) (e6 _ _ (e5 _ _ hd'))
theorem ep_steps (h1 : Ev tn σ H (.ref p)) (h2 : Ev ts σ H (.int s)) (hn : NetAt g H p N) :
    EvP (tCall (sp_steps g) [] E0 (tCons tn (tCons ts tNil))) σ H (fun H1 v H2 => ∃ d l, v = .ref d ∧ H1 d = none ∧ H2 d = some (.dK (dK l)) ∧ StepsOf N.ds s l) := fun H1 e Q q =>
  h1 H1 e _ fun H2 e2 => h2 H2 (e.trans e2) _ fun H3 e3 => ⟨p, N, s, rfl, hn.mono ((e.trans e2).trans e3), fun l d H4 hl hd e4 hd4 => q _ H4 ((e2.trans e3).trans e4) ⟨d, l, rfl, fresh_back (e2.trans e3) hd, hd4, hl⟩⟩
/-- room not in steps(net, s) -/
theorem et_nsteps (h0 : Ev tr σ H (nv r)) (h1 : Ev tn σ H (.ref p)) (h2 : Ev ts σ H (.int s)) (hn : NetAt g H p N) : EvT (tB (tDNotIn tr (tCall (sp_steps g) [] E0 (tCons tn (tCons ts tNil))))) σ H (!rch N.ds s r) := et_B fun H1 e Q q =>
  h0 H1 e _ fun H2 e2 => ep_steps h1 h2 hn H2 (e.trans e2) _ fun v H3 e3 hv => by
    obtain ⟨d, l, rfl, _, hd, hl⟩ := hv
    refine ⟨d, _, rfl, DGet.k (k := .inl (r : Int)) hd, ?_⟩
    rw [dK_has]
    have : decide (r ∈ ks l) = rch N.ds s r := by
      rw [Bool.eq_iff_iff, decide_eq_true_iff, rch_iff]
      exact hl.mem r
    rw [this]
    exact q H3 (e2.trans e3)
theorem pure_way_of (h : sp_way_of g vs H Q E) : t_way_of g { nx := fun _ H' => Q .non H', rt := Q } (start N_way_of vs) H := by
  obtain ⟨d, l, ds, s, r, rfl, hd, hl, hr, hlen, k⟩ := h
  refine q_asgL (el_lst (ea_cons (ev_var rfl) ea_nil) (by show 1 ≤ 100000; decide)) fun wl H1 hwl e1 hwl1 => ?_
  obtain ⟨i0, v0, hi0⟩ := ks_mem ((hl.mem r).mpr hr)
  have nwd : wl ≠ d := fun z => by
    rw [z, hd] at hwl
    cases hwl
  refine q_while (fun m σ' H' => ∃ (w : List Nat) (h : Nat) (v : V), σ' = [some (.ref d), some (nv r), some (.ref wl)] ∧ Ex H H' ∧ H' wl = some (.lst (nvs (h :: w))) ∧ Pth ds s h (h :: w) r ∧ (h :: w).Nodup ∧ l[m]? = some (h, v) ∧ ∀ x ∈ h :: w, ∃ (j : Nat) (u : V), m ≤ j ∧ l[j]? = some (x, u)) i0
    ⟨[], r, v0, rfl, e1, hwl1, .one hr.ne, by simp, hi0, fun x hx => ⟨i0, v0, Nat.le_refl _, by rw [List.mem_singleton.mp hx]; exact hi0⟩⟩ fun m σ' H' hW => ?_
  obtain ⟨w, h, v, rfl, eH, hw, hp, nd, hm, hall⟩ := hW
  have hget : ∀ H2, Ex H' H2 → Ev (tDGet (tVar 0) (tOp (rIxL g.K) (tVar 2) (tC (.int 0)))) [some (.ref d), some (nv r), some (.ref wl)] H2 v := fun H2 e2 =>
    ev_dget (ev_var rfl) (ev_op (ev_var rfl) ev_c (rv_ixL (sq_of (e2 _ _ hw)) (atI_nat (j := 0) rfl))) (e2 _ _ (eH _ _ hd)) hl.nd hm
  refine ⟨!decide (v = .non), et_test (ev_op (hget H' (Ex.refl _)) ev_c fun H3 e3 Q q => ⟨rfl, q H3 (Ex.refl _)⟩), fun hb H2 e2 => ?_, fun hb H2 e2 => ?_⟩
  · have hv : v ≠ .non := by simpa using hb
    rcases hl.pred m h v hm with ⟨_, e⟩ | ⟨j, a, v', hj, h1, h2, h3⟩
    · exact (hv e).elim
    subst h2
    have ham : Rch ds s a := (hl.mem a).mp (ks_of h1)
    have hna : a ∉ h :: w := fun hx => by
      obtain ⟨j2, u, hj2, h4⟩ := hall a hx
      have := ks_index hl.nd h1 h4
      omega
    have nd2 : (a :: h :: w).Nodup := List.nodup_cons.mpr ⟨hna, nd⟩
    have hwlen : (h :: w).length ≤ l.length := by
      have h5 := nd.length_le_of_subset (l₂ := ks l) fun x hx => by
        obtain ⟨j2, u, _, h4⟩ := hall x hx
        exact ks_of h4
      unfold ks at h5
      rw [List.length_map] at h5
      exact h5
    refine ⟨fun σ2 H3 => ∃ (h2 : Nat) (w2 : List Nat), w2 = h :: w ∧ h2 = a ∧ σ2 = [some (.ref d), some (nv r), some (.ref wl)] ∧ Ex H H3 ∧ H3 wl = some (.lst (nvs (h2 :: w2))), fun σ2 H3 hN => ?_, ?_⟩
    · obtain ⟨h2, w2, rfl, rfl, rfl, e3, hw3⟩ := hN
      refine ⟨j, hj, h :: w, h2, v', rfl, e3, hw3, .cons h3 ham.ne hp, nd2, h1, fun x hx => ?_⟩
      rcases List.mem_cons.mp hx with rfl | hx
      · exact ⟨j, v', Nat.le_refl _, h1⟩
      · obtain ⟨j2, u, hj2, h4⟩ := hall x hx
        exact ⟨j2, u, by omega, h4⟩
    · refine s_ins (i := 0) (xs := nvs (h :: w)) (e2 _ _ hw) (ev_var rfl) ev_c (hget H2 e2) (by rw [List.length_map]; omega) (by decide) fun H3 e3 => ⟨a, h :: w, rfl, rfl, rfl, exU ((eH.trans e2).trans e3) hwl, ?_⟩
      rw [upd_same]
      rfl
  · have hv : v = .non := by simpa using hb
    have h0 : h = 0 := by
      rcases hl.pred m h v hm with ⟨e, _⟩ | ⟨j, a, v', hj, h1, h2, h3⟩
      · exact e
      · rw [hv] at h2
        cases h2
    subst h0
    exact s_ret (ev_var rfl) fun H3 e3 => k (0 :: w) ⟨hp, nd⟩ wl H3 hwl ((eH.trans e2).trans e3) (e3 _ _ (e2 _ _ hw))
theorem mem_there (ok : N.Ok) : r ∈ N.there ↔ Rch N.ds (-1) r := by
  unfold Nt.there
  rw [List.mem_filter, rch_iff, List.mem_range]
  exact ⟨fun h => h.2, fun h => ⟨h.lt ok.pos ok.ends, h⟩⟩
theorem mem_under (ok : N.Ok) {a : Nat} : r ∈ N.under (a : Int) ↔ Dm N.ds a r := by
  unfold Nt.under
  rw [List.mem_filter, List.mem_range, Bool.and_eq_true, rch_iff, Bool.not_eq_true', rch_no]
  exact ⟨fun h => h.2, fun h => ⟨h.1.lt ok.pos ok.ends, h⟩⟩
theorem pure_reached (h : sp_reached g vs H Q E) : t_reached g { nx := fun _ H' => Q .non H', rt := Q } (start N_reached vs) H := by
  obtain ⟨p, N, rfl, hn, k⟩ := h
  refine ep_steps (s := -1) (N := N) (ev_var rfl) (ev_un ev_c ru_neg) hn H (Ex.refl _) _ fun v H2 e2 hv => ?_
  obtain ⟨d, l, rfl, hd, hd2, hl⟩ := hv
  refine ⟨d, _, rfl, hd2, fun q hq => ⟨q, (ks l).map fun (k : Nat) => (k : Int), rfl, ?_, fun ns r hp hs hr => ?_⟩⟩
  · refine sq_of ?_
    rw [upd_same]
    refine congrArg (fun z => some (HO.lst z)) ?_
    unfold dK ks
    rw [List.map_map, List.map_map, List.map_map]
    rfl
  · have e := sort_is (n := N.n) (p := fun k => rch N.ds (-1) k) hl.nd (fun r => by rw [hl.mem, rch_iff]; exact ⟨fun h => ⟨h.lt hn.ok.pos hn.ok.ends, h⟩, fun h => h.2⟩) hp hs
    have hrp : H2 r = none := fresh_back (Ex.new hq) hr
    refine k r _ (fresh_back e2 hrp) ((e2.trans (Ex.new hq)).trans (Ex.new hr)) ?_
    rw [upd_same, e]
    rfl
theorem el_reached (h1 : Ev tn σ H (.ref p)) (hn : NetAt g H p N) : EvL (tCall (sp_reached g) [] E0 (tCons tn tNil)) σ H (nvs N.there) := el_call1 (ea_cons h1 ea_nil) fun H1 e Q k => ⟨p, N, rfl, hn.mono e, k⟩
/-- net.ask(r) -/
theorem q_ask {tz : TS} {ri : Int} (h1 : Ev tn σ H (.ref p)) (h2 : Ev tr σ H (.int ri)) (hn : NetAt g H p N) (hX : ¬ N.has ri → RetX E g.cR H) (k : N.has ri → ∀ H1, Ex H H1 → tz D σ H1) : tSeq (tDrop (tMeth g.C "ask" (sp_Net_ask g) [] E tn (tCons tr tNil))) tz D σ H :=
  h1 H (Ex.refl H) _ fun H2 e2 => let ⟨_, dx, pa, aa, ba, h1, _⟩ := hn.mono e2; ⟨p, dx, _, rfl, h1, netF_no _ _ _ _ (by decide +kernel) (by decide +kernel) (by decide +kernel) (by decide +kernel), h2 H2 e2 _ fun H3 e3 =>
    ⟨p, N, ri, rfl, hn.mono (e2.trans e3), fun hh H4 e4 => k hh H4 ((e2.trans e3).trans e4), fun hh H4 e4 => hX hh H4 ((e2.trans e3).trans e4)⟩⟩
theorem s_ask {ri : Int} (h1 : Ev tn σ H (.ref p)) (h2 : Ev tr σ H (.int ri)) (hn : NetAt g H p N) (hX : ¬ N.has ri → RetX E g.cR H) (k : N.has ri → ∀ H1, Ex H H1 → D.nx σ H1) : tDrop (tMeth g.C "ask" (sp_Net_ask g) [] E tn (tCons tr tNil)) D σ H :=
  q_ask (D := D) (tz := fun D σ H => D.nx σ H) h1 h2 hn hX k
theorem RetX.mono {C : Addr} {H1 : Hp} (e : Ex H H1) (h : RetX E C H) : RetX E C H1 := fun H2 e2 => h H2 (e.trans e2)
theorem pure_ask_reached (h : sp_ask_reached g vs H Q E) : t_ask_reached g E { nx := fun _ H' => Q .non H', rt := Q } (start N_ask_reached vs) H := by
  obtain ⟨p, a, N, ns, rfl, hn, hs, k1, k2, k3⟩ := h
  refine q_forLn (ev_var rfl) hs (fun i σ' H' => Ex H H' ∧ (∀ j, j < i → ∀ z, ns[j]? = some z → N.has z) ∧ ∃ s2, σ' = [some (.ref p), some (.ref a), s2, none]) (fun H1 e1 => ⟨e1, fun _ h => absurd h (Nat.not_lt_zero _), _, rfl⟩) (fun i σ' H' _ hP => ex_l hP.1 hs) (fun i x σ' H' hx hP => ?_) (fun σ' H' hP => ?_)
  · obtain ⟨eH, hd, s2, rfl⟩ := hP
    obtain ⟨z, hz, rfl⟩ : ∃ z, ns[i]? = some z ∧ x = .int z := by
      rw [List.getElem?_map] at hx
      cases e : ns[i]? with
      | none => rw [e] at hx; cases hx
      | some z => rw [e] at hx; exact ⟨z, rfl, (Option.some.inj hx).symm⟩
    refine s_ask (ri := z) (N := N) (ev_var rfl) (ev_var rfl) (hn.mono eH) (fun hh => (k2 ⟨z, List.mem_of_getElem? hz, hh⟩).mono eH) fun hh H2 e2 => ⟨eH.trans e2, fun j hj z' hz' => ?_, _, rfl⟩
    by_cases hji : j = i
    · subst hji
      rw [hz] at hz'
      rw [← Option.some.inj hz']
      exact hh
    · exact hd j (by omega) z' hz'
  · obtain ⟨eH, hd, s2, rfl⟩ := hP
    have hall : ∀ k ∈ ns, N.has k := fun z hz => by
      obtain ⟨i, hi, e⟩ := List.mem_iff_getElem.mp hz
      exact hd i (by rw [List.length_map]; exact hi) z (by rw [List.getElem?_eq_getElem hi, e])
    refine a_asgP (ep_steps (s := -1) (N := N) (ev_var rfl) (ev_un ev_c ru_neg) (hn.mono eH)) fun v H2 e2 hv => ?_
    obtain ⟨d, l, rfl, hd0, hd2, hl⟩ := hv
    have e12 := eH.trans e2
    refine s_forLn (ev_var rfl) (ex_l e12 hs) (fun i σ' H' => Ex H2 H' ∧ (∀ j, j < i → ∀ z, ns[j]? = some z → ∃ r : Nat, z = r ∧ Rch N.ds (-1) r) ∧ ∃ s2, σ' = [some (.ref p), some (.ref a), s2, some (.ref d)]) (fun H1 e1 => ⟨e1, fun _ h => absurd h (Nat.not_lt_zero _), _, rfl⟩) (fun i σ' H' _ hP => ex_l (e12.trans hP.1) hs) (fun i x σ' H' hx hP => ?_) (fun σ' H' hP => ?_)
    · obtain ⟨eH3, hd3, s2, rfl⟩ := hP
      obtain ⟨z, hz, rfl⟩ : ∃ z, ns[i]? = some z ∧ x = .int z := by
        rw [List.getElem?_map] at hx
        cases e : ns[i]? with
        | none => rw [e] at hx; cases hx
        | some z => rw [e] at hx; exact ⟨z, rfl, (Option.some.inj hx).symm⟩
      have hh := hall z (List.mem_of_getElem? hz)
      obtain ⟨r, rfl⟩ : ∃ r : Nat, z = r := ⟨z.toNat, by have := hh.1; omega⟩
      refine s_when (et_dnin (r := r) (ev_var rfl) (ev_var rfl) (eH3 _ _ hd2)) (fun hb H4 e4 => ?_) (fun hb H4 e4 => ⟨eH3.trans e4, fun j hj z' hz' => ?_, _, rfl⟩)
      · have hnr : ¬ Rch N.ds (-1) r := fun hr => by
          rw [decide_eq_true ((hl.mem r).mpr hr)] at hb
          cases hb
        exact k3 hall ⟨r, List.mem_of_getElem? hz, hnr⟩ H4 ((e12.trans eH3).trans e4)
      · by_cases hji : j = i
        · subst hji
          rw [hz] at hz'
          rw [← Option.some.inj hz']
          refine ⟨r, rfl, (hl.mem r).mp ?_⟩
          simpa using hb
        · exact hd3 j (by omega) z' hz'
    · obtain ⟨eH3, hd3, s2, rfl⟩ := hP
      exact k1 (fun z hz => by
        obtain ⟨i, hi, e⟩ := List.mem_iff_getElem.mp hz
        exact hd3 i (by rw [List.length_map]; exact hi) z (by rw [List.getElem?_eq_getElem hi, e])) H' (e12.trans eH3)
/-- ask_reached(net, [r]) -/
theorem q_askR {tz : TS} {ri : Int} (h1 : Ev tn σ H (.ref p)) (h2 : Ev tr σ H (.int ri)) (hn : NetAt g H p N) {S : Nat → Prop} (hA : Asked g E H N ri S) (k : ∀ r : Nat, ri = r → Rch N.ds (-1) r → S r → ∀ H1, Ex H H1 → tz D σ H1) :
    tSeq (tDrop (tCall (sp_ask_reached g) [] E (tCons tn (tCons (tLst (tCons tr tNil)) tNil)))) tz D σ H :=
  h1 H (Ex.refl H) _ fun H2 e2 => el_lst (ea_cons h2 ea_nil) (by show 1 ≤ 100000; decide) H2 e2 _ fun a H3 ha e3 ha3 =>
    ⟨p, a, N, [ri], rfl, hn.mono (e2.trans e3), sq_of ha3, fun hh H4 e4 => by
      obtain ⟨r, hr, hr2⟩ := hh ri List.mem_cons_self
      exact k r hr hr2 (hA.1 r hr hr2) H4 ((e2.trans e3).trans e4), fun ⟨z, hz, hh⟩ => (hA.2.1 (List.mem_singleton.mp hz ▸ hh)).mono (e2.trans e3), fun hh ⟨r, hr, hr2⟩ => by
      have e : (r : Int) = ri := List.mem_singleton.mp hr
      have := hh ri List.mem_cons_self
      exact (hA.2.2 r (by omega) e.symm hr2).mono (e2.trans e3)⟩
theorem el_way_of {ds : DL} (h1 : EvP te σ H (fun _ v H2 => ∃ d l, v = .ref d ∧ H2 d = some (.dK (dK l)) ∧ StepsOf ds s l)) (h2 : ∀ H1, Ex H H1 → Ev tr σ H1 (nv r)) (hr : Rch ds s r) (hl : ∀ l, StepsOf ds s l → l.length ≤ 1000) :
    EvP (tCall (sp_way_of g) [] E0 (tCons te (tCons tr tNil))) σ H (fun H1 v H2 => ∃ q w, v = .ref q ∧ H1 q = none ∧ H2 q = some (.lst (nvs w)) ∧ Way ds s w r) := fun H1 e Q q =>
  h1 H1 e _ fun v H2 e2 hv => h2 H2 (e.trans e2) H2 (Ex.refl _) _ fun H3 e3 => by
    obtain ⟨d, l, rfl, hd2, hS⟩ := hv
    exact ⟨d, l, ds, s, r, rfl, e3 _ _ hd2, hS, hr, hl l hS, fun w hw q2 H4 hq2 e4 hq4 => q _ H4 ((e2.trans e3).trans e4) ⟨q2, w, rfl, fresh_back (e2.trans e3) hq2, hq4, hw⟩⟩
theorem ep_stepsS (h1 : Ev tn σ H (.ref p)) (h2 : Ev ts σ H (.int s)) (hn : NetAt g H p N) :
    EvP (tCall (sp_steps g) [] E0 (tCons tn (tCons ts tNil))) σ H (fun _ v H2 => ∃ d l, v = .ref d ∧ H2 d = some (.dK (dK l)) ∧ StepsOf N.ds s l) := fun H1 e Q q =>
  ep_steps h1 h2 hn H1 e Q fun v H2 e2 hv => by
    obtain ⟨d, l, h1, _, h2⟩ := hv
    exact q v H2 e2 ⟨d, l, h1, h2⟩
theorem steps_small (ok : N.Ok) {l : List (Nat × V)} (h : StepsOf N.ds s l) : l.length ≤ 1000 := by
  have := h.len ok
  have := ok.most
  omega
theorem pure_way_to (h : sp_way_to g vs H Q E) : t_way_to g E { nx := fun _ H' => Q .non H', rt := Q } (start N_way_to vs) H := by
  obtain ⟨p, N, ri, rfl, hn, hA⟩ := h
  refine q_askR (ri := ri) (N := N) (ev_var rfl) (ev_var rfl) hn hA fun r hr hr2 hS H1 e1 => ?_
  subst hr
  refine el_way_of (ep_stepsS (s := -1) (N := N) (ev_var rfl) (ev_un ev_c ru_neg) (hn.mono e1)) (fun H2 e2 => ev_var rfl) hr2 (fun l hl => steps_small hn.ok hl) H1 (Ex.refl _) _ fun v H2 e2 hv => ?_
  obtain ⟨q, w, rfl, hq, hq2, hw⟩ := hv
  exact hS w hw q H2 (fresh_back e1 hq) (e1.trans e2) hq2
theorem pure_way_past (h : sp_way_past g vs H Q E) : t_way_past g E { nx := fun _ H' => Q .non H', rt := Q } (start N_way_past vs) H := by
  obtain ⟨p, N, ri, oi, rfl, hn, k1, k2, k3⟩ := h
  refine q_ask (ri := ri) (N := N) (ev_var rfl) (ev_var rfl) hn (fun hh => k2 (.inl hh)) fun hr H1 e1 => ?_
  refine q_ask (ri := oi) (N := N) (ev_var rfl) (ev_var rfl) (hn.mono e1) (fun hh => (k2 (.inr hh)).mono e1) fun ho H2 e2 => ?_
  have e12 := e1.trans e2
  refine q_askR (ri := ri) (N := N) (S := fun _ => True) (ev_var rfl) (ev_var rfl) (hn.mono e12) ⟨fun _ _ _ => trivial, fun hh => (hh hr).elim, fun k hk hk2 hk3 => (k3 ho k hk hk2 hk3).mono e12⟩ fun r hr2 hr3 _ H3 e3 => ?_
  subst hr2
  obtain ⟨o, rfl⟩ : ∃ o : Nat, oi = o := ⟨oi.toNat, by have := ho.1; omega⟩
  have e13 := e12.trans e3
  obtain ⟨q1, q2⟩ := k1 r o rfl rfl (by have := ho.2; omega) hr3
  refine a_asgP (ep_steps (s := (o : Int)) (N := N) (ev_var rfl) (ev_var rfl) (hn.mono e13)) fun v H4 e4 hv => ?_
  obtain ⟨d, l, rfl, hd0, hd2, hl⟩ := hv
  refine q_when (et_dnin (r := r) (ev_var rfl) (ev_var rfl) hd2) (fun hb H5 e5 => ?_) (fun hb H5 e5 => ?_)
  · have hnr : ¬ Rch N.ds o r := fun hr => by
      rw [decide_eq_true ((hl.mem r).mpr hr)] at hb
      cases hb
    exact s_ret ev_c fun H6 e6 => q2 hnr H6 (((e13.trans e4).trans e5).trans e6)
  · have hyr : Rch N.ds o r := (hl.mem r).mp (by simpa using hb)
    refine el_way_of (te := tVar 3) (r := r) (fun H6 e6 Q q => ⟨_, rfl, q _ H6 (Ex.refl _) ⟨d, l, rfl, e6 _ _ (e5 _ _ hd2), hl⟩⟩) (fun H2 e2 => ev_var rfl) hyr (fun l hl => steps_small hn.ok hl) H5 (Ex.refl _) _ fun v H6 e6 hv => ?_
    obtain ⟨q, w, rfl, hq, hq2, hw⟩ := hv
    have e15 := (e13.trans e4).trans e5
    exact q1 w hw q H6 (fresh_back e15 hq) (e15.trans e6) hq2
theorem flat_nvs : ∀ l : List Nat, (nvs l).all flatV = true
  | [] => rfl
  | _ :: l => by
    rw [show nvs (_ :: l) = nv _ :: nvs l from rfl, List.all_cons, flat_nvs l]
    rfl
theorem in_nvs {k : Nat} : ∀ l : List Nat, inV (nv k) (nvs l) = decide (k ∈ l)
  | [] => by simp [inV, nvs]
  | a :: l => by
    have ih := in_nvs (k := k) l
    rw [show inV (nv k) (nvs (a :: l)) = (eqV (nv a) (nv k) || inV (nv k) (nvs l)) from rfl, ih, show eqV (nv a) (nv k) = ((a : Int) == (k : Int)) from rfl, Bool.eq_iff_iff, Bool.or_eq_true, beq_iff_eq, decide_eq_true_iff, decide_eq_true_iff, List.mem_cons]
    exact ⟨fun h => h.elim (fun h => .inl (by omega)) .inr, fun h => h.elim (fun h => .inl (by omega)) .inr⟩
theorem nat_of {r : Int} (h : N.has r) : ∃ k : Nat, r = k ∧ k < N.n := ⟨r.toNat, by have := h.1; omega, by have := h.1; have := h.2; omega⟩
theorem pure_guarded (h : sp_guarded g vs H Q E) : t_guarded g { nx := fun _ H' => Q .non H', rt := Q } (start N_guarded vs) H := by
  obtain ⟨p, N, s, rfl, hn, k⟩ := h
  refine a_asgP (ep_steps (s := s) (N := N) (ev_var rfl) (ev_var rfl) hn) fun v H1 e1 hv => ?_
  obtain ⟨d, l, rfl, hd0, hd2, hl⟩ := hv
  refine s_retL (el_lc (l := N.there) (R := fun (r : Nat) x => x = nv r) (fun r => !rch N.ds s r) nv (ei_listN (el_reached (N := N) (ev_var rfl) (hn.mono e1)) (paired_map (f := nv) (fun _ => rfl) _)) ?_ (fun _ => rfl) (fun r x H2 hr hx e2 => ?_) (fun r x H2 hr hx e2 _ => ?_)) fun q H2 hq e2 hq2 => k q H2 (fresh_back e1 hq) (e1.trans e2) ?_
  · have h1 := List.length_filter_le (fun k => rch N.ds (-1) k) (List.range N.n)
    rw [List.length_range] at h1
    have := hn.ok.most
    show ((List.range N.n).filter fun k => rch N.ds (-1) k).length ≤ 40000
    omega
  · subst hx
    refine et_is (et_dnin (r := r) (ev_var rfl) (ev_var rfl) (e2 _ _ hd2)) ?_
    congr 1
    rw [Bool.eq_iff_iff, decide_eq_true_iff, rch_iff]
    exact hl.mem r
  · subst hx
    exact ev_var rfl
  · rw [hq2]
    unfold Nt.there Nt.under
    rw [List.filter_filter]
    refine congrArg (fun z => some (HO.lst (nvs z))) (List.filter_congr fun x _ => ?_)
    exact Bool.and_comm _ _
theorem el_guarded (h1 : Ev tn σ H (.ref p)) (h2 : Ev ts σ H (.int s)) (hn : NetAt g H p N) : EvL (tCall (sp_guarded g) [] E0 (tCons tn (tCons ts tNil))) σ H (nvs (N.under s)) := el_call1 (ea_cons h1 (ea_cons h2 ea_nil)) fun H1 e Q k => ⟨p, N, s, rfl, hn.mono e, k⟩
theorem pure_guards (h : sp_guards g vs H Q E) : t_guards g E { nx := fun _ H' => Q .non H', rt := Q } (start N_guards vs) H := by
  obtain ⟨p, N, ri, oi, rfl, hn, k1, k2, k3⟩ := h
  refine q_ask (ri := ri) (N := N) (ev_var rfl) (ev_var rfl) hn (fun hh => k2 (.inl hh)) fun hr H1 e1 => ?_
  obtain ⟨r, rfl, hrn⟩ := nat_of hr
  refine q_askR (ri := oi) (N := N) (S := fun _ => True) (ev_var rfl) (ev_var rfl) (hn.mono e1) ⟨fun _ _ _ => trivial, fun hh => (k2 (.inr hh)).mono e1, fun k hk hk2 hk3 => (k3 hr k hk hk2 hk3).mono e1⟩ fun o ho2 ho3 _ H2 e2 => ?_
  subst ho2
  have e12 := e1.trans e2
  refine s_ret (ev_is (ev_opL (ev_var rfl) (el_guarded (N := N) (s := (r : Int)) (ev_var rfl) (ev_var rfl) (hn.mono e12)) fun q H3 hq e3 => rv_isL (sq_of hq) rfl (flat_nvs _)) ?_) fun H3 e3 => k1 r o rfl rfl hrn ho3 H3 (e12.trans e3)
  rw [in_nvs]
  congr 1
  rw [Bool.eq_iff_iff, decide_eq_true_iff, dm_iff]
  exact mem_under hn.ok
theorem lc_raw {K : PySem.W.Frag} {gt : TG} {tt : TT} {tv : TE} {ws : List Nat} {Q : VK} (h : te σ H fun v H1 => tLc (iList K (tC v)) gt tt tv ws σ H1 Q) : tLc (iList K te) gt tt tv ws σ H Q := h
theorem way_len (ok : N.Ok) {w : List Nat} (h : Way N.ds s w r) : w.length ≤ N.n := by
  have h1 := h.nd.length_le_of_subset (l₂ := List.range N.n) fun r hr => List.mem_range.mpr ((h.p.rch0 r hr).lt ok.pos ok.ends)
  rw [List.length_range] at h1
  exact h1
theorem pure_guards_of (h : sp_guards_of g vs H Q E) : t_guards_of g E { nx := fun _ H' => Q .non H', rt := Q } (start N_guards_of vs) H := by
  obtain ⟨p, N, ri, rfl, hn, hA⟩ := h
  refine lc_raw ⟨_, rfl, _, rfl, p, N, ri, rfl, hn, fun r hr hr2 w hw q H2 hq e2 hq2 => ?_, hA.2⟩
  subst hr
  have hl := way_len hn.ok hw
  have hm := hn.ok.most
  refine el_lc (l := w) (R := fun (r : Nat) x => x = nv r) (fun a => dm N.ds a r) nv (ei_list ev_c (sq_of hq2) (paired_map (f := nv) (fun _ => rfl) _)) (by omega) (fun _ => rfl) (fun a x H3 ha hx e3 => ?_) (fun a x H2 ha hx e2 _ => ?_) H2 (Ex.refl _) Q fun q3 H3 hq3 e3 hq33 => (hA.1 r rfl hr2) q3 H3 (fresh_back e2 hq3) (e2.trans e3) ?_
  · subst hx
    refine et_is (et_nsteps (r := r) (s := (a : Int)) (N := N) (ev_var rfl) (ev_var rfl) (ev_var rfl) (hn.mono (e2.trans e3))) ?_
    rw [dm_eq, rch_iff.mpr hr2, Bool.true_and]
  · subst hx
    exact ev_var rfl
  · rw [hq33, ← gds_eq hw]
    rfl
theorem two_last : ∀ l : List Nat, l ≠ [] → l.length ≠ 1 → ∃ u x y, l = u ++ [x, y]
  | [], h, _ => (h rfl).elim
  | [_], _, h => (h rfl).elim
  | [x, y], _, _ => ⟨[], x, y, rfl⟩
  | a :: b :: c :: l, _, _ => by
    obtain ⟨u, x, y, e⟩ := two_last (b :: c :: l) (by simp) (by simp)
    exact ⟨a :: u, x, y, by rw [e]; rfl⟩
theorem atI_back2 (u : List V) (x y : V) : atI (u ++ [x, y]) (-2) = some x := by
  have h : ixN (u ++ [x, y]).length (-2) = some u.length := by
    unfold ixN
    rw [if_neg (by decide), if_pos (by rw [List.length_append]; show -(((u.length + 2 : Nat)) : Int) ≤ -2; omega)]
    rw [List.length_append]
    show some (((u.length + 2 : Nat) : Int) + -2).toNat = some u.length
    exact congrArg some (by omega)
  unfold atI
  rw [h]
  show (u ++ [x, y])[u.length]? = some x
  rw [List.getElem?_append_right (Nat.le_refl _), Nat.sub_self]
  rfl
theorem atI_back1 (u : List V) (x : V) : atI (u ++ [x]) (-1) = some x := by
  have h : ixN (u ++ [x]).length (-1) = some u.length := by
    unfold ixN
    rw [if_neg (by decide), if_pos (by rw [List.length_append]; show -(((u.length + 1 : Nat)) : Int) ≤ -1; omega)]
    rw [List.length_append]
    show some (((u.length + 1 : Nat) : Int) + -1).toNat = some u.length
    exact congrArg some (by omega)
  unfold atI
  rw [h]
  show (u ++ [x])[u.length]? = some x
  rw [List.getElem?_append_right (Nat.le_refl _), Nat.sub_self]
  rfl
theorem pure_nearest (h : sp_nearest g vs H Q E) : t_nearest g E { nx := fun _ H' => Q .non H', rt := Q } (start N_nearest vs) H := by
  obtain ⟨p, N, ri, rfl, hn, hA⟩ := h
  refine q_callX (ea_cons (ev_var rfl) (ea_cons (ev_var rfl) ea_nil)) fun H1 e1 => ⟨p, N, ri, rfl, hn.mono e1, fun r hr hr2 q H2 hq e2 hq2 => ?_, fun hh => (hA.2.1 hh).mono e1, fun k hk hk2 hk3 => (hA.2.2 k hk hk2 hk3).mono e1⟩
  obtain ⟨k1, k2⟩ := hA.1 r hr hr2
  have hlen : (nvs (gds N.ds r)).length = (gds N.ds r).length := List.length_map ..
  refine q_when (et_is (et_test (ev_op (ev_len (ev_var rfl) (sq_of hq2)) ev_c (rv_eq rfl))) (b := decide ((gds N.ds r).length = 1)) (by rw [hlen]; exact decide_eq_decide.mpr ⟨fun h => by have := V.int.inj h; omega, fun h => by rw [h]; rfl⟩)) (fun hb H3 e3 => ?_) (fun hb H3 e3 => ?_)
  · exact s_ret ev_c fun H4 e4 => k1 (of_decide_eq_true hb) H4 (((e1.trans e2).trans e3).trans e4)
  · obtain ⟨u, x, y, e⟩ := two_last (gds N.ds r) (fun z => by
      have := (gds_mem hr2).mpr (Dm.refl hr2)
      rw [z] at this
      cases this) (of_decide_eq_false hb)
    rw [e] at hq2
    refine s_ret (v := nv x) (ev_op (ev_var rfl) (ev_un ev_c ru_neg) (rv_ixL (xs := nvs (u ++ [x, y])) (sq_of (e3 _ _ hq2)) ?_)) fun H4 e4 => k2 u x y e H4 (((e1.trans e2).trans e3).trans e4)
    unfold nvs
    rw [List.map_append]
    exact atI_back2 _ _ _
end
end Mp

/-! The laws' helpers about graphs: _law_past, _law_is_way, _law_guards. -/
namespace Mp
open PySem L2 Evl
def bls (n : Nat) (f : Nat → Bool) : List V := (List.range n).map fun k => V.bl (f k)
theorem bls_at {n k : Nat} {f : Nat → Bool} (h : k < n) : (bls n f)[k]? = some (.bl (f k)) := by
  unfold bls
  rw [List.getElem?_map, List.getElem?_range h]
  rfl
theorem bls_len {n : Nat} {f : Nat → Bool} : (bls n f).length = n := by
  unfold bls
  rw [List.length_map, List.length_range]
def mark (f : Nat → Bool) (b : Nat) : Nat → Bool := fun k => f k || decide (k = b)
theorem bls_set {n b : Nat} {f : Nat → Bool} : (bls n f).set b (.bl true) = bls n (mark f b) := by
  apply List.ext_getElem?
  intro k
  by_cases hk : k < n
  · rw [bls_at hk, List.getElem?_set]
    by_cases e : b = k
    · rw [if_pos e, if_pos (by rw [bls_len, e]; exact hk)]
      simp [mark, e]
    · rw [if_neg e, bls_at hk]
      simp [mark, Ne.symm e]
  · rw [List.getElem?_eq_none (by rw [List.length_set, bls_len]; omega), List.getElem?_eq_none (by rw [bls_len]; omega)]
theorem bls_congr {n : Nat} {f h : Nat → Bool} (e : ∀ k, k < n → f k = h k) : bls n f = bls n h := by
  unfold bls
  exact List.map_congr_left fun k hk => by rw [e k (List.mem_range.mp hk)]
/-- how many are unmarked -/
def mis (n : Nat) (f : Nat → Bool) : Nat := ((List.range n).filter fun k => !f k).length
theorem mis_lt {n b : Nat} {f h : Nat → Bool} (hb : b < n) (h1 : ∀ k, f k = true → h k = true) (h2 : f b = false) (h3 : h b = true) : mis n h < mis n f := by
  unfold mis
  have e : ((List.range n).filter fun k => !h k) = ((List.range n).filter fun k => !f k).filter fun k => !h k := by
    rw [List.filter_filter]
    refine List.filter_congr fun k _ => ?_
    cases hf : f k with
    | true => rw [h1 k hf]; rfl
    | false => simp
  rw [e]
  have hm : b ∈ (List.range n).filter fun k => !f k := List.mem_filter.mpr ⟨List.mem_range.mpr hb, by rw [h2]; rfl⟩
  refine Nat.lt_of_le_of_ne (List.length_filter_le _ _) fun z => ?_
  have := (List.length_filter_eq_length_iff.mp z) b hm
  rw [h3] at this
  cases this
/-! ### promises -/
def sp__law_past (g : Gb) : Sp := fun vs H Q _ => ∃ (n : Nat) (la : Addr) (ds : DL) (s : Int), vs = [nv n, .ref la, .int s] ∧ 1 ≤ n ∧ n ≤ 40 ∧ (∀ d ∈ ds, d.1 < n ∧ d.2 < n) ∧ PL g.K H la (ds.map zp) ∧ RetL (bls n (rch ds s)) H Q
def sp__law_is_way (g : Gb) : Sp := fun vs H Q _ => ∃ (fl la : Addr) (w : List Nat) (ds : DL) (s : Int) (r : Nat), vs = [.ref fl, .ref la, nv r] ∧ H fl = some (.lst (nvs w)) ∧ PLt H la (ds.map zp) ∧ Pth ds s 0 w r ∧ w.length ≤ 1000 ∧ ds.length ≤ 1000 ∧ RetV (.bl true) H Q
/-- a table of bools -/
def TbAt (H : Hp) (t : Addr) (n : Nat) (f : Nat → Nat → Bool) : Prop := ∃ as : List Addr, H t = some (.lst (as.map V.ref)) ∧ Paired (fun a r => H a = some (.lst (bls n (f r)))) as (List.range n)
def sp__law_guards (g : Gb) : Sp := fun vs H Q _ => ∃ (n : Nat) (la : Addr) (ds : DL), vs = [nv n, .ref la] ∧ 1 ≤ n ∧ n ≤ 40 ∧ (∀ d ∈ ds, d.1 < n ∧ d.2 < n) ∧ PL g.K H la (ds.map zp) ∧ ∀ q H2, H q = none → Ex H H2 → TbAt H2 q n (dm ds) → Q (.ref q) H2
/-! _law_past: slots 0 many 1 pairs 2 shunned 3 met 4 k 5 more 6 pair -/
def t__law_past_b1 (g : Gb)  : TS := tIfS (tAnd (tB (tOp (rIxL g.K) (tVar 3) (tOp (rIxT g.K) (tVar 6) (tC (.int 0))))) (tAnd (tNot (tB (tOp (rIxL g.K) (tVar 3) (tOp (rIxT g.K) (tVar 6) (tC (.int 1)))))) (tTest (tOp rNe (tOp (rIxT g.K) (tVar 6) (tC (.int 1))) (tVar 2))))) (tSeq (tAsg (tC (.bl true)) (gSub (tVar 3) (tOp (rIxT g.K) (tVar 6) (tC (.int 1))) rSetL))
  (tAsg (tC (.bl true)) (gName 5))) tNext
def t__law_past_b2 (g : Gb)  : TS := tSeq (tAsg (tC (.bl false)) (gName 5))
  (tFor (iList g.K (tVar 1)) (gName 6) (t__law_past_b1 g))
def t__law_past (g : Gb) : TS := tSeq (tAsg (tLc (iRng1 (tCons (tVar 0) tNil)) (gName 4) tYes (tAndV (tOp rEq (tVar 4) (tC (.int 0))) (tOp rNe (tVar 2) (tC (.int 0)))) [4]) (gName 3))
  (tSeq (tAsg (tC (.bl true)) (gName 5))
  (tSeq (tWhile (tB (tVar 5)) (t__law_past_b2 g))
  (tRet (tVar 3))))
abbrev N__law_past : List Str := ["many", "pairs", "shunned", "met", "k", "more", "pair"]
/-! _law_is_way: slots 0 found 1 pairs 2 room 3 one 4 k -/
def t__law_is_way_b1 (g : Gb)  : TS := tIfS (tNot (tB (tCall (sp__law_whole g) [] E0 (tCons (tVar 3) tNil)))) (tRet (tC (.bl false))) tNext
def t__law_is_way_b2 (g : Gb)  : TS := tIfS (tTest (tOp (rNotInD g.K) (tTup (tCons (tOp (rIxL g.K) (tVar 0) (tVar 4)) (tCons (tOp (rIxL g.K) (tVar 0) (tOp rAddI (tVar 4) (tC (.int 1)))) tNil))) (tVar 1))) (tRet (tC (.bl false))) tNext
def t__law_is_way (g : Gb) : TS := tSeq (tIfS (tOr (tNot (tB (tCB (rIsi g.K) (tCons (tVar 0) (tCons (tC (.ty "list")) tNil))))) (tTest (tOp rEq (tCB (rLenS g.K) (tCons (tVar 0) tNil)) (tC (.int 0))))) (tRet (tC (.bl false))) tNext)
  (tSeq (tFor (iList g.K (tVar 0)) (gName 3) (t__law_is_way_b1 g))
  (tSeq (tFor (iRng1 (tCons (tOp rSubI (tCB (rLenS g.K) (tCons (tVar 0) tNil)) (tC (.int 1))) tNil)) (gName 4) (t__law_is_way_b2 g))
  (tRet (tAndV (tOp rEq (tOp (rIxL g.K) (tVar 0) (tC (.int 0))) (tC (.int 0))) (tOp rEq (tOp (rIxL g.K) (tVar 0) (tUn rNeg (tC (.int 1)))) (tVar 2))))))
abbrev N__law_is_way : List Str := ["found", "pairs", "room", "one", "k"]
/-! _law_guards: slots 0 many 1 pairs 2 there 3 table 4 room 5 met 6 k -/
def t__law_guards_b1 (g : Gb)  : TS := tSeq (tAsg (tCall (sp__law_past g) [] E0 (tCons (tVar 0) (tCons (tVar 1) (tCons (tVar 4) tNil)))) (gName 5))
  (tDrop (tBM g.K "list" rAppend (tVar 3) (tCons (tLc (iRng1 (tCons (tVar 0) tNil)) (gName 6) tYes (tAndV (tOp (rIxL g.K) (tVar 2) (tVar 6)) (tNotV (tOp (rIxL g.K) (tVar 5) (tVar 6)))) [6]) tNil)))
def t__law_guards (g : Gb) : TS := tSeq (tAsg (tCall (sp__law_past g) [] E0 (tCons (tVar 0) (tCons (tVar 1) (tCons (tUn rNeg (tC (.int 1))) tNil)))) (gName 2))
  (tSeq (tAsg (tLst tNil) (gName 3))
  (tSeq (tFor (iRng1 (tCons (tVar 0) tNil)) (gName 4) (t__law_guards_b1 g))
  (tRet (tVar 3))))
abbrev N__law_guards : List Str := ["many", "pairs", "there", "table", "room", "met", "k"]

section
variable {g : Gb} {σ : L2.St} {H B : Hp} {D : Ends} {E : XK} {Q : VK} {vs : List V} {p la t : Addr} {N : Nt} {te tn ts tr tl tm ta tb : TE} {tz : TS} {s : Int} {r n : Nat} {ds : DL} {K : PySem.W.Frag}
/-- a pair's ends, the pair at an address -/
theorem ev_fst {a : Addr} {x y : Nat} (h : Ev te σ H (.ref a)) (ha : H a = some (.tup [nv x, nv y])) : Ev (tOp (rIxT K) te (tC (.int 0))) σ H (nv x) := ev_op h ev_c (rv_ixT (st_of ha) (atI_nat (j := 0) rfl))
theorem ev_snd {a : Addr} {x y : Nat} (h : Ev te σ H (.ref a)) (ha : H a = some (.tup [nv x, nv y])) : Ev (tOp (rIxT K) te (tC (.int 1))) σ H (nv y) := ev_op h ev_c (rv_ixT (st_of ha) (atI_nat (j := 1) rfl))
theorem ev_bl {a : Addr} {f : Nat → Bool} {k : Nat} (h : Ev te σ H (.ref a)) (hk : Ev tr σ H (nv k)) (ha : H a = some (.lst (bls n f))) (hlt : k < n) : Ev (tOp (rIxL K) te tr) σ H (.bl (f k)) := ev_op h hk (rv_ixL (sq_of ha) (atI_nat (bls_at hlt)))
theorem nvI {a b : Nat} : (nv a = nv b) ↔ a = b := ⟨fun h => by have := V.int.inj h; omega, fun h => by rw [h]⟩
theorem pure__law_past (h : sp__law_past g vs H Q E) : t__law_past g { nx := fun _ H' => Q .non H', rt := Q } (start N__law_past vs) H := by
  obtain ⟨n, la, ds, s, rfl, hn1, hn2, hends, hp, k⟩ := h
  refine q_asgL (el_lc (l := List.range n) (R := fun (k : Nat) x => x = nv k) (fun _ => true) (fun k => V.bl (decide (k = 0) && !decide (s = 0))) (ei_range (ea_cons (ev_var rfl) ea_nil) (by omega)) (by rw [List.length_range]; omega) (fun _ => rfl) (fun _ _ _ _ _ _ => et_yes) (fun k x H1 _ hx e1 _ => ?_)) fun ml H1 hml e1 hml1 => ?_
  · subst hx
    refine ev_is (ev_andV (ev_op (ev_var rfl) ev_c (rv_eq rfl)) fun _ => ev_op (ev_var rfl) ev_c (rv_ne rfl)) ?_
    congr 2
    · exact decide_eq_decide.mpr ⟨fun h => by have := V.int.inj h; omega, fun h => by rw [h]; rfl⟩
    · exact congrArg (fun z => !z) (decide_eq_decide.mpr ⟨fun h => V.int.inj h, fun h => by rw [h]⟩)
  rw [List.filter_eq_self.mpr (fun _ _ => rfl)] at hml1
  obtain ⟨as, hs, hps⟩ := hp
  have hp2 := refs_paired hps
  refine q_asg ev_c fun H2 e2 => ?_
  refine q_while (fun m σ' H' => ∃ (f : Nat → Bool) (b : Bool) (s4 s6 : Option V), σ' = [some (nv n), some (.ref la), some (.int s), some (.ref ml), s4, some (.bl b), s6] ∧ Ex H H' ∧ H' ml = some (.lst (bls n f)) ∧ (∀ k, k < n → f k = true → Rch ds s k) ∧ (s ≠ 0 → f 0 = true) ∧
      (b = false → ∀ d ∈ ds, f d.1 = true → (d.2 : Int) ≠ s → f d.2 = true) ∧ m = mis n f + (if b then 1 else 0)) (mis n (fun k => decide (k = 0) && !decide (s = 0)) + 1) ⟨_, true, none, none, rfl, e1.trans e2, e2 _ _ hml1, fun k hk h => ?_, fun h => by simp [h], (fun h => by cases h), rfl⟩ fun m σ' H' hW => ?_
  · simp at h
    rw [h.1]
    exact .zero h.2
  obtain ⟨f, b, s4, s6, rfl, eH, hm, hf1, hf2, hf3, rfl⟩ := hW
  refine ⟨b, et_B (ev_var rfl), fun hb H3 e3 => ?_, fun hb H3 e3 => ?_⟩
  · subst hb
    refine ⟨fun σ2 H2 => ∃ (h : Nat → Bool) (b : Bool) (s4 s6 : Option V), σ2 = [some (nv n), some (.ref la), some (.int s), some (.ref ml), s4, some (.bl b), s6] ∧ Ex H H2 ∧ H2 ml = some (.lst (bls n h)) ∧ (∀ k, k < n → h k = true → Rch ds s k) ∧ (s ≠ 0 → h 0 = true) ∧
      (b = false → ∀ d ∈ ds, h d.1 = true → (d.2 : Int) ≠ s → h d.2 = true) ∧ (mis n h ≤ mis n f) ∧ (b = true → mis n h < mis n f), fun σ2 H2 hN => ?_, ?_⟩
    · obtain ⟨h, b, s4, s6, h1, h2, h3, h4, h5, h6, h7, h8⟩ := hN
      refine ⟨mis n h + (if b then 1 else 0), ?_, h, b, s4, s6, h1, h2, h3, h4, h5, h6, rfl⟩
      show _ < mis n f + 1
      cases b with
      | true =>
        have := h8 rfl
        show mis n h + 1 < mis n f + 1
        omega
      | false =>
        show mis n h + 0 < mis n f + 1
        omega
    refine q_asg ev_c fun H4 e4 => ?_
    have e34 := e3.trans e4
    refine s_forLn (ev_var rfl) (ex_l (eH.trans e34) hs) (fun i σ' H' => ∃ (h : Nat → Bool) (b : Bool) (s4 s6 : Option V), σ' = [some (nv n), some (.ref la), some (.int s), some (.ref ml), s4, some (.bl b), s6] ∧ Ex H H' ∧ H' ml = some (.lst (bls n h)) ∧ (∀ k, k < n → h k = true → Rch ds s k) ∧ (∀ k, f k = true → h k = true) ∧
      (b = false → (∀ k, h k = f k) ∧ ∀ j, j < i → ∀ d, ds[j]? = some d → h d.1 = true → (d.2 : Int) ≠ s → h d.2 = true) ∧ (b = true → ∃ k, k < n ∧ f k = false ∧ h k = true)) (fun H5 e5 => ⟨f, false, _, _, rfl, (eH.trans e34).trans e5, e5 _ _ (e34 _ _ hm), hf1, fun _ h => h, fun _ => ⟨fun _ => rfl, fun j hj => absurd hj (Nat.not_lt_zero _)⟩, (fun h => by cases h)⟩)
      (fun i σ' H' _ hP => by
        obtain ⟨h, b, s4, s6, _, eX, _⟩ := hP
        exact ex_l eX hs) (fun i x σ' H' hx hP => ?_) (fun σ' H' hP => ?_)
    · obtain ⟨h, b, s4, s6, rfl, eX, hm', h1, h2, h3, h4⟩ := hP
      obtain ⟨d, hd, a, rfl, ha⟩ := paired_at hp2 hx
      have hd' := hends d (List.mem_of_getElem? hd)
      have ha' := eX _ _ ha
      refine s_when (b := h d.1 && (!h d.2 && !decide ((d.2 : Int) = s))) (et_and (et_B (ev_bl (ev_var rfl) (ev_fst (ev_var rfl) ha') hm' hd'.1)) fun _ => et_and (et_not (et_B (ev_bl (ev_var rfl) (ev_snd (ev_var rfl) ha') hm' hd'.2))) fun _ => et_is (et_test (ev_op (ev_snd (ev_var rfl) ha') (ev_var rfl) (rv_ne rfl))) ?_) (fun hb H5 e5 => ?_) (fun hb H5 e5 => ?_)
      · exact congrArg (fun z => !z) (decide_eq_decide.mpr ⟨fun h => V.int.inj h, fun h => congrArg V.int h⟩)
      · have hb2 : h d.1 = true ∧ h d.2 = false ∧ (d.2 : Int) ≠ s := by simpa using hb
        refine q_setL (j := d.2) (e5 _ _ hm') ev_c (ev_var rfl) (ev_snd (ev_var rfl) (e5 _ _ ha')) (by rw [bls_len]; exact hd'.2) fun H6 e6 => ?_
        refine s_asg ev_c fun H7 e7 => ?_
        refine ⟨mark h d.2, true, _, _, rfl, (exU ((eX.trans e5).trans e6) hml).trans e7, ?_, fun k hk hk2 => ?_, fun k hk => ?_, (fun h => by cases h), fun _ => ⟨d.2, hd'.2, ?_, ?_⟩⟩
        · rw [← bls_set]
          exact e7 _ _ upd_same
        · simp only [mark, Bool.or_eq_true, decide_eq_true_eq] at hk2
          rcases hk2 with hk2 | rfl
          · exact h1 k hk hk2
          · exact .step (h1 d.1 hd'.1 hb2.1) (List.mem_of_getElem? hd) hb2.2.2
        · simp [mark, h2 k hk]
        · cases e : f d.2 with
          | false => rfl
          | true => rw [h2 _ e] at hb2; exact absurd hb2.2.1 (by decide)
        · simp [mark]
      · refine ⟨h, b, _, _, rfl, eX.trans e5, e5 _ _ hm', h1, h2, fun hb3 => ⟨(h3 hb3).1, fun j hj d' hd'2 q1 q2 => ?_⟩, h4⟩
        by_cases hji : j = i
        · subst hji
          rw [hd] at hd'2
          have := Option.some.inj hd'2
          subst this
          rw [q1] at hb
          cases e : h d.2 with
          | true => rfl
          | false =>
            rw [e] at hb
            simp at hb
            exact (q2 hb).elim
        · exact (h3 hb3).2 j (by omega) d' hd'2 q1 q2
    · obtain ⟨h, b, s4, s6, rfl, eX, hm', h1, h2, h3, h4⟩ := hP
      have hlen : (as.map V.ref).length = ds.length := paired_len hp2
      rw [hlen] at h3
      refine ⟨h, b, s4, s6, rfl, eX, hm', h1, fun hs0 => h2 0 (hf2 hs0), fun hb3 d hd q1 q2 => ?_, ?_, fun hb3 => ?_⟩
      · obtain ⟨j, hj, e⟩ := List.mem_iff_getElem.mp hd
        exact (h3 hb3).2 j hj d (by rw [List.getElem?_eq_getElem hj, e]) q1 q2
      · cases b with
        | true =>
          obtain ⟨k, hk1, hk2, hk3⟩ := h4 rfl
          exact Nat.le_of_lt (mis_lt hk1 h2 hk2 hk3)
        | false =>
          have e : mis n h = mis n f := by
            unfold mis
            exact congrArg List.length (List.filter_congr fun k _ => by rw [(h3 rfl).1 k])
          omega
      · obtain ⟨k, hk1, hk2, hk3⟩ := h4 hb3
        exact mis_lt hk1 h2 hk2 hk3
  · subst hb
    refine s_ret (ev_var rfl) fun H4 e4 => k ml H4 hml ((eH.trans e3).trans e4) ?_
    rw [e4 _ _ (e3 _ _ hm)]
    refine congrArg (fun z => some (HO.lst z)) (bls_congr fun k hk => ?_)
    rw [Bool.eq_iff_iff, rch_iff]
    refine ⟨hf1 k hk, fun hr => ?_⟩
    clear hk
    induction hr with
    | zero h => exact hf2 h
    | step _ h1 h2 ih => exact hf3 rfl _ h1 ih h2
theorem el_past (h1 : Ev tn σ H (nv n)) (h2 : Ev tl σ H (.ref la)) (h3 : Ev ts σ H (.int s)) (hn1 : 1 ≤ n) (hn2 : n ≤ 40) (he : ∀ d ∈ ds, d.1 < n ∧ d.2 < n) (hp : PL g.K H la (ds.map zp)) : EvL (tCall (sp__law_past g) [] E0 (tCons tn (tCons tl (tCons ts tNil)))) σ H (bls n (rch ds s)) :=
  el_call1 (ea_cons h1 (ea_cons h2 (ea_cons h3 ea_nil))) fun H1 e Q k => ⟨n, la, ds, s, rfl, hn1, hn2, he, hp.mono e, k⟩
theorem Pth.at {a b x y k : Nat} {w : List Nat} (h : Pth ds s a w b) (h1 : w[k]? = some x) (h2 : w[k + 1]? = some y) : (x, y) ∈ ds := by
  induction h generalizing k with
  | one _ => simp at h2
  | cons q1 q2 q3 ih =>
    cases k with
    | zero =>
      obtain ⟨u, rfl⟩ := q3.fst
      simp at h1 h2
      rw [← h1, ← h2]
      exact q1
    | succ k => exact ih (by simpa using h1) (by simpa using h2)
theorem zs_shaped (ds : List (Int × Int)) : SeqAt.shaped (.list (ds.map pD)) = true := by
  have h1 := pairs_depth ds
  refine shaped_of (by simp [PyData.canLay0, pairs_lay ds]) ?_
  simp only [PyData.depth]
  omega
/-- a pair that is among the doors: (x, y) not in pairs -/
theorem ev_niD {x y : Nat} (ha : EvU ta σ H [nv x, nv y]) (hb : Ev tb σ H (.ref la)) (hp : PLt H la (ds.map zp)) (hm : (x, y) ∈ ds) : Ev (tOp (rNotInD K) ta tb) σ H (.bl false) := fun H1 e Q q =>
  ha H1 e _ fun t H2 ht e2 ht2 => hb H2 (e.trans e2) _ fun H3 e3 => ⟨pD (zp (x, y)), (ds.map zp).map pD, dp_pair (e3 _ _ ht2), dp_pairs (hp.mono ((e.trans e2).trans e3)), pD_shaped _, zs_shaped _, by
    have h1 : (((ds.map zp).map pD).any fun z => PyData.eqv z (pD (zp (x, y)))) = true := by
      refine List.any_eq_true.mpr ⟨pD (zp (x, y)), List.mem_map.mpr ⟨_, List.mem_map.mpr ⟨_, hm, rfl⟩, rfl⟩, ?_⟩
      exact SeqAt.eqv_refl _ (SeqAt.canLay_of_shaped (pD_shaped _))
    rw [h1]
    exact q H3 (e2.trans e3)⟩
theorem pure__law_is_way (h : sp__law_is_way g vs H Q E) : t__law_is_way g { nx := fun _ H' => Q .non H', rt := Q } (start N__law_is_way vs) H := by
  obtain ⟨fl, la, w, ds, s, r, rfl, hf, hp, hw, hwl, hdl, k⟩ := h
  obtain ⟨u, rfl⟩ := hw.fst
  have hlen : ∀ m : List Nat, (nvs m).length = m.length := fun m => List.length_map ..
  refine q_when (b := false) (et_is (et_or (et_not (et_B (ev_isi (ev_var rfl) (fun H1 e => tx_lst (e _ _ hf)) k_li))) fun _ => et_test (ev_op (ev_len (ev_var rfl) (sq_of hf)) ev_c (rv_eq rfl))) (by rw [hlen]; simp; omega)) (fun hb => by cases hb) (fun _ H1 e1 => ?_)
  refine q_forLn (ev_var rfl) (sq_of (e1 _ _ hf)) (fun i σ' H' => Ex H H' ∧ ∃ s3, σ' = [some (.ref fl), some (.ref la), some (nv r), s3, none]) (fun H2 e2 => ⟨e1.trans e2, _, rfl⟩) (fun i σ' H' _ hP => sq_of (hP.1 _ _ hf)) (fun i x σ' H' hx hP => ?_) (fun σ' H' hP => ?_)
  · obtain ⟨eH, s3, rfl⟩ := hP
    obtain ⟨z, rfl⟩ : ∃ z : Nat, x = nv z := by
      rw [List.getElem?_map] at hx
      cases e : (0 :: u)[i]? with
      | none => rw [e] at hx; cases hx
      | some z => rw [e] at hx; exact ⟨z, (Option.some.inj hx).symm⟩
    exact s_when (b := false) (et_not (et_B (ev_whole (ev_var rfl)))) (fun hb => by cases hb) fun _ H2 e2 => ⟨eH.trans e2, _, rfl⟩
  obtain ⟨eH, s3, rfl⟩ := hP
  refine q_forR1 (n := (u.length : Int)) (ea_cons (ev_is (ev_op (ev_len (ev_var rfl) (sq_of (eH _ _ hf))) ev_c rv_I0) (by rw [hlen]; exact congrArg V.int (by rw [List.length_cons]; omega))) ea_nil) (by rw [List.length_cons] at hwl; omega) (fun i σ' H' => Ex H H' ∧ ∃ s3 s4, σ' = [some (.ref fl), some (.ref la), some (nv r), s3, s4]) (fun H2 e2 => ⟨eH.trans e2, _, _, rfl⟩) (fun i σ' H' hi hP => ?_) (fun σ' H' hP => ?_)
  · obtain ⟨eX, s3, s4, rfl⟩ := hP
    have hi1 : i < (0 :: u).length := by rw [List.length_cons]; omega
    have hi2 : i + 1 < (0 :: u).length := by rw [List.length_cons]; omega
    have g1 := List.getElem?_eq_getElem hi1
    have g2 := List.getElem?_eq_getElem hi2
    have hat : ∀ {j x : Nat}, (0 :: u)[j]? = some x → (nvs (0 :: u))[j]? = some (nv x) := fun {j x} h => by rw [List.getElem?_map, h]; rfl
    refine s_when (b := false) (et_test (ev_niD (x := (0 :: u)[i]) (y := (0 :: u)[i + 1]) (eu_tup (ea_cons (ev_op (ev_var rfl) (ev_var rfl) (rv_ixL (sq_of (eX _ _ hf)) (atI_nat (hat g1)))) (ea_cons (ev_op (ev_var rfl) (ev_is (w := nv (i + 1)) (ev_op (ev_var rfl) ev_c rv_I0) rfl) (rv_ixL (sq_of (eX _ _ hf)) (atI_nat (hat g2)))) ea_nil)) (by show 2 ≤ 100000; decide)) (ev_var rfl) (hp.mono eX) (hw.at g1 g2))) (fun hb => by cases hb) fun _ H2 e2 => ⟨eX.trans e2, _, _, rfl⟩
  · obtain ⟨eX, s3, s4, rfl⟩ := hP
    have hlast := hw.last
    obtain ⟨u2, hu2⟩ : ∃ u2, 0 :: u = u2 ++ [r] := List.getLast?_eq_some_iff.mp hlast
    have h0 : Ev (tOp rEq (tOp (rIxL g.K) (tVar 0) (tC (.int 0))) (tC (.int 0))) [some (.ref fl), some (.ref la), some (nv r), s3, s4] H' (.bl true) := ev_is (ev_op (ev_op (ev_var rfl) ev_c (rv_ixL (sq_of (eX _ _ hf)) (atI_nat (j := 0) rfl))) ev_c (rv_eq rfl)) (by simp)
    have h1 : Ev (tOp rEq (tOp (rIxL g.K) (tVar 0) (tUn rNeg (tC (.int 1)))) (tVar 2)) [some (.ref fl), some (.ref la), some (nv r), s3, s4] H' (.bl true) := ev_is (ev_op (ev_op (ev_var rfl) (ev_un ev_c ru_neg) (rv_ixL (v := nv r) (sq_of (eX _ _ hf)) (by
      rw [hu2]
      unfold nvs
      rw [List.map_append]
      exact atI_back1 _ _))) (ev_var rfl) (rv_eq rfl)) (by simp)
    exact s_ret (ev_is (ev_andV h0 fun _ => h1) rfl) fun H2 e2 => k H2 (eX.trans e2)
theorem ev_isway {fl : Addr} {w : List Nat} (h1 : Ev tn σ H (.ref fl)) (h2 : Ev tl σ H (.ref la)) (h3 : Ev tr σ H (nv r)) (hf : H fl = some (.lst (nvs w))) (hp : PLt H la (ds.map zp)) (hw : Pth ds s 0 w r) (hwl : w.length ≤ 1000) (hdl : ds.length ≤ 1000) : Ev (tCall (sp__law_is_way g) [] E0 (tCons tn (tCons tl (tCons tr tNil)))) σ H (.bl true) :=
  ev_call1 (ea_cons h1 (ea_cons h2 (ea_cons h3 ea_nil))) fun H1 e Q k => ⟨fl, la, w, ds, s, r, rfl, e _ _ hf, hp.mono e, hw, hwl, hdl, k⟩
theorem TbAt.mono {H H' : Hp} {f : Nat → Nat → Bool} (e : Ex H H') (h : TbAt H t n f) : TbAt H' t n f := let ⟨as, h1, h2⟩ := h; ⟨as, e _ _ h1, Paired.mono (fun _ _ q => e _ _ q) h2⟩
theorem ev_tb {f : Nat → Nat → Bool} {a b : Nat} (h1 : Ev tn σ H (.ref t)) (h2 : Ev ta σ H (nv a)) (h3 : Ev tb σ H (nv b)) (ht : TbAt H t n f) (ha : a < n) (hb : b < n) : Ev (tOp (rIxL K) (tOp (rIxL K) tn ta) tb) σ H (.bl (f a b)) := by
  obtain ⟨as, h4, h5⟩ := ht
  obtain ⟨x, h6, h7⟩ := Paired.at h5 (List.getElem?_range ha)
  exact ev_op (ev_op h1 h2 (rv_ixL (v := .ref x) (sq_of h4) (atI_nat (by rw [List.getElem?_map, h6]; rfl)))) h3 (rv_ixL (sq_of h7) (atI_nat (bls_at hb)))
theorem pure__law_guards (h : sp__law_guards g vs H Q E) : t__law_guards g { nx := fun _ H' => Q .non H', rt := Q } (start N__law_guards vs) H := by
  obtain ⟨n, la, ds, rfl, hn1, hn2, he, hp, k⟩ := h
  refine q_asgL (el_past (s := -1) (ev_var rfl) (ev_var rfl) (ev_un ev_c ru_neg) hn1 hn2 he hp) fun th H1 hth e1 hth1 => ?_
  refine q_asgL (el_lst ea_nil (Nat.zero_le _)) fun tb H2 htb e2 htb2 => ?_
  have ntt : H tb = none := fresh_back e1 htb
  refine q_forR1 (n := (n : Int)) (ea_cons (ev_var rfl) ea_nil) ⟨by omega, by omega⟩ (fun i σ' H' => Ex H1 H' ∧ ∃ (as : List Addr) (s4 s5 s6 : Option V), σ' = [some (nv n), some (.ref la), some (.ref th), some (.ref tb), s4, s5, s6] ∧ H' tb = some (.lst (as.map V.ref)) ∧ Paired (fun a r => a ≠ tb ∧ H' a = some (.lst (bls n (dm ds r)))) as (List.range i))
    (fun H3 e3 => ⟨e2.trans e3, [], _, _, _, rfl, e3 _ _ htb2, .nil⟩) (fun i σ' H' hi hP => ?_) (fun σ' H' hP => ?_)
  · obtain ⟨eH, as, s4, s5, s6, rfl, htb3, hpr⟩ := hP
    have hi2 : i < n := by omega
    refine q_asgL (el_past (s := (i : Int)) (ev_var rfl) (ev_var rfl) (ev_var rfl) hn1 hn2 he (hp.mono (e1.trans eH))) fun ml H4 hml e4 hml4 => ?_
    have hth4 := e4 _ _ (eH _ _ hth1)
    refine s_appL (xs := as.map V.ref) (e4 _ _ htb3) (ev_var rfl) (el_lc (l := List.range n) (R := fun (k : Nat) x => x = nv k) (fun _ => true) (fun k => V.bl (dm ds i k)) (ei_range (ea_cons (ev_var rfl) ea_nil) (by omega)) (by rw [List.length_range]; omega) (fun _ => rfl) (fun _ _ _ _ _ _ => et_yes) (fun k x H5 hk hx e5 _ => ?_)) ?_ fun q H5 hq e5 hq5 => ?_
    · subst hx
      have hk2 := List.mem_range.mp hk
      rw [dm_eq]
      exact ev_andV (ev_bl (ev_var rfl) (ev_var rfl) (e5 _ _ hth4) hk2) fun _ => ev_notV (ev_bl (ev_var rfl) (ev_var rfl) (e5 _ _ hml4) hk2)
    · have := paired_len hpr
      rw [List.length_range] at this
      rw [List.length_map]
      omega
    · rw [List.filter_eq_self.mpr (fun _ _ => rfl)] at hq5
      have nq : q ≠ tb := fun z => by
        rw [z, e4 _ _ htb3] at hq
        cases hq
      refine ⟨exU ((eH.trans e4).trans e5) htb, as ++ [q], _, _, _, rfl, ?_, ?_⟩
      · rw [upd_same, List.map_append]
        rfl
      · rw [List.range_succ]
        refine Paired.snoc ⟨nq, by rw [upd_ne nq]; exact hq5⟩ (Paired.mono (fun a r q => ⟨q.1, by rw [upd_ne q.1]; exact e5 _ _ (e4 _ _ q.2)⟩) hpr)
  · obtain ⟨eH, as, s4, s5, s6, rfl, htb3, hpr⟩ := hP
    exact s_ret (ev_var rfl) fun H5 e5 => k tb H5 ntt ((e1.trans eH).trans e5) ⟨as, e5 _ _ htb3, Paired.mono (fun a r q => e5 _ _ q.2) hpr⟩
/-- net = Net(many, list(pairs)) -/
theorem q_netL {i : Nat} {xs : List V} {as : List Addr} (hN : N.Ok) (h1 : Ev tm σ H (nv N.n)) (h2 : EvL tl σ H (as.map V.ref)) (hl : PairsAt H as (N.ds.map zp))
    (k : ∀ x H1, H x = none → Ex H H1 → NetAt g H1 x N → tz D (σ.set i (some (.ref x))) H1) : tSeq (tAsg (tMake g.C (sp_Net___init__ g) [] E0 (tCons tm (tCons tl tNil))) (gName i)) tz D σ H :=
  h1 H (Ex.refl H) _ fun H1 e1 => h2 H1 e1 _ fun la H2 hla e2 hla2 => fun x dx hx hdx _ => init_ok (R := fun v H2 => tz D (σ.set i (some v)) H2) hx hdx ⟨as, hla2, hl.mono (e1.trans e2)⟩ (by have := hN.few; rw [List.length_map]; omega)
    (fun M H3 hM hxl e3 hn => k x H3 (fresh_back (e1.trans e2) hx) ((e1.trans e2).trans e3) (isNet_eq hM ▸ hn.mono ex_del)) (fun h => (h N ⟨hN, rfl, rfl⟩).elim)
/-- a net's start: drawn = _law_net(..); net = Net(drawn[0], list(drawn[1])), slots 1 and 2 -/
theorem q_drawn {at_ most extra : Nat} {a : Addr} {ns : List Int} (h0 : σ[0]? = some (some (.ref a))) (hl : 2 < σ.length) (hs : SqL g.K H a (ns.map V.int)) (hm : 1 ≤ most ∧ most ≤ 40 ∧ extra ≤ 100)
    (k : ∀ (N : Nt) (q pa x : Addr) (H1 : Hp), N.Ok → N.n ≤ most → N.ds.length ≤ extra → Ex H H1 → H1 q = some (.tup [nv N.n, .ref pa]) → PLt H1 pa (N.ds.map zp) → NetAt g H1 x N → tz D ((σ.set 1 (some (.ref q))).set 2 (some (.ref x))) H1) :
    tSeq (tAsg (tCall (sp__law_net g) [] E0 (tCons (tVar 0) (tCons (tC (.int (at_ : Int))) (tCons (tC (.int (most : Int))) (tCons (tC (.int (extra : Int))) tNil))))) (gName 1))
      (tSeq (tAsg (tMake g.C (sp_Net___init__ g) [] E0 (tCons (tOp (rIxT g.K) (tVar 1) (tC (.int 0))) (tCons (tCB (rListS g.K) (tCons (tOp (rIxT g.K) (tVar 1) (tC (.int 1))) tNil)) tNil))) (gName 2)) tz) D σ H := by
  refine q_callX (ea_cons (ev_var h0) (ea_cons ev_c (ea_cons ev_c (ea_cons ev_c ea_nil)))) fun H1 e1 => ⟨a, ns, at_, most, extra, rfl, ex_l e1 hs, hm.1, hm.2.1, hm.2.2, fun n ds q pa H2 hn1 hn2 hd1 hd2 e2 hq hpa hne hq2 hP => ?_⟩
  have hok : Nt.Ok ⟨n, ds⟩ := ⟨hn1, by show n ≤ 40; omega, by show ds.length ≤ 100; omega, hd2⟩
  have h1 : (σ.set 1 (some (V.ref q)))[1]? = some (some (.ref q)) := by rw [List.getElem?_set, if_pos rfl, if_pos (by omega)]
  obtain ⟨as, hP1, hP2⟩ := id hP
  refine q_netL (N := ⟨n, ds⟩) (xs := []) (as := as) hok (ev_op (ev_var h1) ev_c (rv_ixT (st_of hq2) rfl)) (el_list (ev_op (ev_var h1) ev_c (rv_ixT (st_of hq2) rfl)) (sq_of hP1)) hP2 fun x H3 hx e3 hnet => k ⟨n, ds⟩ q pa x H3 hok hn2 hd1 ((e1.trans e2).trans e3) (e3 _ _ hq2) (hP.mono e3) hnet
theorem nI {a b : Nat} (h : (a : Int) = b) : a = b := by omega
/-- way = way_to(net, r) -/
theorem ep_way (h1 : Ev tn σ H (.ref p)) (h2 : Ev tr σ H (nv r)) (hn : NetAt g H p N) (hr : Rch N.ds (-1) r) : EvP (tCall (sp_way_to g) [] E0 (tCons tn (tCons tr tNil))) σ H (fun H1 v H2 => ∃ q w, v = .ref q ∧ H1 q = none ∧ H2 q = some (.lst (nvs w)) ∧ Way N.ds (-1) w r) := fun H1 e Q q =>
  h1 H1 e _ fun H2 e2 => h2 H2 (e.trans e2) _ fun H3 e3 => ⟨p, N, (r : Int), rfl, hn.mono ((e.trans e2).trans e3), fun j hj hj2 w hw q2 H4 hq2 e4 hq4 => q _ H4 ((e2.trans e3).trans e4) ⟨q2, w, rfl, fresh_back (e2.trans e3) hq2, hq4, nI hj ▸ hw⟩, fun hh => (hh ⟨by omega, by have := hr.lt hn.ok.pos hn.ok.ends; omega⟩).elim, fun j _ hj hj2 => (hj2 (nI hj ▸ hr)).elim⟩
theorem ev_iswayP {la : Addr} {tl : TE} {ds : DL} {s : Int} (h1 : EvP tn σ H (fun H1 v H2 => ∃ q w, v = .ref q ∧ H1 q = none ∧ H2 q = some (.lst (nvs w)) ∧ Way ds s w r)) (h2 : Ev tl σ H (.ref la)) (h3 : Ev tr σ H (nv r)) (hp : PLt H la (ds.map zp)) (hwl : ∀ w, Way ds s w r → w.length ≤ 1000) (hdl : ds.length ≤ 1000) : Ev (tCall (sp__law_is_way g) [] E0 (tCons tn (tCons tl (tCons tr tNil)))) σ H (.bl true) := fun H1 e Q k =>
  h1 H1 e _ fun v H2 e2 hv => h2 H2 (e.trans e2) _ fun H3 e3 => h3 H3 ((e.trans e2).trans e3) _ fun H4 e4 => by
    obtain ⟨q, w, rfl, _, hq, hw⟩ := hv
    exact ⟨q, la, w, ds, s, r, rfl, e4 _ _ (e3 _ _ hq), hp.mono (((e.trans e2).trans e3).trans e4), hw.p, hwl w hw, hdl, fun H5 e5 => k H5 (((e2.trans e3).trans e4).trans e5)⟩
/-- the rooms for which a list of bools holds -/
theorem el_yes {n : Nat} {f : Nat → Bool} {a : Addr} {i j : Nat} {tq : TE} (h : Ev tq σ H (nv n)) (hn : n ≤ 40) (ha : H a = some (.lst (bls n f))) (hw : ∀ x, wipe ((wipe σ [j]).set j (some x)) [j] = wipe σ [j]) (h2 : ∀ x, ((wipe σ [j]).set j (some x))[j]? = some (some x)) (h3 : ∀ x, ((wipe σ [j]).set j (some x))[i]? = some (some (.ref a))) :
    EvL (tLc (iRng1 (tCons tq tNil)) (gName j) (tB (tOp (rIxL K) (tVar i) (tVar j))) (tVar j) [j]) σ H (nvs ((List.range n).filter f)) :=
  el_lc (l := List.range n) (R := fun (k : Nat) x => x = nv k) f nv (ei_range (ea_cons h ea_nil) (by omega)) (by rw [List.length_range]; omega) hw (fun k x H1 hk hx e1 => by
    subst hx
    exact et_B (ev_bl (ev_var (h3 _)) (ev_var (h2 _)) (e1 _ _ ha) (List.mem_range.mp hk))) (fun k x H1 hk hx e1 _ => by
    subst hx
    exact ev_var (h2 _))
theorem rv_isN {x : V} : RV rIsN x .non H (.bl (decide (x = .non))) := fun H1 _ _ q => ⟨rfl, q H1 (Ex.refl H1)⟩
theorem rv_notN {x : V} : RV rNotN x .non H (.bl (!decide (x = .non))) := fun H1 _ _ q => ⟨rfl, q H1 (Ex.refl H1)⟩
theorem ev_guards {a b : Nat} (h1 : Ev tn σ H (.ref p)) (h2 : Ev ta σ H (nv a)) (h3 : Ev tb σ H (nv b)) (hn : NetAt g H p N) (ha : a < N.n) (hb : Rch N.ds (-1) b) : Ev (tCall (sp_guards g) [] E0 (tCons tn (tCons ta (tCons tb tNil)))) σ H (.bl (dm N.ds a b)) :=
  ev_call1 (ea_cons h1 (ea_cons h2 (ea_cons h3 ea_nil))) fun H1 e Q k => ⟨p, N, (a : Int), (b : Int), rfl, hn.mono e, fun x y hx hy _ _ => nI hx ▸ nI hy ▸ k, fun hh => by
    have h1 : N.has (a : Int) := ⟨by omega, by omega⟩
    have h2 : N.has (b : Int) := ⟨by omega, by have := hb.lt hn.ok.pos hn.ok.ends; omega⟩
    rcases hh with hh | hh
    · exact (hh h1).elim
    · exact (hh h2).elim, fun _ y _ hy hy2 => (hy2 (nI hy ▸ hb)).elim⟩
/-- way = way_past(net, r, o) -/
theorem ep_past {o : Nat} (h1 : Ev tn σ H (.ref p)) (h2 : Ev tr σ H (nv r)) (h3 : Ev ta σ H (nv o)) (hn : NetAt g H p N) (hr : Rch N.ds (-1) r) (ho : o < N.n) : EvP (tCall (sp_way_past g) [] E0 (tCons tn (tCons tr (tCons ta tNil)))) σ H (fun H1 v H2 => (v = .non ∧ ¬ Rch N.ds o r) ∨ ∃ q w, v = .ref q ∧ H1 q = none ∧ H2 q = some (.lst (nvs w)) ∧ Way N.ds o w r) := fun H1 e Q q =>
  h1 H1 e _ fun H2 e2 => h2 H2 (e.trans e2) _ fun H3 e3 => h3 H3 ((e.trans e2).trans e3) _ fun H4 e4 => ⟨p, N, (r : Int), (o : Int), rfl, hn.mono (((e.trans e2).trans e3).trans e4), fun x y hx hy _ _ => ⟨fun w hw q2 H5 hq2 e5 hq5 => q _ H5 (((e2.trans e3).trans e4).trans e5) (.inr ⟨q2, w, rfl, fresh_back ((e2.trans e3).trans e4) hq2, hq5, nI hx ▸ nI hy ▸ hw⟩), fun hw H5 e5 => q _ H5 (((e2.trans e3).trans e4).trans e5) (.inl ⟨rfl, nI hx ▸ nI hy ▸ hw⟩)⟩, fun hh => by
    have h1 : N.has (o : Int) := ⟨by omega, by omega⟩
    have h2 : N.has (r : Int) := ⟨by omega, by have := hr.lt hn.ok.pos hn.ok.ends; omega⟩
    rcases hh with hh | hh
    · exact (hh h2).elim
    · exact (hh h1).elim, fun _ y _ hy hy2 => (hy2 (nI hy ▸ hr)).elim⟩
theorem there_len (ok : N.Ok) : N.there.length ≤ 40 := by
  have h1 := List.length_filter_le (fun k => rch N.ds (-1) k) (List.range N.n)
  rw [List.length_range] at h1
  have := ok.most
  exact Nat.le_trans h1 this
end
end Mp

/-! Common guards: the plain law, guards.common. -/
namespace Mp
open PySem L2 Evl
noncomputable def comL (ds : DL) (rs : List Nat) : List Nat := (gds ds (rs.headD 0)).filter fun a => rs.all fun r => dm ds a r
noncomputable def com (ds : DL) (rs : List Nat) : Nat := (comL ds rs).getLast?.getD 0
section
variable {ds : DL} {rs : List Nat} {x y r a b : Nat} {s : Int} {w : List Nat}
theorem comL_mem (h0 : rs ≠ []) (h : ∀ r ∈ rs, Rch ds (-1) r) : y ∈ comL ds rs ↔ ∀ r ∈ rs, Dm ds y r := by
  unfold comL
  rw [List.mem_filter, List.all_eq_true]
  cases rs with
  | nil => exact (h0 rfl).elim
  | cons r0 rest =>
    show y ∈ gds ds r0 ∧ _ ↔ _
    rw [gds_mem (h r0 List.mem_cons_self)]
    exact ⟨fun z r hr => dm_iff.mp (z.2 r hr), fun z => ⟨z r0 List.mem_cons_self, fun r hr => dm_iff.mpr (z r hr)⟩⟩
theorem com_spec (h0 : rs ≠ []) (h : ∀ r ∈ rs, Rch ds (-1) r) : (∀ r ∈ rs, Dm ds (com ds rs) r) ∧ ∀ y, (∀ r ∈ rs, Dm ds y r) → Dm ds y (com ds rs) := by
  have hz : 0 ∈ comL ds rs := (comL_mem h0 h).mpr fun r hr => .zero (h r hr)
  have hne : comL ds rs ≠ [] := fun z => by
    rw [z] at hz
    cases hz
  obtain ⟨u, x, e⟩ : ∃ u x, comL ds rs = u ++ [x] := ⟨_, _, (List.dropLast_concat_getLast hne).symm⟩
  have hc : com ds rs = x := by
    unfold com
    rw [e, List.getLast?_append]
    rfl
  have hx : x ∈ comL ds rs := by
    rw [e]
    exact List.mem_append_right _ List.mem_cons_self
  rw [hc]
  refine ⟨(comL_mem h0 h).mp hx, fun y hy => ?_⟩
  have hm := (comL_mem h0 h).mpr hy
  have hpw : (comL ds rs).Pairwise (Dm ds) := by
    cases rs with
    | nil => exact (h0 rfl).elim
    | cons r0 rest => exact (gds_pw (h r0 List.mem_cons_self)).filter _
  rw [e] at hm hpw
  rcases List.mem_append.mp hm with hm | hm
  · exact (List.pairwise_append.mp hpw).2.2 y hm x List.mem_cons_self
  · rw [List.mem_singleton.mp hm]
    obtain ⟨r0, hr0⟩ := List.exists_mem_of_ne_nil rs h0
    exact .refl (((comL_mem h0 h).mp hx r0 hr0).rch1)
theorem com_is (h0 : rs ≠ []) (h : ∀ r ∈ rs, Rch ds (-1) r) (h1 : ∀ r ∈ rs, Dm ds x r) (h2 : ∀ y, (∀ r ∈ rs, Dm ds y r) → Dm ds y x) : com ds rs = x :=
  (h2 _ (com_spec h0 h).1).antisymm ((com_spec h0 h).2 x h1)
theorem Pth.pred0 {d : Nat} (h : Pth ds s d w b) : ∀ {a : Nat} {v : List Nat} {f : Nat}, Pth ds s f v a → (a, d) ∈ ds → ∃ u p, v ++ w = u ++ [b] ∧ Pth ds s f u p ∧ (p, b) ∈ ds := by
  induction h with
  | one _ => exact fun hv ha => ⟨_, _, rfl, hv, ha⟩
  | @cons d e b w2 g1 g2 g3 ih =>
    intro a v f hv ha
    obtain ⟨u, p, e1, e2, e3⟩ := ih (hv.snoc ha g2) g1
    exact ⟨u, p, by rw [← e1]; simp, e2, e3⟩
/-- the last step of a path -/
theorem Pth.pred (h : Pth ds s a w b) (hne : a ≠ b) : ∃ u p, w = u ++ [b] ∧ Pth ds s a u p ∧ (p, b) ∈ ds := by
  cases h with
  | one _ => exact (hne rfl).elim
  | cons h1 h2 h3 => exact h3.pred0 (v := [a]) (.one h2) h1
theorem gds_last (h : Rch ds (-1) r) {u : List Nat} {y : Nat} (e : gds ds r = u ++ [y]) : y = r := by
  have hy : Dm ds y r := (gds_mem h).mp (by rw [e]; exact List.mem_append_right _ List.mem_cons_self)
  have hr : r ∈ u ++ [y] := e ▸ (gds_mem h).mpr (.refl h)
  rcases List.mem_append.mp hr with hr | hr
  · have := (List.pairwise_append.mp (e ▸ gds_pw h)).2.2 r hr y List.mem_cons_self
    exact hy.antisymm this
  · exact (List.mem_singleton.mp hr).symm
/-- the nearest guard guards what leads into its room -/
theorem com_into {u : List Nat} {y : Nat} (h : Rch ds (-1) r) (hr0 : r ≠ 0) (e : gds ds r = u ++ [x, y]) (hin : ∀ p, p ∈ rs ↔ (p, r) ∈ ds ∧ p ≠ r ∧ Rch ds (-1) p) : rs ≠ [] ∧ com ds rs = x := by
  have hpred : ∀ {s : Int}, Rch ds s r → ∃ p, (p, r) ∈ ds ∧ p ≠ r ∧ Rch ds s p ∧ ¬ Dm ds r p := fun {s} hs => by
    obtain ⟨w, hw⟩ := hs.way
    obtain ⟨v, p, rfl, h1, h2⟩ := hw.p.pred (Ne.symm hr0)
    have nd := List.nodup_append.mp hw.nd
    have hrv : r ∉ v := fun hv => nd.2.2 r hv r List.mem_cons_self rfl
    have hp := h1.mem_last
    refine ⟨p, h2, fun z => hrv (z ▸ hp), h1.rch0 p hp, fun hd => hd.2 ((h1.past (t := (r : Int)) fun x hx z => hrv ?_).rch0 p hp)⟩
    have : x = r := by omega
    exact this ▸ hx
  obtain ⟨p0, q1, q2, q3, q4⟩ := hpred h
  have hp0 : p0 ∈ rs := (hin p0).mpr ⟨q1, q2, q3⟩
  have hne : rs ≠ [] := fun z => by
    rw [z] at hp0
    cases hp0
  have hy : y = r := gds_last h (u := u ++ [x]) (by rw [e]; simp)
  subst hy
  have nd := gds_nd h
  have pw := gds_pw h
  rw [e] at nd pw
  have hxy : x ≠ y := fun z => by
    subst z
    have := (List.nodup_append.mp nd).2.1
    simp at this
  have hx : Dm ds x y := (gds_mem h).mp (by rw [e]; simp)
  refine ⟨hne, com_is hne (fun r hr => ((hin r).mp hr).2.2) (fun p hp => ?_) fun z hz => ?_⟩
  · obtain ⟨h1, h2, h3⟩ := (hin p).mp hp
    exact ⟨h3, fun hr => hx.2 (.step hr h1 (by omega))⟩
  · have hzr : z ≠ y := fun e => q4 (e ▸ hz p0 hp0)
    have hd : Dm ds z y := ⟨h, fun hr => by
      obtain ⟨p, h1, h2, h3, _⟩ := hpred hr
      exact (hz p ((hin p).mpr ⟨h1, h2, h3.weak⟩)).2 h3⟩
    have hm : z ∈ u ++ [x, y] := e ▸ (gds_mem h).mpr hd
    have hm2 : z ∈ u ∨ z = x := by
      rcases List.mem_append.mp hm with hm | hm
      · exact .inl hm
      · rcases List.mem_cons.mp hm with hm | hm
        · exact .inr hm
        · exact (hzr (List.mem_singleton.mp hm)).elim
    rcases hm2 with hm2 | rfl
    · exact (List.pairwise_append.mp pw).2.2 z hm2 x List.mem_cons_self
    · exact .refl hx.rch1
/-- of two lists by tests the one is the shorter -/
theorem filter_lt {S : List Nat} {p q : Nat → Bool} (h : ∀ k ∈ S, p k = true → q k = true) (hb : b ∈ S) (h1 : p b = false) (h2 : q b = true) : (S.filter p).length < (S.filter q).length := by
  have e : S.filter p = (S.filter q).filter p := by
    rw [List.filter_filter]
    refine List.filter_congr fun k hk => ?_
    cases hp : p k with
    | true => rw [h k hk hp]; rfl
    | false => rfl
  rw [e]
  refine Nat.lt_of_le_of_ne (List.length_filter_le _ _) fun z => ?_
  have := (List.length_filter_eq_length_iff.mp z) b (List.mem_filter.mpr ⟨hb, h2⟩)
  rw [h1] at this
  cases this
/-- guards by their number of guards -/
def blk (S : List Nat) (f : Nat → Nat) (m : Nat) : List Nat := ((List.range m).map fun i => S.filter fun k => decide (f k = i + 1)).flatten
theorem blk_succ {S : List Nat} {f : Nat → Nat} {m : Nat} : blk S f (m + 1) = blk S f m ++ S.filter fun k => decide (f k = m + 1) := by
  unfold blk
  rw [List.range_succ, List.map_append, List.flatten_append]
  simp
theorem blk_mem {S : List Nat} {f : Nat → Nat} {m : Nat} : x ∈ blk S f m ↔ x ∈ S ∧ 1 ≤ f x ∧ f x ≤ m := by
  unfold blk
  rw [List.mem_flatten]
  constructor
  · rintro ⟨l, hl, hx⟩
    obtain ⟨i, hi, rfl⟩ := List.mem_map.mp hl
    obtain ⟨h1, h2⟩ := List.mem_filter.mp hx
    have := of_decide_eq_true h2
    have := List.mem_range.mp hi
    exact ⟨h1, by omega, by omega⟩
  · rintro ⟨h1, h2, h3⟩
    exact ⟨_, List.mem_map.mpr ⟨f x - 1, List.mem_range.mpr (by omega), rfl⟩, List.mem_filter.mpr ⟨h1, decide_eq_true (by omega)⟩⟩
theorem blk_pw {S : List Nat} {f : Nat → Nat} {m : Nat} (nd : S.Nodup) : (blk S f m).Pairwise fun x y => f x ≤ f y ∧ x ≠ y := by
  induction m with
  | zero => exact .nil
  | succ m ih =>
    rw [blk_succ]
    refine List.pairwise_append.mpr ⟨ih, ?_, fun x hx y hy => ?_⟩
    · refine ((nd.filter _).imp_of_mem fun {x y} hx hy hne => ⟨?_, hne⟩)
      have h1 := of_decide_eq_true (List.mem_filter.mp hx).2
      have h2 := of_decide_eq_true (List.mem_filter.mp hy).2
      omega
    · have h1 := (blk_mem.mp hx).2.2
      have h2 := of_decide_eq_true (List.mem_filter.mp hy).2
      refine ⟨by omega, fun z => ?_⟩
      subst z
      omega
/-- the guards of r found by counting -/
theorem blk_gds {n : Nat} {S : List Nat} (h : Rch ds (-1) r) (hS : S = (List.range n).filter fun k => dm ds k r) (hn : ∀ k, Rch ds (-1) k → k < n) : blk S (fun x => (S.filter fun k => dm ds k x).length) S.length = gds ds r := by
  have hm : ∀ x, x ∈ S ↔ Dm ds x r := fun x => by
    rw [hS, List.mem_filter, dm_iff, List.mem_range]
    exact ⟨fun h => h.2, fun h => ⟨hn _ h.rch1, h⟩⟩
  have nd : S.Nodup := by rw [hS]; exact List.nodup_range.filter _
  have key : ∀ x y, x ∈ S → y ∈ S → (S.filter fun k => dm ds k x).length ≤ (S.filter fun k => dm ds k y).length → Dm ds x y := fun x y hx hy hle => by
    rcases ((hm x).mp hx).total ((hm y).mp hy) with h1 | h1
    · exact h1
    · by_cases e : x = y
      · subst e
        exact h1
      · have := filter_lt (S := S) (p := fun k => dm ds k y) (q := fun k => dm ds k x) (b := x) (fun k _ hk => dm_iff.mpr ((dm_iff.mp hk).trans h1)) hx (dm_no.mpr fun h2 => e (h2.antisymm h1)) (dm_iff.mpr (.refl ((hm x).mp hx).rch1))
        omega
  have pw := blk_pw (f := fun x => (S.filter fun k => dm ds k x).length) (m := S.length) nd
  refine (gds_is h (pw.imp fun h => h.2) (pw.imp_of_mem fun {x y} hx hy hxy => key x y (blk_mem.mp hx).1 (blk_mem.mp hy).1 hxy.1) fun a => ?_).symm
  rw [blk_mem, hm]
  refine ⟨fun h => h.1, fun ha => ⟨ha, List.length_pos_of_mem (List.mem_filter.mpr ⟨(hm a).mpr ha, dm_iff.mpr (.refl ha.rch1)⟩), List.length_filter_le _ _⟩⟩
end
end Mp

/-! list(reversed(xs)), xs a list. -/
namespace Mp
open PySem PySem.Spec PyProof.Rows L2 RT
section
variable {P : Program} {w : World} {A : Around} {E : Value → Shared → Prop} {s : Shared}
/-- a list's init by a walk backwards -/
theorem init_rev {R : Result → Shared → Prop} {I l : Addr} {xs : Array Value} (hh : A.handled = none) (hI : s.heap.IsRevIter I l ((xs.size : Int) - 1)) (hx : s.heap.IsList l xs) (hlI : l ≠ I) (hz : xs.size ≤ sizeLine) (S : Addr) (hSo : s.heap.get? S = some { cls := .type "list", data := .seq #[] }) (hSI : S ≠ I) (hSl : S ≠ l)
    (k : ∀ (g : Heap) (t : Nat) (ys : Array Value) (c : Nat), (∀ b o, b ≠ S → b ≠ I → s.heap.get? b = some o → g.get? b = some o) → g.get? S = some { cls := .type "list", dict := none, data := .seq ys c, slots := #[] } → ItemsOf (fun i v => xs[xs.size - 1 - i]? = some v) ys xs.size → R (.ok (.ret .none)) { s with heap := g, toks := t }) :
    wpAny (model P w) A.in1 (Builtin.«list.__init__» ⟨[.ref S, .ref I], []⟩)
      (fun f s2 => match f with | .done z => R (.ok z) s2 | .again c => c.quiet = true ∧ codeAny (model P w) A c R s2) (fun z s2 => R (.error z) s2) s := by
  show wpAny _ _ (do let old ← Builtin.List.listItems (.ref S); Builtin.List.listUpdate (.ref S) (fun _ => #[]); letGo old.toList.reverse; Builtin.List.listExtendWith (.ref S) (.ref I) .none) _ _ s; refine wpAny_bind ?_; unfold Builtin.List.listItems; refine wpAny_bind (wpAny_seqItems hSo rfl (wpAny_pure ?_))
  show wpAny _ _ (updateSeq S (fun _ => #[]) >>= fun _ => letGo (#[] : Array Value).toList.reverse >>= fun _ => Builtin.List.listExtendWith (.ref S) (.ref I) .none) _ _ s; refine wpAny_bind (wpAny_updateSeq hSo rfl ?_)
  have hS2 := Heap.get?_update_self (Obj.mapSeq (fun _ => (#[] : Array Value))) hSo rfl
  have same : ∀ b o, b ≠ S → s.heap.get? b = some o → (s.heap.update S (Obj.mapSeq (fun _ => (#[] : Array Value)))).get? b = some o := fun b o hb z => (Heap.get?_update_other _ _ (Ne.symm hb)).trans z
  refine wpAny_bind (wpAny_letGo ?_)
  obtain ⟨oi, hoi, _⟩ := id hI
  obtain ⟨ol, hol, hr⟩ := id hx
  have hI2 : (s.heap.update S (Obj.mapSeq (fun _ => (#[] : Array Value)))).IsRevIter I l ((xs.size : Int) - 1) := hI.at fun o z => same I o (Ne.symm hSI) z
  have hx2 : (s.heap.update S (Obj.mapSeq (fun _ => (#[] : Array Value)))).IsList l xs := ⟨ol, same l _ (Ne.symm hSl) hol, hr⟩
  have ty : ({ s with heap := s.heap.update S (Obj.mapSeq (fun _ => (#[] : Array Value))) } : Shared).TypeIs (.ref I) "list_reverseiterator" := Heap.IsRevIter.typeIs (s := { s with heap := s.heap.update S (Obj.mapSeq (fun _ => (#[] : Array Value))) }) hI2
  have q1 : Builtin.List.listSameRef (.ref S) (.ref I) = false := by simp [Builtin.List.listSameRef, hSI]
  have W := (Walks.listRev (prog := P) (w := w) (A := A.in1) hh I l hlI xs).toS
  have hSf : S ∉ [I, l] := by simp only [List.mem_cons, List.not_mem_nil, or_false, not_or]; exact ⟨hSI, hSl⟩
  unfold Builtin.List.listExtendWith
  refine wpAny_bind (wpAny_typeOf ty ?_); rw [if_neg (by rw [q1]; decide)]
  refine wpAny_bind (wpAny_pyIter_revIter (s := { s with heap := s.heap.update S (Obj.mapSeq (fun _ => (#[] : Array Value))) }) hI2 ?_); refine wpAny_bind (wpAny_holding ?_)
  unfold Builtin.List.listLengthHint; refine wpAny_bind (wpAny_specialOf ty nolen_lri ?_)
  show wpAny _ A.in1 (specialOf (Value.ref I) (Str.ofString "__length_hint__") >>= _) _ _ _; refine wpAny_bind (wpAny_specialOf ty hint_lri ?_)
  generalize hid : ("list_reverseiterator.__length_hint__" : String) = nm0
  wp_delta
  rw [show splitId nm0 = some ("list_reverseiterator", "__length_hint__") from by subst hid; decide +kernel]; subst hid
  refine wpAny_bind (wpAny_isInstance (b := true) ty (by rw [isSubtype_type]; kernel_rfl) ?_); refine wpAny_pure ?_; rw [if_neg (by decide)]
  have e0 : ((xs.size : Nat) : Int) - 1 - ((0 : Nat) : Int) = (xs.size : Int) - 1 := by omega
  refine wpAny_pure ⟨plainId_quiet F.plain_extend_loop _, codeAny_extend_loopS W hz _ hSf _ xs.size 0 _ _ _ rfl (Nat.zero_le _) ⟨Nat.zero_le _, by rw [e0]; exact hI2, hx2⟩ hS2 (ItemsOf.nil _) fun s2 ys c hm hS3 hys => ?_⟩
  rw [Moved.eq_with hm]
  refine k s2.heap s2.toks ys c (fun b o hb hb2 z => hm.heap b o (fun hmem => ?_) (same b o hb z)) hS3 hys
  rcases List.mem_cons.mp hmem with z | hmem
  · exact hb z
  · exact hb2 (List.mem_singleton.mp hmem)
theorem call_lrev {I l : Addr} {xs : Array Value} {Q : Value → Shared → Prop} (hh : A.handled = none) (hI : s.heap.IsRevIter I l ((xs.size : Int) - 1)) (hx : s.heap.IsList l xs) (hlI : l ≠ I) (hz : xs.size ≤ sizeLine)
    (k : ∀ (g : Heap) (t : Nat) (ys : Array Value) (c : Nat), (∀ b o, b ≠ I → s.heap.get? b = some o → g.get? b = some o) → g.get? s.heap.objs.size = some { cls := .type "list", dict := none, data := .seq ys c, slots := #[] } → ItemsOf (fun i v => xs[xs.size - 1 - i]? = some v) ys xs.size → Q (.ref s.heap.objs.size) { s with heap := g, toks := t }) :
    wpAny (model P w) A (call (.type "list") [.ref I]) Q E s := by
  refine callType_codes (Q₁ := fun ob s₁ => ob = .ref s.heap.objs.size ∧ s₁ = { s with heap := s.heap.push { cls := .type "list", data := .seq #[] } }) F.called_list (F.typeCall_list_1 _) F.entry_list_init (code_list_new _ ⟨rfl, rfl⟩) fun ob s₁ h₁ => ?_
  obtain ⟨rfl, rfl⟩ := h₁
  have hS : (s.heap.push { cls := .type "list", data := .seq #[] }).get? s.heap.objs.size = some { cls := .type "list", data := .seq #[] } := Heap.get?_push_size _ rfl
  obtain ⟨oi, hoi, _⟩ := id hI
  obtain ⟨ol, hol, _⟩ := id hx
  refine ⟨⟨_, hS, rfl⟩, F.args_list_init_2 _ _, init_rev (A := A.in1) hh (hI.at fun o z => Heap.get?_push_of_some _ z) (hx.push _) hlI hz _ hS (Nat.ne_of_gt (Heap.lt_size hoi)) (Nat.ne_of_gt (Heap.lt_size hol)) fun g t ys c hk hSo hys => ?_⟩
  exact ⟨rfl, k g t ys c (fun b o hb z => hk b o (Nat.ne_of_lt (Heap.lt_size z)) hb (Heap.get?_push_of_some _ z)) hSo hys⟩
end
def tLstRev (K : PySem.W.Frag) (te : TE) : TE := fun σ H Q => te σ H fun v H1 => ∃ (a : Addr) (xs : List V), v = .ref a ∧ SqL K H1 a xs ∧ ∀ q, H1 q = none → Q (.ref q) (upd H1 q (.lst xs.reverse))
section
variable {X : Cx}
theorem pe_lstRev {e : Expr} {te : TE} {p p2 pos pos2 : Pos} (hc : X.calm = true) (hg : Gl X "list") (hm : X.mg "list" = none) (hg2 : Gl X "reversed") (hm2 : X.mg "reversed" = none) (he : PE X e te) (hs : starEach [e] X.env = (false, eval e X.env) :: starEach [] X.env := by rfl)
    (hs2 : starEach [.Call (.Name "reversed" p2) [e] [] pos2] X.env = (false, eval (.Call (.Name "reversed" p2) [e] [] pos2) X.env) :: starEach [] X.env := by rfl) : PE X (.Call (.Name "list" p) [.Call (.Name "reversed" p2) [e] [] pos2] [] pos) (tLstRev X.K te) := by
  refine ⟨fun pins s σ H Q I h => ?_⟩
  refine Call_ (ld_blt I hg hm PyProof.Rows.boot_list (PyProof.Rows.callWith_type1 (args_cons (Call_ (ld_blt I hg2 hm2 PyProof.Rows.boot_reversed (PyProof.Rows.callWith_type1 (args_cons (thn (he.run pins s σ H _ I h) fun u s1 ⟨v, H1, I1, r1, q1⟩ => args_nil ?_) hs) hs rfl))) hs2) hs2 rfl))
  obtain ⟨a, xs, ev, hq, q⟩ := q1; subst ev; obtain rfl : u = Value.ref a := r1; obtain ⟨its, rv, pl, hz⟩ := I1.list hq
  refine call_reversed_list pl.isList (args_nil ?_)
  have hl := pl.isList
  obtain ⟨ol, hol, _⟩ := id hl
  have hn : its.toArray.size ≤ sizeLine := by rw [List.size_toArray, ← rv.length]; exact hz
  refine call_lrev (s := { s1 with heap := s1.heap.push (revObj a ((its.toArray.size : Int) - 1)) }) (I1.ok.hd hc) ⟨_, Heap.get?_push_size _ rfl, rfl, rfl⟩ (hl.push _) (Nat.ne_of_lt (Heap.lt_size hol)) hn fun g tk ys c hk hSo hys => ?_
  have le : s1.heap.objs.size ≤ (s1.heap.push (revObj a ((its.toArray.size : Int) - 1))).objs.size := by rw [Heap.size_push]; exact Nat.le_succ _
  refine ⟨.ref _, upd H1 _ (.lst xs.reverse), I1.laid (t' := tk) (fun b u z => hk b u (Nat.ne_of_lt (Heap.lt_size z)) (Heap.get?_push_of_some _ z)) le ⟨by rw [List.length_reverse]; exact hz, ys.toList, c, vals_rev rv hys, ?_⟩, rfl, q _ (I1.hok.fresh le)⟩
  rw [Array.toArray_toList]
  exact hSo
end
section
variable {K : PySem.W.Frag} {σ : L2.St} {H : Hp} {te : TE} {a : Addr} {xs : List V}
open Evl in
theorem el_rev (h : Ev te σ H (.ref a)) (hx : SqL K H a xs) : EvL (tLstRev K te) σ H xs.reverse := fun H1 e Q q =>
  h H1 e _ fun H2 e2 => ⟨a, xs, rfl, ex_l (e.trans e2) hx, fun p hp => q p _ (fresh_back e2 hp) (e2.trans (Ex.new hp)) upd_same⟩
end
end Mp

/-! guards.common. -/
namespace Mp
open PySem L2 Evl
def sp_common (g : Gb) : Sp := fun vs H Q E => ∃ (p a : Addr) (N : Nt) (ns : List Int), vs = [.ref p, .ref a] ∧ NetAt g H p N ∧ SqL g.K H a (ns.map V.int) ∧ ns ≠ [] ∧ ns.length ≤ 1000 ∧
  (∀ rs : List Nat, ns = rs.map (fun (k : Nat) => (k : Int)) → (∀ r ∈ rs, Rch N.ds (-1) r) → RetV (nv (com N.ds rs)) H Q) ∧ ((∃ k ∈ ns, ¬ N.has k) → RetX E g.cR H) ∧ ((∀ k ∈ ns, N.has k) → (∃ r : Nat, (r : Int) ∈ ns ∧ ¬ Rch N.ds (-1) r) → RetX E g.cU H)
/-! common: slots 0 net 1 some 2 last 3 one 4 past 5 room -/
def t_common_b1 (g : Gb) (E : XK)  : TS := tSeq (tAsg (tCall (sp_steps g) [] E0 (tCons (tVar 0) (tCons (tVar 3) tNil))) (gName 4))
  (tIfS (tTest (tOp rEq (tCB (rLenS g.K) (tCons (tLc (iList g.K (tVar 1)) (gName 5) (tB (tDIn (tVar 5) (tVar 4))) (tVar 5) [5]) tNil)) (tC (.int 0)))) (tAsg (tVar 3) (gName 2)) tNext)
def t_common (g : Gb) (E : XK) : TS := tSeq (tDrop (tCall (sp_ask_reached g) [] E (tCons (tVar 0) (tCons (tVar 1) tNil))))
  (tSeq (tAsg (tC (.int 0)) (gName 2))
  (tSeq (tFor (iList g.K (tCall (sp_guards_of g) [] E (tCons (tVar 0) (tCons (tOp (rIxL g.K) (tVar 1) (tC (.int 0))) tNil)))) (gName 3) (t_common_b1 g E))
  (tRet (tVar 2))))
abbrev N_common : List Str := ["net", "some", "last", "one", "past", "room"]

section
variable {g : Gb} {σ : L2.St} {H B : Hp} {D : Ends} {E : XK} {Q : VK} {vs : List V} {p : Addr} {N : Nt} {te tn tr ta tb : TE} {K : PySem.W.Frag} {r : Nat}
theorem has_of (ok : N.Ok) (h : Rch N.ds (-1) r) : N.has (r : Int) := ⟨by omega, by have := h.lt ok.pos ok.ends; omega⟩
theorem el_gds (h1 : Ev tn σ H (.ref p)) (h2 : Ev tr σ H (nv r)) (hn : NetAt g H p N) (hr : Rch N.ds (-1) r) : EvL (tCall (sp_guards_of g) [] E (tCons tn (tCons tr tNil))) σ H (nvs (gds N.ds r)) :=
  el_call1 (ea_cons h1 (ea_cons h2 ea_nil)) fun H1 e Q k => ⟨p, N, (r : Int), rfl, hn.mono e, fun x hx _ => nI hx ▸ k, fun hh => (hh (has_of hn.ok hr)).elim, fun y _ hy hy2 => (hy2 (nI hy ▸ hr)).elim⟩
theorem gds_len (ok : N.Ok) (h : Rch N.ds (-1) r) : (gds N.ds r).length ≤ N.n := by
  have h1 := (gds_nd h).length_le_of_subset (l₂ := List.range N.n) fun x hx => List.mem_range.mpr (((gds_mem h).mp hx).rch1.lt ok.pos ok.ends)
  rw [List.length_range] at h1
  exact h1
theorem rooms_of {ns : List Int} (h : ∀ k ∈ ns, ∃ r : Nat, k = r ∧ Rch N.ds (-1) r) : ∃ rs : List Nat, ns = rs.map (fun (k : Nat) => (k : Int)) ∧ ∀ r ∈ rs, Rch N.ds (-1) r := by
  induction ns with
  | nil => exact ⟨[], rfl, fun _ h => by cases h⟩
  | cons z ns ih =>
    obtain ⟨r, rfl, hr⟩ := h z List.mem_cons_self
    obtain ⟨rs, rfl, h2⟩ := ih fun k hk => h k (List.mem_cons_of_mem _ hk)
    exact ⟨r :: rs, rfl, fun x hx => by
      rcases List.mem_cons.mp hx with rfl | hx
      · exact hr
      · exact h2 x hx⟩
theorem ev_none {xs : List V} (h : EvL te σ H xs) : Ev (tOp rEq (tCB (rLenS K) (tCons te tNil)) (tC (.int 0))) σ H (.bl (decide (xs.length = 0))) :=
  ev_is (ev_op (ev_lenN h) ev_c (rv_eq rfl)) (congrArg V.bl (decide_eq_decide.mpr ⟨fun h => by have := V.int.inj h; omega, fun h => by rw [h]; rfl⟩))
theorem all_len (l : List Nat) (f : Nat → Bool) (v : Nat → V) : decide (((l.filter f).map v).length = 0) = l.all fun x => !f x := by
  rw [List.length_map, Bool.eq_iff_iff, decide_eq_true_iff, List.all_eq_true, List.length_eq_zero_iff, List.filter_eq_nil_iff]
  exact ⟨fun h x hx => by
    cases e : f x with
    | true => exact (h x hx e).elim
    | false => rfl, fun h x hx e => by
    have := h x hx
    rw [e] at this
    cases this⟩
theorem pure_common (h : sp_common g vs H Q E) : t_common g E { nx := fun _ H' => Q .non H', rt := Q } (start N_common vs) H := by
  obtain ⟨p, a, N, ns, rfl, hn, hs, hne, hlen, k1, k2, k3⟩ := h
  refine q_dropX (ea_cons (ev_var rfl) (ea_cons (ev_var rfl) ea_nil)) fun H1 e1 => ⟨p, a, N, ns, rfl, hn.mono e1, ex_l e1 hs, fun hall H2 e2 => ?_, fun hh => (k2 hh).mono e1, fun h1 h2 => (k3 h1 h2).mono e1⟩
  obtain ⟨rs, rfl, hr⟩ := rooms_of hall
  have hrs0 : rs ≠ [] := fun z => hne (by rw [z]; rfl)
  have k := k1 rs rfl hr
  have e12 := e1.trans e2
  obtain ⟨r0, rest, rfl⟩ : ∃ r0 rest, rs = r0 :: rest := by
    cases rs with
    | nil => exact (hrs0 rfl).elim
    | cons r0 rest => exact ⟨r0, rest, rfl⟩
  have hr0 := hr r0 List.mem_cons_self
  have hs2 : ∀ {H' : Hp}, Ex H H' → SqL g.K H' a (nvs (r0 :: rest)) := fun {H'} e => by
    rw [nvs_int]
    exact ex_l e hs
  refine q_asg ev_c fun H3 e3 => ?_
  have e13 := e12.trans e3
  refine q_forNLn (el_gds (N := N) (r := r0) (ev_var rfl) (ev_op (ev_var rfl) ev_c (rv_ixL (hs2 e13) (atI_nat (j := 0) rfl))) (hn.mono e13) hr0)
    (fun q i σ' H' => ∃ s3 s4 s5, σ' = [some (.ref p), some (.ref a), some (nv (((((gds N.ds r0).take i).filter fun x => (r0 :: rest).all fun r => dm N.ds x r).getLast?).getD 0)), s3, s4, s5] ∧ Ex H H' ∧ H' q = some (.lst (nvs (gds N.ds r0))))
    (fun q H4 hq e4 hq4 => ⟨_, _, _, rfl, e13.trans e4, hq4⟩) (fun q i σ' H' _ hP => by
      obtain ⟨s3, s4, s5, _, _, hq⟩ := hP
      exact sq_of hq) (fun q i x σ' H' hx hP => ?_) (fun q σ' H' hP => ?_)
  · obtain ⟨s3, s4, s5, rfl, eH, hq⟩ := hP
    obtain ⟨o, ho, rfl⟩ : ∃ o, (gds N.ds r0)[i]? = some o ∧ x = nv o := by
      rw [List.getElem?_map] at hx
      cases e : (gds N.ds r0)[i]? with
      | none => rw [e] at hx; cases hx
      | some b => rw [e] at hx; exact ⟨b, rfl, (Option.some.inj hx).symm⟩
    refine a_asgP (ep_steps (s := (o : Int)) (N := N) (ev_var rfl) (ev_var rfl) (hn.mono eH)) fun v H4 e4 hv => ?_
    obtain ⟨d, l, rfl, hd0, hd2, hl⟩ := hv
    have eH4 := eH.trans e4
    refine s_when (b := (r0 :: rest).all fun r => dm N.ds o r) (et_is (et_test (ev_none (el_lc (l := r0 :: rest) (R := fun (r : Nat) x => x = nv r) (fun r => decide (r ∈ ks l)) nv (ei_list (ev_var rfl) (hs2 eH4) (paired_map (f := nv) (fun _ => rfl) _)) (by rw [List.length_map] at hlen; omega) (fun _ => rfl) (fun r x H5 hr hx e5 => ?_) (fun r x H5 hr hx e5 _ => ?_)))) ?_) (fun hb H5 e5 => ?_) (fun hb H5 e5 => ?_)
    · subst hx
      exact et_din (r := r) (ev_var rfl) (ev_var rfl) (e5 _ _ hd2)
    · subst hx
      exact ev_var rfl
    · rw [all_len]
      rw [Bool.eq_iff_iff, List.all_eq_true, List.all_eq_true]
      refine ⟨fun h x hx => ?_, fun h x hx => ?_⟩
      · have := h x hx
        rw [dm_eq, rch_iff.mpr (hr x hx), Bool.true_and]
        cases e : rch N.ds (o : Int) x with
        | true =>
          rw [decide_eq_true ((hl.mem x).mpr (rch_iff.mp e))] at this
          cases this
        | false => rfl
      · have := h x hx
        rw [dm_eq, rch_iff.mpr (hr x hx), Bool.true_and] at this
        cases e : decide (x ∈ ks l) with
        | true =>
          rw [rch_iff.mpr ((hl.mem x).mp (of_decide_eq_true e))] at this
          cases this
        | false => rfl
    · refine s_asg (ev_var rfl) fun H6 e6 => ⟨some (nv o), some (.ref d), s5, ?_, (eH4.trans e5).trans e6, e6 _ _ (e5 _ _ (e4 _ _ hq))⟩
      rw [filter_take _ ho, if_pos hb, List.getLast?_append]
      rfl
    · refine ⟨some (nv o), some (.ref d), s5, ?_, eH4.trans e5, e5 _ _ (e4 _ _ hq)⟩
      rw [filter_take _ ho, if_neg (by rw [hb]; decide)]
      rfl
  · obtain ⟨s3, s4, s5, rfl, eH, hq⟩ := hP
    refine s_ret (ev_var rfl) fun H5 e5 => ?_
    have hlen2 : (nvs (gds N.ds r0)).length = (gds N.ds r0).length := List.length_map ..
    have := k H5 (eH.trans e5)
    rw [hlen2, List.take_length]
    exact this
theorem cast_inj : ∀ {l m : List Nat}, l.map (fun (k : Nat) => (k : Int)) = m.map (fun (k : Nat) => (k : Int)) → l = m
  | [], [], _ => rfl
  | [], _ :: _, h => by cases h
  | _ :: _, [], h => by cases h
  | a :: l, b :: m, h => by
    have h1 := List.cons.inj h
    rw [nI h1.1, cast_inj h1.2]
theorem ev_com {a : Addr} {rs : List Nat} (h1 : Ev tn σ H (.ref p)) (h2 : Ev ta σ H (.ref a)) (hn : NetAt g H p N) (ha : H a = some (.lst (nvs rs))) (h0 : rs ≠ []) (hl : rs.length ≤ 1000) (hr : ∀ r ∈ rs, Rch N.ds (-1) r) : Ev (tCall (sp_common g) [] E0 (tCons tn (tCons ta tNil))) σ H (nv (com N.ds rs)) :=
  ev_call1 (ea_cons h1 (ea_cons h2 ea_nil)) fun H1 e Q k => ⟨p, a, N, rs.map (fun (k : Nat) => (k : Int)), rfl, hn.mono e, by rw [← nvs_int]; exact sq_of (e _ _ ha), fun z => h0 (List.map_eq_nil_iff.mp z), by rw [List.length_map]; exact hl, fun rs' e' _ => by
    exact cast_inj e' ▸ k, fun ⟨z, hz, hh⟩ => by
    obtain ⟨r, hr', rfl⟩ := List.mem_map.mp hz
    exact (hh (has_of hn.ok (hr r hr'))).elim, fun _ ⟨z, hz, hh⟩ => by
    obtain ⟨r, hr', e2⟩ := List.mem_map.mp hz
    exact (hh (nI e2 ▸ hr r hr')).elim⟩
/-- the same, the list new -/
theorem ev_comL {rs : List Nat} (h1 : Ev tn σ H (.ref p)) (h2 : EvL ta σ H (nvs rs)) (hn : NetAt g H p N) (h0 : rs ≠ []) (hl : rs.length ≤ 1000) (hr : ∀ r ∈ rs, Rch N.ds (-1) r) : Ev (tCall (sp_common g) [] E0 (tCons tn (tCons ta tNil))) σ H (nv (com N.ds rs)) := fun H1 e Q k =>
  h1 H1 e _ fun H2 e2 => h2 H2 (e.trans e2) _ fun a H3 ha e3 ha3 => by
    have := ev_com (g := g) (σ := σ) (H := H3) (p := p) (a := a) (tn := tC (.ref p)) (ta := tC (.ref a)) ev_c ev_c (hn.mono ((e.trans e2).trans e3)) ha3 h0 hl hr H3 (Ex.refl _) Q fun H4 e4 => k H4 ((e2.trans e3).trans e4)
    exact this
theorem gds_zero {ds : DL} : gds ds 0 = [0] := gds_is (.zero (by decide)) (by simp) (by simp) fun a => ⟨fun h => by
    rw [List.mem_singleton.mp h]
    exact .zero (.zero (by decide)), fun h => List.mem_singleton.mpr (h.antisymm (.zero h.rch1))⟩
theorem gds_two {ds : DL} (h : Rch ds (-1) r) (h0 : r ≠ 0) : ∃ u x, gds ds r = u ++ [x, r] := by
  have m0 : 0 ∈ gds ds r := (gds_mem h).mpr (.zero h)
  have mr : r ∈ gds ds r := (gds_mem h).mpr (.refl h)
  obtain ⟨u, x, y, e⟩ := two_last (gds ds r) (fun z => by rw [z] at m0; cases m0) (fun z => by
    obtain ⟨a, ha⟩ := List.length_eq_one_iff.mp z
    rw [ha] at m0 mr
    exact h0 ((List.mem_singleton.mp mr).trans (List.mem_singleton.mp m0).symm))
  exact ⟨u, x, by rw [e, gds_last h (u := u ++ [x]) (y := y) (by rw [e]; simp)]⟩
theorem ev_near0 (h1 : Ev tn σ H (.ref p)) (h2 : Ev tr σ H (nv r)) (hn : NetAt g H p N) (hr : Rch N.ds (-1) r) (hl : (gds N.ds r).length = 1) : Ev (tCall (sp_nearest g) [] E0 (tCons tn (tCons tr tNil))) σ H .non :=
  ev_call1 (ea_cons h1 (ea_cons h2 ea_nil)) fun H1 e Q k => ⟨p, N, (r : Int), rfl, hn.mono e, fun x hx _ => ⟨fun _ => k, fun u y z hz => by
    have hx := nI hx
    subst hx
    rw [hz] at hl
    simp at hl⟩, fun hh => (hh (has_of hn.ok hr)).elim, fun y _ hy hy2 => (hy2 (nI hy ▸ hr)).elim⟩
theorem ev_near1 {u : List Nat} {x y : Nat} (h1 : Ev tn σ H (.ref p)) (h2 : Ev tr σ H (nv r)) (hn : NetAt g H p N) (hr : Rch N.ds (-1) r) (hl : gds N.ds r = u ++ [x, y]) : Ev (tCall (sp_nearest g) [] E0 (tCons tn (tCons tr tNil))) σ H (nv x) :=
  ev_call1 (ea_cons h1 (ea_cons h2 ea_nil)) fun H1 e Q k => ⟨p, N, (r : Int), rfl, hn.mono e, fun r' hx _ => ⟨fun z => by
    have hx := nI hx
    subst hx
    rw [hl] at z
    simp at z, fun u' x' y' hz => by
    have hx := nI hx
    subst hx
    have e2 := hl.symm.trans hz
    have := (List.append_inj' e2 rfl).2
    simp at this
    rw [← this.1]
    exact k⟩, fun hh => (hh (has_of hn.ok hr)).elim, fun y _ hy hy2 => (hy2 (nI hy ▸ hr)).elim⟩
theorem ev_numbersL {b : Addr} {xs : List Nat} (h1 : EvL ta σ H (nvs xs)) (h2 : Ev tb σ H (.ref b)) (h4 : H b = some (.lst (nvs xs))) : Ev (tCall (sp__law_numbers g) [] E0 (tCons ta (tCons tb tNil))) σ H (.bl true) := fun H1 e Q q =>
  h1 H1 e _ fun a H2 ha e2 ha2 => h2 H2 (e.trans e2) _ fun H3 e3 => ⟨a, b, xs.map (fun (k : Nat) => (k : Int)), rfl, by rw [← nvs_int]; exact e3 _ _ ha2, by rw [← nvs_int]; exact sq_of (e3 _ _ (e2 _ _ (e _ _ h4))), fun H4 e4 => q H4 ((e2.trans e3).trans e4)⟩
theorem dm_zero {ds : DL} {k : Nat} : dm ds 0 k = rch ds (-1) k := by
  rw [Bool.eq_iff_iff, dm_iff, rch_iff]
  exact ⟨fun h => h.1, fun h => .zero h⟩
theorem ev_guardsT {la : Addr} {n : Nat} {ds : DL} (h1 : Ev tn σ H (nv n)) (h2 : Ev ta σ H (.ref la)) (hn1 : 1 ≤ n) (hn2 : n ≤ 40) (he : ∀ d ∈ ds, d.1 < n ∧ d.2 < n) (hp : PL g.K H la (ds.map zp)) : EvP (tCall (sp__law_guards g) [] E0 (tCons tn (tCons ta tNil))) σ H (fun H1 v H2 => ∃ q, v = .ref q ∧ H1 q = none ∧ TbAt H2 q n (dm ds)) := fun H1 e Q q =>
  h1 H1 e _ fun H2 e2 => h2 H2 (e.trans e2) _ fun H3 e3 => ⟨n, la, ds, rfl, hn1, hn2, he, hp.mono ((e.trans e2).trans e3), fun t H4 ht e4 hT => q _ H4 ((e2.trans e3).trans e4) ⟨t, rfl, fresh_back (e2.trans e3) ht, hT⟩⟩
end
end Mp

/-! marks.edge_of, marks.edge. -/
namespace Mp
open PySem L2 Evl
/-- a dict whose values are all True -/
def dT (m : List Nat) : List (Nat × V) := m.map fun k => (k, V.bl true)
theorem ks_dT {m : List Nat} : ks (dT m) = m := by
  unfold ks dT
  rw [List.map_map]
  exact List.map_id m
theorem dT_old {m : List Nat} {o : Nat} (h : o ∈ m) : putK (dK (dT m)) (.inl (o : Int)) (.bl true) = dK (dT m) := by
  unfold putK
  have h1 : ((dK (dT m)).any fun kv => decide (kv.1 = .inl (o : Int))) = true := by
    rw [valV_any, dK_has, ks_dT]
    exact decide_eq_true h
  rw [if_pos h1]
  conv => rhs; rw [← List.map_id (dK (dT m))]
  refine List.map_congr_left fun kv hkv => ?_
  have hv : kv.2 = .bl true := by
    unfold dK dT at hkv
    rw [List.map_map] at hkv
    obtain ⟨k, _, rfl⟩ := List.mem_map.mp hkv
    rfl
  by_cases e : kv.1 = .inl (o : Int)
  · rw [if_pos e, ← hv]
    rfl
  · rw [if_neg e]
    rfl
theorem dT_new {m : List Nat} {o : Nat} : dT m ++ [(o, V.bl true)] = dT (m ++ [o]) := by
  unfold dT
  rw [List.map_append]
  rfl
section
variable {σ : L2.St} {H : Hp} {td ty : TE} {m : List Nat} {r : Nat} {d : Addr} {D : Ends}
/-- found[r] = True -/
theorem s_mark (hd : H d = some (.dK (dK (dT m)))) (h2 : Ev td σ H (.ref d)) (h1 : Ev ty σ H (nv r)) (hl : m.length < 1000) (k : ∀ H1 m2, Ex H H1 → (m2 = m ∧ r ∈ m ∨ m2 = m ++ [r] ∧ r ∉ m) → D.nx σ (upd H1 d (.dK (dK (dT m2))))) : sDPut td ty (tC (.bl true)) D σ H :=
  h2 H (Ex.refl H) _ fun H2 e2 => h1 H2 e2 _ fun H3 e3 => ⟨d, _, rfl, DPut.k (k := .inl (r : Int)) ((e2.trans e3) _ _ hd) (by unfold dK dT; rw [List.length_map, List.length_map]; exact sz_lt (by omega)), by
    by_cases e : r ∈ m
    · rw [dT_old e]
      exact k H3 m (e2.trans e3) (.inl ⟨rfl, e⟩)
    · rw [dK_put (by rw [ks_dT]; exact e), dT_new]
      exact k H3 _ (e2.trans e3) (.inr ⟨rfl, e⟩)⟩
end
/-- the edge by the rooms us that room r guards -/
def Nt.edgeL (N : Nt) (us : List Nat) (r : Nat) : List Nat := (List.range N.n).filter fun o => (us.any fun one => decide ((one, o) ∈ N.ds)) && (!decide (o ∈ us) || decide (o = r))
noncomputable def Nt.edge (N : Nt) (r : Nat) : List Nat := N.edgeL (N.under r) r
def sp_edge_of (g : Gb) : Sp := fun vs H Q _ => ∃ (p ul : Addr) (N : Nt) (us : List Nat) (r : Nat), vs = [.ref p, .ref ul, nv r] ∧ NetAt g H p N ∧ H ul = some (.lst (nvs us)) ∧ (∀ x ∈ us, x < N.n) ∧ us.length ≤ 1000 ∧ RetL (nvs (N.edgeL us r)) H Q
def sp_edge (g : Gb) : Sp := fun vs H Q E => ∃ (p : Addr) (N : Nt) (r : Int), vs = [.ref p, .int r] ∧ NetAt g H p N ∧ Asked g E H N r fun k => RetL (nvs (N.edge k)) H Q
/-! edge_of: slots 0 net 1 under 2 room 3 found 4 one 5 other -/
def t_edge_of_b1 (g : Gb)  : TS := tIfS (tOr (tTest (tOp (rIn g.K true) (tVar 5) (tVar 1))) (tTest (tOp rEq (tVar 5) (tVar 2)))) (sDPut (tVar 3) (tVar 5) (tC (.bl true))) tNext
def t_edge_of_b2 (g : Gb)  : TS := tFor (iList g.K (tMeth g.C "leads" (sp_Net_leads g) [] E0 (tVar 0) (tCons (tVar 4) tNil))) (gName 5) (t_edge_of_b1 g)
def t_edge_of (g : Gb) : TS := tSeq (tAsg tDNewK (gName 3))
  (tSeq (tFor (iList g.K (tVar 1)) (gName 4) (t_edge_of_b2 g))
  (tRet (tCB (rSortedI g.K) (tCons (tCB rListD (tCons (tVar 3) tNil)) tNil))))
abbrev N_edge_of : List Str := ["net", "under", "room", "found", "one", "other"]
/-! edge: slots 0 net 1 room -/
def t_edge (g : Gb) (E : XK) : TS := tSeq (tDrop (tCall (sp_ask_reached g) [] E (tCons (tVar 0) (tCons (tLst (tCons (tVar 1) tNil)) tNil))))
  (tRet (tCall (sp_edge_of g) [] E0 (tCons (tVar 0) (tCons (tCall (sp_guarded g) [] E0 (tCons (tVar 0) (tCons (tVar 1) tNil))) (tCons (tVar 1) tNil)))))
abbrev N_edge : List Str := ["net", "room"]

section
variable {g : Gb} {σ : L2.St} {H B : Hp} {D : Ends} {E : XK} {Q : VK} {vs : List V} {p : Addr} {N : Nt} {te tn tr ta tb : TE} {K : PySem.W.Frag} {r : Nat}
theorem nvs_at {l : List Nat} {i : Nat} {x : V} (hx : (nvs l)[i]? = some x) : ∃ o, l[i]? = some o ∧ x = nv o := by
  rw [List.getElem?_map] at hx
  cases e : l[i]? with
  | none => rw [e] at hx; cases hx
  | some b => rw [e] at hx; exact ⟨b, rfl, (Option.some.inj hx).symm⟩
theorem pure_edge_of (h : sp_edge_of g vs H Q E) : t_edge_of g { nx := fun _ H' => Q .non H', rt := Q } (start N_edge_of vs) H := by
  obtain ⟨p, ul, N, us, r, rfl, hn, hu, hun, hul, k⟩ := h
  refine q_raw fun d hd => ?_
  obtain ⟨H1, hH1⟩ : ∃ H1, H1 = upd H d (.dK []) := ⟨_, rfl⟩
  rw [← hH1]
  have e1 : Ex H H1 := by rw [hH1]; exact Ex.new hd
  have hd1 : H1 d = some (.dK (dK (dT []))) := by rw [hH1, upd_same]; rfl
  clear hH1
  have hm := hn.ok.most
  -- what is found
  obtain ⟨C, hC⟩ : ∃ C : Nat → Prop, C = fun o => o ∉ us ∨ o = r := ⟨_, rfl⟩
  have small : ∀ {m : List Nat}, m.Nodup → (∀ o ∈ m, o < N.n) → m.length ≤ N.n := fun {m} nd hm => by
    have h1 := nd.length_le_of_subset (l₂ := List.range N.n) fun x hx => List.mem_range.mpr (hm x hx)
    rw [List.length_range] at h1
    exact h1
  have lu : (nvs us).length = us.length := List.length_map ..
  refine q_forLn (ev_var rfl) (sq_of (e1 _ _ hu)) (fun i σ' H' => ∃ (m : List Nat) (s4 s5 : Option V), σ' = [some (.ref p), some (.ref ul), some (nv r), some (.ref d), s4, s5] ∧ Ex H H' ∧ H' d = some (.dK (dK (dT m))) ∧ m.Nodup ∧ (∀ o ∈ m, o < N.n) ∧ ∀ o, o ∈ m ↔ ∃ j one, j < i ∧ us[j]? = some one ∧ (one, o) ∈ N.ds ∧ C o)
    (fun H2 e2 => ⟨[], _, _, rfl, e1.trans e2, e2 _ _ hd1, by simp, by simp, fun o => ⟨(fun h => by cases h), fun ⟨j, _, hj, _⟩ => absurd hj (Nat.not_lt_zero _)⟩⟩) (fun i σ' H' _ hP => by
      obtain ⟨m, s4, s5, _, eX, _⟩ := hP
      exact sq_of (eX _ _ hu)) (fun i x σ' H' hx hP => ?_) (fun σ' H' hP => ?_)
  · obtain ⟨m, s4, s5, rfl, eH, hdm, nd, hmn, hmm⟩ := hP
    obtain ⟨one, hone, rfl⟩ := nvs_at hx
    have h1n := hun one (List.mem_of_getElem? hone)
    refine s_forNL (g := gName 5) (ev_leads (N := N) (r := one) (ev_var rfl) (ev_var rfl) (hn.mono eH) h1n) (fun q i2 σ' H' => ∃ (m : List Nat) (s5 : Option V), σ' = [some (.ref p), some (.ref ul), some (nv r), some (.ref d), some (nv one), s5] ∧ Ex H H' ∧ q ≠ d ∧ H' q = some (.lst (nvs (N.ahead one))) ∧ H' d = some (.dK (dK (dT m))) ∧ m.Nodup ∧ (∀ o ∈ m, o < N.n) ∧
        ∀ o, o ∈ m ↔ (∃ j one, j < i ∧ us[j]? = some one ∧ (one, o) ∈ N.ds ∧ C o) ∨ ∃ j, j < i2 ∧ (N.ahead one)[j]? = some o ∧ C o)
      (fun q H2 hq e2 hq2 => ⟨m, _, rfl, eH.trans e2, (fun z => by rw [z, hdm] at hq; cases hq), hq2, e2 _ _ hdm, nd, hmn, fun o => (hmm o).trans ⟨.inl, fun h => h.elim id fun ⟨j, hj, _⟩ => absurd hj (Nat.not_lt_zero _)⟩⟩)
      (fun q i2 σ' H' _ hP => by
        obtain ⟨m, s5, _, _, _, hq, _⟩ := hP
        exact sq_of hq) (fun q i2 x σ' H' hx hP => ?_) (fun q σ' H' hP => ?_)
    · obtain ⟨m, s5, rfl, eX, nqd, hq, hdm, nd, hmn, hmm⟩ := hP
      obtain ⟨o, ho, rfl⟩ := nvs_at hx
      have hoa := List.mem_filter.mp (List.mem_of_getElem? ho)
      have hon : o < N.n := List.mem_range.mp hoa.1
      have step : ∀ m2 : List Nat, (∀ z, z ∈ m2 ↔ z ∈ m ∨ (z = o ∧ C o)) → ∀ z, z ∈ m2 ↔ (∃ j one, j < i ∧ us[j]? = some one ∧ (one, z) ∈ N.ds ∧ C z) ∨ ∃ j, j < i2 + 1 ∧ (N.ahead one)[j]? = some z ∧ C z := fun m2 h2 z => by
        rw [h2 z, hmm z]
        constructor
        · rintro ((h | ⟨j, h1, h2, h3⟩) | ⟨rfl, h⟩)
          · exact .inl h
          · exact .inr ⟨j, by omega, h2, h3⟩
          · exact .inr ⟨i2, by omega, ho, h⟩
        · rintro (h | ⟨j, h1, h2, h3⟩)
          · exact .inl (.inl h)
          · by_cases e : j = i2
            · subst e
              rw [ho] at h2
              have := Option.some.inj h2
              subst this
              exact .inr ⟨rfl, h3⟩
            · exact .inl (.inr ⟨j, by omega, h2, h3⟩)
      refine s_when (b := !decide (o ∈ us) || decide (o = r)) (et_or (et_is (et_test (ev_op (ev_var rfl) (ev_var rfl) (rv_niL (sq_of (eX _ _ hu)) rfl (flat_nvs _)))) (by rw [in_nvs])) fun _ => et_is (et_test (ev_op (ev_var rfl) (ev_var rfl) (rv_eq rfl))) (decide_eq_decide.mpr nvI)) (fun hb H2 e2 => ?_) (fun hb H2 e2 => ?_)
      · have hCo : C o := by
          rw [hC]
          simpa using hb
        have := small nd hmn
        refine s_mark (m := m) (r := o) (e2 _ _ hdm) (ev_var rfl) (ev_var rfl) (by omega) fun H3 m2 e3 hm2 => ⟨m2, _, rfl, exU ((eX.trans e2).trans e3) hd, nqd, by rw [upd_ne nqd]; exact e3 _ _ (e2 _ _ hq), upd_same, ?_, ?_, step m2 fun z => ?_⟩
        · rcases hm2 with ⟨rfl, _⟩ | ⟨rfl, h⟩
          · exact nd
          · exact List.nodup_append.mpr ⟨nd, by simp, fun a ha b hb e => h (by rw [List.mem_singleton.mp hb] at e; exact e ▸ ha)⟩
        · rcases hm2 with ⟨rfl, _⟩ | ⟨rfl, h⟩
          · exact hmn
          · intro z hz
            rcases List.mem_append.mp hz with hz | hz
            · exact hmn z hz
            · rw [List.mem_singleton.mp hz]
              exact hon
        · rcases hm2 with ⟨rfl, h⟩ | ⟨rfl, h⟩
          · exact ⟨.inl, fun h2 => h2.elim id fun ⟨e, _⟩ => e ▸ h⟩
          · rw [List.mem_append, List.mem_singleton]
            exact ⟨fun h2 => h2.elim .inl fun e => .inr ⟨e, hCo⟩, fun h2 => h2.elim .inl fun e => .inr e.1⟩
      · have hCo : ¬ C o := by
          rw [hC]
          simp at hb
          simp [hb]
        exact ⟨m, _, rfl, eX.trans e2, nqd, e2 _ _ hq, e2 _ _ hdm, nd, hmn, step m fun z => ⟨.inl, fun h => h.elim id fun ⟨_, h⟩ => (hCo h).elim⟩⟩
    · obtain ⟨m, s5, rfl, eX, nqd, hq, hdm, nd, hmn, hmm⟩ := hP
      refine ⟨m, _, _, rfl, eX, hdm, nd, hmn, fun o => (hmm o).trans ?_⟩
      constructor
      · rintro (⟨j, one', h1, h2, h3⟩ | ⟨j, h1, h2, h3⟩)
        · exact ⟨j, one', by omega, h2, h3⟩
        · exact ⟨i, one, by omega, hone, of_decide_eq_true (List.mem_filter.mp (List.mem_of_getElem? h2)).2, h3⟩
      · rintro ⟨j, one', h1, h2, h3, h4⟩
        by_cases e : j = i
        · subst e
          rw [hone] at h2
          have := Option.some.inj h2
          subst this
          have hm2 : o ∈ N.ahead one := List.mem_filter.mpr ⟨List.mem_range.mpr (hn.ok.ends _ h3).2, decide_eq_true h3⟩
          obtain ⟨j2, hj, e2⟩ := List.mem_iff_getElem.mp hm2
          exact .inr ⟨j2, by rw [List.length_map]; exact hj, by rw [List.getElem?_eq_getElem hj, e2], h4⟩
        · exact .inl ⟨j, one', by omega, h2, h3, h4⟩
  · obtain ⟨m, s4, s5, rfl, eH, hdm, nd, hmn, hmm⟩ := hP
    rw [lu] at hmm
    refine s_retL (el_sort (n := N.n) (p := fun o => (us.any fun one => decide ((one, o) ∈ N.ds)) && (!decide (o ∈ us) || decide (o = r))) (l := m) (by
      have := el_dlist (td := tVar 3) (σ := [some (V.ref p), some (V.ref ul), some (nv r), some (V.ref d), s4, s5]) (H := H') (ev_var rfl) hdm
      rw [ks_dT] at this
      exact this) nd fun o => ?_) fun q H2 hq e2 hq2 => k q H2 (fresh_back eH hq) (eH.trans e2) hq2
    rw [hmm o, hC, Bool.and_eq_true, List.any_eq_true]
    constructor
    · rintro ⟨j, one, _, h2, h3, h4⟩
      exact ⟨(hn.ok.ends _ h3).2, ⟨one, List.mem_of_getElem? h2, decide_eq_true h3⟩, by simpa using h4⟩
    · rintro ⟨_, ⟨one, h2, h3⟩, h4⟩
      obtain ⟨j, hj, e⟩ := List.mem_iff_getElem.mp h2
      exact ⟨j, one, hj, by rw [List.getElem?_eq_getElem hj, e], of_decide_eq_true h3, by simpa using h4⟩
theorem under_len {s : Int} (ok : N.Ok) : (N.under s).length ≤ 40 := by
  have h1 := List.length_filter_le (fun k => rch N.ds (-1) k && !rch N.ds s k) (List.range N.n)
  rw [List.length_range] at h1
  have := ok.most
  exact Nat.le_trans h1 this
theorem pure_edge (h : sp_edge g vs H Q E) : t_edge g E { nx := fun _ H' => Q .non H', rt := Q } (start N_edge vs) H := by
  obtain ⟨p, N, ri, rfl, hn, hA⟩ := h
  refine q_askR (ri := ri) (N := N) (ev_var rfl) (ev_var rfl) hn hA fun r hr hr2 hS H1 e1 => ?_
  subst hr
  refine ⟨_, rfl, el_guarded (N := N) (s := (r : Int)) (ev_var rfl) (ev_var rfl) (hn.mono e1) H1 (Ex.refl _) _ fun ul H2 hul e2 hul2 => ⟨_, rfl, p, ul, N, N.under r, r, rfl, hn.mono (e1.trans e2), hul2, fun x hx => List.mem_range.mp (List.mem_filter.mp hx).1, by have := under_len (s := (r : Int)) hn.ok; omega, fun q H3 hq e3 hq3 => hS q H3 (fresh_back (e1.trans e2) hq) ((e1.trans e2).trans e3) hq3⟩⟩
end
end Mp

/-! loops.py but wild_ring. -/
namespace Mp
open PySem L2 Evl
/-- the door of number k -/
def Nt.dr (N : Nt) (k : Nat) : Nat × Nat := N.ds.getD k (0, 0)
noncomputable def Nt.inside (N : Nt) : List Nat := (List.range N.ds.length).filter fun k => rch N.ds (-1) (N.dr k).1
noncomputable def Nt.back (N : Nt) : List Nat := (List.range N.ds.length).filter fun k => dm N.ds (N.dr k).2 (N.dr k).1
inductive Lp (ds : DL) (hd : Nat) (ss : List Nat) : Nat → Prop
  | head : Lp ds hd ss hd
  | start {k : Nat} : k ∈ ss → Lp ds hd ss k
  | step {a b : Nat} : Lp ds hd ss b → b ≠ hd → (a, b) ∈ ds → Rch ds (-1) a → Lp ds hd ss a
open Classical in
noncomputable def lp (ds : DL) (hd : Nat) (ss : List Nat) (k : Nat) : Bool := decide (Lp ds hd ss k)
open Classical in
theorem lp_iff {ds : DL} {hd k : Nat} {ss : List Nat} : lp ds hd ss k = true ↔ Lp ds hd ss k := by unfold lp; exact decide_eq_true_iff
noncomputable def Nt.loop (N : Nt) (hd : Nat) (ss : List Nat) : List Nat := (List.range N.n).filter (lp N.ds hd ss)
/-- the rooms from which the doors among bs lead into h -/
def Nt.sts (N : Nt) (bs : List Nat) (h : Nat) : List Nat := (bs.filter fun k => decide ((N.dr k).2 = h)).map fun k => (N.dr k).1
noncomputable def Nt.heads (N : Nt) : List Nat := (List.range N.n).filter fun h => !decide (N.sts N.back h = [])
noncomputable def Nt.lof (N : Nt) (h : Nat) : List Nat := N.loop h (N.sts N.back h)
/-- a list of pairs of a room and a list of rooms -/
def FAt (H : Hp) (p : Addr) (hs : List Nat) (f : Nat → List Nat) : Prop := ∃ ts : List Addr, H p = some (.lst (ts.map V.ref)) ∧ Paired (fun t h => ∃ l, H t = some (.tup [nv h, .ref l]) ∧ H l = some (.lst (nvs (f h)))) ts hs
/-- the same, all new -/
def FNew (B H : Hp) (p : Addr) (hs : List Nat) (f : Nat → List Nat) : Prop := B p = none ∧ ∃ ts : List Addr, H p = some (.lst (ts.map V.ref)) ∧ Paired (fun t h => ∃ l, B t = none ∧ B l = none ∧ l ≠ p ∧ H t = some (.tup [nv h, .ref l]) ∧ H l = some (.lst (nvs (f h)))) ts hs
theorem FNew.at {B H : Hp} {p : Addr} {hs : List Nat} {f : Nat → List Nat} (h : FNew B H p hs f) : FAt H p hs f := let ⟨_, ts, h1, h2⟩ := h; ⟨ts, h1, Paired.mono (fun _ _ ⟨l, _, _, _, q1, q2⟩ => ⟨l, q1, q2⟩) h2⟩
theorem FAt.mono {H H' : Hp} {p : Addr} {hs : List Nat} {f : Nat → List Nat} (e : Ex H H') (h : FAt H p hs f) : FAt H' p hs f := let ⟨ts, h1, h2⟩ := h; ⟨ts, e _ _ h1, Paired.mono (fun _ _ ⟨l, q1, q2⟩ => ⟨l, e _ _ q1, e _ _ q2⟩) h2⟩
def sp_inside (g : Gb) : Sp := fun vs H Q _ => ∃ (p : Addr) (N : Nt), vs = [.ref p] ∧ NetAt g H p N ∧ RetL (nvs N.inside) H Q
def sp_back_doors (g : Gb) : Sp := fun vs H Q _ => ∃ (p : Addr) (N : Nt), vs = [.ref p] ∧ NetAt g H p N ∧ RetL (nvs N.back) H Q
def sp_loop_of (g : Gb) : Sp := fun vs H Q _ => ∃ (p sl : Addr) (N : Nt) (h : Nat) (ss : List Nat), vs = [.ref p, nv h, .ref sl] ∧ NetAt g H p N ∧ H sl = some (.lst (nvs ss)) ∧ h < N.n ∧ (∀ x ∈ ss, x < N.n) ∧ RetL (nvs (N.loop h ss)) H Q
def sp_loops (g : Gb) : Sp := fun vs H Q _ => ∃ (p : Addr) (N : Nt), vs = [.ref p] ∧ NetAt g H p N ∧ ∀ q H2, Ex H H2 → FNew H H2 q N.heads N.lof → Q (.ref q) H2
/-! inside: slots 0 net 1 there 2 doors 3 k -/
def t_inside (g : Gb) : TS := tSeq (tAsg (tCall (sp_reached g) [] E0 (tCons (tVar 0) tNil)) (gName 1))
  (tSeq (tAsg (tMeth g.C "doors" (sp_Net_doors g) [] E0 (tVar 0) tNil) (gName 2))
  (tRet (tLc (iRng1 (tCons (tCB (rLenS g.K) (tCons (tVar 2) tNil)) tNil)) (gName 3) (tTest (tOp (rIn g.K false) (tOp (rIxT g.K) (tOp (rIxL g.K) (tVar 2) (tVar 3)) (tC (.int 0))) (tVar 1))) (tVar 3) [3])))
abbrev N_inside : List Str := ["net", "there", "doors", "k"]
/-! back_doors: slots 0 net 1 doors 2 under 3 room 4 k -/
def t_back_doors (g : Gb) : TS := tSeq (tAsg (tMeth g.C "doors" (sp_Net_doors g) [] E0 (tVar 0) tNil) (gName 1))
  (tSeq (tAsg (tLc (iRng1 (tCons (tMeth g.C "rooms" (sp_Net_rooms g) [] E0 (tVar 0) tNil) tNil)) (gName 3) tYes (tCall (sp_guarded g) [] E0 (tCons (tVar 0) (tCons (tVar 3) tNil))) [3]) (gName 2))
  (tRet (tLc (iList g.K (tCall (sp_inside g) [] E0 (tCons (tVar 0) tNil))) (gName 4) (tTest (tOp (rIn g.K false) (tOp (rIxT g.K) (tOp (rIxL g.K) (tVar 1) (tVar 4)) (tC (.int 0))) (tOp (rIxL g.K) (tVar 2) (tOp (rIxT g.K) (tOp (rIxL g.K) (tVar 1) (tVar 4)) (tC (.int 1)))))) (tVar 4) [4])))
abbrev N_back_doors : List Str := ["net", "doors", "under", "room", "k"]
/-! loop_of: slots 0 net 1 head 2 starts 3 there 4 row 5 room 6 at -/
def t_loop_of_b1 (g : Gb)  : TS := tIfS (tTest (tOp (rIn g.K true) (tVar 5) (tVar 4))) (tDrop (tBM g.K "list" rAppend (tVar 4) (tCons (tVar 5) tNil))) tNext
def t_loop_of_b2 (g : Gb)  : TS := tIfS (tAnd (tTest (tOp (rIn g.K false) (tVar 5) (tVar 3))) (tTest (tOp (rIn g.K true) (tVar 5) (tVar 4)))) (tDrop (tBM g.K "list" rAppend (tVar 4) (tCons (tVar 5) tNil))) tNext
def t_loop_of_b3 (g : Gb)  : TS := tSeq (tFor (iList g.K (tMeth g.C "led" (sp_Net_led g) [] E0 (tVar 0) (tCons (tOp (rIxL g.K) (tVar 4) (tVar 6)) tNil))) (gName 5) (t_loop_of_b2 g))
  (tAsg (tOp rAddI (tVar 6) (tC (.int 1))) (gName 6))
def t_loop_of (g : Gb) : TS := tSeq (tAsg (tCall (sp_reached g) [] E0 (tCons (tVar 0) tNil)) (gName 3))
  (tSeq (tAsg (tLst (tCons (tVar 1) tNil)) (gName 4))
  (tSeq (tFor (iList g.K (tVar 2)) (gName 5) (t_loop_of_b1 g))
  (tSeq (tAsg (tC (.int 1)) (gName 6))
  (tSeq (tWhile (tTest (tOp rLtI (tVar 6) (tCB (rLenS g.K) (tCons (tVar 4) tNil)))) (t_loop_of_b3 g))
  (tRet (tCB (rSortedI g.K) (tCons (tVar 4) tNil)))))))
abbrev N_loop_of : List Str := ["net", "head", "starts", "there", "row", "room", "at"]
/-! loops: slots 0 net 1 doors 2 starts 3 k 4 head -/
def t_loops_b1 (g : Gb)  : TS := tDrop (tBM g.K "list" rAppend (tDSetd (tVar 2) (tOp (rIxT g.K) (tOp (rIxL g.K) (tVar 1) (tVar 3)) (tC (.int 1))) (tLst tNil)) (tCons (tOp (rIxT g.K) (tOp (rIxL g.K) (tVar 1) (tVar 3)) (tC (.int 0))) tNil))
def t_loops (g : Gb) : TS := tSeq (tAsg (tMeth g.C "doors" (sp_Net_doors g) [] E0 (tVar 0) tNil) (gName 1))
  (tSeq (tAsg tDNewK (gName 2))
  (tSeq (tFor (iList g.K (tCall (sp_back_doors g) [] E0 (tCons (tVar 0) tNil))) (gName 3) (t_loops_b1 g))
  (tRet (tLc (iList g.K (tCB (rSortedI g.K) (tCons (tCB rListD (tCons (tVar 2) tNil)) tNil))) (gName 4) tYes (tTup (tCons (tVar 4) (tCons (tCall (sp_loop_of g) [] E0 (tCons (tVar 0) (tCons (tVar 4) (tCons (tDGet (tVar 2) (tVar 4)) tNil)))) tNil))) [4]))))
abbrev N_loops : List Str := ["net", "doors", "starts", "k", "head"]

section
variable {g : Gb} {σ : L2.St} {H H' B : Hp} {D : Ends} {E : XK} {Q : VK} {vs : List V} {p : Addr} {N : Nt} {te tn tr ta tb td ti : TE} {K : PySem.W.Frag} {r k : Nat}
theorem dr_at (h : k < N.ds.length) : N.ds[k]? = some (N.dr k) := by
  unfold Nt.dr
  rw [List.getD_eq_getElem?_getD, List.getElem?_eq_getElem h]
  rfl
theorem dr_mem (h : k < N.ds.length) : N.dr k ∈ N.ds := List.mem_of_getElem? (dr_at h)
/-- doors[k][0], doors[k][1] -/
theorem ev_door {d : Addr} (h1 : Ev td σ H (.ref d)) (h2 : Ev ti σ H (nv k)) (hd : PLt H d (N.ds.map zp)) (hk : k < N.ds.length) : Ev (tOp (rIxT K) (tOp (rIxL K) td ti) (tC (.int 0))) σ H (nv (N.dr k).1) ∧ Ev (tOp (rIxT K) (tOp (rIxL K) td ti) (tC (.int 1))) σ H (nv (N.dr k).2) := by
  obtain ⟨as, h3, h4⟩ := hd
  have e : (N.ds.map zp)[k]? = some (zp (N.dr k)) := by rw [List.getElem?_map, dr_at hk]; rfl
  obtain ⟨a, h5, h6⟩ := Paired.at h4 e
  have h7 : Ev (tOp (rIxL K) td ti) σ H (.ref a) := ev_op h1 h2 (rv_ixL (sq_of h3) (atI_nat (by rw [List.getElem?_map, h5]; rfl)))
  exact ⟨ev_fst h7 h6, ev_snd h7 h6⟩
theorem PLt.len {d : Addr} {ds : List (Int × Int)} (h : PLt H d ds) : ∃ xs, H d = some (.lst xs) ∧ xs.length = ds.length := let ⟨as, h1, h2⟩ := h; ⟨_, h1, by rw [List.length_map]; exact paired_len h2⟩
theorem nd_no {P : Prop} [Decidable P] (h : (!decide P) = false) : P := by simpa using h
theorem filter_len (m : Nat) (f : Nat → Bool) : ((List.range m).filter f).length ≤ m := by
  have := List.length_filter_le f (List.range m)
  rw [List.length_range] at this
  exact this
theorem pure_inside (h : sp_inside g vs H Q E) : t_inside g { nx := fun _ H' => Q .non H', rt := Q } (start N_inside vs) H := by
  obtain ⟨p, N, rfl, hn, k⟩ := h
  refine q_asgL (el_reached (N := N) (ev_var rfl) hn) fun th H1 hth e1 hth1 => ?_
  refine a_asgP (ev_doors (N := N) (ev_var rfl) (hn.mono e1)) fun v H2 e2 hv => ?_
  obtain ⟨d, rfl, hd0, hd⟩ := hv
  obtain ⟨xs, hx, hxl⟩ := hd.len
  rw [List.length_map] at hxl
  have hf := hn.ok.few
  refine s_retL (el_lc (l := List.range N.ds.length) (R := fun (k : Nat) x => x = nv k) (fun k => rch N.ds (-1) (N.dr k).1) nv (ei_range (ea_cons (ev_is (ev_len (ev_var rfl) (sq_of hx)) (by rw [hxl])) ea_nil) (by omega)) (by rw [List.length_range]; omega) (fun _ => rfl) (fun k x H3 hk hx e3 => ?_) (fun k x H3 hk hx e3 _ => ?_)) fun q H3 hq e3 hq3 => k q H3 (fresh_back (e1.trans e2) hq) ((e1.trans e2).trans e3) hq3
  · subst hx
    have hk2 := List.mem_range.mp hk
    refine et_is (et_test (ev_op (ev_door (N := N) (k := k) (ev_var rfl) (ev_var rfl) (hd.mono e3) hk2).1 (ev_var rfl) (rv_isL (sq_of (e3 _ _ (e2 _ _ hth1))) rfl (flat_nvs _)))) ?_
    rw [in_nvs, Bool.eq_iff_iff, decide_eq_true_iff, rch_iff]
    exact mem_there hn.ok
  · subst hx
    exact ev_var rfl
theorem el_inside (h1 : Ev tn σ H (.ref p)) (hn : NetAt g H p N) : EvL (tCall (sp_inside g) [] E0 (tCons tn tNil)) σ H (nvs N.inside) := el_call1 (ea_cons h1 ea_nil) fun H1 e Q k => ⟨p, N, rfl, hn.mono e, k⟩
theorem pure_back_doors (h : sp_back_doors g vs H Q E) : t_back_doors g { nx := fun _ H' => Q .non H', rt := Q } (start N_back_doors vs) H := by
  obtain ⟨p, N, rfl, hn, k⟩ := h
  refine a_asgP (ev_doors (N := N) (ev_var rfl) hn) fun v H1 e1 hv => ?_
  obtain ⟨d, rfl, hd0, hd⟩ := hv
  have hm := hn.ok.most
  refine a_asgP (ep_lcL (l := List.range N.n) (R := fun (k : Nat) x => x = nv k) (fun _ => true) (fun r => nvs (N.under (r : Int))) (ei_range (ea_cons (ev_rooms (N := N) (ev_var rfl) (hn.mono e1)) ea_nil) (by omega)) (by rw [List.length_range]; omega) (fun _ => rfl) (fun _ _ _ _ _ _ => et_yes) (fun r x H2 hr hx e2 _ => ?_)) fun v H2 e2 hv => ?_
  · subst hx
    exact el_guarded (N := N) (ev_var rfl) (ev_var rfl) (hn.mono (e1.trans e2))
  obtain ⟨u, as, rfl, _, hu, hpr⟩ := hv
  rw [List.filter_eq_self.mpr (fun _ _ => rfl)] at hpr
  have hf := hn.ok.few
  have hil : N.inside.length ≤ N.ds.length := filter_len _ _
  refine s_retL (el_lc (l := N.inside) (R := fun (k : Nat) x => x = nv k) (fun k => dm N.ds (N.dr k).2 (N.dr k).1) nv (ei_listN (el_inside (N := N) (ev_var rfl) (hn.mono (e1.trans e2))) (paired_map (f := nv) (fun _ => rfl) _)) (by omega) (fun _ => rfl) (fun k x H3 hk hx e3 => ?_) (fun k x H3 hk hx e3 _ => ?_)) fun q H3 hq e3 hq3 => k q H3 (fresh_back (e1.trans e2) hq) ((e1.trans e2).trans e3) ?_
  · subst hx
    have hk2 := List.mem_range.mp (List.mem_filter.mp hk).1
    have hd2 := ev_door (K := g.K) (N := N) (k := k) (σ := [some (V.ref p), some (V.ref d), some (V.ref u), none, some (nv k)]) (td := tVar 1) (ti := tVar 4) (ev_var rfl) (ev_var rfl) (hd.mono (e2.trans e3)) hk2
    have hlt := (hn.ok.ends _ (dr_mem hk2)).2
    obtain ⟨b, hb1, _, _, hb2⟩ := Paired.at hpr (i := (N.dr k).2) (b := nvs (N.under ((N.dr k).2 : Int))) (by rw [List.getElem?_map, List.getElem?_range hlt]; rfl)
    refine et_is (et_test (ev_op hd2.1 (ev_op (ev_var rfl) hd2.2 (rv_ixL (v := .ref b) (sq_of (e3 _ _ hu)) (atI_nat (by rw [List.getElem?_map, hb1]; rfl)))) (rv_isL (sq_of (e3 _ _ hb2)) rfl (flat_nvs _)))) ?_
    rw [in_nvs, Bool.eq_iff_iff, decide_eq_true_iff, dm_iff]
    exact mem_under hn.ok
  · subst hx
    exact ev_var rfl
  · rw [hq3]
    unfold Nt.inside Nt.back
    rw [List.filter_filter]
    refine congrArg (fun z => some (HO.lst (nvs z))) (List.filter_congr fun x _ => ?_)
    rw [dm_eq]
    cases rch N.ds (-1) (N.dr x).1 <;> simp
theorem el_back (h1 : Ev tn σ H (.ref p)) (hn : NetAt g H p N) : EvL (tCall (sp_back_doors g) [] E0 (tCons tn tNil)) σ H (nvs N.back) := el_call1 (ea_cons h1 ea_nil) fun H1 e Q k => ⟨p, N, rfl, hn.mono e, k⟩
theorem el_sortV {n : Nat} {l : List Nat} {f : Nat → Bool} {a : Addr} (h : Ev te σ H (.ref a)) (ha : H a = some (.lst (nvs l))) (nd : l.Nodup) (hm : ∀ r, r ∈ l ↔ r < n ∧ f r = true) : EvL (tCB (rSortedI K) (tCons te tNil)) σ H (nvs ((List.range n).filter f)) := fun H1 e Q q =>
  h H1 e _ fun H2 e2 => ⟨a, l.map fun (k : Nat) => (k : Int), rfl, by rw [← nvs_int]; exact sq_of (e2 _ _ (e _ _ ha)), fun ns p' hp hs hp' => q p' _ (fresh_back e2 hp') (e2.trans (Ex.new hp')) (by
    rw [upd_same, sort_is nd hm hp hs])⟩
theorem pure_loop_of (h : sp_loop_of g vs H Q E) : t_loop_of g { nx := fun _ H' => Q .non H', rt := Q } (start N_loop_of vs) H := by
  obtain ⟨p, sl, N, hd, ss, rfl, hn, hsl, hhd, hss, k⟩ := h
  have hm := hn.ok.most
  refine q_asgL (el_reached (N := N) (ev_var rfl) hn) fun th H1 hth e1 hth1 => ?_
  refine q_asgL (el_lst (ea_cons (ev_var rfl) ea_nil) (by show 1 ≤ 100000; decide)) fun rw_ H2 hrw e2 hrw2 => ?_
  have hrw0 : H rw_ = none := fresh_back e1 hrw
  have lts : ∀ {k}, Lp N.ds hd ss k → k < N.n := fun {k} h => by
    cases h with
    | head => exact hhd
    | start h => exact hss _ h
    | step _ _ _ h => exact h.lt hn.ok.pos hn.ok.ends
  have small : ∀ {m : List Nat}, m.Nodup → (∀ o ∈ m, Lp N.ds hd ss o) → m.length ≤ N.n := fun {m} nd hm => by
    have h1 := nd.length_le_of_subset (l₂ := List.range N.n) fun x hx => List.mem_range.mpr (lts (hm x hx))
    rw [List.length_range] at h1
    exact h1
  have ls : (nvs ss).length = ss.length := List.length_map ..
  refine q_forLn (ev_var rfl) (sq_of (e2 _ _ (e1 _ _ hsl))) (fun i σ' H' => ∃ (m : List Nat) (s5 : Option V), σ' = [some (.ref p), some (nv hd), some (.ref sl), some (.ref th), some (.ref rw_), s5, none] ∧ Ex H1 H' ∧ H' rw_ = some (.lst (nvs (hd :: m))) ∧ (hd :: m).Nodup ∧ (∀ x ∈ hd :: m, Lp N.ds hd ss x) ∧ ∀ j o, j < i → ss[j]? = some o → o ∈ hd :: m)
    (fun H3 e3 => ⟨[], _, rfl, e2.trans e3, e3 _ _ hrw2, by simp, fun x hx => by rw [List.mem_singleton.mp hx]; exact .head, fun j o hj => absurd hj (Nat.not_lt_zero _)⟩) (fun i σ' H' _ hP => by
      obtain ⟨m, s5, _, eX, _⟩ := hP
      exact sq_of (eX _ _ (e1 _ _ hsl))) (fun i x σ' H' hx hP => ?_) (fun σ' H' hP => ?_)
  · obtain ⟨m, s5, rfl, eX, hrw3, nd, hall, hin⟩ := hP
    obtain ⟨o, ho, rfl⟩ := nvs_at hx
    have step : ∀ m2 : List Nat, (∀ x ∈ hd :: m, x ∈ hd :: m2) → o ∈ hd :: m2 → ∀ j o, j < i + 1 → ss[j]? = some o → o ∈ hd :: m2 := fun m2 h1 h2 j o' hj ho' => by
      by_cases e : j = i
      · subst e
        rw [ho] at ho'
        exact Option.some.inj ho' ▸ h2
      · exact h1 _ (hin j o' (by omega) ho')
    refine s_when (b := !decide (o ∈ hd :: m)) (et_is (et_test (ev_op (ev_var rfl) (ev_var rfl) (rv_niL (sq_of hrw3) rfl (flat_nvs _)))) (by rw [in_nvs])) (fun hb H3 e3 => ?_) (fun hb H3 e3 => ?_)
    · have hno : o ∉ hd :: m := by simpa using hb
      have := small nd hall
      refine s_app (xs := nvs (hd :: m)) (e3 _ _ hrw3) (ev_var rfl) (ev_var rfl) (by rw [List.length_map]; omega) fun H4 e4 => ⟨m ++ [o], _, rfl, exU ((eX.trans e3).trans e4) hrw, ?_, ?_, ?_, step (m ++ [o]) (fun x hx => ?_) ?_⟩
      · rw [upd_same]
        unfold nvs
        rw [← List.cons_append, List.map_append (l₂ := [o])]
        rfl
      · rw [← List.cons_append]
        exact List.nodup_append.mpr ⟨nd, by simp, fun a ha b hb e => hno (by rw [List.mem_singleton.mp hb] at e; exact e ▸ ha)⟩
      · intro x hx
        rw [← List.cons_append] at hx
        rcases List.mem_append.mp hx with hx | hx
        · exact hall x hx
        · rw [List.mem_singleton.mp hx]
          exact .start (List.mem_of_getElem? ho)
      · rw [← List.cons_append]
        exact List.mem_append_left _ hx
      · rw [← List.cons_append]
        exact List.mem_append_right _ List.mem_cons_self
    · exact ⟨m, _, rfl, eX.trans e3, e3 _ _ hrw3, nd, hall, step m (fun x hx => hx) (nd_no hb)⟩
  obtain ⟨m, s5, rfl, eX, hrw3, nd, hall, hin⟩ := hP
  rw [ls] at hin
  have hss2 : ∀ o ∈ ss, o ∈ hd :: m := fun o ho => by
    obtain ⟨j, hj, e⟩ := List.mem_iff_getElem.mp ho
    exact hin j o hj (by rw [List.getElem?_eq_getElem hj, e])
  refine q_asg ev_c fun H3 e3 => ?_
  refine q_while (fun z σ' H' => ∃ (m : List Nat) (at_ : Nat) (s5 : Option V), σ' = [some (.ref p), some (nv hd), some (.ref sl), some (.ref th), some (.ref rw_), s5, some (nv at_)] ∧ Ex H1 H' ∧ H' rw_ = some (.lst (nvs (hd :: m))) ∧ (hd :: m).Nodup ∧ (∀ x ∈ hd :: m, Lp N.ds hd ss x) ∧ (∀ o ∈ ss, o ∈ hd :: m) ∧ 1 ≤ at_ ∧ at_ ≤ (hd :: m).length ∧
      (∀ j b, 1 ≤ j → j < at_ → (hd :: m)[j]? = some b → ∀ a, (a, b) ∈ N.ds → Rch N.ds (-1) a → a ∈ hd :: m) ∧ z = N.n - at_) (N.n - 1) ⟨m, 1, _, rfl, eX.trans e3, e3 _ _ hrw3, nd, hall, hss2, Nat.le_refl _, by simp, fun j b h1 h2 => by omega, rfl⟩ fun z σ' H' hW => ?_
  clear hss2 hin hall nd hrw3 eX
  obtain ⟨m, at_, s5, rfl, eX, hrw3, nd, hall, hss2, hat0, hat, hcl, rfl⟩ := hW
  have hlen := small nd hall
  have hkl : (nvs (hd :: m)).length = (hd :: m).length := List.length_map ..
  refine ⟨decide (at_ < (hd :: m).length), et_is (et_test (ev_op (ev_var rfl) (ev_len (ev_var rfl) (sq_of hrw3)) rv_I0)) (by rw [hkl]; exact decide_eq_decide.mpr ⟨fun h => by omega, fun h => by omega⟩), fun hb H5 e5 => ?_, fun hb H5 e5 => ?_⟩
  · have hlt : at_ < (hd :: m).length := of_decide_eq_true hb
    obtain ⟨c, hc⟩ : ∃ c, (hd :: m)[at_]? = some c := ⟨_, List.getElem?_eq_getElem hlt⟩
    have hix : ∀ {l : List Nat}, l[at_]? = some c → (nvs l)[at_]? = some (nv c) := fun {l} h => by rw [List.getElem?_map, h]; rfl
    have hcn : c < N.n := lts (hall c (List.mem_of_getElem? hc))
    have hch : c ≠ hd := fun z => by
      have h1 : (hd :: m)[0]? = some hd := rfl
      have h2 := (List.getElem?_eq_some_iff.mp hc).2
      have h3 := (List.getElem_inj (h₀ := hlt) (h₁ := by simp) nd).mp (h2.trans (z.trans (show hd = (hd :: m)[0] from rfl)))
      omega
    refine ⟨fun σ2 H2 => ∃ (m : List Nat) (s5 : Option V), σ2 = [some (.ref p), some (nv hd), some (.ref sl), some (.ref th), some (.ref rw_), s5, some (nv (at_ + 1))] ∧ Ex H1 H2 ∧ H2 rw_ = some (.lst (nvs (hd :: m))) ∧ (hd :: m).Nodup ∧ (∀ x ∈ hd :: m, Lp N.ds hd ss x) ∧ (∀ o ∈ ss, o ∈ hd :: m) ∧ at_ + 1 ≤ (hd :: m).length ∧
      (∀ j b, 1 ≤ j → j < at_ + 1 → (hd :: m)[j]? = some b → ∀ a, (a, b) ∈ N.ds → Rch N.ds (-1) a → a ∈ hd :: m), fun σ2 H2 hN => ?_, ?_⟩
    · obtain ⟨m, s5, h1, h2, h3, h4, h5, h6, h7, h8⟩ := hN
      exact ⟨N.n - (at_ + 1), by omega, m, at_ + 1, s5, h1, h2, h3, h4, h5, h6, by omega, h7, h8, rfl⟩
    refine q_forNLn (ev_led (N := N) (r := c) (ev_var rfl) (ev_op (ev_var rfl) (ev_var rfl) (rv_ixL (sq_of (e5 _ _ hrw3)) (atI_nat (hix hc)))) (hn.mono ((e1.trans eX).trans e5)) hcn)
      (fun q i σ' H' => ∃ (m : List Nat) (s5 : Option V), σ' = [some (.ref p), some (nv hd), some (.ref sl), some (.ref th), some (.ref rw_), s5, some (nv at_)] ∧ Ex H1 H' ∧ q ≠ rw_ ∧ H' q = some (.lst (nvs (N.behind c))) ∧ H' rw_ = some (.lst (nvs (hd :: m))) ∧ (hd :: m).Nodup ∧ (∀ x ∈ hd :: m, Lp N.ds hd ss x) ∧ (∀ o ∈ ss, o ∈ hd :: m) ∧ at_ < (hd :: m).length ∧ (hd :: m)[at_]? = some c ∧
        (∀ j b, 1 ≤ j → j < at_ → (hd :: m)[j]? = some b → ∀ a, (a, b) ∈ N.ds → Rch N.ds (-1) a → a ∈ hd :: m) ∧ ∀ j b, j < i → (N.behind c)[j]? = some b → Rch N.ds (-1) b → b ∈ hd :: m)
      (fun q H6 hq e6 hq6 => ⟨m, s5, rfl, (eX.trans e5).trans e6, (fun z => by rw [z, e5 _ _ hrw3] at hq; cases hq), hq6, e6 _ _ (e5 _ _ hrw3), nd, hall, hss2, hlt, hc, hcl, fun j b hj => absurd hj (Nat.not_lt_zero _)⟩)
      (fun q i σ' H' _ hP => by
        obtain ⟨m, s5, _, _, _, hq, _⟩ := hP
        exact sq_of hq) (fun q i x σ' H' hx hP => ?_) (fun q σ' H' hP => ?_)
    · clear hcl hlt hc hss2 hall nd hrw3 eX
      obtain ⟨m, s5, rfl, eX, nqr, hq, hrw3, nd, hall, hss2, hlt, hc, hcl, hdone⟩ := hP
      obtain ⟨b, hb, rfl⟩ := nvs_at hx
      have hbc : (b, c) ∈ N.ds := of_decide_eq_true (List.mem_filter.mp (List.mem_of_getElem? hb)).2
      have hlen := small nd hall
      have hkl : (nvs (hd :: m)).length = (hd :: m).length := List.length_map ..
      have step : ∀ m2 : List Nat, (∀ x ∈ hd :: m, x ∈ hd :: m2) → (Rch N.ds (-1) b → b ∈ hd :: m2) → ∀ j b, j < i + 1 → (N.behind c)[j]? = some b → Rch N.ds (-1) b → b ∈ hd :: m2 := fun m2 h1 h2 j o' hj ho' hr => by
        by_cases e : j = i
        · subst e
          rw [hb] at ho'
          have := Option.some.inj ho'
          subst this
          exact h2 hr
        · exact h1 _ (hdone j o' (by omega) ho' hr)
      refine s_when (b := rch N.ds (-1) b && !decide (b ∈ hd :: m)) (et_and (et_is (et_test (ev_op (ev_var rfl) (ev_var rfl) (rv_isL (sq_of (eX _ _ hth1)) rfl (flat_nvs _)))) (by rw [in_nvs, Bool.eq_iff_iff, decide_eq_true_iff, rch_iff]; exact mem_there hn.ok)) fun _ => et_is (et_test (ev_op (ev_var rfl) (ev_var rfl) (rv_niL (sq_of hrw3) rfl (flat_nvs _)))) (by rw [in_nvs])) (fun hb2 H6 e6 => ?_) (fun hb2 H6 e6 => ?_)
      · have hno : Rch N.ds (-1) b ∧ b ∉ hd :: m := by
          rw [Bool.and_eq_true, rch_iff, Bool.not_eq_true', decide_eq_false_iff_not] at hb2
          exact hb2
        refine s_app (xs := nvs (hd :: m)) (e6 _ _ hrw3) (ev_var rfl) (ev_var rfl) (by omega) fun H7 e7 => ⟨m ++ [b], _, rfl, exU ((eX.trans e6).trans e7) hrw, nqr, by rw [upd_ne nqr]; exact e7 _ _ (e6 _ _ hq), ?_, ?_, ?_, ?_, ?_, ?_, ?_, step (m ++ [b]) (fun x hx => ?_) fun _ => ?_⟩
        · rw [upd_same]
          unfold nvs
          rw [← List.cons_append, List.map_append (l₂ := [b])]
          rfl
        · rw [← List.cons_append]
          exact List.nodup_append.mpr ⟨nd, by simp, fun a ha b' hb e => hno.2 (by rw [List.mem_singleton.mp hb] at e; exact e ▸ ha)⟩
        · intro x hx
          rw [← List.cons_append] at hx
          rcases List.mem_append.mp hx with hx | hx
          · exact hall x hx
          · rw [List.mem_singleton.mp hx]
            exact .step (hall c (List.mem_of_getElem? hc)) hch hbc hno.1
        · intro o ho
          rw [← List.cons_append]
          exact List.mem_append_left _ (hss2 o ho)
        · rw [← List.cons_append, List.length_append]
          omega
        · rw [← List.cons_append, List.getElem?_append_left hlt]
          exact hc
        · intro j b' h1 h2 h3 a h4 h5
          rw [← List.cons_append, List.getElem?_append_left (by omega)] at h3
          rw [← List.cons_append]
          exact List.mem_append_left _ (hcl j b' h1 h2 h3 a h4 h5)
        · rw [← List.cons_append]
          exact List.mem_append_left _ hx
        · rw [← List.cons_append]
          exact List.mem_append_right _ List.mem_cons_self
      · refine ⟨m, _, rfl, eX.trans e6, nqr, e6 _ _ hq, e6 _ _ hrw3, nd, hall, hss2, hlt, hc, hcl, step m (fun x hx => hx) fun hr => ?_⟩
        rw [rch_iff.mpr hr, Bool.true_and] at hb2
        exact nd_no hb2
    · clear hcl hlt hc hss2 hall nd hrw3 eX
      obtain ⟨m, s5, rfl, eX, nqr, hq, hrw3, nd, hall, hss2, hlt, hc, hcl, hdone⟩ := hP
      refine s_asg (v := nv (at_ + 1)) (ev_op (ev_var rfl) ev_c rv_I0) fun H6 e6 => ⟨m, s5, rfl, eX.trans e6, e6 _ _ hrw3, nd, hall, hss2, hlt, fun j b h1 h2 h3 a h4 h5 => ?_⟩
      by_cases e : j = at_
      · subst e
        rw [hc] at h3
        have := Option.some.inj h3
        subst this
        have hbm : a ∈ N.behind c := List.mem_filter.mpr ⟨List.mem_range.mpr (hn.ok.ends _ h4).1, decide_eq_true h4⟩
        obtain ⟨k2, hk2, e2⟩ := List.mem_iff_getElem.mp hbm
        exact hdone k2 a (by rw [List.length_map]; exact hk2) (by rw [List.getElem?_eq_getElem hk2, e2]) h5
      · exact hcl j b h1 (by omega) h3 a h4 h5
  · have hge : ¬ at_ < (hd :: m).length := of_decide_eq_false hb
    refine s_retL (el_sortV (n := N.n) (f := lp N.ds hd ss) (l := hd :: m) (ev_var rfl) (e5 _ _ hrw3) nd fun r => ?_) fun q H6 hq e6 hq6 => k q H6 (fresh_back ((e1.trans eX).trans e5) hq) (((e1.trans eX).trans e5).trans e6) hq6
    rw [lp_iff]
    refine ⟨fun h => ⟨lts (hall r h), hall r h⟩, fun h => ?_⟩
    have hl := h.2
    clear h
    induction hl with
    | head => exact List.mem_cons_self
    | start h => exact hss2 _ h
    | @step a b h1 h2 h3 h4 ih =>
      obtain ⟨j, hj, e⟩ := List.mem_iff_getElem.mp ih
      have hj0 : 1 ≤ j := by
        cases j with
        | zero => exact (h2 e.symm).elim
        | succ j => omega
      exact hcl j b hj0 (by omega) (by rw [List.getElem?_eq_getElem hj, e]) a h3 h4
theorem ep_lcF {α : Type} {F : Hp → α → V → Hp → Prop} {wi : TI} {l : List α} {R : α → V → Prop} {ws : List Nat} {j : Nat} {t : TT} (pr : α → Bool) (hi : EvI wi σ H l R) (hz : l.length ≤ 40000) (hw : ∀ x, wipe ((wipe σ ws).set j (some x)) ws = wipe σ ws)
    (ht : ∀ a x H1, a ∈ l → R a x → Ex H H1 → EvT t ((wipe σ ws).set j (some x)) H1 (pr a)) (m1 : ∀ B a v H1 H2, F B a v H1 → (∀ b o, B b = none → H1 b = some o → H2 b = some o) → F B a v H2) (m3 : ∀ B B0 a v H1, (∀ b, B b = none → B0 b = none) → F B a v H1 → F B0 a v H1)
    (he : ∀ a x H1, a ∈ l → R a x → Ex H H1 → pr a = true → EvP te ((wipe σ ws).set j (some x)) H1 (fun B v H2 => F B a v H2)) :
    EvP (tLc wi (gName j) t te ws) σ H (fun H1 v H2 => ∃ (d : Addr) (xs : List V), v = .ref d ∧ H1 d = none ∧ H2 d = some (.lst xs) ∧ Paired (fun x a => F (upd H1 d (.lst [])) a x H2) xs (l.filter pr)) := fun H0 e Q q => hi H0 e _ fun J G H1 e1 hG w Dl hD =>
  lc_it w (fun i H' => Ex H1 H' ∧ ∃ xs : List V, H' Dl = some (.lst xs) ∧ xs.length ≤ i ∧ Paired (fun x a => F (upd H1 Dl (.lst [])) a x H') xs ((l.take i).filter pr)) ⟨Ex.new hD, [], upd_same, Nat.le_refl _, .nil⟩ (fun i H' _ p => hG H' p.1) (fun i x Ha Hb hil p y => by
    obtain ⟨rfl, a, hl, hr⟩ := y
    obtain ⟨p1, xs, p2, p3, p4⟩ := p
    have hm : a ∈ l := List.mem_of_getElem? hl
    refine ⟨hw x, ht a x Hb hm hr ((e.trans e1).trans p1) Hb (Ex.refl _) _ fun H3 e3 => ?_⟩
    have hft := filter_take pr hl
    have nB : ∀ b, (upd H1 Dl (.lst [])) b = none → b ≠ Dl := fun b hb z => by
      rw [z, upd_same] at hb
      cases hb
    cases hp : pr a with
    | true =>
      refine iteT (he a x H3 hm hr (((e.trans e1).trans p1).trans e3) hp H3 (Ex.refl _) _ fun v H4 e4 hv => ⟨_, e4 _ _ (e3 _ _ p2), ?_, ?_, xs ++ [v], ?_, ?_, ?_⟩)
      · exact sz_lt (by omega)
      · exact exU ((p1.trans e3).trans e4) hD
      · rw [upd_same]
      · rw [List.length_append, List.length_singleton]
        omega
      · rw [hft, hp, if_pos rfl]
        refine Paired.snoc ?_ (Paired.mono (fun x b hb => m1 _ _ _ _ _ hb fun b o hb2 ho => ?_) p4)
        · refine m1 _ _ _ _ _ (m3 H3 _ _ _ _ (fun b hb => ?_) hv) fun b o hb2 ho => by rw [upd_ne (nB b hb2)]; exact ho
          have hbD : b ≠ Dl := fun z => by
            rw [z, e3 _ _ p2] at hb
            cases hb
          rw [upd_ne hbD]
          exact fresh_back (p1.trans e3) hb
        · rw [upd_ne (nB b hb2)]
          exact e4 _ _ (e3 _ _ ho)
    | false =>
      refine iteF ⟨p1.trans e3, xs, e3 _ _ p2, by omega, ?_⟩
      rw [hft, hp, if_neg (by decide)]
      exact Paired.mono (fun x b hb => m1 _ _ _ _ _ hb fun b o _ ho => e3 _ _ ho) p4) (fun H' p => by
        obtain ⟨p1, xs, p2, p3, p4⟩ := p
        rw [List.take_length] at p4
        refine q _ H' (e1.trans p1) ⟨Dl, xs, rfl, fresh_back e1 hD, p2, Paired.mono (fun x a hx => m3 _ _ _ _ _ (fun b hb => ?_) hx) p4⟩
        by_cases z : b = Dl
        · rw [z, upd_same] at hb
          cases hb
        · rw [upd_ne z] at hb ⊢
          exact fresh_back e1 hb)
/-- a dict of lists -/
def dL (hs : List Nat) (ad : Nat → Addr) : List (Nat × V) := hs.map fun h => (h, V.ref (ad h))
theorem ks_dL {hs : List Nat} {ad : Nat → Addr} : ks (dL hs ad) = hs := by
  unfold ks dL
  rw [List.map_map]
  exact List.map_id hs
theorem dL_get {hs : List Nat} {ad : Nat → Addr} {h : Nat} (nd : hs.Nodup) (hm : h ∈ hs) : valV (dK (dL hs ad)) (.inl (h : Int)) = some (.ref (ad h)) := by
  obtain ⟨j, hj, e⟩ := List.mem_iff_getElem.mp hm
  refine dK_get (i := j) (by rw [ks_dL]; exact nd) ?_
  unfold dL
  rw [List.getElem?_map, List.getElem?_eq_getElem hj, e]
  rfl
theorem sts_step {bs : List Nat} {i k h : Nat} (hk : bs[i]? = some k) : N.sts (bs.take (i + 1)) h = if (N.dr k).2 = h then N.sts (bs.take i) h ++ [(N.dr k).1] else N.sts (bs.take i) h := by
  unfold Nt.sts
  rw [filter_take _ hk]
  by_cases e : (N.dr k).2 = h
  · rw [if_pos (decide_eq_true e), if_pos e, List.map_append]
    rfl
  · rw [if_neg (by rw [decide_eq_false e]; decide), if_neg e]
theorem pure_loops (h : sp_loops g vs H Q E) : t_loops g { nx := fun _ H' => Q .non H', rt := Q } (start N_loops vs) H := by
  obtain ⟨p, N, rfl, hn, k⟩ := h
  have hm := hn.ok.most
  have hf := hn.ok.few
  refine a_asgP (ev_doors (N := N) (ev_var rfl) hn) fun v H1 e1 hv => ?_
  obtain ⟨dd, rfl, hd0, hdd⟩ := hv
  refine q_raw fun d hd => ?_
  obtain ⟨H2, hH2⟩ : ∃ H2, H2 = upd H1 d (.dK []) := ⟨_, rfl⟩
  rw [← hH2]
  have e2 : Ex H1 H2 := by rw [hH2]; exact Ex.new hd
  have hd2 : H2 d = some (.dK (dK (dL [] fun _ => 0))) := by rw [hH2, upd_same]; rfl
  clear hH2
  have hbl : N.back.length ≤ N.ds.length := filter_len _ _
  have hbm : ∀ b ∈ N.back, b < N.ds.length := fun b hb => List.mem_range.mp (List.mem_filter.mp hb).1
  have lb : (nvs N.back).length = N.back.length := List.length_map ..
  refine q_forNLn (el_back (N := N) (ev_var rfl) (hn.mono (e1.trans e2)))
    (fun q i σ' H' => ∃ (hs : List Nat) (ad : Nat → Addr) (s3 : Option V), σ' = [some (.ref p), some (.ref dd), some (.ref d), s3, none] ∧ Ex H1 H' ∧ q ≠ d ∧ H' q = some (.lst (nvs N.back)) ∧ H' d = some (.dK (dK (dL hs ad))) ∧ hs.Nodup ∧ (∀ h, h ∈ hs ↔ N.sts (N.back.take i) h ≠ []) ∧ (∀ h ∈ hs, h < N.n) ∧
      (∀ h ∈ hs, H1 (ad h) = none ∧ ad h ≠ d ∧ ad h ≠ q ∧ H' (ad h) = some (.lst (nvs (N.sts (N.back.take i) h)))) ∧ ∀ h h', h ∈ hs → h' ∈ hs → ad h = ad h' → h = h')
    (fun q H3 hq e3 hq3 => ⟨[], fun _ => 0, _, rfl, e2.trans e3, (fun z => by rw [z, hd2] at hq; cases hq), hq3, e3 _ _ hd2, by simp, (fun h => ⟨(fun h => by cases h), fun h => (h rfl).elim⟩), (fun h hh => by cases hh), (fun h hh => by cases hh), fun h h' hh => by cases hh⟩)
    (fun q i σ' H' _ hP => by
      obtain ⟨hs, ad, s3, _, _, _, hq, _⟩ := hP
      exact sq_of hq) (fun q i x σ' H' hx hP => ?_) (fun q σ' H' hP => ?_)
  · obtain ⟨hs, ad, s3, rfl, eX, nqd, hq, hdm, nd, hmem, hhn, hlist, hinj⟩ := hP
    obtain ⟨b, hb, rfl⟩ := nvs_at hx
    have hbn := hbm b (List.mem_of_getElem? hb)
    have hil : i < N.back.length := (List.getElem?_eq_some_iff.mp hb).1
    have hd12 := fun (H'' : Hp) (e : Ex H1 H'') => ev_door (K := g.K) (N := N) (k := b) (σ := [some (V.ref p), some (V.ref dd), some (V.ref d), some (nv b), none]) (td := tVar 1) (ti := tVar 3) (ev_var rfl) (ev_var rfl) (hdd.mono e) hbn
    obtain ⟨hh, hhh⟩ : ∃ hh, hh = (N.dr b).2 := ⟨_, rfl⟩
    have hhlt : hh < N.n := by rw [hhh]; exact (hn.ok.ends _ (dr_mem hbn)).2
    have hstl : ∀ h, (N.sts (N.back.take i) h).length ≤ i := fun h => by
      unfold Nt.sts
      rw [List.length_map]
      have := List.length_filter_le (fun k => decide ((N.dr k).2 = h)) (N.back.take i)
      rw [List.length_take] at this
      omega
    have hsl : hs.length ≤ N.n := by
      have h1 := nd.length_le_of_subset (l₂ := List.range N.n) fun x hx => List.mem_range.mpr (hhn x hx)
      rw [List.length_range] at h1
      exact h1
    refine ⟨_, rfl, d, rfl, .inl ⟨_, .inl hdm⟩, (hd12 H' eX).2 H' (Ex.refl _) _ fun H3 e3 => ⟨by show 0 ≤ sizeLine; decide, fun z hz => ?_⟩⟩
    obtain ⟨H4, hH4⟩ : ∃ H4, H4 = upd H3 z (.lst []) := ⟨_, rfl⟩
    rw [← hH4]
    have e34 : Ex H3 H4 := by rw [hH4]; exact Ex.new hz
    have hz4 : H4 z = some (.lst (nvs [])) := by rw [hH4, upd_same]; rfl
    clear hH4
    have e4 := e3.trans e34
    have hdm4 := e4 _ _ hdm
    have nzd : z ≠ d := fun y => by
      rw [y, e3 _ _ hdm] at hz
      cases hz
    have nzq : z ≠ q := fun y => by
      rw [y, e3 _ _ hq] at hz
      cases hz
    refine ⟨dK (dL hs ad), .inl (hh : Int), hdm4, by rw [hhh]; rfl, by unfold dK dL; rw [List.length_map, List.length_map]; exact sz_lt (by omega), fun v hv => ?_, fun hv => ?_⟩
    · -- a head that was met
      have hmh : hh ∈ hs := Classical.byContradiction fun hno => by
        rw [dK_none (by rw [ks_dL]; exact hno)] at hv
        cases hv
      rw [dL_get nd hmh] at hv
      have := Option.some.inj hv
      subst this
      obtain ⟨a1, a2, a3, a4⟩ := hlist hh hmh
      refine ⟨.inl ⟨rfl, _, sq_of (e4 _ _ a4)⟩, (hd12 H4 (eX.trans e4)).1 H4 (Ex.refl _) _ fun H5 e5 => ⟨ad hh, nvs (N.sts (N.back.take i) hh), nv (N.dr b).1, rfl, rfl, e5 _ _ (e4 _ _ a4), ?_, ?_⟩⟩
      · rw [List.length_map]
        have := hstl hh
        exact sz_lt (by omega)
      · have e45 := e4.trans e5
        refine ⟨hs, ad, _, rfl, exU (eX.trans e45) a1, nqd, by rw [upd_ne (Ne.symm a3)]; exact e45 _ _ hq, by rw [upd_ne (Ne.symm a2)]; exact e45 _ _ hdm, nd, fun h => ?_, hhn, fun h hm' => ?_, hinj⟩
        · rw [hmem h, sts_step hb, ← hhh]
          by_cases e : hh = h
          · rw [if_pos e]
            exact ⟨fun _ z => by simp at z, fun _ => (hmem h).mp (e ▸ hmh)⟩
          · rw [if_neg e]
        · obtain ⟨b1, b2, b3, b4⟩ := hlist h hm'
          refine ⟨b1, b2, b3, ?_⟩
          rw [sts_step hb, ← hhh]
          by_cases e : hh = h
          · subst e
            rw [if_pos rfl, upd_same]
            unfold nvs
            rw [List.map_append]
            rfl
          · rw [if_neg e, upd_ne (fun z => e (hinj hh h hmh hm' z.symm))]
            exact e45 _ _ b4
    · -- a new head
      have hno : hh ∉ hs := fun hm' => by
        rw [dL_get nd hm'] at hv
        cases hv
      have hz1 : H1 z = none := fresh_back (eX.trans e3) hz
      have hnz : ∀ h ∈ hs, ad h ≠ z := fun h hm' y => by
        have := e3 _ _ (hlist h hm').2.2.2
        rw [y, hz] at this
        cases this
      have hempty : N.sts (N.back.take i) hh = [] := Classical.byContradiction fun z => hno ((hmem hh).mpr z)
      refine ⟨.inl ⟨rfl, _, sq_of (xs := nvs []) (by rw [upd_ne nzd]; exact hz4)⟩, (hd12 _ (exU (eX.trans e4) hd)).1 _ (Ex.refl _) _ fun H5 e5 => ⟨z, nvs [], nv (N.dr b).1, rfl, rfl, e5 _ _ (by rw [upd_ne nzd]; exact hz4), by show 0 < sizeLine; decide, ?_⟩⟩
      obtain ⟨ad2, hA1, hA2⟩ : ∃ ad2 : Nat → Addr, ad2 hh = z ∧ ∀ x, x ≠ hh → ad2 x = ad x := ⟨fun x => if x = hh then z else ad x, if_pos rfl, fun x hx => if_neg hx⟩
      have ed : putK (dK (dL hs ad)) (.inl (hh : Int)) (V.ref z) = dK (dL (hs ++ [hh]) ad2) := by
        rw [dK_put (by rw [ks_dL]; exact hno)]
        congr 1
        unfold dL
        rw [List.map_append]
        congr 1
        · exact List.map_congr_left fun x hx => by rw [hA2 x fun y => hno (y ▸ hx)]
        · simp [hA1]
      rw [ed] at e5
      refine ⟨hs ++ [hh], ad2, _, rfl, exU ((exU (eX.trans e4) hd).trans e5) hz1, nqd, ?_, ?_, ?_, fun h => ?_, ?_, fun h hm' => ?_, ?_⟩
      · rw [upd_ne (Ne.symm nzq)]
        refine e5 _ _ ?_
        rw [upd_ne nqd]
        exact e4 _ _ hq
      · rw [upd_ne (Ne.symm nzd)]
        exact e5 _ _ upd_same
      · exact List.nodup_append.mpr ⟨nd, by simp, fun a ha b hb e => hno (by rw [List.mem_singleton.mp hb] at e; exact e ▸ ha)⟩
      · rw [sts_step hb, ← hhh, List.mem_append, List.mem_singleton, hmem h]
        by_cases e : hh = h
        · rw [if_pos e]
          exact ⟨fun _ z => by simp at z, fun _ => .inr e.symm⟩
        · rw [if_neg e]
          exact ⟨fun h => h.elim id fun y => (e y.symm).elim, .inl⟩
      · intro x hx
        rcases List.mem_append.mp hx with hx | hx
        · exact hhn x hx
        · rw [List.mem_singleton.mp hx]
          exact hhlt
      · by_cases e : h = hh
        · subst e
          rw [hA1, sts_step hb, ← hhh, if_pos rfl, hempty]
          exact ⟨hz1, nzd, nzq, by rw [upd_same]; rfl⟩
        · have hm2 : h ∈ hs := by
            rcases List.mem_append.mp hm' with h1 | h1
            · exact h1
            · exact (e (List.mem_singleton.mp h1)).elim
          obtain ⟨b1, b2, b3, b4⟩ := hlist h hm2
          rw [hA2 h e, sts_step hb, ← hhh, if_neg (Ne.symm e)]
          refine ⟨b1, b2, b3, ?_⟩
          rw [upd_ne (hnz h hm2)]
          refine e5 _ _ ?_
          rw [upd_ne b2]
          exact e4 _ _ b4
      · intro h h' m1 m2 e
        have mm : ∀ {x}, x ∈ hs ++ [hh] → x ≠ hh → x ∈ hs := fun {x} hx hne => by
          rcases List.mem_append.mp hx with h1 | h1
          · exact h1
          · exact (hne (List.mem_singleton.mp h1)).elim
        by_cases e1 : h = hh
        · by_cases e2 : h' = hh
          · rw [e1, e2]
          · rw [e1, hA1, hA2 h' e2] at e
            exact (hnz h' (mm m2 e2) e.symm).elim
        · by_cases e2 : h' = hh
          · rw [e2, hA1, hA2 h e1] at e
            exact (hnz h (mm m1 e1) e).elim
          · rw [hA2 h e1, hA2 h' e2] at e
            exact hinj h h' (mm m1 e1) (mm m2 e2) e
  · obtain ⟨hs, ad, s3, rfl, eX, nqd, hq, hdm, nd, hmem, hhn, hlist, hinj⟩ := hP
    rw [lb, List.take_length] at hmem hlist
    have hsort : EvL (tCB (rSortedI g.K) (tCons (tCB rListD (tCons (tVar 2) tNil)) tNil)) [some (V.ref p), some (V.ref dd), some (V.ref d), s3, none] H' (nvs N.heads) := by
      refine el_sort (n := N.n) (l := hs) (p := fun h => !decide (N.sts N.back h = [])) ?_ nd fun r => ?_
      · have := el_dlist (td := tVar 2) (σ := [some (V.ref p), some (V.ref dd), some (V.ref d), s3, none]) (H := H') (ev_var rfl) hdm
        rw [ks_dL] at this
        exact this
      · rw [hmem r]
        simp only [Bool.not_eq_true', decide_eq_false_iff_not]
        exact ⟨fun h => ⟨hhn r ((hmem r).mpr h), h⟩, fun h => h.2⟩
    have hhl : N.heads.length ≤ N.n := filter_len _ _
    refine ep_lcF (l := N.heads) (R := fun (k : Nat) x => x = nv k) (F := fun B h v H2 => ∃ t l, v = V.ref t ∧ B t = none ∧ B l = none ∧ H2 t = some (.tup [nv h, .ref l]) ∧ H2 l = some (.lst (nvs (N.lof h)))) (fun _ => true) (ei_listN hsort (paired_map (f := nv) (fun _ => rfl) _)) (by omega) (fun _ => rfl) (fun _ _ _ _ _ _ => et_yes)
      (fun B h v A1 A2 hF hk => by
        obtain ⟨t, l, h1, h2, h3, h4, h5⟩ := hF
        exact ⟨t, l, h1, h2, h3, hk _ _ h2 h4, hk _ _ h3 h5⟩) (fun B B0 h v A1 hk hF => by
        obtain ⟨t, l, h1, h2, h3, h4, h5⟩ := hF
        exact ⟨t, l, h1, hk _ h2, hk _ h3, h4, h5⟩) (fun h x H3 hh hx e3 _ => ?_) H' (Ex.refl _) _ fun v H3 e3 hv => ?_
    · subst hx
      have hm2 : h ∈ hs := (hmem h).mpr (by
        have := (List.mem_filter.mp hh).2
        simpa using this)
      obtain ⟨b1, b2, b3, b4⟩ := hlist h hm2
      have hst : ∀ x ∈ N.sts N.back h, x < N.n := fun x hx => by
        unfold Nt.sts at hx
        obtain ⟨c, hc, rfl⟩ := List.mem_map.mp hx
        exact (hn.ok.ends _ (dr_mem (hbm c (List.mem_filter.mp hc).1))).1
      intro H4 e4 Q4 k4
      have e34 := e3.trans e4
      refine ⟨nv h, rfl, ⟨_, rfl, _, rfl, ⟨_, rfl, _, rfl, ⟨d, .ref (ad h), rfl, ?_, ?_⟩⟩⟩⟩
      · have := DGet.k (k := .inl (h : Int)) (e34 _ _ hdm)
        rw [dL_get nd hm2] at this
        exact this
      · refine ⟨p, ad h, N, h, N.sts N.back h, rfl, hn.mono (((e1.trans eX).trans e3).trans e4), e34 _ _ b4, hhn h hm2, hst, fun l H5 hl e5 hl5 => ⟨by show 2 ≤ sizeLine; decide, fun t ht => k4 _ _ (e5.trans (Ex.new ht)) ⟨t, l, rfl, fresh_back e5 ht, hl, upd_same, ?_⟩⟩⟩
        exact Ex.new ht _ _ hl5
    · obtain ⟨rl, xs, rfl, hrl, hrl3, hpr⟩ := hv
      rw [List.filter_eq_self.mpr (fun _ _ => rfl)] at hpr
      have e1X := e1.trans eX
      have hpr2 : ∃ ts : List Addr, xs = ts.map V.ref ∧ Paired (fun t h => ∃ l, H t = none ∧ H l = none ∧ l ≠ rl ∧ H3 t = some (.tup [nv h, .ref l]) ∧ H3 l = some (.lst (nvs (N.lof h)))) ts N.heads := by
        have key : ∀ {xs : List V} {hs : List Nat}, Paired (fun x h => ∃ t l, x = V.ref t ∧ (upd H' rl (.lst [])) t = none ∧ (upd H' rl (.lst [])) l = none ∧ H3 t = some (.tup [nv h, .ref l]) ∧ H3 l = some (.lst (nvs (N.lof h)))) xs hs → ∃ ts : List Addr, xs = ts.map V.ref ∧ Paired (fun t h => ∃ l, H t = none ∧ H l = none ∧ l ≠ rl ∧ H3 t = some (.tup [nv h, .ref l]) ∧ H3 l = some (.lst (nvs (N.lof h)))) ts hs := by
          intro xs hs h
          induction h with
          | nil => exact ⟨[], rfl, .nil⟩
          | cons r _ ih =>
            obtain ⟨t, l, rfl, h1, h2, h3, h4⟩ := r
            obtain ⟨ts, rfl, h5⟩ := ih
            have nt : t ≠ rl := fun z => by rw [z, upd_same] at h1; cases h1
            have nl : l ≠ rl := fun z => by rw [z, upd_same] at h2; cases h2
            rw [upd_ne nt] at h1
            rw [upd_ne nl] at h2
            exact ⟨t :: ts, rfl, .cons ⟨l, fresh_back e1X h1, fresh_back e1X h2, nl, h3, h4⟩ h5⟩
        exact key hpr
      obtain ⟨ts, rfl, hts⟩ := hpr2
      exact k rl H3 (e1X.trans e3) ⟨fresh_back e1X hrl, ts, hrl3, hts⟩
end
end Mp

/-! Rings: the plain law. -/
namespace Mp
/-- a ring: a path without a room twice, and a door from its end to its start -/
def Ring (ds : DL) (c : List Nat) : Prop := ∃ a b, Pth ds (-1) a c b ∧ (b, a) ∈ ds ∧ c.Nodup
/-- the doors between reached rooms that lead into no guard of where they lead from -/
noncomputable def wld (ds : DL) : DL := ds.filter fun d => rch ds (-1) d.1 && !dm ds d.2 d.1
def tameb (c : List Nat) (f : Nat → Nat → Bool) : Bool := c.any fun h => c.all fun x => f h x
section
variable {ds es : DL} {s : Int} {a b c h p r x y k : Nat} {w u v C : List Nat}
theorem wld_mem : (a, b) ∈ wld ds ↔ (a, b) ∈ ds ∧ Rch ds (-1) a ∧ ¬ Dm ds b a := by
  unfold wld
  rw [List.mem_filter, Bool.and_eq_true, rch_iff, Bool.not_eq_true', dm_no]
theorem Pth.sub (hs : ∀ d ∈ ds, d ∈ es) (h : Pth ds s a w b) : Pth es s a w b := by
  induction h with
  | one h => exact .one h
  | cons h1 h2 _ ih => exact .cons (hs _ h1) h2 ih
theorem neg_ne {a : Nat} : (a : Int) ≠ -1 := by omega
theorem Pth.dropTo2 (h : Pth ds s a w b) (hk : w[k]? = some x) : Pth ds s x (w.drop k) b := by
  induction h generalizing k with
  | @one a h =>
    cases k with
    | zero =>
      have : a = x := by simpa using hk
      subst this
      exact .one h
    | succ k => simp at hk
  | @cons a c b w h1 h2 h3 ih =>
    cases k with
    | zero =>
      have : a = x := by simpa using hk
      subst this
      exact .cons h1 h2 h3
    | succ k => exact ih (by simpa using hk)
/-- one comes from a to b, by a door at least -/
def Rl (ds : DL) (a b : Nat) : Prop := ∃ c w, (a, c) ∈ ds ∧ Pth ds (-1) c w b
theorem Rl.trans (h1 : Rl ds a b) (h2 : Rl ds b c) : Rl ds a c := by
  obtain ⟨x, w, q1, q2⟩ := h1
  obtain ⟨y, v, p1, p2⟩ := h2
  exact ⟨x, _, q1, q2.append (.cons p1 neg_ne p2)⟩
theorem Rl.ring (h : Rl ds a a) : ∃ C, Ring ds C := by
  obtain ⟨c, w, h1, h2⟩ := h
  obtain ⟨u, h3, h4, _⟩ := Pth.short (Nat.le_refl _) h2
  exact ⟨u, c, a, h3, h1, h4⟩
theorem Rl.door (h : (a, b) ∈ ds) : Rl ds a b := ⟨b, [b], h, .one neg_ne⟩
/-- the least of a list, by a relation that makes no ring -/
theorem least {R : Nat → Nat → Prop} (irr : ∀ x, ¬ R x x) (tr : ∀ x y z, R x y → R y z → R x z) : ∀ l : List Nat, l ≠ [] → ∃ m ∈ l, ∀ x ∈ l, ¬ R x m
  | [], h => (h rfl).elim
  | [x], _ => ⟨x, List.mem_cons_self, fun y hy => by rw [List.mem_singleton.mp hy]; exact irr x⟩
  | x :: y :: l, _ => by
    obtain ⟨m, hm, h⟩ := least irr tr (y :: l) (by simp)
    by_cases e : R x m
    · refine ⟨x, List.mem_cons_self, fun z hz hr => ?_⟩
      rcases List.mem_cons.mp hz with rfl | hz
      · exact irr _ hr
      · exact h z hz (tr _ _ _ hr e)
    · refine ⟨m, List.mem_cons_of_mem _ hm, fun z hz hr => ?_⟩
      rcases List.mem_cons.mp hz with rfl | hz
      · exact e hr
      · exact h z hz hr
theorem closed_pred (hU : C ≠ []) (hc : ∀ x ∈ C, ∃ y ∈ C, (y, x) ∈ ds) : ∃ D, Ring ds D := by
  refine Classical.byContradiction fun hno => ?_
  obtain ⟨m, hm, h⟩ := least (R := Rl ds) (fun x hx => hno hx.ring) (fun x y z => Rl.trans) C hU
  obtain ⟨y, hy, h1⟩ := hc m hm
  exact h y hy (Rl.door h1)
theorem Ring.pred (hC : Ring ds C) (hh : h ∈ C) : ∃ p ∈ C, (p, h) ∈ ds := by
  obtain ⟨a, b, hp, hd, nd⟩ := hC
  obtain ⟨u, v, rfl, _, h1, _⟩ := hp.split hh
  by_cases e : a = h
  · subst e
    exact ⟨b, hp.mem_last, hd⟩
  · obtain ⟨u2, p, e2, h2, h3⟩ := h1.pred e
    have : u = u2 := (List.append_inj' e2 rfl).1
    subst this
    exact ⟨p, List.mem_append_left _ h2.mem_last, h3⟩
theorem Ring.succ (hC : Ring ds C) (hh : h ∈ C) : ∃ p ∈ C, (h, p) ∈ ds := by
  obtain ⟨a, b, hp, hd, nd⟩ := hC
  obtain ⟨u, v, rfl, _, _, h2⟩ := hp.split hh
  obtain ⟨w, hw⟩ := hp.fst
  cases h2 with
  | one _ => exact ⟨a, by rw [hw]; exact List.mem_cons_self, hd⟩
  | cons h3 h4 h5 =>
    obtain ⟨v', rfl⟩ := h5.fst
    exact ⟨_, List.mem_append_right _ (List.mem_cons_of_mem _ List.mem_cons_self), h3⟩
/-- a ring told from one of its rooms on -/
theorem Ring.rot (hC : Ring ds C) (hh : h ∈ C) : ∃ w p, Pth ds (-1) h (h :: w) p ∧ (p, h) ∈ ds ∧ (h :: w).Nodup ∧ ∀ x, x ∈ h :: w ↔ x ∈ C := by
  obtain ⟨a, b, hp, hd, nd⟩ := hC
  obtain ⟨u, v, rfl, _, h1, h2⟩ := hp.split hh
  by_cases e : a = h
  · subst e
    cases u with
    | nil => exact ⟨v, b, h2, hd, nd, fun x => Iff.rfl⟩
    | cons y u =>
      obtain ⟨w, hw⟩ := hp.fst
      have e1 : y = a := (List.cons.inj hw).1
      subst e1
      exact ((List.nodup_append.mp nd).2.2 _ List.mem_cons_self _ List.mem_cons_self rfl).elim
  · obtain ⟨u2, p, e2, h3, h4⟩ := h1.pred e
    have : u = u2 := (List.append_inj' e2 rfl).1
    subst this
    have nd2 : (h :: v ++ u).Nodup := by
      have q := List.nodup_append.mp nd
      exact List.nodup_append.mpr ⟨q.2.1, q.1, fun x hx y hy z => q.2.2 y hy x hx z.symm⟩
    refine ⟨v ++ u, p, ?_, h4, nd2, fun x => ?_⟩
    · obtain ⟨u', rfl⟩ := h3.fst
      exact h2.append (.cons hd neg_ne h3)
    · rw [← List.cons_append, List.mem_append, List.mem_append]
      exact Or.comm
/-- a wild ring isn't guarded by one of its rooms -/
theorem wild_untame (hC : Ring (wld ds) C) (hh : h ∈ C) : ¬ ∀ x ∈ C, Dm ds h x := fun hall => by
  obtain ⟨p, hp, h1⟩ := hC.pred hh
  exact (wld_mem.mp h1).2.2 (hall p hp)
/-- where no wild ring is, each ring is guarded by one of its rooms -/
theorem tame_all (hno : ∀ C, ¬ Ring (wld ds) C) (hC : Ring ds C) (hr : ∀ x ∈ C, Rch ds (-1) x) : ∃ h ∈ C, ∀ x ∈ C, Dm ds h x := by
  have hne : C ≠ [] := by
    obtain ⟨a, b, hp, _⟩ := hC
    obtain ⟨w, rfl⟩ := hp.fst
    simp
  obtain ⟨h, hh, hmin⟩ := least (R := Rl (wld ds)) (fun x hx => let ⟨D, hD⟩ := hx.ring; hno D hD) (fun x y z => Rl.trans) C hne
  obtain ⟨w, p, hp, hd, nd, hm⟩ := hC.rot hh
  have hpC : p ∈ C := (hm p).mp hp.mem_last
  have hdm : Dm ds h p := Classical.byContradiction fun z => hmin p hpC (Rl.door (wld_mem.mpr ⟨hd, hr p hpC, z⟩))
  refine ⟨h, hh, fun x hx => ?_⟩
  by_cases e : x = h
  · subst e
    exact .refl (hr _ hh)
  · refine ⟨hr x hx, fun hn => hdm.2 ?_⟩
    have hxw : x ∈ h :: w := (hm x).mpr hx
    obtain ⟨u, v, e2, _, _, h2⟩ := hp.split hxw
    have hhv : h ∉ x :: v := fun z => by
      cases u with
      | nil => exact e (List.cons.inj e2).1.symm
      | cons y u =>
        have := (List.cons.inj e2).1
        subst this
        rw [e2] at nd
        exact (List.nodup_append.mp nd).2.2 _ List.mem_cons_self _ z rfl
    obtain ⟨q, hq⟩ := hn.pth
    have h3 : Pth ds (h : Int) x (x :: v) p := h2.past fun y hy z => hhv (by
      have : y = h := by omega
      exact this ▸ hy)
    have := hq.append h3
    exact this.rch0 p this.mem_last
theorem Ring.sub (hs : ∀ d ∈ ds, d ∈ es) (h : Ring ds C) : Ring es C := let ⟨a, b, h1, h2, h3⟩ := h; ⟨a, b, h1.sub hs, hs _ h2, h3⟩
theorem wld_sub : ∀ d ∈ wld ds, d ∈ ds := fun d hd => (List.mem_filter.mp hd).1
theorem wild_rch (hC : Ring (wld ds) C) : ∀ x ∈ C, Rch ds (-1) x := fun x hx => by
  obtain ⟨p, _, h1⟩ := hC.succ hx
  exact (wld_mem.mp h1).2.1
/-- all rings, each told once by its rooms -/
structure RingsOf (ds : DL) (F : List (List Nat)) : Prop where
  is : ∀ C ∈ F, Ring ds C ∧ ∀ x ∈ C, Rch ds (-1) x
  all : ∀ C, Ring ds C → (∀ x ∈ C, Rch ds (-1) x) → ∃ D ∈ F, ∀ x, x ∈ D ↔ x ∈ C
theorem tame_iff {f : Nat → Nat → Bool} : tameb C f = true ↔ ∃ h ∈ C, ∀ x ∈ C, f h x = true := by
  unfold tameb
  rw [List.any_eq_true]
  exact ⟨fun ⟨h, h1, h2⟩ => ⟨h, h1, List.all_eq_true.mp h2⟩, fun ⟨h, h1, h2⟩ => ⟨h, h1, List.all_eq_true.mpr h2⟩⟩
/-- a wild ring is there just where a ring is that none of its rooms guards -/
theorem rings_wild {F : List (List Nat)} (hF : RingsOf ds F) : (∃ C ∈ F, tameb C (dm ds) = false) ↔ ∃ C, Ring (wld ds) C := by
  constructor
  · rintro ⟨C, h1, h2⟩
    refine Classical.byContradiction fun hno => ?_
    obtain ⟨q1, q2⟩ := hF.is C h1
    obtain ⟨h, h3, h4⟩ := tame_all (fun D hD => hno ⟨D, hD⟩) q1 q2
    rw [tame_iff.mpr ⟨h, h3, fun x hx => dm_iff.mpr (h4 x hx)⟩] at h2
    cases h2
  · rintro ⟨C, hC⟩
    obtain ⟨D, hD, hm⟩ := hF.all C (hC.sub wld_sub) (wild_rch hC)
    refine ⟨D, hD, ?_⟩
    cases e : tameb D (dm ds) with
    | false => rfl
    | true =>
      obtain ⟨h, h1, h2⟩ := tame_iff.mp e
      exact (wild_untame hC ((hm h).mp h1) fun x hx => dm_iff.mp (h2 x ((hm x).mpr hx))).elim
/-- a ring told from its least room on -/
structure Lr (ds : DL) (C : List Nat) : Prop where
  ex : ∃ h w p, C = h :: w ∧ Pth ds (-1) h C p ∧ (p, h) ∈ ds ∧ C.Nodup ∧ (∀ x ∈ w, h < x) ∧ ∀ x ∈ C, Rch ds (-1) x
theorem Lr.ring (h : Lr ds C) : Ring ds C ∧ ∀ x ∈ C, Rch ds (-1) x := let ⟨h, w, p, _, h2, h3, h4, _, h6⟩ := h.ex; ⟨⟨h, p, h2, h3, h4⟩, h6⟩
theorem Ring.lr (hC : Ring ds C) (hr : ∀ x ∈ C, Rch ds (-1) x) : ∃ D, Lr ds D ∧ ∀ x, x ∈ D ↔ x ∈ C := by
  have hne : C ≠ [] := by
    obtain ⟨a, b, hp, _⟩ := hC
    obtain ⟨w, rfl⟩ := hp.fst
    simp
  obtain ⟨h, hh, hmin⟩ := least (R := fun x y => x < y) (fun x => by omega) (fun x y z => by omega) C hne
  obtain ⟨w, p, h1, h2, h3, h4⟩ := hC.rot hh
  refine ⟨h :: w, ⟨h, w, p, rfl, h1, h2, h3, fun x hx => ?_, fun x hx => hr x ((h4 x).mp hx)⟩, h4⟩
  have := hmin x ((h4 x).mp (List.mem_cons_of_mem _ hx))
  have hne : x ≠ h := fun z => (List.nodup_cons.mp h3).1 (z ▸ hx)
  omega
/-- a trail: the start of such a ring, perhaps -/
structure Trl (ds : DL) (n : Nat) (C : List Nat) : Prop where
  ex : ∃ h w p, C = h :: w ∧ Pth ds (-1) h C p ∧ C.Nodup ∧ (∀ x ∈ w, h < x) ∧ ∀ x ∈ C, Rch ds (-1) x
end
end Mp

/-! Small tools: slices, sums of lists. -/
namespace Mp
open PySem L2 Evl
section
variable {g : Gb} {σ : L2.St} {H B : Hp} {D : Ends} {E : XK} {Q : VK} {vs : List V} {p : Addr} {N : Nt} {te ta tb : TE} {K : PySem.W.Frag}
/-! ### small tools -/
theorem cut_to (xs : List V) (k : Nat) : cutV xs none (some (k : Int)) = xs.take k := by
  unfold cutV
  rw [HT.sIx_none, show HT.sIx xs.length xs.length (some (k : Int)) = min k xs.length from HT.sIx_nat xs.length xs.length k, Nat.sub_zero, List.drop_zero]
  by_cases h : k ≤ xs.length
  · rw [Nat.min_eq_left h]
  · rw [Nat.min_eq_right (by omega), List.take_length, List.take_of_length_le (by omega)]
theorem cut_from (xs : List V) (k : Nat) : cutV xs (some (k : Int)) none = xs.drop k := by
  unfold cutV
  rw [HT.sIx_none, show HT.sIx xs.length 0 (some (k : Int)) = min k xs.length from HT.sIx_nat xs.length 0 k]
  by_cases h : k ≤ xs.length
  · rw [Nat.min_eq_left h]
    exact List.take_of_length_le (by rw [List.length_drop]; omega)
  · rw [Nat.min_eq_right (by omega), List.drop_length, List.drop_of_length_le (by omega)]
    exact List.take_nil
theorem paired_append {α β : Type} {F : α → β → Prop} : ∀ {l l2 : List α} {m m2 : List β}, Paired F l m → Paired F l2 m2 → Paired F (l ++ l2) (m ++ m2)
  | _, _, _, _, .nil, h => h
  | _, _, _, _, .cons r t, h => .cons r (paired_append t h)
theorem paired_take {α β : Type} {F : α → β → Prop} : ∀ {l : List α} {m : List β} (k : Nat), Paired F l m → Paired F (l.take k) (m.take k)
  | _, _, 0, _ => .nil
  | _, _, _ + 1, .nil => .nil
  | _, _, k + 1, .cons r t => .cons r (paired_take k t)
theorem paired_drop {α β : Type} {F : α → β → Prop} : ∀ {l : List α} {m : List β} (k : Nat), Paired F l m → Paired F (l.drop k) (m.drop k)
  | _, _, 0, h => h
  | _, _, _ + 1, .nil => .nil
  | _, _, k + 1, .cons _ t => paired_drop k t
/-- [a, b, ..][i] -/
theorem ev_pick {ts : TA} {xs : List V} {v : V} {j : Nat} (h : EvA ts σ H xs) (hl : xs.length ≤ 100) (hi : ∀ H1, Ex H H1 → Ev te σ H1 (.int (j : Int))) (hv : xs[j]? = some v) : Ev (tOp (rIxL K) (tLst ts) te) σ H v :=
  ev_opL1 (el_lst h (by omega)) hi fun p H1 h1 _ => rv_ixL (sq_of h1) (atI_nat hv)
theorem el_is {xs ys : List V} (h : EvL te σ H xs) (e : xs = ys) : EvL te σ H ys := e ▸ h
/-- xs + ys, both new or told -/
theorem el_cat {a b : Addr} {xs ys : List V} (ha : Ev ta σ H (.ref a)) (hb : Ev tb σ H (.ref b)) (h1 : H a = some (.lst xs)) (h2 : H b = some (.lst ys)) (hl : xs.length + ys.length ≤ 100000) : EvL (tOp rCat ta tb) σ H (xs ++ ys) := fun H1 e Q q =>
  ha H1 e _ fun H2 e2 => hb H2 (e.trans e2) _ fun H3 e3 => ⟨a, b, xs, ys, rfl, rfl, e3 _ _ (e2 _ _ (e _ _ h1)), e3 _ _ (e2 _ _ (e _ _ h2)), sz_of hl, fun p hp => q p _ (fresh_back (e2.trans e3) hp) ((e2.trans e3).trans (Ex.new hp)) upd_same⟩
theorem el_catL {a : Addr} {xs ys : List V} (ha : Ev ta σ H (.ref a)) (hb : EvL tb σ H ys) (h1 : H a = some (.lst xs)) (hl : xs.length + ys.length ≤ 100000) : EvL (tOp rCat ta tb) σ H (xs ++ ys) := fun H1 e Q q =>
  ha H1 e _ fun H2 e2 => hb H2 (e.trans e2) _ fun b H3 hb3 e3 h3 => ⟨a, b, xs, ys, rfl, rfl, e3 _ _ (e2 _ _ (e _ _ h1)), h3, sz_of hl, fun p hp => q p _ (fresh_back (e2.trans e3) hp) ((e2.trans e3).trans (Ex.new hp)) upd_same⟩
theorem el_catLL {xs ys : List V} (ha : EvL ta σ H xs) (hb : EvL tb σ H ys) (hl : xs.length + ys.length ≤ 100000) : EvL (tOp rCat ta tb) σ H (xs ++ ys) := fun H1 e Q q =>
  ha H1 e _ fun a H2 ha2 e2 h2 => hb H2 (e.trans e2) _ fun b H3 hb3 e3 h3 => ⟨a, b, xs, ys, rfl, rfl, e3 _ _ h2, h3, sz_of hl, fun p hp => q p _ (fresh_back (e2.trans e3) hp) ((e2.trans e3).trans (Ex.new hp)) upd_same⟩
theorem el_rep {xs : List V} {n : Nat} (ha : EvL ta σ H xs) (hb : ∀ H1, Ex H H1 → Ev tb σ H1 (.int (n : Int))) (hn : n ≤ 1000) (hl : xs.length ≤ 100) : EvL (tOp rRep ta tb) σ H (List.replicate n xs).flatten := fun H1 e Q q =>
  ha H1 e _ fun a H2 ha2 e2 h2 => hb H2 (e.trans e2) H2 (Ex.refl _) _ fun H3 e3 => ⟨a, n, xs, rfl, rfl, e3 _ _ h2, by omega, by omega, by
    rw [Int.toNat_natCast]
    refine sz_of (Nat.le_trans (Nat.mul_le_mul hl hn) (by decide)), fun p hp => q p _ (fresh_back (e2.trans e3) hp) ((e2.trans e3).trans (Ex.new hp)) (by rw [upd_same, Int.toNat_natCast])⟩
/-- a slice of a new list -/
theorem el_slN {tl th : TO} {xs : List V} {lo hi : Option Int} (h : EvL te σ H xs) (h1 : ∀ H1, Ex H H1 → EvO tl σ H1 lo) (h2 : ∀ H1, Ex H H1 → EvO th σ H1 hi) : EvL (tSl (rSlL K) te tl th) σ H (cutV xs lo hi) := fun H1 e _ q =>
  h H1 e _ fun a H2 ha e2 hx => h1 H2 (e.trans e2) H2 (Ex.refl _) _ fun H3 e3 => h2 H3 ((e.trans e2).trans e3) H3 (Ex.refl _) _ fun H4 e4 =>
    ⟨a, xs, rfl, sq_of (e4 _ _ (e3 _ _ hx)), fun p hp => q p _ (fresh_back ((e2.trans e3).trans e4) hp) (((e2.trans e3).trans e4).trans (Ex.new hp)) upd_same⟩
theorem sig_is {tz : TS} {σ' : L2.St} (e : σ = σ') (h : tz D σ' H) : tz D σ H := e ▸ h
end
end Mp

/-! loops.wild_ring. -/
namespace Mp
open PySem L2 Evl
def sp_wild_ring (g : Gb) : Sp := fun vs H Q _ => ∃ (p : Addr) (N : Nt), vs = [.ref p] ∧ NetAt g H p N ∧ ((∀ C, ¬ Ring (wld N.ds) C) → RetV .non H Q) ∧ ∀ C, Ring (wld N.ds) C → RetL (nvs C) H Q
/-! wild_ring: slots 0 net 1 doors 2 back 3 pairs 4 k 5 left 6 again 7 room 8 pair 9 trail 10 ways -/
def t_wild_ring_b1 (g : Gb)  : TS := tIfS (tTest (tOp rEq (tCB (rLenS g.K) (tCons (tLc (iList g.K (tVar 3)) (gName 8) (tAnd (tTest (tOp rEq (tOp (rIxT g.K) (tVar 8) (tC (.int 0))) (tVar 7))) (tTest (tOp (rIn g.K false) (tOp (rIxT g.K) (tVar 8) (tC (.int 1))) (tVar 5)))) (tVar 8) [8]) tNil)) (tC (.int 0)))) (tSeq (tDrop (tBM g.K "list" rRemI (tVar 5) (tCons (tVar 7) tNil)))
  (tAsg (tC (.bl true)) (gName 6))) tNext
def t_wild_ring_b2 (g : Gb)  : TS := tSeq (tAsg (tC (.bl false)) (gName 6))
  (tFor (iList g.K (tCB (rListS g.K) (tCons (tVar 5) tNil))) (gName 7) (t_wild_ring_b1 g))
def t_wild_ring_b3 (g : Gb)  : TS := tSeq (tAsg (tLc (iList g.K (tVar 3)) (gName 8) (tAnd (tTest (tOp rEq (tOp (rIxT g.K) (tVar 8) (tC (.int 0))) (tOp (rIxL g.K) (tVar 9) (tUn rNeg (tC (.int 1)))))) (tTest (tOp (rIn g.K false) (tOp (rIxT g.K) (tVar 8) (tC (.int 1))) (tVar 5)))) (tOp (rIxT g.K) (tVar 8) (tC (.int 1))) [8]) (gName 10))
  (tSeq (tIfS (tTest (tOp (rIn g.K false) (tOp (rIxL g.K) (tVar 10) (tC (.int 0))) (tVar 9))) (tRet (tSl (rSlL g.K) (tVar 9) (tPart (tBM g.K "list" (rIndex g.K) (tVar 9) (tCons (tOp (rIxL g.K) (tVar 10) (tC (.int 0))) tNil))) tNoPart)) tNext)
  (tDrop (tBM g.K "list" rAppend (tVar 9) (tCons (tOp (rIxL g.K) (tVar 10) (tC (.int 0))) tNil))))
def t_wild_ring (g : Gb) : TS := tSeq (tAsg (tMeth g.C "doors" (sp_Net_doors g) [] E0 (tVar 0) tNil) (gName 1))
  (tSeq (tAsg (tCall (sp_back_doors g) [] E0 (tCons (tVar 0) tNil)) (gName 2))
  (tSeq (tAsg (tLc (iList g.K (tCall (sp_inside g) [] E0 (tCons (tVar 0) tNil))) (gName 4) (tTest (tOp (rIn g.K true) (tVar 4) (tVar 2))) (tOp (rIxL g.K) (tVar 1) (tVar 4)) [4]) (gName 3))
  (tSeq (tAsg (tCall (sp_reached g) [] E0 (tCons (tVar 0) tNil)) (gName 5))
  (tSeq (tAsg (tC (.bl true)) (gName 6))
  (tSeq (tWhile (tB (tVar 6)) (t_wild_ring_b2 g))
  (tSeq (tIfS (tTest (tOp rEq (tCB (rLenS g.K) (tCons (tVar 5) tNil)) (tC (.int 0)))) (tRet (tC .non)) tNext)
  (tSeq (tAsg (tLst (tCons (tOp (rIxL g.K) (tVar 5) (tC (.int 0))) tNil)) (gName 9))
  (tWhile (tB (tC (.bl true))) (t_wild_ring_b3 g)))))))))
abbrev N_wild_ring : List Str := ["net", "doors", "back", "pairs", "k", "left", "again", "room", "pair", "trail", "ways"]

section
variable {g : Gb} {σ : L2.St} {H H' B : Hp} {D : Ends} {E : XK} {Q : VK} {vs : List V} {p : Addr} {N : Nt} {te tn tr ta tb td ti tm tl to : TE} {K : PySem.W.Frag} {r k o : Nat} {tz : TS}
theorem ds_dr : N.ds = (List.range N.ds.length).map N.dr := by
  apply List.ext_getElem?
  intro i
  by_cases hi : i < N.ds.length
  · rw [dr_at hi, List.getElem?_map, List.getElem?_range hi]
    rfl
  · rw [List.getElem?_eq_none (by omega), List.getElem?_eq_none (by rw [List.length_map, List.length_range]; omega)]
theorem wld_list : (N.inside.filter fun k => !decide (k ∈ N.back)).map N.dr = wld N.ds := by
  unfold wld
  conv => rhs; rw [ds_dr (N := N)]
  rw [List.filter_map]
  unfold Nt.inside
  rw [List.filter_filter]
  refine congrArg (List.map N.dr) (List.filter_congr fun k hk => ?_)
  have : decide (k ∈ N.back) = dm N.ds (N.dr k).2 (N.dr k).1 := by
    rw [Bool.eq_iff_iff, decide_eq_true_iff]
    unfold Nt.back
    rw [List.mem_filter]
    exact ⟨fun h => h.2, fun h => ⟨hk, h⟩⟩
  rw [this, ← ds_dr]
  exact Bool.and_comm _ _
theorem nodup_index {l : List Nat} {i j x : Nat} (nd : l.Nodup) (h1 : l[i]? = some x) (h2 : l[j]? = some x) : i = j := by
  have g1 := List.getElem?_eq_some_iff.mp h1
  have g2 := List.getElem?_eq_some_iff.mp h2
  exact (List.getElem_inj (h₀ := g1.1) (h₁ := g2.1) nd).mp (g1.2.trans g2.2.symm)
theorem ev_index {a : Addr} {l : List Nat} {v j : Nat} (ha : Ev ta σ H (.ref a)) (hv : Ev tb σ H (nv v)) (hl : H a = some (.lst (nvs l))) (nd : l.Nodup) (hj : l[j]? = some v) : Ev (tBM K "list" (rIndex K) ta (tCons tb tNil)) σ H (.int (j : Int)) := fun H1 e Q q =>
  ha H1 e _ fun H2 e2 => ⟨Or.inl ⟨rfl, _, sq_of (e2 _ _ (e _ _ hl))⟩, hv H2 (e.trans e2) _ fun H3 e3 => ⟨a, nvs l, nv v, j, nv v, rfl, rfl, sq_of (e3 _ _ (e2 _ _ (e _ _ hl))), rfl, flat_nvs l, by rw [List.getElem?_map, hj]; rfl, by show ((v : Int) == (v : Int)) = true; exact beq_self_eq_true _, fun m z hm hz => by
    obtain ⟨w, hw, rfl⟩ := nvs_at hz
    show ((w : Int) == (v : Int)) = false
    refine beq_eq_false_iff_ne.mpr fun z => ?_
    have : w = v := by omega
    subst this
    have := nodup_index nd hw hj
    omega, q H3 (e2.trans e3)⟩⟩
/-- xs.remove(v) -/
theorem q_rem {a : Addr} {l : List Nat} {v j : Nat} (ha : Ev ta σ H (.ref a)) (hv : Ev tb σ H (nv v)) (hl : H a = some (.lst (nvs l))) (nd : l.Nodup) (hj : l[j]? = some v) (k : ∀ H1, Ex H H1 → tz D σ (upd H1 a (.lst (nvs (l.eraseIdx j))))) : tSeq (tDrop (tBM K "list" rRemI ta (tCons tb tNil))) tz D σ H :=
  ha H (Ex.refl H) _ fun H1 e1 => ⟨Or.inl ⟨rfl, _, sq_of (e1 _ _ hl)⟩, hv H1 e1 _ fun H2 e2 => ⟨a, l.map (fun (k : Nat) => (k : Int)), (v : Int), j, rfl, rfl, by rw [← nvs_int]; exact e2 _ _ (e1 _ _ hl), by rw [List.getElem?_map, hj]; rfl, fun m hm z => by
    rw [List.getElem?_map] at z
    cases e : l[m]? with
    | none => rw [e] at z; cases z
    | some w =>
      rw [e] at z
      have : w = v := nI (Option.some.inj z)
      subst this
      have := nodup_index nd e hj
      omega, by
    have e : ((l.map fun (k : Nat) => (k : Int)).eraseIdx j).map V.int = nvs (l.eraseIdx j) := by
      rw [List.eraseIdx_eq_take_drop_succ, List.eraseIdx_eq_take_drop_succ, nvs_int, List.map_append, List.map_append, List.map_append, List.map_take, List.map_drop, List.map_take, List.map_drop, List.map_take, List.map_drop]
    rw [e]
    exact k H2 (e1.trans e2)⟩⟩
theorem er_mem {l : List Nat} {j v x : Nat} (nd : l.Nodup) (hj : l[j]? = some v) : x ∈ l.eraseIdx j ↔ x ∈ l ∧ x ≠ v := by
  rw [List.mem_eraseIdx_iff_getElem?]
  constructor
  · rintro ⟨i, hi, e⟩
    refine ⟨List.mem_of_getElem? e, fun z => hi ?_⟩
    subst z
    exact nodup_index nd e hj
  · rintro ⟨h1, h2⟩
    obtain ⟨i, hi⟩ := List.mem_iff_getElem?.mp h1
    exact ⟨i, fun z => h2 (by rw [z, hj] at hi; exact (Option.some.inj hi).symm), hi⟩
/-- [pair for pair in pairs if pair[0] == x and pair[1] in left], and of each its second -/
theorem el_doors {pl lf : Addr} {as : List Addr} {es : DL} {L : List Nat} {x j : Nat} {tp tx tq : TE} {second : Bool} (hp : Ev tp σ H (.ref pl)) (h0 : H pl = some (.lst (as.map V.ref))) (h1 : PairsAt H as (es.map zp)) (hl : es.length ≤ 1000) (hL : H lf = some (.lst (nvs L)))
    (w : ∀ x, wipe ((wipe σ [j]).set j (some x)) [j] = wipe σ [j]) (w1 : ∀ x, ((wipe σ [j]).set j (some x))[j]? = some (some x)) (w2 : ∀ y H1, Ex H H1 → Ev tx ((wipe σ [j]).set j (some y)) H1 (nv x)) (w3 : ∀ y H1, Ex H H1 → Ev tq ((wipe σ [j]).set j (some y)) H1 (.ref lf)) :
    ∃ ys : List V, EvL (tLc (iList K tp) (gName j) (tAnd (tTest (tOp rEq (tOp (rIxT K) (tVar j) (tC (.int 0))) tx)) (tTest (tOp (rIn K false) (tOp (rIxT K) (tVar j) (tC (.int 1))) tq))) (if second then tOp (rIxT K) (tVar j) (tC (.int 1)) else tVar j) [j]) σ H ys ∧
      ys.length = (es.filter fun d => decide (d.1 = x) && decide (d.2 ∈ L)).length ∧ (second = true → ys = (es.filter fun d => decide (d.1 = x) && decide (d.2 ∈ L)).map fun d => nv d.2) := by
  have hlen : as.length = es.length := by
    have := paired_len h1
    rw [List.length_map] at this
    exact this
  have hR : Paired (fun x (z : Addr × Nat × Nat) => x = V.ref z.1 ∧ H z.1 = some (.tup [nv z.2.1, nv z.2.2])) (as.map V.ref) (as.zip es) := by
    clear hlen h0
    have key : ∀ {l : List Addr} {m : DL}, PairsAt H l (m.map zp) → Paired (fun x (z : Addr × Nat × Nat) => x = V.ref z.1 ∧ H z.1 = some (.tup [nv z.2.1, nv z.2.2])) (l.map V.ref) (l.zip m) := by
      intro l m h
      induction m generalizing l with
      | nil => cases h; exact .nil
      | cons d m ih => cases h with
        | cons r t => exact .cons ⟨rfl, r⟩ (ih t)
    exact key h1
  have hz : ∀ (l : List Addr) (m : DL), l.length = m.length → ((l.zip m).filter fun z => decide (z.2.1 = x) && decide (z.2.2 ∈ L)).map (·.2) = m.filter fun d => decide (d.1 = x) && decide (d.2 ∈ L) := by
    intro l m h
    induction m generalizing l with
    | nil =>
      have : l = [] := List.length_eq_zero_iff.mp h
      subst this
      rfl
    | cons d m ih =>
      cases l with
      | nil => cases h
      | cons a l =>
        have h2 : l.length = m.length := by simpa using h
        rw [List.zip_cons_cons, List.filter_cons, List.filter_cons]
        cases e : (decide (d.1 = x) && decide (d.2 ∈ L)) with
        | true => simp only [if_true, List.map_cons, ih l h2]
        | false => simp only [Bool.false_eq_true, if_false, ih l h2]
  refine ⟨((as.zip es).filter fun z => decide (z.2.1 = x) && decide (z.2.2 ∈ L)).map fun z => if second then nv z.2.2 else V.ref z.1, ?_, ?_, fun hs => ?_⟩
  · refine el_lc (l := as.zip es) (R := fun (z : Addr × Nat × Nat) x => x = V.ref z.1 ∧ H z.1 = some (.tup [nv z.2.1, nv z.2.2])) (fun z => decide (z.2.1 = x) && decide (z.2.2 ∈ L)) (fun z => if second then nv z.2.2 else V.ref z.1) (ei_list hp (sq_of h0) hR) (by rw [List.length_zip]; omega) w (fun z y H1 hz hx e => ?_) (fun z y H1 hz hx e _ => ?_)
    · obtain ⟨rfl, hy⟩ := hx
      refine et_and (et_is (et_test (ev_op (ev_fst (ev_var (w1 _)) (e _ _ hy)) (w2 _ _ e) (rv_eq rfl))) (decide_eq_decide.mpr nvI)) fun _ => et_is (et_test (ev_op (ev_snd (ev_var (w1 _)) (e _ _ hy)) (w3 _ _ e) (rv_isL (sq_of (e _ _ hL)) rfl (flat_nvs _)))) (by rw [in_nvs])
    · obtain ⟨rfl, hy⟩ := hx
      cases second with
      | true => exact ev_snd (ev_var (w1 _)) (e _ _ hy)
      | false => exact ev_var (w1 _)
  · rw [List.length_map, ← hz as es hlen, List.length_map]
  · subst hs
    rw [← hz as es hlen, List.map_map]
    rfl
theorem pure_wild_ring (h : sp_wild_ring g vs H Q E) : t_wild_ring g { nx := fun _ H' => Q .non H', rt := Q } (start N_wild_ring vs) H := by
  obtain ⟨p, N, rfl, hn, k1, k2⟩ := h
  have hm := hn.ok.most
  have hfw := hn.ok.few
  refine a_asgP (ev_doors (N := N) (ev_var rfl) hn) fun v H1 e1 hv => ?_
  obtain ⟨dd, rfl, hd0, hdd⟩ := hv
  obtain ⟨as, hd1, hd2⟩ := id hdd
  have hal : as.length = N.ds.length := by
    have := paired_len hd2
    rw [List.length_map] at this
    exact this
  refine q_asgL (el_back (N := N) (ev_var rfl) (hn.mono e1)) fun bl H2 hbl e2 hbl2 => ?_
  have e12 := e1.trans e2
  have hil : N.inside.length ≤ N.ds.length := filter_len _ _
  have him : ∀ k ∈ N.inside, k < N.ds.length := fun k hk => List.mem_range.mp (List.mem_filter.mp hk).1
  -- pairs
  obtain ⟨es, hes⟩ : ∃ es, es = wld N.ds := ⟨_, rfl⟩
  obtain ⟨ks, hks⟩ : ∃ ks, ks = N.inside.filter fun k => !decide (k ∈ N.back) := ⟨_, rfl⟩
  have hks1 : ks.map N.dr = es := by rw [hks, hes]; exact wld_list
  have hks2 : ∀ k ∈ ks, k < N.ds.length := fun k hk => by
    rw [hks] at hk
    exact him k (List.mem_filter.mp hk).1
  have hkl : ks.length ≤ N.ds.length := by
    rw [hks]
    exact Nat.le_trans (List.length_filter_le _ _) hil
  have hasg : ∀ k, k < N.ds.length → as[k]? = some (as.getD k 0) := fun k hk => by
    rw [List.getD_eq_getElem?_getD, List.getElem?_eq_getElem (by omega)]
    rfl
  refine q_asgL (xs := (ks.map fun k => as.getD k 0).map V.ref) ?_ fun pl H3 hpl e3 hpl3 => ?_
  · have key := el_lc (σ := [some (V.ref p), some (V.ref dd), some (V.ref bl), none, none, none, none, none, none, none, none]) (H := H2) (te := tOp (rIxL g.K) (tVar 1) (tVar 4)) (j := 4) (vs := [4]) (t := tTest (tOp (rIn g.K true) (tVar 4) (tVar 2))) (wi := iList g.K (tCall (sp_inside g) [] E0 (tCons (tVar 0) tNil))) (l := N.inside) (R := fun (k : Nat) x => x = nv k) (fun k => !decide (k ∈ N.back)) (fun k => V.ref (as.getD k 0))
      (ei_listN (el_inside (N := N) (ev_var rfl) (hn.mono e12)) (paired_map (f := nv) (fun _ => rfl) _)) (by omega) (fun _ => rfl) (fun k x H3 hk hx e3 => by
        subst hx
        exact et_is (et_test (ev_op (ev_var rfl) (ev_var rfl) (rv_niL (sq_of (e3 _ _ hbl2)) rfl (flat_nvs _)))) (by rw [in_nvs])) (fun k x H3 hk hx e3 _ => by
        subst hx
        exact ev_op (ev_var rfl) (ev_var rfl) (rv_ixL (sq_of (e3 _ _ (e2 _ _ hd1))) (atI_nat (by rw [List.getElem?_map, hasg k (him k hk)]; rfl))))
    rw [← hks] at key
    rw [List.map_map]
    exact key
  have hps3 : PairsAt H3 (ks.map fun k => as.getD k 0) (es.map zp) := by
    rw [← hks1]
    have key : ∀ ks : List Nat, (∀ k ∈ ks, k < N.ds.length) → PairsAt H3 (ks.map fun k => as.getD k 0) ((ks.map N.dr).map zp) := by
      intro ks
      induction ks with
      | nil => exact fun _ => .nil
      | cons k ks ih =>
        intro hk
        have hk1 := hk k List.mem_cons_self
        obtain ⟨a, h1, h2⟩ := Paired.at hd2 (i := k) (b := zp (N.dr k)) (by rw [List.getElem?_map, dr_at hk1]; rfl)
        have : as.getD k 0 = a := by
          rw [hasg k hk1] at h1
          exact Option.some.inj h1
        refine .cons ?_ (ih fun x hx => hk x (List.mem_cons_of_mem _ hx))
        show H3 (as.getD k 0) = _
        rw [this]
        exact (e2.trans e3) _ _ h2
    exact key ks hks2
  have hel : es.length ≤ 1000 := by rw [← hks1, List.length_map]; omega
  have e13 := e12.trans e3
  -- left
  refine q_asgL (el_reached (N := N) (ev_var rfl) (hn.mono e13)) fun lf H4 hlf e4 hlf4 => ?_
  refine q_asg ev_c fun H5 e5 => ?_
  have tnd : N.there.Nodup := List.nodup_range.filter _
  refine q_while (fun m σ' H' => ∃ (L : List Nat) (b : Bool) (s7 : Option V), σ' = [some (.ref p), some (.ref dd), some (.ref bl), some (.ref pl), none, some (.ref lf), some (.bl b), s7, none, none, none] ∧ Ex H3 H' ∧ H' lf = some (.lst (nvs L)) ∧ L.Nodup ∧ (∀ x ∈ L, Rch N.ds (-1) x) ∧ (∀ C, Ring es C → ∀ x ∈ C, x ∈ L) ∧ (b = false → ∀ x ∈ L, ∃ y ∈ L, (x, y) ∈ es) ∧ m = L.length + (if b then 1 else 0)) (N.there.length + 1)
    ⟨N.there, true, none, rfl, e4.trans e5, e5 _ _ hlf4, tnd, fun x hx => (mem_there hn.ok).mp hx, fun C hC x hx => (mem_there hn.ok).mpr (wild_rch (hes ▸ hC) x hx), (fun h => by cases h), rfl⟩ fun m σ' H' hW => ?_
  obtain ⟨L, b, s7, rfl, eX, hL, nd, hLr, hLC, hLs, rfl⟩ := hW
  have hLn : L.length ≤ N.n := by
    have h1 := nd.length_le_of_subset (l₂ := List.range N.n) fun x hx => List.mem_range.mpr ((hLr x hx).lt hn.ok.pos hn.ok.ends)
    rw [List.length_range] at h1
    exact h1
  refine ⟨b, et_B (ev_var rfl), fun hb H6 e6 => ?_, fun hb H6 e6 => ?_⟩
  · subst hb
    clear hLs
    refine ⟨fun σ2 H2 => ∃ (M : List Nat) (b : Bool) (s7 : Option V), σ2 = [some (.ref p), some (.ref dd), some (.ref bl), some (.ref pl), none, some (.ref lf), some (.bl b), s7, none, none, none] ∧ Ex H3 H2 ∧ H2 lf = some (.lst (nvs M)) ∧ M.Nodup ∧ (∀ x ∈ M, Rch N.ds (-1) x) ∧ (∀ C, Ring es C → ∀ x ∈ C, x ∈ M) ∧ (b = false → ∀ x ∈ M, ∃ y ∈ M, (x, y) ∈ es) ∧ M.length ≤ L.length ∧ (b = true → M.length < L.length), fun σ2 H2 hN => ?_, ?_⟩
    · obtain ⟨M, b, s7, h1, h2, h3, h4, h5, h6, h7, h8, h9⟩ := hN
      refine ⟨M.length + (if b then 1 else 0), ?_, M, b, s7, h1, h2, h3, h4, h5, h6, h7, rfl⟩
      show _ < L.length + 1
      cases b with
      | true =>
        have := h9 rfl
        show M.length + 1 < L.length + 1
        omega
      | false =>
        show M.length + 0 < L.length + 1
        omega
    refine q_asg ev_c fun H7 e7 => ?_
    have e67 := e6.trans e7
    refine s_forNL (g := gName 7) (el_list (ev_var rfl) (sq_of (e67 _ _ hL))) (fun q i σ' H' => ∃ (M : List Nat) (b : Bool) (s7 : Option V), σ' = [some (.ref p), some (.ref dd), some (.ref bl), some (.ref pl), none, some (.ref lf), some (.bl b), s7, none, none, none] ∧ Ex H3 H' ∧ q ≠ lf ∧ H' q = some (.lst (nvs L)) ∧ H' lf = some (.lst (nvs M)) ∧ M.Nodup ∧ (∀ x ∈ M, x ∈ L) ∧ (∀ C, Ring es C → ∀ x ∈ C, x ∈ M) ∧ (∀ j x, i ≤ j → L[j]? = some x → x ∈ M) ∧
        (b = false → M = L ∧ ∀ j x, j < i → L[j]? = some x → ∃ y ∈ M, (x, y) ∈ es) ∧ (b = true → M.length < L.length) ∧ M.length ≤ L.length)
      (fun q H8 hq e8 hq8 => ⟨L, false, _, rfl, (eX.trans e67).trans e8, (fun z => by rw [z, e67 _ _ hL] at hq; cases hq), hq8, e8 _ _ (e67 _ _ hL), nd, fun x hx => hx, hLC, fun j x _ hx => List.mem_of_getElem? hx, fun _ => ⟨rfl, fun j x hj => absurd hj (Nat.not_lt_zero _)⟩, (fun h => by cases h), Nat.le_refl _⟩)
      (fun q i σ' H' _ hP => by
        obtain ⟨M, b, s7, _, _, _, hq, _⟩ := hP
        exact sq_of hq) (fun q i x σ' H' hx hP => ?_) (fun q σ' H' hP => ?_)
    · obtain ⟨M, b, s7, rfl, eY, nql, hq, hM, ndM, hMs, hMC, hMj, hb1, hb2, hb3⟩ := hP
      obtain ⟨o, ho, rfl⟩ := nvs_at hx
      clear hx
      have hoM : o ∈ M := hMj i o (Nat.le_refl _) ho
      obtain ⟨ys, hys, hyl, _⟩ := el_doors (K := g.K) (σ := [some (V.ref p), some (V.ref dd), some (V.ref bl), some (V.ref pl), none, some (V.ref lf), some (V.bl b), some (nv o), none, none, none]) (H := H') (j := 8) (x := o) (L := M) (tp := tVar 3) (tx := tVar 7) (tq := tVar 5) (second := false) (ev_var rfl) (eY _ _ hpl3) (hps3.mono eY) hel hM (fun _ => rfl) (fun _ => rfl) (fun _ _ _ => ev_var rfl) (fun _ _ _ => ev_var rfl)
      obtain ⟨f, hf⟩ : ∃ f, f = es.filter fun d => decide (d.1 = o) && decide (d.2 ∈ M) := ⟨_, rfl⟩
      rw [← hf] at hyl
      have hfm : ∀ y, (o, y) ∈ es → y ∈ M → f ≠ [] := fun y h1 h2 z => by
        have : (o, y) ∈ f := by rw [hf]; exact List.mem_filter.mpr ⟨h1, by simp [h2]⟩
        rw [z] at this
        cases this
      have hnl : ∀ j x, i + 1 ≤ j → L[j]? = some x → x ≠ o := fun j x hj hx z => by
        subst z
        have := nodup_index nd hx ho
        omega
      refine s_when (b := decide (f.length = 0)) (et_is (et_test (ev_none hys)) (by rw [hyl])) (fun hb H8 e8 => ?_) (fun hb H8 e8 => ?_)
      · have hf0 : f = [] := List.length_eq_zero_iff.mp (of_decide_eq_true hb)
        obtain ⟨j, hj⟩ := List.mem_iff_getElem?.mp hoM
        have hmem := fun x => er_mem (x := x) ndM hj
        have hjl := (List.getElem?_eq_some_iff.mp hj).1
        have hlen : (M.eraseIdx j).length < M.length := by
          rw [List.length_eraseIdx_of_lt hjl]
          omega
        refine q_rem (l := M) (j := j) (v := o) (ev_var rfl) (ev_var rfl) (e8 _ _ hM) ndM hj fun H9 e9 => ?_
        refine s_asg ev_c fun H10 e10 => ⟨M.eraseIdx j, true, _, rfl, (exU ((eY.trans e8).trans e9) hlf).trans e10, nql, ?_, e10 _ _ upd_same, ndM.sublist (List.eraseIdx_sublist ..), fun x hx => hMs x ((hmem x).mp hx).1, fun C hC x hx => (hmem x).mpr ⟨hMC C hC x hx, fun z => ?_⟩, fun j' x hj' hx => (hmem x).mpr ⟨hMj j' x (by omega) hx, hnl j' x hj' hx⟩, (fun h => by cases h), fun _ => by omega, by omega⟩
        · refine e10 _ _ ?_
          rw [upd_ne nql]
          exact e9 _ _ (e8 _ _ hq)
        · subst z
          obtain ⟨s, hs1, hs2⟩ := hC.succ hx
          exact hfm s hs2 (hMC C hC s hs1) hf0
      · have hf0 : f ≠ [] := fun z => of_decide_eq_false hb (by rw [z]; rfl)
        obtain ⟨d, hd⟩ := List.exists_mem_of_ne_nil f hf0
        rw [hf] at hd
        obtain ⟨hd1', hd2'⟩ := List.mem_filter.mp hd
        rw [Bool.and_eq_true, decide_eq_true_iff, decide_eq_true_iff] at hd2'
        refine ⟨M, b, _, rfl, eY.trans e8, nql, e8 _ _ hq, e8 _ _ hM, ndM, hMs, hMC, fun j x hj hx => hMj j x (by omega) hx, fun hb' => ⟨(hb1 hb').1, fun j x hj hx => ?_⟩, hb2, hb3⟩
        by_cases e : j = i
        · subst e
          rw [ho] at hx
          have := Option.some.inj hx
          subst this
          exact ⟨d.2, hd2'.2, hd2'.1 ▸ hd1'⟩
        · exact (hb1 hb').2 j x (by omega) hx
    · obtain ⟨M, b, s7, rfl, eY, nql, hq, hM, ndM, hMs, hMC, hMj, hb1, hb2, hb3⟩ := hP
      refine ⟨M, b, s7, rfl, eY, hM, ndM, fun x hx => hLr x (hMs x hx), hMC, fun hb' x hx => ?_, hb3, hb2⟩
      obtain ⟨e, h1⟩ := hb1 hb'
      obtain ⟨j, hj⟩ := List.mem_iff_getElem?.mp (e ▸ hx)
      refine h1 j x ?_ hj
      rw [List.length_map]
      exact (List.getElem?_eq_some_iff.mp hj).1
  · subst hb
    have hLs := hLs rfl
    have lL : (nvs L).length = L.length := List.length_map ..
    have e3X := eX.trans e6
    have hL6 := e6 _ _ hL
    refine q_when (b := decide (L.length = 0)) (et_is (et_test (ev_op (ev_len (ev_var rfl) (sq_of hL6)) ev_c (rv_eq rfl))) (by rw [lL]; exact decide_eq_decide.mpr ⟨fun h => by have := V.int.inj h; omega, fun h => by rw [h]; rfl⟩)) (fun hb H7 e7 => ?_) (fun hb H7 e7 => ?_)
    · have hL0 : L = [] := List.length_eq_zero_iff.mp (of_decide_eq_true hb)
      refine s_ret ev_c fun H8 e8 => k1 (fun C hC => ?_) H8 (((e13.trans e3X).trans e7).trans e8)
      obtain ⟨a, b, hp, _⟩ := id hC
      obtain ⟨w, hw⟩ := hp.fst
      have := hLC C (hes ▸ hC) a (by rw [hw]; exact List.mem_cons_self)
      rw [hL0] at this
      cases this
    · have hLne : L ≠ [] := fun z => of_decide_eq_false hb (by rw [z]; rfl)
      obtain ⟨v0, L', hLv⟩ : ∃ v0 L', L = v0 :: L' := by
        cases L with
        | nil => exact (hLne rfl).elim
        | cons v0 L' => exact ⟨v0, L', rfl⟩
      have hv0 : v0 ∈ L := by rw [hLv]; exact List.mem_cons_self
      have hL7 := e7 _ _ hL6
      refine q_asgL (el_lst (vs := [nv v0]) (ea_cons (ev_op (ev_var rfl) ev_c (rv_ixL (sq_of hL7) (atI_nat (j := 0) (by rw [hLv]; rfl)))) ea_nil) (by show 1 ≤ 100000; decide)) fun tl H8 htl e8 htl8 => ?_
      have e3Y := e3X.trans e7
      refine s_while (fun m σ' H' => ∃ (T : List Nat) (vk : Nat) (s10 : Option V), σ' = [some (.ref p), some (.ref dd), some (.ref bl), some (.ref pl), none, some (.ref lf), some (.bl false), s7, none, some (.ref tl), s10] ∧ Ex H7 H' ∧ H' tl = some (.lst (nvs T)) ∧ Pth es (-1) v0 T vk ∧ T.Nodup ∧ (∀ x ∈ T, x ∈ L) ∧ m = N.n - T.length) (N.n - 1) ⟨[v0], v0, _, rfl, e8, htl8, .one neg_ne, by simp, fun x hx => by rw [List.mem_singleton.mp hx]; exact hv0, rfl⟩ fun m σ' H' hW => ?_
      obtain ⟨T, vk, s10, rfl, eT, hT, hpT, ndT, hTL, rfl⟩ := hW
      have hTn : T.length ≤ N.n := Nat.le_trans (ndT.length_le_of_subset hTL) hLn
      have lT : (nvs T).length = T.length := List.length_map ..
      refine ⟨true, et_B ev_c, fun _ H9 e9 => ?_, fun h => nomatch h⟩
      refine ⟨fun σ2 H2 => ∃ (T2 : List Nat) (vk : Nat) (s10 : Option V), σ2 = [some (.ref p), some (.ref dd), some (.ref bl), some (.ref pl), none, some (.ref lf), some (.bl false), s7, none, some (.ref tl), s10] ∧ Ex H7 H2 ∧ H2 tl = some (.lst (nvs T2)) ∧ Pth es (-1) v0 T2 vk ∧ T2.Nodup ∧ (∀ x ∈ T2, x ∈ L) ∧ T2.length = T.length + 1, fun σ2 H2 hN => ?_, ?_⟩
      · obtain ⟨T2, vk, s10, h1, h2, h3, h4, h5, h6, h7⟩ := hN
        have := Nat.le_trans (h5.length_le_of_subset h6) hLn
        exact ⟨N.n - T2.length, by omega, T2, vk, s10, h1, h2, h3, h4, h5, h6, rfl⟩
      have hvk : vk ∈ T := hpT.mem_last
      obtain ⟨uT, huT⟩ : ∃ u, T = u ++ [vk] := List.getLast?_eq_some_iff.mp hpT.last
      have hT9 := e9 _ _ hT
      have e79 := eT.trans e9
      obtain ⟨ys, hys, hyl, hysec⟩ := el_doors (K := g.K) (σ := [some (V.ref p), some (V.ref dd), some (V.ref bl), some (V.ref pl), none, some (V.ref lf), some (V.bl false), s7, none, some (V.ref tl), s10]) (H := H9) (j := 8) (x := vk) (L := L) (tp := tVar 3) (tx := tOp (rIxL g.K) (tVar 9) (tUn rNeg (tC (.int 1)))) (tq := tVar 5) (second := true) (ev_var rfl) ((e3Y.trans e79) _ _ hpl3) (hps3.mono (e3Y.trans e79)) hel (e79 _ _ hL7) (fun _ => rfl) (fun _ => rfl) (fun _ A1 ea => ev_op (ev_var rfl) (ev_un ev_c ru_neg) (rv_ixL (xs := nvs T) (sq_of (ea _ _ hT9)) (by
        rw [huT]
        unfold nvs
        rw [List.map_append]
        exact atI_back1 _ _))) (fun _ _ _ => ev_var rfl)
      have hysec := hysec rfl
      obtain ⟨f, hf⟩ : ∃ f, f = es.filter fun d => decide (d.1 = vk) && decide (d.2 ∈ L) := ⟨_, rfl⟩
      rw [← hf] at hysec
      obtain ⟨y, hy1, hy2⟩ := hLs vk (hTL vk hvk)
      have hfne : f ≠ [] := fun z => by
        have : (vk, y) ∈ f := by rw [hf]; exact List.mem_filter.mpr ⟨hy2, by simp [hy1]⟩
        rw [z] at this
        cases this
      obtain ⟨d0, f', hd0⟩ : ∃ d0 f', f = d0 :: f' := by
        cases f with
        | nil => exact (hfne rfl).elim
        | cons d0 f' => exact ⟨d0, f', rfl⟩
      have hd0m : d0 ∈ es ∧ d0.1 = vk ∧ d0.2 ∈ L := by
        have : d0 ∈ f := by rw [hd0]; exact List.mem_cons_self
        rw [hf] at this
        obtain ⟨q1, q2⟩ := List.mem_filter.mp this
        rw [Bool.and_eq_true, decide_eq_true_iff, decide_eq_true_iff] at q2
        exact ⟨q1, q2.1, q2.2⟩
      obtain ⟨hde, hdv, hdL⟩ := hd0m
      have hdoor : (vk, d0.2) ∈ es := hdv ▸ hde
      refine q_asgL hys fun wl H10 hwl e10 hwl10 => ?_
      rw [hysec, hd0] at hwl10
      have hw0 : ∀ {σ : L2.St} {H'' : Hp}, Ex H10 H'' → σ[10]? = some (some (.ref wl)) → Ev (tOp (rIxL g.K) (tVar 10) (tC (.int 0))) σ H'' (nv d0.2) := fun {σ H''} e h => ev_op (ev_var h) ev_c (rv_ixL (sq_of (e _ _ hwl10)) (atI_nat (j := 0) rfl))
      have hT10 := e10 _ _ hT9
      refine q_when (b := decide (d0.2 ∈ T)) (et_is (et_test (ev_op (hw0 (Ex.refl _) rfl) (ev_var rfl) (rv_isL (sq_of hT10) rfl (flat_nvs _)))) (by rw [in_nvs])) (fun hb2 H11 e11 => ?_) (fun hb2 H11 e11 => ?_)
      · obtain ⟨j, hj⟩ := List.mem_iff_getElem?.mp (of_decide_eq_true hb2)
        refine s_retL (xs := nvs (T.drop j)) ?_ fun q H12 hq e12 hq12 => k2 (T.drop j) ⟨d0.2, vk, hes ▸ hpT.dropTo2 hj, hes ▸ hdoor, ndT.sublist (List.drop_sublist ..)⟩ q H12 (fresh_back ((((e13.trans e3Y).trans e79).trans e10).trans e11) hq) (((((e13.trans e3Y).trans e79).trans e10).trans e11).trans e12) hq12
        have := el_sl (K := g.K) (σ := [some (V.ref p), some (V.ref dd), some (V.ref bl), some (V.ref pl), none, some (V.ref lf), some (V.bl false), s7, none, some (V.ref tl), some (V.ref wl)]) (H := H11) (te := tVar 9) (a := tl) (lo := some (j : Int)) (hi := none) (ev_var rfl) (eo_some (ev_index (K := g.K) (ta := tVar 9) (tb := tOp (rIxL g.K) (tVar 10) (tC (.int 0))) (v := d0.2) (j := j) (ev_var rfl) (hw0 e11 rfl) (e11 _ _ hT10) ndT hj)) eo_none (sq_of (e11 _ _ hT10))
        rw [cut_from] at this
        unfold nvs at this ⊢
        rw [List.map_drop]
        exact this
      · have hno : d0.2 ∉ T := of_decide_eq_false hb2
        refine s_app (xs := nvs T) (e11 _ _ hT10) (ev_var rfl) (hw0 e11 rfl) (by omega) fun H12 e12 => ⟨T ++ [d0.2], d0.2, _, rfl, exU (((e79.trans e10).trans e11).trans e12) htl, ?_, hpT.snoc hdoor neg_ne, List.nodup_append.mpr ⟨ndT, by simp, fun a ha b hb e => hno (by rw [List.mem_singleton.mp hb] at e; exact e ▸ ha)⟩, fun x hx => ?_, by rw [List.length_append] <;> rfl⟩
        · rw [upd_same]
          unfold nvs
          rw [List.map_append]
          rfl
        · rcases List.mem_append.mp hx with hx | hx
          · exact hTL x hx
          · rw [List.mem_singleton.mp hx]
            exact hdL
end
end Mp

/-! Marks: the plain law. -/
namespace Mp
/-- o lies at the edge of r -/
def Edg (ds : DL) (r o : Nat) : Prop := (∃ p, Dm ds r p ∧ (p, o) ∈ ds) ∧ (¬ Dm ds r o ∨ o = r)
/-- where marks at 0, at some and at what is found so must be set -/
inductive Jn (ds : DL) (some : List Nat) : Nat → Prop
  | base {r o : Nat} : r = 0 ∨ r ∈ some → Edg ds r o → Jn ds some o
  | step {r o : Nat} : Jn ds some r → Edg ds r o → Jn ds some o
/-- the mark k comes to b -/
inductive Cm (ds : DL) (mk : Nat → Prop) : Nat → Nat → Prop
  | src {a b : Nat} : Rch ds (-1) a → mk a → (a, b) ∈ ds → Cm ds mk b a
  | pass {a b k : Nat} : Rch ds (-1) a → ¬ mk a → Cm ds mk a k → (a, b) ∈ ds → Cm ds mk b k
section
variable {ds : DL} {s : Int} {a b c r o x k p : Nat} {w u v some J : List Nat} {mk : Nat → Prop}
theorem Edg.rch (h : Edg ds r o) : Rch ds (-1) o := let ⟨⟨p, h1, h2⟩, _⟩ := h; h1.1.next h2
theorem Jn.rch (h : Jn ds some o) : Rch ds (-1) o := by
  cases h with
  | base _ h => exact h.rch
  | step _ h => exact h.rch
/-- marks at M: 0, some and J -/
def mkd (some J : List Nat) (k : Nat) : Prop := k = 0 ∨ k ∈ some ∨ k ∈ J
def Settled (ds : DL) (some J : List Nat) : Prop := ∀ v, v ≠ 0 → Rch ds (-1) v → v ∉ J → ∀ k k', Cm ds (mkd some J) v k → Cm ds (mkd some J) v k' → k = k'
theorem Cm.shape {C : Nat → Prop} (hc : ∀ k o, mk k → Rch ds (-1) k → Edg ds k o → C o) (hm : ∀ o, C o → mk o) (h : Cm ds mk b k) : mk k ∧ Rch ds (-1) k ∧ (C b ∨ (Dm ds k b ∧ b ≠ k ∧ ∃ w, Pth ds (-1) k w b ∧ ∀ x ∈ w, x ≠ k → x ≠ b → ¬ mk x)) := by
  induction h with
  | @src a b h1 h2 h3 =>
    refine ⟨h2, h1, ?_⟩
    by_cases e : Dm ds a b ∧ b ≠ a
    · exact .inr ⟨e.1, e.2, [a, b], .cons h3 (by omega) (.one (by omega)), fun x hx h4 h5 => by
        rcases List.mem_cons.mp hx with z | hx
        · exact (h4 z).elim
        · exact (h5 (List.mem_singleton.mp hx)).elim⟩
    · exact .inl (hc a b h2 h1 ⟨⟨a, .refl h1, h3⟩, by
        by_cases z : Dm ds a b
        · exact .inr (Classical.byContradiction fun y => e ⟨z, y⟩)
        · exact .inl z⟩)
  | @pass a b k h1 h2 h3 h4 ih =>
    obtain ⟨q1, q2, q3⟩ := ih
    refine ⟨q1, q2, ?_⟩
    rcases q3 with q3 | ⟨q3, q4, w, q5, q6⟩
    · exact (h2 (hm a q3)).elim
    · by_cases e : Dm ds k b ∧ b ≠ k
      · refine .inr ⟨e.1, e.2, w ++ [b], q5.snoc h4 (by omega), fun x hx h5 h6 => ?_⟩
        rcases List.mem_append.mp hx with hx | hx
        · by_cases z : x = a
          · exact z ▸ h2
          · exact q6 x hx h5 z
        · exact (h6 (List.mem_singleton.mp hx)).elim
      · exact .inl (hc k b q1 q2 ⟨⟨a, q3, h4⟩, by
          by_cases z : Dm ds k b
          · exact .inr (Classical.byContradiction fun y => e ⟨z, y⟩)
          · exact .inl z⟩)
/-- marks closed under edges are settled -/
theorem closed_settled (hc : ∀ k o, mkd some J k → Rch ds (-1) k → Edg ds k o → o ∈ J ∨ o = 0) : Settled ds some J := by
  intro v h0 hv hJ
  have hC : ∀ {k}, Cm ds (mkd some J) v k → mkd some J k ∧ Rch ds (-1) k ∧ Dm ds k v ∧ v ≠ k ∧ ∃ w, Pth ds (-1) k w v ∧ ∀ x ∈ w, x ≠ k → x ≠ v → ¬ mkd some J x := fun {k} h => by
    obtain ⟨h1, h2, h3⟩ := h.shape (C := fun o => o ∈ J ∨ o = 0) hc (fun o ho => ho.elim (fun z => .inr (.inr z)) .inl)
    rcases h3 with h3 | h3
    · exact (h3.elim hJ h0).elim
    · exact ⟨h1, h2, h3⟩
  have key : ∀ k k', Cm ds (mkd some J) v k → Cm ds (mkd some J) v k' → Dm ds k k' → k = k' := fun k k' h h' hd => by
    refine Classical.byContradiction fun hne => ?_
    obtain ⟨_, hk, h1, h2, w, h3, h4⟩ := hC h
    obtain ⟨hm', _, h1', h2', _⟩ := hC h'
    have hn : Rch ds (k' : Int) k := Classical.byContradiction fun z => hne (hd.antisymm ⟨hk, z⟩)
    have hin : k' ∈ w := Classical.byContradiction fun z => by
      obtain ⟨p, hp⟩ := hn.pth
      obtain ⟨w', rfl⟩ := h3.fst
      have h5 : Pth ds (k' : Int) k (k :: w') v := h3.past fun x hx y => z (by
        have : x = k' := by omega
        exact this ▸ hx)
      have := hp.append h5
      exact h1'.2 (this.rch0 v this.mem_last)
    exact h4 k' hin (Ne.symm hne) (Ne.symm h2') hm'
  intro k k' h h'
  rcases (hC h).2.2.1.total (hC h').2.2.1 with hd | hd
  · exact key k k' h h' hd
  · exact (key k' k h' h hd).symm
/-- what goes out of a room -/
def Out (ds : DL) (mk : Nat → Prop) (b x : Nat) : Prop := (mk b ∧ x = b) ∨ (¬ mk b ∧ Cm ds mk b x)
theorem Out.cm (h : Out ds mk p x) (hp : Rch ds (-1) p) (hd : (p, o) ∈ ds) : Cm ds mk o x := by
  rcases h with ⟨h, rfl⟩ | ⟨h1, h2⟩
  · exact .src hp h hd
  · exact .pass hp h1 h2 hd
theorem Out.along (h : Pth ds s a w b) : ∀ {x0 : Nat}, Rch ds (-1) a → Out ds mk a x0 → ∃ x, Out ds mk b x ∧ (x = x0 ∨ x ∈ w) := by
  induction h with
  | one _ => exact fun {x0} _ h => ⟨x0, h, .inl rfl⟩
  | @cons a c b w h1 h2 h3 ih =>
    intro x0 ha h
    have hc := ha.next h1
    have hcm := h.cm ha h1
    obtain ⟨w', rfl⟩ := h3.fst
    by_cases hm : mk c
    · obtain ⟨x, q1, q2⟩ := ih hc (.inl ⟨hm, rfl⟩)
      exact ⟨x, q1, .inr (q2.elim (fun z => z ▸ List.mem_cons_of_mem _ List.mem_cons_self) (List.mem_cons_of_mem _))⟩
    · obtain ⟨x, q1, q2⟩ := ih hc (.inr ⟨hm, hcm⟩)
      exact ⟨x, q1, q2.elim .inl fun z => .inr (List.mem_cons_of_mem _ z)⟩
/-- a settled set holds what is at the edge of its marks -/
theorem settled_edge (hS : Settled ds some J) (hm : mkd some J r) (he : Edg ds r o) : o ∈ J ∨ o = 0 := by
  refine Classical.byContradiction fun hno => ?_
  have hoJ : o ∉ J := fun z => hno (.inl z)
  have ho0 : o ≠ 0 := fun z => hno (.inr z)
  have hor := he.rch
  obtain ⟨⟨p, hp, hpo⟩, hed⟩ := he
  -- a mark that r guards
  obtain ⟨x, hx, hxr⟩ : ∃ x, Cm ds (mkd some J) o x ∧ Dm ds r x := by
    obtain ⟨w, hw⟩ := hp.1.way
    obtain ⟨u, v, rfl, h1, h2, h3⟩ := hw.p.split (hp.mem hw.p)
    obtain ⟨x, hx, hxm⟩ := Out.along (mk := mkd some J) h3 hp.rch1 (.inl ⟨hm, rfl⟩)
    have hxm2 : x ∈ r :: v := hxm.elim (fun z => z ▸ List.mem_cons_self) id
    refine ⟨x, hx.cm hp.1 hpo, ?_⟩
    rcases List.mem_cons.mp hxm2 with rfl | hxv
    · exact .refl hp.rch1
    · refine ⟨h3.rch hp.rch1 x hxm2, fun hr => hp.2 ?_⟩
      obtain ⟨u2, v2, e2, h4, h5, h6⟩ := h3.split hxm2
      have nd := (List.nodup_append.mp hw.nd).2.1
      have hrx : r ∉ x :: v2 := fun z => by
        rw [e2] at nd
        have h7 : r ∈ u2 := by
          cases u2 with
          | nil =>
            have := (List.cons.inj e2).1
            subst this
            exact ((List.nodup_cons.mp nd).1 (by
              have e3 := (List.cons.inj e2).2
              rw [← e3]
              exact hxv)).elim
          | cons y u2 =>
            have := (List.cons.inj e2).1
            subst this
            exact List.mem_cons_self
        exact (List.nodup_append.mp nd).2.2 r h7 r z rfl
      obtain ⟨q, hq⟩ := hr.pth
      have h8 : Pth ds (r : Int) x (x :: v2) p := h6.past fun y hy z => hrx (by
        have : y = r := by omega
        exact this ▸ hy)
      have := hq.append h8
      exact this.rch0 p this.mem_last
  -- a mark that r doesn't guard
  obtain ⟨y, hy, hyr⟩ : ∃ y, Cm ds (mkd some J) o y ∧ ¬ Dm ds r y := by
    have hpath : ∃ u q, Pth ds (-1) 0 u q ∧ (q, o) ∈ ds ∧ r ∉ u := by
      rcases hed with hed | rfl
      · have hr : Rch ds (r : Int) o := Classical.byContradiction fun z => hed ⟨hor, z⟩
        obtain ⟨w, hw⟩ := hr.way
        obtain ⟨u, q, rfl, h1, h2⟩ := hw.p.pred (Ne.symm ho0)
        exact ⟨u, q, h1.past fun x _ => by omega, h2, fun z => h1.ne r z rfl⟩
      · obtain ⟨w, hw⟩ := hor.way
        obtain ⟨u, q, rfl, h1, h2⟩ := hw.p.pred (Ne.symm ho0)
        exact ⟨u, q, h1, h2, fun z => (List.nodup_append.mp hw.nd).2.2 _ z _ List.mem_cons_self rfl⟩
    obtain ⟨u, q, h1, h2, h3⟩ := hpath
    obtain ⟨u', rfl⟩ := h1.fst
    obtain ⟨y, hy, hym⟩ := Out.along (mk := mkd some J) h1 (.zero (by decide)) (.inl ⟨.inl rfl, rfl⟩)
    have hyu : y ∈ 0 :: u' := hym.elim (fun z => z ▸ List.mem_cons_self) id
    exact ⟨y, hy.cm (h1.rch0 q h1.mem_last) h2, fun hd => by
      obtain ⟨a1, a2, e, _, h4, _⟩ := h1.split hyu
      exact h3 (by
        rw [e]
        rcases List.mem_append.mp (hd.mem h4) with z | z
        · exact List.mem_append_left _ z
        · exact List.mem_append_right _ (List.mem_singleton.mp z ▸ List.mem_cons_self))⟩
  exact hyr (hS o ho0 hor hoJ x y hx hy ▸ hxr)
theorem settled_jn (hS : Settled ds some J) (h : Jn ds some o) : o ∈ J ∨ o = 0 := by
  induction h with
  | base h1 h2 => exact settled_edge hS (h1.elim .inl fun z => .inr (.inl z)) h2
  | step h1 h2 ih => exact settled_edge hS (ih.elim (fun z => .inr (.inr z)) .inl) h2
open Classical in
/-- the joins, rising -/
noncomputable def jns (n : Nat) (ds : DL) (some : List Nat) : List Nat := (List.range n).filter fun k => decide (Jn ds some k ∧ k ≠ 0)
theorem jns_mem {n : Nat} (hn : ∀ k, Rch ds (-1) k → k < n) : o ∈ jns n ds some ↔ Jn ds some o ∧ o ≠ 0 := by
  classical
  unfold jns
  rw [List.mem_filter, decide_eq_true_iff, List.mem_range]
  exact ⟨fun h => h.2, fun h => ⟨hn o h.1.rch, h⟩⟩
theorem jns_settled {n : Nat} (hn : ∀ k, Rch ds (-1) k → k < n) : Settled ds some (jns n ds some) := by
  refine closed_settled fun k o hm hk he => ?_
  by_cases h0 : o = 0
  · exact .inr h0
  · refine .inl ((jns_mem hn).mpr ⟨?_, h0⟩)
    rcases hm with hm | hm | hm
    · exact .base (.inl hm) he
    · exact .base (.inr hm) he
    · exact .step ((jns_mem hn).mp hm).1 he
theorem jns_least {n : Nat} (hn : ∀ k, Rch ds (-1) k → k < n) (hS : Settled ds some J) : ∀ o ∈ jns n ds some, o ∈ J := fun o ho => by
  obtain ⟨h1, h2⟩ := (jns_mem hn).mp ho
  exact (settled_jn hS h1).resolve_right h2
end
end Mp

/-! marks.joins. -/
namespace Mp
open PySem L2 Evl
def sp_joins (g : Gb) : Sp := fun vs H Q E => ∃ (p a : Addr) (N : Nt) (ns : List Int), vs = [.ref p, .ref a] ∧ NetAt g H p N ∧ H a = some (.lst (ns.map V.int)) ∧ ns.length ≤ 900 ∧
  (∀ rs : List Nat, ns = rs.map (fun (k : Nat) => (k : Int)) → (∀ r ∈ rs, Rch N.ds (-1) r) → RetL (nvs (jns N.n N.ds rs)) H Q) ∧ ((∃ k ∈ ns, ¬ N.has k) → RetX E g.cR H) ∧ ((∀ k ∈ ns, N.has k) → (∃ r : Nat, (r : Int) ∈ ns ∧ ¬ Rch N.ds (-1) r) → RetX E g.cU H)
/-! joins: slots 0 net 1 some 2 edges 3 room 4 found 5 row 6 at -/
def t_joins_b1 (g : Gb) (E : XK)  : TS := sDPut (tVar 2) (tVar 3) (tCall (sp_edge_of g) [] E0 (tCons (tVar 0) (tCons (tCall (sp_guarded g) [] E0 (tCons (tVar 0) (tCons (tVar 3) tNil))) (tCons (tVar 3) tNil))))
def t_joins_b2 (g : Gb) (E : XK)  : TS := tIfS (tB (tDNotIn (tVar 3) (tVar 4))) (tSeq (sDPut (tVar 4) (tVar 3) (tC (.bl true)))
  (tIfS (tTest (tOp (rIn g.K true) (tVar 3) (tVar 5))) (tDrop (tBM g.K "list" rAppend (tVar 5) (tCons (tVar 3) tNil))) tNext)) tNext
def t_joins_b3 (g : Gb) (E : XK)  : TS := tSeq (tFor (iList g.K (tDGet (tVar 2) (tOp (rIxL g.K) (tVar 5) (tVar 6)))) (gName 3) (t_joins_b2 g E))
  (tAsg (tOp rAddI (tVar 6) (tC (.int 1))) (gName 6))
def t_joins (g : Gb) (E : XK) : TS := tSeq (tDrop (tCall (sp_ask_reached g) [] E (tCons (tVar 0) (tCons (tVar 1) tNil))))
  (tSeq (tAsg tDNewK (gName 2))
  (tSeq (tFor (iList g.K (tCall (sp_reached g) [] E0 (tCons (tVar 0) tNil))) (gName 3) (t_joins_b1 g E))
  (tSeq (tAsg tDNewK (gName 4))
  (tSeq (tAsg (tCB (rSortedSet g.w) (tCons (tCB (rSetOf g.K g.w) (tCons (tOp rCat (tVar 1) (tLst (tCons (tC (.int 0)) tNil))) tNil)) tNil)) (gName 5))
  (tSeq (tAsg (tC (.int 0)) (gName 6))
  (tSeq (tWhile (tTest (tOp rLtI (tVar 6) (tCB (rLenS g.K) (tCons (tVar 5) tNil)))) (t_joins_b3 g E))
  (tRet (tCB (rSortedI g.K) (tCons (tLc (iList g.K (tCB rListD (tCons (tVar 4) tNil))) (gName 3) (tTest (tOp rNe (tVar 3) (tC (.int 0)))) (tVar 3) [3]) tNil)))))))))
abbrev N_joins : List Str := ["net", "some", "edges", "room", "found", "row", "at"]

section
variable {g : Gb} {σ : L2.St} {H H' B : Hp} {D : Ends} {E : XK} {Q : VK} {vs : List V} {p : Addr} {N : Nt} {te tn tr ta tb td ti : TE} {K : PySem.W.Frag} {r k o : Nat}
theorem edge_mem (ok : N.Ok) : o ∈ N.edge r ↔ Edg N.ds r o := by
  unfold Nt.edge Nt.edgeL
  rw [List.mem_filter, Bool.and_eq_true, Bool.or_eq_true, List.any_eq_true, List.mem_range, Bool.not_eq_true', decide_eq_false_iff_not, decide_eq_true_iff, mem_under ok]
  constructor
  · rintro ⟨_, ⟨x, h1, h2⟩, h3⟩
    exact ⟨⟨x, (mem_under ok).mp h1, of_decide_eq_true h2⟩, h3⟩
  · rintro ⟨⟨x, h1, h2⟩, h3⟩
    exact ⟨(ok.ends _ h2).2, ⟨x, (mem_under ok).mpr h1, decide_eq_true h2⟩, h3⟩
theorem snoc_nd {l : List Nat} {x : Nat} (nd : l.Nodup) (h : x ∉ l) : (l ++ [x]).Nodup := List.nodup_append.mpr ⟨nd, by simp, fun a ha b hb e => h (by rw [List.mem_singleton.mp hb] at e; exact e ▸ ha)⟩
theorem nvs_snoc {l : List Nat} {x : Nat} : nvs l ++ [nv x] = nvs (l ++ [x]) := by
  unfold nvs
  rw [List.map_append]
  rfl
theorem pure_joins (h : sp_joins g vs H Q E) : t_joins g E { nx := fun _ H' => Q .non H', rt := Q } (start N_joins vs) H := by
  obtain ⟨p, a, N, ns, rfl, hn, hs, hlen, k1, k2, k3⟩ := h
  have hm := hn.ok.most
  refine q_dropX (ea_cons (ev_var rfl) (ea_cons (ev_var rfl) ea_nil)) fun H1 e1 => ⟨p, a, N, ns, rfl, hn.mono e1, sq_of (e1 _ _ hs), fun hall H2 e2 => ?_, fun hh => (k2 hh).mono e1, fun h1 h2 => (k3 h1 h2).mono e1⟩
  obtain ⟨rs, rfl, hr⟩ := rooms_of hall
  have k := k1 rs rfl hr
  clear k1 k2 k3 hall
  have e12 := e1.trans e2
  have lts : ∀ {k}, Rch N.ds (-1) k → k < N.n := fun h => h.lt hn.ok.pos hn.ok.ends
  -- edges = {}
  refine q_raw fun d hd => ?_
  obtain ⟨H3, hH3⟩ : ∃ H3, H3 = upd H2 d (.dK []) := ⟨_, rfl⟩
  rw [← hH3]
  have e3 : Ex H2 H3 := by rw [hH3]; exact Ex.new hd
  have hd3 : H3 d = some (.dK (dK (dL [] fun _ => 0))) := by rw [hH3, upd_same]; rfl
  clear hH3
  have tnd : N.there.Nodup := List.nodup_range.filter _
  have tl := there_len hn.ok
  have lt_ : (nvs N.there).length = N.there.length := List.length_map ..
  refine q_forNLn (el_reached (N := N) (ev_var rfl) (hn.mono (e12.trans e3)))
    (fun q i σ' H' => ∃ (ad : Nat → Addr) (s3 : Option V), σ' = [some (.ref p), some (.ref a), some (.ref d), s3, none, none, none] ∧ Ex H2 H' ∧ q ≠ d ∧ H' q = some (.lst (nvs N.there)) ∧ H' d = some (.dK (dK (dL (N.there.take i) ad))) ∧ ∀ h ∈ N.there.take i, ad h ≠ d ∧ H' (ad h) = some (.lst (nvs (N.edge h))))
    (fun q H4 hq e4 hq4 => ⟨fun _ => 0, _, rfl, e3.trans e4, (fun z => by rw [z, hd3] at hq; cases hq), hq4, e4 _ _ hd3, fun h hh => by cases hh⟩)
    (fun q i σ' H' _ hP => by
      obtain ⟨ad, s3, _, _, _, hq, _⟩ := hP
      exact sq_of hq) (fun q i x σ' H' hx hP => ?_) (fun q σ' H' hP => ?_)
  · obtain ⟨ad, s3, rfl, eX, nqd, hq, hdm, hlist⟩ := hP
    obtain ⟨o, ho, rfl⟩ := nvs_at hx
    have hor : Rch N.ds (-1) o := (mem_there hn.ok).mp (List.mem_of_getElem? ho)
    have hil : i < N.there.length := (List.getElem?_eq_some_iff.mp ho).1
    have hot : o ∉ N.there.take i := fun hm' => by
      obtain ⟨j, hj, e⟩ := List.mem_iff_getElem.mp hm'
      rw [List.length_take] at hj
      rw [List.getElem_take] at e
      have h2 := (List.getElem?_eq_some_iff.mp ho).2
      have := (List.getElem_inj (h₀ := by omega) (h₁ := hil) tnd).mp (e.trans h2.symm)
      omega
    have hn2 := hn.mono (e12.trans eX)
    refine ⟨_, rfl, el_guarded (N := N) (s := (o : Int)) (ev_var rfl) (ev_var rfl) hn2 H' (Ex.refl _) _ fun ul H4 hul e4 hul4 => ⟨_, rfl, p, ul, N, N.under o, o, rfl, hn2.mono e4, hul4, fun x hx => List.mem_range.mp (List.mem_filter.mp hx).1, by have := under_len (s := (o : Int)) hn.ok; omega, fun el H5 hel e5 hel5 => ?_⟩⟩
    have e45 := e4.trans e5
    refine ⟨_, rfl, _, rfl, d, _, rfl, DPut.k (k := .inl (o : Int)) (e45 _ _ hdm) (by unfold dK dL; rw [List.length_map, List.length_map, List.length_take]; exact sz_lt (by omega)), ?_⟩
    rw [dK_put (by rw [ks_dL]; exact hot)]
    obtain ⟨ad2, hA1, hA2⟩ : ∃ ad2 : Nat → Addr, ad2 o = el ∧ ∀ x, x ≠ o → ad2 x = ad x := ⟨fun x => if x = o then el else ad x, if_pos rfl, fun x hx => if_neg hx⟩
    have ht1 : N.there.take (i + 1) = N.there.take i ++ [o] := by rw [List.take_add_one, ho]; rfl
    have ed : dL (N.there.take i) ad ++ [(o, V.ref el)] = dL (N.there.take (i + 1)) ad2 := by
      rw [ht1]
      unfold dL
      rw [List.map_append]
      congr 1
      · exact List.map_congr_left fun x hx => by rw [hA2 x fun y => hot (y ▸ hx)]
      · simp [hA1]
    have neld : el ≠ d := fun z => by
      rw [z, e4 _ _ hdm] at hel
      cases hel
    refine ⟨ad2, _, rfl, exU (eX.trans e45) hd, nqd, by rw [upd_ne nqd]; exact e45 _ _ hq, by rw [upd_same, ed], fun h hh => ?_⟩
    rw [ht1] at hh
    by_cases e : h = o
    · subst e
      rw [hA1]
      exact ⟨neld, by rw [upd_ne neld]; exact hel5⟩
    · have hh2 : h ∈ N.there.take i := by
        rcases List.mem_append.mp hh with h1 | h1
        · exact h1
        · exact (e (List.mem_singleton.mp h1)).elim
      obtain ⟨b1, b2⟩ := hlist h hh2
      rw [hA2 h e]
      exact ⟨b1, by rw [upd_ne b1]; exact e45 _ _ b2⟩
  obtain ⟨ad, s3, rfl, eX, nqd, _, hdm, hlist⟩ := hP
  rw [lt_, List.take_length] at hdm hlist
  clear nqd
  have hget : ∀ {h : Nat} {σ : L2.St} {H'' : Hp} {ti : TE}, Ex H' H'' → σ[2]? = some (some (.ref d)) → Rch N.ds (-1) h → Ev ti σ H'' (nv h) → Ev (tDGet (tVar 2) ti) σ H'' (.ref (ad h)) := fun {h σ H'' ti} e h2 hh hi A1 a1 Q q => ⟨_, h2, hi A1 a1 _ fun A2 a2 => ⟨d, .ref (ad h), rfl, by
    have := DGet.k (k := .inl (h : Int)) (a2 _ _ (a1 _ _ (e _ _ hdm)))
    rw [dL_get tnd ((mem_there hn.ok).mpr hh)] at this
    exact this, q A2 a2⟩⟩
  have e2X := e12.trans eX
  -- found = {}
  refine q_raw fun f hf => ?_
  obtain ⟨H4, hH4⟩ : ∃ H4, H4 = upd H' f (.dK []) := ⟨_, rfl⟩
  rw [← hH4]
  have e4 : Ex H' H4 := by rw [hH4]; exact Ex.new hf
  have hf4 : H4 f = some (.dK (dK (dT []))) := by rw [hH4, upd_same]; rfl
  clear hH4
  -- row
  obtain ⟨row0, hrow0⟩ : ∃ row0, row0 = rising N.n (rs.map (fun (k : Nat) => (k : Int)) ++ [0]) := ⟨_, rfl⟩
  have hr0m : ∀ x, x ∈ row0 ↔ x = 0 ∨ x ∈ rs := fun x => by
    rw [hrow0]
    unfold rising
    rw [List.mem_filter, List.mem_range, decide_eq_true_iff, List.mem_append, List.mem_map, List.mem_singleton]
    constructor
    · rintro ⟨_, ⟨y, h1, h2⟩ | h⟩
      · exact .inr (nI h2 ▸ h1)
      · exact .inl (by omega)
    · rintro (rfl | h)
      · exact ⟨hn.ok.pos, .inr rfl⟩
      · exact ⟨lts (hr x h), .inl ⟨x, h, rfl⟩⟩
  have hr0nd : row0.Nodup := by rw [hrow0]; exact List.nodup_range.filter _
  refine q_asgL (xs := nvs row0) ?_ fun rw_ H5 hrw e5 hrw5 => ?_
  · have := el_sset (K := g.K) (w := g.w) (σ := [some (V.ref p), some (V.ref a), some (V.ref d), s3, some (V.ref f), none, none]) (H := H4) (te := tOp rCat (tVar 1) (tLst (tCons (tC (.int 0)) tNil))) (ns := rs.map (fun (k : Nat) => (k : Int)) ++ [0]) (m := N.n) (by
      rw [List.map_append]
      exact el_catL (ev_var rfl) (el_lst (ea_cons ev_c ea_nil) (by show 1 ≤ 100000; decide)) ((e2X.trans e4) _ _ hs) (by rw [List.length_map]; show _ + 1 ≤ 100000; omega)) (by rw [List.length_append]; show _ + 1 ≤ 1000; omega) (by omega) (fun z hz => by
      rcases List.mem_append.mp hz with hz | hz
      · obtain ⟨y, hy, rfl⟩ := List.mem_map.mp hz
        have := lts (hr y hy)
        omega
      · rw [List.mem_singleton.mp hz]
        have := hn.ok.pos
        omega)
    rw [hrow0]
    exact this
  have hrw0 : H' rw_ = none := fresh_back e4 hrw
  have nrf : rw_ ≠ f := fun z => by
    rw [z, hf4] at hrw
    cases hrw
  refine q_asg ev_c fun H6 e6 => ?_
  have small : ∀ {m : List Nat}, m.Nodup → (∀ o ∈ m, o < N.n) → m.length ≤ N.n := fun {m} nd hm => by
    have h1 := nd.length_le_of_subset (l₂ := List.range N.n) fun x hx => List.mem_range.mpr (hm x hx)
    rw [List.length_range] at h1
    exact h1
  -- R: the row, m: what is found
  obtain ⟨I, hI⟩ : ∃ I : List Nat → List Nat → Prop, I = fun R m => R.Nodup ∧ m.Nodup ∧ (∀ x ∈ R, Rch N.ds (-1) x ∧ (x ∈ row0 ∨ x ∈ m)) ∧ (∀ o ∈ m, Jn N.ds rs o ∧ o ∈ R) ∧ ∀ x ∈ row0, x ∈ R := ⟨_, rfl⟩
  have IR : ∀ {R m}, I R m → R.length ≤ N.n ∧ m.length ≤ N.n := fun {R m} h => by
    rw [hI] at h
    exact ⟨small h.1 fun o ho => lts (h.2.2.1 o ho).1, small h.2.1 fun o ho => lts (h.2.2.2.1 o ho).1.rch⟩
  refine q_while (fun z σ' H'' => ∃ (R m : List Nat) (at_ : Nat) (s3 : Option V), σ' = [some (.ref p), some (.ref a), some (.ref d), s3, some (.ref f), some (.ref rw_), some (nv at_)] ∧ Ex H' H'' ∧ H'' f = some (.dK (dK (dT m))) ∧ H'' rw_ = some (.lst (nvs R)) ∧ I R m ∧ at_ ≤ R.length ∧ (∀ j x o, j < at_ → R[j]? = some x → o ∈ N.edge x → o ∈ m) ∧ z = N.n - at_) N.n
    ⟨row0, [], 0, _, rfl, (e4.trans e5).trans e6, e6 _ _ (e5 _ _ hf4), e6 _ _ hrw5, by rw [hI]; exact ⟨hr0nd, by simp, fun x hx => ⟨((hr0m x).mp hx).elim (fun z => z ▸ .zero (by decide)) (hr x), .inl hx⟩, (fun o ho => by cases ho), fun x hx => hx⟩, Nat.zero_le _, fun j x o hj => absurd hj (Nat.not_lt_zero _), rfl⟩ fun z σ' H'' hW => ?_
  obtain ⟨R, m, at_, s3', rfl, eY, hfm, hrwR, hIR, hat, hcl, rfl⟩ := hW
  have hlR := (IR hIR).1
  have hkl : (nvs R).length = R.length := List.length_map ..
  refine ⟨decide (at_ < R.length), et_is (et_test (ev_op (ev_var rfl) (ev_len (ev_var rfl) (sq_of hrwR)) rv_I0)) (by rw [hkl]; exact decide_eq_decide.mpr ⟨fun h => by omega, fun h => by omega⟩), fun hb H7 e7 => ?_, fun hb H7 e7 => ?_⟩
  · have hlt : at_ < R.length := of_decide_eq_true hb
    obtain ⟨c, hc⟩ : ∃ c, R[at_]? = some c := ⟨_, List.getElem?_eq_getElem hlt⟩
    have hcr : Rch N.ds (-1) c := by
      rw [hI] at hIR
      exact (hIR.2.2.1 c (List.mem_of_getElem? hc)).1
    obtain ⟨hadc, hlc⟩ := hlist c ((mem_there hn.ok).mpr hcr)
    have nae : ∀ {q : Addr}, H' q = none → ad c ≠ q := fun {q} hq z => by
      rw [z, hq] at hlc
      cases hlc
    refine ⟨fun σ2 H2 => ∃ (R m : List Nat) (s3 : Option V), σ2 = [some (.ref p), some (.ref a), some (.ref d), s3, some (.ref f), some (.ref rw_), some (nv (at_ + 1))] ∧ Ex H' H2 ∧ H2 f = some (.dK (dK (dT m))) ∧ H2 rw_ = some (.lst (nvs R)) ∧ I R m ∧ at_ + 1 ≤ R.length ∧ (∀ j x o, j < at_ + 1 → R[j]? = some x → o ∈ N.edge x → o ∈ m), fun σ2 H2 hN => ?_, ?_⟩
    · obtain ⟨R, m, s3, h1, h2, h3, h4, h5, h6, h7⟩ := hN
      have := (IR h5).1
      exact ⟨N.n - (at_ + 1), by omega, R, m, at_ + 1, s3, h1, h2, h3, h4, h5, h6, h7, rfl⟩
    have le_ : (nvs (N.edge c)).length = (N.edge c).length := List.length_map ..
    have eY7 := eY.trans e7
    refine q_forLn (hget eY7 rfl hcr (ev_op (ev_var rfl) (ev_var rfl) (rv_ixL (sq_of (e7 _ _ hrwR)) (atI_nat (by rw [List.getElem?_map, hc]; rfl))))) (sq_of (eY7 _ _ hlc))
      (fun i σ' H2 => ∃ (R m : List Nat) (s3 : Option V), σ' = [some (.ref p), some (.ref a), some (.ref d), s3, some (.ref f), some (.ref rw_), some (nv at_)] ∧ Ex H' H2 ∧ H2 f = some (.dK (dK (dT m))) ∧ H2 rw_ = some (.lst (nvs R)) ∧ I R m ∧ at_ < R.length ∧ R[at_]? = some c ∧ (∀ j x o, j < at_ → R[j]? = some x → o ∈ N.edge x → o ∈ m) ∧ ∀ j o, j < i → (N.edge c)[j]? = some o → o ∈ m)
      (fun H8 e8 => ⟨R, m, s3', rfl, eY7.trans e8, e8 _ _ (e7 _ _ hfm), e8 _ _ (e7 _ _ hrwR), hIR, hlt, hc, hcl, fun j o hj => absurd hj (Nat.not_lt_zero _)⟩)
      (fun i σ' H2 _ hP => by
        obtain ⟨R, m, s3, _, eZ, _⟩ := hP
        exact sq_of (eZ _ _ hlc)) (fun i x σ' H2 hx hP => ?_) (fun σ' H2 hP => ?_)
    · clear hcl hc hlt hat hIR hrwR hfm hlR hkl
      obtain ⟨R, m, s3, rfl, eZ, hfm, hrwR, hIR, hlt, hc, hcl, hdone⟩ := hP
      obtain ⟨o, ho, rfl⟩ := nvs_at hx
      have hoe : Edg N.ds c o := (edge_mem hn.ok).mp (List.mem_of_getElem? ho)
      have hlR := (IR hIR).1
      have hlm := (IR hIR).2
      have hkl : (nvs R).length = R.length := List.length_map ..
      have step : ∀ m2 : List Nat, (∀ x ∈ m, x ∈ m2) → o ∈ m2 → ∀ j o, j < i + 1 → (N.edge c)[j]? = some o → o ∈ m2 := fun m2 h1 h2 j o' hj ho' => by
        by_cases e : j = i
        · subst e
          rw [ho] at ho'
          exact Option.some.inj ho' ▸ h2
        · exact h1 _ (hdone j o' (by omega) ho')
      rw [hI] at hIR
      obtain ⟨i1, i2, i3, i4, i5⟩ := hIR
      have hJo : Jn N.ds rs o := by
        rcases (i3 c (List.mem_of_getElem? hc)).2 with h | h
        · exact .base ((hr0m c).mp h) hoe
        · exact .step (i4 c h).1 hoe
      refine s_when (et_dnin (r := o) (ev_var rfl) (ev_var rfl) hfm) (fun hb H8 e8 => ?_) (fun hb H8 e8 => ?_)
      · have hom : o ∉ m := by
          rw [ks_dT, Bool.not_eq_true', decide_eq_false_iff_not] at hb
          exact hb
        refine s_mark (D := { nx := _, rt := _, bk := _, ct := _ }) (m := m) (r := o) (e8 _ _ hfm) (ev_var rfl) (ev_var rfl) (by omega) fun H9 m2 e9 hm2 => ?_
        obtain ⟨rfl, _⟩ : m2 = m ++ [o] ∧ o ∉ m := hm2.resolve_left fun h => hom h.2
        obtain ⟨H10, hH10⟩ : ∃ H10, H10 = upd H9 f (.dK (dK (dT (m ++ [o])))) := ⟨_, rfl⟩
        rw [← hH10]
        have e89 := e8.trans e9
        have eZ10 : Ex H' H10 := by rw [hH10]; exact exU (eZ.trans e89) hf
        have hf10 : H10 f = some (.dK (dK (dT (m ++ [o])))) := by rw [hH10, upd_same]
        have hrw10 : H10 rw_ = some (.lst (nvs R)) := by rw [hH10, upd_ne nrf]; exact e89 _ _ hrwR
        clear hH10
        have hm2nd := snoc_nd i2 hom
        refine s_when (b := !decide (o ∈ R)) (et_is (et_test (ev_op (ev_var rfl) (ev_var rfl) (rv_niL (sq_of hrw10) rfl (flat_nvs _)))) (by rw [in_nvs])) (fun hb2 H11 e11 => ?_) (fun hb2 H11 e11 => ?_)
        · have hoR : o ∉ R := by
            rw [Bool.not_eq_true', decide_eq_false_iff_not] at hb2
            exact hb2
          refine s_app (xs := nvs R) (e11 _ _ hrw10) (ev_var rfl) (ev_var rfl) (by omega) fun H12 e12' => ⟨R ++ [o], m ++ [o], _, rfl, exU ((eZ10.trans e11).trans e12') hrw0, by rw [upd_ne (Ne.symm nrf)]; exact e12' _ _ (e11 _ _ hf10), by rw [upd_same, nvs_snoc], ?_, by rw [List.length_append]; omega, by rw [List.getElem?_append_left hlt]; exact hc, fun j x o' h1 h2 h3 => ?_, step _ (fun x hx => List.mem_append_left _ hx) (List.mem_append_right _ List.mem_cons_self)⟩
          · rw [hI]
            refine ⟨snoc_nd i1 hoR, hm2nd, fun x hx => ?_, fun x hx => ?_, fun x hx => List.mem_append_left _ (i5 x hx)⟩
            · rcases List.mem_append.mp hx with hx | hx
              · exact ⟨(i3 x hx).1, (i3 x hx).2.elim .inl fun z => .inr (List.mem_append_left _ z)⟩
              · rw [List.mem_singleton.mp hx]
                exact ⟨hJo.rch, .inr (List.mem_append_right _ List.mem_cons_self)⟩
            · rcases List.mem_append.mp hx with hx | hx
              · exact ⟨(i4 x hx).1, List.mem_append_left _ (i4 x hx).2⟩
              · rw [List.mem_singleton.mp hx]
                exact ⟨hJo, List.mem_append_right _ List.mem_cons_self⟩
          · rw [List.getElem?_append_left (by omega)] at h2
            exact List.mem_append_left _ (hcl j x o' h1 h2 h3)
        · have hoR : o ∈ R := nd_no hb2
          refine ⟨R, m ++ [o], _, rfl, eZ10.trans e11, e11 _ _ hf10, e11 _ _ hrw10, ?_, hlt, hc, fun j x o' h1 h2 h3 => List.mem_append_left _ (hcl j x o' h1 h2 h3), step _ (fun x hx => List.mem_append_left _ hx) (List.mem_append_right _ List.mem_cons_self)⟩
          rw [hI]
          refine ⟨i1, hm2nd, fun x hx => ⟨(i3 x hx).1, (i3 x hx).2.elim .inl fun z => .inr (List.mem_append_left _ z)⟩, fun x hx => ?_, i5⟩
          rcases List.mem_append.mp hx with hx | hx
          · exact i4 x hx
          · rw [List.mem_singleton.mp hx]
            exact ⟨hJo, hoR⟩
      · have hom : o ∈ m := by
          rw [ks_dT] at hb
          exact nd_no hb
        refine ⟨R, m, _, rfl, eZ.trans e8, e8 _ _ hfm, e8 _ _ hrwR, by rw [hI]; exact ⟨i1, i2, i3, i4, i5⟩, hlt, hc, hcl, step m (fun x hx => hx) hom⟩
    · clear hcl hc hlt hat hIR hrwR hfm hlR hkl
      obtain ⟨R, m, s3, rfl, eZ, hfm, hrwR, hIR, hlt, hc, hcl, hdone⟩ := hP
      rw [le_] at hdone
      refine s_asg (v := nv (at_ + 1)) (ev_op (ev_var rfl) ev_c rv_I0) fun H8 e8 => ⟨R, m, s3, rfl, eZ.trans e8, e8 _ _ hfm, e8 _ _ hrwR, hIR, hlt, fun j x o h1 h2 h3 => ?_⟩
      by_cases e : j = at_
      · subst e
        rw [hc] at h2
        have := Option.some.inj h2
        subst this
        obtain ⟨k2, hk2, e2⟩ := List.mem_iff_getElem.mp h3
        exact hdone k2 o hk2 (by rw [List.getElem?_eq_getElem hk2, e2])
      · exact hcl j x o (by omega) h2 h3
  · have hge : ¬ at_ < R.length := of_decide_eq_false hb
    have hIR2 := hIR
    rw [hI] at hIR2
    obtain ⟨i1, i2, i3, i4, i5⟩ := hIR2
    have hcl2 : ∀ x ∈ R, ∀ o ∈ N.edge x, o ∈ m := fun x hx o ho => by
      obtain ⟨j, hj, e⟩ := List.mem_iff_getElem.mp hx
      exact hcl j x o (by omega) (by rw [List.getElem?_eq_getElem hj, e]) ho
    have hmJ : ∀ o, o ∈ m ↔ Jn N.ds rs o := fun o => by
      refine ⟨fun h => (i4 o h).1, fun h => ?_⟩
      induction h with
      | base h1 h2 => exact hcl2 _ (i5 _ ((hr0m _).mpr h1)) _ ((edge_mem hn.ok).mpr h2)
      | step h1 h2 ih => exact hcl2 _ (i4 _ ih).2 _ ((edge_mem hn.ok).mpr h2)
    have hlm := (IR hIR).2
    refine s_retL (xs := nvs (jns N.n N.ds rs)) ?_ fun q H8 hq e8 hq8 => k q H8 (fresh_back ((e2X.trans eY).trans e7) hq) (((e2X.trans eY).trans e7).trans e8) hq8
    have key : EvL (tLc (iList g.K (tCB rListD (tCons (tVar 4) tNil))) (gName 3) (tTest (tOp rNe (tVar 3) (tC (.int 0)))) (tVar 3) [3]) [some (V.ref p), some (V.ref a), some (V.ref d), s3', some (V.ref f), some (V.ref rw_), some (nv at_)] H7 (nvs (m.filter fun x => !decide (x = 0))) :=
      el_lc (l := m) (R := fun (k : Nat) x => x = nv k) (fun x => !decide (x = 0)) nv (ei_listN (by
        have := el_dlist (td := tVar 4) (σ := [some (V.ref p), some (V.ref a), some (V.ref d), s3', some (V.ref f), some (V.ref rw_), some (nv at_)]) (H := H7) (ev_var rfl) (e7 _ _ hfm)
        rw [ks_dT] at this
        exact this) (paired_map (f := nv) (fun _ => rfl) _)) (by omega) (fun _ => rfl) (fun k x H8 hk hx e8 => by
        subst hx
        exact et_is (et_test (ev_op (ev_var rfl) ev_c (rv_ne rfl))) (congrArg (fun z => !z) (decide_eq_decide.mpr (nvI (b := 0))))) (fun k x H8 hk hx e8 _ => by
        subst hx
        exact ev_var rfl)
    classical
    unfold jns
    refine el_sort (n := N.n) key (i2.filter _) fun r => ?_
    rw [List.mem_filter, hmJ r, decide_eq_true_iff, Bool.not_eq_true', decide_eq_false_iff_not]
    exact ⟨fun h => ⟨lts h.1.rch, h⟩, fun h => h.2⟩
end
end Mp

/-! xs.count(True); the laws' _law_comes, _law_settled. -/
namespace Mp
open PySem L2 Evl
def rCntB (K : PySem.W.Frag) : V → List V → Hp → VK → Prop := fun x xs H Q => ∃ (p : Addr) (bs : List Bool), x = .ref p ∧ xs = [.bl true] ∧ SqL K H p (bs.map V.bl) ∧ Q (.int (bs.count true : Nat)) H
section
variable {X : Cx}
def tru : Value → Bool
  | .bool b => b
  | _ => false
theorem mt_bcount : MtR X "list.count" (rCntB X.K) := by
  intro pins s σ H x xs v us Q I rx rxs h
  obtain ⟨p, bs, rfl, rfl, hs, q⟩ := h
  cases rx
  obtain ⟨u, rfl, ru⟩ := rxs.one
  cases ru
  obtain ⟨its, rv, ⟨⟨cls, dd, data, sl⟩, n, ho, hc, hdn, hd⟩, hlen⟩ := I.list hs
  simp only at hc hd
  subst hc hd
  have hv : ∀ {bs : List Bool} {its : List Value}, Vals (bs.map V.bl) its → its = bs.map Value.bool := by
    intro bs
    induction bs with
    | nil =>
      intro its r
      cases r
      rfl
    | cons b bs ih =>
      intro its r
      cases r with
      | cons r1 r2 =>
        cases r1
        rw [ih r2]
        rfl
  have e := hv rv
  subst e
  refine call_meets PySem.F.slot_list_count ⟨_, ho, rfl⟩ PySem.F.entry_list_count (PySem.F.args_list_count_2 _ _) (SeqAt.list_countAt p (bs.map Value.bool).toArray n dd sl (.bool true) tru) ⟨ho, fun y hy => ?_, ?_⟩
  · obtain ⟨b, _, rfl⟩ := List.mem_map.mp (show y ∈ bs.map Value.bool by simpa using hy)
    have := eqAt_V (A := X.A.in1) (s := s) (y := V.bl b) (x := V.bl true) (u := .bool b) (v := .bool true) rfl rfl rfl rfl
    have e2 : eqV (V.bl b) (V.bl true) = tru (.bool b) := by cases b <;> rfl
    rw [e2] at this
    exact this
  · have ec : (bs.map Value.bool).toArray.toList.countP tru = bs.count true := by
      show (bs.map Value.bool).countP tru = bs.count true
      rw [List.countP_map]
      refine List.countP_congr fun b _ => ?_
      cases b <;> simp [tru]
    refine ⟨.int (bs.count true : Nat), H, I.tok _, ⟨s.toks, ?_⟩, q⟩
    show Value.int (((bs.map Value.bool).toArray.toList.countP tru : Nat) : Int) s.toks = Value.int ((bs.count true : Nat) : Int) s.toks
    rw [ec]
end
open Classical in
noncomputable def cmb (ds : DL) (mkb : Nat → Bool) (b k : Nat) : Bool := decide (Cm ds (fun k => mkb k = true) b k)
theorem cmb_iff {ds : DL} {mkb : Nat → Bool} {b k : Nat} : cmb ds mkb b k = true ↔ Cm ds (fun k => mkb k = true) b k := by
  classical
  unfold cmb
  exact decide_eq_true_iff
open Classical in
noncomputable def stl (ds : DL) (some J : List Nat) : Bool := decide (Settled ds some J)
theorem stl_iff {ds : DL} {some J : List Nat} : stl ds some J = true ↔ Settled ds some J := by
  classical
  unfold stl
  exact decide_eq_true_iff
theorem stl_no {ds : DL} {some J : List Nat} : stl ds some J = false ↔ ¬ Settled ds some J := by
  classical
  unfold stl
  exact decide_eq_false_iff_not
/-- at most one -/
theorem count_one {n : Nat} {f : Nat → Bool} : ((List.range n).map f).count true ≤ 1 ↔ ∀ i j, i < n → j < n → f i = true → f j = true → i = j := by
  have e : ((List.range n).map f).count true = ((List.range n).filter f).length := by
    rw [← List.countP_eq_length_filter]
    show List.countP _ _ = _
    rw [List.countP_map]
    refine List.countP_congr fun k _ => ?_
    cases h : f k <;> simp [h]
  rw [e]
  have nd : ((List.range n).filter f).Nodup := List.nodup_range.filter _
  constructor
  · intro h i j hi hj h1 h2
    have m1 : i ∈ (List.range n).filter f := List.mem_filter.mpr ⟨List.mem_range.mpr hi, h1⟩
    have m2 : j ∈ (List.range n).filter f := List.mem_filter.mpr ⟨List.mem_range.mpr hj, h2⟩
    match hl : (List.range n).filter f, h, m1, m2 with
    | [], _, m1, _ => cases m1
    | [x], _, m1, m2 => exact (List.mem_singleton.mp m1).trans (List.mem_singleton.mp m2).symm
    | x :: y :: l, h, _, _ => simp at h
  · intro h
    match hl : (List.range n).filter f, nd with
    | [], _ => simp
    | [x], _ => simp
    | x :: y :: l, nd =>
      have m1 : x ∈ (List.range n).filter f := by rw [hl]; simp
      have m2 : y ∈ (List.range n).filter f := by rw [hl]; simp
      have h1 := List.mem_filter.mp m1
      have h2 := List.mem_filter.mp m2
      have := h x y (List.mem_range.mp h1.1) (List.mem_range.mp h2.1) h1.2 h2.2
      subst this
      simp at nd
def sp__law_comes (g : Gb) : Sp := fun vs H Q _ => ∃ (pl tl ml : Addr) (N : Nt) (mkb : Nat → Bool), vs = [nv N.n, .ref pl, .ref tl, .ref ml] ∧ N.Ok ∧ PLt H pl (N.ds.map zp) ∧ H tl = some (.lst (bls N.n (rch N.ds (-1)))) ∧ H ml = some (.lst (bls N.n mkb)) ∧ ∀ q H2, H q = none → Ex H H2 → TbAt H2 q N.n (cmb N.ds mkb) → Q (.ref q) H2
def sp__law_settled (g : Gb) : Sp := fun vs H Q _ => ∃ (pl tl sl jl : Addr) (N : Nt) (so J : List Nat), vs = [nv N.n, .ref pl, .ref tl, .ref sl, .ref jl] ∧ N.Ok ∧ PLt H pl (N.ds.map zp) ∧ H tl = some (.lst (bls N.n (rch N.ds (-1)))) ∧ H sl = some (.lst (nvs so)) ∧ H jl = some (.lst (nvs J)) ∧ RetV (.bl (stl N.ds so J)) H Q
/-! _law_comes: slots 0 many 1 pairs 2 there 3 marked 4 come 5 k 6 more 7 pair 8 on -/
def t__law_comes_b1 (g : Gb)  : TS := tSeq (tAsg (tIf (tB (tOp (rIxL g.K) (tVar 3) (tOp (rIxT g.K) (tVar 7) (tC (.int 0))))) (tOp rEq (tVar 5) (tOp (rIxT g.K) (tVar 7) (tC (.int 0)))) (tOp (rIxL g.K) (tOp (rIxL g.K) (tVar 4) (tOp (rIxT g.K) (tVar 7) (tC (.int 0)))) (tVar 5))) (gName 8))
  (tIfS (tAnd (tB (tVar 8)) (tNot (tB (tOp (rIxL g.K) (tOp (rIxL g.K) (tVar 4) (tOp (rIxT g.K) (tVar 7) (tC (.int 1)))) (tVar 5))))) (tSeq (tAsg (tC (.bl true)) (gSub (tOp (rIxL g.K) (tVar 4) (tOp (rIxT g.K) (tVar 7) (tC (.int 1)))) (tVar 5) rSetL))
  (tAsg (tC (.bl true)) (gName 6))) tNext)
def t__law_comes_b2 (g : Gb)  : TS := tIfS (tB (tOp (rIxL g.K) (tVar 2) (tOp (rIxT g.K) (tVar 7) (tC (.int 0))))) (tFor (iRng1 (tCons (tVar 0) tNil)) (gName 5) (t__law_comes_b1 g)) tNext
def t__law_comes_b3 (g : Gb)  : TS := tSeq (tAsg (tC (.bl false)) (gName 6))
  (tFor (iList g.K (tVar 1)) (gName 7) (t__law_comes_b2 g))
def t__law_comes (g : Gb) : TS := tSeq (tAsg (tLc (iRng1 (tCons (tVar 0) tNil)) (gName 5) tYes (tOp rRep (tLst (tCons (tC (.bl false)) tNil)) (tVar 0)) [5]) (gName 4))
  (tSeq (tAsg (tC (.bl true)) (gName 6))
  (tSeq (tWhile (tB (tVar 6)) (t__law_comes_b3 g))
  (tRet (tVar 4))))
abbrev N__law_comes : List Str := ["many", "pairs", "there", "marked", "come", "k", "more", "pair", "on"]
/-! _law_settled: slots 0 many 1 pairs 2 there 3 some 4 joined 5 marked 6 k 7 come -/
def t__law_settled_b1 (g : Gb)  : TS := tIfS (tAnd (tB (tOp (rIxL g.K) (tVar 2) (tVar 6))) (tAnd (tTest (tOp (rIn g.K true) (tVar 6) (tVar 4))) (tTest (tOp rGtI (tBM g.K "list" (rCntB g.K) (tOp (rIxL g.K) (tVar 7) (tVar 6)) (tCons (tC (.bl true)) tNil)) (tC (.int 1)))))) (tRet (tC (.bl false))) tNext
def t__law_settled (g : Gb) : TS := tSeq (tAsg (tLc (iRng1 (tCons (tVar 0) tNil)) (gName 6) tYes (tOrV (tOp rEq (tVar 6) (tC (.int 0))) (tOrV (tOp (rIn g.K false) (tVar 6) (tVar 3)) (tOp (rIn g.K false) (tVar 6) (tVar 4)))) [6]) (gName 5))
  (tSeq (tAsg (tCall (sp__law_comes g) [] E0 (tCons (tVar 0) (tCons (tVar 1) (tCons (tVar 2) (tCons (tVar 5) tNil))))) (gName 7))
  (tSeq (tFor (iRng2 (tCons (tC (.int 1)) (tCons (tVar 0) tNil))) (gName 6) (t__law_settled_b1 g))
  (tRet (tC (.bl true)))))
abbrev N__law_settled : List Str := ["many", "pairs", "there", "some", "joined", "marked", "k", "come"]

section
variable {g : Gb} {σ : L2.St} {H H' B : Hp} {D : Ends} {E : XK} {Q : VK} {vs : List V} {p : Addr} {N : Nt} {te tn tr ta tb td ti to : TE} {K : PySem.W.Frag} {r k o : Nat} {t : TT}
theorem ev_cnt {a : Addr} {bs : List Bool} (h : Ev to σ H (.ref a)) (ha : H a = some (.lst (bs.map V.bl))) : Ev (tBM K "list" (rCntB K) to (tCons (tC (.bl true)) tNil)) σ H (.int (bs.count true : Nat)) := fun H1 e Q q =>
  h H1 e _ fun H2 e2 => ⟨Or.inl ⟨rfl, _, sq_of (e2 _ _ (e _ _ ha))⟩, a, bs, rfl, rfl, sq_of (e2 _ _ (e _ _ ha)), q H2 e2⟩
/-- a comprehension whose items are new lists, each one of its own -/
theorem ep_lcN {α : Type} {wi : TI} {l : List α} {R : α → V → Prop} {ws : List Nat} {j : Nat} (f : α → List V) (hi : EvI wi σ H l R) (hz : l.length ≤ 40000) (hw : ∀ x, wipe ((wipe σ ws).set j (some x)) ws = wipe σ ws)
    (he : ∀ a x H1, a ∈ l → R a x → Ex H H1 → EvL te ((wipe σ ws).set j (some x)) H1 (f a)) :
    EvP (tLc wi (gName j) tYes te ws) σ H (fun H1 v H2 => ∃ (p : Addr) (as : List Addr), v = .ref p ∧ H1 p = none ∧ H2 p = some (.lst (as.map V.ref)) ∧ as.Nodup ∧ Paired (fun a r => H1 a = none ∧ a ≠ p ∧ H2 a = some (.lst r)) as (l.map f)) := fun H0 e Q q => hi H0 e _ fun J G H1 e1 hG w Dl hD =>
  lc_it w (fun i H' => Ex H1 H' ∧ ∃ as : List Addr, H' Dl = some (.lst (as.map V.ref)) ∧ as.length ≤ i ∧ as.Nodup ∧ Paired (fun a r => H1 a = none ∧ a ≠ Dl ∧ H' a = some (.lst r)) as ((l.take i).map f)) ⟨Ex.new hD, [], upd_same, Nat.le_refl _, .nil, .nil⟩ (fun i H' _ p => hG H' p.1) (fun i x Ha Hb hil p y => by
    obtain ⟨rfl, a, hl, hr⟩ := y
    obtain ⟨p1, as, p2, p3, p4, p5⟩ := p
    have hm : a ∈ l := List.mem_of_getElem? hl
    refine ⟨hw x, et_yes (H := Hb) Hb (Ex.refl _) _ fun H3 e3 => iteT (he a x H3 hm hr (((e.trans e1).trans p1).trans e3) H3 (Ex.refl _) _ fun b H4 hb0 e40 hb4 => ?_)⟩
    have hb : Hb b = none := fresh_back e3 hb0
    have e4 : Ex Hb H4 := e3.trans e40
    refine ⟨_, e4 _ _ p2, ?_, ?_, as ++ [b], ?_, ?_, ?_, ?_⟩
    · rw [List.length_map]
      exact sz_lt (by omega)
    · exact exU (p1.trans e4) hD
    · rw [upd_same, List.map_append]
      rfl
    · rw [List.length_append, List.length_singleton]
      omega
    · refine List.nodup_append.mpr ⟨p4, by simp, fun c hc d hd z => ?_⟩
      rw [List.mem_singleton.mp hd] at z
      subst z
      obtain ⟨i2, hi2, e2⟩ := List.mem_iff_getElem.mp hc
      obtain ⟨r, _, hr2⟩ := Paired.atL p5 (show as[i2]? = some c by rw [List.getElem?_eq_getElem hi2, e2])
      rw [hr2.2.2] at hb
      cases hb
    · have hbD : b ≠ Dl := fun z => by
        rw [z, p2] at hb
        cases hb
      rw [List.take_add_one, hl, List.map_append]
      exact Paired.snoc (F := fun a r => H1 a = none ∧ a ≠ Dl ∧ (upd H4 Dl (.lst (as.map V.ref ++ [V.ref b]))) a = some (.lst r)) ⟨fresh_back p1 hb, hbD, by rw [upd_ne hbD]; exact hb4⟩ (Paired.mono (fun c r h => ⟨h.1, h.2.1, by rw [upd_ne h.2.1]; exact e4 _ _ h.2.2⟩) p5)) (fun H' p => by
    obtain ⟨p1, as, p2, p3, p4, p5⟩ := p
    rw [List.take_length] at p5
    exact q _ H' (e1.trans p1) ⟨Dl, as, rfl, fresh_back e1 hD, p2, p4, Paired.mono (fun c r h => ⟨fresh_back e1 h.1, h.2⟩) p5⟩)
/-- a table whose rows may change -/
structure Tb (B H : Hp) (t : Addr) (as : List Addr) (n : Nat) (f : Nat → Nat → Bool) : Prop where
  lst : H t = some (.lst (as.map V.ref))
  nd : as.Nodup
  len : as.length = n
  new : ∀ a ∈ as, B a = none ∧ a ≠ t
  row : ∀ r a, as[r]? = some a → H a = some (.lst (bls n (f r)))
theorem Tb.mono {t : Addr} {as : List Addr} {n : Nat} {f : Nat → Nat → Bool} (e : Ex H H') (h : Tb B H t as n f) : Tb B H' t as n f := ⟨e _ _ h.lst, h.nd, h.len, h.new, fun r a hr => e _ _ (h.row r a hr)⟩
def mark2 (f : Nat → Nat → Bool) (r k : Nat) : Nat → Nat → Bool := fun r' => if r' = r then mark (f r) k else f r'
theorem Tb.set {t a : Addr} {as : List Addr} {n r k : Nat} {f : Nat → Nat → Bool} (h : Tb B H t as n f) (hr : as[r]? = some a) : Tb B (upd H a (.lst (bls n (mark (f r) k)))) t as n (mark2 f r k) := by
  have hat := (h.new a (List.mem_of_getElem? hr)).2
  refine ⟨by rw [upd_ne (Ne.symm hat)]; exact h.lst, h.nd, h.len, h.new, fun r' a' hr' => ?_⟩
  unfold mark2
  by_cases e : r' = r
  · subst e
    rw [hr] at hr'
    have := Option.some.inj hr'
    subst this
    rw [upd_same, if_pos rfl]
  · rw [if_neg e]
    have hne : a' ≠ a := fun z => by
      subst z
      have h1 := (List.getElem?_eq_some_iff.mp hr')
      have h2 := (List.getElem?_eq_some_iff.mp hr)
      exact e ((List.getElem_inj (h₀ := h1.1) (h₁ := h2.1) h.nd).mp (h1.2.trans h2.2.symm))
    rw [upd_ne hne]
    exact h.row r' a' hr'
theorem Tb.asTb {t : Addr} {as : List Addr} {n : Nat} {f : Nat → Nat → Bool} (h : Tb B H t as n f) : TbAt H t n f := by
  refine ⟨as, h.lst, ?_⟩
  have key : ∀ (m : Nat), m ≤ as.length → Paired (fun a r => H a = some (.lst (bls n (f r)))) (as.take m) (List.range m) := by
    intro m
    induction m with
    | zero => exact fun _ => .nil
    | succ m ih =>
      intro hm
      have hg : as[m]? = some as[m] := List.getElem?_eq_getElem (by omega)
      rw [List.take_add_one, hg, List.range_succ]
      exact Paired.snoc (F := fun a r => H a = some (.lst (bls n (f r)))) (h.row m _ hg) (ih (by omega))
  have := key as.length (Nat.le_refl _)
  rw [List.take_length, h.len] at this
  exact this
theorem Tb.at {t : Addr} {as : List Addr} {n r : Nat} {f : Nat → Nat → Bool} (h : Tb B H t as n f) (hr : r < n) : ∃ a, as[r]? = some a := ⟨_, List.getElem?_eq_getElem (by rw [h.len]; exact hr)⟩
def tot (n : Nat) (f : Nat → Nat → Bool) : Nat := mis (n * n) fun i => f (i / n) (i % n)
theorem tot_lt {n r k : Nat} {f h : Nat → Nat → Bool} (hr : r < n) (hk : k < n) (h1 : ∀ r k, f r k = true → h r k = true) (h2 : f r k = false) (h3 : h r k = true) : tot n h < tot n f := by
  have e1 : (r * n + k) / n = r := by
    rw [Nat.mul_comm, Nat.mul_add_div (by omega), Nat.div_eq_of_lt hk]
    omega
  have e2 : (r * n + k) % n = k := by
    rw [Nat.mul_comm, Nat.mul_add_mod, Nat.mod_eq_of_lt hk]
  refine mis_lt (b := r * n + k) ?_ (fun i => h1 _ _) (by rw [e1, e2]; exact h2) (by rw [e1, e2]; exact h3)
  have : (r + 1) * n ≤ n * n := Nat.mul_le_mul_right n (by omega)
  rw [Nat.add_mul] at this
  omega
theorem tot_eq {n : Nat} {f h : Nat → Nat → Bool} (e : ∀ r k, h r k = f r k) : tot n h = tot n f := by
  have : h = f := funext fun r => funext fun k => e r k
  rw [this]
def onb (mkb : Nat → Bool) (h : Nat → Nat → Bool) (a k : Nat) : Bool := if mkb a = true then decide (k = a) else h a k
theorem mark2_le {f : Nat → Nat → Bool} {r k r' k' : Nat} (h : f r' k' = true) : mark2 f r k r' k' = true := by
  unfold mark2
  split
  · rename_i e
    subst e
    simp [mark, h]
  · exact h
theorem mark2_of {f : Nat → Nat → Bool} {r k r' k' : Nat} (h : mark2 f r k r' k' = true) : f r' k' = true ∨ (r' = r ∧ k' = k) := by
  unfold mark2 at h
  split at h
  · rename_i e
    subst e
    simp only [mark, Bool.or_eq_true, decide_eq_true_eq] at h
    exact h.elim .inl fun z => .inr ⟨rfl, z⟩
  · exact .inl h
theorem mark2_self {f : Nat → Nat → Bool} {r k : Nat} : mark2 f r k r k = true := by
  unfold mark2
  rw [if_pos rfl]
  simp [mark]
theorem pure__law_comes (h : sp__law_comes g vs H Q E) : t__law_comes g { nx := fun _ H' => Q .non H', rt := Q } (start N__law_comes vs) H := by
  obtain ⟨pl, tl, ml, N, mkb, rfl, hN, hp, htl, hml, k⟩ := h
  have hn2 := hN.most
  refine a_asgP (ep_lcN (l := List.range N.n) (R := fun (k : Nat) x => x = nv k) (fun _ => bls N.n fun _ => false) (ei_range (ea_cons (ev_var rfl) ea_nil) (by omega)) (by rw [List.length_range]; omega) (fun _ => rfl) (fun k x H1 hk hx e1 => ?_)) fun v H1 e1 hv => ?_
  · have := el_rep (σ := [some (nv N.n), some (V.ref pl), some (V.ref tl), some (V.ref ml), none, some x, none, none, none]) (H := H1) (ta := tLst (tCons (tC (.bl false)) tNil)) (tb := tVar 0) (xs := [V.bl false]) (n := N.n) (el_lst (ea_cons ev_c ea_nil) (by show 1 ≤ 100000; decide)) (fun H2 e2 => ev_var rfl) (by omega) (by show 1 ≤ 100; decide)
    have e : (List.replicate N.n [V.bl false]).flatten = bls N.n fun _ => false := by
      unfold bls
      generalize N.n = n
      induction n with
      | zero => rfl
      | succ n ih =>
        rw [List.replicate_succ', List.flatten_append, ih, List.range_succ, List.map_append]
        rfl
    rw [e] at this
    exact this
  obtain ⟨ct, as, rfl, hct, hct1, hnd, hpr⟩ := hv
  obtain ⟨ps, hs, hps⟩ := hp
  have hp2 := refs_paired hps
  have hlas : as.length = N.n := by
    have := paired_len hpr
    rw [List.length_map, List.length_range] at this
    exact this
  have hT0 : Tb H H1 ct as N.n fun _ _ => false := ⟨hct1, hnd, hlas, fun a ha => by
    obtain ⟨i, hi, e⟩ := List.mem_iff_getElem.mp ha
    obtain ⟨r, _, q⟩ := Paired.atL hpr (show as[i]? = some a by rw [List.getElem?_eq_getElem hi, e])
    exact ⟨q.1, q.2.1⟩, fun r a hr => by
    obtain ⟨x, hx, q⟩ := Paired.atL hpr hr
    rw [List.getElem?_map] at hx
    cases e : (List.range N.n)[r]? with
    | none => rw [e] at hx; cases hx
    | some z =>
      rw [e] at hx
      have := Option.some.inj hx
      rw [q.2.2, ← this]⟩
  have lts : ∀ {k}, Rch N.ds (-1) k → k < N.n := fun h => h.lt hN.pos hN.ends
  refine q_asg ev_c fun H2 e2 => ?_
  refine q_while (fun m σ' H' => ∃ (f : Nat → Nat → Bool) (b : Bool) (s5 s7 s8 : Option V), σ' = [some (nv N.n), some (.ref pl), some (.ref tl), some (.ref ml), some (.ref ct), s5, some (.bl b), s7, s8] ∧ Ex H H' ∧ Tb H H' ct as N.n f ∧ (∀ v k, v < N.n → f v k = true → Cm N.ds (fun k => mkb k = true) v k) ∧
      (b = false → ∀ d ∈ N.ds, Rch N.ds (-1) d.1 → ∀ k, k < N.n → onb mkb f d.1 k = true → f d.2 k = true) ∧ m = tot N.n f + (if b then 1 else 0)) (tot N.n (fun _ _ => false) + 1) ⟨_, true, _, none, none, rfl, e1.trans e2, hT0.mono e2, (fun v k _ h => by cases h), (fun h => by cases h), rfl⟩ fun m σ' H' hW => ?_
  obtain ⟨f, b, s5, s7, s8, rfl, eH, hT, hf1, hf4, rfl⟩ := hW
  refine ⟨b, et_B (ev_var rfl), fun hb H3 e3 => ?_, fun hb H3 e3 => ?_⟩
  · subst hb
    clear hf4
    refine ⟨fun σ2 H2 => ∃ (h : Nat → Nat → Bool) (b : Bool) (s5 s7 s8 : Option V), σ2 = [some (nv N.n), some (.ref pl), some (.ref tl), some (.ref ml), some (.ref ct), s5, some (.bl b), s7, s8] ∧ Ex H H2 ∧ Tb H H2 ct as N.n h ∧ (∀ v k, v < N.n → h v k = true → Cm N.ds (fun k => mkb k = true) v k) ∧
      (b = false → ∀ d ∈ N.ds, Rch N.ds (-1) d.1 → ∀ k, k < N.n → onb mkb h d.1 k = true → h d.2 k = true) ∧ tot N.n h ≤ tot N.n f ∧ (b = true → tot N.n h < tot N.n f), fun σ2 H2 hN' => ?_, ?_⟩
    · obtain ⟨h, b, s4, s6, s8, h1, h2, h3, h4, h5, h7, h8⟩ := hN'
      refine ⟨tot N.n h + (if b then 1 else 0), ?_, h, b, s4, s6, s8, h1, h2, h3, h4, h5, rfl⟩
      show _ < tot N.n f + 1
      cases b with
      | true =>
        have := h8 rfl
        show tot N.n h + 1 < tot N.n f + 1
        omega
      | false =>
        show tot N.n h + 0 < tot N.n f + 1
        omega
    refine q_asg ev_c fun H4 e4 => ?_
    have e34 := e3.trans e4
    -- what holds within a pass
    obtain ⟨S, hS⟩ : ∃ S : (Nat → Nat → Bool) → Bool → Hp → Prop, S = fun h b H' => Ex H H' ∧ Tb H H' ct as N.n h ∧ (∀ v k, v < N.n → h v k = true → Cm N.ds (fun k => mkb k = true) v k) ∧ (∀ r k, f r k = true → h r k = true) ∧ (b = false → ∀ r k, h r k = f r k) ∧ (b = true → ∃ r k, r < N.n ∧ k < N.n ∧ f r k = false ∧ h r k = true) := ⟨_, rfl⟩
    have Sm : ∀ {h b H' H''}, S h b H' → Ex H' H'' → S h b H'' := fun {h b H' H''} hh e => by
      rw [hS] at hh ⊢
      exact ⟨hh.1.trans e, hh.2.1.mono e, hh.2.2⟩
    refine s_forLn (ev_var rfl) (sq_of ((eH.trans e34) _ _ hs)) (fun i σ' H' => ∃ (h : Nat → Nat → Bool) (b : Bool) (s5 s7 s8 : Option V), σ' = [some (nv N.n), some (.ref pl), some (.ref tl), some (.ref ml), some (.ref ct), s5, some (.bl b), s7, s8] ∧ S h b H' ∧
      (b = false → ∀ j, j < i → ∀ d, N.ds[j]? = some d → Rch N.ds (-1) d.1 → ∀ k, k < N.n → onb mkb h d.1 k = true → h d.2 k = true)) (fun H5 e5 => ⟨f, false, _, _, _, rfl, by rw [hS]; exact ⟨(eH.trans e34).trans e5, hT.mono (e34.trans e5), hf1, fun _ _ h => h, fun _ _ _ => rfl, (fun h => by cases h)⟩, fun _ j hj => absurd hj (Nat.not_lt_zero _)⟩)
      (fun i σ' H' _ hP => by
        obtain ⟨h, b, s4, s6, s8, _, hSS, _⟩ := hP
        rw [hS] at hSS
        exact sq_of (hSS.1 _ _ hs)) (fun i x σ' H' hx hP => ?_) (fun σ' H' hP => ?_)
    · obtain ⟨h, b, s5, s7, s8, rfl, hSS, hcl⟩ := hP
      obtain ⟨d, hdd, a, rfl, ha⟩ := paired_at hp2 hx
      have hd' := hN.ends d (List.mem_of_getElem? hdd)
      have hSx : Ex H H' := by rw [hS] at hSS; exact hSS.1
      have ha' := hSx _ _ ha
      have step : ∀ (h2 : Nat → Nat → Bool) (b2 : Bool), (b2 = false → (∀ r k, h2 r k = f r k) ∧ b = false ∧ (∀ r k, h r k = f r k) ∧ (Rch N.ds (-1) d.1 → ∀ k, k < N.n → onb mkb h2 d.1 k = true → h2 d.2 k = true)) → b2 = false → ∀ j, j < i + 1 → ∀ d, N.ds[j]? = some d → Rch N.ds (-1) d.1 → ∀ k, k < N.n → onb mkb h2 d.1 k = true → h2 d.2 k = true := fun h2 b2 h3 hb2 j hj d' hd'2 q1 k q2 q3 => by
        obtain ⟨w1, w2, w3, w4⟩ := h3 hb2
        by_cases hji : j = i
        · subst hji
          rw [hdd] at hd'2
          have := Option.some.inj hd'2
          subst this
          exact w4 q1 k q2 q3
        · have : h2 = h := funext fun r => funext fun k => (w1 r k).trans (w3 r k).symm
          rw [this] at q3 ⊢
          exact hcl w2 j (by omega) d' hd'2 q1 k q2 q3
      refine s_when (b := rch N.ds (-1) d.1) (et_B (ev_bl (ev_var rfl) (ev_fst (ev_var rfl) ha') (hSx _ _ htl) hd'.1)) (fun hb H5 e5 => ?_) (fun hb H5 e5 => ?_)
      · have hrd := rch_iff.mp hb
        refine s_forR1 (n := (N.n : Int)) (ea_cons (ev_var rfl) ea_nil) ⟨by omega, by omega⟩ (fun k σ' H' => ∃ (h2 : Nat → Nat → Bool) (b2 : Bool) (s5 s8 : Option V), σ' = [some (nv N.n), some (.ref pl), some (.ref tl), some (.ref ml), some (.ref ct), s5, some (.bl b2), some (.ref a), s8] ∧ S h2 b2 H' ∧ (b2 = false → b = false ∧ (∀ r k, h r k = f r k)) ∧ ∀ k', k' < k → onb mkb h2 d.1 k' = true → h2 d.2 k' = true ∨ b2 = true)
          (fun H6 e6 => ⟨h, b, _, _, rfl, Sm hSS (e5.trans e6), fun hb2 => ⟨hb2, by rw [hS] at hSS; exact hSS.2.2.2.2.1 hb2⟩, fun k' hk' => absurd hk' (Nat.not_lt_zero _)⟩) (fun k σ' H' hk hP => ?_) (fun σ' H' hP => ?_)
        · obtain ⟨h2, b2, s5, s8, rfl, hSS2, hbb, hdone⟩ := hP
          have hk2 : k < N.n := by omega
          have hSS2' := hSS2
          rw [hS] at hSS2'
          obtain ⟨w1, w2, w3, w4, w5, w6⟩ := hSS2'
          have ha2 := w1 _ _ ha
          have hev : ∀ {σ : L2.St} {H'' : Hp}, Ex H' H'' → σ[3]? = some (some (.ref ml)) → σ[4]? = some (some (.ref ct)) → σ[5]? = some (some (nv k)) → σ[7]? = some (some (.ref a)) → Ev (tIf (tB (tOp (rIxL g.K) (tVar 3) (tOp (rIxT g.K) (tVar 7) (tC (.int 0))))) (tOp rEq (tVar 5) (tOp (rIxT g.K) (tVar 7) (tC (.int 0)))) (tOp (rIxL g.K) (tOp (rIxL g.K) (tVar 4) (tOp (rIxT g.K) (tVar 7) (tC (.int 0)))) (tVar 5))) σ H'' (.bl (onb mkb h2 d.1 k)) := fun {σ H''} e h3 h4 h5 h7 => by
            refine ev_if (b := mkb d.1) (et_B (ev_bl (ev_var h3) (ev_fst (ev_var h7) (e _ _ ha2)) (e _ _ (w1 _ _ hml)) hd'.1)) (fun hm => ?_) (fun hm => ?_)
            · unfold onb
              rw [if_pos hm]
              exact ev_is (ev_op (ev_var h5) (ev_fst (ev_var h7) (e _ _ ha2)) (rv_eq rfl)) (congrArg V.bl (decide_eq_decide.mpr nvI))
            · unfold onb
              rw [if_neg (by rw [hm]; decide)]
              exact ev_tb (a := d.1) (b := k) (ev_var h4) (ev_fst (ev_var h7) (e _ _ ha2)) (ev_var h5) (w2.mono e).asTb hd'.1 hk2
          refine q_asg (hev (Ex.refl _) rfl rfl rfl rfl) fun H7 e7 => ?_
          have w27 := w2.mono e7
          obtain ⟨ra, hra⟩ := w27.at hd'.2
          refine s_when (b := onb mkb h2 d.1 k && !h2 d.2 k) (et_and (et_B (ev_var rfl)) fun _ => et_not (et_B (ev_tb (a := d.2) (b := k) (ev_var rfl) (ev_snd (ev_var rfl) (e7 _ _ ha2)) (ev_var rfl) w27.asTb hd'.2 hk2))) (fun hb2 H8 e8 => ?_) (fun hb2 H8 e8 => ?_)
          · rw [Bool.and_eq_true, Bool.not_eq_true'] at hb2
            have w28 := w27.mono e8
            refine q_setL (l := ra) (xs := bls N.n (h2 d.2)) (j := k) (w28.row _ _ hra) ev_c (ev_op (ev_var rfl) (ev_snd (ev_var rfl) (e8 _ _ (e7 _ _ ha2))) (rv_ixL (v := .ref ra) (sq_of w28.lst) (atI_nat (by rw [List.getElem?_map, hra]; rfl)))) (ev_var rfl) (by rw [bls_len]; exact hk2) fun H9 e9 => ?_
            rw [bls_set]
            have w29 := (w28.mono e9).set (k := k) hra
            refine s_asg ev_c fun H10 e10 => ⟨mark2 h2 d.2 k, true, _, _, rfl, ?_, (fun h => by cases h), fun _ _ _ => .inr rfl⟩
            rw [hS]
            refine ⟨(exU (((w1.trans e7).trans e8).trans e9) (w2.new ra (List.mem_of_getElem? hra)).1).trans e10, w29.mono e10, fun v k' hv hh => ?_, fun r k' hh => mark2_le (w4 r k' hh), (fun h => by cases h), fun _ => ⟨d.2, k, hd'.2, hk2, ?_, mark2_self⟩⟩
            · rcases mark2_of hh with hh | ⟨rfl, rfl⟩
              · exact w3 v k' hv hh
              · have h1 := hb2.1
                unfold onb at h1
                by_cases hm : mkb d.1 = true
                · rw [if_pos hm] at h1
                  have := of_decide_eq_true h1
                  subst this
                  exact .src hrd hm (List.mem_of_getElem? hdd)
                · rw [if_neg hm] at h1
                  exact .pass hrd hm (w3 _ _ hd'.1 h1) (List.mem_of_getElem? hdd)
            · cases e : f d.2 k with
              | false => rfl
              | true =>
                have := w4 _ _ e
                rw [hb2.2] at this
                cases this
          · refine ⟨h2, b2, _, _, rfl, Sm hSS2 (e7.trans e8), hbb, fun k' hk' hon => ?_⟩
            by_cases e : k' = k
            · subst e
              rw [hon, Bool.true_and, Bool.not_eq_false'] at hb2
              exact .inl hb2
            · exact hdone k' (by omega) hon
        · obtain ⟨h2, b2, s5, s8, rfl, hSS2, hbb, hdone⟩ := hP
          refine ⟨h2, b2, _, _, _, rfl, hSS2, step h2 b2 fun hb2 => ?_⟩
          have hSS2' := hSS2
          rw [hS] at hSS2'
          refine ⟨hSS2'.2.2.2.2.1 hb2, (hbb hb2).1, (hbb hb2).2, fun _ k hk hon => (hdone k (by omega) hon).resolve_right fun z => ?_⟩
          rw [hb2] at z
          cases z
      · have hrd := rch_no.mp hb
        refine ⟨h, b, _, _, _, rfl, Sm hSS e5, step h b fun hb2 => ?_⟩
        rw [hS] at hSS
        exact ⟨hSS.2.2.2.2.1 hb2, hb2, hSS.2.2.2.2.1 hb2, fun z => (hrd z).elim⟩
    · obtain ⟨h, b, s5, s7, s8, rfl, hSS, hcl⟩ := hP
      have hlen : (ps.map V.ref).length = N.ds.length := paired_len hp2
      rw [hlen] at hcl
      rw [hS] at hSS
      obtain ⟨w1, w2, w3, w4, w5, w6⟩ := hSS
      refine ⟨h, b, s5, s7, s8, rfl, w1, w2, w3, fun hb3 d hd => ?_, ?_, fun hb3 => ?_⟩
      · obtain ⟨j, hj, e⟩ := List.mem_iff_getElem.mp hd
        exact hcl hb3 j hj d (by rw [List.getElem?_eq_getElem hj, e])
      · cases b with
        | true =>
          obtain ⟨r, k, h1, h2, h3, h4⟩ := w6 rfl
          exact Nat.le_of_lt (tot_lt h1 h2 w4 h3 h4)
        | false => exact Nat.le_of_eq (tot_eq (w5 rfl))
      · obtain ⟨r, k, h1, h2, h3, h4⟩ := w6 hb3
        exact tot_lt h1 h2 w4 h3 h4
  · subst hb
    refine s_ret (ev_var rfl) fun H4 e4 => k ct H4 hct ((eH.trans e3).trans e4) ?_
    have hT4 := (hT.mono (e3.trans e4)).asTb
    obtain ⟨bs, hb1, hb2⟩ := hT4
    refine ⟨bs, hb1, ?_⟩
    have key : ∀ {l : List Addr} {m : List Nat}, (∀ r ∈ m, r < N.n) → Paired (fun a r => H4 a = some (.lst (bls N.n (f r)))) l m → Paired (fun a r => H4 a = some (.lst (bls N.n (cmb N.ds mkb r)))) l m := by
      intro l m hm hpp
      induction hpp with
      | nil => exact .nil
      | cons r _ ih =>
        refine .cons ?_ (ih fun x hx => hm x (List.mem_cons_of_mem _ hx))
        rw [r]
        refine congrArg (fun z => some (HO.lst z)) (bls_congr fun k hk => ?_)
        rw [Bool.eq_iff_iff, cmb_iff]
        refine ⟨hf1 _ k (hm _ List.mem_cons_self), fun hc => ?_⟩
        clear hk
        have hcl := hf4 rfl
        have : ∀ {b k}, Cm N.ds (fun k => mkb k = true) b k → k < N.n ∧ f b k = true := fun {b k} hc => by
          induction hc with
          | src h1 h2 h3 => exact ⟨lts h1, hcl _ h3 h1 _ (lts h1) (by unfold onb; rw [if_pos h2]; exact decide_eq_true rfl)⟩
          | pass h1 h2 h3 h4 ih => exact ⟨ih.1, hcl _ h4 h1 _ ih.1 (by unfold onb; rw [if_neg h2]; exact ih.2)⟩
        exact (this hc).2
    exact key (fun r hr => List.mem_range.mp hr) hb2
theorem pure__law_settled (h : sp__law_settled g vs H Q E) : t__law_settled g { nx := fun _ H' => Q .non H', rt := Q } (start N__law_settled vs) H := by
  obtain ⟨pl, tl, sl, jl, N, so, J, rfl, hN, hp, htl, hsl, hjl, k⟩ := h
  have hn2 := hN.most
  have hn1 := hN.pos
  obtain ⟨mkb, hmk⟩ : ∃ mkb : Nat → Bool, mkb = fun k => decide (k = 0) || (decide (k ∈ so) || decide (k ∈ J)) := ⟨_, rfl⟩
  have hmk2 : (fun k => mkb k = true) = mkd so J := funext fun k => propext (by
    rw [hmk]
    unfold mkd
    simp)
  refine q_asgL (xs := bls N.n mkb) ?_ fun ml H1 hml e1 hml1 => ?_
  · have := el_lc (σ := [some (nv N.n), some (V.ref pl), some (V.ref tl), some (V.ref sl), some (V.ref jl), none, none, none]) (H := H) (te := tOrV (tOp rEq (tVar 6) (tC (.int 0))) (tOrV (tOp (rIn g.K false) (tVar 6) (tVar 3)) (tOp (rIn g.K false) (tVar 6) (tVar 4)))) (j := 6) (vs := [6]) (t := tYes) (wi := iRng1 (tCons (tVar 0) tNil)) (l := List.range N.n) (R := fun (k : Nat) x => x = nv k) (fun _ => true) (fun k => V.bl (mkb k)) (ei_range (ea_cons (ev_var rfl) ea_nil) (by omega)) (by rw [List.length_range]; omega) (fun _ => rfl) (fun _ _ _ _ _ _ => et_yes) (fun k x H2 hk hx e2 _ => by
      subst hx
      rw [hmk]
      refine ev_is (ev_orV (ev_op (ev_var rfl) ev_c (rv_eq rfl)) fun _ => ev_orV (ev_op (ev_var rfl) (ev_var rfl) (rv_isL (sq_of (e2 _ _ hsl)) rfl (flat_nvs _))) fun _ => ev_op (ev_var rfl) (ev_var rfl) (rv_isL (sq_of (e2 _ _ hjl)) rfl (flat_nvs _))) ?_
      rw [in_nvs, in_nvs]
      congr 2
      exact decide_eq_decide.mpr (nvI (b := 0)))
    rw [List.filter_eq_self.mpr (fun _ _ => rfl)] at this
    exact this
  refine q_callX (ea_cons (ev_var rfl) (ea_cons (ev_var rfl) (ea_cons (ev_var rfl) (ea_cons (ev_var rfl) ea_nil)))) fun H2 e2 => ⟨pl, tl, ml, N, mkb, rfl, hN, hp.mono (e1.trans e2), (e1.trans e2) _ _ htl, e2 _ _ hml1, fun ct H3 hct e3 hT => ?_⟩
  have e13 := (e1.trans e2).trans e3
  have hcnt : ∀ v, ((List.range N.n).map (cmb N.ds mkb v)).count true ≤ 1 ↔ ∀ i j, Cm N.ds (mkd so J) v i → Cm N.ds (mkd so J) v j → i = j := fun v => by
    rw [count_one]
    have hlt : ∀ {b k}, Cm N.ds (mkd so J) b k → k < N.n := fun {b k} h => by
      induction h with
      | src h1 _ _ => exact h1.lt hN.pos hN.ends
      | pass _ _ _ _ ih => exact ih
    constructor
    · intro h i j h1 h2
      exact h i j (hlt h1) (hlt h2) (cmb_iff.mpr (by rw [hmk2]; exact h1)) (cmb_iff.mpr (by rw [hmk2]; exact h2))
    · intro h i j _ _ h1 h2
      exact h i j (by rw [← hmk2]; exact cmb_iff.mp h1) (by rw [← hmk2]; exact cmb_iff.mp h2)
  refine q_forR2 (lo := 1) (n := (N.n : Int)) (ea_cons ev_c (ea_cons (ev_var rfl) ea_nil)) ⟨by omega, by omega, by omega, by omega⟩ (fun i σ' H' => (∃ s6, σ' = [some (nv N.n), some (.ref pl), some (.ref tl), some (.ref sl), some (.ref jl), some (.ref ml), s6, some (.ref ct)]) ∧ Ex H3 H' ∧ ∀ v, 1 ≤ v → v < 1 + i → Rch N.ds (-1) v → v ∉ J → ∀ k k', Cm N.ds (mkd so J) v k → Cm N.ds (mkd so J) v k' → k = k')
    (fun H4 e4 => ⟨⟨_, rfl⟩, e4, fun v h1 h2 => absurd h1 (by omega)⟩) (fun i σ' H' hi hP => ?_) (fun σ' H' hP => ?_)
  · obtain ⟨⟨s6, rfl⟩, eX, hd⟩ := hP
    have hi2 : 1 + i < N.n := by omega
    obtain ⟨rs, hr1, hr2⟩ := hT.mono eX
    obtain ⟨ra, hra, hra2⟩ := Paired.at hr2 (List.getElem?_range hi2)
    have hv : V.int (1 + (i : Int)) = nv (1 + i) := congrArg V.int (by omega)
    rw [hv]
    have hra3 : H' ra = some (.lst (((List.range N.n).map (cmb N.ds mkb (1 + i))).map V.bl)) := by
      rw [hra2, List.map_map]
      rfl
    refine s_when (b := rch N.ds (-1) (1 + i) && (!decide (1 + i ∈ J) && decide (1 < ((List.range N.n).map (cmb N.ds mkb (1 + i))).count true))) (et_and (et_B (ev_bl (ev_var rfl) (ev_var rfl) ((e13.trans eX) _ _ htl) hi2)) fun _ => et_and (et_is (et_test (ev_op (ev_var rfl) (ev_var rfl) (rv_niL (sq_of ((e13.trans eX) _ _ hjl)) rfl (flat_nvs _)))) (by rw [in_nvs])) fun _ => et_is (et_test (ev_op (ev_cnt (ev_op (ev_var rfl) (ev_var rfl) (rv_ixL (v := .ref ra) (sq_of hr1) (atI_nat (by rw [List.getElem?_map, hra]; rfl)))) hra3) ev_c rv_I0)) (decide_eq_decide.mpr ⟨fun h => by omega, fun h => by omega⟩)) (fun hb H5 e5 => ?_) (fun hb H5 e5 => ?_)
    · rw [Bool.and_eq_true, Bool.and_eq_true, rch_iff, Bool.not_eq_true', decide_eq_false_iff_not, decide_eq_true_iff] at hb
      obtain ⟨b1, b2, b3⟩ := hb
      refine s_ret ev_c fun H6 e6 => ?_
      have : stl N.ds so J = false := stl_no.mpr fun hS => by
        have := (hcnt (1 + i)).mpr (hS (1 + i) (by omega) b1 b2)
        omega
      rw [← this]
      exact k H6 (((e13.trans eX).trans e5).trans e6)
    · refine ⟨⟨_, rfl⟩, eX.trans e5, fun v h1 h2 h3 h4 => ?_⟩
      by_cases e : v = 1 + i
      · subst e
        refine (hcnt (1 + i)).mp ?_
        rw [rch_iff.mpr h3, decide_eq_false h4] at hb
        simp only [Bool.true_and, Bool.not_false, decide_eq_false_iff_not] at hb
        omega
      · exact hd v h1 (by omega) h3 h4
  · obtain ⟨⟨s6, rfl⟩, eX, hd⟩ := hP
    refine s_ret ev_c fun H4 e4 => ?_
    have : stl N.ds so J = true := stl_iff.mpr fun v h0 hv hJ => hd v (by omega) (by have := hv.lt hN.pos hN.ends; omega) hv hJ
    rw [← this]
    exact k H4 ((e13.trans eX).trans e4)
theorem ev_settled {pl tl sl jl : Addr} {so J : List Nat} {t0 t1 t2 t3 t4 : TE} (h0 : Ev t0 σ H (nv N.n)) (h1 : Ev t1 σ H (.ref pl)) (h2 : Ev t2 σ H (.ref tl)) (h3 : Ev t3 σ H (.ref sl)) (h4 : Ev t4 σ H (.ref jl)) (hN : N.Ok) (hp : PLt H pl (N.ds.map zp)) (ht : H tl = some (.lst (bls N.n (rch N.ds (-1))))) (hs : H sl = some (.lst (nvs so))) (hj : H jl = some (.lst (nvs J))) :
    Ev (tCall (sp__law_settled g) [] E0 (tCons t0 (tCons t1 (tCons t2 (tCons t3 (tCons t4 tNil)))))) σ H (.bl (stl N.ds so J)) :=
  ev_call1 (ea_cons h0 (ea_cons h1 (ea_cons h2 (ea_cons h3 (ea_cons h4 ea_nil))))) fun H1 e Q k => ⟨pl, tl, sl, jl, N, so, J, rfl, hN, hp.mono e, e _ _ ht, e _ _ hs, e _ _ hj, k⟩
theorem ev_settledL {pl tl sl : Addr} {so J : List Nat} {t0 t1 t2 t3 t4 : TE} (h0 : Ev t0 σ H (nv N.n)) (h1 : Ev t1 σ H (.ref pl)) (h2 : Ev t2 σ H (.ref tl)) (h3 : Ev t3 σ H (.ref sl)) (h4 : EvL t4 σ H (nvs J)) (hN : N.Ok) (hp : PLt H pl (N.ds.map zp)) (ht : H tl = some (.lst (bls N.n (rch N.ds (-1))))) (hs : H sl = some (.lst (nvs so))) :
    Ev (tCall (sp__law_settled g) [] E0 (tCons t0 (tCons t1 (tCons t2 (tCons t3 (tCons t4 tNil)))))) σ H (.bl (stl N.ds so J)) := fun H1 e Q q =>
  h0 H1 e _ fun H2 e2 => h1 H2 (e.trans e2) _ fun H3 e3 => h2 H3 ((e.trans e2).trans e3) _ fun H4 e4 => h3 H4 (((e.trans e2).trans e3).trans e4) _ fun H5 e5 => h4 H5 ((((e.trans e2).trans e3).trans e4).trans e5) _ fun jl H6 hj e6 hj6 =>
    let e0 := (((e2.trans e3).trans e4).trans e5).trans e6
    ⟨pl, tl, sl, jl, N, so, J, rfl, hN, hp.mono (e.trans e0), (e.trans e0) _ _ ht, (e.trans e0) _ _ hs, hj6, fun H7 e7 => q H7 (e0.trans e7)⟩
end
end Mp

/-! law k13. -/
namespace Mp
open PySem L2 Evl
/-! law@k13: slots 0 script 1 drawn 2 pairs 3 many 4 net 5 there 6 rooms 7 k 8 some 9 found 10 last 11 one -/
def t_law_k13_b1 (g : Gb)  : TS := tSeq (tIfS (tOr (tNot (tB (tCall (sp__law_whole g) [] E0 (tCons (tVar 7) tNil)))) (tOr (tNot (tTest (tChain rLtI rLtI (tVar 10) (tVar 7) (tVar 3)))) (tNot (tB (tOp (rIxL g.K) (tVar 5) (tVar 7)))))) (tRet (tC (.bl false))) tNext)
  (tAsg (tVar 7) (gName 10))
def t_law_k13_b2 (g : Gb)  : TS := tIfS (tB (tCall (sp__law_settled g) [] E0 (tCons (tVar 3) (tCons (tVar 2) (tCons (tVar 5) (tCons (tVar 8) (tCons (tLc (iList g.K (tVar 9)) (gName 11) (tTest (tOp rNe (tVar 11) (tVar 7))) (tVar 11) [11]) tNil))))))) (tRet (tC (.bl false))) tNext
def t_law_k13 (g : Gb) : TS := tSeq (tAsg (tCall (sp__law_net g) [] E0 (tCons (tVar 0) (tCons (tC (.int 6)) (tCons (tC (.int 12)) (tCons (tC (.int 30)) tNil))))) (gName 1))
  (tSeq (tAsg (tOp (rIxT g.K) (tVar 1) (tC (.int 1))) (gName 2))
  (tSeq (tAsg (tOp (rIxT g.K) (tVar 1) (tC (.int 0))) (gName 3))
  (tSeq (tAsg (tMake g.C (sp_Net___init__ g) [] E0 (tCons (tVar 3) (tCons (tCB (rListS g.K) (tCons (tVar 2) tNil)) tNil))) (gName 4))
  (tSeq (tAsg (tCall (sp__law_past g) [] E0 (tCons (tVar 3) (tCons (tVar 2) (tCons (tUn rNeg (tC (.int 1))) tNil)))) (gName 5))
  (tSeq (tAsg (tLc (iRng1 (tCons (tVar 3) tNil)) (gName 7) (tB (tOp (rIxL g.K) (tVar 5) (tVar 7))) (tVar 7) [7]) (gName 6))
  (tSeq (tAsg (tLc (iRng1 (tCons (tOp rModI (tCall (sp__law_cell_at g) [] E0 (tCons (tVar 0) (tCons (tC (.int 0)) tNil))) (tC (.int 6))) tNil)) (gName 7) tYes (tOp (rIxL g.K) (tVar 6) (tOp rModI (tCall (sp__law_cell_at g) [] E0 (tCons (tVar 0) (tCons (tOp rAddI (tC (.int 1)) (tVar 7)) tNil))) (tCB (rLenS g.K) (tCons (tVar 6) tNil)))) [7]) (gName 8))
  (tSeq (tAsg (tCall (sp_joins g) [] E0 (tCons (tVar 4) (tCons (tCB (rListS g.K) (tCons (tVar 8) tNil)) tNil))) (gName 9))
  (tSeq (tIfS (tNot (tB (tCB (rIsi g.K) (tCons (tVar 9) (tCons (tC (.ty "list")) tNil))))) (tRet (tC (.bl false))) tNext)
  (tSeq (tAsg (tC (.int 0)) (gName 10))
  (tSeq (tFor (iList g.K (tVar 9)) (gName 7) (t_law_k13_b1 g))
  (tSeq (tIfS (tNot (tB (tCall (sp__law_settled g) [] E0 (tCons (tVar 3) (tCons (tVar 2) (tCons (tVar 5) (tCons (tVar 8) (tCons (tVar 9) tNil)))))))) (tRet (tC (.bl false))) tNext)
  (tSeq (tFor (iList g.K (tVar 9)) (gName 7) (t_law_k13_b2 g))
  (tRet (tC (.bl true)))))))))))))))
abbrev N_law_k13 : List Str := ["script", "drawn", "pairs", "many", "net", "there", "rooms", "k", "some", "found", "last", "one"]

section
variable {g : Gb} {σ : L2.St} {H H' B : Hp} {D : Ends} {E : XK} {Q : VK} {vs : List V} {p : Addr} {N : Nt} {te tn tr ta tb td ti to : TE} {K : PySem.W.Frag} {r k o : Nat} {t : TT}
theorem el_joins {a : Addr} {rs : List Nat} (h1 : Ev tn σ H (.ref p)) (h2 : Ev ta σ H (.ref a)) (hn : NetAt g H p N) (ha : H a = some (.lst (nvs rs))) (hl : rs.length ≤ 900) (hr : ∀ r ∈ rs, Rch N.ds (-1) r) : EvL (tCall (sp_joins g) [] E0 (tCons tn (tCons ta tNil))) σ H (nvs (jns N.n N.ds rs)) :=
  el_call1 (ea_cons h1 (ea_cons h2 ea_nil)) fun H1 e Q k => ⟨p, a, N, rs.map (fun (k : Nat) => (k : Int)), rfl, hn.mono e, by rw [← nvs_int]; exact e _ _ ha, by rw [List.length_map]; exact hl, fun rs' e' _ => cast_inj e' ▸ k, fun ⟨z, hz, hh⟩ => by
    obtain ⟨r, hr', rfl⟩ := List.mem_map.mp hz
    exact (hh (has_of hn.ok (hr r hr'))).elim, fun _ ⟨z, hz, hh⟩ => by
    obtain ⟨r, hr', e2⟩ := List.mem_map.mp hz
    exact (hh (nI e2 ▸ hr r hr')).elim⟩
theorem el_joinsL {rs : List Nat} (h1 : Ev tn σ H (.ref p)) (h2 : EvL ta σ H (nvs rs)) (hn : NetAt g H p N) (hl : rs.length ≤ 900) (hr : ∀ r ∈ rs, Rch N.ds (-1) r) : EvL (tCall (sp_joins g) [] E0 (tCons tn (tCons ta tNil))) σ H (nvs (jns N.n N.ds rs)) := fun H1 e Q k =>
  h1 H1 e _ fun H2 e2 => h2 H2 (e.trans e2) _ fun a H3 ha e3 ha3 => by
    have := el_joins (g := g) (σ := σ) (H := H3) (p := p) (a := a) (tn := tC (.ref p)) (ta := tC (.ref a)) ev_c ev_c (hn.mono ((e.trans e2).trans e3)) ha3 hl hr H3 (Ex.refl _) Q fun q H4 hq e4 hq4 => k q H4 (fresh_back (e2.trans e3) hq) ((e2.trans e3).trans e4) hq4
    exact this
/-- what is drawn of a list of rooms: [there[cell % len(there)] for k in range(c)] -/
theorem drawn_rooms {L : List Nat} (hpos : 0 < L.length) (ns : List Int) (c : Nat) : ∃ (ix : Nat → Nat) (rs : List Nat), rs = (List.range c).map (fun k => L.getD (ix k) 0) ∧ (∀ k, ns.getD (1 + k) 0 % (L.length : Int) = (ix k : Int)) ∧ (∀ k, L[ix k]? = some (L.getD (ix k) 0)) ∧ ∀ r ∈ rs, r ∈ L := by
  obtain ⟨ix, hix⟩ : ∃ ix : Nat → Nat, ix = fun k => (ns.getD (1 + k) 0 % (L.length : Int)).toNat := ⟨_, rfl⟩
  have hix1 : ∀ k, ns.getD (1 + k) 0 % (L.length : Int) = (ix k : Int) ∧ ix k < L.length := fun k => by
    obtain ⟨j, h1, h2⟩ := emod_nat (ns.getD (1 + k) 0) (m := L.length) hpos
    rw [hix]
    show _ = (((ns.getD (1 + k) 0 % (L.length : Int)).toNat : Nat) : Int) ∧ (ns.getD (1 + k) 0 % (L.length : Int)).toNat < _
    rw [h1]
    exact ⟨by omega, by omega⟩
  have hget : ∀ k, L[ix k]? = some (L.getD (ix k) 0) := fun k => by
    rw [List.getD_eq_getElem?_getD, List.getElem?_eq_getElem (hix1 k).2]
    rfl
  refine ⟨ix, _, rfl, fun k => (hix1 k).1, hget, fun r hr => ?_⟩
  obtain ⟨k, _, rfl⟩ := List.mem_map.mp hr
  exact List.mem_of_getElem? (hget k)
theorem pure_law_k13 (h : spLaw g vs H Q E) : t_law_k13 g { nx := fun _ H' => Q .non H', rt := Q } (start N_law_k13 vs) H := by
  obtain ⟨a, ns, rfl, hs, hlen, k⟩ := h
  refine q_callX (ea_cons (ev_var rfl) (ea_cons ev_c (ea_cons ev_c (ea_cons ev_c ea_nil)))) fun H1 e1 => ⟨a, ns, 6, 12, 30, rfl, ex_l e1 hs, by decide, by decide, by decide, fun n ds q pa H2 hn1 hn2 hd1 hd2 e2 hq hpa hne hq2 hP => ?_⟩
  obtain ⟨N, hNe⟩ : ∃ N : Nt, N = ⟨n, ds⟩ := ⟨_, rfl⟩
  have hN : N.Ok := by rw [hNe]; exact ⟨hn1, by show n ≤ 40; omega, by show ds.length ≤ 100; omega, hd2⟩
  have en : n = N.n := by rw [hNe]
  have ed : ds = N.ds := by rw [hNe]
  subst en ed
  clear hNe
  refine q_asg (ev_op (ev_var rfl) ev_c (rv_ixT (st_of hq2) rfl)) fun H3 e3 => ?_
  refine q_asg (ev_op (ev_var rfl) ev_c (rv_ixT (st_of (e3 _ _ hq2)) rfl)) fun H4 e4 => ?_
  have e24 := e3.trans e4
  obtain ⟨as, hP1, hP2⟩ := hP.mono e24
  refine q_netL (N := N) (xs := []) (as := as) hN (ev_var rfl) (el_list (ev_var rfl) (sq_of hP1)) hP2 fun x H5 hx e5 hnet => ?_
  have hP5 := (hP.mono e24).mono e5
  refine q_asgL (el_past (s := -1) (ds := N.ds) (ev_var rfl) (ev_var rfl) (ev_un ev_c ru_neg) hN.pos hN.most hN.ends hP5.pl) fun tl H6 htl e6 htl6 => ?_
  refine q_asgL (el_yes (n := N.n) (f := rch N.ds (-1)) (ev_var rfl) hN.most htl6 (fun _ => rfl) (fun _ => rfl) (fun _ => rfl)) fun th H7 hth e7 hth7 => ?_
  have hth8 : H7 th = some (.lst (nvs N.there)) := hth7
  have h0 : 0 ∈ N.there := (mem_there hN).mpr (.zero (by decide))
  have hpos : 0 < N.there.length := List.length_pos_of_mem h0
  have hlt : (nvs N.there).length = N.there.length := List.length_map ..
  have lts : ∀ {k}, Rch N.ds (-1) k → k < N.n := fun h => h.lt hN.pos hN.ends
  obtain ⟨c, hc0, hc1⟩ := emod_nat (ns.getD 0 0) (m := 6) (by decide)
  obtain ⟨ix, rs, hrs, hix, hget, hrt⟩ := drawn_rooms hpos ns c
  have hr : ∀ r ∈ rs, Rch N.ds (-1) r := fun r hr => (mem_there hN).mp (hrt r hr)
  have hrl : rs.length = c := by rw [hrs, List.length_map, List.length_range]
  have hs7 : SqL g.K H7 a (ns.map V.int) := ex_l ((((((e1.trans e2).trans e24).trans e5).trans e6).trans e7)) hs
  -- some
  refine q_asgL (xs := nvs rs) ?_ fun sm H8 hsm e8 hsm8 => ?_
  · have key := el_lc (σ := [some (V.ref a), some (V.ref q), some (V.ref pa), some (nv N.n), some (V.ref x), some (V.ref tl), some (V.ref th), none, none, none, none, none]) (H := H7) (t := tYes) (j := 7) (vs := [7]) (te := tOp (rIxL g.K) (tVar 6) (tOp rModI (tCall (sp__law_cell_at g) [] E0 (tCons (tVar 0) (tCons (tOp rAddI (tC (.int 1)) (tVar 7)) tNil))) (tCB (rLenS g.K) (tCons (tVar 6) tNil))))
      (wi := iRng1 (tCons (tOp rModI (tCall (sp__law_cell_at g) [] E0 (tCons (tVar 0) (tCons (tC (.int 0)) tNil))) (tC (.int 6))) tNil)) (l := List.range c) (R := fun (k : Nat) x => x = nv k) (fun _ => true) (fun k => nv (N.there.getD (ix k) 0))
      (ei_range (ea_cons (ev_is (ev_op (ev_cell (j := 0) (ev_var rfl) hs7 ev_c) ev_c (rv_mod (by decide))) (congrArg V.int hc0)) ea_nil) (by omega)) (by rw [List.length_range]; omega) (fun _ => rfl) (fun _ _ _ _ _ _ => et_yes) (fun k x H5 hk hx e5 _ => by
        subst hx
        refine ev_op (ev_var rfl) (ev_is (w := nv (ix k)) (ev_op (ev_cell (j := 1 + k) (ev_var rfl) (ex_l e5 hs7) (ev_is (ev_op ev_c (ev_var rfl) rv_I0) (congrArg V.int (by omega)))) (ev_len (ev_var rfl) (sq_of (e5 _ _ hth8))) (rv_mod (by show (0 : Int) < ((nvs N.there).length : Int); omega))) ?_) (rv_ixL (sq_of (e5 _ _ hth8)) (atI_nat (by rw [List.getElem?_map, hget k]; rfl)))
        rw [hlt]
        exact congrArg V.int (hix k))
    have e : ((List.range c).filter fun _ => true).map (fun k => nv (N.there.getD (ix k) 0)) = nvs rs := by
      rw [List.filter_eq_self.mpr (fun _ _ => rfl), hrs]
      unfold nvs
      rw [List.map_map]
      rfl
    rw [← e]
    exact key
  obtain ⟨J, hJ⟩ : ∃ J, J = jns N.n N.ds rs := ⟨_, rfl⟩
  have hJm : ∀ o, o ∈ J ↔ Jn N.ds rs o ∧ o ≠ 0 := fun o => by rw [hJ]; exact jns_mem fun k hk => lts hk
  have hJpw : J.Pairwise (· < ·) := by rw [hJ]; exact (List.pairwise_lt_range (n := N.n)).filter _
  have e58 := (e6.trans e7).trans e8
  refine q_asgL (xs := nvs J) (by rw [hJ]; exact el_joinsL (N := N) (ev_var rfl) (el_list (ev_var rfl) (sq_of hsm8)) (hnet.mono e58) (by omega) hr) fun fl H9 hfl e9 hfl9 => ?_
  refine q_when (b := false) (et_not (a := true) (et_B (ev_isi (ev_var rfl) (fun H1 e => tx_lst (e _ _ hfl9)) k_li))) (fun hb => by cases hb) (fun _ H10 e10 => ?_)
  refine q_asg ev_c fun H11 e11 => ?_
  have e911 := e10.trans e11
  have e511 := (e58.trans e9).trans e911
  have htl11 := e911 _ _ (e9 _ _ (e8 _ _ (e7 _ _ htl6)))
  have hsm11 := e911 _ _ (e9 _ _ hsm8)
  have hfl11 := e911 _ _ hfl9
  have hP11 := hP5.mono e511
  have lJ : (nvs J).length = J.length := List.length_map ..
  have hJl : J.length ≤ N.n := by rw [hJ]; exact filter_len _ _
  refine q_forLn (ev_var rfl) (sq_of hfl11) (fun i σ' H' => Ex H11 H' ∧ ∃ (last : Nat) (s7 : Option V), (i = 0 → last = 0) ∧ (∀ j, j + 1 = i → J[j]? = some last) ∧ σ' = [some (.ref a), some (.ref q), some (.ref pa), some (nv N.n), some (.ref x), some (.ref tl), some (.ref th), s7, some (.ref sm), some (.ref fl), some (nv last), none])
    (fun H12 e12 => ⟨e12, 0, _, fun _ => rfl, (fun j hj => by omega), rfl⟩) (fun i σ' H' _ hP => sq_of (hP.1 _ _ hfl11)) (fun i v σ' H' hx hP => ?_) (fun σ' H' hP => ?_)
  · obtain ⟨eX, last, s7, hl0, hl1, rfl⟩ := hP
    obtain ⟨o, ho, rfl⟩ := nvs_at hx
    have hoJ := (hJm o).mp (List.mem_of_getElem? ho)
    have hon := lts hoJ.1.rch
    have hlast : last < o := by
      cases i with
      | zero =>
        have := hl0 rfl
        have := hoJ.2
        omega
      | succ i =>
        have h1 := hl1 i rfl
        have g1 := List.getElem?_eq_some_iff.mp h1
        have g2 := List.getElem?_eq_some_iff.mp ho
        have := List.pairwise_iff_getElem.mp hJpw i (i + 1) g1.1 g2.1 (by omega)
        rw [g1.2, g2.2] at this
        exact this
    refine q_when (b := false) (et_is (et_or (et_not (et_B (ev_whole (ev_var rfl)))) fun _ => et_or (et_not (et_ch (ev_var rfl) (ev_var rfl) (ev_var rfl))) fun _ => et_not (et_B (ev_bl (n := N.n) (f := rch N.ds (-1)) (k := o) (ev_var rfl) (ev_var rfl) (eX _ _ htl11) hon))) ?_) (fun hb => by cases hb) (fun _ H12 e12 => ?_)
    · rw [rch_iff.mpr hoJ.1.rch, decide_eq_true (show (last : Int) < (o : Int) by omega), decide_eq_true (show (o : Int) < (N.n : Int) by omega)]
      rfl
    · exact s_asg (ev_var rfl) fun H13 e13 => ⟨(eX.trans e12).trans e13, o, _, (fun h => by omega), fun j hj => (show i = j by omega) ▸ ho, rfl⟩
  obtain ⟨eX, last, s7, _, _, rfl⟩ := hP
  refine q_when (b := false) (et_is (et_not (et_B (ev_settled (N := N) (so := rs) (J := J) (ev_var rfl) (ev_var rfl) (ev_var rfl) (ev_var rfl) (ev_var rfl) hN (hP11.mono eX) (eX _ _ htl11) (eX _ _ hsm11) (eX _ _ hfl11)))) (by rw [stl_iff.mpr (by rw [hJ]; exact jns_settled fun k hk => lts hk)]; rfl)) (fun hb => by cases hb) (fun _ H12 e12 => ?_)
  have eX12 := eX.trans e12
  refine q_forLn (ev_var rfl) (sq_of (eX12 _ _ hfl11)) (fun i σ' H' => Ex H11 H' ∧ ∃ s7, σ' = [some (.ref a), some (.ref q), some (.ref pa), some (nv N.n), some (.ref x), some (.ref tl), some (.ref th), s7, some (.ref sm), some (.ref fl), some (nv last), none])
    (fun H13 e13 => ⟨eX12.trans e13, _, rfl⟩) (fun i σ' H' _ hP => sq_of (hP.1 _ _ hfl11)) (fun i v σ' H' hx hP => ?_) (fun σ' H' hP => ?_)
  · obtain ⟨eY, s7, rfl⟩ := hP
    obtain ⟨o, ho, rfl⟩ := nvs_at hx
    have hoJ := List.mem_of_getElem? ho
    refine s_when (b := false) (et_is (et_B (ev_settledL (N := N) (so := rs) (J := J.filter fun k => !decide (k = o)) (ev_var rfl) (ev_var rfl) (ev_var rfl) (ev_var rfl) ?_ hN (hP11.mono eY) (eY _ _ htl11) (eY _ _ hsm11))) ?_) (fun hb => by cases hb) fun _ H14 e14 => ⟨eY.trans e14, _, rfl⟩
    · exact el_lc (l := J) (R := fun (k : Nat) x => x = nv k) (fun k => !decide (k = o)) nv (ei_list (ev_var rfl) (sq_of (eY _ _ hfl11)) (paired_map (f := nv) (fun _ => rfl) _)) (by omega) (fun _ => rfl) (fun k x H14 hk hx e14 => by
        subst hx
        exact et_is (et_test (ev_op (ev_var rfl) (ev_var rfl) (rv_ne rfl))) (congrArg (fun z => !z) (decide_eq_decide.mpr nvI))) (fun k x H14 hk hx e14 _ => by
        subst hx
        exact ev_var rfl)
    · refine stl_no.mpr fun hS => ?_
      have := jns_least (fun k hk => lts hk) hS o (hJ ▸ hoJ)
      rw [List.mem_filter] at this
      simp at this
  · obtain ⟨eY, s7, rfl⟩ := hP
    exact s_ret ev_c fun H4 e4 => k H4
end
end Mp

/-! law k12. -/
namespace Mp
open PySem L2 Evl
/-- all lists that leave out some of rooms -/
def setsOf (rooms : List Nat) : List (List Nat) := rooms.foldl (fun F r => F ++ F.map fun one => one ++ [r]) [[]]
theorem setsOf_snoc {l : List Nat} {r : Nat} : setsOf (l ++ [r]) = setsOf l ++ (setsOf l).map fun one => one ++ [r] := by
  unfold setsOf
  rw [List.foldl_append]
  rfl
theorem setsOf_len : ∀ (n : Nat) (l : List Nat), l.length = n → (setsOf l).length = 2 ^ n := by
  intro n
  induction n with
  | zero =>
    intro l h
    rw [List.length_eq_zero_iff.mp h]
    rfl
  | succ n ih =>
    intro l h
    obtain ⟨u, x, rfl⟩ : ∃ u x, l = u ++ [x] := ⟨_, _, (List.dropLast_concat_getLast (by intro z; rw [z] at h; cases h)).symm⟩
    rw [setsOf_snoc, List.length_append, List.length_map, ih u (by simp at h; exact h), Nat.pow_succ]
    omega
theorem filter_sets (p : Nat → Bool) : ∀ (n : Nat) (l : List Nat), l.length = n → l.filter p ∈ setsOf l := by
  intro n
  induction n with
  | zero =>
    intro l h
    rw [List.length_eq_zero_iff.mp h]
    simp [setsOf]
  | succ n ih =>
    intro l h
    obtain ⟨u, x, rfl⟩ : ∃ u x, l = u ++ [x] := ⟨_, _, (List.dropLast_concat_getLast (by intro z; rw [z] at h; cases h)).symm⟩
    have h1 := ih u (by simp at h; exact h)
    rw [setsOf_snoc, List.filter_append]
    cases hp : p x with
    | true => exact List.mem_append_right _ (List.mem_map.mpr ⟨_, h1, by simp [hp]⟩)
    | false =>
      refine List.mem_append_left _ ?_
      have : List.filter p [x] = [] := by simp [hp]
      rw [this, List.append_nil]
      exact h1
theorem lt_same {l m : List Nat} (h1 : l.Pairwise (· < ·)) (h2 : m.Pairwise (· < ·)) (h : ∀ x, x ∈ l ↔ x ∈ m) : l = m :=
  List.Perm.eq_of_pairwise (fun a b _ _ x y => by omega) h1 h2 ((List.perm_ext_iff_of_nodup (h1.imp fun z => by omega) (h2.imp fun z => by omega)).mpr h)
theorem paired_filter {α β : Type} {F : α → β → Prop} (p : β → Bool) : ∀ {l : List α} {m : List β}, Paired F l m → Paired F (((l.zip m).filter fun z => p z.2).map (·.1)) (m.filter p)
  | _, _, .nil => .nil
  | _, _, .cons (a := a) (b := b) r t => by
    rw [List.zip_cons_cons, List.filter_cons, List.filter_cons]
    cases h : p b with
    | true => exact .cons r (paired_filter p t)
    | false => exact paired_filter p t
def sp__law_sets (g : Gb) : Sp := fun vs H Q _ => ∃ (rl : Addr) (rooms : List Nat), vs = [.ref rl] ∧ H rl = some (.lst (nvs rooms)) ∧ rooms.length ≤ 10 ∧ ∀ q H2, Ex H H2 → Rows H2 q (setsOf rooms) → Q (.ref q) H2
/-! _law_sets: slots 0 rooms 1 found 2 room 3 one -/
def t__law_sets_b1 (g : Gb)  : TS := tAsg (tOp rCat (tVar 1) (tLc (iList g.K (tVar 1)) (gName 3) tYes (tOp rCat (tVar 3) (tLst (tCons (tVar 2) tNil))) [3])) (gName 1)
def t__law_sets (g : Gb) : TS := tSeq (tAsg (tLst (tCons (tLst tNil) tNil)) (gName 1))
  (tSeq (tFor (iList g.K (tVar 0)) (gName 2) (t__law_sets_b1 g))
  (tRet (tVar 1)))
abbrev N__law_sets : List Str := ["rooms", "found", "room", "one"]
/-! law@k12: slots 0 script 1 drawn 2 pairs 3 many 4 net 5 there 6 rooms 7 k 8 some 9 good 10 one 11 due 12 turn 13 handed 14 found -/
def t_law_k12_b1 (g : Gb)  : TS := tSeq (tAsg (tCB (rListS g.K) (tCons (tVar 8) tNil)) (gName 13))
  (tSeq (tAsg (tCall (sp_joins g) [] E0 (tCons (tVar 4) (tCons (tVar 13) tNil))) (gName 14))
  (tSeq (tIfS (tOr (tNot (tB (tCall (sp__law_numbers g) [] E0 (tCons (tVar 14) (tCons (tVar 11) tNil))))) (tTest (tOp (rNeD g.K) (tVar 13) (tVar 8)))) (tRet (tC (.bl false))) tNext)
  (tDrop (tBM g.K "list" rAppend (tVar 14) (tCons (tC (.int 0)) tNil)))))
def t_law_k12 (g : Gb) : TS := tSeq (tAsg (tCall (sp__law_net g) [] E0 (tCons (tVar 0) (tCons (tC (.int 6)) (tCons (tC (.int 5)) (tCons (tC (.int 10)) tNil))))) (gName 1))
  (tSeq (tAsg (tOp (rIxT g.K) (tVar 1) (tC (.int 1))) (gName 2))
  (tSeq (tAsg (tOp (rIxT g.K) (tVar 1) (tC (.int 0))) (gName 3))
  (tSeq (tAsg (tMake g.C (sp_Net___init__ g) [] E0 (tCons (tVar 3) (tCons (tCB (rListS g.K) (tCons (tVar 2) tNil)) tNil))) (gName 4))
  (tSeq (tAsg (tCall (sp__law_past g) [] E0 (tCons (tVar 3) (tCons (tVar 2) (tCons (tUn rNeg (tC (.int 1))) tNil)))) (gName 5))
  (tSeq (tAsg (tLc (iRng1 (tCons (tVar 3) tNil)) (gName 7) (tB (tOp (rIxL g.K) (tVar 5) (tVar 7))) (tVar 7) [7]) (gName 6))
  (tSeq (tAsg (tLc (iRng1 (tCons (tOp rModI (tCall (sp__law_cell_at g) [] E0 (tCons (tVar 0) (tCons (tC (.int 0)) tNil))) (tC (.int 5))) tNil)) (gName 7) tYes (tOp (rIxL g.K) (tVar 6) (tOp rModI (tCall (sp__law_cell_at g) [] E0 (tCons (tVar 0) (tCons (tOp rAddI (tC (.int 1)) (tVar 7)) tNil))) (tCB (rLenS g.K) (tCons (tVar 6) tNil)))) [7]) (gName 8))
  (tSeq (tAsg (tLc (iList g.K (tCall (sp__law_sets g) [] E0 (tCons (tSl (rSlL g.K) (tVar 6) (tPart (tC (.int 1))) tNoPart) tNil))) (gName 10) (tB (tCall (sp__law_settled g) [] E0 (tCons (tVar 3) (tCons (tVar 2) (tCons (tVar 5) (tCons (tVar 8) (tCons (tVar 10) tNil))))))) (tVar 10) [10]) (gName 9))
  (tSeq (tAsg (tLc (iList g.K (tSl (rSlL g.K) (tVar 6) (tPart (tC (.int 1))) tNoPart)) (gName 7) (tTest (tOp rEq (tCB (rLenS g.K) (tCons (tLc (iList g.K (tVar 9)) (gName 10) (tTest (tOp (rIn g.K true) (tVar 7) (tVar 10))) (tVar 10) [10]) tNil)) (tC (.int 0)))) (tVar 7) [7]) (gName 11))
  (tSeq (tFor (iRng1 (tCons (tC (.int 2)) tNil)) (gName 12) (t_law_k12_b1 g))
  (tRet (tCall (sp__law_settled g) [] E0 (tCons (tVar 3) (tCons (tVar 2) (tCons (tVar 5) (tCons (tVar 8) (tCons (tVar 11) tNil))))))))))))))))
abbrev N_law_k12 : List Str := ["script", "drawn", "pairs", "many", "net", "there", "rooms", "k", "some", "good", "one", "due", "turn", "handed", "found"]

section
variable {g : Gb} {σ : L2.St} {H H' B : Hp} {D : Ends} {E : XK} {Q : VK} {vs : List V} {p : Addr} {N : Nt} {te tn tr ta tb td ti to : TE} {K : PySem.W.Frag} {r k o : Nat} {t : TT}
theorem setsOf_le {l : List Nat} (h : l.length ≤ 10) : (setsOf l).length ≤ 1024 := by
  rw [setsOf_len l.length l rfl]
  exact Nat.le_trans (Nat.pow_le_pow_right (by decide) h) (by decide)
theorem pure__law_sets (h : sp__law_sets g vs H Q E) : t__law_sets g { nx := fun _ H' => Q .non H', rt := Q } (start N__law_sets vs) H := by
  obtain ⟨rl, rooms, rfl, hrl, hlen, k⟩ := h
  refine a_asgP (ep_lst1 (EvL.p (el_lst (vs := []) ea_nil (Nat.zero_le _)))) fun v H1 e1 hv => ?_
  obtain ⟨q, v1, H2, rfl, hq, ⟨e0, rfl, _, he0⟩, ex, hq2, rfl⟩ := hv
  have lr : (nvs rooms).length = rooms.length := List.length_map ..
  refine q_forLn (ev_var rfl) (sq_of (e1 _ _ hrl)) (fun i σ' H' => Ex H H' ∧ ∃ (q : Addr) (s2 : Option V), σ' = [some (.ref rl), some (.ref q), s2, none] ∧ Rows H' q (setsOf (rooms.take i)))
    (fun H3 e3 => ⟨e1.trans e3, q, _, rfl, [e0], e3 _ _ (by rw [upd_same]; rfl), .cons (e3 _ _ (Ex.new hq2 _ _ he0)) .nil⟩) (fun i σ' H' _ hP => sq_of (hP.1 _ _ hrl)) (fun i x σ' H' hx hP => ?_) (fun σ' H' hP => ?_)
  · obtain ⟨eX, q, s2, rfl, as, hq, hpr⟩ := hP
    obtain ⟨o, ho, rfl⟩ := nvs_at hx
    have hl := setsOf_le (l := rooms.take i) (by rw [List.length_take]; omega)
    have hal : as.length = (setsOf (rooms.take i)).length := paired_len hpr
    have ht1 : setsOf (rooms.take (i + 1)) = setsOf (rooms.take i) ++ (setsOf (rooms.take i)).map fun one => one ++ [o] := by
      rw [List.take_add_one, ho]
      exact setsOf_snoc
    have hone : ∀ one ∈ setsOf (rooms.take i), one.length ≤ 10 := fun one h1 => by
      have : ∀ (n : Nat) (l : List Nat), l.length = n → ∀ one ∈ setsOf l, one.length ≤ n := by
        intro n
        induction n with
        | zero =>
          intro l h one h1
          rw [List.length_eq_zero_iff.mp h] at h1
          simp [setsOf] at h1
          rw [h1]
          simp
        | succ n ih =>
          intro l h one h1
          obtain ⟨u, x, rfl⟩ : ∃ u x, l = u ++ [x] := ⟨_, _, (List.dropLast_concat_getLast (by intro z; rw [z] at h; cases h)).symm⟩
          rw [setsOf_snoc] at h1
          have ih2 := ih u (by simp at h; exact h)
          rcases List.mem_append.mp h1 with h1 | h1
          · have := ih2 one h1
            omega
          · obtain ⟨y, hy, rfl⟩ := List.mem_map.mp h1
            have := ih2 y hy
            rw [List.length_append]
            show _ + 1 ≤ _
            omega
      have := this _ _ rfl one h1
      rw [List.length_take] at this
      omega
    -- [one + [room] for one in found]
    have hcomp : EvP (tLc (iList g.K (tVar 1)) (gName 3) tYes (tOp rCat (tVar 3) (tLst (tCons (tVar 2) tNil))) [3]) [some (V.ref rl), some (V.ref q), some (nv o), none] H' (fun H1 v H2 => ∃ (p : Addr) (bs : List Addr), v = .ref p ∧ H1 p = none ∧ H2 p = some (.lst (bs.map V.ref)) ∧ Paired (fun a r => H1 a = none ∧ a ≠ p ∧ H2 a = some (.lst r)) bs (((setsOf (rooms.take i)).filter fun _ => true).map fun one => nvs (one ++ [o]))) :=
      ep_lcL (l := setsOf (rooms.take i)) (R := fun (one : List Nat) x => ∃ a, x = V.ref a ∧ H' a = some (.lst (nvs one))) (fun _ => true) (fun one => nvs (one ++ [o])) (ei_list (ev_var rfl) (sq_of hq) (by
        have key : ∀ {l : List Addr} {m : List (List Nat)}, Paired (fun a r => H' a = some (.lst (nvs r))) l m → Paired (fun x one => ∃ a, x = V.ref a ∧ H' a = some (.lst (nvs one))) (l.map V.ref) m := by
          intro l m h
          induction h with
          | nil => exact .nil
          | cons r _ ih => exact .cons ⟨_, rfl, r⟩ ih
        exact key hpr)) (by omega) (fun _ => rfl) (fun _ _ _ _ _ _ => et_yes) (fun one x H3 ho1 hx e3 _ => by
        obtain ⟨a, rfl, ha⟩ := hx
        have := el_catL (σ := [some (V.ref rl), some (V.ref q), some (nv o), some (V.ref a)]) (H := H3) (ta := tVar 3) (tb := tLst (tCons (tVar 2) tNil)) (a := a) (xs := nvs one) (ys := [nv o]) (ev_var rfl) (el_lst (ea_cons (ev_var rfl) ea_nil) (by show 1 ≤ 100000; decide)) (e3 _ _ ha) (by
          have := hone one ho1
          rw [List.length_map]
          show _ + 1 ≤ 100000
          omega)
        rw [nvs_snoc] at this
        exact this)
    refine ⟨_, rfl, hcomp H' (Ex.refl _) _ fun v H3 e3 hv => ?_⟩
    obtain ⟨p, bs, rfl, hp, hp3, hpr3⟩ := hv
    rw [List.filter_eq_self.mpr (fun _ _ => rfl)] at hpr3
    have hbl : bs.length = (setsOf (rooms.take i)).length := by
      have := paired_len hpr3
      rw [List.length_map] at this
      exact this
    refine ⟨q, p, as.map V.ref, bs.map V.ref, rfl, rfl, e3 _ _ hq, hp3, by rw [List.length_map, List.length_map]; exact sz_of (by omega), fun z hz => ⟨(eX.trans e3).trans (Ex.new hz), z, _, rfl, as ++ bs, ?_, ?_⟩⟩
    · rw [upd_same, List.map_append]
    · rw [ht1]
      have hmap : ∀ {l : List Addr} {m : List (List Nat)}, Paired (fun a r => H' a = none ∧ a ≠ p ∧ H3 a = some (.lst r)) l (m.map fun one => nvs (one ++ [o])) → Paired (fun a r => (upd H3 z (.lst (as.map V.ref ++ bs.map V.ref))) a = some (.lst (nvs r))) l (m.map fun one => one ++ [o]) := by
        intro l m h
        induction m generalizing l with
        | nil => cases h; exact .nil
        | cons one m ih => cases h with
          | cons r t => exact .cons (Ex.new hz _ _ r.2.2) (ih t)
      exact paired_append (Paired.mono (fun a r h => Ex.new hz _ _ (e3 _ _ h)) hpr) (hmap hpr3)
  · obtain ⟨eX, q, s2, rfl, hR⟩ := hP
    rw [lr, List.take_length] at hR
    exact s_ret (ev_var rfl) fun H3 e3 => k q H3 (eX.trans e3) (hR.mono e3)
theorem there_cons (ok : N.Ok) : ∃ rest, N.there = 0 :: rest ∧ rest.Pairwise (· < ·) ∧ ∀ x, x ∈ rest ↔ Rch N.ds (-1) x ∧ x ≠ 0 := by
  have h0 : 0 ∈ N.there := (mem_there ok).mpr (.zero (by decide))
  have pw : N.there.Pairwise (· < ·) := (List.pairwise_lt_range (n := N.n)).filter _
  have hm : ∀ x, x ∈ N.there ↔ Rch N.ds (-1) x := fun x => mem_there ok
  cases hT : N.there with
  | nil => rw [hT] at h0; cases h0
  | cons h rest =>
    rw [hT] at h0 pw hm
    have pw2 := List.pairwise_cons.mp pw
    have hh : h = 0 := by
      rcases List.mem_cons.mp h0 with e | e
      · exact e.symm
      · have := pw2.1 0 e
        omega
    subst hh
    refine ⟨rest, rfl, pw2.2, fun x => ?_⟩
    rw [← hm x, List.mem_cons]
    constructor
    · intro hx
      have := pw2.1 x hx
      exact ⟨.inr hx, by omega⟩
    · rintro ⟨h1 | h1, h2⟩
      · exact (h2 h1).elim
      · exact h1
theorem pure_law_k12 (h : spLaw g vs H Q E) : t_law_k12 g { nx := fun _ H' => Q .non H', rt := Q } (start N_law_k12 vs) H := by
  obtain ⟨a, ns, rfl, hs, hlen, k⟩ := h
  refine q_callX (ea_cons (ev_var rfl) (ea_cons ev_c (ea_cons ev_c (ea_cons ev_c ea_nil)))) fun H1 e1 => ⟨a, ns, 6, 5, 10, rfl, ex_l e1 hs, by decide, by decide, by decide, fun n ds q pa H2 hn1 hn2 hd1 hd2 e2 hq hpa hne hq2 hP => ?_⟩
  obtain ⟨N, hNe⟩ : ∃ N : Nt, N = ⟨n, ds⟩ := ⟨_, rfl⟩
  have hN : N.Ok := by rw [hNe]; exact ⟨hn1, by show n ≤ 40; omega, by show ds.length ≤ 100; omega, hd2⟩
  have en : n = N.n := by rw [hNe]
  have ed : ds = N.ds := by rw [hNe]
  subst en ed
  clear hNe
  refine q_asg (ev_op (ev_var rfl) ev_c (rv_ixT (st_of hq2) rfl)) fun H3 e3 => ?_
  refine q_asg (ev_op (ev_var rfl) ev_c (rv_ixT (st_of (e3 _ _ hq2)) rfl)) fun H4 e4 => ?_
  have e24 := e3.trans e4
  obtain ⟨as, hP1, hP2⟩ := hP.mono e24
  refine q_netL (N := N) (xs := []) (as := as) hN (ev_var rfl) (el_list (ev_var rfl) (sq_of hP1)) hP2 fun x H5 hx e5 hnet => ?_
  have hP5 := (hP.mono e24).mono e5
  refine q_asgL (el_past (s := -1) (ds := N.ds) (ev_var rfl) (ev_var rfl) (ev_un ev_c ru_neg) hN.pos hN.most hN.ends hP5.pl) fun tl H6 htl e6 htl6 => ?_
  refine q_asgL (el_yes (n := N.n) (f := rch N.ds (-1)) (ev_var rfl) hN.most htl6 (fun _ => rfl) (fun _ => rfl) (fun _ => rfl)) fun th H7 hth e7 hth7 => ?_
  have hth8 : H7 th = some (.lst (nvs N.there)) := hth7
  have h0 : 0 ∈ N.there := (mem_there hN).mpr (.zero (by decide))
  have hpos : 0 < N.there.length := List.length_pos_of_mem h0
  have hlt : (nvs N.there).length = N.there.length := List.length_map ..
  have lts : ∀ {k}, Rch N.ds (-1) k → k < N.n := fun h => h.lt hN.pos hN.ends
  obtain ⟨c, hc0, hc1⟩ := emod_nat (ns.getD 0 0) (m := 5) (by decide)
  obtain ⟨ix, rs, hrs, hix, hget, hrt⟩ := drawn_rooms hpos ns c
  have hr : ∀ r ∈ rs, Rch N.ds (-1) r := fun r hr => (mem_there hN).mp (hrt r hr)
  have hrl : rs.length = c := by rw [hrs, List.length_map, List.length_range]
  have hs7 : SqL g.K H7 a (ns.map V.int) := ex_l ((((((e1.trans e2).trans e24).trans e5).trans e6).trans e7)) hs
  -- some
  refine q_asgL (xs := nvs rs) ?_ fun sm H8 hsm e8 hsm8 => ?_
  · have key := el_lc (σ := [some (V.ref a), some (V.ref q), some (V.ref pa), some (nv N.n), some (V.ref x), some (V.ref tl), some (V.ref th), none, none, none, none, none, none, none, none]) (H := H7) (t := tYes) (j := 7) (vs := [7]) (te := tOp (rIxL g.K) (tVar 6) (tOp rModI (tCall (sp__law_cell_at g) [] E0 (tCons (tVar 0) (tCons (tOp rAddI (tC (.int 1)) (tVar 7)) tNil))) (tCB (rLenS g.K) (tCons (tVar 6) tNil))))
      (wi := iRng1 (tCons (tOp rModI (tCall (sp__law_cell_at g) [] E0 (tCons (tVar 0) (tCons (tC (.int 0)) tNil))) (tC (.int 5))) tNil)) (l := List.range c) (R := fun (k : Nat) x => x = nv k) (fun _ => true) (fun k => nv (N.there.getD (ix k) 0))
      (ei_range (ea_cons (ev_is (ev_op (ev_cell (j := 0) (ev_var rfl) hs7 ev_c) ev_c (rv_mod (by decide))) (congrArg V.int hc0)) ea_nil) (by omega)) (by rw [List.length_range]; omega) (fun _ => rfl) (fun _ _ _ _ _ _ => et_yes) (fun k x H5 hk hx e5 _ => by
        subst hx
        refine ev_op (ev_var rfl) (ev_is (w := nv (ix k)) (ev_op (ev_cell (j := 1 + k) (ev_var rfl) (ex_l e5 hs7) (ev_is (ev_op ev_c (ev_var rfl) rv_I0) (congrArg V.int (by omega)))) (ev_len (ev_var rfl) (sq_of (e5 _ _ hth8))) (rv_mod (by show (0 : Int) < ((nvs N.there).length : Int); omega))) ?_) (rv_ixL (sq_of (e5 _ _ hth8)) (atI_nat (by rw [List.getElem?_map, hget k]; rfl)))
        rw [hlt]
        exact congrArg V.int (hix k))
    have e : ((List.range c).filter fun _ => true).map (fun k => nv (N.there.getD (ix k) 0)) = nvs rs := by
      rw [List.filter_eq_self.mpr (fun _ _ => rfl), hrs]
      unfold nvs
      rw [List.map_map]
      rfl
    rw [← e]
    exact key
  obtain ⟨rest, hrest, hrpw, hrm⟩ := there_cons hN
  have hrn : rest.length ≤ 4 := by
    have hrnd : rest.Nodup := hrpw.imp fun z => by omega
    have h1 := hrnd.length_le_of_subset (l₂ := (List.range N.n).tail) fun x hx => by
      have hx2 := (hrm x).mp hx
      have h3 : x ∈ List.range N.n := List.mem_range.mpr (lts hx2.1)
      have h4 : List.range N.n = 0 :: (List.range N.n).tail := by
        cases e : List.range N.n with
        | nil => rw [e] at h3; cases h3
        | cons y l =>
          have : (List.range N.n)[0]? = some y := by rw [e]; rfl
          rw [List.getElem?_range hN.pos] at this
          rw [← Option.some.inj this]
          rfl
      rw [h4] at h3
      rcases List.mem_cons.mp h3 with h3 | h3
      · exact (hx2.2 h3).elim
      · exact h3
    rw [List.length_tail, List.length_range] at h1
    omega
  have hslice : ∀ {σ : L2.St} {H'' : Hp}, Ex H7 H'' → σ[6]? = some (some (.ref th)) → EvL (tSl (rSlL g.K) (tVar 6) (tPart (tC (.int 1))) tNoPart) σ H'' (nvs rest) := fun {σ H''} e h6 => by
    have := el_sl (K := g.K) (σ := σ) (H := H'') (te := tVar 6) (a := th) (lo := some (1 : Int)) (hi := none) (ev_var h6) (eo_some ev_c) eo_none (sq_of (e _ _ hth8))
    rw [show (1 : Int) = ((1 : Nat) : Int) from rfl, cut_from, hrest] at this
    exact this
  have e58 := (e6.trans e7).trans e8
  have htl8 := e8 _ _ (e7 _ _ htl6)
  -- good
  obtain ⟨good, hgood⟩ : ∃ good, good = (setsOf rest).filter fun one => stl N.ds rs one := ⟨_, rfl⟩
  refine sig_is (σ' := [some (.ref a), some (.ref q), some (.ref pa), some (nv N.n), some (.ref x), some (.ref tl), some (.ref th), none, some (.ref sm), none, none, none, none, none, none]) rfl ?_
  refine a_asgP (P := fun H1 v H2 => ∃ q, v = V.ref q ∧ Rows H2 q good) (fun H9 e9 Q9 k9 => lc_raw (hslice (e8.trans e9) rfl H9 (Ex.refl _) _ fun sl H10 hsl e10 hsl10 => ⟨sl, rest, rfl, hsl10, by omega, fun sq H11 e11 hR => ?_⟩)) fun v H9 e9 hv => ?_
  · obtain ⟨bs, hR1, hR2⟩ := hR
    have e811 := (e9.trans e10).trans e11
    have hbl : bs.length = (setsOf rest).length := paired_len hR2
    have hsl4 := setsOf_le (l := rest) (by omega)
    have := el_lc (σ := [some (V.ref a), some (V.ref q), some (V.ref pa), some (nv N.n), some (V.ref x), some (V.ref tl), some (V.ref th), none, some (V.ref sm), none, none, none, none, none, none]) (H := H11) (te := tVar 10) (j := 10) (vs := [10]) (t := tB (tCall (sp__law_settled g) [] E0 (tCons (tVar 3) (tCons (tVar 2) (tCons (tVar 5) (tCons (tVar 8) (tCons (tVar 10) tNil))))))) (wi := iList g.K (tC (.ref sq))) (l := bs.zip (setsOf rest)) (R := fun (z : Addr × List Nat) x => x = V.ref z.1 ∧ H11 z.1 = some (.lst (nvs z.2)))
      (fun z => stl N.ds rs z.2) (fun z => V.ref z.1) (ei_list ev_c (sq_of hR1) (by
        have key : ∀ {l : List Addr} {m : List (List Nat)}, Paired (fun a r => H11 a = some (.lst (nvs r))) l m → Paired (fun x (z : Addr × List Nat) => x = V.ref z.1 ∧ H11 z.1 = some (.lst (nvs z.2))) (l.map V.ref) (l.zip m) := by
          intro l m h
          induction h with
          | nil => exact .nil
          | cons r _ ih => exact .cons ⟨rfl, r⟩ ih
        exact key hR2)) (by rw [List.length_zip]; omega) (fun _ => rfl) (fun z x H12 hz hx e12 => by
        obtain ⟨rfl, hz2⟩ := hx
        exact et_B (ev_settled (N := N) (so := rs) (J := z.2) (ev_var rfl) (ev_var rfl) (ev_var rfl) (ev_var rfl) (ev_var rfl) hN (hP5.mono (e58.trans (e811.trans e12))) ((e811.trans e12) _ _ htl8) ((e811.trans e12) _ _ hsm8) (e12 _ _ hz2))) (fun z x H12 hz hx e12 _ => by
        rw [hx.1]
        exact ev_var rfl)
    refine this H11 (Ex.refl _) _ fun gl H12 hgl e12 hgl12 => k9 _ H12 ((e10.trans e11).trans e12) ⟨gl, rfl, ((bs.zip (setsOf rest)).filter fun z => stl N.ds rs z.2).map (·.1), ?_, ?_⟩
    · rw [hgl12, List.map_map]
      rfl
    · rw [hgood]
      exact paired_filter _ (Paired.mono (fun a r h => e12 _ _ h) hR2)
  obtain ⟨gl, rfl, hR⟩ := hv
  obtain ⟨bs, hR1, hR2⟩ := id hR
  have e89 := e8.trans e9
  have hgl : good.length ≤ 1024 := by
    rw [hgood]
    exact Nat.le_trans (List.length_filter_le _ _) (setsOf_le (by omega))
  have hbl : bs.length = good.length := paired_len hR2
  -- due
  refine sig_is (σ' := [some (.ref a), some (.ref q), some (.ref pa), some (nv N.n), some (.ref x), some (.ref tl), some (.ref th), none, some (.ref sm), some (.ref gl), none, none, none, none, none]) rfl ?_
  obtain ⟨J, hJ⟩ : ∃ J, J = jns N.n N.ds rs := ⟨_, rfl⟩
  have hJm : ∀ o, o ∈ J ↔ Jn N.ds rs o ∧ o ≠ 0 := fun o => by rw [hJ]; exact jns_mem fun k hk => lts hk
  have hJpw : J.Pairwise (· < ·) := by rw [hJ]; exact (List.pairwise_lt_range (n := N.n)).filter _
  have hJS : Settled N.ds rs J := by rw [hJ]; exact jns_settled fun k hk => lts hk
  have hJrest : ∀ o ∈ J, o ∈ rest := fun o ho => (hrm o).mpr ⟨((hJm o).mp ho).1.rch, ((hJm o).mp ho).2⟩
  have hdue : (rest.filter fun k => good.all fun one => decide (k ∈ one)) = J := by
    refine lt_same (hrpw.filter _) hJpw fun o => ?_
    rw [List.mem_filter, List.all_eq_true]
    constructor
    · rintro ⟨h1, h2⟩
      have hJg : J ∈ good := by
        rw [hgood]
        refine List.mem_filter.mpr ⟨?_, stl_iff.mpr hJS⟩
        have : J = rest.filter fun k => decide (k ∈ J) := lt_same hJpw (hrpw.filter _) fun o => by
          rw [List.mem_filter, decide_eq_true_iff]
          exact ⟨fun h => ⟨hJrest o h, h⟩, fun h => h.2⟩
        rw [this]
        exact filter_sets _ rest.length rest rfl
      exact of_decide_eq_true (h2 J hJg)
    · intro h
      refine ⟨hJrest o h, fun one h1 => decide_eq_true ?_⟩
      rw [hgood] at h1
      have h2 := List.mem_filter.mp h1
      exact jns_least (fun k hk => lts hk) (stl_iff.mp h2.2) o (hJ ▸ h)
  refine q_asgL (xs := nvs J) ?_ fun du H10 hdu e10 hdu10 => ?_
  · rw [← hdue]
    refine el_lc (l := rest) (R := fun (k : Nat) x => x = nv k) (fun k => good.all fun one => decide (k ∈ one)) nv (ei_listN (hslice e89 rfl) (paired_map (f := nv) (fun _ => rfl) _)) (by omega) (fun _ => rfl) (fun k x H10 hk hx e10 => ?_) (fun k x H10 hk hx e10 _ => ?_)
    · subst hx
      refine et_is (et_test (ev_none (el_lc (l := bs.zip good) (R := fun (z : Addr × List Nat) x => x = V.ref z.1 ∧ H9 z.1 = some (.lst (nvs z.2))) (fun z => !decide (k ∈ z.2)) (fun z => V.ref z.1) (ei_list (ev_var rfl) (sq_of (e10 _ _ hR1)) (by
        have key : ∀ {l : List Addr} {m : List (List Nat)}, Paired (fun a r => H9 a = some (.lst (nvs r))) l m → Paired (fun x (z : Addr × List Nat) => x = V.ref z.1 ∧ H9 z.1 = some (.lst (nvs z.2))) (l.map V.ref) (l.zip m) := by
          intro l m h
          induction h with
          | nil => exact .nil
          | cons r _ ih => exact .cons ⟨rfl, r⟩ ih
        exact key hR2)) (by rw [List.length_zip]; omega) (fun _ => rfl) (fun z x H11 hz hx e11 => ?_) (fun z x H11 hz hx e11 _ => ?_)))) ?_
      · obtain ⟨rfl, hz2⟩ := hx
        exact et_is (et_test (ev_op (ev_var rfl) (ev_var rfl) (rv_niL (sq_of (e11 _ _ (e10 _ _ hz2))) rfl (flat_nvs _)))) (by rw [in_nvs])
      · rw [hx.1]
        exact ev_var rfl
      · rw [List.length_map, Bool.eq_iff_iff, decide_eq_true_iff, List.all_eq_true, List.length_eq_zero_iff, List.filter_eq_nil_iff]
        constructor
        · intro h one h1
          obtain ⟨i, hi, e⟩ := List.mem_iff_getElem.mp h1
          have hz : (bs[i]'(by omega), one) ∈ bs.zip good := by
            refine List.mem_iff_getElem.mpr ⟨i, by rw [List.length_zip]; omega, ?_⟩
            rw [List.getElem_zip, e]
          have := h _ hz
          simpa using this
        · intro h z hz
          have := h z.2 (List.of_mem_zip hz).2
          simpa using this
    · subst hx
      exact ev_var rfl
  have e510 := (e58.trans e9).trans e10
  have hsm10 := e10 _ _ (e9 _ _ hsm8)
  have hJl : J.length ≤ N.n := by rw [hJ]; exact filter_len _ _
  refine q_forR1 (n := 2) (ea_cons ev_c ea_nil) ⟨by decide, by decide⟩ (fun i σ' H' => Ex H10 H' ∧ ∃ s12 s13 s14, σ' = [some (.ref a), some (.ref q), some (.ref pa), some (nv N.n), some (.ref x), some (.ref tl), some (.ref th), none, some (.ref sm), some (.ref gl), none, some (.ref du), s12, s13, s14]) (fun H11 e11 => ⟨e11, _, _, _, rfl⟩) (fun i σ' H' hi hP3 => ?_) (fun σ' H' hP3 => ?_)
  · obtain ⟨eX, s12, s13, s14, rfl⟩ := hP3
    refine q_asgL (el_list (ev_var rfl) (sq_of (eX _ _ hsm10))) fun hd H11 hhd e11 hhd11 => ?_
    refine q_asgL (xs := nvs J) (by rw [hJ]; exact el_joins (N := N) (rs := rs) (ev_var rfl) (ev_var rfl) (hnet.mono ((e510.trans eX).trans e11)) hhd11 (by omega) hr) fun fl H12 hfl e12 hfl12 => ?_
    have e1012 := (eX.trans e11).trans e12
    refine q_when (b := false) (et_is (et_or (et_not (et_B (ev_numbers (xs := J) (ev_var rfl) (ev_var rfl) hfl12 (e1012 _ _ hdu10)))) fun _ => et_test (ev_op (ev_var rfl) (ev_var rfl) (rv_neD (d := iD (rs.map fun (k : Nat) => (k : Int))) (fun H10 e10 => dp_list (by rw [← nvs_int]; exact sq_of (e10 _ _ (e12 _ _ hhd11)))) (fun H10 e10 => dp_list (by rw [← nvs_int]; exact sq_of (e10 _ _ (e1012 _ _ hsm10)))) (iD_shaped _)))) (by simp)) (fun hb => by cases hb) (fun _ H13 e13 => ?_)
    exact s_app (xs := nvs J) (e13 _ _ hfl12) (ev_var rfl) ev_c (by rw [List.length_map]; omega) fun H14 e14 => ⟨exU ((e1012.trans e13).trans e14) (fresh_back (eX.trans e11) hfl), _, _, _, rfl⟩
  · obtain ⟨eX, s12, s13, s14, rfl⟩ := hP3
    have e1x := e510.trans eX
    refine s_ret (ev_is (ev_settled (N := N) (so := rs) (J := J) (ev_var rfl) (ev_var rfl) (ev_var rfl) (ev_var rfl) (ev_var rfl) hN (hP5.mono e1x) (eX _ _ (e10 _ _ (e9 _ _ htl8))) (eX _ _ hsm10) (eX _ _ hdu10)) (by rw [stl_iff.mpr hJS])) fun H11 e11 => k H11
end
end Mp

/-! Law k10: the helpers that tell wild rings. -/
namespace Mp
open PySem L2 Evl
open Classical in
noncomputable def wildb (ds : DL) : Bool := decide (∃ C, Ring (wld ds) C)
open Classical in
theorem wildb_iff {ds : DL} : wildb ds = true ↔ ∃ C, Ring (wld ds) C := by unfold wildb; exact decide_eq_true_iff
open Classical in
theorem wildb_no {ds : DL} : wildb ds = false ↔ ¬ ∃ C, Ring (wld ds) C := by unfold wildb; exact decide_eq_false_iff_not
def sp__law_tame (g : Gb) : Sp := fun vs H Q _ => ∃ (rl t : Addr) (n : Nat) (c : List Nat) (f : Nat → Nat → Bool), vs = [.ref rl, .ref t] ∧ H rl = some (.lst (nvs c)) ∧ TbAt H t n f ∧ (∀ x ∈ c, x < n) ∧ c.length ≤ 1000 ∧ RetV (.bl (tameb c f)) H Q
def sp__law_is_wild (g : Gb) : Sp := fun vs H Q _ => ∃ (fl pl t : Addr) (N : Nt) (c : List Nat), vs = [.ref fl, .ref pl, .ref t] ∧ N.Ok ∧ H fl = some (.lst (nvs c)) ∧ PLt H pl (N.ds.map zp) ∧ TbAt H t N.n (dm N.ds) ∧ Ring N.ds c ∧ (∀ x ∈ c, Rch N.ds (-1) x) ∧ tameb c (dm N.ds) = false ∧ RetV (.bl true) H Q
def sp__law_goes_round (g : Gb) : Sp := fun vs H Q _ => ∃ (pl t : Addr) (N : Nt), vs = [.ref pl, .ref t] ∧ N.Ok ∧ PLt H pl (N.ds.map zp) ∧ TbAt H t N.n (dm N.ds) ∧ RetV (.bl (wildb N.ds)) H Q
/-! _law_tame: slots 0 ring 1 table 2 one 3 other -/
def t__law_tame_b1 (g : Gb)  : TS := tIfS (tTest (tOp rEq (tCB (rLenS g.K) (tCons (tLc (iList g.K (tVar 0)) (gName 3) (tNot (tB (tOp (rIxL g.K) (tOp (rIxL g.K) (tVar 1) (tVar 2)) (tVar 3)))) (tVar 3) [3]) tNil)) (tC (.int 0)))) (tRet (tC (.bl true))) tNext
def t__law_tame (g : Gb) : TS := tSeq (tFor (iList g.K (tVar 0)) (gName 2) (t__law_tame_b1 g))
  (tRet (tC (.bl false)))
abbrev N__law_tame : List Str := ["ring", "table", "one", "other"]
/-! _law_is_wild: slots 0 found 1 pairs 2 table 3 one 4 k -/
def t__law_is_wild_b1 (g : Gb)  : TS := tIfS (tOr (tNot (tB (tCall (sp__law_whole g) [] E0 (tCons (tVar 3) tNil)))) (tOr (tNot (tTest (tChain rLeI rLtI (tC (.int 0)) (tVar 3) (tCB (rLenS g.K) (tCons (tVar 2) tNil))))) (tOr (tNot (tB (tOp (rIxL g.K) (tOp (rIxL g.K) (tVar 2) (tC (.int 0))) (tVar 3)))) (tTest (tOp rNe (tBM g.K "list" (rCntI g.K) (tVar 0) (tCons (tVar 3) tNil)) (tC (.int 1))))))) (tRet (tC (.bl false))) tNext
def t__law_is_wild_b2 (g : Gb)  : TS := tIfS (tTest (tOp (rNotInD g.K) (tTup (tCons (tOp (rIxL g.K) (tVar 0) (tOp rSubI (tVar 4) (tC (.int 1)))) (tCons (tOp (rIxL g.K) (tVar 0) (tVar 4)) tNil))) (tVar 1))) (tRet (tC (.bl false))) tNext
def t__law_is_wild (g : Gb) : TS := tSeq (tIfS (tOr (tNot (tB (tCB (rIsi g.K) (tCons (tVar 0) (tCons (tC (.ty "list")) tNil))))) (tTest (tOp rEq (tCB (rLenS g.K) (tCons (tVar 0) tNil)) (tC (.int 0))))) (tRet (tC (.bl false))) tNext)
  (tSeq (tFor (iList g.K (tVar 0)) (gName 3) (t__law_is_wild_b1 g))
  (tSeq (tFor (iRng1 (tCons (tCB (rLenS g.K) (tCons (tVar 0) tNil)) tNil)) (gName 4) (t__law_is_wild_b2 g))
  (tRet (tNotV (tCall (sp__law_tame g) [] E0 (tCons (tVar 0) (tCons (tVar 2) tNil)))))))
abbrev N__law_is_wild : List Str := ["found", "pairs", "table", "one", "k"]
/-! _law_goes_round: slots 0 pairs 1 table 2 left 3 k 4 some 5 pair 6 more 7 into 8 kept -/
def t__law_goes_round_b1 (g : Gb)  : TS := tSeq (tAsg (tLc (iList g.K (tVar 4)) (gName 5) (tTest (tOp (rIn g.K false) (tOp (rIxT g.K) (tVar 5) (tC (.int 0))) (tVar 2))) (tOp (rIxT g.K) (tVar 5) (tC (.int 1))) [5]) (gName 7))
  (tSeq (tAsg (tLc (iList g.K (tVar 2)) (gName 3) (tTest (tOp (rIn g.K false) (tVar 3) (tVar 7))) (tVar 3) [3]) (gName 8))
  (tSeq (tAsg (tOp rLtI (tCB (rLenS g.K) (tCons (tVar 8) tNil)) (tCB (rLenS g.K) (tCons (tVar 2) tNil))) (gName 6))
  (tAsg (tVar 8) (gName 2))))
def t__law_goes_round (g : Gb) : TS := tSeq (tAsg (tLc (iRng1 (tCons (tCB (rLenS g.K) (tCons (tVar 1) tNil)) tNil)) (gName 3) (tB (tOp (rIxL g.K) (tOp (rIxL g.K) (tVar 1) (tC (.int 0))) (tVar 3))) (tVar 3) [3]) (gName 2))
  (tSeq (tAsg (tLc (iList g.K (tVar 0)) (gName 5) (tAnd (tB (tOp (rIxL g.K) (tOp (rIxL g.K) (tVar 1) (tC (.int 0))) (tOp (rIxT g.K) (tVar 5) (tC (.int 0))))) (tNot (tB (tOp (rIxL g.K) (tOp (rIxL g.K) (tVar 1) (tOp (rIxT g.K) (tVar 5) (tC (.int 1)))) (tOp (rIxT g.K) (tVar 5) (tC (.int 0))))))) (tVar 5) [5]) (gName 4))
  (tSeq (tAsg (tC (.bl true)) (gName 6))
  (tSeq (tWhile (tB (tVar 6)) (t__law_goes_round_b1 g))
  (tRet (tOp rGtI (tCB (rLenS g.K) (tCons (tVar 2) tNil)) (tC (.int 0)))))))
abbrev N__law_goes_round : List Str := ["pairs", "table", "left", "k", "some", "pair", "more", "into", "kept"]

section
variable {g : Gb} {σ : L2.St} {H H' B : Hp} {D : Ends} {E : XK} {Q : VK} {vs : List V} {p : Addr} {N : Nt} {te tn tr ta tb td ti tm tl to : TE} {K : PySem.W.Frag} {r k o : Nat} {tz : TS}
theorem pure__law_tame (h : sp__law_tame g vs H Q E) : t__law_tame g { nx := fun _ H' => Q .non H', rt := Q } (start N__law_tame vs) H := by
  obtain ⟨rl, t, n, c, f, rfl, hr, ht, hc, hl, k⟩ := h
  have lc : (nvs c).length = c.length := List.length_map ..
  refine q_forLn (ev_var rfl) (sq_of hr) (fun i σ' H' => Ex H H' ∧ (∃ s2, σ' = [some (.ref rl), some (.ref t), s2, none]) ∧ ∀ h ∈ c.take i, (c.all fun x => f h x) = false) (fun H1 e1 => ⟨e1, ⟨_, rfl⟩, (fun h hh => by rw [List.take_zero] at hh; cases hh)⟩) (fun i σ' H' _ hP => sq_of (hP.1 _ _ hr)) (fun i x σ' H' hx hP => ?_) (fun σ' H' hP => ?_)
  · obtain ⟨eH, ⟨s2, rfl⟩, hno⟩ := hP
    obtain ⟨o, ho, rfl⟩ := nvs_at hx
    have hoc : o ∈ c := List.mem_of_getElem? ho
    have hrow := el_lc (σ := [some (V.ref rl), some (V.ref t), some (nv o), none]) (H := H') (t := tNot (tB (tOp (rIxL g.K) (tOp (rIxL g.K) (tVar 1) (tVar 2)) (tVar 3)))) (te := tVar 3) (j := 3) (vs := [3]) (l := c) (R := fun (k : Nat) x => x = nv k) (fun x => !f o x) nv (ei_list (K := g.K) (tl := tVar 0) (ev_var rfl) (sq_of (eH _ _ hr)) (paired_map (f := nv) (fun _ => rfl) _)) (by omega) (fun _ => rfl) (fun k x H1 hk hx e1 => by
        subst hx
        exact et_not (et_B (ev_tb (a := o) (b := k) (ev_var rfl) (ev_var rfl) (ev_var rfl) (ht.mono (eH.trans e1)) (hc o hoc) (hc k hk)))) (fun k x H1 hk hx e1 _ => by
        subst hx
        exact ev_var rfl)
    refine s_when (b := c.all fun x => f o x) (et_is (et_test (ev_none hrow)) (by rw [all_len]; simp)) (fun hb H2 e2 => ?_) (fun hb H2 e2 => ⟨eH.trans e2, ⟨_, rfl⟩, fun h hh => ?_⟩)
    · refine s_ret ev_c fun H3 e3 => ?_
      have : tameb c f = true := tame_iff.mpr ⟨o, hoc, List.all_eq_true.mp hb⟩
      rw [← this]
      exact k H3 ((eH.trans e2).trans e3)
    · rw [List.take_add_one, ho] at hh
      rcases List.mem_append.mp hh with hh | hh
      · exact hno h hh
      · rw [List.mem_singleton.mp hh]
        exact hb
  · obtain ⟨eH, ⟨s2, rfl⟩, hno⟩ := hP
    refine s_ret ev_c fun H3 e3 => ?_
    have : tameb c f = false := by
      rw [Bool.eq_false_iff]
      intro z
      obtain ⟨h, h1, h2⟩ := tame_iff.mp z
      rw [lc, List.take_length] at hno
      have := hno h h1
      rw [List.all_eq_true.mpr h2] at this
      cases this
    rw [← this]
    exact k H3 (eH.trans e3)
theorem ev_tame {rl t : Addr} {n : Nat} {c : List Nat} {f : Nat → Nat → Bool} (h1 : Ev ta σ H (.ref rl)) (h2 : Ev tb σ H (.ref t)) (hr : H rl = some (.lst (nvs c))) (ht : TbAt H t n f) (hc : ∀ x ∈ c, x < n) (hl : c.length ≤ 1000) : Ev (tCall (sp__law_tame g) [] E0 (tCons ta (tCons tb tNil))) σ H (.bl (tameb c f)) :=
  ev_call1 (ea_cons h1 (ea_cons h2 ea_nil)) fun H1 e Q k => ⟨rl, t, n, c, f, rfl, e _ _ hr, ht.mono e, hc, hl, k⟩
theorem ev_cntI {a : Addr} {c : List Nat} {x : Nat} (h : Ev to σ H (.ref a)) (hx : Ev te σ H (nv x)) (ha : H a = some (.lst (nvs c))) (nd : c.Nodup) (hm : x ∈ c) : Ev (tBM K "list" (rCntI K) to (tCons te tNil)) σ H (.int 1) := fun H1 e Q q =>
  h H1 e _ fun H2 e2 => ⟨Or.inl ⟨rfl, _, sq_of (e2 _ _ (e _ _ ha))⟩, hx H2 (e.trans e2) _ fun H3 e3 => ⟨a, c.map fun (k : Nat) => (k : Int), (x : Int), rfl, rfl, by rw [← nvs_int]; exact sq_of (e3 _ _ (e2 _ _ (e _ _ ha))), by
    have : (c.map fun (k : Nat) => (k : Int)).count (x : Int) = 1 := by
      have nd2 : (c.map fun (k : Nat) => (k : Int)).Nodup := by
        refine List.Pairwise.map _ ?_ nd
        intro a b hab z
        exact hab (nI z)
      have h1 := List.nodup_iff_count.mp nd2 (x : Int)
      have h2 : 0 < (c.map fun (k : Nat) => (k : Int)).count (x : Int) := List.count_pos_iff.mpr (List.mem_map.mpr ⟨x, hm, rfl⟩)
      omega
    rw [this]
    exact q H3 (e2.trans e3)⟩⟩
theorem tb_len {t : Addr} {n : Nat} {f : Nat → Nat → Bool} (h : TbAt H t n f) (he : Ev te σ H (.ref t)) : Ev (tCB (rLenS K) (tCons te tNil)) σ H (nv n) := by
  obtain ⟨as, h1, h2⟩ := h
  refine ev_is (ev_len he (sq_of h1)) (congrArg V.int ?_)
  rw [List.length_map, paired_len h2, List.length_range]
theorem pure__law_is_wild (h : sp__law_is_wild g vs H Q E) : t__law_is_wild g { nx := fun _ H' => Q .non H', rt := Q } (start N__law_is_wild vs) H := by
  obtain ⟨fl, pl, t, N, c, rfl, hN, hf, hp, ht, hR, hr, hw, k⟩ := h
  have lc : (nvs c).length = c.length := List.length_map ..
  have hlt : ∀ x ∈ c, x < N.n := fun x hx => (hr x hx).lt hN.pos hN.ends
  obtain ⟨a, b, hpth, hdoor, nd⟩ := id hR
  have hcl : c.length ≤ N.n := by
    have h1 := nd.length_le_of_subset (l₂ := List.range N.n) fun x hx => List.mem_range.mpr (hlt x hx)
    rw [List.length_range] at h1
    exact h1
  have hmost := hN.most
  obtain ⟨c', hc'⟩ := hpth.fst
  have hpos : 0 < c.length := by rw [hc']; exact Nat.succ_pos _
  refine q_when (b := false) (et_is (et_or (et_not (et_B (ev_isi (ev_var rfl) (fun H1 e => tx_lst (e _ _ hf)) k_li))) fun _ => et_test (ev_op (ev_len (ev_var rfl) (sq_of hf)) ev_c (rv_eq rfl))) (by rw [lc]; show decide (V.int (c.length : Int) = V.int 0) = false; exact decide_eq_false fun z => by have := V.int.inj z; omega)) (fun hb => by cases hb) (fun _ H1 e1 => ?_)
  refine q_forLn (ev_var rfl) (sq_of (e1 _ _ hf)) (fun i σ' H' => Ex H H' ∧ ∃ s3, σ' = [some (.ref fl), some (.ref pl), some (.ref t), s3, none]) (fun H1 e2 => ⟨e1.trans e2, _, rfl⟩) (fun i σ' H' _ hP => sq_of (hP.1 _ _ hf)) (fun i x σ' H' hx hP => ?_) (fun σ' H' hP => ?_)
  · obtain ⟨eH, s3, rfl⟩ := hP
    obtain ⟨o, ho, rfl⟩ := nvs_at hx
    clear hx
    have hoc : o ∈ c := List.mem_of_getElem? ho
    refine s_when (b := false) (et_is (et_or (a := false) (et_is (et_not (et_B (ev_whole (ev_var rfl)))) rfl) fun _ => et_or (a := false) (et_is (et_not (et_ch (a := 0) (b := (o : Int)) (c := (N.n : Int)) ev_c (ev_var rfl) (tb_len (ht.mono eH) (ev_var rfl)))) ?_) fun _ => et_or (a := false) (et_is (et_not (et_B (ev_tb (a := 0) (b := o) (ev_var rfl) ev_c (ev_var rfl) (ht.mono eH) hN.pos (hlt o hoc)))) ?_) fun _ => et_is (et_test (ev_op (ev_cntI (c := c) (ev_var rfl) (ev_var rfl) (eH _ _ hf) nd hoc) ev_c (rv_ne rfl))) (b := false) (by simp)) (by rfl)) (fun hb => by cases hb) fun _ H2 e2 => ⟨eH.trans e2, _, rfl⟩
    · have := hlt o hoc
      simp
      omega
    · rw [dm_zero, rch_iff.mpr (hr o hoc)]
      rfl
  · obtain ⟨eH, s3, rfl⟩ := hP
    refine q_forR1 (n := (c.length : Int)) (ea_cons (ev_is (ev_len (ev_var rfl) (sq_of (eH _ _ hf))) (by rw [lc])) ea_nil) ⟨by omega, by omega⟩ (fun i σ' H' => Ex H H' ∧ ∃ s4, σ' = [some (.ref fl), some (.ref pl), some (.ref t), s3, s4]) (fun H2 e2 => ⟨eH.trans e2, _, rfl⟩) (fun i σ' H' hi hP => ?_) (fun σ' H' hP => ?_)
    · obtain ⟨eX, s4, rfl⟩ := hP
      have hic : i < c.length := by omega
      obtain ⟨y, hy⟩ : ∃ y, c[i]? = some y := ⟨_, List.getElem?_eq_getElem hic⟩
      obtain ⟨x, hxe, hxy⟩ : ∃ x, Ev (tOp (rIxL g.K) (tVar 0) (tOp rSubI (tVar 4) (tC (.int 1)))) [some (V.ref fl), some (V.ref pl), some (V.ref t), s3, some (nv i)] H' (nv x) ∧ (x, y) ∈ N.ds := by
        cases i with
        | zero =>
          obtain ⟨u, hu⟩ : ∃ u, c = u ++ [b] := List.getLast?_eq_some_iff.mp hpth.last
          have hya : y = a := by
            rw [hc'] at hy
            simpa using hy.symm
          refine ⟨b, ev_op (ev_var rfl) (ev_is (ev_op (ev_var rfl) ev_c rv_I0) (w := .int (-1)) rfl) (rv_ixL (xs := nvs c) (sq_of (eX _ _ hf)) ?_), hya ▸ hdoor⟩
          rw [hu]
          unfold nvs
          rw [List.map_append]
          exact atI_back1 _ _
        | succ j =>
          obtain ⟨x, hx⟩ : ∃ x, c[j]? = some x := ⟨_, List.getElem?_eq_getElem (by omega)⟩
          refine ⟨x, ev_op (ev_var rfl) (ev_is (ev_op (ev_var rfl) ev_c rv_I0) (w := .int (j : Int)) (congrArg V.int (by omega))) (rv_ixL (xs := nvs c) (sq_of (eX _ _ hf)) (atI_nat (by rw [List.getElem?_map, hx]; rfl))), hpth.at hx hy⟩
      exact s_when (b := false) (et_test (ev_niD (x := x) (y := y) (eu_tup (ea_cons hxe (ea_cons (ev_op (ev_var rfl) (ev_var rfl) (rv_ixL (xs := nvs c) (sq_of (eX _ _ hf)) (atI_nat (by rw [List.getElem?_map, hy]; rfl)))) ea_nil)) (by show 2 ≤ 100000; decide)) (ev_var rfl) (hp.mono eX) hxy)) (fun hb => by cases hb) fun _ H2 e2 => ⟨eX.trans e2, _, rfl⟩
    · obtain ⟨eX, s4, rfl⟩ := hP
      exact s_ret (v := .bl true) (ev_is (ev_notV (ev_tame (ev_var rfl) (ev_var rfl) (eX _ _ hf) (ht.mono eX) hlt (by omega))) (by rw [hw] <;> rfl)) fun H2 e2 => k H2 (eX.trans e2)
theorem pairs_nat : ∀ {as : List Addr} {ds : DL}, PairsAt H as (ds.map zp) → Paired (fun a (d : Nat × Nat) => H a = some (.tup [nv d.1, nv d.2])) as ds
  | [], [], _ => .nil
  | _ :: _, [], h => by cases h
  | [], _ :: _, h => by cases h
  | a :: as, d :: ds, .cons r t => .cons r (pairs_nat t)
theorem paired_zipL {α β : Type} {F : α → β → Prop} : ∀ {l : List α} {m : List β}, Paired F l m → Paired (fun a (z : α × β) => a = z.1 ∧ F z.1 z.2) l (l.zip m)
  | _, _, .nil => .nil
  | _, _, .cons r t => .cons ⟨rfl, r⟩ (paired_zipL t)
theorem pure__law_goes_round (h : sp__law_goes_round g vs H Q E) : t__law_goes_round g { nx := fun _ H' => Q .non H', rt := Q } (start N__law_goes_round vs) H := by
  obtain ⟨pl, t, N, rfl, hN, hp, ht, k⟩ := h
  have hmost := hN.most
  obtain ⟨as, hp1, hp2⟩ := id hp
  have hfew := hN.few
  have hlen : as.length = N.ds.length := by
    have := paired_len hp2
    rw [List.length_map] at this
    exact this
  have hpn := pairs_nat hp2
  refine q_asgL (xs := nvs N.there) ?_ fun lf0 H1 hlf e1 hlf1 => ?_
  · exact el_lc (l := List.range N.n) (R := fun (k : Nat) x => x = nv k) (fun k => rch N.ds (-1) k) nv (ei_range (ea_cons (tb_len ht (ev_var rfl)) ea_nil) (by omega)) (by rw [List.length_range]; omega) (fun _ => rfl) (fun k x H1 hk hx e1 => by
      subst hx
      exact et_is (et_B (ev_tb (a := 0) (b := k) (ev_var rfl) ev_c (ev_var rfl) (ht.mono e1) hN.pos (List.mem_range.mp hk))) dm_zero) (fun k x H1 hk hx e1 _ => by
      subst hx
      exact ev_var rfl)
  obtain ⟨es, hes⟩ : ∃ es, es = wld N.ds := ⟨_, rfl⟩
  obtain ⟨bs, hbs⟩ : ∃ bs, bs = ((as.zip N.ds).filter fun z => rch N.ds (-1) z.2.1 && !dm N.ds z.2.2 z.2.1).map (·.1) := ⟨_, rfl⟩
  have hpb : Paired (fun a (d : Nat × Nat) => H a = some (.tup [nv d.1, nv d.2])) bs es := by
    rw [hbs, hes]
    exact paired_filter (fun d : Nat × Nat => rch N.ds (-1) d.1 && !dm N.ds d.2 d.1) hpn
  have hel : es.length ≤ 100 := by
    rw [hes]
    exact Nat.le_trans (List.length_filter_le _ _) hfew
  refine q_asgL (xs := bs.map V.ref) ?_ fun sl H2 hsl e2 hsl2 => ?_
  · have key := el_lc (σ := [some (V.ref pl), some (V.ref t), some (V.ref lf0), none, none, none, none, none, none]) (H := H1) (t := tAnd (tB (tOp (rIxL g.K) (tOp (rIxL g.K) (tVar 1) (tC (.int 0))) (tOp (rIxT g.K) (tVar 5) (tC (.int 0))))) (tNot (tB (tOp (rIxL g.K) (tOp (rIxL g.K) (tVar 1) (tOp (rIxT g.K) (tVar 5) (tC (.int 1)))) (tOp (rIxT g.K) (tVar 5) (tC (.int 0))))))) (te := tVar 5) (j := 5) (vs := [5]) (l := as.zip N.ds) (R := fun (z : Addr × Nat × Nat) x => x = V.ref z.1 ∧ H z.1 = some (.tup [nv z.2.1, nv z.2.2])) (fun z => rch N.ds (-1) z.2.1 && !dm N.ds z.2.2 z.2.1) (fun z => V.ref z.1)
      (ei_list (K := g.K) (tl := tVar 0) (ev_var rfl) (sq_of (e1 _ _ hp1)) (by
        have key : ∀ {l : List Addr} {m : DL}, Paired (fun a (d : Nat × Nat) => H a = some (.tup [nv d.1, nv d.2])) l m → Paired (fun x (z : Addr × Nat × Nat) => x = V.ref z.1 ∧ H z.1 = some (.tup [nv z.2.1, nv z.2.2])) (l.map V.ref) (l.zip m) := by
          intro l m h
          induction h with
          | nil => exact .nil
          | cons r _ ih => exact .cons ⟨rfl, r⟩ ih
        exact key hpn)) (by rw [List.length_zip]; omega) (fun _ => rfl) (fun z x H3 hz hx e3 => by
        obtain ⟨rfl, hy⟩ := hx
        have hd := hN.ends z.2 (List.of_mem_zip hz).2
        have hy3 := e3 _ _ (e1 _ _ hy)
        exact et_and (et_is (et_B (ev_tb (a := 0) (b := z.2.1) (ev_var rfl) ev_c (ev_fst (ev_var rfl) hy3) (ht.mono (e1.trans e3)) hN.pos hd.1)) dm_zero) fun _ => et_not (et_B (ev_tb (a := z.2.2) (b := z.2.1) (ev_var rfl) (ev_snd (ev_var rfl) hy3) (ev_fst (ev_var rfl) hy3) (ht.mono (e1.trans e3)) hd.2 hd.1))) (fun z x H3 hz hx e3 _ => by
        obtain ⟨rfl, hy⟩ := hx
        exact ev_var rfl)
    rw [hbs, List.map_map]
    exact key
  have e12 := e1.trans e2
  refine q_asg ev_c fun H3 e3 => ?_
  have hmt : ∀ x ∈ N.there, Rch N.ds (-1) x := fun x hx => (mem_there hN).mp hx
  refine q_while (fun m σ' H' => ∃ (L : List Nat) (lf : Addr) (b : Bool) (s7 s8 : Option V), σ' = [some (.ref pl), some (.ref t), some (.ref lf), none, some (.ref sl), none, some (.bl b), s7, s8] ∧ Ex H H' ∧ H' sl = some (.lst (bs.map V.ref)) ∧ H' lf = some (.lst (nvs L)) ∧ L.length ≤ N.there.length ∧ (∀ C, Ring es C → ∀ x ∈ C, x ∈ L) ∧ (b = false → ∀ x ∈ L, ∃ y ∈ L, (y, x) ∈ es) ∧ m = L.length + (if b then 1 else 0)) (N.there.length + 1)
    ⟨N.there, lf0, true, none, none, rfl, e12.trans e3, e3 _ _ hsl2, e3 _ _ (e2 _ _ hlf1), Nat.le_refl _, fun C hC x hx => (mem_there hN).mpr (wild_rch (hes ▸ hC) x hx), (fun h => by cases h), rfl⟩ fun m σ' H' hW => ?_
  obtain ⟨L, lf, b, s7, s8, rfl, eH, hs, hL, hLl, hLC, hLp, rfl⟩ := hW
  have htl := there_len hN
  refine ⟨b, et_B (ev_var rfl), fun hb H4 e4 => ?_, fun hb H4 e4 => ?_⟩
  · subst hb
    obtain ⟨I, hI⟩ : ∃ I, I = (es.filter fun d => decide (d.1 ∈ L)).map (·.2) := ⟨_, rfl⟩
    have hIm : ∀ x, x ∈ I ↔ ∃ y ∈ L, (y, x) ∈ es := fun x => by
      rw [hI, List.mem_map]
      constructor
      · rintro ⟨d, hd, rfl⟩
        obtain ⟨h1, h2⟩ := List.mem_filter.mp hd
        exact ⟨d.1, of_decide_eq_true h2, h1⟩
      · rintro ⟨y, hy, hyx⟩
        exact ⟨(y, x), List.mem_filter.mpr ⟨hyx, decide_eq_true hy⟩, rfl⟩
    obtain ⟨M, hM⟩ : ∃ M, M = L.filter fun k => decide (k ∈ I) := ⟨_, rfl⟩
    have hMl : M.length ≤ L.length := by rw [hM]; exact List.length_filter_le _ _
    refine ⟨fun σ2 H2 => ∃ (M : List Nat) (lf : Addr) (b : Bool) (s7 s8 : Option V), σ2 = [some (.ref pl), some (.ref t), some (.ref lf), none, some (.ref sl), none, some (.bl b), s7, s8] ∧ Ex H H2 ∧ H2 sl = some (.lst (bs.map V.ref)) ∧ H2 lf = some (.lst (nvs M)) ∧ M.length ≤ N.there.length ∧ (∀ C, Ring es C → ∀ x ∈ C, x ∈ M) ∧ (b = false → ∀ x ∈ M, ∃ y ∈ M, (y, x) ∈ es) ∧ M.length ≤ L.length ∧ (b = true → M.length < L.length), fun σ2 H2 hX => ?_, ?_⟩
    · obtain ⟨M, lf, b, s7, s8, h1, h2, h3, h4, h5, h6, h7, h8, h9⟩ := hX
      refine ⟨M.length + (if b then 1 else 0), ?_, M, lf, b, s7, s8, h1, h2, h3, h4, h5, h6, h7, rfl⟩
      show _ < L.length + 1
      cases b with
      | true =>
        have := h9 rfl
        show M.length + 1 < L.length + 1
        omega
      | false =>
        show M.length + 0 < L.length + 1
        omega
    refine q_asgL (xs := nvs I) ?_ fun il H5 hil e5 hil5 => ?_
    · have key := el_lc (σ := [some (V.ref pl), some (V.ref t), some (V.ref lf), none, some (V.ref sl), none, some (V.bl true), s7, s8]) (H := H4) (t := tTest (tOp (rIn g.K false) (tOp (rIxT g.K) (tVar 5) (tC (.int 0))) (tVar 2))) (te := tOp (rIxT g.K) (tVar 5) (tC (.int 1))) (j := 5) (vs := [5]) (l := es) (R := fun (d : Nat × Nat) x => ∃ a, x = V.ref a ∧ H a = some (.tup [nv d.1, nv d.2])) (fun d => decide (d.1 ∈ L)) (fun d => nv d.2)
        (ei_list (K := g.K) (tl := tVar 4) (ev_var rfl) (sq_of (e4 _ _ hs)) (by
          have key : ∀ {l : List Addr} {m : DL}, Paired (fun a (d : Nat × Nat) => H a = some (.tup [nv d.1, nv d.2])) l m → Paired (fun x (d : Nat × Nat) => ∃ a, x = V.ref a ∧ H a = some (.tup [nv d.1, nv d.2])) (l.map V.ref) m := by
            intro l m h
            induction h with
            | nil => exact .nil
            | cons r _ ih => exact .cons ⟨_, rfl, r⟩ ih
          exact key hpb)) (by omega) (fun _ => rfl) (fun d x H6 hd hx e6 => by
          obtain ⟨a, rfl, hy⟩ := hx
          exact et_is (et_test (ev_op (ev_fst (ev_var rfl) (((eH.trans e4).trans e6) _ _ hy)) (ev_var rfl) (rv_isL (sq_of (e6 _ _ (e4 _ _ hL))) rfl (flat_nvs _)))) (by rw [in_nvs])) (fun d x H6 hd hx e6 _ => by
          obtain ⟨a, rfl, hy⟩ := hx
          exact ev_snd (ev_var rfl) (((eH.trans e4).trans e6) _ _ hy))
      rw [hI]
      unfold nvs
      rw [List.map_map]
      exact key
    have hL5 := e5 _ _ (e4 _ _ hL)
    refine q_asgL (xs := nvs M) ?_ fun kl H6 hkl e6 hkl6 => ?_
    · rw [hM]
      exact el_lc (l := L) (R := fun (k : Nat) x => x = nv k) (fun k => decide (k ∈ I)) nv (ei_list (ev_var rfl) (sq_of hL5) (paired_map (f := nv) (fun _ => rfl) _)) (by omega) (fun _ => rfl) (fun k x H6 hk hx e6 => by
        subst hx
        exact et_is (et_test (ev_op (ev_var rfl) (ev_var rfl) (rv_isL (sq_of (e6 _ _ hil5)) rfl (flat_nvs _)))) (by rw [in_nvs])) (fun k x H6 hk hx e6 _ => by
        subst hx
        exact ev_var rfl)
    have lM : (nvs M).length = M.length := List.length_map ..
    have lL : (nvs L).length = L.length := List.length_map ..
    refine q_asg (v := .bl (decide (M.length < L.length))) (ev_is (ev_op (ev_len (ev_var rfl) (sq_of hkl6)) (ev_len (ev_var rfl) (sq_of (e6 _ _ hL5))) rv_I0) (by rw [lM, lL]; exact congrArg V.bl (decide_eq_decide.mpr ⟨fun h => by omega, fun h => by omega⟩))) fun H7 e7 => ?_
    have e47 := ((e4.trans e5).trans e6).trans e7
    refine s_asg (ev_var rfl) fun H8 e8 => ⟨M, kl, _, _, _, rfl, (eH.trans e47).trans e8, e8 _ _ (e47 _ _ hs), e8 _ _ (e7 _ _ hkl6), by omega, fun C hC x hx => ?_, fun hb x hx => ?_, hMl, fun hb => of_decide_eq_true hb⟩
    · rw [hM]
      obtain ⟨y, hy1, hy2⟩ := hC.pred hx
      exact List.mem_filter.mpr ⟨hLC C hC x hx, decide_eq_true ((hIm x).mpr ⟨y, hLC C hC y hy1, hy2⟩)⟩
    · have hge : ¬ M.length < L.length := of_decide_eq_false hb
      have hall : M = L := by
        rw [hM]
        refine List.filter_eq_self.mpr ?_
        refine List.length_filter_eq_length_iff.mp ?_
        rw [← hM]
        omega
      rw [hall]
      rw [hM] at hx
      exact (hIm x).mp (of_decide_eq_true (List.mem_filter.mp hx).2)
  · subst hb
    have hLp := hLp rfl
    have lL : (nvs L).length = L.length := List.length_map ..
    refine s_ret (v := .bl (wildb N.ds)) (ev_is (ev_op (ev_len (ev_var rfl) (sq_of (e4 _ _ hL))) ev_c rv_I0) ?_) fun H5 e5 => k H5 ((eH.trans e4).trans e5)
    rw [lL]
    refine congrArg V.bl ?_
    rw [Bool.eq_iff_iff, wildb_iff, decide_eq_true_iff]
    refine ⟨fun h => ?_, fun h => ?_⟩
    · have hne : L ≠ [] := fun z => by rw [z] at h; simp at h
      exact hes ▸ closed_pred hne hLp
    · obtain ⟨C, hC⟩ := h
      obtain ⟨a, b, hp, _⟩ := id hC
      have := List.length_pos_of_mem (hLC C (hes ▸ hC) b hp.mem_last)
      omega
end
end Mp

/-! guards.bars_of. -/
namespace Mp
open PySem L2 Evl
/-! ### the plain law -/
section
variable {ds es : DL} {s : Int} {a b r x y k d e : Nat} {w l m : List Nat}
/-- a door without which r isn't reached -/
def Bar (ds : DL) (r d : Nat) : Prop := d < ds.length ∧ Rch ds (-1) r ∧ ¬ Rch (ds.eraseIdx d) (-1) r
/-- without d nobody comes to where e leads from -/
def Bo (ds : DL) (d e : Nat) : Prop := ∃ p, ds[e]? = some p ∧ ¬ Rch (ds.eraseIdx d) (-1) p.1
structure IsBars (ds : DL) (r : Nat) (l : List Nat) : Prop where
  nd : l.Nodup
  mem : ∀ d, d ∈ l ↔ Bar ds r d
  pw : l.Pairwise (Bo ds)
theorem mem_er {p : Nat × Nat} : p ∈ ds.eraseIdx d ↔ ∃ i, i ≠ d ∧ ds[i]? = some p := List.mem_eraseIdx_iff_getElem?
theorem er_sub {p : Nat × Nat} (h : p ∈ ds.eraseIdx d) : p ∈ ds := let ⟨i, _, h⟩ := mem_er.mp h; List.mem_of_getElem? h
theorem Pth.along (h : Pth ds s a w b) (ha : Rch es (-1) a) (he : ∀ j x y, w[j]? = some x → w[j + 1]? = some y → (x, y) ∈ es) : Rch es (-1) b := by
  induction h with
  | one _ => exact ha
  | cons h1 h2 h3 ih =>
    obtain ⟨u, rfl⟩ := h3.fst
    exact ih (ha.next (he 0 _ _ rfl rfl)) fun j x y q1 q2 => he (j + 1) x y q1 q2
theorem Pth.dropTo (h : Pth ds s a w b) (hk : w[k]? = some x) : Pth ds s x (w.drop k) b := by
  induction h generalizing k with
  | @one a h =>
    cases k with
    | zero =>
      have : a = x := by simpa using hk
      subst this
      exact .one h
    | succ k => simp at hk
  | @cons a c b w h1 h2 h3 ih =>
    cases k with
    | zero =>
      have : a = x := by simpa using hk
      subst this
      exact .cons h1 h2 h3
    | succ k => exact ih (by simpa using hk)
/-- two bars of a room, each ahead of the other -/
theorem bar_asymm (hd : Bar ds r d) (he : Bar ds r e) (h1 : Bo ds d e) (h2 : Bo ds e d) : d = e := by
  refine Classical.byContradiction fun hne => ?_
  obtain ⟨pe, g1, k1⟩ := h1
  obtain ⟨pd, g2, k2⟩ := h2
  -- the first of d and e on a path
  obtain ⟨w, hw⟩ := hd.2.1.way
  have key : ∀ {w : List Nat} {a b : Nat}, Pth ds (-1) a w b → Rch (ds.eraseIdx d) (-1) a → Rch (ds.eraseIdx e) (-1) a → Rch (ds.eraseIdx d) (-1) b ∧ Rch (ds.eraseIdx e) (-1) b := by
    intro w a b h
    induction h with
    | one _ => exact fun p q => ⟨p, q⟩
    | @cons a c b w h1 h2 h3 ih =>
      intro p q
      obtain ⟨i, hi⟩ := List.mem_iff_getElem?.mp h1
      by_cases e1 : i = d
      · subst e1
        rw [g2] at hi
        have := Option.some.inj hi
        subst this
        exact (k2 q).elim
      · by_cases e2 : i = e
        · subst e2
          rw [g1] at hi
          have := Option.some.inj hi
          subst this
          exact (k1 p).elim
        · exact ih (p.next (mem_er.mpr ⟨i, e1, hi⟩)) (q.next (mem_er.mpr ⟨i, e2, hi⟩))
  exact hd.2.2 (key hw.p (.zero (by decide)) (.zero (by decide))).1
theorem bars_same (h1 : IsBars ds r l) (h2 : IsBars ds r m) : l = m :=
  List.Perm.eq_of_pairwise (fun a b ha hb x y => bar_asymm ((h1.mem a).mp ha) ((h2.mem b).mp hb) x y) h1.pw h2.pw ((List.perm_ext_iff_of_nodup h1.nd h2.nd).mpr fun x => by rw [h1.mem, h2.mem])
/-- what has been found behind k steps of a way -/
structure BarsTo (ds : DL) (r : Nat) (w : List Nat) (k : Nat) (l : List Nat) : Prop where
  nd : l.Nodup
  bar : ∀ d ∈ l, Bar ds r d
  at_ : ∀ d ∈ l, ∃ (i x y : Nat), i < k ∧ w[i]? = some x ∧ w[i + 1]? = some y ∧ ds[d]? = some (x, y)
  all : ∀ d, Bar ds r d → ∀ i x y, i < k → w[i]? = some x → w[i + 1]? = some y → ds[d]? = some (x, y) → d ∈ l
  pw : l.Pairwise (Bo ds)
theorem idx_eq {i j : Nat} (nd : w.Nodup) (h1 : w[i]? = some x) (h2 : w[j]? = some x) : i = j := by
  have g1 := List.getElem?_eq_some_iff.mp h1
  have g2 := List.getElem?_eq_some_iff.mp h2
  exact (List.getElem_inj (h₀ := g1.1) (h₁ := g2.1) nd).mp (g1.2.trans g2.2.symm)
/-- a bar stands once on a way, and alone -/
theorem bar_on (hw : Way ds (-1) w r) (hd : Bar ds r d) : ∃ i x y, w[i]? = some x ∧ w[i + 1]? = some y ∧ ds[d]? = some (x, y) ∧ ∀ d', ds[d']? = some (x, y) → d' = d := by
  refine Classical.byContradiction fun hno => hd.2.2 (hw.p.along (.zero (by decide)) fun j x y h1 h2 => ?_)
  obtain ⟨i, hi⟩ := List.mem_iff_getElem?.mp (hw.p.at h1 h2)
  by_cases e : i = d
  · subst e
    refine Classical.byContradiction fun hne => hno ⟨j, x, y, h1, h2, hi, fun d' hd' => ?_⟩
    refine Classical.byContradiction fun h3 => hne (mem_er.mpr ⟨d', h3, hd'⟩)
  · exact mem_er.mpr ⟨i, e, hi⟩
/-- a later door's start isn't reached without an earlier bar -/
theorem bar_order {i j : Nat} {x y x' y' : Nat} (hw : Way ds (-1) w r) (hd : Bar ds r d) (h1 : w[i]? = some x) (h2 : ds[d]? = some (x, y)) (h3 : w[j]? = some x') (h4 : w[j + 1]? = some y') (hij : i < j) : ¬ Rch (ds.eraseIdx d) (-1) x' := fun hr => hd.2.2 (by
  refine (hw.p.dropTo h3).along hr fun k u v q1 q2 => ?_
  rw [List.getElem?_drop] at q1 q2
  obtain ⟨c, hc⟩ := List.mem_iff_getElem?.mp (hw.p.at q1 q2)
  refine mem_er.mpr ⟨c, fun z => ?_, hc⟩
  subst z
  rw [h2] at hc
  have := Option.some.inj hc
  obtain ⟨rfl, rfl⟩ := Prod.mk.inj this
  have := idx_eq hw.nd h1 q1
  omega)
theorem BarsTo.yes {k x y : Nat} (hw : Way ds (-1) w r) (h : BarsTo ds r w k l) (h1 : w[k]? = some x) (h2 : w[k + 1]? = some y) (h3 : ds[d]? = some (x, y)) (hd : Bar ds r d) (ho : ∀ d', ds[d']? = some (x, y) → d' = d) : BarsTo ds r w (k + 1) (l ++ [d]) := by
  have hno : d ∉ l := fun z => by
    obtain ⟨i, x', y', hi, q1, q2, q3⟩ := h.at_ d z
    rw [h3] at q3
    obtain ⟨rfl, rfl⟩ := Prod.mk.inj (Option.some.inj q3)
    have := idx_eq hw.nd h1 q1
    omega
  refine ⟨List.nodup_append.mpr ⟨h.nd, by simp, fun a ha b hb e => hno (by rw [List.mem_singleton.mp hb] at e; exact e ▸ ha)⟩, fun c hc => ?_, fun c hc => ?_, fun c hc i x' y' hi q1 q2 q3 => ?_, List.pairwise_append.mpr ⟨h.pw, by simp, fun a ha b hb => ?_⟩⟩
  · rcases List.mem_append.mp hc with hc | hc
    · exact h.bar c hc
    · rw [List.mem_singleton.mp hc]
      exact hd
  · rcases List.mem_append.mp hc with hc | hc
    · obtain ⟨i, x', y', hi, q⟩ := h.at_ c hc
      exact ⟨i, x', y', by omega, q⟩
    · rw [List.mem_singleton.mp hc]
      exact ⟨k, x, y, by omega, h1, h2, h3⟩
  · by_cases e : i = k
    · subst e
      rw [h1] at q1
      rw [h2] at q2
      have e1 := Option.some.inj q1
      have e2 := Option.some.inj q2
      subst e1 e2
      rw [ho c q3]
      exact List.mem_append_right _ List.mem_cons_self
    · exact List.mem_append_left _ (h.all c hc i x' y' (by omega) q1 q2 q3)
  · rw [List.mem_singleton.mp hb]
    obtain ⟨i, x', y', hi, q1, q2, q3⟩ := h.at_ a ha
    exact ⟨_, h3, bar_order hw (h.bar a ha) q1 q3 h1 h2 hi⟩
theorem BarsTo.no {k x y : Nat} (h : BarsTo ds r w k l) (h1 : w[k]? = some x) (h2 : w[k + 1]? = some y) (hno : ∀ d, Bar ds r d → ds[d]? ≠ some (x, y)) : BarsTo ds r w (k + 1) l := by
  refine ⟨h.nd, h.bar, fun c hc => ?_, fun c hc i x' y' hi q1 q2 q3 => ?_, h.pw⟩
  · obtain ⟨i, x', y', hi, q⟩ := h.at_ c hc
    exact ⟨i, x', y', by omega, q⟩
  · by_cases e : i = k
    · subst e
      rw [h1] at q1
      rw [h2] at q2
      have e1 := Option.some.inj q1
      have e2 := Option.some.inj q2
      subst e1 e2
      exact (hno c hc q3).elim
    · exact h.all c hc i x' y' (by omega) q1 q2 q3
theorem BarsTo.fin (hw : Way ds (-1) w r) (h : BarsTo ds r w (w.length - 1) l) : IsBars ds r l := by
  refine ⟨h.nd, fun d => ⟨h.bar d, fun hd => ?_⟩, h.pw⟩
  obtain ⟨i, x, y, h1, h2, h3, _⟩ := bar_on hw hd
  have := (List.getElem?_eq_some_iff.mp h2).1
  exact h.all d hd i x y (by omega) h1 h2 h3
end
/-! ### the walk -/
def sp_bars_of (g : Gb) : Sp := fun vs H Q E => ∃ (p : Addr) (N : Nt) (r : Int), vs = [.ref p, .int r] ∧ NetAt g H p N ∧ Asked g E H N r fun k => ∀ l, IsBars N.ds k l → RetL (nvs l) H Q
/-! bars_of: slots 0 net 1 room 2 way 3 doors 4 found 5 k 6 alike 7 d 8 left -/
def t_bars_of_b1 (g : Gb) (E : XK)  : TS := tSeq (tAsg (tLc (iRng1 (tCons (tCB (rLenS g.K) (tCons (tVar 3) tNil)) tNil)) (gName 7) (tTest (tOp (rEqD g.K) (tOp (rIxL g.K) (tVar 3) (tVar 7)) (tTup (tCons (tOp (rIxL g.K) (tVar 2) (tVar 5)) (tCons (tOp (rIxL g.K) (tVar 2) (tOp rAddI (tVar 5) (tC (.int 1)))) tNil))))) (tVar 7) [7]) (gName 6))
  (tIfS (tTest (tOp rEq (tCB (rLenS g.K) (tCons (tVar 6) tNil)) (tC (.int 1)))) (tSeq (tAsg (tOp rCat (tSl (rSlL g.K) (tVar 3) tNoPart (tPart (tOp (rIxL g.K) (tVar 6) (tC (.int 0))))) (tSl (rSlL g.K) (tVar 3) (tPart (tOp rAddI (tOp (rIxL g.K) (tVar 6) (tC (.int 0))) (tC (.int 1)))) tNoPart)) (gName 8))
  (tIfS (tB (tDNotIn (tVar 1) (tCall (sp_steps g) [] E0 (tCons (tMake g.C (sp_Net___init__ g) [] E (tCons (tMeth g.C "rooms" (sp_Net_rooms g) [] E0 (tVar 0) tNil) (tCons (tVar 8) tNil))) (tCons (tUn rNeg (tC (.int 1))) tNil))))) (tDrop (tBM g.K "list" rAppend (tVar 4) (tCons (tOp (rIxL g.K) (tVar 6) (tC (.int 0))) tNil))) tNext)) tNext)
def t_bars_of (g : Gb) (E : XK) : TS := tSeq (tAsg (tCall (sp_way_to g) [] E (tCons (tVar 0) (tCons (tVar 1) tNil))) (gName 2))
  (tSeq (tAsg (tMeth g.C "doors" (sp_Net_doors g) [] E0 (tVar 0) tNil) (gName 3))
  (tSeq (tAsg (tLst tNil) (gName 4))
  (tSeq (tFor (iRng1 (tCons (tOp rSubI (tCB (rLenS g.K) (tCons (tVar 2) tNil)) (tC (.int 1))) tNil)) (gName 5) (t_bars_of_b1 g E))
  (tRet (tVar 4)))))
abbrev N_bars_of : List Str := ["net", "room", "way", "doors", "found", "k", "alike", "d", "left"]

section
variable {g : Gb} {σ : L2.St} {H H' B : Hp} {D : Ends} {E : XK} {Q : VK} {vs : List V} {p : Addr} {N : Nt} {te tn tr ta tb td ti tm tl : TE} {K : PySem.W.Frag} {r k o : Nat}
theorem eqv_pair {a b c d : Int} : PyData.eqv (pD (a, b)) (pD (c, d)) = (decide (a = c) && decide (b = d)) := by
  rw [Bool.eq_iff_iff]
  simp [pD, PyData.eqv, PyData.eqvAll]
theorem rv_eqP {x y : V} {a b : Int × Int} (h1 : ∀ H1, Ex H H1 → Dp K H1 x (pD a)) (h2 : ∀ H1, Ex H H1 → Dp K H1 y (pD b)) : RV (rEqD K) x y H (.bl (decide (a.1 = b.1) && decide (a.2 = b.2))) := fun H1 e Q q =>
  ⟨pD a, pD b, h1 H1 e, h2 H1 e, pD_shaped _, pD_shaped _, by rw [show pD a = pD (a.1, a.2) from rfl, show pD b = pD (b.1, b.2) from rfl, eqv_pair]; exact q H1 (Ex.refl _)⟩
/-- room not in steps(Net(many, left), s), left a tracked list -/
theorem et_nnet {la : Addr} {M : Nt} (hM : M.Ok) (h0 : Ev tr σ H (nv r)) (h1 : Ev tm σ H (nv M.n)) (h2 : Ev tl σ H (.ref la)) (hl : PLt H la (M.ds.map zp)) : EvT (tB (tDNotIn tr (tCall (sp_steps g) [] E0 (tCons (tMake g.C (sp_Net___init__ g) [] E (tCons tm (tCons tl tNil))) (tCons (tUn rNeg (tC (.int 1))) tNil))))) σ H (!rch M.ds (-1) r) := et_B fun H1 e Q q =>
  h0 H1 e _ fun H2 e2 => h1 H2 (e.trans e2) _ fun H3 e3 => h2 H3 ((e.trans e2).trans e3) _ fun H4 e4 => fun x dx hx hdx _ =>
    have e14 := (e.trans e2).trans (e3.trans e4)
    init_ok (R := fun v H5 => (tUn rNeg (tC (.int 1))) σ H5 fun y H6 => (fun vs H7 => sp_steps g (vs ++ []) H7 (fun z H8 => ∃ a o, z = .ref a ∧ DGet H8 a (nv r) o ∧ Q (.bl (!o.isSome)) H8) E0) [v, y] H6) hx hdx (hl.mono e14) (by rw [List.length_map]; have := hM.few; omega)
      (fun M' H5 hM' _ e5 hn => by
        have hn2 : NetAt g H5 x M := (isNet_eq hM' ▸ hn).mono ex_del
        refine ⟨1, rfl, x, M, -1, rfl, hn2, fun l d H6 hS hd e6 hd6 => ⟨d, _, rfl, DGet.k (k := .inl (r : Int)) hd6, ?_⟩⟩
        rw [dK_has]
        have : decide (r ∈ ks l) = rch M.ds (-1) r := by
          rw [Bool.eq_iff_iff, decide_eq_true_iff, rch_iff]
          exact hS.mem r
        rw [this]
        exact q H6 (((e2.trans e3).trans e4).trans (e5.trans e6)))
      (fun h => (h M ⟨hM, rfl, rfl⟩).elim)
theorem er_ok (ok : N.Ok) (d : Nat) : Nt.Ok ⟨N.n, N.ds.eraseIdx d⟩ := ⟨ok.pos, ok.most, Nat.le_trans (List.length_eraseIdx_le ..) ok.few, fun p hp => ok.ends p (er_sub hp)⟩
/-- doors[:d] + doors[d + 1:] -/
theorem er_refs {as : List Addr} {d : Nat} : (as.map V.ref).take d ++ (as.map V.ref).drop (d + 1) = (as.eraseIdx d).map V.ref := by
  rw [List.eraseIdx_eq_take_drop_succ, List.map_append, List.map_take, List.map_drop]
theorem er_pairs {as : List Addr} {d : Nat} (h : PairsAt H as (N.ds.map zp)) : PairsAt H (as.eraseIdx d) ((N.ds.eraseIdx d).map zp) := by
  rw [List.eraseIdx_eq_take_drop_succ, List.eraseIdx_eq_take_drop_succ, List.map_append, List.map_take, List.map_drop]
  exact paired_append (paired_take d h) (paired_drop (d + 1) h)
theorem el_er {as : List Addr} {a : Addr} {d : Nat} {t1 t2 : TE} (h : Ev td σ H (.ref a)) (ha : H a = some (.lst (as.map V.ref))) (h1 : Ev t1 σ H (nv d)) (h2 : Ev t2 σ H (nv (d + 1))) (hl : as.length ≤ 1000) :
    EvL (tOp rCat (tSl (rSlL K) td tNoPart (tPart t1)) (tSl (rSlL K) td (tPart t2) tNoPart)) σ H ((as.eraseIdx d).map V.ref) := by
  rw [← er_refs]
  refine el_catLL (el_is (el_sl h eo_none (eo_some h1) (sq_of ha)) (cut_to _ d)) (el_is (el_sl h (eo_some h2) eo_none (sq_of ha)) (cut_from _ (d + 1))) ?_
  rw [List.length_take, List.length_drop, List.length_map]
  omega
theorem one_of {m : Nat} {f : Nat → Bool} (h : ((List.range m).filter f).length = 1) : ∃ d, (List.range m).filter f = [d] ∧ d < m ∧ f d = true ∧ ∀ d', d' < m → f d' = true → d' = d := by
  obtain ⟨d, hd⟩ := List.length_eq_one_iff.mp h
  have hm : ∀ x, x ∈ (List.range m).filter f ↔ x = d := fun x => by rw [hd, List.mem_singleton]
  have h1 := List.mem_filter.mp ((hm d).mpr rfl)
  exact ⟨d, hd, List.mem_range.mp h1.1, h1.2, fun d' h2 h3 => (hm d').mp (List.mem_filter.mpr ⟨List.mem_range.mpr h2, h3⟩)⟩
theorem pure_bars_of (h : sp_bars_of g vs H Q E) : t_bars_of g E { nx := fun _ H' => Q .non H', rt := Q } (start N_bars_of vs) H := by
  obtain ⟨p, N, ri, rfl, hn, hA⟩ := h
  refine q_callX (ea_cons (ev_var rfl) (ea_cons (ev_var rfl) ea_nil)) fun H1 e1 => ⟨p, N, ri, rfl, hn.mono e1, fun r hr hr2 w hw wl H2 hwl e2 hwl2 => ?_, fun hh => (hA.2.1 hh).mono e1, fun k hk hk2 hk3 => (hA.2.2 k hk hk2 hk3).mono e1⟩
  have k := hA.1 r hr hr2
  subst hr
  have e12 := e1.trans e2
  have hm := hn.ok.most
  have hf := hn.ok.few
  have hwn := way_len hn.ok hw
  refine a_asgP (ev_doors (N := N) (ev_var rfl) (hn.mono e12)) fun v H3 e3 hv => ?_
  obtain ⟨dd, rfl, hd0, hdd⟩ := hv
  obtain ⟨as, hd1, hd2⟩ := id hdd
  have hal : as.length = N.ds.length := by
    have := paired_len hd2
    rw [List.length_map] at this
    exact this
  refine q_asgL (el_lst ea_nil (Nat.zero_le _)) fun fl H4 hfl e4 hfl4 => ?_
  have e13 := e12.trans e3
  have hfl0 : H fl = none := fresh_back e13 hfl
  have lw : (nvs w).length = w.length := List.length_map ..
  have hw1 : 1 ≤ w.length := List.length_pos_of_mem hw.p.mem_last
  refine q_forR1 (n := ((w.length - 1 : Nat) : Int)) (ea_cons (ev_is (ev_op (ev_len (ev_var rfl) (sq_of (e4 _ _ (e3 _ _ hwl2)))) ev_c rv_I0) (by rw [lw]; exact congrArg V.int (by omega))) ea_nil) ⟨by omega, by omega⟩
    (fun i σ' H' => Ex H3 H' ∧ ∃ (l : List Nat) (s5 s6 s8 : Option V), σ' = [some (.ref p), some (nv r), some (.ref wl), some (.ref dd), some (.ref fl), s5, s6, none, s8] ∧ H' fl = some (.lst (nvs l)) ∧ BarsTo N.ds r w i l ∧ l.length ≤ i)
    (fun H5 e5 => ⟨e4.trans e5, [], _, _, _, rfl, e5 _ _ hfl4, ⟨by simp, (fun d h => by cases h), (fun d h => by cases h), (fun d _ i x y h => absurd h (Nat.not_lt_zero _)), .nil⟩, Nat.le_refl _⟩) (fun i σ' H' hi hP => ?_) (fun σ' H' hP => ?_)
  · obtain ⟨eX, l, s5, s6, s8, rfl, hfl5, hB, hll⟩ := hP
    have hi2 : i < w.length - 1 := by omega
    have g1 : w[i]? = some (w[i]'(by omega)) := List.getElem?_eq_getElem (by omega)
    have g2 : w[i + 1]? = some (w[i + 1]'(by omega)) := List.getElem?_eq_getElem (by omega)
    obtain ⟨x, hx⟩ : ∃ x, x = w[i]'(by omega) := ⟨_, rfl⟩
    obtain ⟨y, hy⟩ : ∃ y, y = w[i + 1]'(by omega) := ⟨_, rfl⟩
    rw [← hx] at g1
    rw [← hy] at g2
    clear hx hy
    have e3X := e3.trans eX
    have hwl5 := e3X _ _ hwl2
    have hd5 := hdd.mono eX
    obtain ⟨f, hf2⟩ : ∃ f : Nat → Bool, f = fun d => decide (N.dr d = (x, y)) := ⟨_, rfl⟩
    have hfd : ∀ d, d < N.ds.length → (f d = true ↔ N.ds[d]? = some (x, y)) := fun d hd => by
      rw [hf2, dr_at hd]
      simp
    refine q_asgL (xs := nvs ((List.range N.ds.length).filter f)) ?_ fun al H5 hal5 e5 hal6 => ?_
    · obtain ⟨xs, hxs, hxl⟩ := hd5.len
      rw [List.length_map] at hxl
      refine el_lc (l := List.range N.ds.length) (R := fun (k : Nat) x => x = nv k) f nv (ei_range (ea_cons (ev_is (ev_len (ev_var rfl) (sq_of hxs)) (by rw [hxl])) ea_nil) (by omega)) (by rw [List.length_range]; omega) (fun _ => rfl) (fun d z H5 hd hz e5 => ?_) (fun d z H5 hd hz e5 _ => ?_)
      · subst hz
        have hd7 := List.mem_range.mp hd
        obtain ⟨bs, hb1, hb2⟩ := hd5.mono e5
        obtain ⟨ad, hb3, hb4⟩ := Paired.at hb2 (i := d) (b := zp (N.dr d)) (by rw [List.getElem?_map, dr_at hd7]; rfl)
        refine et_is (et_test (ev_opU (x := .ref ad) (xs := [nv x, nv y]) (z := .bl (f d)) (ev_op (ev_var rfl) (ev_var rfl) (rv_ixL (v := .ref ad) (sq_of hb1) (atI_nat (by rw [List.getElem?_map, hb3]; rfl)))) (eu_tup (ea_cons (ev_op (ev_var rfl) (ev_var rfl) (rv_ixL (sq_of (e5 _ _ hwl5)) (atI_nat (by rw [List.getElem?_map, g1]; rfl)))) (ea_cons (ev_op (ev_var rfl) (ev_is (w := nv (i + 1)) (ev_op (ev_var rfl) ev_c rv_I0) rfl) (rv_ixL (sq_of (e5 _ _ hwl5)) (atI_nat (by rw [List.getElem?_map, g2]; rfl)))) ea_nil)) (by show 2 ≤ 100000; decide)) fun t H6 ht e6 => ?_)) rfl
        have := rv_eqP (K := g.K) (H := H6) (x := .ref ad) (y := .ref t) (a := zp (N.dr d)) (b := zp (x, y)) (fun H7 e7 => dp_pair (e7 _ _ (e6 _ _ hb4))) (fun H7 e7 => dp_pair (e7 _ _ ht))
        have e8 : (decide ((zp (N.dr d)).1 = (zp (x, y)).1) && decide ((zp (N.dr d)).2 = (zp (x, y)).2)) = f d := by
          rw [hf2, Bool.eq_iff_iff, Bool.and_eq_true, decide_eq_true_iff, decide_eq_true_iff, decide_eq_true_iff]
          constructor
          · rintro ⟨h1, h2⟩
            exact Prod.ext (nI h1) (nI h2)
          · intro h
            rw [h]
            exact ⟨rfl, rfl⟩
        rw [e8] at this
        exact this
      · subst hz
        exact ev_var rfl
    have eX5 := eX.trans e5
    have lf : (nvs ((List.range N.ds.length).filter f)).length = ((List.range N.ds.length).filter f).length := List.length_map ..
    refine s_when (et_is (et_test (ev_op (ev_len (ev_var rfl) (sq_of hal6)) ev_c (rv_eq rfl))) (b := decide (((List.range N.ds.length).filter f).length = 1)) (by rw [lf]; exact decide_eq_decide.mpr ⟨fun h => by have := V.int.inj h; omega, fun h => by rw [h]; rfl⟩)) (fun hb H6 e6 => ?_) (fun hb H6 e6 => ?_)
    · obtain ⟨d, hd, hdm, hdf, hdo⟩ := one_of (of_decide_eq_true hb)
      rw [hd] at hal6
      have hxy := (hfd d hdm).mp hdf
      have ho : ∀ d', N.ds[d']? = some (x, y) → d' = d := fun d' h => by
        have h2 := (List.getElem?_eq_some_iff.mp h).1
        exact hdo d' h2 ((hfd d' h2).mpr h)
      have ha0 : ∀ {σ : L2.St} {H'' : Hp}, Ex H5 H'' → σ[6]? = some (some (.ref al)) → Ev (tOp (rIxL g.K) (tVar 6) (tC (.int 0))) σ H'' (nv d) := fun {σ H''} e h6 => ev_op (ev_var h6) ev_c (rv_ixL (sq_of (e _ _ hal6)) (atI_nat (j := 0) rfl))
      refine q_asgL (el_er (as := as) (d := d) (ev_var rfl) ((eX5.trans e6) _ _ hd1) (ha0 e6 rfl) (ev_is (w := nv (d + 1)) (ev_op (ha0 e6 rfl) ev_c rv_I0) rfl) (by omega)) fun le H7 hle e7 hle7 => ?_
      have eX7 := (eX5.trans e6).trans e7
      have hpl : PLt H7 le ((N.ds.eraseIdx d).map zp) := ⟨as.eraseIdx d, hle7, er_pairs (hd2.mono eX7)⟩
      refine s_when (et_nnet (E := E) (M := ⟨N.n, N.ds.eraseIdx d⟩) (r := r) (er_ok hn.ok d) (ev_var rfl) (ev_rooms (N := N) (ev_var rfl) (hn.mono (e13.trans eX7))) (ev_var rfl) hpl) (fun hb2 H8 e8 => ?_) (fun hb2 H8 e8 => ?_)
      · have hbar : Bar N.ds r d := ⟨hdm, hr2, fun z => by
          rw [rch_iff.mpr z] at hb2
          cases hb2⟩
        have eY := (e6.trans e7).trans e8
        refine s_app (xs := nvs l) (eY _ _ (e5 _ _ hfl5)) (ev_var rfl) (ha0 eY rfl) (by rw [List.length_map]; omega) fun H9 e9 => ⟨exU ((eX7.trans e8).trans e9) hfl, l ++ [d], _, _, _, rfl, ?_, hB.yes hw g1 g2 hxy hbar ho, by rw [List.length_append]; show _ + 1 ≤ _; omega⟩
        rw [upd_same]
        unfold nvs
        rw [List.map_append]
        rfl
      · refine ⟨eX7.trans e8, l, _, _, _, rfl, e8 _ _ (e7 _ _ (e6 _ _ (e5 _ _ hfl5))), hB.no g1 g2 fun d' hd' z => ?_, by omega⟩
        rw [ho d' z] at hd'
        rw [rch_no.mpr hd'.2.2] at hb2
        cases hb2
    · refine ⟨eX5.trans e6, l, _, _, _, rfl, e6 _ _ (e5 _ _ hfl5), hB.no g1 g2 fun d' hd' z => of_decide_eq_false hb ?_, by omega⟩
      obtain ⟨j, x', y', q1, q2, q3, q4⟩ := bar_on hw hd'
      rw [z] at q3
      obtain ⟨rfl, rfl⟩ := Prod.mk.inj (Option.some.inj q3)
      have : (List.range N.ds.length).filter f = [d'] := by
        refine List.perm_singleton.mp ((List.perm_ext_iff_of_nodup (List.nodup_range.filter _) (by simp)).mpr fun c => ?_)
        rw [List.mem_filter, List.mem_range, List.mem_singleton]
        constructor
        · rintro ⟨h1, h2⟩
          exact q4 c ((hfd c h1).mp h2)
        · rintro rfl
          exact ⟨hd'.1, (hfd _ hd'.1).mpr z⟩
      rw [this]
      rfl
  · obtain ⟨eX, l, s5, s6, s8, rfl, hfl5, hB, hll⟩ := hP
    rw [Int.toNat_natCast] at hB
    exact s_ret (ev_var rfl) fun H5 e5 => k l (hB.fin hw) fl H5 hfl0 ((e13.trans eX).trans e5) (e5 _ _ hfl5)
end
end Mp

/-! The laws' _law_ways: all ways without a room twice. -/
namespace Mp
open PySem L2 Evl
abbrev RW := List Nat × List Nat
/-- a way from 0 by rooms and by the numbers of doors, no room twice -/
inductive Dw (ds : DL) : List Nat → List Nat → Nat → Prop
  | zero : Dw ds [0] [] 0
  | snoc {rs ks : List Nat} {a b k : Nat} : Dw ds rs ks a → ds[k]? = some (a, b) → b ∉ rs → Dw ds (rs ++ [b]) (ks ++ [k]) b
/-- one way goes on as the other -/
inductive Cn (ds : DL) : List Nat → List Nat → Nat → List Nat → List Nat → Nat → Prop
  | done {rs ks : List Nat} {a : Nat} : Cn ds rs ks a rs ks a
  | step {rs ks rs2 ks2 : List Nat} {a b k r : Nat} : ds[k]? = some (a, b) → b ∉ rs → Cn ds (rs ++ [b]) (ks ++ [k]) b rs2 ks2 r → Cn ds rs ks a rs2 ks2 r
section
variable {ds : DL} {rs ks rs2 ks2 : List Nat} {a b k r x d : Nat}
theorem Cn.snoc (h : Cn ds rs ks a rs2 ks2 b) (h1 : ds[k]? = some (b, r)) (h2 : r ∉ rs2) : Cn ds rs ks a (rs2 ++ [r]) (ks2 ++ [k]) r := by
  induction h with
  | done => exact .step h1 h2 .done
  | step q1 q2 _ ih => exact .step q1 q2 (ih h1 h2)
theorem Dw.cn (h : Dw ds rs ks r) : Cn ds [0] [] 0 rs ks r := by
  induction h with
  | zero => exact .done
  | snoc _ h1 h2 ih => exact ih.snoc h1 h2
theorem Dw.last (h : Dw ds rs ks a) : ∃ u, rs = u ++ [a] := by
  cases h with
  | zero => exact ⟨[], rfl⟩
  | snoc _ _ _ => exact ⟨_, rfl⟩
theorem Dw.mem (h : Dw ds rs ks a) : a ∈ rs := by
  obtain ⟨u, rfl⟩ := h.last
  exact List.mem_append_right _ List.mem_cons_self
theorem Dw.nd (h : Dw ds rs ks a) : rs.Nodup := by
  induction h with
  | zero => simp
  | snoc _ _ h2 ih => exact List.nodup_append.mpr ⟨ih, by simp, fun a ha b hb e => h2 (by rw [List.mem_singleton.mp hb] at e; exact e ▸ ha)⟩
theorem Cn.sub (h : Cn ds rs ks a rs2 ks2 r) : ∀ x ∈ rs, x ∈ rs2 := by
  induction h with
  | done => exact fun _ h => h
  | step _ _ _ ih => exact fun x hx => ih x (List.mem_append_left _ hx)
/-- a way that has come is all of it -/
theorem Cn.end_ (h : Cn ds rs ks a rs2 ks2 r) : (rs2 = rs ∧ ks2 = ks ∧ r = a) ∨ r ∉ rs := by
  induction h with
  | done => exact .inl ⟨rfl, rfl, rfl⟩
  | @step rs ks rs2 ks2 a b k r h1 h2 h3 ih =>
    rcases ih with ⟨_, _, e⟩ | h
    · exact .inr (e ▸ h2)
    · exact .inr fun z => h (List.mem_append_left _ z)
theorem Dw.pth (h : Dw ds rs ks r) : Pth ds (-1) 0 rs r := by
  induction h with
  | zero => exact .one (by decide)
  | snoc _ h1 _ ih => exact ih.snoc (List.mem_of_getElem? h1) (by omega)
theorem Dw.way (h : Dw ds rs ks r) : Way ds (-1) rs r := ⟨h.pth, h.nd⟩
theorem Dw.len (h : Dw ds rs ks r) : rs.length = ks.length + 1 := by
  induction h with
  | zero => rfl
  | snoc _ _ _ ih => rw [List.length_append, List.length_append, ih] <;> rfl
/-- the doors of a way -/
theorem Dw.door (h : Dw ds rs ks r) : ∀ {i d : Nat}, ks[i]? = some d → ∃ x y, rs[i]? = some x ∧ rs[i + 1]? = some y ∧ ds[d]? = some (x, y) := by
  induction h with
  | zero => exact fun {i d} h => by simp at h
  | @snoc rs ks a b k h1 h2 h3 ih =>
    intro i d hd
    have hl := h1.len
    by_cases e : i < ks.length
    · rw [List.getElem?_append_left e] at hd
      obtain ⟨x, y, q1, q2, q3⟩ := ih hd
      exact ⟨x, y, by rw [List.getElem?_append_left (by omega)]; exact q1, by rw [List.getElem?_append_left (by omega)]; exact q2, q3⟩
    · have hi : i = ks.length := by
        have := (List.getElem?_eq_some_iff.mp hd).1
        simp at this
        omega
      subst hi
      rw [List.getElem?_append_right (Nat.le_refl _), Nat.sub_self] at hd
      have : k = d := by simpa using hd
      subst this
      refine ⟨a, b, ?_, ?_, h2⟩
      · obtain ⟨u, e⟩ := h1.last
        rw [List.getElem?_append_left (by omega), e, List.getElem?_append_right (by rw [e, List.length_append] at hl; simp at hl; omega)]
        have : ks.length - u.length = 0 := by rw [e, List.length_append] at hl; simp at hl; omega
        rw [this]
        rfl
      · rw [List.getElem?_append_right (by omega)]
        have : ks.length + 1 - rs.length = 0 := by omega
        rw [this]
        rfl
theorem Dw.ks_nd (h : Dw ds rs ks r) : ks.Nodup := by
  refine List.pairwise_iff_getElem.mpr fun i j hi hj hij e => ?_
  obtain ⟨x, y, q1, _, q3⟩ := h.door (List.getElem?_eq_getElem hi)
  obtain ⟨x', y', p1, _, p3⟩ := h.door (List.getElem?_eq_getElem hj)
  rw [e, p3] at q3
  obtain ⟨rfl, rfl⟩ := Prod.mk.inj (Option.some.inj q3)
  have := idx_eq h.nd q1 p1
  omega
/-- a way by rooms can be told by doors, of those of a kind -/
theorem way_dw {ok : Nat → Prop} {w : List Nat} {s : Int} {es : DL} (h : Way es s w r) (hd : ∀ x y, (x, y) ∈ es → ∃ k, ok k ∧ ds[k]? = some (x, y)) : ∃ ks, Dw ds w ks r ∧ ∀ k ∈ ks, ok k := by
  have key : ∀ {a : Nat} {w : List Nat} {b : Nat}, Pth es s a w b → ∀ {u ks : List Nat}, Dw ds (u ++ [a]) ks a → (∀ k ∈ ks, ok k) → (u ++ w).Nodup → ∃ ks2, Dw ds (u ++ w) ks2 b ∧ ∀ k ∈ ks2, ok k := by
    intro a w b h
    induction h with
    | one _ => exact fun h1 h2 _ => ⟨_, h1, h2⟩
    | @cons a c b w h1 h2 h3 ih =>
      intro u ks q1 q2 nd
      obtain ⟨k, hk1, hk2⟩ := hd _ _ h1
      obtain ⟨w', rfl⟩ := h3.fst
      have hc : c ∉ u ++ [a] := fun z => by
        have e : u ++ a :: c :: w' = (u ++ [a]) ++ c :: w' := by simp
        rw [e] at nd
        exact (List.nodup_append.mp nd).2.2 c z c List.mem_cons_self rfl
      have := ih (u := u ++ [a]) (q1.snoc hk2 hc) (fun x hx => by
        rcases List.mem_append.mp hx with hx | hx
        · exact q2 x hx
        · rw [List.mem_singleton.mp hx]
          exact hk1) (by simpa using nd)
      simpa using this
  have := key h.p (u := []) (ks := []) .zero (fun _ h => by cases h) h.nd
  simpa using this
/-- all ways to r -/
structure WaysOf (ds : DL) (r : Nat) (F : List RW) : Prop where
  is : ∀ W ∈ F, Dw ds W.1 W.2 r
  all : ∀ rs ks, Dw ds rs ks r → (rs, ks) ∈ F
theorem WaysOf.ne {F : List RW} (h : WaysOf ds r F) (hr : Rch ds (-1) r) : F ≠ [] := fun z => by
  obtain ⟨w, hw⟩ := hr.way
  obtain ⟨ks, h1, _⟩ := way_dw (ds := ds) (ok := fun _ => True) hw fun x y hxy => by
    obtain ⟨i, hi⟩ := List.mem_iff_getElem?.mp hxy
    exact ⟨i, trivial, hi⟩
  have := h.all _ _ h1
  rw [z] at this
  cases this
/-- guards are what stands in all ways -/
theorem ways_dm {F : List RW} (h : WaysOf ds r F) (hr : Rch ds (-1) r) : (∀ W ∈ F, a ∈ W.1) ↔ Dm ds a r := by
  constructor
  · intro hall
    refine ⟨hr, fun hn => ?_⟩
    obtain ⟨w, hw⟩ := hn.way
    obtain ⟨ks, h1, _⟩ := way_dw (ds := ds) (ok := fun _ => True) hw fun x y hxy => by
      obtain ⟨i, hi⟩ := List.mem_iff_getElem?.mp hxy
      exact ⟨i, trivial, hi⟩
    exact hw.p.ne a (hall _ (h.all _ _ h1)) rfl
  · exact fun hd W hW => hd.mem (h.is W hW).pth
theorem ways_gds {F : List RW} {W : RW} (h : WaysOf ds r F) (hr : Rch ds (-1) r) (hW : W ∈ F) : (W.1.filter fun one => F.all fun V => decide (one ∈ V.1)) = gds ds r := by
  rw [← gds_eq (h.is W hW).way]
  refine List.filter_congr fun one _ => ?_
  rw [Bool.eq_iff_iff, List.all_eq_true, dm_iff, ← ways_dm h hr]
  exact ⟨fun z V hV => of_decide_eq_true (z V hV), fun z V hV => decide_eq_true (z V hV)⟩
/-- bars are the doors in all ways -/
theorem ways_bar {F : List RW} (h : WaysOf ds r F) (hr : Rch ds (-1) r) : (∀ W ∈ F, d ∈ W.2) ↔ Bar ds r d := by
  constructor
  · intro hall
    have hF : ∃ W, W ∈ F := List.exists_mem_of_ne_nil F (h.ne hr)
    obtain ⟨W, hW⟩ := hF
    obtain ⟨i, hi, e⟩ := List.mem_iff_getElem.mp (hall W hW)
    obtain ⟨x, y, _, _, q⟩ := (h.is W hW).door (show W.2[i]? = some d by rw [List.getElem?_eq_getElem hi, e])
    refine ⟨(List.getElem?_eq_some_iff.mp q).1, hr, fun hn => ?_⟩
    obtain ⟨w, hw⟩ := hn.way
    obtain ⟨ks, h1, h2⟩ := way_dw (ds := ds) (ok := fun k => k ≠ d) hw fun x y hxy => mem_er.mp hxy
    exact h2 d (hall _ (h.all _ _ h1)) rfl
  · intro hd W hW
    refine Classical.byContradiction fun hn => hd.2.2 ?_
    have hD := h.is W hW
    refine hD.pth.along (.zero (by decide)) fun j x y h1 h2 => ?_
    have hj : j < W.2.length := by
      have := (List.getElem?_eq_some_iff.mp h2).1
      have := hD.len
      omega
    obtain ⟨x', y', q1, q2, q3⟩ := hD.door (List.getElem?_eq_getElem hj)
    rw [h1] at q1
    rw [h2] at q2
    obtain rfl := Option.some.inj q1
    obtain rfl := Option.some.inj q2
    exact mem_er.mpr ⟨_, fun z => hn (z ▸ List.getElem_mem hj), q3⟩
theorem ways_bars {F : List RW} {W : RW} (h : WaysOf ds r F) (hr : Rch ds (-1) r) (hW : W ∈ F) : IsBars ds r (W.2.filter fun d => F.all fun V => decide (d ∈ V.2)) := by
  have hD := h.is W hW
  have hm : ∀ d, (F.all fun V => decide (d ∈ V.2)) = true ↔ Bar ds r d := fun d => by
    rw [List.all_eq_true, ← ways_bar h hr]
    exact ⟨fun z V hV => of_decide_eq_true (z V hV), fun z V hV => decide_eq_true (z V hV)⟩
  refine ⟨hD.ks_nd.filter _, fun d => ?_, ?_⟩
  · rw [List.mem_filter, hm]
    exact ⟨fun z => z.2, fun z => ⟨(ways_bar h hr).mpr z W hW, z⟩⟩
  · have pw : W.2.Pairwise fun d e => Bar ds r d → Bo ds d e := by
      refine List.pairwise_iff_getElem.mpr fun i j hi hj hij hb => ?_
      obtain ⟨x, y, q1, _, q3⟩ := hD.door (List.getElem?_eq_getElem hi)
      obtain ⟨x', y', p1, p2, p3⟩ := hD.door (List.getElem?_eq_getElem hj)
      exact ⟨_, p3, bar_order hD.way hb q1 q3 p1 p2 hij⟩
    exact (pw.filter _).imp_of_mem fun {d e} hd _ z => z ((hm d).mp (List.mem_filter.mp hd).2)
/-! ### how long it takes -/
def wt (ds : DL) (rs : List Nat) : Nat := 2 ^ (ds.filter fun d => !decide (d.1 ∈ rs.dropLast)).length
def tw (ds : DL) (T : List RW) : Nat := (T.map fun W => wt ds W.1).sum
theorem tw_append {T U : List RW} : tw ds (T ++ U) = tw ds T + tw ds U := by
  unfold tw
  rw [List.map_append, List.sum_append]
theorem wt_pos : 1 ≤ wt ds rs := Nat.pos_of_ne_zero (by unfold wt; exact Nat.ne_of_gt (Nat.pow_pos (by decide)))
theorem tw_len {T : List RW} : T.length ≤ tw ds T := by
  induction T with
  | nil => exact Nat.zero_le _
  | cons W T ih =>
    have := wt_pos (ds := ds) (rs := W.1)
    show T.length + 1 ≤ wt ds W.1 + (T.map fun W => wt ds W.1).sum
    have : T.length ≤ (T.map fun W => wt ds W.1).sum := ih
    omega
end
/-- the ways that go on by the first m doors -/
def chs (N : Nt) (rs ks : List Nat) (a m : Nat) : List RW := ((List.range m).filter fun k => decide ((N.dr k).1 = a) && !decide ((N.dr k).2 ∈ rs)).map fun k => (rs ++ [(N.dr k).2], ks ++ [k])
section
variable {N : Nt} {rs ks : List Nat} {a m : Nat}
theorem chs_succ : chs N rs ks a (m + 1) = if (decide ((N.dr m).1 = a) && !decide ((N.dr m).2 ∈ rs)) = true then chs N rs ks a m ++ [(rs ++ [(N.dr m).2], ks ++ [m])] else chs N rs ks a m := by
  unfold chs
  rw [List.range_succ, List.filter_append]
  cases h : (decide ((N.dr m).1 = a) && !decide ((N.dr m).2 ∈ rs)) with
  | true => rw [if_pos rfl]; simp [h]
  | false => rw [if_neg (by decide)]; simp [h]
/-- fewer than a power of two -/
theorem lt_two_pow (n : Nat) : n < 2 ^ n := Nat.lt_two_pow_self
theorem chs_tw (u : List Nat) (ha : a ∉ u) : tw N.ds (chs N (u ++ [a]) ks a N.ds.length) < wt N.ds (u ++ [a]) := by
  obtain ⟨c, hc⟩ : ∃ c, c = (N.ds.filter fun d => !decide (d.1 ∈ u ++ [a])).length := ⟨_, rfl⟩
  obtain ⟨g, hg⟩ : ∃ g, g = (N.ds.filter fun d => decide (d.1 = a)).length := ⟨_, rfl⟩
  -- each of them weighs 2 ^ c
  have h1 : ∀ W ∈ chs N (u ++ [a]) ks a N.ds.length, wt N.ds W.1 = 2 ^ c := fun W hW => by
    unfold chs at hW
    obtain ⟨k, _, rfl⟩ := List.mem_map.mp hW
    unfold wt
    rw [List.dropLast_concat, hc]
  have h2 : ∀ (T : List RW), (∀ W ∈ T, wt N.ds W.1 = 2 ^ c) → tw N.ds T = T.length * 2 ^ c := by
    intro T
    induction T with
    | nil => intro _; simp [tw]
    | cons W T ih =>
      intro hT
      have e : tw N.ds (W :: T) = wt N.ds W.1 + tw N.ds T := rfl
      rw [e, hT W List.mem_cons_self, ih fun V hV => hT V (List.mem_cons_of_mem _ hV), List.length_cons, Nat.add_mul]
      omega
  have h3 : (chs N (u ++ [a]) ks a N.ds.length).length ≤ g := by
    unfold chs
    rw [List.length_map]
    have e : g = ((List.range N.ds.length).filter fun k => decide ((N.dr k).1 = a)).length := by
      rw [hg]
      have : N.ds = (List.range N.ds.length).map N.dr := by
        apply List.ext_getElem?
        intro i
        by_cases hi : i < N.ds.length
        · rw [dr_at hi, List.getElem?_map, List.getElem?_range hi]
          rfl
        · rw [List.getElem?_eq_none (by omega), List.getElem?_eq_none (by rw [List.length_map, List.length_range]; omega)]
      conv => lhs; rw [this]
      rw [List.filter_map, List.length_map]
      rfl
    rw [e]
    have : ((List.range N.ds.length).filter fun k => decide ((N.dr k).1 = a) && !decide ((N.dr k).2 ∈ u ++ [a])) = ((List.range N.ds.length).filter fun k => decide ((N.dr k).1 = a)).filter fun k => !decide ((N.dr k).2 ∈ u ++ [a]) := by
      rw [List.filter_filter]
      exact List.filter_congr fun k _ => Bool.and_comm _ _
    rw [this]
    exact List.length_filter_le _ _
  have h4 : wt N.ds (u ++ [a]) = 2 ^ (c + g) := by
    unfold wt
    rw [List.dropLast_concat]
    congr 1
    rw [hc, hg]
    have key : ∀ (l : DL), (l.filter fun d => !decide (d.1 ∈ u)).length = (l.filter fun d => !decide (d.1 ∈ u ++ [a])).length + (l.filter fun d => decide (d.1 = a)).length := by
      intro l
      induction l with
      | nil => rfl
      | cons d l ih =>
        by_cases e1 : d.1 = a
        · have e2 : d.1 ∉ u := e1 ▸ ha
          simp [e1, ha, ih]
          omega
        · by_cases e2 : d.1 ∈ u
          · simp [e1, e2, ih]
          · simp [e1, e2, ih]
            omega
    exact key N.ds
  rw [h2 _ h1, h4, Nat.pow_add, Nat.mul_comm (2 ^ c)]
  refine Nat.mul_lt_mul_of_pos_right (Nat.lt_of_le_of_lt h3 (lt_two_pow g)) (Nat.pow_pos (by decide))
theorem tw_start : tw N.ds [([0], [])] ≤ 2 ^ N.ds.length := by
  show wt N.ds [0] + 0 ≤ _
  unfold wt
  exact Nat.pow_le_pow_right (by decide) (List.length_filter_le _ _)
end
/-! ### the walk -/
/-- a way in the heap -/
def Wt (X : Addr → Prop) (H : Hp) (t : Addr) (W : RW) : Prop := ∃ a b, ¬ X t ∧ ¬ X a ∧ ¬ X b ∧ H t = some (.tup [.ref a, .ref b]) ∧ H a = some (.lst (nvs W.1)) ∧ H b = some (.lst (nvs W.2))
def WAt (X : Addr → Prop) (H : Hp) (q : Addr) (F : List RW) : Prop := ∃ ts : List Addr, H q = some (.lst (ts.map V.ref)) ∧ Paired (Wt X H) ts F
theorem Wt.keep {X : Addr → Prop} {H H' : Hp} {t : Addr} {W : RW} (h : Wt X H t W) (e : ∀ p o, ¬ X p → H p = some o → H' p = some o) : Wt X H' t W := let ⟨a, b, h1, h2, h3, h4, h5, h6⟩ := h; ⟨a, b, h1, h2, h3, e _ _ h1 h4, e _ _ h2 h5, e _ _ h3 h6⟩
def sp__law_ways (g : Gb) : Sp := fun vs H Q _ => ∃ (pl : Addr) (N : Nt) (r : Nat), vs = [.ref pl, nv r] ∧ PLt H pl (N.ds.map zp) ∧ N.ds.length ≤ 12 ∧ ∀ F q H2, Ex H H2 → WaysOf N.ds r F → F.length ≤ 5000 → WAt (fun _ => False) H2 q F → Q (.ref q) H2
/-! _law_ways: slots 0 pairs 1 room 2 found 3 todo 4 way 5 k -/
def t__law_ways_b1 (g : Gb)  : TS := tIfS (tAnd (tTest (tOp rEq (tOp (rIxT g.K) (tOp (rIxL g.K) (tVar 0) (tVar 5)) (tC (.int 0))) (tOp (rIxL g.K) (tOp (rIxT g.K) (tVar 4) (tC (.int 0))) (tUn rNeg (tC (.int 1)))))) (tTest (tOp (rIn g.K true) (tOp (rIxT g.K) (tOp (rIxL g.K) (tVar 0) (tVar 5)) (tC (.int 1))) (tOp (rIxT g.K) (tVar 4) (tC (.int 0)))))) (tDrop (tBM g.K "list" rAppend (tVar 3) (tCons (tTup (tCons (tOp rCat (tOp (rIxT g.K) (tVar 4) (tC (.int 0))) (tLst (tCons (tOp (rIxT g.K) (tOp (rIxL g.K) (tVar 0) (tVar 5)) (tC (.int 1))) tNil))) (tCons (tOp rCat (tOp (rIxT g.K) (tVar 4) (tC (.int 1))) (tLst (tCons (tVar 5) tNil))) tNil))) tNil))) tNext
def t__law_ways_b2 (g : Gb)  : TS := tSeq (tAsg (tBM0 g.K "list" rPop (tVar 3)) (gName 4))
  (tIfS (tTest (tOp rEq (tOp (rIxL g.K) (tOp (rIxT g.K) (tVar 4) (tC (.int 0))) (tUn rNeg (tC (.int 1)))) (tVar 1))) (tDrop (tBM g.K "list" rAppend (tVar 2) (tCons (tVar 4) tNil))) (tFor (iRng1 (tCons (tCB (rLenS g.K) (tCons (tVar 0) tNil)) tNil)) (gName 5) (t__law_ways_b1 g)))
def t__law_ways (g : Gb) : TS := tSeq (tAsg (tLst tNil) (gName 2))
  (tSeq (tAsg (tLst (tCons (tTup (tCons (tLst (tCons (tC (.int 0)) tNil)) (tCons (tLst tNil) tNil))) tNil)) (gName 3))
  (tSeq (tWhile (tTest (tOp rGtI (tCB (rLenS g.K) (tCons (tVar 3) tNil)) (tC (.int 0)))) (t__law_ways_b2 g))
  (tRet (tVar 2))))
abbrev N__law_ways : List Str := ["pairs", "room", "found", "todo", "way", "k"]

section
variable {g : Gb} {σ : L2.St} {H H' B : Hp} {D : Ends} {E : XK} {Q : VK} {vs : List V} {p : Addr} {N : Nt} {te tn tr ta tb td ti tm tl : TE} {K : PySem.W.Frag} {r k o : Nat}
theorem nvs_snocS {l : List Nat} {x : Nat} : nvs l ++ [nv x] = nvs (l ++ [x]) := by
  unfold nvs
  rw [List.map_append]
  rfl
theorem s_appQ {l : Addr} {xs : List V} {P : Hp → V → Hp → Prop} (hl : H l = some (.lst xs)) (ha : Ev ta σ H (.ref l)) (h : EvP te σ H P) (hz : xs.length < 100000) (k : ∀ v H0 H1, Ex H H0 → Ex H0 H1 → P H0 v H1 → D.nx σ (upd H1 l (.lst (xs ++ [v])))) :
    tDrop (tBM K "list" rAppend ta (tCons te tNil)) D σ H := ha H (Ex.refl H) _ fun H1 e1 =>
  ⟨Or.inl ⟨rfl, xs, sq_of (e1 l _ hl)⟩, h H1 e1 _ fun v H2 e2 hv => ⟨l, xs, v, rfl, rfl, e2 l _ (e1 l _ hl), sz_lt hz, k v H1 H2 e1 e2 hv⟩⟩
theorem paired_dropLast {α β : Type} {F : α → β → Prop} : ∀ {l : List α} {m : List β}, Paired F l m → Paired F l.dropLast m.dropLast
  | _, _, .nil => .nil
  | _, _, .cons _ .nil => .nil
  | _, _, .cons r (.cons r2 t) => .cons r (paired_dropLast (.cons r2 t))
theorem paired_last {α β : Type} {F : α → β → Prop} {l : List α} {m : List β} (h : Paired F l m) (hne : m ≠ []) : ∃ a b, l[l.length - 1]? = some a ∧ m = m.dropLast ++ [b] ∧ F a b := by
  obtain ⟨b, hb⟩ : ∃ b, m = m.dropLast ++ [b] := ⟨_, (List.dropLast_concat_getLast hne).symm⟩
  have hl := paired_len h
  have hp : 0 < m.length := List.length_pos_iff.mpr hne
  have e : m[m.length - 1]? = some b := by
    rw [hb, List.length_append]
    simp
  obtain ⟨a, h1, h2⟩ := Paired.at h e
  exact ⟨a, b, by rw [hl]; exact h1, hb, h2⟩
theorem pure__law_ways (h : sp__law_ways g vs H Q E) : t__law_ways g { nx := fun _ H' => Q .non H', rt := Q } (start N__law_ways vs) H := by
  obtain ⟨pl, N, r, rfl, hp, hdl, k⟩ := h
  obtain ⟨xs, hxs, hxl⟩ := hp.len
  rw [List.length_map] at hxl
  refine q_asgL (el_lst ea_nil (Nat.zero_le _)) fun fd H1 hfd e1 hfd1 => ?_
  refine a_asgP (ep_lst1 (ep_tup2 (EvL.p (el_lst (ea_cons ev_c ea_nil) (by show 1 ≤ 100000; decide))) (EvL.p (el_lst ea_nil (Nat.zero_le _))))) fun v H2 e2 hv => ?_
  obtain ⟨td, v1, H3, rfl, htd, hv1, ex3, htd3, hH2⟩ := hv
  obtain ⟨t0, va, vb, Ha, Hb, rfl, ht0, hva, hvb, ea, eb, htb, hH3⟩ := hv1
  obtain ⟨a0, rfl, ha0, ha1⟩ := hva
  obtain ⟨b0, rfl, hb0, hb1⟩ := hvb
  have nfd : ∀ {q : Addr}, H1 q = none → q ≠ fd := fun {q} hq z => by rw [z, hfd1] at hq; cases hq
  obtain ⟨X, hX⟩ : ∃ X : Addr → Prop, X = fun p => p = td ∨ p = fd := ⟨_, rfl⟩
  have hH3td : H3 td = none := htd3
  have nt : ∀ {q : Addr} {o : HO}, H3 q = some o → q ≠ td := fun {q o} hq z => by rw [z, hH3td] at hq; cases hq
  have ha3 : H3 a0 = some (.lst (nvs [0])) := by
    have n1 : a0 ≠ t0 := fun z => by rw [← z, eb _ _ ha1] at htb; cases htb
    rw [hH3, upd_ne n1]
    exact eb _ _ ha1
  have hb3 : H3 b0 = some (.lst (nvs [])) := by
    have n1 : b0 ≠ t0 := fun z => by rw [← z, hb1] at htb; cases htb
    rw [hH3, upd_ne n1]
    exact hb1
  have ht3 : H3 t0 = some (.tup [.ref a0, .ref b0]) := by rw [hH3, upd_same]
  have h2 : ∀ {q : Addr} {o : HO}, H3 q = some o → H2 q = some o := fun {q o} hq => by rw [hH2, upd_ne (nt hq)]; exact hq
  have hW0 : Wt X H2 t0 ([0], []) := ⟨a0, b0, by rw [hX]; exact fun z => z.elim (nt ht3) (nfd ht0), by rw [hX]; exact fun z => z.elim (nt ha3) (nfd ha0), by rw [hX]; exact fun z => z.elim (nt hb3) (nfd (fresh_back ea hb0)), h2 ht3, h2 ha3, h2 hb3⟩
  have htd2 : H2 td = some (.lst ([t0].map V.ref)) := by rw [hH2, upd_same]; rfl
  have ntf : td ≠ fd := nfd htd
  have hHX : ∀ p o, H p = some o → ¬ X p := fun p o hpo => by
    rw [hX]
    rintro (z | z)
    · have := e1 _ _ hpo
      rw [z, htd] at this
      cases this
    · rw [z, hfd] at hpo
      cases hpo
  have hX2 : ∀ p, ¬ X p ↔ p ≠ td ∧ p ≠ fd := fun p => by
    rw [hX]
    exact not_or
  have e02 : Ex H H2 := e1.trans e2
  clear hH2 hH3 ht3 hb3 ha3 nt hH3td
  -- the whole loop
  refine q_while (fun m σ' H' => ∃ (T F : List RW) (s4 s5 : Option V), σ' = [some (.ref pl), some (nv r), some (.ref fd), some (.ref td), s4, s5] ∧ Ex H H' ∧ WAt X H' td T ∧ WAt X H' fd F ∧ (∀ W ∈ T, ∃ a, Dw N.ds W.1 W.2 a) ∧ (∀ W ∈ F, Dw N.ds W.1 W.2 r) ∧
      (∀ rs ks, Dw N.ds rs ks r → (rs, ks) ∈ F ∨ ∃ W ∈ T, ∃ a, Dw N.ds W.1 W.2 a ∧ Cn N.ds W.1 W.2 a rs ks r) ∧ F.length + tw N.ds T ≤ 4096 ∧ m = tw N.ds T) (tw N.ds [([0], [])]) ⟨[([0], [])], [], _, none, rfl, e02, ⟨[t0], htd2, .cons hW0 .nil⟩, ⟨[], e2 _ _ hfd1, .nil⟩, fun W hW => by rw [List.mem_singleton.mp hW]; exact ⟨0, .zero⟩, (fun W hW => by cases hW), fun rs ks hD => .inr ⟨_, List.mem_cons_self, 0, .zero, hD.cn⟩, by
      have := tw_start (N := N)
      have h3 : 2 ^ N.ds.length ≤ 2 ^ 12 := Nat.pow_le_pow_right (by decide) hdl
      show 0 + _ ≤ 4096
      omega, rfl⟩ fun m σ' H' hW => ?_
  obtain ⟨T, F, s4, s5, rfl, eH, hT, hF, hTd, hFd, hall, hsz, rfl⟩ := hW
  obtain ⟨ts, ht1, ht2⟩ := id hT
  obtain ⟨fs, hf1, hf2⟩ := id hF
  have lts : ts.length = T.length := paired_len ht2
  refine ⟨decide (0 < T.length), et_is (et_test (ev_op (ev_len (ev_var rfl) (sq_of ht1)) ev_c rv_I0)) (by rw [List.length_map, lts]; exact decide_eq_decide.mpr ⟨fun h => by omega, fun h => by omega⟩), fun hb H4 e4 => ?_, fun hb H4 e4 => ?_⟩
  · have hne : T ≠ [] := fun z => by rw [z] at hb; cases hb
    obtain ⟨t, W, hlast, hTW, hWt⟩ := paired_last ht2 hne
    obtain ⟨T0, hT0⟩ : ∃ T0, T0 = T.dropLast := ⟨_, rfl⟩
    rw [← hT0] at hTW
    have htwT : tw N.ds T = tw N.ds T0 + wt N.ds W.1 := by
      rw [hTW, tw_append]
      rfl
    have hpr0 : Paired (Wt X H') ts.dropLast T0 := by rw [hT0]; exact paired_dropLast ht2
    have hWm : W ∈ T := by rw [hTW]; exact List.mem_append_right _ List.mem_cons_self
    obtain ⟨la, hDw⟩ := hTd W hWm
    obtain ⟨u, hu⟩ := hDw.last
    obtain ⟨wa, wb, x1, x2, x3, hw1, hw2, hw3⟩ := hWt
    refine ⟨fun σ2 H2 => ∃ (T F : List RW) (s4 s5 : Option V), σ2 = [some (.ref pl), some (nv r), some (.ref fd), some (.ref td), s4, s5] ∧ Ex H H2 ∧ WAt X H2 td T ∧ WAt X H2 fd F ∧ (∀ W ∈ T, ∃ a, Dw N.ds W.1 W.2 a) ∧ (∀ W ∈ F, Dw N.ds W.1 W.2 r) ∧
      (∀ rs ks, Dw N.ds rs ks r → (rs, ks) ∈ F ∨ ∃ W ∈ T, ∃ a, Dw N.ds W.1 W.2 a ∧ Cn N.ds W.1 W.2 a rs ks r) ∧ F.length + tw N.ds T ≤ 4096 ∧ tw N.ds T < tw N.ds T0 + wt N.ds W.1, fun σ2 H2 hN => ?_, ?_⟩
    · obtain ⟨T2, F2, s4, s5, q1, q2, q3, q4, q5, q6, q7, q8, q9⟩ := hN
      exact ⟨tw N.ds T2, by omega, T2, F2, s4, s5, q1, q2, q3, q4, q5, q6, q7, q8, rfl⟩
    -- way = todo.pop()
    refine ⟨_, rfl, Or.inl ⟨rfl, _, sq_of (e4 _ _ ht1)⟩, td, ts.map V.ref, .ref t, rfl, rfl, e4 _ _ ht1, by rw [List.length_map, List.getElem?_map, hlast]; rfl, ?_⟩
    obtain ⟨H5, hH5⟩ : ∃ H5, H5 = upd H4 td (.lst (ts.map V.ref).dropLast) := ⟨_, rfl⟩
    rw [← hH5]
    have k5 : ∀ p o, ¬ X p → H' p = some o → H5 p = some o := fun p o hp ho => by
      rw [hH5, upd_ne ((hX2 p).mp hp).1]
      exact e4 _ _ ho
    have e5 : Ex H H5 := fun p o ho => k5 p o (hHX p o ho) (eH _ _ ho)
    have htd5 : H5 td = some (.lst (ts.dropLast.map V.ref)) := by rw [hH5, upd_same, List.map_dropLast]
    have hfd5 : H5 fd = some (.lst (fs.map V.ref)) := by
      rw [hH5, upd_ne (Ne.symm ntf)]
      exact e4 _ _ hf1
    have hT5 : Paired (Wt X H5) ts.dropLast T0 := Paired.mono (fun _ _ h => h.keep k5) hpr0
    have hF5 : Paired (Wt X H5) fs F := Paired.mono (fun _ _ h => h.keep k5) hf2
    have w1 := k5 _ _ x1 hw1
    have w2 := k5 _ _ x2 hw2
    have w3 := k5 _ _ x3 hw3
    clear hH5
    have hl0 : ∀ {σ : L2.St} {H'' : Hp}, (∀ p o, ¬ X p → H5 p = some o → H'' p = some o) → σ[4]? = some (some (.ref t)) → Ev (tOp (rIxT g.K) (tVar 4) (tC (.int 0))) σ H'' (.ref wa) ∧ Ev (tOp (rIxT g.K) (tVar 4) (tC (.int 1))) σ H'' (.ref wb) ∧ Ev (tOp (rIxL g.K) (tOp (rIxT g.K) (tVar 4) (tC (.int 0))) (tUn rNeg (tC (.int 1)))) σ H'' (nv la) := fun {σ H''} e h4 => by
      have g1 : Ev (tOp (rIxT g.K) (tVar 4) (tC (.int 0))) σ H'' (.ref wa) := ev_op (ev_var h4) ev_c (rv_ixT (st_of (e _ _ x1 w1)) (atI_nat (j := 0) rfl))
      refine ⟨g1, ev_op (ev_var h4) ev_c (rv_ixT (st_of (e _ _ x1 w1)) (atI_nat (j := 1) rfl)), ev_op g1 (ev_un ev_c ru_neg) (rv_ixL (xs := nvs W.1) (sq_of (e _ _ x2 w2)) ?_)⟩
      rw [hu]
      unfold nvs
      rw [List.map_append]
      exact atI_back1 _ _
    have hT0d : ∀ V ∈ T0, ∃ a, Dw N.ds V.1 V.2 a := fun V hV => hTd V (by rw [hTW]; exact List.mem_append_left _ hV)
    have ltd : ts.dropLast.length = T0.length := paired_len hT5
    have lfd : fs.length = F.length := paired_len hf2
    have htl : T0.length ≤ tw N.ds T0 := tw_len
    have hwp : 1 ≤ wt N.ds W.1 := wt_pos
    refine s_if (b := decide (la = r)) (et_is (et_test (ev_op (hl0 (fun _ _ _ h => h) rfl).2.2 (ev_var rfl) (rv_eq rfl))) (decide_eq_decide.mpr nvI)) (fun hb2 H6 e6 => ?_) (fun hb2 H6 e6 => ?_)
    · have hlr : la = r := of_decide_eq_true hb2
      subst hlr
      refine s_app (xs := fs.map V.ref) (e6 _ _ hfd5) (ev_var rfl) (ev_var rfl) (by rw [List.length_map, lfd]; omega) fun H7 e7 => ?_
      have k7 : ∀ p o, ¬ X p → H5 p = some o → (upd H7 fd (.lst (fs.map V.ref ++ [V.ref t]))) p = some o := fun p o hp ho => by
        rw [upd_ne ((hX2 p).mp hp).2]
        exact e7 _ _ (e6 _ _ ho)
      refine ⟨T0, F ++ [W], _, _, rfl, fun p o ho => k7 p o (hHX p o ho) (e5 _ _ ho), ⟨ts.dropLast, by rw [upd_ne ntf]; exact e7 _ _ (e6 _ _ htd5), Paired.mono (fun _ _ h => h.keep k7) hT5⟩, ⟨fs ++ [t], by rw [upd_same, List.map_append]; rfl, Paired.snoc (Wt.keep ⟨wa, wb, x1, x2, x3, w1, w2, w3⟩ k7) (Paired.mono (fun _ _ h => h.keep k7) hF5)⟩, hT0d, fun V hV => ?_, fun rs ks hD => ?_, ?_, by omega⟩
      · rcases List.mem_append.mp hV with hV | hV
        · exact hFd V hV
        · rw [List.mem_singleton.mp hV]
          exact hDw
      · rcases hall rs ks hD with h | ⟨V, hV, b, h1, h3⟩
        · exact .inl (List.mem_append_left _ h)
        · rw [hTW] at hV
          rcases List.mem_append.mp hV with hV | hV
          · exact .inr ⟨V, hV, b, h1, h3⟩
          · rw [List.mem_singleton.mp hV] at h1 h3
            rcases h3.end_ with ⟨z1, z2, _⟩ | z
            · refine .inl (List.mem_append_right _ (List.mem_singleton.mpr ?_))
              rw [z1, z2]
            · exact (z hDw.mem).elim
      · rw [List.length_append]
        show _ + 1 + _ ≤ _
        omega
    · have hlr : la ≠ r := of_decide_eq_false hb2
      have k6 : ∀ p o, ¬ X p → H5 p = some o → H6 p = some o := fun p o _ ho => e6 _ _ ho
      have hau : la ∉ u := fun z => by
        have := hDw.nd
        rw [hu] at this
        exact (List.nodup_append.mp this).2.2 la z la List.mem_cons_self rfl
      have hct : tw N.ds (chs N W.1 W.2 la N.ds.length) < wt N.ds W.1 := by
        rw [hu]
        exact chs_tw u hau
      refine s_forR1 (n := (N.ds.length : Int)) (ea_cons (ev_is (ev_len (ev_var rfl) (sq_of (e6 _ _ (e5 _ _ hxs)))) (by rw [hxl])) ea_nil) ⟨by omega, by omega⟩ (fun i σ' H' => ∃ (us : List Addr) (s5 : Option V), σ' = [some (.ref pl), some (nv r), some (.ref fd), some (.ref td), some (.ref t), s5] ∧ (∀ p o, ¬ X p → H5 p = some o → H' p = some o) ∧ H' td = some (.lst (us.map V.ref)) ∧ Paired (Wt X H') us (T0 ++ chs N W.1 W.2 la i) ∧ H' fd = some (.lst (fs.map V.ref)))
        (fun H7 e7 => ⟨ts.dropLast, _, rfl, fun p o hp ho => e7 _ _ (k6 p o hp ho), e7 _ _ (e6 _ _ htd5), by
          have : chs N W.1 W.2 la 0 = [] := rfl
          rw [this, List.append_nil]
          exact Paired.mono (fun _ _ h => h.keep fun p o hp ho => e7 _ _ (k6 p o hp ho)) hT5, e7 _ _ (e6 _ _ hfd5)⟩) (fun i σ' H' hi hP => ?_) (fun σ' H' hP => ?_)
      · obtain ⟨us, s5, rfl, kX, htdX, hus, hfdX⟩ := hP
        have hi2 : i < N.ds.length := by omega
        have eX : Ex H H' := fun p o ho => kX p o (hHX p o ho) (e5 _ _ ho)
        have hd := fun (H'' : Hp) (e : Ex H' H'') => ev_door (K := g.K) (N := N) (k := i) (σ := [some (V.ref pl), some (nv r), some (V.ref fd), some (V.ref td), some (V.ref t), some (nv i)]) (H := H'') (td := tVar 0) (ti := tVar 5) (ev_var rfl) (ev_var rfl) (hp.mono (eX.trans e)) hi2
        have hwl := fun (H'' : Hp) (e : Ex H' H'') => hl0 (σ := [some (V.ref pl), some (nv r), some (V.ref fd), some (V.ref td), some (V.ref t), some (nv i)]) (H'' := H'') (fun p o hp ho => e _ _ (kX p o hp ho)) rfl
        have hul : us.length = T0.length + (chs N W.1 W.2 la i).length := by
          rw [paired_len hus, List.length_append]
        have hcl : (chs N W.1 W.2 la i).length ≤ i := by
          unfold chs
          rw [List.length_map]
          exact filter_len _ _
        refine s_when (b := decide ((N.dr i).1 = la) && !decide ((N.dr i).2 ∈ W.1)) (et_and (et_is (et_test (ev_op (hd H' (Ex.refl _)).1 (hwl H' (Ex.refl _)).2.2 (rv_eq rfl))) (decide_eq_decide.mpr nvI)) fun _ => et_is (et_test (ev_op (hd H' (Ex.refl _)).2 (hwl H' (Ex.refl _)).1 (rv_niL (sq_of (kX _ _ x2 w2)) rfl (flat_nvs _)))) (by rw [in_nvs])) (fun hb3 H7 e7 => ?_) (fun hb3 H7 e7 => ?_)
        · have hW1l : W.1.length ≤ 50 := by
            have h1 := hDw.len
            have h2 := hDw.ks_nd.length_le_of_subset (l₂ := List.range N.ds.length) fun x hx => by
              obtain ⟨j, hj, e⟩ := List.mem_iff_getElem.mp hx
              obtain ⟨_, _, _, _, q⟩ := hDw.door (show W.2[j]? = some x by rw [List.getElem?_eq_getElem hj, e])
              exact List.mem_range.mpr (List.getElem?_eq_some_iff.mp q).1
            rw [List.length_range] at h2
            omega
          have hc1 : EvL (tOp rCat (tOp (rIxT g.K) (tVar 4) (tC (.int 0))) (tLst (tCons (tOp (rIxT g.K) (tOp (rIxL g.K) (tVar 0) (tVar 5)) (tC (.int 1))) tNil))) [some (V.ref pl), some (nv r), some (V.ref fd), some (V.ref td), some (V.ref t), some (nv i)] H7 (nvs (W.1 ++ [(N.dr i).2])) := by
            have := el_catL (hwl H7 e7).1 (el_lst (ea_cons (hd H7 e7).2 ea_nil) (by show 1 ≤ 100000; decide)) (e7 _ _ (kX _ _ x2 w2)) (by rw [List.length_map]; show _ + 1 ≤ 100000; omega)
            rw [nvs_snocS] at this
            exact this
          have hc2 : EvL (tOp rCat (tOp (rIxT g.K) (tVar 4) (tC (.int 1))) (tLst (tCons (tVar 5) tNil))) [some (V.ref pl), some (nv r), some (V.ref fd), some (V.ref td), some (V.ref t), some (nv i)] H7 (nvs (W.2 ++ [i])) := by
            have := el_catL (tb := tLst (tCons (tVar 5) tNil)) (hwl H7 e7).2.1 (el_lst (vs := [nv i]) (ea_cons (ev_var rfl) ea_nil) (by show 1 ≤ 100000; decide)) (e7 _ _ (kX _ _ x3 w3)) (by have := hDw.len; rw [List.length_map]; show _ + 1 ≤ 100000; omega)
            rw [nvs_snocS] at this
            exact this
          refine s_appQ (xs := us.map V.ref) (e7 _ _ htdX) (ev_var rfl) (ep_tup2 (EvL.p hc1) (EvL.p hc2)) (by rw [List.length_map]; omega) fun v H8 H9 e8 e9 hv => ?_
          obtain ⟨tn, va, vb, Ha, Hb, rfl, htn, ⟨na, rfl, hna, hna2⟩, ⟨nb, rfl, hnb, hnb2⟩, ea', eb', htb', rfl⟩ := hv
          have htd8 := e8 _ _ (e7 _ _ htdX)
          have hfd8 := e8 _ _ (e7 _ _ hfdX)
          have fr : ∀ {q : Addr}, H8 q = none → ¬ X q := fun {q} hq => (hX2 q).mpr ⟨(fun z => by rw [z, htd8] at hq; cases hq), (fun z => by rw [z, hfd8] at hq; cases hq)⟩
          have xtn := fr htn
          have xna := fr hna
          have xnb := fr (fresh_back ea' hnb)
          have nna : na ≠ tn := fun z => by rw [← z, eb' _ _ hna2] at htb'; cases htb'
          have nnb : nb ≠ tn := fun z => by rw [← z, hnb2] at htb'; cases htb'
          have k9 : ∀ p o, ¬ X p → H' p = some o → (upd (upd Hb tn (.tup [V.ref na, V.ref nb])) td (.lst (us.map V.ref ++ [V.ref tn]))) p = some o := fun p o hp ho => by
            rw [upd_ne ((hX2 p).mp hp).1]
            exact e9 _ _ (e8 _ _ (e7 _ _ ho))
          refine ⟨us ++ [tn], _, rfl, fun p o hp ho => k9 p o hp (kX p o hp ho), by rw [upd_same, List.map_append]; rfl, ?_, by rw [upd_ne (Ne.symm ntf)]; exact e9 _ _ hfd8⟩
          rw [chs_succ, if_pos hb3, ← List.append_assoc]
          refine Paired.snoc ⟨na, nb, xtn, xna, xnb, ?_, ?_, ?_⟩ (Paired.mono (fun _ _ h => h.keep k9) hus)
          · rw [upd_ne ((hX2 tn).mp xtn).1, upd_same]
          · rw [upd_ne ((hX2 na).mp xna).1, upd_ne nna]
            exact eb' _ _ hna2
          · rw [upd_ne ((hX2 nb).mp xnb).1, upd_ne nnb]
            exact hnb2
        · refine ⟨us, _, rfl, fun p o hp ho => e7 _ _ (kX p o hp ho), e7 _ _ htdX, ?_, e7 _ _ hfdX⟩
          rw [chs_succ, if_neg (by rw [hb3]; decide)]
          exact Paired.mono (fun _ _ h => h.keep fun p o _ ho => e7 _ _ ho) hus
      · obtain ⟨us, s5, rfl, kX, htdX, hus, hfdX⟩ := hP
        rw [Int.toNat_natCast] at hus
        refine ⟨T0 ++ chs N W.1 W.2 la N.ds.length, F, _, _, rfl, fun p o ho => kX p o (hHX p o ho) (e5 _ _ ho), ⟨us, htdX, hus⟩, ⟨fs, hfdX, Paired.mono (fun _ _ h => h.keep kX) hF5⟩, fun V hV => ?_, hFd, fun rs ks hD => ?_, ?_, ?_⟩
        · rcases List.mem_append.mp hV with hV | hV
          · exact hT0d V hV
          · unfold chs at hV
            obtain ⟨i, hi, rfl⟩ := List.mem_map.mp hV
            obtain ⟨hi1, hi2⟩ := List.mem_filter.mp hi
            rw [Bool.and_eq_true, decide_eq_true_iff, Bool.not_eq_true', decide_eq_false_iff_not] at hi2
            have := dr_at (N := N) (List.mem_range.mp hi1)
            exact ⟨_, hDw.snoc (k := i) (b := (N.dr i).2) (by rw [this, ← hi2.1]) hi2.2⟩
        · rcases hall rs ks hD with h | ⟨V, hV, b, h1, h3⟩
          · exact .inl h
          · rw [hTW] at hV
            rcases List.mem_append.mp hV with hV | hV
            · exact .inr ⟨V, List.mem_append_left _ hV, b, h1, h3⟩
            · rw [List.mem_singleton.mp hV] at h1 h3
              have hbl : b = la := by
                obtain ⟨u1, hu1⟩ := h1.last
                rw [hu] at hu1
                have := (List.append_inj' hu1 rfl).2
                exact (List.cons.inj this).1.symm
              subst hbl
              cases h3 with
              | done => exact (hlr rfl).elim
              | @step _ _ _ _ _ c i _ q1 q2 q3 =>
                have hil := (List.getElem?_eq_some_iff.mp q1).1
                have hdi : N.dr i = (b, c) := by
                  have := dr_at (N := N) hil
                  rw [this] at q1
                  exact Option.some.inj q1
                refine .inr ⟨(W.1 ++ [c], W.2 ++ [i]), List.mem_append_right _ ?_, c, h1.snoc q1 q2, q3⟩
                unfold chs
                refine List.mem_map.mpr ⟨i, List.mem_filter.mpr ⟨List.mem_range.mpr hil, ?_⟩, by rw [hdi]⟩
                rw [hdi]
                simp [q2]
        · rw [tw_append]
          omega
        · rw [tw_append]
          omega
  · have hT0 : T = [] := by
      cases T with
      | nil => rfl
      | cons _ _ => cases hb
    subst hT0
    refine s_ret (ev_var rfl) fun H5 e5 => k F fd H5 ((eH.trans e4).trans e5) ⟨hFd, fun rs ks hD => ?_⟩ (by omega) ⟨fs, e5 _ _ (e4 _ _ hf1), Paired.mono (fun t W ⟨a, b, _, _, _, q1, q2, q3⟩ => ⟨a, b, id, id, id, e5 _ _ (e4 _ _ q1), e5 _ _ (e4 _ _ q2), e5 _ _ (e4 _ _ q3)⟩) hf2⟩
    rcases hall rs ks hD with h | ⟨W, hW, _⟩
    · exact h
    · cases hW
end
end Mp

/-! Law k10: all rings, gone through. -/
namespace Mp
open PySem L2 Evl
section
variable {N : Nt} {T T0 F : List (List Nat)} {C w : List Nat} {h p : Nat}
def wr (C : List Nat) : Nat := 6 ^ (6 - C.length)
def tr (T : List (List Nat)) : Nat := (T.map wr).sum
theorem tr_append {T U : List (List Nat)} : tr (T ++ U) = tr T + tr U := by
  unfold tr
  rw [List.map_append, List.sum_append]
theorem tr_all (m : Nat) : ∀ T : List (List Nat), (∀ C ∈ T, wr C = m) → tr T = T.length * m := by
  intro T
  induction T with
  | nil => intro _; simp [tr]
  | cons C T ih =>
    intro hT
    have e : tr (C :: T) = wr C + tr T := rfl
    rw [e, hT C List.mem_cons_self, ih fun V hV => hT V (List.mem_cons_of_mem _ hV), List.length_cons, Nat.add_mul]
    omega
theorem wr_pos : 1 ≤ wr C := Nat.pos_of_ne_zero (by unfold wr; exact Nat.ne_of_gt (Nat.pow_pos (by decide)))
theorem tr_len {T : List (List Nat)} : T.length ≤ tr T := by
  induction T with
  | nil => exact Nat.zero_le _
  | cons W T ih =>
    have := wr_pos (C := W)
    show T.length + 1 ≤ wr W + (T.map wr).sum
    have : T.length ≤ (T.map wr).sum := ih
    omega
theorem tr_start (hn : N.n ≤ 5) : tr (N.there.map fun k => [k]) ≤ 38880 := by
  rw [tr_all (6 ^ 5) _ fun C hC => by
    obtain ⟨k, _, rfl⟩ := List.mem_map.mp hC
    rfl]
  rw [List.length_map]
  have h1 : N.there.length ≤ N.n := filter_len _ _
  have : N.there.length ≤ 5 := by omega
  have := Nat.mul_le_mul_right (6 ^ 5) this
  show _ * 7776 ≤ 38880
  have e : 6 ^ 5 = 7776 := rfl
  rw [e] at this
  omega
/-- the trails that go on by some rooms -/
def kids (C : List Nat) (h : Nat) (A : List Nat) : List (List Nat) := (A.filter fun x => !decide (x ∈ C) && decide (h < x)).map fun x => C ++ [x]
def ends (C : List Nat) (h : Nat) (A : List Nat) : List (List Nat) := (A.filter fun x => decide (x = h)).map fun _ => C
theorem trl_len (hn : N.n ≤ 5) (hN : N.Ok) (hC : Trl N.ds N.n C) : C.length ≤ 5 := by
  obtain ⟨h, w, p, _, _, nd, _, hr⟩ := hC.ex
  have h1 := nd.length_le_of_subset (l₂ := List.range N.n) fun x hx => List.mem_range.mpr ((hr x hx).lt hN.pos hN.ends)
  rw [List.length_range] at h1
  omega
theorem kids_tr (hl : C.length ≤ 5) (hn : N.n ≤ 5) : (ends C h (N.ahead p)).length + tr (kids C h (N.ahead p)) ≤ wr C ∧ tr (kids C h (N.ahead p)) < wr C ∧ (ends C h (N.ahead p)).length ≤ 1 := by
  have h1 : (ends C h (N.ahead p)).length ≤ 1 := by
    unfold ends
    rw [List.length_map]
    have nd : (N.ahead p).Nodup := List.nodup_range.filter _
    have nd2 : ((N.ahead p).filter fun x => decide (x = h)).Nodup := nd.filter _
    have := nd2.length_le_of_subset (l₂ := [h]) fun x hx => List.mem_singleton.mpr (of_decide_eq_true (List.mem_filter.mp hx).2)
    exact this
  have h2 : (kids C h (N.ahead p)).length ≤ 5 := by
    unfold kids
    rw [List.length_map]
    have q1 := List.length_filter_le (fun x => !decide (x ∈ C) && decide (h < x)) (N.ahead p)
    have q2 : (N.ahead p).length ≤ N.n := filter_len _ _
    omega
  have h3 : tr (kids C h (N.ahead p)) = (kids C h (N.ahead p)).length * 6 ^ (5 - C.length) := tr_all _ _ fun D hD => by
    unfold kids at hD
    obtain ⟨x, _, rfl⟩ := List.mem_map.mp hD
    unfold wr
    rw [List.length_append]
    congr 1
    simp
  have h4 : wr C = 6 * 6 ^ (5 - C.length) := by
    unfold wr
    have : 6 - C.length = (5 - C.length) + 1 := by omega
    rw [this, Nat.pow_succ, Nat.mul_comm]
  have h5 : 1 ≤ 6 ^ (5 - C.length) := Nat.pow_pos (by decide)
  have h6 := Nat.mul_le_mul_right (6 ^ (5 - C.length)) h2
  omega
theorem rings_start (hN : N.Ok) : (∀ C ∈ N.there.map fun k => [k], Trl N.ds N.n C) ∧ ∀ C, Lr N.ds C → ∃ P ∈ N.there.map (fun k => [k]), P <+: C := by
  constructor
  · intro C hC
    obtain ⟨k, hk, rfl⟩ := List.mem_map.mp hC
    exact ⟨k, [], k, rfl, .one neg_ne, by simp, (fun x hx => by cases hx), fun x hx => by
      rw [List.mem_singleton.mp hx]
      exact (mem_there hN).mp hk⟩
  · intro C hC
    obtain ⟨h, w, p, rfl, _, _, _, _, hr⟩ := hC.ex
    exact ⟨[h], List.mem_map.mpr ⟨h, (mem_there hN).mpr (hr h List.mem_cons_self), rfl⟩, w, rfl⟩
theorem mem_ahead (hN : N.Ok) {x : Nat} : x ∈ N.ahead p ↔ (p, x) ∈ N.ds := by
  unfold Nt.ahead
  rw [List.mem_filter, decide_eq_true_iff, List.mem_range]
  exact ⟨fun z => z.2, fun z => ⟨(hN.ends _ z).2, z⟩⟩
theorem pth_pre {ds : DL} {s : Int} {a b p x : Nat} {w rest : List Nat} (h : Pth ds s a w b) : w = C ++ x :: rest → C.getLast? = some p → (p, x) ∈ ds := fun e hl => by
  obtain ⟨u, hu⟩ := List.getLast?_eq_some_iff.mp hl
  subst hu
  have h1 : w[u.length]? = some p := by rw [e]; simp
  have h2 : w[u.length + 1]? = some x := by rw [e]; simp
  exact h.at h1 h2
theorem rings_step (hN : N.Ok) (hC : C = h :: w) (hp : Pth N.ds (-1) h C p) (nd : C.Nodup) (hmin : ∀ x ∈ w, h < x) (hr : ∀ x ∈ C, Rch N.ds (-1) x) (hF : ∀ D ∈ F, Lr N.ds D) (hT : ∀ D ∈ T0, Trl N.ds N.n D) (hall : ∀ D, Lr N.ds D → D ∈ F ∨ ∃ P ∈ T0 ++ [C], P <+: D) :
    (∀ D ∈ F ++ ends C h (N.ahead p), Lr N.ds D) ∧ (∀ D ∈ T0 ++ kids C h (N.ahead p), Trl N.ds N.n D) ∧ ∀ D, Lr N.ds D → D ∈ F ++ ends C h (N.ahead p) ∨ ∃ P ∈ T0 ++ kids C h (N.ahead p), P <+: D := by
  refine ⟨fun D hD => ?_, fun D hD => ?_, fun D hD => ?_⟩
  · rcases List.mem_append.mp hD with hD | hD
    · exact hF D hD
    · unfold ends at hD
      obtain ⟨x, hx, rfl⟩ := List.mem_map.mp hD
      obtain ⟨h1, h2⟩ := List.mem_filter.mp hx
      have e : x = h := of_decide_eq_true h2
      subst e
      exact ⟨x, w, p, hC, hp, (mem_ahead hN).mp h1, nd, hmin, hr⟩
  · rcases List.mem_append.mp hD with hD | hD
    · exact hT D hD
    · unfold kids at hD
      obtain ⟨x, hx, rfl⟩ := List.mem_map.mp hD
      obtain ⟨h1, h2⟩ := List.mem_filter.mp hx
      rw [Bool.and_eq_true, Bool.not_eq_true', decide_eq_false_iff_not, decide_eq_true_iff] at h2
      have hd := (mem_ahead hN).mp h1
      refine ⟨h, w ++ [x], x, by rw [hC]; rfl, hp.snoc hd neg_ne, List.nodup_append.mpr ⟨nd, by simp, fun a ha b hb e => h2.1 (by rw [List.mem_singleton.mp hb] at e; exact e ▸ ha)⟩, fun y hy => ?_, fun y hy => ?_⟩
      · rcases List.mem_append.mp hy with hy | hy
        · exact hmin y hy
        · rw [List.mem_singleton.mp hy]
          exact h2.2
      · rcases List.mem_append.mp hy with hy | hy
        · exact hr y hy
        · rw [List.mem_singleton.mp hy]
          exact (hr p hp.mem_last).next hd
  · rcases hall D hD with hm | ⟨P, hP, hpre⟩
    · exact .inl (List.mem_append_left _ hm)
    · rcases List.mem_append.mp hP with hP | hP
      · exact .inr ⟨P, List.mem_append_left _ hP, hpre⟩
      · rw [List.mem_singleton.mp hP] at hpre
        obtain ⟨rest, hrest⟩ := hpre
        obtain ⟨h', w', p', e1, hp', hcl, nd', hmin', hr'⟩ := hD.ex
        have hh : h' = h := by
          rw [← hrest, hC] at e1
          exact (List.cons.inj e1).1.symm
        subst hh
        cases rest with
        | nil =>
          rw [List.append_nil] at hrest
          subst hrest
          have hpp : p' = p := by
            have q1 := hp'.last
            rw [hp.last] at q1
            exact (Option.some.inj q1).symm
          subst hpp
          refine .inl (List.mem_append_right _ ?_)
          unfold ends
          exact List.mem_map.mpr ⟨h', List.mem_filter.mpr ⟨(mem_ahead hN).mpr hcl, decide_eq_true rfl⟩, rfl⟩
        | cons x rest =>
          refine .inr ⟨C ++ [x], List.mem_append_right _ ?_, rest, by rw [List.append_assoc]; exact hrest⟩
          unfold kids
          refine List.mem_map.mpr ⟨x, List.mem_filter.mpr ⟨(mem_ahead hN).mpr (pth_pre hp' hrest.symm hp.last), ?_⟩, rfl⟩
          rw [Bool.and_eq_true, Bool.not_eq_true', decide_eq_false_iff_not, decide_eq_true_iff]
          rw [← hrest] at nd'
          refine ⟨fun z => (List.nodup_append.mp nd').2.2 x z x List.mem_cons_self rfl, hmin' x ?_⟩
          have : w' = w ++ x :: rest := by
            rw [← hrest, hC] at e1
            exact (List.cons.inj e1).2.symm
          rw [this]
          exact List.mem_append_right _ List.mem_cons_self
theorem rings_end (hF : ∀ D ∈ F, Lr N.ds D) (hall : ∀ D, Lr N.ds D → D ∈ F) : RingsOf N.ds F := by
  refine ⟨fun C hC => (hF C hC).ring, fun C hC hr => ?_⟩
  obtain ⟨D, h1, h2⟩ := hC.lr hr
  exact ⟨D, hall D h1, h2⟩
end
/-! ### the walk -/
def Tr (X : Addr → Prop) (H : Hp) (a : Addr) (C : List Nat) : Prop := ¬ X a ∧ H a = some (.lst (nvs C))
theorem Tr.keep {X : Addr → Prop} {H H' : Hp} {t : Addr} {C : List Nat} (h : Tr X H t C) (e : ∀ p o, ¬ X p → H p = some o → H' p = some o) : Tr X H' t C := ⟨h.1, e _ _ h.1 h.2⟩
def sp__law_rings (g : Gb) : Sp := fun vs H Q _ => ∃ (pl tl : Addr) (N : Nt), vs = [.ref pl, .ref tl] ∧ N.Ok ∧ N.n ≤ 5 ∧ PLt H pl (N.ds.map zp) ∧ H tl = some (.lst (bls N.n (rch N.ds (-1)))) ∧ ∀ F q H2, Ex H H2 → RingsOf N.ds F → F.length ≤ 38880 → Rows H2 q F → Q (.ref q) H2
/-! _law_rings: slots 0 pairs 1 there 2 found 3 todo 4 k 5 trail 6 to 7 pair -/
def t__law_rings_b1 (g : Gb)  : TS := tIfS (tTest (tOp rEq (tVar 6) (tOp (rIxL g.K) (tVar 5) (tC (.int 0))))) (tDrop (tBM g.K "list" rAppend (tVar 2) (tCons (tVar 5) tNil))) (tIfS (tAnd (tTest (tOp (rIn g.K true) (tVar 6) (tVar 5))) (tTest (tOp rGtI (tVar 6) (tOp (rIxL g.K) (tVar 5) (tC (.int 0)))))) (tDrop (tBM g.K "list" rAppend (tVar 3) (tCons (tOp rCat (tVar 5) (tLst (tCons (tVar 6) tNil))) tNil))) tNext)
def t__law_rings_b2 (g : Gb)  : TS := tSeq (tAsg (tBM0 g.K "list" rPop (tVar 3)) (gName 5))
  (tFor (iList g.K (tCB (rSortedSet g.w) (tCons (tCB (rSetOf g.K g.w) (tCons (tLc (iList g.K (tVar 0)) (gName 7) (tTest (tOp rEq (tOp (rIxT g.K) (tVar 7) (tC (.int 0))) (tOp (rIxL g.K) (tVar 5) (tUn rNeg (tC (.int 1)))))) (tOp (rIxT g.K) (tVar 7) (tC (.int 1))) [7]) tNil)) tNil))) (gName 6) (t__law_rings_b1 g))
def t__law_rings (g : Gb) : TS := tSeq (tAsg (tLst tNil) (gName 2))
  (tSeq (tAsg (tLc (iRng1 (tCons (tCB (rLenS g.K) (tCons (tVar 1) tNil)) tNil)) (gName 4) (tB (tOp (rIxL g.K) (tVar 1) (tVar 4))) (tLst (tCons (tVar 4) tNil)) [4]) (gName 3))
  (tSeq (tWhile (tTest (tOp rGtI (tCB (rLenS g.K) (tCons (tVar 3) tNil)) (tC (.int 0)))) (t__law_rings_b2 g))
  (tRet (tVar 2))))
abbrev N__law_rings : List Str := ["pairs", "there", "found", "todo", "k", "trail", "to", "pair"]

section
variable {g : Gb} {σ : L2.St} {H H' B : Hp} {D : Ends} {E : XK} {Q : VK} {vs : List V} {p : Addr} {N : Nt} {te tn tr' ta tb td ti tm tl to tx : TE} {K : PySem.W.Frag} {r k o : Nat} {tz : TS}
theorem paired_of_map {α β γ : Type} {F : α → γ → Prop} {f : β → γ} : ∀ {l : List α} {m : List β}, Paired F l (m.map f) → Paired (fun a b => F a (f b)) l m
  | [], [], _ => .nil
  | _ :: _, [], h => by cases h
  | [], _ :: _, h => by cases h
  | a :: as, d :: ds, .cons r t => .cons r (paired_of_map t)
theorem paired_to_map {α β γ : Type} {F : α → γ → Prop} {f : β → γ} : ∀ {l : List α} {m : List β}, Paired (fun a b => F a (f b)) l m → Paired F l (m.map f)
  | _, _, .nil => .nil
  | _, _, .cons r t => .cons r (paired_to_map t)
/-- sorted(set([pair[1] for pair in pairs if pair[0] == x])) -/
theorem el_ahead {w : World} {l : Addr} {jl jv : Nat} (hN : N.Ok) (hl : PL K B l (N.ds.map zp)) (h2 : σ[jl]? = some (some (.ref l))) (hw : ∀ x, wipe ((wipe σ [jv]).set jv (some x)) [jv] = wipe σ [jv]) (hv : ∀ x, ((wipe σ [jv]).set jv (some x))[jv]? = some (some x)) (hr : ∀ x H1, Ex B H1 → Ev tx ((wipe σ [jv]).set jv (some x)) H1 (nv r)) :
    EvL (tCB (rSortedSet w) (tCons (tCB (rSetOf K w) (tCons (tLc (iList K (tVar jl)) (gName jv) (tTest (tOp rEq (tOp (rIxT K) (tVar jv) (tC (.int 0))) tx)) (tOp (rIxT K) (tVar jv) (tC (.int 1))) [jv]) tNil)) tNil)) σ B (nvs (N.ahead r)) := by
  obtain ⟨as, hs, hp⟩ := hl
  have hfew := hN.few
  have hmost := hN.most
  have hp2 : Paired (fun x (d : Nat × Nat) => ∃ a, x = V.ref a ∧ B a = some (.tup [nv d.1, nv d.2])) (as.map V.ref) N.ds := refs_paired hp
  have key : EvL (tLc (iList K (tVar jl)) (gName jv) (tTest (tOp rEq (tOp (rIxT K) (tVar jv) (tC (.int 0))) tx)) (tOp (rIxT K) (tVar jv) (tC (.int 1))) [jv]) σ B
      (((N.ds.filter fun d => decide (nv d.1 = nv r)).map fun d => ((d.2 : Nat) : Int)).map V.int) := by
    rw [List.map_map]
    refine el_lc (R := fun (d : Nat × Nat) x => ∃ a, x = V.ref a ∧ B a = some (.tup [nv d.1, nv d.2])) (fun d => decide (nv d.1 = nv r)) _ (ei_list (ev_var h2) hs hp2) (by omega) hw (fun d x H1 _ hx e1 => ?_) (fun d x H1 _ hx e1 _ => ?_)
    · obtain ⟨a, rfl, ha⟩ := hx
      exact et_test (ev_op (ev_op (ev_var (hv _)) ev_c (rv_ixT (st_of (e1 _ _ ha)) rfl)) (hr _ _ e1) (rv_eq rfl))
    · obtain ⟨a, rfl, ha⟩ := hx
      exact ev_op (ev_var (hv _)) ev_c (rv_ixT (st_of (e1 _ _ ha)) rfl)
  have hlen2 := List.length_filter_le (fun d : Nat × Nat => decide (nv d.1 = nv r)) N.ds
  have fin := el_sset (K := K) (w := w) key (by rw [List.length_map]; omega) (m := N.n) (by omega) (by
    intro k hk
    obtain ⟨d, hd, rfl⟩ := List.mem_map.mp hk
    have := hN.ends d (List.mem_filter.mp hd).1
    omega)
  have e : (rising N.n ((N.ds.filter fun d => decide (nv d.1 = nv r)).map fun d => ((d.2 : Nat) : Int))) = N.ahead r := by
    refine List.filter_congr fun j _ => ?_
    show decide _ = decide ((r, j) ∈ N.ds)
    refine decide_eq_decide.mpr ⟨fun h => ?_, fun h => ?_⟩
    · obtain ⟨d, hd, e⟩ := List.mem_map.mp h
      obtain ⟨h1, h2⟩ := List.mem_filter.mp hd
      have h3 : nv d.1 = nv r := of_decide_eq_true h2
      have h4 : ((d.1 : Nat) : Int) = r := V.int.inj h3
      have h5 : ((d.2 : Nat) : Int) = j := e
      have h6 : d = (r, j) := Prod.ext (by omega) (by omega)
      exact h6 ▸ h1
    · exact List.mem_map.mpr ⟨(r, j), List.mem_filter.mpr ⟨h, decide_eq_true rfl⟩, rfl⟩
  rw [e] at fin
  exact fin
theorem pure__law_rings (h : sp__law_rings g vs H Q E) : t__law_rings g { nx := fun _ H' => Q .non H', rt := Q } (start N__law_rings vs) H := by
  obtain ⟨pl, tl, N, rfl, hN, hn5, hp, ht, k⟩ := h
  refine q_asgL (el_lst ea_nil (Nat.zero_le _)) fun fd H1 hfd e1 hfd1 => ?_
  refine a_asgP (ep_lcL (l := List.range N.n) (R := fun (k : Nat) x => x = nv k) (fun k => rch N.ds (-1) k) (fun k => nvs [k]) (ei_range (ea_cons (ev_is (ev_len (ev_var rfl) (sq_of (e1 _ _ ht))) (by rw [bls_len])) ea_nil) (by omega)) (by rw [List.length_range]; omega) (fun _ => rfl) (fun k x H2 hk hx e2 => by
      subst hx
      exact et_B (ev_bl (ev_var rfl) (ev_var rfl) (e2 _ _ (e1 _ _ ht)) (List.mem_range.mp hk))) (fun k x H2 hk hx e2 _ => by
      subst hx
      exact el_lst (vs := [nv k]) (ea_cons (ev_var rfl) ea_nil) (by show 1 ≤ 100000; decide))) fun v H2 e2 hv => ?_
  obtain ⟨td, as, rfl, htd, htd2, has⟩ := hv
  have has : Paired (fun a (k : Nat) => H1 a = none ∧ a ≠ td ∧ H2 a = some (.lst (nvs [k]))) as N.there := paired_of_map has
  have nfd : ∀ {q : Addr}, H1 q = none → q ≠ fd := fun {q} hq z => by rw [z, hfd1] at hq; cases hq
  obtain ⟨X, hX⟩ : ∃ X : Addr → Prop, X = fun p => p = td ∨ p = fd := ⟨_, rfl⟩
  have ntf : td ≠ fd := nfd htd
  have hX2 : ∀ p, ¬ X p ↔ p ≠ td ∧ p ≠ fd := fun p => by
    rw [hX]
    exact not_or
  have hHX : ∀ p o, H p = some o → ¬ X p := fun p o hpo => by
    rw [hX]
    rintro (z | z)
    · have := e1 _ _ hpo
      rw [z, htd] at this
      cases this
    · rw [z, hfd] at hpo
      cases hpo
  have has2 : Paired (Tr X H2) as (N.there.map fun k => [k]) := paired_to_map (Paired.mono (fun a k q => ⟨(hX2 a).mpr ⟨q.2.1, nfd q.1⟩, q.2.2⟩) has)
  have e02 : Ex H H2 := e1.trans e2
  obtain ⟨rs1, rs2⟩ := rings_start hN
  refine q_while (fun m σ' H' => ∃ (T F : List (List Nat)) (ts fs : List Addr) (s5 s6 : Option V), σ' = [some (.ref pl), some (.ref tl), some (.ref fd), some (.ref td), none, s5, s6, none] ∧ Ex H H' ∧ H' td = some (.lst (ts.map V.ref)) ∧ Paired (Tr X H') ts T ∧ H' fd = some (.lst (fs.map V.ref)) ∧ Paired (Tr X H') fs F ∧ (∀ C ∈ F, Lr N.ds C) ∧ (∀ C ∈ T, Trl N.ds N.n C) ∧ (∀ C, Lr N.ds C → C ∈ F ∨ ∃ P ∈ T, P <+: C) ∧ F.length + tr T ≤ 38880 ∧ m = tr T) (tr (N.there.map fun k => [k]))
    ⟨_, [], as, [], _, _, rfl, e02, htd2, has2, e2 _ _ hfd1, .nil, (fun C hC => by cases hC), rs1, fun C hC => .inr (rs2 C hC), by
      have := tr_start (N := N) hn5
      show 0 + _ ≤ 38880
      omega, rfl⟩ fun m σ' H' hW => ?_
  obtain ⟨T, F, ts, fs, s5, s6, rfl, eH, ht1, ht2, hf1, hf2, hFd, hTd, hall, hsz, rfl⟩ := hW
  have lts : ts.length = T.length := paired_len ht2
  refine ⟨decide (0 < T.length), et_is (et_test (ev_op (ev_len (ev_var rfl) (sq_of ht1)) ev_c rv_I0)) (by rw [List.length_map, lts]; exact decide_eq_decide.mpr ⟨fun h => by omega, fun h => by omega⟩), fun hb H4 e4 => ?_, fun hb H4 e4 => ?_⟩
  · have hne : T ≠ [] := fun z => by rw [z] at hb; cases hb
    obtain ⟨t, C, hlast, hTW, hWt⟩ := paired_last ht2 hne
    obtain ⟨T0, hT0⟩ : ∃ T0, T0 = T.dropLast := ⟨_, rfl⟩
    rw [← hT0] at hTW
    have htwT : tr T = tr T0 + wr C := by
      rw [hTW, tr_append]
      rfl
    have hpr0 : Paired (Tr X H') ts.dropLast T0 := by rw [hT0]; exact paired_dropLast ht2
    have hCT : Trl N.ds N.n C := hTd C (by rw [hTW]; exact List.mem_append_right _ List.mem_cons_self)
    have hCl := trl_len hn5 hN hCT
    obtain ⟨h, w, la, hC, hpth, nd, hmin, hr⟩ := hCT.ex
    obtain ⟨u, hu⟩ : ∃ u, C = u ++ [la] := List.getLast?_eq_some_iff.mp hpth.last
    obtain ⟨xt, hwt⟩ := hWt
    obtain ⟨A, hA⟩ : ∃ A, A = N.ahead la := ⟨_, rfl⟩
    have hAl : A.length ≤ N.n := by rw [hA]; exact filter_len _ _
    obtain ⟨k1, k2, k3⟩ := kids_tr (N := N) (h := h) (p := la) hCl hn5
    obtain ⟨r1, r2, r3⟩ := rings_step (F := F) (T0 := T0) hN hC hpth nd hmin hr hFd (fun D hD => hTd D (by rw [hTW]; exact List.mem_append_left _ hD)) (by rw [← hTW]; exact hall)
    rw [← hA] at k1 k2 k3 r1 r2 r3
    have lfs : fs.length = F.length := paired_len hf2
    have htl : T0.length ≤ tr T0 := tr_len
    refine ⟨fun σ2 H2 => ∃ (T F : List (List Nat)) (ts fs : List Addr) (s5 s6 : Option V), σ2 = [some (.ref pl), some (.ref tl), some (.ref fd), some (.ref td), none, s5, s6, none] ∧ Ex H H2 ∧ H2 td = some (.lst (ts.map V.ref)) ∧ Paired (Tr X H2) ts T ∧ H2 fd = some (.lst (fs.map V.ref)) ∧ Paired (Tr X H2) fs F ∧ (∀ C ∈ F, Lr N.ds C) ∧ (∀ C ∈ T, Trl N.ds N.n C) ∧ (∀ C, Lr N.ds C → C ∈ F ∨ ∃ P ∈ T, P <+: C) ∧ F.length + tr T ≤ 38880 ∧ tr T < tr T0 + wr C, fun σ2 H2 hX => ?_, ?_⟩
    · obtain ⟨T2, F2, ts2, fs2, s5, s6, q1, q2, q3, q4, q5, q6, q7, q8, q9, q10, q11⟩ := hX
      exact ⟨tr T2, by omega, T2, F2, ts2, fs2, s5, s6, q1, q2, q3, q4, q5, q6, q7, q8, q9, q10, rfl⟩
    -- trail = todo.pop()
    refine ⟨_, rfl, Or.inl ⟨rfl, _, sq_of (e4 _ _ ht1)⟩, td, ts.map V.ref, .ref t, rfl, rfl, e4 _ _ ht1, by rw [List.length_map, List.getElem?_map, hlast]; rfl, ?_⟩
    obtain ⟨H5, hH5⟩ : ∃ H5, H5 = upd H4 td (.lst (ts.map V.ref).dropLast) := ⟨_, rfl⟩
    rw [← hH5]
    have k5 : ∀ p o, ¬ X p → H' p = some o → H5 p = some o := fun p o hp ho => by
      rw [hH5, upd_ne ((hX2 p).mp hp).1]
      exact e4 _ _ ho
    have e5 : Ex H H5 := fun p o ho => k5 p o (hHX p o ho) (eH _ _ ho)
    have htd5 : H5 td = some (.lst (ts.dropLast.map V.ref)) := by rw [hH5, upd_same, List.map_dropLast]
    have hfd5 : H5 fd = some (.lst (fs.map V.ref)) := by
      rw [hH5, upd_ne (Ne.symm ntf)]
      exact e4 _ _ hf1
    have hT5 : Paired (Tr X H5) ts.dropLast T0 := Paired.mono (fun _ _ h => h.keep k5) hpr0
    have hF5 : Paired (Tr X H5) fs F := Paired.mono (fun _ _ h => h.keep k5) hf2
    have w5 := k5 _ _ xt hwt
    clear hH5
    have hlast : ∀ {σ : L2.St} {H'' : Hp}, (∀ p o, ¬ X p → H5 p = some o → H'' p = some o) → σ[5]? = some (some (.ref t)) → Ev (tOp (rIxL g.K) (tVar 5) (tUn rNeg (tC (.int 1)))) σ H'' (nv la) := fun {σ H''} e h5 => by
      refine ev_op (ev_var h5) (ev_un ev_c ru_neg) (rv_ixL (xs := nvs C) (sq_of (e _ _ xt w5)) ?_)
      rw [hu]
      unfold nvs
      rw [List.map_append]
      exact atI_back1 _ _
    have hfirst : ∀ {σ : L2.St} {H'' : Hp}, (∀ p o, ¬ X p → H5 p = some o → H'' p = some o) → σ[5]? = some (some (.ref t)) → Ev (tOp (rIxL g.K) (tVar 5) (tC (.int 0))) σ H'' (nv h) := fun {σ H''} e h5 => by
      refine ev_op (ev_var h5) ev_c (rv_ixL (xs := nvs C) (sq_of (e _ _ xt w5)) (atI_nat (j := 0) ?_))
      rw [hC]
      rfl
    have hAe := el_ahead (K := g.K) (w := g.w) (B := H5) (σ := [some (V.ref pl), some (V.ref tl), some (V.ref fd), some (V.ref td), none, some (V.ref t), s6, none]) (l := pl) (jl := 0) (jv := 7) (r := la) (tx := tOp (rIxL g.K) (tVar 5) (tUn rNeg (tC (.int 1)))) hN (hp.mono e5).pl rfl (fun _ => rfl) (fun _ => rfl) (fun x H1 e => hlast (fun p o _ ho => e _ _ ho) rfl)
    rw [← hA] at hAe
    have lA : (nvs A).length = A.length := List.length_map ..
    refine s_forNL (g := gName 6) hAe (fun q i σ' H' => q ≠ td ∧ q ≠ fd ∧ H' q = some (.lst (nvs A)) ∧ ∃ (us vs : List Addr) (s6 : Option V), σ' = [some (.ref pl), some (.ref tl), some (.ref fd), some (.ref td), none, some (.ref t), s6, none] ∧ (∀ p o, ¬ X p → H5 p = some o → H' p = some o) ∧ H' td = some (.lst (us.map V.ref)) ∧ Paired (Tr X H') us (T0 ++ kids C h (A.take i)) ∧ H' fd = some (.lst (vs.map V.ref)) ∧ Paired (Tr X H') vs (F ++ ends C h (A.take i)))
      (fun q H6 hq e6 hq6 => ⟨(fun z => by rw [z, htd5] at hq; cases hq), (fun z => by rw [z, hfd5] at hq; cases hq), hq6, ts.dropLast, fs, _, rfl, fun p o _ ho => e6 _ _ ho, e6 _ _ htd5, by
        have : kids C h (A.take 0) = [] := rfl
        rw [this, List.append_nil]
        exact Paired.mono (fun _ _ h => h.keep fun p o hp ho => e6 _ _ ho) hT5, e6 _ _ hfd5, by
        have : ends C h (A.take 0) = [] := rfl
        rw [this, List.append_nil]
        exact Paired.mono (fun _ _ h => h.keep fun p o hp ho => e6 _ _ ho) hF5⟩)
      (fun q i σ' H' _ hP => sq_of hP.2.2.1) (fun q i x σ' H' hx hP => ?_) (fun q σ' H' hP => ?_)
    · obtain ⟨q1, q2, hq, us, vs, s6', rfl, kX, htdX, hus, hfdX, hvs⟩ := hP
      obtain ⟨o, ho, rfl⟩ := nvs_at hx
      clear hx
      have hft1 := filter_take (fun x => !decide (x ∈ C) && decide (h < x)) ho
      have hft2 := filter_take (fun x => decide (x = h)) ho
      have hiA : i < A.length := (List.getElem?_eq_some_iff.mp ho).1
      have hkl : (kids C h (A.take i)).length ≤ i := by
        unfold kids
        rw [List.length_map]
        have q1 := List.length_filter_le (fun x => !decide (x ∈ C) && decide (h < x)) (A.take i)
        rw [List.length_take] at q1
        omega
      have hel : (ends C h (A.take i)).length ≤ i := by
        unfold ends
        rw [List.length_map]
        have q1 := List.length_filter_le (fun x => decide (x = h)) (A.take i)
        rw [List.length_take] at q1
        omega
      have hul := paired_len hus
      have hvl := paired_len hvs
      rw [List.length_append] at hul hvl
      have hhC : h ∈ C := by rw [hC]; exact List.mem_cons_self
      refine s_if (b := decide (o = h)) (et_is (et_test (ev_op (ev_var rfl) (hfirst kX rfl) (rv_eq rfl))) (decide_eq_decide.mpr nvI)) (fun hb2 H7 e7 => ?_) (fun hb2 H7 e7 => ?_)
      · have hoh : o = h := of_decide_eq_true hb2
        subst hoh
        refine s_app (xs := vs.map V.ref) (e7 _ _ hfdX) (ev_var rfl) (ev_var rfl) (by rw [List.length_map]; omega) fun H8 e8 => ?_
        have k8 : ∀ p o, ¬ X p → H' p = some o → (upd H8 fd (.lst (vs.map V.ref ++ [V.ref t]))) p = some o := fun p o hp ho => by
          rw [upd_ne ((hX2 p).mp hp).2]
          exact e8 _ _ (e7 _ _ ho)
        refine ⟨q1, q2, by rw [upd_ne q2]; exact e8 _ _ (e7 _ _ hq), us, vs ++ [t], _, rfl, fun p o hp ho => k8 p o hp (kX p o hp ho), by rw [upd_ne ntf]; exact e8 _ _ (e7 _ _ htdX), ?_, by rw [upd_same, List.map_append]; rfl, ?_⟩
        · have : kids C o (A.take (i + 1)) = kids C o (A.take i) := by
            unfold kids
            rw [hft1, if_neg (by simp)]
          rw [this]
          exact Paired.mono (fun _ _ h => h.keep k8) hus
        · have : ends C o (A.take (i + 1)) = ends C o (A.take i) ++ [C] := by
            unfold ends
            rw [hft2, if_pos (by simp), List.map_append]
            rfl
          rw [this, ← List.append_assoc]
          exact Paired.snoc (Tr.keep ⟨xt, w5⟩ fun p o hp ho => k8 p o hp (kX p o hp ho)) (Paired.mono (fun _ _ h => h.keep k8) hvs)
      · have hoh : o ≠ h := of_decide_eq_false hb2
        have hends : ends C h (A.take (i + 1)) = ends C h (A.take i) := by
          unfold ends
          rw [hft2, if_neg (by simp [hoh])]
        have kX7 : ∀ p o, ¬ X p → H5 p = some o → H7 p = some o := fun p o hp ho => e7 _ _ (kX p o hp ho)
        refine s_when (b := !decide (o ∈ C) && decide (h < o)) (et_and (et_is (et_test (ev_op (ev_var rfl) (ev_var rfl) (rv_niL (sq_of (kX7 _ _ xt w5)) rfl (flat_nvs _)))) (by rw [in_nvs])) fun _ => et_is (et_test (ev_op (ev_var rfl) (hfirst kX7 rfl) rv_I0)) (decide_eq_decide.mpr ⟨fun h => by omega, fun h => by omega⟩)) (fun hb3 H8 e8 => ?_) (fun hb3 H8 e8 => ?_)
        · have e78 := e7.trans e8
          have hcat : EvL (tOp rCat (tVar 5) (tLst (tCons (tVar 6) tNil))) [some (V.ref pl), some (V.ref tl), some (V.ref fd), some (V.ref td), none, some (V.ref t), some (nv o), none] H8 (nvs (C ++ [o])) := by
            have := el_catL (ta := tVar 5) (a := t) (tb := tLst (tCons (tVar 6) tNil)) (σ := [some (V.ref pl), some (V.ref tl), some (V.ref fd), some (V.ref td), none, some (V.ref t), some (nv o), none]) (H := H8) (xs := nvs C) (ys := [nv o]) (ev_var rfl) (el_lst (vs := [nv o]) (ea_cons (ev_var rfl) ea_nil) (by show 1 ≤ 100000; decide)) (e8 _ _ (kX7 _ _ xt w5)) (by rw [List.length_map]; show _ + 1 ≤ 100000; omega)
            rw [nvs_snocS] at this
            exact this
          refine s_appQ (xs := us.map V.ref) (e78 _ _ htdX) (ev_var rfl) (EvL.p hcat) (by rw [List.length_map]; omega) fun v H9 H10 e9 e10 hv => ?_
          obtain ⟨na, rfl, hna, hna2⟩ := hv
          have e79 := e78.trans e9
          have xna : ¬ X na := (hX2 na).mpr ⟨(fun z => by rw [z, e79 _ _ htdX] at hna; cases hna), (fun z => by rw [z, e79 _ _ hfdX] at hna; cases hna)⟩
          have k10 : ∀ p o, ¬ X p → H' p = some o → (upd H10 td (.lst (us.map V.ref ++ [V.ref na]))) p = some o := fun p o hp ho => by
            rw [upd_ne ((hX2 p).mp hp).1]
            exact e10 _ _ (e79 _ _ ho)
          refine ⟨q1, q2, by rw [upd_ne q1]; exact e10 _ _ (e79 _ _ hq), us ++ [na], vs, _, rfl, fun p o hp ho => k10 p o hp (kX p o hp ho), by rw [upd_same, List.map_append]; rfl, ?_, by rw [upd_ne (Ne.symm ntf)]; exact e10 _ _ (e79 _ _ hfdX), ?_⟩
          · have : kids C h (A.take (i + 1)) = kids C h (A.take i) ++ [C ++ [o]] := by
              unfold kids
              rw [hft1, if_pos hb3, List.map_append]
              rfl
            rw [this, ← List.append_assoc]
            exact Paired.snoc ⟨xna, by rw [upd_ne ((hX2 na).mp xna).1]; exact hna2⟩ (Paired.mono (fun _ _ h => h.keep k10) hus)
          · rw [hends]
            exact Paired.mono (fun _ _ h => h.keep k10) hvs
        · have e78 := e7.trans e8
          refine ⟨q1, q2, e78 _ _ hq, us, vs, _, rfl, fun p o hp ho => e78 _ _ (kX p o hp ho), e78 _ _ htdX, ?_, e78 _ _ hfdX, ?_⟩
          · have : kids C h (A.take (i + 1)) = kids C h (A.take i) := by
              unfold kids
              rw [hft1, if_neg (by rw [hb3]; decide)]
            rw [this]
            exact Paired.mono (fun _ _ h => h.keep fun p o _ ho => e78 _ _ ho) hus
          · rw [hends]
            exact Paired.mono (fun _ _ h => h.keep fun p o _ ho => e78 _ _ ho) hvs
    · obtain ⟨q1, q2, hq, us, vs, s6', rfl, kX, htdX, hus, hfdX, hvs⟩ := hP
      rw [lA, List.take_length] at hus hvs
      refine ⟨_, _, us, vs, _, _, rfl, fun p o ho => kX p o (hHX p o ho) (e5 _ _ ho), htdX, hus, hfdX, hvs, r1, r2, r3, ?_, ?_⟩
      · rw [List.length_append, tr_append]
        omega
      · rw [tr_append]
        omega
  · have hT0 : T = [] := by
      cases T with
      | nil => rfl
      | cons _ _ => cases hb
    subst hT0
    refine s_ret (ev_var rfl) fun H5 e5 => k F fd H5 ((eH.trans e4).trans e5) (rings_end hFd fun D hD => ?_) (by omega) ⟨fs, e5 _ _ (e4 _ _ hf1), Paired.mono (fun t W h => e5 _ _ (e4 _ _ h.2)) hf2⟩
    rcases hall D hD with h | ⟨W, hW, _⟩
    · exact h
    · cases hW
end
end Mp

/-! law k10. -/
namespace Mp
open PySem L2 Evl
/-! law@k10: slots 0 script 1 small 2 drawn 3 pairs 4 net 5 table 6 wild 7 ring 8 turn 9 found -/
def t_law_k10_b1 (g : Gb)  : TS := tSeq (tAsg (tCall (sp_wild_ring g) [] E0 (tCons (tVar 4) tNil)) (gName 9))
  (tSeq (tIfS (tTest (tOp rNe (tOp rIsN (tVar 9) (tC .non)) (tNotV (tVar 6)))) (tRet (tC (.bl false))) tNext)
  (tIfS (tTest (tOp rNotN (tVar 9) (tC .non))) (tSeq (tIfS (tNot (tB (tCall (sp__law_is_wild g) [] E0 (tCons (tVar 9) (tCons (tVar 3) (tCons (tVar 5) tNil)))))) (tRet (tC (.bl false))) tNext)
  (tDrop (tBM0 g.K "list" rClear (tVar 9)))) tNext))
def t_law_k10 (g : Gb) : TS := tSeq (tAsg (tOp rNe (tOp rModI (tCall (sp__law_cell_at g) [] E0 (tCons (tVar 0) (tCons (tC (.int 0)) tNil))) (tC (.int 4))) (tC (.int 1))) (gName 1))
  (tSeq (tAsg (tCall (sp__law_net g) [] E0 (tCons (tVar 0) (tCons (tC (.int 1)) (tCons (tC (.int 5)) (tCons (tC (.int 10)) tNil))))) (gName 2))
  (tSeq (tIfS (tNot (tB (tVar 1))) (tAsg (tCall (sp__law_net g) [] E0 (tCons (tVar 0) (tCons (tC (.int 1)) (tCons (tC (.int 14)) (tCons (tC (.int 34)) tNil))))) (gName 2)) tNext)
  (tSeq (tAsg (tOp (rIxT g.K) (tVar 2) (tC (.int 1))) (gName 3))
  (tSeq (tAsg (tMake g.C (sp_Net___init__ g) [] E0 (tCons (tOp (rIxT g.K) (tVar 2) (tC (.int 0))) (tCons (tCB (rListS g.K) (tCons (tVar 3) tNil)) tNil))) (gName 4))
  (tSeq (tAsg (tCall (sp__law_guards g) [] E0 (tCons (tOp (rIxT g.K) (tVar 2) (tC (.int 0))) (tCons (tVar 3) tNil))) (gName 5))
  (tSeq (tIfS (tB (tVar 1)) (tAsg (tOp rGtI (tCB (rLenS g.K) (tCons (tLc (iList g.K (tCall (sp__law_rings g) [] E0 (tCons (tVar 3) (tCons (tOp (rIxL g.K) (tVar 5) (tC (.int 0))) tNil)))) (gName 7) (tNot (tB (tCall (sp__law_tame g) [] E0 (tCons (tVar 7) (tCons (tVar 5) tNil))))) (tVar 7) [7]) tNil)) (tC (.int 0))) (gName 6)) (tAsg (tCall (sp__law_goes_round g) [] E0 (tCons (tVar 3) (tCons (tVar 5) tNil))) (gName 6)))
  (tSeq (tFor (iRng1 (tCons (tC (.int 2)) tNil)) (gName 8) (t_law_k10_b1 g))
  (tRet (tC (.bl true))))))))))
abbrev N_law_k10 : List Str := ["script", "small", "drawn", "pairs", "net", "table", "wild", "ring", "turn", "found"]

def k10_loop (g : Gb) : TS := tSeq (tFor (iRng1 (tCons (tC (.int 2)) tNil)) (gName 8) (t_law_k10_b1 g)) (tRet (tC (.bl true)))
def k10_tail (g : Gb) : TS := tSeq (tAsg (tOp (rIxT g.K) (tVar 2) (tC (.int 1))) (gName 3))
  (tSeq (tAsg (tMake g.C (sp_Net___init__ g) [] E0 (tCons (tOp (rIxT g.K) (tVar 2) (tC (.int 0))) (tCons (tCB (rListS g.K) (tCons (tVar 3) tNil)) tNil))) (gName 4))
  (tSeq (tAsg (tCall (sp__law_guards g) [] E0 (tCons (tOp (rIxT g.K) (tVar 2) (tC (.int 0))) (tCons (tVar 3) tNil))) (gName 5))
  (tSeq (tIfS (tB (tVar 1)) (tAsg (tOp rGtI (tCB (rLenS g.K) (tCons (tLc (iList g.K (tCall (sp__law_rings g) [] E0 (tCons (tVar 3) (tCons (tOp (rIxL g.K) (tVar 5) (tC (.int 0))) tNil)))) (gName 7) (tNot (tB (tCall (sp__law_tame g) [] E0 (tCons (tVar 7) (tCons (tVar 5) tNil))))) (tVar 7) [7]) tNil)) (tC (.int 0))) (gName 6)) (tAsg (tCall (sp__law_goes_round g) [] E0 (tCons (tVar 3) (tCons (tVar 5) tNil))) (gName 6)))
  (k10_loop g))))
section
variable {g : Gb} {σ : L2.St} {H H' B : Hp} {D : Ends} {E : XK} {Q : VK} {vs : List V} {p : Addr} {N : Nt} {te tn ta tb td ti tm tl to : TE} {K : PySem.W.Frag} {r k o : Nat} {tz : TS}
theorem ep_wring (h1 : Ev tn σ H (.ref p)) (hn : NetAt g H p N) : EvP (tCall (sp_wild_ring g) [] E0 (tCons tn tNil)) σ H (fun H1 v H2 => (v = .non ∧ wildb N.ds = false) ∨ ∃ q c, v = .ref q ∧ H1 q = none ∧ H2 q = some (.lst (nvs c)) ∧ Ring (wld N.ds) c ∧ wildb N.ds = true) := fun H1 e Q q =>
  h1 H1 e _ fun H2 e2 => ⟨p, N, rfl, hn.mono (e.trans e2), fun hno H3 e3 => q .non H3 (e2.trans e3) (.inl ⟨rfl, wildb_no.mpr fun ⟨C, hC⟩ => hno C hC⟩), fun C hC q2 H3 hq2 e3 hq3 => q _ H3 (e2.trans e3) (.inr ⟨q2, C, rfl, fresh_back e2 hq2, hq3, hC, wildb_iff.mpr ⟨C, hC⟩⟩)⟩
theorem len_raw (h : te σ H fun v H2 => (tOp rGtI (tCB (rLenS K) (tCons (tC v) tNil)) (tC (.int 0))) σ H2 Q) : tOp rGtI (tCB (rLenS K) (tCons te tNil)) (tC (.int 0)) σ H Q := h
theorem ev_wild5 {pl t : Addr} {s0 s1 s2 s4 s6 : Option V} (hN : N.Ok) (hn5 : N.n ≤ 5) (hp : PLt H pl (N.ds.map zp)) (ht : TbAt H t N.n (dm N.ds)) : Ev (tOp rGtI (tCB (rLenS g.K) (tCons (tLc (iList g.K (tCall (sp__law_rings g) [] E0 (tCons (tVar 3) (tCons (tOp (rIxL g.K) (tVar 5) (tC (.int 0))) tNil)))) (gName 7) (tNot (tB (tCall (sp__law_tame g) [] E0 (tCons (tVar 7) (tCons (tVar 5) tNil))))) (tVar 7) [7]) tNil)) (tC (.int 0))) [s0, s1, s2, some (.ref pl), s4, some (.ref t), s6, none, none, none] H (.bl (wildb N.ds)) := fun H1 e Q q => by
  have hpos := hN.pos
  obtain ⟨as, ht1, ht2⟩ := id (ht.mono e)
  obtain ⟨r0, h0, hr0⟩ := Paired.at ht2 (i := 0) (b := 0) (by rw [List.getElem?_range (by omega)])
  have hr1 : H1 r0 = some (.lst (bls N.n (rch N.ds (-1)))) := by
    rw [hr0]
    congr 2
    exact bls_congr fun k _ => dm_zero
  refine len_raw (lc_raw ((ea_cons (ev_var rfl) (ea_cons (ev_op (ev_var rfl) ev_c (rv_ixL (v := .ref r0) (sq_of ht1) (atI_nat (j := 0) (by rw [List.getElem?_map, h0]; rfl)))) ea_nil)) H1 (Ex.refl _) _ fun H2 e2 => ⟨pl, r0, N, rfl, hN, hn5, hp.mono (e.trans e2), e2 _ _ hr1, fun F fq H3 e3 hF hFl hR => ?_⟩))
  obtain ⟨fs, hf1, hf2⟩ := hR
  have hfl : fs.length = F.length := paired_len hf2
  have e13 := (e.trans e2).trans e3
  have key := el_lc (σ := [s0, s1, s2, some (.ref pl), s4, some (.ref t), s6, none, none, none]) (H := H3) (t := tNot (tB (tCall (sp__law_tame g) [] E0 (tCons (tVar 7) (tCons (tVar 5) tNil))))) (te := tVar 7) (j := 7) (vs := [7]) (l := fs.zip F) (R := fun (z : Addr × List Nat) x => x = V.ref z.1 ∧ H3 z.1 = some (.lst (nvs z.2))) (fun z => !tameb z.2 (dm N.ds)) (fun z => V.ref z.1)
    (ei_list (K := g.K) (tl := tC (.ref fq)) ev_c (sq_of hf1) (by
      have key : ∀ {l : List Addr} {m : List (List Nat)}, Paired (fun a r => H3 a = some (.lst (nvs r))) l m → Paired (fun x (z : Addr × List Nat) => x = V.ref z.1 ∧ H3 z.1 = some (.lst (nvs z.2))) (l.map V.ref) (l.zip m) := by
        intro l m h
        induction h with
        | nil => exact .nil
        | cons r _ ih => exact .cons ⟨rfl, r⟩ ih
      exact key hf2)) (by rw [List.length_zip]; omega) (fun _ => rfl) (fun z x H4 hz hx e4 => by
      obtain ⟨rfl, hy⟩ := hx
      obtain ⟨hR, hr⟩ := hF.is z.2 (List.of_mem_zip hz).2
      have hlt : ∀ x ∈ z.2, x < N.n := fun x hx => (hr x hx).lt hN.pos hN.ends
      obtain ⟨_, _, _, _, nd⟩ := id hR
      have hl := nd.length_le_of_subset (l₂ := List.range N.n) fun x hx => List.mem_range.mpr (hlt x hx)
      rw [List.length_range] at hl
      exact et_not (et_B (ev_tame (c := z.2) (ev_var rfl) (ev_var rfl) (e4 _ _ hy) (ht.mono (e13.trans e4)) hlt (by omega)))) (fun z x H4 hz hx e4 _ => by
      obtain ⟨rfl, hy⟩ := hx
      exact ev_var rfl)
  refine key H3 (Ex.refl _) _ fun lq H4 hlq e4 hlq4 => ?_
  refine (ev_is (w := .bl (wildb N.ds)) (ev_op (ev_len (K := g.K) (ta := tC (.ref lq)) (σ := [s0, s1, s2, some (.ref pl), s4, some (.ref t), s6, none, none, none]) ev_c (sq_of hlq4)) ev_c rv_I0) ?_) H4 (Ex.refl _) Q fun H5 e5 => q H5 ((((e2.trans e3).trans e4)).trans e5)
  rw [List.length_map]
  refine congrArg V.bl ?_
  rw [Bool.eq_iff_iff, wildb_iff, decide_eq_true_iff, ← rings_wild hF]
  constructor
  · intro h
    have hpos : 0 < ((fs.zip F).filter fun z => !tameb z.2 (dm N.ds)).length := by omega
    obtain ⟨z, hz⟩ := List.exists_mem_of_length_pos hpos
    obtain ⟨h1, h2⟩ := List.mem_filter.mp hz
    exact ⟨z.2, (List.of_mem_zip h1).2, by simpa using h2⟩
  · rintro ⟨C, hC, hw⟩
    obtain ⟨i, hi, e⟩ := List.mem_iff_getElem.mp hC
    have hz : (fs[i]'(by omega), C) ∈ fs.zip F := by
      refine List.mem_iff_getElem.mpr ⟨i, by rw [List.length_zip]; omega, ?_⟩
      rw [List.getElem_zip, e]
    have := List.length_pos_of_mem (List.mem_filter.mpr ⟨hz, (by show (!tameb C (dm N.ds)) = true; rw [hw]; rfl)⟩ : _ ∈ (fs.zip F).filter fun z => !tameb z.2 (dm N.ds))
    omega
theorem k10_loop_ok {a q pa x t : Addr} {b : Bool} (hN : N.Ok) (hp : PLt H pa (N.ds.map zp)) (hnet : NetAt g H x N) (ht : TbAt H t N.n (dm N.ds)) (k : ∀ H2, D.rt (.bl true) H2) : k10_loop g D [some (.ref a), some (.bl b), some (.ref q), some (.ref pa), some (.ref x), some (.ref t), some (.bl (wildb N.ds)), none, none, none] H := by
  refine q_forR1 (n := 2) (ea_cons ev_c ea_nil) ⟨by decide, by decide⟩ (fun i σ' H' => Ex H H' ∧ ∃ s8 s9, σ' = [some (.ref a), some (.bl b), some (.ref q), some (.ref pa), some (.ref x), some (.ref t), some (.bl (wildb N.ds)), none, s8, s9]) (fun H1 e1 => ⟨e1, _, _, rfl⟩) (fun i σ' H' hi hP => ?_) (fun σ' H' hP => ?_)
  · obtain ⟨eH, s8, s9, rfl⟩ := hP
    refine a_asgP (ep_wring (N := N) (ev_var rfl) (hnet.mono eH)) fun v H1 e1 hv => ?_
    rcases hv with ⟨rfl, hw⟩ | ⟨f, c, rfl, hf, hf1, hc, hw⟩
    · refine q_when (b := false) (et_is (et_test (ev_op (ev_op (ev_var rfl) ev_c rv_isN) (ev_notV (ev_var rfl)) (rv_ne rfl))) (by rw [hw]; rfl)) (fun hb => by cases hb) (fun _ H2 e2 => ?_)
      exact s_when (b := false) (et_is (et_test (ev_op (ev_var rfl) ev_c rv_notN)) (by rfl)) (fun hb => by cases hb) fun _ H3 e3 => ⟨((eH.trans e1).trans e2).trans e3, _, _, rfl⟩
    · refine q_when (b := false) (et_is (et_test (ev_op (ev_op (ev_var rfl) ev_c rv_isN) (ev_notV (ev_var rfl)) (rv_ne rfl))) (by rw [hw]; rfl)) (fun hb => by cases hb) (fun _ H2 e2 => ?_)
      refine s_when (b := true) (et_is (et_test (ev_op (ev_var rfl) ev_c rv_notN)) (by rfl)) (fun _ H3 e3 => ?_) (fun hb => by cases hb)
      have e23 := e2.trans e3
      have eH3 := (eH.trans e1).trans e23
      have hr := wild_rch hc
      have htm : tameb c (dm N.ds) = false := by
        rw [Bool.eq_false_iff]
        intro z
        obtain ⟨h, h1, h2⟩ := tame_iff.mp z
        exact wild_untame hc h1 fun x hx => dm_iff.mp (h2 x hx)
      have hwe : Ev (tCall (sp__law_is_wild g) [] E0 (tCons (tVar 9) (tCons (tVar 3) (tCons (tVar 5) tNil)))) [some (.ref a), some (.bl b), some (.ref q), some (.ref pa), some (.ref x), some (.ref t), some (.bl (wildb N.ds)), none, some (nv i), some (.ref f)] H3 (.bl true) :=
        ev_call1 (ea_cons (ev_var rfl) (ea_cons (ev_var rfl) (ea_cons (ev_var rfl) ea_nil))) fun H4 e4 Q k => ⟨f, pa, t, N, c, rfl, hN, e4 _ _ (e23 _ _ hf1), hp.mono (eH3.trans e4), ht.mono (eH3.trans e4), hc.sub wld_sub, hr, htm, k⟩
      refine q_when (b := false) (et_not (a := true) (et_B hwe)) (fun hb => by cases hb) (fun _ H4 e4 => ?_)
      exact s_clear (e4 _ _ (e23 _ _ hf1)) (ev_var rfl) fun H5 e5 => ⟨exU ((eH3.trans e4).trans e5) (fresh_back eH hf), _, _, rfl⟩
  · exact s_ret ev_c fun H2 _ => k H2
theorem k10_tail_ok {a q pa : Addr} {b : Bool} (hN : N.Ok) (h5 : b = true → N.n ≤ 5) (hq : H q = some (.tup [nv N.n, .ref pa])) (hp : PLt H pa (N.ds.map zp)) (k : ∀ H2, D.rt (.bl true) H2) : k10_tail g D [some (.ref a), some (.bl b), some (.ref q), none, none, none, none, none, none, none] H := by
  refine q_asg (ev_op (ev_var rfl) ev_c (rv_ixT (st_of hq) rfl)) fun H3 e3 => ?_
  obtain ⟨as, hP1, hP2⟩ := id (hp.mono e3)
  refine q_netL (N := N) (xs := []) (as := as) hN (ev_op (ev_var rfl) ev_c (rv_ixT (st_of (e3 _ _ hq)) rfl)) (el_list (ev_var rfl) (sq_of hP1)) hP2 fun x H4 hx e4 hnet => ?_
  have e24 := e3.trans e4
  refine a_asgP (ev_guardsT (n := N.n) (ds := N.ds) (ev_op (ev_var rfl) ev_c (rv_ixT (st_of (e24 _ _ hq)) rfl)) (ev_var rfl) hN.pos hN.most hN.ends (hp.mono e24).pl) fun v H5 e5 hv => ?_
  obtain ⟨t, rfl, ht0, ht⟩ := hv
  have e25 := e24.trans e5
  refine q_if (b := b) (et_B (ev_var rfl)) (fun hb H6 e6 => ?_) (fun hb H6 e6 => ?_)
  · exact s_asg (ev_wild5 hN (h5 hb) (hp.mono (e25.trans e6)) (ht.mono e6)) fun H7 e7 => k10_loop_ok hN (hp.mono ((e25.trans e6).trans e7)) (hnet.mono ((e5.trans e6).trans e7)) (ht.mono (e6.trans e7)) k
  · exact s_asg (v := .bl (wildb N.ds)) (ev_call1 (ea_cons (ev_var rfl) (ea_cons (ev_var rfl) ea_nil)) fun H7 e7 Q k => ⟨pa, t, N, rfl, hN, hp.mono ((e25.trans e6).trans e7), ht.mono (e6.trans e7), k⟩) fun H7 e7 => k10_loop_ok hN (hp.mono ((e25.trans e6).trans e7)) (hnet.mono ((e5.trans e6).trans e7)) (ht.mono (e6.trans e7)) k
theorem s_callX {i : Nat} {sp : Sp} {vs : List V} {ts : TA} (h : EvA ts σ H vs) (k : ∀ H1, Ex H H1 → sp (vs ++ []) H1 (fun v H2 => D.nx (σ.set i (some v)) H2) E) : tAsg (tCall sp [] E ts) (gName i) D σ H :=
  h H (Ex.refl H) _ k
theorem nt_of {n most extra : Nat} {ds : DL} (hn1 : 1 ≤ n) (hn2 : n ≤ most) (hm : most ≤ 40) (hd1 : ds.length ≤ extra) (hx : extra ≤ 100) (hd2 : ∀ d ∈ ds, d.1 < n ∧ d.2 < n) : Nt.Ok ⟨n, ds⟩ := ⟨hn1, by show n ≤ 40; omega, by show ds.length ≤ 100; omega, hd2⟩
theorem pure_law_k10 (h : spLaw g vs H Q E) : t_law_k10 g { nx := fun _ H' => Q .non H', rt := Q } (start N_law_k10 vs) H := by
  obtain ⟨a, ns, rfl, hs, hlen, k⟩ := h
  obtain ⟨b, hb⟩ : ∃ b : Bool, V.bl (!decide (V.int (ns.getD 0 0 % 4) = V.int 1)) = V.bl b := ⟨_, rfl⟩
  refine q_asg (v := .bl b) (ev_is (ev_op (ev_op (ev_cell (j := 0) (ev_var rfl) hs ev_c) ev_c (rv_mod (by decide))) ev_c (rv_ne rfl)) hb) fun H1 e1 => ?_
  refine q_callX (ea_cons (ev_var rfl) (ea_cons ev_c (ea_cons ev_c (ea_cons ev_c ea_nil)))) fun H2 e2 => ⟨a, ns, 1, 5, 10, rfl, ex_l (e1.trans e2) hs, by decide, by decide, by decide, fun n ds q pa H3 hn1 hn2 hd1 hd2 e3 hq hpa hne hq3 hP => ?_⟩
  have e13 := (e1.trans e2).trans e3
  refine q_when (tz := k10_tail g) (b := !b) (et_not (et_B (ev_var rfl))) (fun hb H4 e4 => ?_) (fun hb H4 e4 => ?_)
  · refine s_callX (ea_cons (ev_var rfl) (ea_cons ev_c (ea_cons ev_c (ea_cons ev_c ea_nil)))) fun H5 e5 => ⟨a, ns, 1, 14, 34, rfl, ex_l ((e13.trans e4).trans e5) hs, by decide, by decide, by decide, fun n ds q pa H6 hn1 hn2 hd1 hd2 e6 hq hpa hne hq6 hP => ?_⟩
    exact k10_tail_ok (N := ⟨n, ds⟩) (nt_of hn1 hn2 (by decide) hd1 (by decide) hd2) (fun z => by rw [z] at hb; cases hb) hq6 hP k
  · exact k10_tail_ok (N := ⟨n, ds⟩) (nt_of hn1 hn2 (by decide) hd1 (by decide) hd2) (fun _ => hn2) (e4 _ _ hq3) (hP.mono e4) k
end
end Mp

namespace Mp
open PySem L2 Evl
def top (i : Nat) : Stmt := PySem.Challenge.pw_mustpass_k10_whole_tame_or_a_wild_ring.main.body.getD i (.Pass ⟨0, 0, 0, 0⟩)
abbrev s__law_cell_at : Stmt := top 19
abbrev s__law_net : Stmt := top 21
abbrev s_Net___init__ : Stmt := inClass (top 8) 0
abbrev s__law_past : Stmt := top 22
abbrev s__law_guards : Stmt := top 23
abbrev s__law_rings : Stmt := top 24
abbrev s__law_tame : Stmt := top 25
abbrev s__law_goes_round : Stmt := top 26
abbrev s_Net_doors : Stmt := inClass (top 8) 3
abbrev s_Net_rooms : Stmt := inClass (top 8) 2
abbrev s_Net_ask : Stmt := inClass (top 8) 1
abbrev s_Net_leads : Stmt := inClass (top 8) 4
abbrev s_steps : Stmt := top 10
abbrev s_reached : Stmt := top 11
abbrev s_guarded : Stmt := top 13
abbrev s_inside : Stmt := top 15
abbrev s_back_doors : Stmt := top 16
abbrev s_wild_ring : Stmt := top 17
abbrev s__law_whole : Stmt := top 20
abbrev s__law_is_wild : Stmt := top 27
abbrev s_law_k10 : Stmt := top 28
theorem sc__law_cell_at : FnScope N__law_cell_at ["script", "k"] (defScope s__law_cell_at) := ⟨rfl, rfl, rfl, by decide +kernel, rfl, by decide +kernel, by decide +kernel⟩
theorem sc__law_net : FnScope N__law_net ["script", "at", "most", "extra"] (defScope s__law_net) := ⟨rfl, rfl, rfl, by decide +kernel, rfl, by decide +kernel, by decide +kernel⟩
theorem sc_Net___init__ : FnScope N_Net___init__ ["self", "rooms", "doors"] (defScope s_Net___init__) := ⟨rfl, rfl, rfl, by decide +kernel, rfl, by decide +kernel, by decide +kernel⟩
theorem sc__law_past : FnScope N__law_past ["many", "pairs", "shunned"] (defScope s__law_past) := ⟨rfl, rfl, rfl, by decide +kernel, rfl, by decide +kernel, by decide +kernel⟩
theorem sc__law_guards : FnScope N__law_guards ["many", "pairs"] (defScope s__law_guards) := ⟨rfl, rfl, rfl, by decide +kernel, rfl, by decide +kernel, by decide +kernel⟩
theorem sc__law_rings : FnScope N__law_rings ["pairs", "there"] (defScope s__law_rings) := ⟨rfl, rfl, rfl, by decide +kernel, rfl, by decide +kernel, by decide +kernel⟩
theorem sc__law_tame : FnScope N__law_tame ["ring", "table"] (defScope s__law_tame) := ⟨rfl, rfl, rfl, by decide +kernel, rfl, by decide +kernel, by decide +kernel⟩
theorem sc__law_goes_round : FnScope N__law_goes_round ["pairs", "table"] (defScope s__law_goes_round) := ⟨rfl, rfl, rfl, by decide +kernel, rfl, by decide +kernel, by decide +kernel⟩
theorem sc_Net_doors : FnScope N_Net_doors ["self"] (defScope s_Net_doors) := ⟨rfl, rfl, rfl, by decide +kernel, rfl, by decide +kernel, by decide +kernel⟩
theorem sc_Net_rooms : FnScope N_Net_rooms ["self"] (defScope s_Net_rooms) := ⟨rfl, rfl, rfl, by decide +kernel, rfl, by decide +kernel, by decide +kernel⟩
theorem sc_Net_ask : FnScope N_Net_ask ["self", "room"] (defScope s_Net_ask) := ⟨rfl, rfl, rfl, by decide +kernel, rfl, by decide +kernel, by decide +kernel⟩
theorem sc_Net_leads : FnScope N_Net_leads ["self", "room"] (defScope s_Net_leads) := ⟨rfl, rfl, rfl, by decide +kernel, rfl, by decide +kernel, by decide +kernel⟩
theorem sc_steps : FnScope N_steps ["net", "shunned"] (defScope s_steps) := ⟨rfl, rfl, rfl, by decide +kernel, rfl, by decide +kernel, by decide +kernel⟩
theorem sc_reached : FnScope N_reached ["net"] (defScope s_reached) := ⟨rfl, rfl, rfl, by decide +kernel, rfl, by decide +kernel, by decide +kernel⟩
theorem sc_guarded : FnScope N_guarded ["net", "room"] (defScope s_guarded) := ⟨rfl, rfl, rfl, by decide +kernel, rfl, by decide +kernel, by decide +kernel⟩
theorem sc_inside : FnScope N_inside ["net"] (defScope s_inside) := ⟨rfl, rfl, rfl, by decide +kernel, rfl, by decide +kernel, by decide +kernel⟩
theorem sc_back_doors : FnScope N_back_doors ["net"] (defScope s_back_doors) := ⟨rfl, rfl, rfl, by decide +kernel, rfl, by decide +kernel, by decide +kernel⟩
theorem sc_wild_ring : FnScope N_wild_ring ["net"] (defScope s_wild_ring) := ⟨rfl, rfl, rfl, by decide +kernel, rfl, by decide +kernel, by decide +kernel⟩
theorem sc__law_whole : FnScope N__law_whole ["found"] (defScope s__law_whole) := ⟨rfl, rfl, rfl, by decide +kernel, rfl, by decide +kernel, by decide +kernel⟩
theorem sc__law_is_wild : FnScope N__law_is_wild ["found", "pairs", "table"] (defScope s__law_is_wild) := ⟨rfl, rfl, rfl, by decide +kernel, rfl, by decide +kernel, by decide +kernel⟩
theorem sc_law_k10 : FnScope N_law_k10 ["script"] (defScope s_law_k10) := ⟨rfl, rfl, rfl, by decide +kernel, rfl, by decide +kernel, by decide +kernel⟩
structure Tx (g : Gb) (mg : Str → Option Value) : Prop where
  cf : CF g
  cl : Cls g.K g.C
  n_ValueError : mg "ValueError" = none
  n_bool : mg "bool" = none
  n_int : mg "int" = none
  n_isinstance : mg "isinstance" = none
  n_len : mg "len" = none
  n_list : mg "list" = none
  n_range : mg "range" = none
  n_set : mg "set" = none
  n_sorted : mg "sorted" = none
  m_MOST_ROOMS : ∃ t, mg "MOST_ROOMS" = some (.int 40 t)
  m_MOST_DOORS : ∃ t, mg "MOST_DOORS" = some (.int 100 t)
  x_PassError : XG g.K mg "PassError" g.cP
  x_NoNet : XG g.K mg "NoNet" g.cN
  x_NoRoom : XG g.K mg "NoRoom" g.cR
section
variable {P : Program} {mg : Str → Option Value} {base : Heap} {g : Gb}
theorem ok__law_cell_at (T : Tx g mg) (D : FD g.K mg "_law_cell_at" s__law_cell_at)  : FG P g.w g.K mg base CX0 1 "_law_cell_at" ["script", "k"] (sp__law_cell_at g) := by
  obtain ⟨f, fd, F, M⟩ := D.ex
  refine ⟨f, fd, ?_, M, F.kp, F.binds (ps := ["script", "k"]) fun _ _ _ _ _ _ us hl => match us, hl with | [_, _], _ => rfl⟩
  refine F.ok sc__law_cell_at (fun vs H Q E h => by (unfold sp__law_cell_at at h; (repeat (obtain ⟨hh, h⟩ := h; try (subst hh))); all_goals rfl)) (fun cdv A outer s H vs Q E hr h => ⟨t__law_cell_at g, ?_, pure__law_cell_at  h⟩)
  exact pss_cons (ps_if (pt_cmpR op_lt (pv 1) (pe_callB call_len_seq (by rfl) T.n_len PySem.boot_len (pa_cons (pv 0) pa_nil)) (nomark _)) (pss_one (ps_ret (pe_ix ix_list (pv 0) (pv 1) (fun _ _ => rfl)))) pss_nil)
      (pss_one (ps_ret pe_int))
theorem ok__law_net (T : Tx g mg) (D : FD g.K mg "_law_net" s__law_net) (G__law_cell_at : FG P g.w g.K mg base CX0 1 "_law_cell_at" ["script", "k"] (sp__law_cell_at g)) : FG P g.w g.K mg base CX0 2 "_law_net" ["script", "at", "most", "extra"] (sp__law_net g) := by
  obtain ⟨f, fd, F, M⟩ := D.ex
  refine ⟨f, fd, ?_, M, F.kp, F.binds (ps := ["script", "at", "most", "extra"]) fun _ _ _ _ _ _ us hl => match us, hl with | [_, _, _, _], _ => rfl⟩
  refine F.ok sc__law_net (fun vs H Q E h => by (unfold sp__law_net at h; (repeat (obtain ⟨hh, h⟩ := h; try (subst hh))); all_goals rfl)) (fun cdv A outer s H vs Q E hr h => ⟨t__law_net g, ?_, pure__law_net  h⟩)
  exact pss_cons (ps_set (i := 4) sc__law_net.nd rfl (Or.inl rfl) (pe_op op_add pe_int (pe_op op_mod (pe_cl G__law_cell_at hr (by rfl) pass0 (pa_cons (pv 0) (pa_cons (pv 1) pa_nil))) (pv 2))))
      (pss_cons (ps_set (i := 5) sc__law_net.nd rfl (Or.inl rfl) (pe_lst pa_nil))
      (pss_cons (ps_for PassesOwn.never rfl (pi_range1 (by rfl) T.n_range (pa_cons (pe_op op_mod (pe_op op_fdiv (pe_cl G__law_cell_at hr (by rfl) pass0 (pa_cons (pv 0) (pa_cons (pv 1) pa_nil))) (pv 2)) (pe_op op_add (pv 3) pe_int)) pa_nil)) (pg_name (i := 6) sc__law_net.nd rfl (Or.inl rfl)) (pss_cons (ps_set (i := 7) sc__law_net.nd rfl (Or.inl rfl) (pe_cl G__law_cell_at hr (by rfl) pass0 (pa_cons (pv 0) (pa_cons (pe_op op_add (pe_op op_add (pv 1) pe_int) (pv 6)) pa_nil))))
      (pss_one (ps_expr (pe_bm PySem.F.plainAttrs_list PySem.F.slot_list_append PySem.F.type_list_append mt_append (pv 5) (pa_cons (pe_tup (pa_cons (pe_op op_mod (pv 7) (pv 4)) (pa_cons (pe_op op_mod (pe_op op_fdiv (pv 7) (pv 4)) (pv 4)) pa_nil))) pa_nil))))))
      (pss_one (ps_ret (pe_tup (pa_cons (pv 4) (pa_cons (pv 5) pa_nil)))))))
theorem ok_Net___init__ (T : Tx g mg) (D : ND g.K mg g.C "Net" "Net.__init__" s_Net___init__)  : NG P g.w g.K mg base (L2.CX P g.w) 1 g.C "Net" ["self", "rooms", "doors"] (sp_Net___init__ g) := by
  obtain ⟨f, fd, F, M, M2⟩ := D.ex
  refine ⟨f, fd, ?_, M, M2, F.binds (ps := ["self", "rooms", "doors"]) fun _ _ _ _ _ _ us hl => match us, hl with | [_, _, _], _ => rfl⟩
  refine F.okX sc_Net___init__ (fun vs H Q E h => by (unfold sp_Net___init__ at h; (repeat (obtain ⟨hh, h⟩ := h; try (subst hh))); all_goals rfl)) (fun cdv A outer s H vs Q E hr h => ⟨t_Net___init__ g E, ?_, pure_Net___init__ T.cf h⟩)
  exact pss_cons (ps_if (PW.pt (pw_or (pt_not (pt_chain op_le op_le pe_int (pv 1) (pe_gint (by rfl) T.m_MOST_ROOMS))) (pw_or1 (pt_cmpR op_gt (pe_callB call_len_seq (by rfl) T.n_len PySem.boot_len (pa_cons (pv 2) pa_nil)) (pe_gint (by rfl) T.m_MOST_DOORS) (nomark _))))) (pss_one (ps_rs T.x_NoNet rfl (takes_of rfl rfl rfl rfl) (by rfl))) pss_nil)
      (pss_cons (ps_for (passes_of rfl) rfl (pi_list (pv 2)) (pg_name (i := 3) sc_Net___init__.nd rfl (Or.inl rfl)) (pss_one (ps_for (passes_of rfl) rfl (pi_tup (pv 3)) (pg_name (i := 4) sc_Net___init__.nd rfl (Or.inl rfl)) (pss_one (ps_if (pt_not (pt_chain op_le op_lt pe_int (pv 4) (pv 1))) (pss_one (ps_rs T.x_NoNet rfl (takes_of rfl rfl rfl rfl) (by rfl))) pss_nil)))))
      (pss_cons (ps_fld (pv 0) (pv 1) rfl)
      (pss_cons (ps_fld (pv 0) (pe_callTy call_list_of (by rfl) T.n_list (by decide +kernel) (pa_cons (pv 2) pa_nil)) rfl)
      (pss_cons (ps_fld (pv 0) (pe_lc (own := [("room", 4)]) (g := gName 4) rfl sc_Net___init__.nd (pi_range1 (by rfl) T.n_range (pa_cons (pv 1) pa_nil)) (blkOk_by (N := N_Net___init__) (sc := defScope s_Net___init__) (by decide +kernel)) (fun _ _ _ _ _ => pg_name (i := 4) sc_Net___init__.nd rfl (Or.inr rfl)) (fun _ _ _ _ _ => pts_nil) (fun _ _ _ _ _ => pe_callB (cr_sortedSet rfl) (by rfl) T.n_sorted (by decide +kernel) (pa_cons (pe_callTy (cr_setL rfl) (by rfl) T.n_set (by decide +kernel) (pa_cons (pe_lc (own := [("door", 3)]) (g := gName 3) rfl sc_Net___init__.nd (pi_list (pv 2)) (blkOk_by (N := N_Net___init__) (sc := relS _ (defScope s_Net___init__)) (by decide +kernel)) (fun _ _ _ _ _ => pg_name (i := 3) sc_Net___init__.nd rfl (Or.inl rfl)) (fun _ _ _ _ _ => pts_one (pt_cmpR op_eq (pe_ix ix_tup (pv 3) pe_int (fun _ _ => rfl)) (pv 4) (nomark _))) (fun _ _ _ _ _ => pe_ix ix_tup (pv 3) pe_int (fun _ _ => rfl))) pa_nil)) pa_nil))) rfl)
      (pss_one (ps_fld (pv 0) (pe_lc (own := [("room", 4)]) (g := gName 4) rfl sc_Net___init__.nd (pi_range1 (by rfl) T.n_range (pa_cons (pv 1) pa_nil)) (blkOk_by (N := N_Net___init__) (sc := defScope s_Net___init__) (by decide +kernel)) (fun _ _ _ _ _ => pg_name (i := 4) sc_Net___init__.nd rfl (Or.inr rfl)) (fun _ _ _ _ _ => pts_nil) (fun _ _ _ _ _ => pe_callB (cr_sortedSet rfl) (by rfl) T.n_sorted (by decide +kernel) (pa_cons (pe_callTy (cr_setL rfl) (by rfl) T.n_set (by decide +kernel) (pa_cons (pe_lc (own := [("door", 3)]) (g := gName 3) rfl sc_Net___init__.nd (pi_list (pv 2)) (blkOk_by (N := N_Net___init__) (sc := relS _ (defScope s_Net___init__)) (by decide +kernel)) (fun _ _ _ _ _ => pg_name (i := 3) sc_Net___init__.nd rfl (Or.inl rfl)) (fun _ _ _ _ _ => pts_one (pt_cmpR op_eq (pe_ix ix_tup (pv 3) pe_int (fun _ _ => rfl)) (pv 4) (nomark _))) (fun _ _ _ _ _ => pe_ix ix_tup (pv 3) pe_int (fun _ _ => rfl))) pa_nil)) pa_nil))) rfl))))))
theorem ok__law_past (T : Tx g mg) (D : FD g.K mg "_law_past" s__law_past)  : FG P g.w g.K mg base CX0 1 "_law_past" ["many", "pairs", "shunned"] (sp__law_past g) := by
  obtain ⟨f, fd, F, M⟩ := D.ex
  refine ⟨f, fd, ?_, M, F.kp, F.binds (ps := ["many", "pairs", "shunned"]) fun _ _ _ _ _ _ us hl => match us, hl with | [_, _, _], _ => rfl⟩
  refine F.ok sc__law_past (fun vs H Q E h => by (unfold sp__law_past at h; (repeat (obtain ⟨hh, h⟩ := h; try (subst hh))); all_goals rfl)) (fun cdv A outer s H vs Q E hr h => ⟨t__law_past g, ?_, pure__law_past  h⟩)
  exact pss_cons (ps_setLc (i := 3) (own := [("k", 4)]) (g := gName 4) rfl sc__law_past.nd rfl rfl (sw_true rfl rfl rfl (by decide +kernel)) (pi_range1 (by rfl) T.n_range (pa_cons (pv 0) pa_nil)) (blkOk_by (N := N__law_past) (sc := defScope s__law_past) (by decide +kernel)) (fun _ _ _ _ _ => pg_name (i := 4) sc__law_past.nd rfl (Or.inl rfl)) (fun _ _ _ _ _ => pts_nil) (fun _ _ _ _ _ => pe_and (pe_cmpR op_eq (pv 4) pe_int (nomark _)) (pe_one (pe_cmpR op_ne (pv 2) pe_int (nomark _)))))
      (pss_cons (ps_set (i := 5) sc__law_past.nd rfl (Or.inl rfl) pe_bl)
      (pss_cons (ps_while PassesOwn.never (pt_val (pv 5)) (pss_cons (ps_set (i := 5) sc__law_past.nd rfl (Or.inl rfl) pe_bl)
      (pss_one (ps_for PassesOwn.never rfl (pi_list (pv 1)) (pg_name (i := 6) sc__law_past.nd rfl (Or.inl rfl)) (pss_one (ps_if (PW.pt (pw_and (pt_val (pe_ix ix_list (pv 3) (pe_ix ix_tup (pv 6) pe_int (fun _ _ => rfl)) (fun _ _ => rfl))) (pw_and (pt_not (pt_val (pe_ix ix_list (pv 3) (pe_ix ix_tup (pv 6) pe_int (fun _ _ => rfl)) (fun _ _ => rfl)))) (pw_and1 (pt_cmpR op_ne (pe_ix ix_tup (pv 6) pe_int (fun _ _ => rfl)) (pv 2) (nomark _)))))) (pss_cons (ps_asg pe_bl (pg_sub (pv 3) (pe_ix ix_tup (pv 6) pe_int (fun _ _ => rfl)) set_list))
      (pss_one (ps_set (i := 5) sc__law_past.nd rfl (Or.inl rfl) pe_bl))) pss_nil))))))
      (pss_one (ps_ret (pv 3)))))
theorem ok__law_guards (T : Tx g mg) (D : FD g.K mg "_law_guards" s__law_guards) (G__law_past : FG P g.w g.K mg base CX0 1 "_law_past" ["many", "pairs", "shunned"] (sp__law_past g)) : FG P g.w g.K mg base CX0 2 "_law_guards" ["many", "pairs"] (sp__law_guards g) := by
  obtain ⟨f, fd, F, M⟩ := D.ex
  refine ⟨f, fd, ?_, M, F.kp, F.binds (ps := ["many", "pairs"]) fun _ _ _ _ _ _ us hl => match us, hl with | [_, _], _ => rfl⟩
  refine F.ok sc__law_guards (fun vs H Q E h => by (unfold sp__law_guards at h; (repeat (obtain ⟨hh, h⟩ := h; try (subst hh))); all_goals rfl)) (fun cdv A outer s H vs Q E hr h => ⟨t__law_guards g, ?_, pure__law_guards  h⟩)
  exact pss_cons (ps_set (i := 2) sc__law_guards.nd rfl (Or.inr rfl) (pe_cl G__law_past hr (by rfl) pass0 (pa_cons (pv 0) (pa_cons (pv 1) (pa_cons (pe_un un_neg pe_int) pa_nil)))))
      (pss_cons (ps_set (i := 3) sc__law_guards.nd rfl (Or.inl rfl) (pe_lst pa_nil))
      (pss_cons (ps_for PassesOwn.never rfl (pi_range1 (by rfl) T.n_range (pa_cons (pv 0) pa_nil)) (pg_name (i := 4) sc__law_guards.nd rfl (Or.inl rfl)) (pss_cons (ps_set (i := 5) sc__law_guards.nd rfl (Or.inr rfl) (pe_cl G__law_past hr (by rfl) pass0 (pa_cons (pv 0) (pa_cons (pv 1) (pa_cons (pv 4) pa_nil)))))
      (pss_one (ps_expr (pe_bm PySem.F.plainAttrs_list PySem.F.slot_list_append PySem.F.type_list_append mt_append (pv 3) (pa_cons (pe_lc (own := [("k", 6)]) (g := gName 6) rfl sc__law_guards.nd (pi_range1 (by rfl) T.n_range (pa_cons (pv 0) pa_nil)) (blkOk_by (N := N__law_guards) (sc := defScope s__law_guards) (by decide +kernel)) (fun _ _ _ _ _ => pg_name (i := 6) sc__law_guards.nd rfl (Or.inl rfl)) (fun _ _ _ _ _ => pts_nil) (fun _ _ _ _ _ => pe_and (pe_ix ix_list (pv 2) (pv 6) (fun _ _ => rfl)) (pe_one (pe_not (pe_ix ix_list (pv 5) (pv 6) (fun _ _ => rfl)))))) pa_nil))))))
      (pss_one (ps_ret (pv 3)))))
theorem ok__law_rings (T : Tx g mg) (D : FD g.K mg "_law_rings" s__law_rings)  : FG P g.w g.K mg base CX0 1 "_law_rings" ["pairs", "there"] (sp__law_rings g) := by
  obtain ⟨f, fd, F, M⟩ := D.ex
  refine ⟨f, fd, ?_, M, F.kp, F.binds (ps := ["pairs", "there"]) fun _ _ _ _ _ _ us hl => match us, hl with | [_, _], _ => rfl⟩
  refine F.ok sc__law_rings (fun vs H Q E h => by (unfold sp__law_rings at h; (repeat (obtain ⟨hh, h⟩ := h; try (subst hh))); all_goals rfl)) (fun cdv A outer s H vs Q E hr h => ⟨t__law_rings g, ?_, pure__law_rings  h⟩)
  exact pss_cons (ps_set (i := 2) sc__law_rings.nd rfl (Or.inl rfl) (pe_lst pa_nil))
      (pss_cons (ps_setLc (i := 3) (own := [("k", 4)]) (g := gName 4) rfl sc__law_rings.nd rfl rfl (sw_true rfl rfl rfl (by decide +kernel)) (pi_range1 (by rfl) T.n_range (pa_cons (pe_callB call_len_seq (by rfl) T.n_len PySem.boot_len (pa_cons (pv 1) pa_nil)) pa_nil)) (blkOk_by (N := N__law_rings) (sc := defScope s__law_rings) (by decide +kernel)) (fun _ _ _ _ _ => pg_name (i := 4) sc__law_rings.nd rfl (Or.inl rfl)) (fun _ _ _ _ _ => pts_one (pt_val (pe_ix ix_list (pv 1) (pv 4) (fun _ _ => rfl)))) (fun _ _ _ _ _ => pe_lst (pa_cons (pv 4) pa_nil)))
      (pss_cons (ps_while PassesOwn.never (pt_cmpR op_gt (pe_callB call_len_seq (by rfl) T.n_len PySem.boot_len (pa_cons (pv 3) pa_nil)) pe_int (nomark _)) (pss_cons (ps_set (i := 5) sc__law_rings.nd rfl (Or.inr rfl) (pe_bm0 PySem.F.plainAttrs_list PySem.F.slot_list_pop PySem.F.type_list_pop mt_pop (pv 3)))
      (pss_one (ps_for PassesOwn.never rfl (pi_list (pe_callB (cr_sortedSet rfl) (by rfl) T.n_sorted (by decide +kernel) (pa_cons (pe_callTy (cr_setL rfl) (by rfl) T.n_set (by decide +kernel) (pa_cons (pe_lc (own := [("pair", 7)]) (g := gName 7) rfl sc__law_rings.nd (pi_list (pv 0)) (blkOk_by (N := N__law_rings) (sc := defScope s__law_rings) (by decide +kernel)) (fun _ _ _ _ _ => pg_name (i := 7) sc__law_rings.nd rfl (Or.inl rfl)) (fun _ _ _ _ _ => pts_one (pt_cmpR op_eq (pe_ix ix_tup (pv 7) pe_int (fun _ _ => rfl)) (pe_ix ix_list (pv 5) (pe_un un_neg pe_int) (fun _ _ => rfl)) (nomark _))) (fun _ _ _ _ _ => pe_ix ix_tup (pv 7) pe_int (fun _ _ => rfl))) pa_nil)) pa_nil))) (pg_name (i := 6) sc__law_rings.nd rfl (Or.inl rfl)) (pss_one (ps_if (pt_cmpR op_eq (pv 6) (pe_ix ix_list (pv 5) pe_int (fun _ _ => rfl)) (nomark _)) (pss_one (ps_expr (pe_bm PySem.F.plainAttrs_list PySem.F.slot_list_append PySem.F.type_list_append mt_append (pv 2) (pa_cons (pv 5) pa_nil)))) (pss_one (ps_if (PW.pt (pw_and (pt_cmpR op_notIn_seq (pv 6) (pv 5) rfl) (pw_and1 (pt_cmpR op_gt (pv 6) (pe_ix ix_list (pv 5) pe_int (fun _ _ => rfl)) (nomark _))))) (pss_one (ps_expr (pe_bm PySem.F.plainAttrs_list PySem.F.slot_list_append PySem.F.type_list_append mt_append (pv 3) (pa_cons (pe_op op_cat (pv 5) (pe_lst (pa_cons (pv 6) pa_nil))) pa_nil)))) pss_nil))))))))
      (pss_one (ps_ret (pv 2)))))
theorem ok__law_tame (T : Tx g mg) (D : FD g.K mg "_law_tame" s__law_tame)  : FG P g.w g.K mg base CX0 1 "_law_tame" ["ring", "table"] (sp__law_tame g) := by
  obtain ⟨f, fd, F, M⟩ := D.ex
  refine ⟨f, fd, ?_, M, F.kp, F.binds (ps := ["ring", "table"]) fun _ _ _ _ _ _ us hl => match us, hl with | [_, _], _ => rfl⟩
  refine F.ok sc__law_tame (fun vs H Q E h => by (unfold sp__law_tame at h; (repeat (obtain ⟨hh, h⟩ := h; try (subst hh))); all_goals rfl)) (fun cdv A outer s H vs Q E hr h => ⟨t__law_tame g, ?_, pure__law_tame  h⟩)
  exact pss_cons (ps_for PassesOwn.never rfl (pi_list (pv 0)) (pg_name (i := 2) sc__law_tame.nd rfl (Or.inr rfl)) (pss_one (ps_if (pt_cmpR op_eq (pe_callB call_len_seq (by rfl) T.n_len PySem.boot_len (pa_cons (pe_lc (own := [("other", 3)]) (g := gName 3) rfl sc__law_tame.nd (pi_list (pv 0)) (blkOk_by (N := N__law_tame) (sc := defScope s__law_tame) (by decide +kernel)) (fun _ _ _ _ _ => pg_name (i := 3) sc__law_tame.nd rfl (Or.inl rfl)) (fun _ _ _ _ _ => pts_one (pt_not (pt_val (pe_ix ix_list (pe_ix ix_list (pv 1) (pv 2) (fun _ _ => rfl)) (pv 3) (fun _ _ => rfl))))) (fun _ _ _ _ _ => pv 3)) pa_nil)) pe_int (nomark _)) (pss_one (ps_ret pe_bl)) pss_nil)))
      (pss_one (ps_ret pe_bl))
theorem ok__law_goes_round (T : Tx g mg) (D : FD g.K mg "_law_goes_round" s__law_goes_round)  : FG P g.w g.K mg base CX0 1 "_law_goes_round" ["pairs", "table"] (sp__law_goes_round g) := by
  obtain ⟨f, fd, F, M⟩ := D.ex
  refine ⟨f, fd, ?_, M, F.kp, F.binds (ps := ["pairs", "table"]) fun _ _ _ _ _ _ us hl => match us, hl with | [_, _], _ => rfl⟩
  refine F.ok sc__law_goes_round (fun vs H Q E h => by (unfold sp__law_goes_round at h; (repeat (obtain ⟨hh, h⟩ := h; try (subst hh))); all_goals rfl)) (fun cdv A outer s H vs Q E hr h => ⟨t__law_goes_round g, ?_, pure__law_goes_round  h⟩)
  exact pss_cons (ps_set (i := 2) sc__law_goes_round.nd rfl (Or.inr rfl) (pe_lc (own := [("k", 3)]) (g := gName 3) rfl sc__law_goes_round.nd (pi_range1 (by rfl) T.n_range (pa_cons (pe_callB call_len_seq (by rfl) T.n_len PySem.boot_len (pa_cons (pv 1) pa_nil)) pa_nil)) (blkOk_by (N := N__law_goes_round) (sc := defScope s__law_goes_round) (by decide +kernel)) (fun _ _ _ _ _ => pg_name (i := 3) sc__law_goes_round.nd rfl (Or.inl rfl)) (fun _ _ _ _ _ => pts_one (pt_val (pe_ix ix_list (pe_ix ix_list (pv 1) pe_int (fun _ _ => rfl)) (pv 3) (fun _ _ => rfl)))) (fun _ _ _ _ _ => pv 3)))
      (pss_cons (ps_setLc (i := 4) (own := [("pair", 5)]) (g := gName 5) rfl sc__law_goes_round.nd rfl rfl (sw_true rfl rfl rfl (by decide +kernel)) (pi_list (pv 0)) (blkOk_by (N := N__law_goes_round) (sc := defScope s__law_goes_round) (by decide +kernel)) (fun _ _ _ _ _ => pg_name (i := 5) sc__law_goes_round.nd rfl (Or.inl rfl)) (fun _ _ _ _ _ => pts_one (PW.pt (pw_and (pt_val (pe_ix ix_list (pe_ix ix_list (pv 1) pe_int (fun _ _ => rfl)) (pe_ix ix_tup (pv 5) pe_int (fun _ _ => rfl)) (fun _ _ => rfl))) (pw_and1 (pt_not (pt_val (pe_ix ix_list (pe_ix ix_list (pv 1) (pe_ix ix_tup (pv 5) pe_int (fun _ _ => rfl)) (fun _ _ => rfl)) (pe_ix ix_tup (pv 5) pe_int (fun _ _ => rfl)) (fun _ _ => rfl)))))))) (fun _ _ _ _ _ => pv 5))
      (pss_cons (ps_set (i := 6) sc__law_goes_round.nd rfl (Or.inl rfl) pe_bl)
      (pss_cons (ps_while PassesOwn.never (pt_val (pv 6)) (pss_cons (ps_set (i := 7) sc__law_goes_round.nd rfl (Or.inr rfl) (pe_lc (own := [("pair", 5)]) (g := gName 5) rfl sc__law_goes_round.nd (pi_list (pv 4)) (blkOk_by (N := N__law_goes_round) (sc := defScope s__law_goes_round) (by decide +kernel)) (fun _ _ _ _ _ => pg_name (i := 5) sc__law_goes_round.nd rfl (Or.inl rfl)) (fun _ _ _ _ _ => pts_one (pt_cmpR op_in_seq (pe_ix ix_tup (pv 5) pe_int (fun _ _ => rfl)) (pv 2) rfl)) (fun _ _ _ _ _ => pe_ix ix_tup (pv 5) pe_int (fun _ _ => rfl))))
      (pss_cons (ps_setLc (i := 8) (own := [("k", 3)]) (g := gName 3) rfl sc__law_goes_round.nd rfl rfl (sw_true rfl rfl rfl (by decide +kernel)) (pi_list (pv 2)) (blkOk_by (N := N__law_goes_round) (sc := defScope s__law_goes_round) (by decide +kernel)) (fun _ _ _ _ _ => pg_name (i := 3) sc__law_goes_round.nd rfl (Or.inl rfl)) (fun _ _ _ _ _ => pts_one (pt_cmpR op_in_seq (pv 3) (pv 7) rfl)) (fun _ _ _ _ _ => pv 3))
      (pss_cons (ps_set (i := 6) sc__law_goes_round.nd rfl (Or.inl rfl) (pe_cmpR op_lt (pe_callB call_len_seq (by rfl) T.n_len PySem.boot_len (pa_cons (pv 8) pa_nil)) (pe_callB call_len_seq (by rfl) T.n_len PySem.boot_len (pa_cons (pv 2) pa_nil)) (nomark _)))
      (pss_one (ps_set (i := 2) sc__law_goes_round.nd rfl (Or.inr rfl) (pv 8)))))))
      (pss_one (ps_ret (pe_cmpR op_gt (pe_callB call_len_seq (by rfl) T.n_len PySem.boot_len (pa_cons (pv 2) pa_nil)) pe_int (nomark _)))))))
theorem ok_Net_doors (T : Tx g mg) (D : MD g.K g.C "doors" "Net.doors" s_Net_doors)  : MG P g.w g.K mg base CX0 1 g.C "doors" ["self"] (sp_Net_doors g) := by
  obtain ⟨f, fd, F, M⟩ := D.ex
  refine ⟨f, fd, ?_, M, F.binds (ps := ["self"]) fun _ _ _ _ _ _ us hl => match us, hl with | [_], _ => rfl⟩
  refine F.ok sc_Net_doors (fun vs H Q E h => by (unfold sp_Net_doors at h; (repeat (obtain ⟨hh, h⟩ := h; try (subst hh))); all_goals rfl)) (fun cdv A outer s H vs Q E hr h => ⟨t_Net_doors g, ?_, pure_Net_doors T.cf h⟩)
  exact pss_one (ps_ret (pe_callTy call_list_of (by rfl) T.n_list (by decide +kernel) (pa_cons (pe_fld (pv 0) rfl) pa_nil)))
theorem ok_Net_rooms (T : Tx g mg) (D : MD g.K g.C "rooms" "Net.rooms" s_Net_rooms)  : MG P g.w g.K mg base CX0 1 g.C "rooms" ["self"] (sp_Net_rooms g) := by
  obtain ⟨f, fd, F, M⟩ := D.ex
  refine ⟨f, fd, ?_, M, F.binds (ps := ["self"]) fun _ _ _ _ _ _ us hl => match us, hl with | [_], _ => rfl⟩
  refine F.ok sc_Net_rooms (fun vs H Q E h => by (unfold sp_Net_rooms at h; (repeat (obtain ⟨hh, h⟩ := h; try (subst hh))); all_goals rfl)) (fun cdv A outer s H vs Q E hr h => ⟨t_Net_rooms g, ?_, pure_Net_rooms T.cf h⟩)
  exact pss_one (ps_ret (pe_fld (pv 0) rfl))
theorem ok_Net_ask (T : Tx g mg) (D : MD g.K g.C "ask" "Net.ask" s_Net_ask)  : MG P g.w g.K mg base (L2.CX P g.w) 1 g.C "ask" ["self", "room"] (sp_Net_ask g) := by
  obtain ⟨f, fd, F, M⟩ := D.ex
  refine ⟨f, fd, ?_, M, F.binds (ps := ["self", "room"]) fun _ _ _ _ _ _ us hl => match us, hl with | [_, _], _ => rfl⟩
  refine F.okX sc_Net_ask (fun vs H Q E h => by (unfold sp_Net_ask at h; (repeat (obtain ⟨hh, h⟩ := h; try (subst hh))); all_goals rfl)) (fun cdv A outer s H vs Q E hr h => ⟨t_Net_ask g E, ?_, pure_Net_ask T.cf h⟩)
  exact pss_one (ps_if (pt_not (pt_chain op_le op_lt pe_int (pv 1) (pe_fld (pv 0) rfl))) (pss_one (ps_rs T.x_NoRoom rfl (takes_of rfl rfl rfl rfl) (by rfl))) pss_nil)
theorem ok_Net_leads (T : Tx g mg) (D : MD g.K g.C "leads" "Net.leads" s_Net_leads) (G_Net_ask : MG P g.w g.K mg base (L2.CX P g.w) 1 g.C "ask" ["self", "room"] (sp_Net_ask g)) : MG P g.w g.K mg base (L2.CX P g.w) 2 g.C "leads" ["self", "room"] (sp_Net_leads g) := by
  obtain ⟨f, fd, F, M⟩ := D.ex
  refine ⟨f, fd, ?_, M, F.binds (ps := ["self", "room"]) fun _ _ _ _ _ _ us hl => match us, hl with | [_, _], _ => rfl⟩
  refine F.okX sc_Net_leads (fun vs H Q E h => by (unfold sp_Net_leads at h; (repeat (obtain ⟨hh, h⟩ := h; try (subst hh))); all_goals rfl)) (fun cdv A outer s H vs Q E hr h => ⟨t_Net_leads g E, ?_, pure_Net_leads T.cf h⟩)
  exact pss_cons (ps_expr (pe_mt G_Net_ask T.cl hr (passes_call (takes_of rfl rfl rfl rfl) fun _ _ _ _ h => h) (pv 0) (pa_cons (pv 1) pa_nil)))
      (pss_one (ps_ret (pe_callTy call_list_of (by rfl) T.n_list (by decide +kernel) (pa_cons (pe_ix ix_list (pe_fld (pv 0) rfl) (pv 1) (fun _ _ => rfl)) pa_nil))))
theorem ok_steps (T : Tx g mg) (D : FD g.K mg "steps" s_steps) (G_Net_leads : MG P g.w g.K mg base (L2.CX P g.w) 2 g.C "leads" ["self", "room"] (sp_Net_leads g)) : FG P g.w g.K mg base CX0 3 "steps" ["net", "shunned"] (sp_steps g) := by
  obtain ⟨f, fd, F, M⟩ := D.ex
  refine ⟨f, fd, ?_, M, F.kp, F.binds (ps := ["net", "shunned"]) fun _ _ _ _ _ _ us hl => match us, hl with | [_, _], _ => rfl⟩
  refine F.ok sc_steps (fun vs H Q E h => by (unfold sp_steps at h; (repeat (obtain ⟨hh, h⟩ := h; try (subst hh))); all_goals rfl)) (fun cdv A outer s H vs Q E hr h => ⟨t_steps g, ?_, pure_steps T.cf h⟩)
  exact pss_cons (ps_if (pt_cmpR op_eq (pv 1) pe_int (nomark _)) (pss_one (ps_ret pe_dnewK)) pss_nil)
      (pss_cons (ps_set (i := 2) sc_steps.nd rfl (Or.inl rfl) (pe_disp (pps_cons pe_int pe_non pps_nil) (by rfl) (by rfl) (fun z => by cases z) (by decide)))
      (pss_cons (ps_set (i := 3) sc_steps.nd rfl (Or.inl rfl) (pe_lst (pa_cons pe_int pa_nil)))
      (pss_cons (ps_set (i := 4) sc_steps.nd rfl (Or.inl rfl) pe_int)
      (pss_cons (ps_while PassesOwn.never (pt_cmpR op_lt (pv 4) (pe_callB call_len_seq (by rfl) T.n_len PySem.boot_len (pa_cons (pv 3) pa_nil)) (nomark _)) (pss_cons (ps_for PassesOwn.never rfl (pi_list (pe_mt G_Net_leads T.cl hr passL (pv 0) (pa_cons (pe_ix ix_list (pv 3) (pv 4) (fun _ _ => rfl)) pa_nil))) (pg_name (i := 5) sc_steps.nd rfl (Or.inl rfl)) (pss_one (ps_if (PW.pt (pw_and (pt_cmpR op_ne (pv 5) (pv 1) (nomark _)) (pw_and1 (pt_cmp (pc_dnotin (hu_of hr) (pv 5) (pv 2)))))) (pss_cons (ps_dput (hu_of hr) (pv 2) (pv 5) (pe_ix ix_list (pv 3) (pv 4) (fun _ _ => rfl)) rfl)
      (pss_one (ps_expr (pe_bm PySem.F.plainAttrs_list PySem.F.slot_list_append PySem.F.type_list_append mt_append (pv 3) (pa_cons (pv 5) pa_nil))))) pss_nil)))
      (pss_one (ps_set (i := 4) sc_steps.nd rfl (Or.inl rfl) (pe_op op_add (pv 4) pe_int)))))
      (pss_one (ps_ret (pv 2)))))))
theorem ok_reached (T : Tx g mg) (D : FD g.K mg "reached" s_reached) (G_steps : FG P g.w g.K mg base CX0 3 "steps" ["net", "shunned"] (sp_steps g)) : FG P g.w g.K mg base CX0 4 "reached" ["net"] (sp_reached g) := by
  obtain ⟨f, fd, F, M⟩ := D.ex
  refine ⟨f, fd, ?_, M, F.kp, F.binds (ps := ["net"]) fun _ _ _ _ _ _ us hl => match us, hl with | [_], _ => rfl⟩
  refine F.ok sc_reached (fun vs H Q E h => by (unfold sp_reached at h; (repeat (obtain ⟨hh, h⟩ := h; try (subst hh))); all_goals rfl)) (fun cdv A outer s H vs Q E hr h => ⟨t_reached g, ?_, pure_reached  h⟩)
  exact pss_one (ps_ret (pe_callB cr_sortedI (by rfl) T.n_sorted (by decide +kernel) (pa_cons (pe_callTy (call_list_dK rfl) (by rfl) T.n_list (by decide +kernel) (pa_cons (pe_cl G_steps hr (by rfl) pass0 (pa_cons (pv 0) (pa_cons (pe_un un_neg pe_int) pa_nil))) pa_nil)) pa_nil)))
theorem ok_guarded (T : Tx g mg) (D : FD g.K mg "guarded" s_guarded) (G_steps : FG P g.w g.K mg base CX0 3 "steps" ["net", "shunned"] (sp_steps g)) (G_reached : FG P g.w g.K mg base CX0 4 "reached" ["net"] (sp_reached g)) : FG P g.w g.K mg base CX0 5 "guarded" ["net", "room"] (sp_guarded g) := by
  obtain ⟨f, fd, F, M⟩ := D.ex
  refine ⟨f, fd, ?_, M, F.kp, F.binds (ps := ["net", "room"]) fun _ _ _ _ _ _ us hl => match us, hl with | [_, _], _ => rfl⟩
  refine F.ok sc_guarded (fun vs H Q E h => by (unfold sp_guarded at h; (repeat (obtain ⟨hh, h⟩ := h; try (subst hh))); all_goals rfl)) (fun cdv A outer s H vs Q E hr h => ⟨t_guarded g, ?_, pure_guarded  h⟩)
  exact pss_cons (ps_set (i := 2) sc_guarded.nd rfl (Or.inr rfl) (pe_cl G_steps hr (by rfl) pass0 (pa_cons (pv 0) (pa_cons (pv 1) pa_nil))))
      (pss_one (ps_ret (pe_lc (own := [("one", 3)]) (g := gName 3) rfl sc_guarded.nd (pi_list (pe_cl G_reached hr (by rfl) pass0 (pa_cons (pv 0) pa_nil))) (blkOk_by (N := N_guarded) (sc := defScope s_guarded) (by decide +kernel)) (fun _ _ _ _ _ => pg_name (i := 3) sc_guarded.nd rfl (Or.inl rfl)) (fun _ _ _ _ _ => pts_one (pt_cmp (pc_dnotin (hu_of hr) (pv 3) (pv 2)))) (fun _ _ _ _ _ => pv 3))))
theorem ok_inside (T : Tx g mg) (D : FD g.K mg "inside" s_inside) (G_reached : FG P g.w g.K mg base CX0 4 "reached" ["net"] (sp_reached g)) (G_Net_doors : MG P g.w g.K mg base CX0 1 g.C "doors" ["self"] (sp_Net_doors g)) : FG P g.w g.K mg base CX0 5 "inside" ["net"] (sp_inside g) := by
  obtain ⟨f, fd, F, M⟩ := D.ex
  refine ⟨f, fd, ?_, M, F.kp, F.binds (ps := ["net"]) fun _ _ _ _ _ _ us hl => match us, hl with | [_], _ => rfl⟩
  refine F.ok sc_inside (fun vs H Q E h => by (unfold sp_inside at h; (repeat (obtain ⟨hh, h⟩ := h; try (subst hh))); all_goals rfl)) (fun cdv A outer s H vs Q E hr h => ⟨t_inside g, ?_, pure_inside  h⟩)
  exact pss_cons (ps_set (i := 1) sc_inside.nd rfl (Or.inr rfl) (pe_cl G_reached hr (by rfl) pass0 (pa_cons (pv 0) pa_nil)))
      (pss_cons (ps_set (i := 2) sc_inside.nd rfl (Or.inr rfl) (pe_mt0 G_Net_doors T.cl hr pass0 (pv 0)))
      (pss_one (ps_ret (pe_lc (own := [("k", 3)]) (g := gName 3) rfl sc_inside.nd (pi_range1 (by rfl) T.n_range (pa_cons (pe_callB call_len_seq (by rfl) T.n_len PySem.boot_len (pa_cons (pv 2) pa_nil)) pa_nil)) (blkOk_by (N := N_inside) (sc := defScope s_inside) (by decide +kernel)) (fun _ _ _ _ _ => pg_name (i := 3) sc_inside.nd rfl (Or.inl rfl)) (fun _ _ _ _ _ => pts_one (pt_cmpR op_in_seq (pe_ix ix_tup (pe_ix ix_list (pv 2) (pv 3) (fun _ _ => rfl)) pe_int (fun _ _ => rfl)) (pv 1) rfl)) (fun _ _ _ _ _ => pv 3)))))
theorem ok_back_doors (T : Tx g mg) (D : FD g.K mg "back_doors" s_back_doors) (G_Net_doors : MG P g.w g.K mg base CX0 1 g.C "doors" ["self"] (sp_Net_doors g)) (G_Net_rooms : MG P g.w g.K mg base CX0 1 g.C "rooms" ["self"] (sp_Net_rooms g)) (G_guarded : FG P g.w g.K mg base CX0 5 "guarded" ["net", "room"] (sp_guarded g)) (G_inside : FG P g.w g.K mg base CX0 5 "inside" ["net"] (sp_inside g)) : FG P g.w g.K mg base CX0 6 "back_doors" ["net"] (sp_back_doors g) := by
  obtain ⟨f, fd, F, M⟩ := D.ex
  refine ⟨f, fd, ?_, M, F.kp, F.binds (ps := ["net"]) fun _ _ _ _ _ _ us hl => match us, hl with | [_], _ => rfl⟩
  refine F.ok sc_back_doors (fun vs H Q E h => by (unfold sp_back_doors at h; (repeat (obtain ⟨hh, h⟩ := h; try (subst hh))); all_goals rfl)) (fun cdv A outer s H vs Q E hr h => ⟨t_back_doors g, ?_, pure_back_doors  h⟩)
  exact pss_cons (ps_set (i := 1) sc_back_doors.nd rfl (Or.inr rfl) (pe_mt0 G_Net_doors T.cl hr pass0 (pv 0)))
      (pss_cons (ps_set (i := 2) sc_back_doors.nd rfl (Or.inr rfl) (pe_lc (own := [("room", 3)]) (g := gName 3) rfl sc_back_doors.nd (pi_range1 (by rfl) T.n_range (pa_cons (pe_mt0 G_Net_rooms T.cl hr pass0 (pv 0)) pa_nil)) (blkOk_by (N := N_back_doors) (sc := defScope s_back_doors) (by decide +kernel)) (fun _ _ _ _ _ => pg_name (i := 3) sc_back_doors.nd rfl (Or.inl rfl)) (fun _ _ _ _ _ => pts_nil) (fun _ _ _ _ _ => pe_cl G_guarded hr (by rfl) pass0 (pa_cons (pv 0) (pa_cons (pv 3) pa_nil)))))
      (pss_one (ps_ret (pe_lc (own := [("k", 4)]) (g := gName 4) rfl sc_back_doors.nd (pi_list (pe_cl G_inside hr (by rfl) pass0 (pa_cons (pv 0) pa_nil))) (blkOk_by (N := N_back_doors) (sc := defScope s_back_doors) (by decide +kernel)) (fun _ _ _ _ _ => pg_name (i := 4) sc_back_doors.nd rfl (Or.inl rfl)) (fun _ _ _ _ _ => pts_one (pt_cmpR op_in_seq (pe_ix ix_tup (pe_ix ix_list (pv 1) (pv 4) (fun _ _ => rfl)) pe_int (fun _ _ => rfl)) (pe_ix ix_list (pv 2) (pe_ix ix_tup (pe_ix ix_list (pv 1) (pv 4) (fun _ _ => rfl)) pe_int (fun _ _ => rfl)) (fun _ _ => rfl)) rfl)) (fun _ _ _ _ _ => pv 4)))))
theorem ok_wild_ring (T : Tx g mg) (D : FD g.K mg "wild_ring" s_wild_ring) (G_Net_doors : MG P g.w g.K mg base CX0 1 g.C "doors" ["self"] (sp_Net_doors g)) (G_back_doors : FG P g.w g.K mg base CX0 6 "back_doors" ["net"] (sp_back_doors g)) (G_inside : FG P g.w g.K mg base CX0 5 "inside" ["net"] (sp_inside g)) (G_reached : FG P g.w g.K mg base CX0 4 "reached" ["net"] (sp_reached g)) : FG P g.w g.K mg base CX0 7 "wild_ring" ["net"] (sp_wild_ring g) := by
  obtain ⟨f, fd, F, M⟩ := D.ex
  refine ⟨f, fd, ?_, M, F.kp, F.binds (ps := ["net"]) fun _ _ _ _ _ _ us hl => match us, hl with | [_], _ => rfl⟩
  refine F.ok sc_wild_ring (fun vs H Q E h => by (unfold sp_wild_ring at h; (repeat (obtain ⟨hh, h⟩ := h; try (subst hh))); all_goals rfl)) (fun cdv A outer s H vs Q E hr h => ⟨t_wild_ring g, ?_, pure_wild_ring  h⟩)
  exact pss_cons (ps_set (i := 1) sc_wild_ring.nd rfl (Or.inr rfl) (pe_mt0 G_Net_doors T.cl hr pass0 (pv 0)))
      (pss_cons (ps_set (i := 2) sc_wild_ring.nd rfl (Or.inr rfl) (pe_cl G_back_doors hr (by rfl) pass0 (pa_cons (pv 0) pa_nil)))
      (pss_cons (ps_setLc (i := 3) (own := [("k", 4)]) (g := gName 4) rfl sc_wild_ring.nd rfl rfl (sw_true rfl rfl rfl (by decide +kernel)) (pi_list (pe_cl G_inside hr (by rfl) pass0 (pa_cons (pv 0) pa_nil))) (blkOk_by (N := N_wild_ring) (sc := defScope s_wild_ring) (by decide +kernel)) (fun _ _ _ _ _ => pg_name (i := 4) sc_wild_ring.nd rfl (Or.inl rfl)) (fun _ _ _ _ _ => pts_one (pt_cmpR op_notIn_seq (pv 4) (pv 2) rfl)) (fun _ _ _ _ _ => pe_ix ix_list (pv 1) (pv 4) (fun _ _ => rfl)))
      (pss_cons (ps_set (i := 5) sc_wild_ring.nd rfl (Or.inr rfl) (pe_cl G_reached hr (by rfl) pass0 (pa_cons (pv 0) pa_nil)))
      (pss_cons (ps_set (i := 6) sc_wild_ring.nd rfl (Or.inl rfl) pe_bl)
      (pss_cons (ps_while PassesOwn.never (pt_val (pv 6)) (pss_cons (ps_set (i := 6) sc_wild_ring.nd rfl (Or.inl rfl) pe_bl)
      (pss_one (ps_for PassesOwn.never rfl (pi_list (pe_callTy call_list_of (by rfl) T.n_list (by decide +kernel) (pa_cons (pv 5) pa_nil))) (pg_name (i := 7) sc_wild_ring.nd rfl (Or.inr rfl)) (pss_one (ps_if (pt_cmpR op_eq (pe_callB call_len_seq (by rfl) T.n_len PySem.boot_len (pa_cons (pe_lc (own := [("pair", 8)]) (g := gName 8) rfl sc_wild_ring.nd (pi_list (pv 3)) (blkOk_by (N := N_wild_ring) (sc := defScope s_wild_ring) (by decide +kernel)) (fun _ _ _ _ _ => pg_name (i := 8) sc_wild_ring.nd rfl (Or.inl rfl)) (fun _ _ _ _ _ => pts_one (PW.pt (pw_and (pt_cmpR op_eq (pe_ix ix_tup (pv 8) pe_int (fun _ _ => rfl)) (pv 7) (nomark _)) (pw_and1 (pt_cmpR op_in_seq (pe_ix ix_tup (pv 8) pe_int (fun _ _ => rfl)) (pv 5) rfl))))) (fun _ _ _ _ _ => pv 8)) pa_nil)) pe_int (nomark _)) (pss_cons (ps_expr (pe_bm PySem.F.plainAttrs_list PySem.F.slot_list_remove PySem.F.type_list_remove mt_remove (pv 5) (pa_cons (pv 7) pa_nil)))
      (pss_one (ps_set (i := 6) sc_wild_ring.nd rfl (Or.inl rfl) pe_bl))) pss_nil))))))
      (pss_cons (ps_if (pt_cmpR op_eq (pe_callB call_len_seq (by rfl) T.n_len PySem.boot_len (pa_cons (pv 5) pa_nil)) pe_int (nomark _)) (pss_one (ps_ret pe_non)) pss_nil)
      (pss_cons (ps_set (i := 9) sc_wild_ring.nd rfl (Or.inr rfl) (pe_lst (pa_cons (pe_ix ix_list (pv 5) pe_int (fun _ _ => rfl)) pa_nil)))
      (pss_one (ps_while PassesOwn.never (pt_val pe_bl) (pss_cons (ps_setLc (i := 10) (own := [("pair", 8)]) (g := gName 8) rfl sc_wild_ring.nd rfl rfl (sw_true rfl rfl rfl (by decide +kernel)) (pi_list (pv 3)) (blkOk_by (N := N_wild_ring) (sc := defScope s_wild_ring) (by decide +kernel)) (fun _ _ _ _ _ => pg_name (i := 8) sc_wild_ring.nd rfl (Or.inl rfl)) (fun _ _ _ _ _ => pts_one (PW.pt (pw_and (pt_cmpR op_eq (pe_ix ix_tup (pv 8) pe_int (fun _ _ => rfl)) (pe_ix ix_list (pv 9) (pe_un un_neg pe_int) (fun _ _ => rfl)) (nomark _)) (pw_and1 (pt_cmpR op_in_seq (pe_ix ix_tup (pv 8) pe_int (fun _ _ => rfl)) (pv 5) rfl))))) (fun _ _ _ _ _ => pe_ix ix_tup (pv 8) pe_int (fun _ _ => rfl)))
      (pss_cons (ps_if (pt_cmpR op_in_seq (pe_ix ix_list (pv 10) pe_int (fun _ _ => rfl)) (pv 9) rfl) (pss_one (ps_ret (pe_slice sl_list (pv 9) (po_some (pe_bm PySem.F.plainAttrs_list PySem.F.slot_list_index PySem.F.type_list_index mt_index (pv 9) (pa_cons (pe_ix ix_list (pv 10) pe_int (fun _ _ => rfl)) pa_nil))) po_none))) pss_nil)
      (pss_one (ps_expr (pe_bm PySem.F.plainAttrs_list PySem.F.slot_list_append PySem.F.type_list_append mt_append (pv 9) (pa_cons (pe_ix ix_list (pv 10) pe_int (fun _ _ => rfl)) pa_nil)))))))))))))))
theorem ok__law_whole (T : Tx g mg) (D : FD g.K mg "_law_whole" s__law_whole)  : FG P g.w g.K mg base CX0 1 "_law_whole" ["found"] (sp__law_whole g) := by
  obtain ⟨f, fd, F, M⟩ := D.ex
  refine ⟨f, fd, ?_, M, F.kp, F.binds (ps := ["found"]) fun _ _ _ _ _ _ us hl => match us, hl with | [_], _ => rfl⟩
  refine F.ok sc__law_whole (fun vs H Q E h => by (unfold sp__law_whole at h; (repeat (obtain ⟨hh, h⟩ := h; try (subst hh))); all_goals rfl)) (fun cdv A outer s H vs Q E hr h => ⟨t__law_whole g, ?_, pure__law_whole  h⟩)
  exact pss_one (ps_ret (pe_and (pe_callB call_isi (by rfl) T.n_isinstance (by decide +kernel) (pa_cons (pv 0) (pa_cons (pe_bltn (by rfl) T.n_int (by decide +kernel) rfl) pa_nil))) (pe_one (pe_not (pe_callB call_isi (by rfl) T.n_isinstance (by decide +kernel) (pa_cons (pv 0) (pa_cons (pe_bltn (by rfl) T.n_bool (by decide +kernel) rfl) pa_nil)))))))
theorem ok__law_is_wild (T : Tx g mg) (D : FD g.K mg "_law_is_wild" s__law_is_wild) (G__law_whole : FG P g.w g.K mg base CX0 1 "_law_whole" ["found"] (sp__law_whole g)) (G__law_tame : FG P g.w g.K mg base CX0 1 "_law_tame" ["ring", "table"] (sp__law_tame g)) : FG P g.w g.K mg base CX0 2 "_law_is_wild" ["found", "pairs", "table"] (sp__law_is_wild g) := by
  obtain ⟨f, fd, F, M⟩ := D.ex
  refine ⟨f, fd, ?_, M, F.kp, F.binds (ps := ["found", "pairs", "table"]) fun _ _ _ _ _ _ us hl => match us, hl with | [_, _, _], _ => rfl⟩
  refine F.ok sc__law_is_wild (fun vs H Q E h => by (unfold sp__law_is_wild at h; (repeat (obtain ⟨hh, h⟩ := h; try (subst hh))); all_goals rfl)) (fun cdv A outer s H vs Q E hr h => ⟨t__law_is_wild g, ?_, pure__law_is_wild  h⟩)
  exact pss_cons (ps_if (PW.pt (pw_or (pt_not (pt_val (pe_callB call_isi (by rfl) T.n_isinstance (by decide +kernel) (pa_cons (pv 0) (pa_cons (pe_bltn (by rfl) T.n_list (by decide +kernel) rfl) pa_nil))))) (pw_or1 (pt_cmpR op_eq (pe_callB call_len_seq (by rfl) T.n_len PySem.boot_len (pa_cons (pv 0) pa_nil)) pe_int (nomark _))))) (pss_one (ps_ret pe_bl)) pss_nil)
      (pss_cons (ps_for PassesOwn.never rfl (pi_list (pv 0)) (pg_name (i := 3) sc__law_is_wild.nd rfl (Or.inl rfl)) (pss_one (ps_if (PW.pt (pw_or (pt_not (pt_val (pe_cl G__law_whole hr (by rfl) pass0 (pa_cons (pv 3) pa_nil)))) (pw_or (pt_not (pt_chain op_le op_lt pe_int (pv 3) (pe_callB call_len_seq (by rfl) T.n_len PySem.boot_len (pa_cons (pv 2) pa_nil)))) (pw_or (pt_not (pt_val (pe_ix ix_list (pe_ix ix_list (pv 2) pe_int (fun _ _ => rfl)) (pv 3) (fun _ _ => rfl)))) (pw_or1 (pt_cmpR op_ne (pe_bm PySem.F.plainAttrs_list PySem.F.slot_list_count PySem.F.type_list_count mt_lcount (pv 0) (pa_cons (pv 3) pa_nil)) pe_int (nomark _))))))) (pss_one (ps_ret pe_bl)) pss_nil)))
      (pss_cons (ps_for PassesOwn.never rfl (pi_range1 (by rfl) T.n_range (pa_cons (pe_callB call_len_seq (by rfl) T.n_len PySem.boot_len (pa_cons (pv 0) pa_nil)) pa_nil)) (pg_name (i := 4) sc__law_is_wild.nd rfl (Or.inl rfl)) (pss_one (ps_if (pt_cmpR (op_notInD (room65 hr)) (pe_tup (pa_cons (pe_ix ix_list (pv 0) (pe_op op_sub (pv 4) pe_int) (fun _ _ => rfl)) (pa_cons (pe_ix ix_list (pv 0) (pv 4) (fun _ _ => rfl)) pa_nil))) (pv 1) rfl) (pss_one (ps_ret pe_bl)) pss_nil)))
      (pss_one (ps_ret (pe_not (pe_cl G__law_tame hr (by rfl) pass0 (pa_cons (pv 0) (pa_cons (pv 2) pa_nil))))))))
theorem ok_law_k10 (T : Tx g mg) {f : Addr} {fd : FuncData} (F : Fun g.K "law" "law" s_law_k10 f fd) (G__law_cell_at : FG P g.w g.K mg base CX0 1 "_law_cell_at" ["script", "k"] (sp__law_cell_at g)) (G__law_net : FG P g.w g.K mg base CX0 2 "_law_net" ["script", "at", "most", "extra"] (sp__law_net g)) (G_Net___init__ : NG P g.w g.K mg base (L2.CX P g.w) 1 g.C "Net" ["self", "rooms", "doors"] (sp_Net___init__ g)) (G__law_guards : FG P g.w g.K mg base CX0 2 "_law_guards" ["many", "pairs"] (sp__law_guards g)) (G__law_rings : FG P g.w g.K mg base CX0 1 "_law_rings" ["pairs", "there"] (sp__law_rings g)) (G__law_tame : FG P g.w g.K mg base CX0 1 "_law_tame" ["ring", "table"] (sp__law_tame g)) (G__law_goes_round : FG P g.w g.K mg base CX0 1 "_law_goes_round" ["pairs", "table"] (sp__law_goes_round g)) (G_wild_ring : FG P g.w g.K mg base CX0 7 "wild_ring" ["net"] (sp_wild_ring g)) (G__law_is_wild : FG P g.w g.K mg base CX0 2 "_law_is_wild" ["found", "pairs", "table"] (sp__law_is_wild g)) : FnOk P g.w g.K mg base CX0 8 f fd ["script"] (spLaw g) := by
  refine F.ok sc_law_k10 (fun vs H Q E h => by (unfold spLaw spLawK at h; (repeat (obtain ⟨hh, h⟩ := h; try (subst hh))); all_goals rfl)) (fun cdv A outer s H vs Q E hr h => ⟨t_law_k10 g, ?_, pure_law_k10  h⟩)
  exact pss_cons (ps_set (i := 1) sc_law_k10.nd rfl (Or.inl rfl) (pe_cmpR op_ne (pe_op op_mod (pe_cl G__law_cell_at hr (by rfl) pass0 (pa_cons (pv 0) (pa_cons pe_int pa_nil))) pe_int) pe_int (nomark _)))
      (pss_cons (ps_set (i := 2) sc_law_k10.nd rfl (Or.inl rfl) (pe_cl G__law_net hr (by rfl) pass0 (pa_cons (pv 0) (pa_cons pe_int (pa_cons pe_int (pa_cons pe_int pa_nil))))))
      (pss_cons (ps_if (pt_not (pt_val (pv 1))) (pss_one (ps_set (i := 2) sc_law_k10.nd rfl (Or.inl rfl) (pe_cl G__law_net hr (by rfl) pass0 (pa_cons (pv 0) (pa_cons pe_int (pa_cons pe_int (pa_cons pe_int pa_nil))))))) pss_nil)
      (pss_cons (ps_set (i := 3) sc_law_k10.nd rfl (Or.inl rfl) (pe_ix ix_tup (pv 2) pe_int (fun _ _ => rfl)))
      (pss_cons (ps_set (i := 4) sc_law_k10.nd rfl (Or.inl rfl) (pe_mk G_Net___init__ hr (by rfl) passL (pa_cons (pe_ix ix_tup (pv 2) pe_int (fun _ _ => rfl)) (pa_cons (pe_callTy call_list_of (by rfl) T.n_list (by decide +kernel) (pa_cons (pv 3) pa_nil)) pa_nil))))
      (pss_cons (ps_set (i := 5) sc_law_k10.nd rfl (Or.inr rfl) (pe_cl G__law_guards hr (by rfl) pass0 (pa_cons (pe_ix ix_tup (pv 2) pe_int (fun _ _ => rfl)) (pa_cons (pv 3) pa_nil))))
      (pss_cons (ps_if (pt_val (pv 1)) (pss_one (ps_set (i := 6) sc_law_k10.nd rfl (Or.inl rfl) (pe_cmpR op_gt (pe_callB call_len_seq (by rfl) T.n_len PySem.boot_len (pa_cons (pe_lc (own := [("ring", 7)]) (g := gName 7) rfl sc_law_k10.nd (pi_list (pe_cl G__law_rings hr (by rfl) pass0 (pa_cons (pv 3) (pa_cons (pe_ix ix_list (pv 5) pe_int (fun _ _ => rfl)) pa_nil)))) (blkOk_by (N := N_law_k10) (sc := defScope s_law_k10) (by decide +kernel)) (fun _ _ _ _ _ => pg_name (i := 7) sc_law_k10.nd rfl (Or.inl rfl)) (fun _ _ _ _ _ => pts_one (pt_not (pt_val (pe_cl G__law_tame hr (by rfl) pass0 (pa_cons (pv 7) (pa_cons (pv 5) pa_nil)))))) (fun _ _ _ _ _ => pv 7)) pa_nil)) pe_int (nomark _)))) (pss_one (ps_set (i := 6) sc_law_k10.nd rfl (Or.inl rfl) (pe_cl G__law_goes_round hr (by rfl) pass0 (pa_cons (pv 3) (pa_cons (pv 5) pa_nil))))))
      (pss_cons (ps_for PassesOwn.never rfl (pi_range1 (by rfl) T.n_range (pa_cons pe_int pa_nil)) (pg_name (i := 8) sc_law_k10.nd rfl (Or.inl rfl)) (pss_cons (ps_set (i := 9) sc_law_k10.nd rfl (Or.inl rfl) (pe_cl G_wild_ring hr (by rfl) pass0 (pa_cons (pv 4) pa_nil)))
      (pss_cons (ps_if (pt_cmpR op_ne (pe_cmpR op_isN (pv 9) pe_non (nomark _)) (pe_not (pv 6)) (nomark _)) (pss_one (ps_ret pe_bl)) pss_nil)
      (pss_one (ps_if (pt_cmpR op_notN (pv 9) pe_non (nomark _)) (pss_cons (ps_if (pt_not (pt_val (pe_cl G__law_is_wild hr (by rfl) pass0 (pa_cons (pv 9) (pa_cons (pv 3) (pa_cons (pv 5) pa_nil)))))) (pss_one (ps_ret pe_bl)) pss_nil)
      (pss_one (ps_expr (pe_bm0 PySem.F.plainAttrs_list PySem.F.slot_list_clear PySem.F.type_list_clear mt_clear (pv 9))))) pss_nil)))))
      (pss_one (ps_ret pe_bl)))))))))
theorem ok_all (T : Tx g mg) (D__law_cell_at : FD g.K mg "_law_cell_at" s__law_cell_at) (D__law_net : FD g.K mg "_law_net" s__law_net) (D_Net___init__ : ND g.K mg g.C "Net" "Net.__init__" s_Net___init__) (D__law_past : FD g.K mg "_law_past" s__law_past) (D__law_guards : FD g.K mg "_law_guards" s__law_guards) (D__law_rings : FD g.K mg "_law_rings" s__law_rings) (D__law_tame : FD g.K mg "_law_tame" s__law_tame) (D__law_goes_round : FD g.K mg "_law_goes_round" s__law_goes_round) (D_Net_doors : MD g.K g.C "doors" "Net.doors" s_Net_doors) (D_Net_rooms : MD g.K g.C "rooms" "Net.rooms" s_Net_rooms) (D_Net_ask : MD g.K g.C "ask" "Net.ask" s_Net_ask) (D_Net_leads : MD g.K g.C "leads" "Net.leads" s_Net_leads) (D_steps : FD g.K mg "steps" s_steps) (D_reached : FD g.K mg "reached" s_reached) (D_guarded : FD g.K mg "guarded" s_guarded) (D_inside : FD g.K mg "inside" s_inside) (D_back_doors : FD g.K mg "back_doors" s_back_doors) (D_wild_ring : FD g.K mg "wild_ring" s_wild_ring) (D__law_whole : FD g.K mg "_law_whole" s__law_whole) (D__law_is_wild : FD g.K mg "_law_is_wild" s__law_is_wild) {fa : Addr} {fd : FuncData} (FL : Fun g.K "law" "law" s_law_k10 fa fd) : FnOk P g.w g.K mg base CX0 8 fa fd ["script"] (spLaw g) := by
  have G__law_cell_at : FG P g.w g.K mg base CX0 1 "_law_cell_at" ["script", "k"] (sp__law_cell_at g) := (ok__law_cell_at T D__law_cell_at)
  have G__law_net : FG P g.w g.K mg base CX0 2 "_law_net" ["script", "at", "most", "extra"] (sp__law_net g) := (ok__law_net T D__law_net G__law_cell_at)
  have G_Net___init__ : NG P g.w g.K mg base (L2.CX P g.w) 1 g.C "Net" ["self", "rooms", "doors"] (sp_Net___init__ g) := (ok_Net___init__ T D_Net___init__)
  have G__law_past : FG P g.w g.K mg base CX0 1 "_law_past" ["many", "pairs", "shunned"] (sp__law_past g) := (ok__law_past T D__law_past)
  have G__law_guards : FG P g.w g.K mg base CX0 2 "_law_guards" ["many", "pairs"] (sp__law_guards g) := (ok__law_guards T D__law_guards G__law_past)
  have G__law_rings : FG P g.w g.K mg base CX0 1 "_law_rings" ["pairs", "there"] (sp__law_rings g) := (ok__law_rings T D__law_rings)
  have G__law_tame : FG P g.w g.K mg base CX0 1 "_law_tame" ["ring", "table"] (sp__law_tame g) := (ok__law_tame T D__law_tame)
  have G__law_goes_round : FG P g.w g.K mg base CX0 1 "_law_goes_round" ["pairs", "table"] (sp__law_goes_round g) := (ok__law_goes_round T D__law_goes_round)
  have G_Net_doors : MG P g.w g.K mg base CX0 1 g.C "doors" ["self"] (sp_Net_doors g) := (ok_Net_doors T D_Net_doors)
  have G_Net_rooms : MG P g.w g.K mg base CX0 1 g.C "rooms" ["self"] (sp_Net_rooms g) := (ok_Net_rooms T D_Net_rooms)
  have G_Net_ask : MG P g.w g.K mg base (L2.CX P g.w) 1 g.C "ask" ["self", "room"] (sp_Net_ask g) := (ok_Net_ask T D_Net_ask)
  have G_Net_leads : MG P g.w g.K mg base (L2.CX P g.w) 2 g.C "leads" ["self", "room"] (sp_Net_leads g) := (ok_Net_leads T D_Net_leads G_Net_ask)
  have G_steps : FG P g.w g.K mg base CX0 3 "steps" ["net", "shunned"] (sp_steps g) := (ok_steps T D_steps G_Net_leads)
  have G_reached : FG P g.w g.K mg base CX0 4 "reached" ["net"] (sp_reached g) := (ok_reached T D_reached G_steps)
  have G_guarded : FG P g.w g.K mg base CX0 5 "guarded" ["net", "room"] (sp_guarded g) := (ok_guarded T D_guarded G_steps G_reached)
  have G_inside : FG P g.w g.K mg base CX0 5 "inside" ["net"] (sp_inside g) := (ok_inside T D_inside G_reached G_Net_doors)
  have G_back_doors : FG P g.w g.K mg base CX0 6 "back_doors" ["net"] (sp_back_doors g) := (ok_back_doors T D_back_doors G_Net_doors G_Net_rooms G_guarded G_inside)
  have G_wild_ring : FG P g.w g.K mg base CX0 7 "wild_ring" ["net"] (sp_wild_ring g) := (ok_wild_ring T D_wild_ring G_Net_doors G_back_doors G_inside G_reached)
  have G__law_whole : FG P g.w g.K mg base CX0 1 "_law_whole" ["found"] (sp__law_whole g) := (ok__law_whole T D__law_whole)
  have G__law_is_wild : FG P g.w g.K mg base CX0 2 "_law_is_wild" ["found", "pairs", "table"] (sp__law_is_wild g) := (ok__law_is_wild T D__law_is_wild G__law_whole G__law_tame)
  exact ok_law_k10 T FL G__law_cell_at G__law_net G_Net___init__ G__law_guards G__law_rings G__law_tame G__law_goes_round G_wild_ring G__law_is_wild
end
theorem all_mk {l : PySem.W.OpenLaw} {w : World} {K : PySem.W.Frag} {h : Heap} {mg : Str → Option Value} {fa C cP cN cR : Addr} (X : K.In h) (G : h.Ns mainGlobals mg) (hfa : mg "law" = some (.ref fa))
    {f0 : Addr} {od0 an0 : Option Addr} {sl0 : Array (Option Value)} {oc0 kV0 dc0 pm0 cd0 ct0 : Value}
    (a0 : PySem.W.nsIn K mainGlobals "_law_cell_at" = some (some (.ref f0)))
    (l0 : K.lookup f0 = some ⟨oc0, od0, .func (PySem.W.fnOf "_law_cell_at" "_law_cell_at" (defArgs s__law_cell_at) (defBody s__law_cell_at) (defScope s__law_cell_at) .none kV0 dc0 pm0 an0 cd0 ct0), sl0⟩) (c0 : PySem.W.codeIn K cd0 "_law_cell_at" = true) (k0 : PySem.W.keepIn K (.ref f0) = true)
    {f1 : Addr} {od1 an1 : Option Addr} {sl1 : Array (Option Value)} {oc1 kV1 dc1 pm1 cd1 ct1 : Value}
    (a1 : PySem.W.nsIn K mainGlobals "_law_net" = some (some (.ref f1)))
    (l1 : K.lookup f1 = some ⟨oc1, od1, .func (PySem.W.fnOf "_law_net" "_law_net" (defArgs s__law_net) (defBody s__law_net) (defScope s__law_net) .none kV1 dc1 pm1 an1 cd1 ct1), sl1⟩) (c1 : PySem.W.codeIn K cd1 "_law_net" = true) (k1 : PySem.W.keepIn K (.ref f1) = true)
    {f2 : Addr} {od2 an2 : Option Addr} {sl2 : Array (Option Value)} {oc2 kV2 dc2 pm2 cd2 ct2 : Value}
    (a2 : PySem.W.findIn K (.ref C) "__init__" = some (some (.ref f2))) (i2 : PySem.W.isFn K (.ref f2) = true)
    (l2 : K.lookup f2 = some ⟨oc2, od2, .func (PySem.W.fnOf "__init__" "Net.__init__" (defArgs s_Net___init__) (defBody s_Net___init__) (defScope s_Net___init__) .none kV2 dc2 pm2 an2 cd2 ct2), sl2⟩) (c2 : PySem.W.codeIn K cd2 "Net.__init__" = true) (k2 : PySem.W.keepIn K (.ref f2) = true)
    {f3 : Addr} {od3 an3 : Option Addr} {sl3 : Array (Option Value)} {oc3 kV3 dc3 pm3 cd3 ct3 : Value}
    (a3 : PySem.W.nsIn K mainGlobals "_law_past" = some (some (.ref f3)))
    (l3 : K.lookup f3 = some ⟨oc3, od3, .func (PySem.W.fnOf "_law_past" "_law_past" (defArgs s__law_past) (defBody s__law_past) (defScope s__law_past) .none kV3 dc3 pm3 an3 cd3 ct3), sl3⟩) (c3 : PySem.W.codeIn K cd3 "_law_past" = true) (k3 : PySem.W.keepIn K (.ref f3) = true)
    {f4 : Addr} {od4 an4 : Option Addr} {sl4 : Array (Option Value)} {oc4 kV4 dc4 pm4 cd4 ct4 : Value}
    (a4 : PySem.W.nsIn K mainGlobals "_law_guards" = some (some (.ref f4)))
    (l4 : K.lookup f4 = some ⟨oc4, od4, .func (PySem.W.fnOf "_law_guards" "_law_guards" (defArgs s__law_guards) (defBody s__law_guards) (defScope s__law_guards) .none kV4 dc4 pm4 an4 cd4 ct4), sl4⟩) (c4 : PySem.W.codeIn K cd4 "_law_guards" = true) (k4 : PySem.W.keepIn K (.ref f4) = true)
    {f5 : Addr} {od5 an5 : Option Addr} {sl5 : Array (Option Value)} {oc5 kV5 dc5 pm5 cd5 ct5 : Value}
    (a5 : PySem.W.nsIn K mainGlobals "_law_rings" = some (some (.ref f5)))
    (l5 : K.lookup f5 = some ⟨oc5, od5, .func (PySem.W.fnOf "_law_rings" "_law_rings" (defArgs s__law_rings) (defBody s__law_rings) (defScope s__law_rings) .none kV5 dc5 pm5 an5 cd5 ct5), sl5⟩) (c5 : PySem.W.codeIn K cd5 "_law_rings" = true) (k5 : PySem.W.keepIn K (.ref f5) = true)
    {f6 : Addr} {od6 an6 : Option Addr} {sl6 : Array (Option Value)} {oc6 kV6 dc6 pm6 cd6 ct6 : Value}
    (a6 : PySem.W.nsIn K mainGlobals "_law_tame" = some (some (.ref f6)))
    (l6 : K.lookup f6 = some ⟨oc6, od6, .func (PySem.W.fnOf "_law_tame" "_law_tame" (defArgs s__law_tame) (defBody s__law_tame) (defScope s__law_tame) .none kV6 dc6 pm6 an6 cd6 ct6), sl6⟩) (c6 : PySem.W.codeIn K cd6 "_law_tame" = true) (k6 : PySem.W.keepIn K (.ref f6) = true)
    {f7 : Addr} {od7 an7 : Option Addr} {sl7 : Array (Option Value)} {oc7 kV7 dc7 pm7 cd7 ct7 : Value}
    (a7 : PySem.W.nsIn K mainGlobals "_law_goes_round" = some (some (.ref f7)))
    (l7 : K.lookup f7 = some ⟨oc7, od7, .func (PySem.W.fnOf "_law_goes_round" "_law_goes_round" (defArgs s__law_goes_round) (defBody s__law_goes_round) (defScope s__law_goes_round) .none kV7 dc7 pm7 an7 cd7 ct7), sl7⟩) (c7 : PySem.W.codeIn K cd7 "_law_goes_round" = true) (k7 : PySem.W.keepIn K (.ref f7) = true)
    {f8 : Addr} {od8 an8 : Option Addr} {sl8 : Array (Option Value)} {oc8 kV8 dc8 pm8 cd8 ct8 : Value}
    (a8 : PySem.W.findIn K (.ref C) "doors" = some (some (.ref f8))) (i8 : PySem.W.isFn K (.ref f8) = true)
    (l8 : K.lookup f8 = some ⟨oc8, od8, .func (PySem.W.fnOf "doors" "Net.doors" (defArgs s_Net_doors) (defBody s_Net_doors) (defScope s_Net_doors) .none kV8 dc8 pm8 an8 cd8 ct8), sl8⟩) (c8 : PySem.W.codeIn K cd8 "Net.doors" = true) (k8 : PySem.W.keepIn K (.ref f8) = true)
    {f9 : Addr} {od9 an9 : Option Addr} {sl9 : Array (Option Value)} {oc9 kV9 dc9 pm9 cd9 ct9 : Value}
    (a9 : PySem.W.findIn K (.ref C) "rooms" = some (some (.ref f9))) (i9 : PySem.W.isFn K (.ref f9) = true)
    (l9 : K.lookup f9 = some ⟨oc9, od9, .func (PySem.W.fnOf "rooms" "Net.rooms" (defArgs s_Net_rooms) (defBody s_Net_rooms) (defScope s_Net_rooms) .none kV9 dc9 pm9 an9 cd9 ct9), sl9⟩) (c9 : PySem.W.codeIn K cd9 "Net.rooms" = true) (k9 : PySem.W.keepIn K (.ref f9) = true)
    {f10 : Addr} {od10 an10 : Option Addr} {sl10 : Array (Option Value)} {oc10 kV10 dc10 pm10 cd10 ct10 : Value}
    (a10 : PySem.W.findIn K (.ref C) "ask" = some (some (.ref f10))) (i10 : PySem.W.isFn K (.ref f10) = true)
    (l10 : K.lookup f10 = some ⟨oc10, od10, .func (PySem.W.fnOf "ask" "Net.ask" (defArgs s_Net_ask) (defBody s_Net_ask) (defScope s_Net_ask) .none kV10 dc10 pm10 an10 cd10 ct10), sl10⟩) (c10 : PySem.W.codeIn K cd10 "Net.ask" = true) (k10 : PySem.W.keepIn K (.ref f10) = true)
    {f11 : Addr} {od11 an11 : Option Addr} {sl11 : Array (Option Value)} {oc11 kV11 dc11 pm11 cd11 ct11 : Value}
    (a11 : PySem.W.findIn K (.ref C) "leads" = some (some (.ref f11))) (i11 : PySem.W.isFn K (.ref f11) = true)
    (l11 : K.lookup f11 = some ⟨oc11, od11, .func (PySem.W.fnOf "leads" "Net.leads" (defArgs s_Net_leads) (defBody s_Net_leads) (defScope s_Net_leads) .none kV11 dc11 pm11 an11 cd11 ct11), sl11⟩) (c11 : PySem.W.codeIn K cd11 "Net.leads" = true) (k11 : PySem.W.keepIn K (.ref f11) = true)
    {f12 : Addr} {od12 an12 : Option Addr} {sl12 : Array (Option Value)} {oc12 kV12 dc12 pm12 cd12 ct12 : Value}
    (a12 : PySem.W.nsIn K mainGlobals "steps" = some (some (.ref f12)))
    (l12 : K.lookup f12 = some ⟨oc12, od12, .func (PySem.W.fnOf "steps" "steps" (defArgs s_steps) (defBody s_steps) (defScope s_steps) .none kV12 dc12 pm12 an12 cd12 ct12), sl12⟩) (c12 : PySem.W.codeIn K cd12 "steps" = true) (k12 : PySem.W.keepIn K (.ref f12) = true)
    {f13 : Addr} {od13 an13 : Option Addr} {sl13 : Array (Option Value)} {oc13 kV13 dc13 pm13 cd13 ct13 : Value}
    (a13 : PySem.W.nsIn K mainGlobals "reached" = some (some (.ref f13)))
    (l13 : K.lookup f13 = some ⟨oc13, od13, .func (PySem.W.fnOf "reached" "reached" (defArgs s_reached) (defBody s_reached) (defScope s_reached) .none kV13 dc13 pm13 an13 cd13 ct13), sl13⟩) (c13 : PySem.W.codeIn K cd13 "reached" = true) (k13 : PySem.W.keepIn K (.ref f13) = true)
    {f14 : Addr} {od14 an14 : Option Addr} {sl14 : Array (Option Value)} {oc14 kV14 dc14 pm14 cd14 ct14 : Value}
    (a14 : PySem.W.nsIn K mainGlobals "guarded" = some (some (.ref f14)))
    (l14 : K.lookup f14 = some ⟨oc14, od14, .func (PySem.W.fnOf "guarded" "guarded" (defArgs s_guarded) (defBody s_guarded) (defScope s_guarded) .none kV14 dc14 pm14 an14 cd14 ct14), sl14⟩) (c14 : PySem.W.codeIn K cd14 "guarded" = true) (k14 : PySem.W.keepIn K (.ref f14) = true)
    {f15 : Addr} {od15 an15 : Option Addr} {sl15 : Array (Option Value)} {oc15 kV15 dc15 pm15 cd15 ct15 : Value}
    (a15 : PySem.W.nsIn K mainGlobals "inside" = some (some (.ref f15)))
    (l15 : K.lookup f15 = some ⟨oc15, od15, .func (PySem.W.fnOf "inside" "inside" (defArgs s_inside) (defBody s_inside) (defScope s_inside) .none kV15 dc15 pm15 an15 cd15 ct15), sl15⟩) (c15 : PySem.W.codeIn K cd15 "inside" = true) (k15 : PySem.W.keepIn K (.ref f15) = true)
    {f16 : Addr} {od16 an16 : Option Addr} {sl16 : Array (Option Value)} {oc16 kV16 dc16 pm16 cd16 ct16 : Value}
    (a16 : PySem.W.nsIn K mainGlobals "back_doors" = some (some (.ref f16)))
    (l16 : K.lookup f16 = some ⟨oc16, od16, .func (PySem.W.fnOf "back_doors" "back_doors" (defArgs s_back_doors) (defBody s_back_doors) (defScope s_back_doors) .none kV16 dc16 pm16 an16 cd16 ct16), sl16⟩) (c16 : PySem.W.codeIn K cd16 "back_doors" = true) (k16 : PySem.W.keepIn K (.ref f16) = true)
    {f17 : Addr} {od17 an17 : Option Addr} {sl17 : Array (Option Value)} {oc17 kV17 dc17 pm17 cd17 ct17 : Value}
    (a17 : PySem.W.nsIn K mainGlobals "wild_ring" = some (some (.ref f17)))
    (l17 : K.lookup f17 = some ⟨oc17, od17, .func (PySem.W.fnOf "wild_ring" "wild_ring" (defArgs s_wild_ring) (defBody s_wild_ring) (defScope s_wild_ring) .none kV17 dc17 pm17 an17 cd17 ct17), sl17⟩) (c17 : PySem.W.codeIn K cd17 "wild_ring" = true) (k17 : PySem.W.keepIn K (.ref f17) = true)
    {f18 : Addr} {od18 an18 : Option Addr} {sl18 : Array (Option Value)} {oc18 kV18 dc18 pm18 cd18 ct18 : Value}
    (a18 : PySem.W.nsIn K mainGlobals "_law_whole" = some (some (.ref f18)))
    (l18 : K.lookup f18 = some ⟨oc18, od18, .func (PySem.W.fnOf "_law_whole" "_law_whole" (defArgs s__law_whole) (defBody s__law_whole) (defScope s__law_whole) .none kV18 dc18 pm18 an18 cd18 ct18), sl18⟩) (c18 : PySem.W.codeIn K cd18 "_law_whole" = true) (k18 : PySem.W.keepIn K (.ref f18) = true)
    {f19 : Addr} {od19 an19 : Option Addr} {sl19 : Array (Option Value)} {oc19 kV19 dc19 pm19 cd19 ct19 : Value}
    (a19 : PySem.W.nsIn K mainGlobals "_law_is_wild" = some (some (.ref f19)))
    (l19 : K.lookup f19 = some ⟨oc19, od19, .func (PySem.W.fnOf "_law_is_wild" "_law_is_wild" (defArgs s__law_is_wild) (defBody s__law_is_wild) (defScope s__law_is_wild) .none kV19 dc19 pm19 an19 cd19 ct19), sl19⟩) (c19 : PySem.W.codeIn K cd19 "_law_is_wild" = true) (k19 : PySem.W.keepIn K (.ref f19) = true)
    {f20 : Addr} {od20 an20 : Option Addr} {sl20 : Array (Option Value)} {oc20 kV20 dc20 pm20 cd20 ct20 : Value}
    (a20 : PySem.W.nsIn K mainGlobals "law" = some (some (.ref f20)))
    (l20 : K.lookup f20 = some ⟨oc20, od20, .func (PySem.W.fnOf "law" "law" (defArgs s_law_k10) (defBody s_law_k10) (defScope s_law_k10) .none kV20 dc20 pm20 an20 cd20 ct20), sl20⟩) (c20 : PySem.W.codeIn K cd20 "law" = true) (k20 : PySem.W.keepIn K (.ref f20) = true)
    (aC : PySem.W.nsIn K mainGlobals "Net" = some (some (.ref C))) (pg : PySem.W.plainGet K C Str.empty = true) (hd : PySem.W.hasDictIn K C = true) (po : PySem.W.plainOver K C = true) (sa : PySem.W.findIn K (.ref C) "__setattr__" = some (some (.builtin "object.__setattr__"))) (mk : PySem.W.makesIn K C = true) (kc : PySem.W.keepIn K (.ref C) = true)
    (no_many : PySem.W.findIn K (.ref C) "many" = some none)
    (no_pairs : PySem.W.findIn K (.ref C) "pairs" = some none)
    (no_ahead : PySem.W.findIn K (.ref C) "ahead" = some none)
    (no_behind : PySem.W.findIn K (.ref C) "behind" = some none)
    (z_ValueError : PySem.W.nsIn K mainGlobals "ValueError" = some none)
    (z_bool : PySem.W.nsIn K mainGlobals "bool" = some none)
    (z_int : PySem.W.nsIn K mainGlobals "int" = some none)
    (z_isinstance : PySem.W.nsIn K mainGlobals "isinstance" = some none)
    (z_len : PySem.W.nsIn K mainGlobals "len" = some none)
    (z_list : PySem.W.nsIn K mainGlobals "list" = some none)
    (z_range : PySem.W.nsIn K mainGlobals "range" = some none)
    (z_set : PySem.W.nsIn K mainGlobals "set" = some none)
    (z_sorted : PySem.W.nsIn K mainGlobals "sorted" = some none)
    {t_MOST_ROOMS : Tok} (z_MOST_ROOMS : PySem.W.nsIn K mainGlobals "MOST_ROOMS" = some (some (.int 40 t_MOST_ROOMS)))
    {t_MOST_DOORS : Tok} (z_MOST_DOORS : PySem.W.nsIn K mainGlobals "MOST_DOORS" = some (some (.int 100 t_MOST_DOORS)))
    (g_PassError : PySem.W.nsIn K mainGlobals "PassError" = some (some (.ref cP))) (x_PassError : PySem.W.excIn K cP [.type "ValueError", .type "Exception", .type "BaseException", .type "object"] "ValueError.__new__" = true) (k_PassError : PySem.W.keepIn K (.ref cP) = true) (b_PassError : PySem.W.subIn K (.ref cP) (.type "BaseException") = some true) (t_PassError : PySem.W.typeIn K (.ref cP) = some (.type "type"))
    (g_NoNet : PySem.W.nsIn K mainGlobals "NoNet" = some (some (.ref cN))) (x_NoNet : PySem.W.excIn K cN [.type "ValueError", .type "Exception", .type "BaseException", .type "object"] "ValueError.__new__" = true) (k_NoNet : PySem.W.keepIn K (.ref cN) = true) (b_NoNet : PySem.W.subIn K (.ref cN) (.type "BaseException") = some true) (t_NoNet : PySem.W.typeIn K (.ref cN) = some (.type "type"))
    (g_NoRoom : PySem.W.nsIn K mainGlobals "NoRoom" = some (some (.ref cR))) (x_NoRoom : PySem.W.excIn K cR [.type "ValueError", .type "Exception", .type "BaseException", .type "object"] "ValueError.__new__" = true) (k_NoRoom : PySem.W.keepIn K (.ref cR) = true) (b_NoRoom : PySem.W.subIn K (.ref cR) (.type "BaseException") = some true) (t_NoRoom : PySem.W.typeIn K (.ref cR) = some (.type "type"))
    : ∃ fd : FuncData, (∀ (s : Shared) (v : Value), BindsTo s fd ⟨[v], []⟩ [("script", v)]) ∧ ∀ base : Heap, K.In base → base.Ns mainGlobals mg → FnOk l.prog w K mg base CX0 8 fa fd ["script"] (spLawK K) := by
  have e := hfa.symm.trans (PySem.W.mg_of X G a20)
  cases e
  have cl : Cls K C := ⟨pg, hd, po, sa⟩
  have T : Tx ⟨K, w, C, cP, cN, cR, 0⟩ mg := { cf := ⟨cl, no_many, no_pairs, no_ahead, no_behind⟩, cl := cl, n_ValueError := PySem.W.mg_none_of X G z_ValueError, n_bool := PySem.W.mg_none_of X G z_bool, n_int := PySem.W.mg_none_of X G z_int, n_isinstance := PySem.W.mg_none_of X G z_isinstance, n_len := PySem.W.mg_none_of X G z_len, n_list := PySem.W.mg_none_of X G z_list, n_range := PySem.W.mg_none_of X G z_range, n_set := PySem.W.mg_none_of X G z_set, n_sorted := PySem.W.mg_none_of X G z_sorted, m_MOST_ROOMS := ⟨_, PySem.W.mg_of X G z_MOST_ROOMS⟩, m_MOST_DOORS := ⟨_, PySem.W.mg_of X G z_MOST_DOORS⟩, x_PassError := ⟨PySem.W.mg_of X G g_PassError, x_PassError, k_PassError, b_PassError, t_PassError⟩, x_NoNet := ⟨PySem.W.mg_of X G g_NoNet, x_NoNet, k_NoNet, b_NoNet, t_NoNet⟩, x_NoRoom := ⟨PySem.W.mg_of X G g_NoRoom, x_NoRoom, k_NoRoom, b_NoRoom, t_NoRoom⟩ }
  have D__law_cell_at : FD K mg "_law_cell_at" s__law_cell_at := ⟨_, _, fun_mk (st := s__law_cell_at) l0 c0 k0, PySem.W.mg_of X G a0⟩
  have D__law_net : FD K mg "_law_net" s__law_net := ⟨_, _, fun_mk (st := s__law_net) l1 c1 k1, PySem.W.mg_of X G a1⟩
  have D_Net___init__ : ND K mg C "Net" "Net.__init__" s_Net___init__ := ⟨_, _, fun_mk (st := s_Net___init__) l2 c2 k2, ⟨mk, a2, i2, kc⟩, PySem.W.mg_of X G aC⟩
  have D__law_past : FD K mg "_law_past" s__law_past := ⟨_, _, fun_mk (st := s__law_past) l3 c3 k3, PySem.W.mg_of X G a3⟩
  have D__law_guards : FD K mg "_law_guards" s__law_guards := ⟨_, _, fun_mk (st := s__law_guards) l4 c4 k4, PySem.W.mg_of X G a4⟩
  have D__law_rings : FD K mg "_law_rings" s__law_rings := ⟨_, _, fun_mk (st := s__law_rings) l5 c5 k5, PySem.W.mg_of X G a5⟩
  have D__law_tame : FD K mg "_law_tame" s__law_tame := ⟨_, _, fun_mk (st := s__law_tame) l6 c6 k6, PySem.W.mg_of X G a6⟩
  have D__law_goes_round : FD K mg "_law_goes_round" s__law_goes_round := ⟨_, _, fun_mk (st := s__law_goes_round) l7 c7 k7, PySem.W.mg_of X G a7⟩
  have D_Net_doors : MD K C "doors" "Net.doors" s_Net_doors := ⟨_, _, fun_mk (st := s_Net_doors) l8 c8 k8, ⟨a8, i8, k8⟩⟩
  have D_Net_rooms : MD K C "rooms" "Net.rooms" s_Net_rooms := ⟨_, _, fun_mk (st := s_Net_rooms) l9 c9 k9, ⟨a9, i9, k9⟩⟩
  have D_Net_ask : MD K C "ask" "Net.ask" s_Net_ask := ⟨_, _, fun_mk (st := s_Net_ask) l10 c10 k10, ⟨a10, i10, k10⟩⟩
  have D_Net_leads : MD K C "leads" "Net.leads" s_Net_leads := ⟨_, _, fun_mk (st := s_Net_leads) l11 c11 k11, ⟨a11, i11, k11⟩⟩
  have D_steps : FD K mg "steps" s_steps := ⟨_, _, fun_mk (st := s_steps) l12 c12 k12, PySem.W.mg_of X G a12⟩
  have D_reached : FD K mg "reached" s_reached := ⟨_, _, fun_mk (st := s_reached) l13 c13 k13, PySem.W.mg_of X G a13⟩
  have D_guarded : FD K mg "guarded" s_guarded := ⟨_, _, fun_mk (st := s_guarded) l14 c14 k14, PySem.W.mg_of X G a14⟩
  have D_inside : FD K mg "inside" s_inside := ⟨_, _, fun_mk (st := s_inside) l15 c15 k15, PySem.W.mg_of X G a15⟩
  have D_back_doors : FD K mg "back_doors" s_back_doors := ⟨_, _, fun_mk (st := s_back_doors) l16 c16 k16, PySem.W.mg_of X G a16⟩
  have D_wild_ring : FD K mg "wild_ring" s_wild_ring := ⟨_, _, fun_mk (st := s_wild_ring) l17 c17 k17, PySem.W.mg_of X G a17⟩
  have D__law_whole : FD K mg "_law_whole" s__law_whole := ⟨_, _, fun_mk (st := s__law_whole) l18 c18 k18, PySem.W.mg_of X G a18⟩
  have D__law_is_wild : FD K mg "_law_is_wild" s__law_is_wild := ⟨_, _, fun_mk (st := s__law_is_wild) l19 c19 k19, PySem.W.mg_of X G a19⟩
  exact ⟨PySem.W.fnOf "law" "law" (defArgs s_law_k10) (defBody s_law_k10) (defScope s_law_k10) .none kV20 dc20 pm20 an20 cd20 ct20, fun s v => .of_eq rfl, fun base _ _ => ok_all (g := ⟨K, w, C, cP, cN, cR, 0⟩) T D__law_cell_at D__law_net D_Net___init__ D__law_past D__law_guards D__law_rings D__law_tame D__law_goes_round D_Net_doors D_Net_rooms D_Net_ask D_Net_leads D_steps D_reached D_guarded D_inside D_back_doors D_wild_ring D__law_whole D__law_is_wild (fun_mk (st := s_law_k10) l20 c20 k20)⟩
end Mp
open PySem PySem.W PyProof.Rows
set_option maxRecDepth 100000 in
set_option maxHeartbeats 0 in
theorem PySem.Challenge.cw_mustpass_k10_whole_tame_or_a_wild_ring_holds : PySem.Challenge.rw_mustpass_k10_whole_tame_or_a_wild_ring.Holds := by
  w_on; o_law; k_head; (case hw => w_witness2)
  k_fill
  refine L2.walk_of (l := PySem.Challenge.rw_mustpass_k10_whole_tame_or_a_wild_ring) (n := 63) (k := 8) (x := "script") (CX := fun _ => L2.CX0) (sp := fun w => Mp.spLawK _) rfl (by decide) rfl ⟨rfl, by decide, by decide⟩ (fun w h Y => PySem.W.kIn_of Y) ?F (fun _ _ a ns hl _ hS => ⟨a, ns, rfl, hS, hl, fun _ => rfl⟩) (fun _ _ _ _ _ h => h)
  case F =>
    intro w mg fa h KX G hmg
    refine' Mp.all_mk KX G hmg ?a0 ?l0 ?c0 ?k0 ?a1 ?l1 ?c1 ?k1 ?a2 ?i2 ?l2 ?c2 ?k2 ?a3 ?l3 ?c3 ?k3 ?a4 ?l4 ?c4 ?k4 ?a5 ?l5 ?c5 ?k5 ?a6 ?l6 ?c6 ?k6 ?a7 ?l7 ?c7 ?k7 ?a8 ?i8 ?l8 ?c8 ?k8 ?a9 ?i9 ?l9 ?c9 ?k9 ?a10 ?i10 ?l10 ?c10 ?k10 ?a11 ?i11 ?l11 ?c11 ?k11 ?a12 ?l12 ?c12 ?k12 ?a13 ?l13 ?c13 ?k13 ?a14 ?l14 ?c14 ?k14 ?a15 ?l15 ?c15 ?k15 ?a16 ?l16 ?c16 ?k16 ?a17 ?l17 ?c17 ?k17 ?a18 ?l18 ?c18 ?k18 ?a19 ?l19 ?c19 ?k19 ?a20 ?l20 ?c20 ?k20 ?aC ?pg ?hd ?po ?sa ?mk ?kc ?no_many ?no_pairs ?no_ahead ?no_behind ?z_ValueError ?z_bool ?z_int ?z_isinstance ?z_len ?z_list ?z_range ?z_set ?z_sorted ?z_MOST_ROOMS ?z_MOST_DOORS ?g_PassError ?x_PassError ?k_PassError ?b_PassError ?t_PassError ?g_NoNet ?x_NoNet ?k_NoNet ?b_NoNet ?t_NoNet ?g_NoRoom ?x_NoRoom ?k_NoRoom ?b_NoRoom ?t_NoRoom
    (case aC => k_is)
    (case g_PassError => k_is)
    (case g_NoNet => k_is)
    (case g_NoRoom => k_is)
    (case a0 => k_is)
    (case l0 => k_is)
    (case c0 => k_is)
    (case k0 => k_is)
    (case a1 => k_is)
    (case l1 => k_is)
    (case c1 => k_is)
    (case k1 => k_is)
    (case a2 => k_is)
    (case i2 => k_is)
    (case l2 => k_is)
    (case c2 => k_is)
    (case k2 => k_is)
    (case a3 => k_is)
    (case l3 => k_is)
    (case c3 => k_is)
    (case k3 => k_is)
    (case a4 => k_is)
    (case l4 => k_is)
    (case c4 => k_is)
    (case k4 => k_is)
    (case a5 => k_is)
    (case l5 => k_is)
    (case c5 => k_is)
    (case k5 => k_is)
    (case a6 => k_is)
    (case l6 => k_is)
    (case c6 => k_is)
    (case k6 => k_is)
    (case a7 => k_is)
    (case l7 => k_is)
    (case c7 => k_is)
    (case k7 => k_is)
    (case a8 => k_is)
    (case i8 => k_is)
    (case l8 => k_is)
    (case c8 => k_is)
    (case k8 => k_is)
    (case a9 => k_is)
    (case i9 => k_is)
    (case l9 => k_is)
    (case c9 => k_is)
    (case k9 => k_is)
    (case a10 => k_is)
    (case i10 => k_is)
    (case l10 => k_is)
    (case c10 => k_is)
    (case k10 => k_is)
    (case a11 => k_is)
    (case i11 => k_is)
    (case l11 => k_is)
    (case c11 => k_is)
    (case k11 => k_is)
    (case a12 => k_is)
    (case l12 => k_is)
    (case c12 => k_is)
    (case k12 => k_is)
    (case a13 => k_is)
    (case l13 => k_is)
    (case c13 => k_is)
    (case k13 => k_is)
    (case a14 => k_is)
    (case l14 => k_is)
    (case c14 => k_is)
    (case k14 => k_is)
    (case a15 => k_is)
    (case l15 => k_is)
    (case c15 => k_is)
    (case k15 => k_is)
    (case a16 => k_is)
    (case l16 => k_is)
    (case c16 => k_is)
    (case k16 => k_is)
    (case a17 => k_is)
    (case l17 => k_is)
    (case c17 => k_is)
    (case k17 => k_is)
    (case a18 => k_is)
    (case l18 => k_is)
    (case c18 => k_is)
    (case k18 => k_is)
    (case a19 => k_is)
    (case l19 => k_is)
    (case c19 => k_is)
    (case k19 => k_is)
    (case a20 => k_is)
    (case l20 => k_is)
    (case c20 => k_is)
    (case k20 => k_is)
    (case pg => k_is)
    (case hd => k_is)
    (case po => k_is)
    (case sa => k_is)
    (case mk => k_is)
    (case kc => k_is)
    (case no_many => k_is)
    (case no_pairs => k_is)
    (case no_ahead => k_is)
    (case no_behind => k_is)
    (case z_ValueError => k_is)
    (case z_bool => k_is)
    (case z_int => k_is)
    (case z_isinstance => k_is)
    (case z_len => k_is)
    (case z_list => k_is)
    (case z_range => k_is)
    (case z_set => k_is)
    (case z_sorted => k_is)
    (case z_MOST_ROOMS => k_is)
    (case z_MOST_DOORS => k_is)
    (case k_PassError => k_is)
    (case b_PassError => k_is)
    (case t_PassError => k_is)
    (case k_NoNet => k_is)
    (case b_NoNet => k_is)
    (case t_NoNet => k_is)
    (case k_NoRoom => k_is)
    (case b_NoRoom => k_is)
    (case t_NoRoom => k_is)
    (case x_PassError => k_exc)
    (case x_NoNet => k_exc)
    (case x_NoRoom => k_exc)



