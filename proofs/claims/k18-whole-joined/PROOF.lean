import PyProof.Rows.All
import Wide.All
import OpenK.AllK
import Wide.FinOn
import HandS.ForMost
import HandS.Codes
import HandS.Conv
import HandS.IsInst
import HandS.Defaults
import HandS.MakeKwOnly
import HandS.DictComp
import HandS.SetFor
import HandS.Strs
import PySem.Challenge.RW_liarclocks_k18_whole_joined
import KE.KEqSeq
set_option Elab.async false
set_option linter.all false
set_option maxRecDepth 100000
set_option maxHeartbeats 4000000
/-! Rules that the layer lacks: a method's call with keywords; set(list of ints). -/
namespace LK
open PySem PySem.Spec PyProof.Rows L2
open C8 (Cal Met Mak)

section
variable {P : Program} {w : World} {K : PySem.W.Frag} {mg : Str → Option Value} {base : Heap}
/-- a method whose last values are handed in by keywords ks, n positional ones besides self -/
structure MetN (P : Program) (w : World) (K : PySem.W.Frag) (mg : Str → Option Value) (base : Heap) (k : Nat) (C : Addr) (m : Str) (n : Nat) (ks : List Str) (sp : Sp) : Prop where
  ex : ∃ (f : Addr) (fd : FuncData) (ps : List Str), Cls K C ∧ Meth K C m f ∧ FnOk P w K mg base C8.CX0 k f fd ps sp ∧
    KBn K fd ps (n + 1) ks (fun us ws => us ++ ws) (fun vs zs => vs ++ zs)
/-- a class made with keywords ks, n positional values -/
structure MakN (P : Program) (w : World) (K : PySem.W.Frag) (mg : Str → Option Value) (base : Heap) (k : Nat) (x : Str) (C : Addr) (n : Nat) (ks : List Str) (sp : Sp) : Prop where
  ex : ∃ (f : Addr) (fd : FuncData) (ps : List Str), Mk K C f ∧ mg x = some (.ref C) ∧ FnOk P w K mg base C8.CX0 k f fd ps sp ∧
    KBn K fd ps (n + 1) ks (fun us ws => us ++ ws) (fun vs zs => vs ++ zs)
end

def tMethN (C : Addr) (m : Str) (n j : Nat) (sp : Sp) (ta : TE) (t tk : TA) : TE := fun σ H Q =>
  ta σ H fun x H1 => ∃ a dx fs, x = .ref a ∧ H1 a = some (.ins C dx fs) ∧ fs.lookup m = none ∧
    t σ H1 fun vs H2 => tk σ H2 fun zs H3 => vs.length = n ∧ zs.length = j ∧ sp (x :: (vs ++ zs)) H3 Q C8.E0

section
variable {X : Cx} {k j n : Nat} {C : Addr} {x m : Str} {sp : Sp} {p pos apos : Pos} {e o : Expr} {es : List Expr} {kws : List Keyword} {ks : List Str} {ta : TE} {t tk : TA}
theorem pe_mtN {pl : Sem Bool} (c : MetN X.prog X.w X.K X.mg X.base k C m n ks sp) (hr : Room j X.A) (hk : k ≤ j)
    (he : PE X o ta) (ha : PA X (e :: es) t) (hkw : PK X kws tk)
    (hall : (backToKw pos (keywordEach kws X.env)).all (·.1.isSome) = true := by rfl)
    (hks : (backToKw pos (keywordEach kws X.env)).filterMap (·.1) = ks := by rfl)
    (hst : starEach (e :: es) X.env = (false, eval e X.env) :: starEach es X.env := by rfl)
    (hpl : ((backTo pos (starEach (e :: es) X.env)).any (·.1) || (backToKw pos (keywordEach kws X.env)).any (·.1.isNone)) = false := by rfl)
    (ht : eval (.Call (.Attribute o m apos) (e :: es) kws pos) X.env = (do
      let ov ← eval o X.env
      standAt apos.atName
      let (f, first) ← holding [ov] (getMethod ov m pl)
      callWith pos f first (backTo pos (starEach (e :: es) X.env)) (backToKw pos (keywordEach kws X.env))) := by rfl) :
    PE X (.Call (.Attribute o m apos) (e :: es) kws pos) (tMethN C m n ks.length sp ta t tk) := by
  obtain ⟨f, fd, ps, hc, hm, F, hb⟩ := c.ex
  constructor
  intro pins s σ H Q I h
  apply PySem.W.methodCall_KW (pl := pl) (he := ht)
  apply thn (he.run pins s σ H _ I h)
  rintro u s1 ⟨y, H1, I1, rx, a, dx, fs, ex, ea, l, q⟩
  subst ex
  have eu : u = Value.ref a := rx
  subst eu
  apply getmeth_ok I1 ea hc hm l
  refine PySem.W.callWith_KW (first := [.ref a]) (h₀ := X.base) I.ok.mod.kin hm.kp hall ?_ hpl hst
  apply thn (ha.run pos pins s1 σ H1 _ I1 q)
  rintro us s2 ⟨vs, H2, I2, r, q2⟩
  apply thn (hkw.run pos pins s2 σ H2 _ I2 q2)
  rintro ws s3 ⟨zs, H3, I3, rz, l1, l2, q3⟩
  refine ⟨I3.kIn, ?_⟩
  rw [hks]
  exact run_fnN (us := .ref a :: us) (vs := .ref a :: vs) F (hr.mono hk) hb C8.pass0 I3 (.cons rfl r) rz
    (by rw [List.length_cons, l1]) l2 q3
/-- C(k = v, ..) -/
theorem pe_mkN0 (c : MakN X.prog X.w X.K X.mg X.base k x C 0 ks sp) (hr : Room j X.A) (hk : k + 1 ≤ j) (hg : Gl X x) (hkw : PK X kws tk)
    (hall : (backToKw pos (keywordEach kws X.env)).all (·.1.isSome) = true := by rfl)
    (hks : (backToKw pos (keywordEach kws X.env)).filterMap (·.1) = ks := by rfl) (hdb : (x == ("__debug__" : Str)) = false := by decide)
    (hpl : ((backTo pos (starEach [] X.env)).any (·.1) || (backToKw pos (keywordEach kws X.env)).any (·.1.isNone)) = false := by rfl) :
    PE X (.Call (.Name x p) [] kws pos) (tMakeK C 0 ks.length sp (fun vs zs => vs ++ zs) C8.E0 tNil tk) := by
  obtain ⟨f, fd, ps, M, hm, F, hb⟩ := c.ex
  exact pe_makeK0 M F (hr.mono hk) hg hm hb C8.pass0 hkw hall hks hdb hpl
/-- C(e, .., k = v, ..) -/
theorem pe_mkN (c : MakN X.prog X.w X.K X.mg X.base k x C n ks sp) (hr : Room j X.A) (hk : k + 1 ≤ j) (hg : Gl X x) (ha : PA X (e :: es) t) (hkw : PK X kws tk)
    (hall : (backToKw pos (keywordEach kws X.env)).all (·.1.isSome) = true := by rfl)
    (hks : (backToKw pos (keywordEach kws X.env)).filterMap (·.1) = ks := by rfl) (hdb : (x == ("__debug__" : Str)) = false := by decide)
    (hst : starEach (e :: es) X.env = (false, eval e X.env) :: starEach es X.env := by rfl)
    (hpl : ((backTo pos (starEach (e :: es) X.env)).any (·.1) || (backToKw pos (keywordEach kws X.env)).any (·.1.isNone)) = false := by rfl) :
    PE X (.Call (.Name x p) (e :: es) kws pos) (tMakeK C n ks.length sp (fun vs zs => vs ++ zs) C8.E0 t tk) := by
  obtain ⟨f, fd, ps, M, hm, F, hb⟩ := c.ex
  exact pe_makeK M F (hr.mono hk) hg hm hb C8.pass0 ha hkw hall hks hdb hst hpl
end

/-! ### set(xs), xs a list of ints -/
section
variable {P : Program} {w : World} {A : Around} {E : Value → Shared → Prop} {s : Shared}
abbrev freshSet (w : World) : Obj := { cls := .type "set", dict := none, data := .set #[] 0 (.fresh 0 0 (!w.params.followText "set-order")) }
/-- what holds behind the filling -/
def Filled (w : World) (s : Shared) (ns : List Int) (s2 : Shared) : Prop :=
  ∃ h' tk c, s2 = { s with heap := h', toks := tk } ∧ SetR w h' s.heap.objs.size (fun j => decide (j ∈ ns)) c ∧ c ≤ ns.length ∧ ∀ b o, s.heap.get? b = some o → h'.get? b = some o
theorem call_set_ints {l : Addr} {items : Array Value} (ns : List Int) {Q : Value → Shared → Prop} (hh : A.handled = none)
    (hl : s.heap.IsList l items) (hit : IntsAre items.toList ns) (hb : ns.length + 1 < scanBound)
    (h : ∀ s2, Filled w s ns s2 → Q (.ref s.heap.objs.size) s2) :
    wpAny (model P w) A (call (.type "set") [.ref l]) Q E s := by
  have hisz : items.size = ns.length := by
    rw [← Array.length_toList]
    exact IntsAre.length hit
  obtain ⟨c0, tl0, hmro⟩ := F.called_set.mro
  have g1 := F.called_set.made
  have g2 := F.called_set.sub
  apply wpAny_call
  apply codeAny_of_tree
  show wpAny _ _ (callAny (.type "set") _) _ _ _
  apply wpAny_pure
  refine ⟨Code.quiet_builtin _ (by decide +kernel), ?_⟩
  apply codeAny_builtin F.entry_type_call
  rw [Around.under_plain (weight_type_call_type "set" [.ref l] []) rfl]
  have g3 := F.called_set.notType
  have g4 := F.called_set.canCreate
  have g5 := F.typeCall_set_1 (.ref l)
  repeat (any_goals (first | assumption | wp_step))
  refine codeAny_mono (code_set_led1 (.ref l) (E := E)
    (Q₁ := fun obj s₁ => obj = .ref s.heap.objs.size ∧ s₁ = { s with heap := s.heap.push (freshSet w) }) ⟨rfl, rfl⟩) ?_
  intro r s₁ hr
  cases r with
  | error e => exact hr
  | ok fl =>
    cases fl with
    | next => exact hr.elim
    | brk => exact hr.elim
    | cont => exact hr.elim
    | ret obj =>
      obtain ⟨rfl, rfl⟩ := hr
      have hS : (s.heap.push (freshSet w)).get? s.heap.objs.size = some (freshSet w) := Heap.get?_push_size _ rfl
      have hT : Shared.TypeIs { s with heap := s.heap.push (freshSet w) } (.ref s.heap.objs.size) "set" := ⟨_, hS, rfl⟩
      have g6 := F.called_set.init.lookup
      have g7 := F.called_set.init.bind (.ref s.heap.objs.size)
      repeat (any_goals (first | assumption | wp_step))
      refine codeAny_mono (codeAny_call_builtin (R := wants (fun r s₂ => r = .none ∧ Filled w s ns s₂) E)
        F.called_set.init.plain F.entry_set_init (check_set_init_1 hT ?_)) ?_
      · obtain ⟨ol, hol, hcl, nl, hdl⟩ := hl
        obtain ⟨ocls, odict, odata, oslots⟩ := ol
        simp only at hcl hdl
        subst hcl
        subst hdl
        have hol' : (s.heap.push (freshSet w)).get? l = some { cls := .type "list", dict := odict, data := .seq items nl, slots := oslots } :=
          Heap.get?_push_of_some _ hol
        have k1 := F.sub_list_set
        have k2 := F.sub_list_frozenset
        have k3 : (Value.type "list" == Value.type "dict") = false := by decide
        have hl1 : (s.heap.push (freshSet w)).IsList l items := ⟨_, hol', rfl, nl, rfl⟩
        unfold Builtin.«set.__init__» noKeywords Builtin.Frozenset.updateFrom
        generalize hPI : pyIter = PI
        wp_walk
        subst hPI
        apply wpAny_pyIter_list hl1
        apply wpAny_bind
        apply wpAny_runValue
        have hlS : l < s.heap.objs.size := Heap.lt_size hol
        have hh3 : A.in1.in1.in1.handled = none := by simp [hh]
        have hneI : l ≠ (s.heap.push (freshSet w)).objs.size := by
          rw [Heap.size_push]
          exact Nat.ne_of_lt (Nat.lt_succ_of_lt hlS)
        have hSf : s.heap.objs.size ∉ [(s.heap.push (freshSet w)).objs.size, l] := by
          rw [Heap.size_push]
          simp only [List.mem_cons, List.mem_singleton, List.not_mem_nil, or_false, not_or]
          exact ⟨Nat.ne_of_lt (Nat.lt_succ_self _), Nat.ne_of_gt hlS⟩
        have hval : ∀ (i : Nat) (v : Value), items[i]? = some v → ∃ k t, ns[i]? = some k ∧ v = .int k t := by
          intro i v hv
          have hi : i < ns.length := by
            rw [← hisz]
            exact (Array.getElem?_eq_some_iff.mp hv).1
          obtain ⟨t, e⟩ := PyProof.Rows.IntsAre.int_at hit i v (by rw [Array.getElem?_toList]; exact hv)
          refine ⟨ns[i], t, List.getElem?_eq_getElem hi, ?_⟩
          rw [e, List.getD_eq_getElem?_getD, List.getElem?_eq_getElem hi] <;> rfl
        refine set_update_ints ((Walks.list hh3 _ l hneI items).toS) s.heap.objs.size hSf ns hisz hb hval (items.size - 0) 0 _
          (by omega) (Nat.zero_le _) ⟨⟨_, Heap.get?_push_size _ rfl, rfl, rfl⟩, (hl1.push _)⟩ ?start ?stop
        case start => exact ⟨0, Nat.le_refl 0, setR_new_at (Heap.get?_push_of_some _ hS)⟩
        case stop =>
          intro s' c' hm hc' hS'
          obtain ⟨h', g', d', tk', os'⟩ := s'
          have eg : g' = s.gens := hm.gens
          have ed : d' = s.drawn := hm.drawn
          have eo : os' = s.os := hm.os
          subst eg
          subst ed
          subst eo
          show wpAny _ _ _ _ _ _
          apply wpAny_pure
          show wpAny _ _ (ret Value.none) _ _ _
          rw [hisz] at hc'
          apply wpAny_pure
          refine ⟨rfl, h', tk', c', rfl, hS', hc', fun b o e => ?_⟩
          have hb0 : b < s.heap.objs.size := Heap.lt_size e
          have hb2 : b ≠ (s.heap.push (freshSet w)).objs.size := by
            rw [Heap.size_push]
            exact Nat.ne_of_lt (Nat.lt_succ_of_lt hb0)
          refine hm.heap b o ?_ (Heap.get?_push_of_some _ (Heap.get?_push_of_some _ e))
          simp only [List.mem_cons, List.mem_singleton, List.not_mem_nil, or_false, not_or]
          exact ⟨Nat.ne_of_lt hb0, hb2⟩
      · intro r₂ s₂ hr₂
        cases r₂ with
        | error e => exact hr₂
        | ok fl₂ =>
          cases fl₂ with
          | next => exact hr₂.elim
          | brk => exact hr₂.elim
          | cont => exact hr₂.elim
          | ret r =>
            obtain ⟨rfl, q⟩ := hr₂
            have q' := h _ q
            repeat (any_goals (first | assumption | wp_step))
end
/-- set(xs) -/
def rSetI (K : PySem.W.Frag) (w : World) : List V → Hp → VK → Prop := fun xs H Q => ∃ (l : Addr) (ns : List Int), xs = [V.ref l] ∧ SqL K H l (ns.map V.int) ∧ ns.length ≤ 1000 ∧
  ∀ p c, H p = none → c ≤ ns.length → Q (.ref p) (upd H p (SetO w p (fun j => decide (j ∈ ns)) c))
theorem cr_setI {X : Cx} (hc : X.calm = true) : CallR X (.type "set") (rSetI X.K X.w) := by
  intro pins s σ H xs us Q I r h
  obtain ⟨l, ns, rfl, hq, hlen, q⟩ := h
  rw [Vals.ref1 r]
  obtain ⟨its, rv, pl, hz⟩ := I.list hq
  refine call_set_ints ns (I.ok.hd hc) pl.isList (by simpa using intsAre_of rv) (by unfold scanBound; omega) ?_
  rintro s2 ⟨h', tk, c, rfl, hS, hcl, hk⟩
  refine ⟨.ref _, upd H s.heap.objs.size (SetO X.w s.heap.objs.size (fun j => decide (j ∈ ns)) c), I.laid hk (Nat.le_refl _) (setO_new hS), rfl, q _ _ (I.hok.fresh (Nat.le_refl _)) hcl⟩
/-! ### y = {k: v for ..}, y a local name -/
section
variable {X : Cx} {i : Nat} {y : Str} {py pos spos : Pos} {kx vx tg iter : Expr} {ifs : List Expr} {scope : Scope} {own : List (Str × Nat)} {wi : TI} {g : TG} {tt : TT} {tk tv : TE}
theorem sw_dict {gs : List Comprehension} {l : Nat} {env : Env} (hk : env.scope.kind = .function) (hy : env.scope.names.lookup y = some .local) (hl : (py.line == pos.line) = true)
    (ha : (scope.names.any fun (n, k) => n == y && (k == .local || k == .cell)) = false) :
    swapsWith (.DictComp kx vx gs scope pos) (some (.Name y py)) l env = pure true := by
  have k1 : env.kindOf y = some .local := hy
  have k2 : env.blockKind = .function := by
    unfold Env.blockKind
    rw [hk]
    rfl
  unfold swapsWith
  simp only [k1, k2, ha, hl, Expr.pos]
  rfl
theorem ks_setDc (hc : X.calm = true) (hN : X.N.Nodup) (hy : X.N[i]? = some y) (hyl : X.env.scope.names.lookup y = some .local)
    (hsw : swapsWith (.DictComp kx vx [⟨tg, iter, ifs, 0⟩] scope pos) (some (.Name y py)) spos.line X.env = pure true)
    (hi : PI X tg iter wi) (ok : BlkOk X.N X.env.scope scope own)
    (hg : ∀ (s : Shared) (H : Hp) (C : Addr) (cl : List (Str × Addr)) (fp : List Addr),
      PG (X.blk s H scope (compEnvC scope cl C X.env) fp) tg g)
    (ht : ∀ (s : Shared) (H : Hp) (C : Addr) (cl : List (Str × Addr)) (fp : List Addr),
      PTs (X.blk s H scope (compEnvC scope cl C X.env) fp) ifs tt)
    (hk : ∀ (s : Shared) (H : Hp) (C : Addr) (cl : List (Str × Addr)) (fp : List Addr),
      PE (X.blk s H scope (compEnvC scope cl C X.env) fp) kx tk)
    (hv : ∀ (s : Shared) (H : Hp) (C : Addr) (cl : List (Str × Addr)) (fp : List Addr),
      PE (X.blk s H scope (compEnvC scope cl C X.env) fp) vx tv)
    (hs : ∀ x, foldedSetIterable iter X.env x = pure x := by intro _; rfl) :
    PS X (.Assign [.Name y py] (.DictComp kx vx [⟨tg, iter, ifs, 0⟩] scope pos) spos) (tAsg (tDc wi g tt tk tv (own.map (·.2))) (gName i)) := by
  constructor
  intro pins s σ H D I h
  rw [exec_Assign_Name_used _ _ _ _ hsw]
  apply wpAny_bind
  apply wpAny_standAt
  apply wpAny_bind
  show wpAny _ X.A (do
    let _ ← comprehension (.DictComp kx vx [⟨tg, iter, ifs, 0⟩] scope pos) scope X.env
      (firstIterPos [⟨tg, iter, ifs, 0⟩] pos) newDict false (eval iter X.env) (some (assign (.Name y py) X.env))) _ _ s
  have h' : tDc wi g tt tk tv (own.map (·.2)) σ H (fun x H1 => gName i x σ H1 D.nx) := h
  apply wpAny_bind
  refine thn (dc_core (Qf := fun _ s' => SP X pins D .next s') (use := some (assign (.Name y py) X.env)) (pos := pos)
    (pos' := firstIterPos [⟨tg, iter, ifs, 0⟩] pos) hc hN I hi ok hg ht hk hv hs h' ?rest) ?fin
  case fin =>
    intro _ s' q
    exact wpAny_pure (wpAny_pure q)
  rintro L C s' m H' I' q hn ⟨f0, f1, f2, f3, f4, f5⟩
  show wpAny _ _ (assign (.Name y py) X.env (.ref L)) _ _ _
  apply wpAny_assign_Name
  refine store_ok2 (v := V.ref L) I' hN hy (.inl hyl) rfl ?_ (.inr hyl)
  rintro s2 I2 ⟨a, sb, ha⟩
  have hne : C ≠ a := by
    rcases ha with z | z
    · rw [z]
      exact f1
    · intro e
      exact f4 y a z e.symm
  refine ⟨m, hn.sameBut sb hne, fun h3 sb3 => ⟨_, H', I2.turned (t' := s2.toks) ?_ f0 f1 f3 f4 f5, q⟩⟩
  intro b o hb e
  exact (sb3.2 b hb).trans e
end
end LK
set_option Elab.async false
set_option linter.all false
set_option maxRecDepth 100000
set_option maxHeartbeats 4000000
/-! Owned objects by a list (Sep), and each reading as an introduction rule. -/
namespace LK
open PySem PySem.Spec L2
open C8 (Cal Met Mak)

abbrev KL := List (Addr × HO)
abbrev TW := Option (Addr × Addr)
/-- the draws' two lists: the row of cells, and how many draws were made -/
def Town (t r : Addr) (H : Hp) : Prop := ∃ (c : Int) (cells : List Int), H t = some (.lst [.ref r, .int c]) ∧ H r = some (.lst (cells.map V.int)) ∧ cells ≠ [] ∧ cells.length ≤ 63
def TwIn : TW → Addr → Prop
  | none, _ => False
  | some (t, r), a => a = t ∨ a = r
def TwAt : TW → Hp → Prop
  | none, _ => True
  | some (t, r), H => Town t r H
/-- all but the draws' lists is kept -/
def FrW (W : TW) (H H' : Hp) : Prop := ∀ b o, H b = some o → ¬ TwIn W b → H' b = some o
theorem FrW.refl {W : TW} {H : Hp} : FrW W H H := fun _ _ h _ => h
theorem FrW.trans {W : TW} {H H1 H2 : Hp} (a : FrW W H H1) (b : FrW W H1 H2) : FrW W H H2 := fun c o h n => b c o (a c o h n) n
theorem FrW.same {W : TW} {H H1 : Hp} (a : Same H H1) : FrW W H H1 := fun c o h _ => a c o h
theorem TwAt.ne {W : TW} {H : Hp} (h : TwAt W H) {a : Addr} (n : H a = none) : ¬ TwIn W a := by
  match W, h with
  | none, _ => exact fun z => z
  | some (t, r), ⟨c, cells, h1, h2, _⟩ =>
    rintro (rfl | rfl)
    · rw [h1] at n
      cases n
    · rw [h2] at n
      cases n
theorem TwAt.same {W : TW} {H H' : Hp} (h : TwAt W H) (e : ∀ b o, H b = some o → TwIn W b → H' b = some o) : TwAt W H' := by
  match W, h with
  | none, _ => exact True.intro
  | some (t, r), ⟨c, cells, h1, h2, h3, h4⟩ => exact ⟨c, cells, e _ _ h1 (.inl rfl), e _ _ h2 (.inr rfl), h3, h4⟩

/-- B: the heap at the entry; M: what of it may change; L: what is owned, what stands there -/
structure Sep (B : Hp) (M : Addr → Prop) (W : TW) (L : KL) (H : Hp) : Prop where
  nd : (L.map (·.1)).Nodup
  kn : ∀ p, p ∈ L → H p.1 = some p.2
  off : ∀ p, p ∈ L → ¬ TwIn W p.1
  tw : TwAt W H
  fr : ∀ b o, B b = some o → ¬ M b → H b = some o
def Own (B : Hp) (M : Addr → Prop) (p : Addr) : Prop := B p = none ∨ M p
theorem Own.keep {B H : Hp} {M : Addr → Prop} {p b : Addr} {o : HO} (w : Own B M p) (h : B b = some o) (n : ¬ M b) : b ≠ p := by
  rintro rfl
  rcases w with w | w
  · rw [h] at w
    cases w
  · exact n w
section
variable {B : Hp} {M : Addr → Prop} {W : TW} {L L0 L1 : KL} {H H' : Hp} {p a b : Addr} {o o' u : HO}
theorem Sep.start (tw : TwAt W H) : Sep H M W [] H := ⟨List.nodup_nil, fun _ h => (by cases h), fun _ h => (by cases h), tw, fun _ _ h _ => h⟩
theorem Sep.at (S : Sep B M W L H) (h : (a, o) ∈ L) : H a = some o := S.kn _ h
theorem Sep.own (S : Sep B M W L H) (hp : H p = none) : Own B M p := by
  cases e : B p with
  | none => exact .inl e
  | some o =>
    by_cases m : M p
    · exact .inr m
    · rw [S.fr _ _ e m] at hp
      cases hp
theorem Sep.gone (S : Sep B (fun _ => False) W L H) (w : Own B (fun _ => False) p) : B p = none := w.resolve_right fun z => z
theorem Sep.new (S : Sep B M W L H) (hp : H p = none) : Sep B M W ((p, o) :: L) (upd H p o) where
  nd := by
    rw [List.map_cons, List.nodup_cons]
    refine ⟨fun m => ?_, S.nd⟩
    obtain ⟨q, hq, e⟩ := List.mem_map.mp m
    have h := S.kn q hq
    rw [e, hp] at h
    cases h
  kn := fun q hq => by
    rcases List.mem_cons.mp hq with rfl | hq
    · exact upd_same
    · rw [upd_ne (ne_of_none (S.kn q hq) hp)]
      exact S.kn q hq
  off := fun q hq => by
    rcases List.mem_cons.mp hq with rfl | hq
    · exact S.tw.ne hp
    · exact S.off q hq
  tw := S.tw.same fun b o h _ => by
    rw [upd_ne (ne_of_none h hp)]
    exact h
  fr := fun b o h m => by
    have h2 := S.fr b o h m
    rw [upd_ne (ne_of_none h2 hp)]
    exact h2
theorem Sep.same (S : Sep B M W L H) (e : Same H H') : Sep B M W L H' :=
  ⟨S.nd, fun q hq => e _ _ (S.kn q hq), S.off, S.tw.same fun b o h _ => e _ _ h, fun b o h m => e _ _ (S.fr b o h m)⟩
theorem Sep.cons (S : Sep B M W L H) (hp : H p = none) (e : ∀ b o, H b = some o → ¬ TwIn W b → H' b = some o) (t : TwAt W H') (mw : ∀ a, TwIn W a → M a)
    (h : H' p = some o) : Sep B M W ((p, o) :: L) H' where
  nd := (S.new (o := o) hp).nd
  kn := fun q hq => by
    rcases List.mem_cons.mp hq with rfl | hq
    · exact h
    · exact e _ _ (S.kn q hq) (S.off q hq)
  off := (S.new (o := o) hp).off
  tw := t
  fr := fun b o h m => e _ _ (S.fr b o h m) fun z => m (mw b z)
theorem Sep.res (S : Sep B M W L H) (e : Same H H') (hp : H p = none) (h : H' p = some o) : Sep B M W ((p, o) :: L) H' where
  nd := (S.new (o := o) hp).nd
  kn := fun q hq => by
    rcases List.mem_cons.mp hq with rfl | hq
    · exact h
    · exact e _ _ (S.kn q hq)
  off := (S.new (o := o) hp).off
  tw := S.tw.same fun b o h _ => e _ _ h
  fr := fun b o h m => e _ _ (S.fr b o h m)
theorem Sep.draw (S : Sep B M W L H) (e : FrW W H H') (t : TwAt W H') (mw : ∀ a, TwIn W a → M a) : Sep B M W L H' :=
  ⟨S.nd, fun q hq => e _ _ (S.kn q hq) (S.off q hq), S.off, t, fun b o h m => e _ _ (S.fr b o h m) fun z => m (mw b z)⟩
theorem Sep.drop (S : Sep B M W ((p, o) :: L) H) : Sep B M W L H :=
  ⟨(List.nodup_cons.mp S.nd).2, fun q hq => S.kn q (List.mem_cons_of_mem _ hq), fun q hq => S.off q (List.mem_cons_of_mem _ hq), S.tw, S.fr⟩
/-- an owned object anywhere in the list is written -/
theorem Sep.put {L2 : KL} (S : Sep B M W (L1 ++ (a, o) :: L2) H) (w : Own B M a) : Sep B M W (L1 ++ (a, o') :: L2) (upd H a o') where
  nd := by
    have h := S.nd
    rw [List.map_append, List.map_cons] at h ⊢
    exact h
  kn := fun q hq => by
    have nd := S.nd
    rw [List.map_append, List.map_cons] at nd
    have n1 : a ∉ L1.map (·.1) := fun m => by
      have := (List.nodup_append.mp nd).2.2 a m a List.mem_cons_self
      exact this rfl
    have n2 : a ∉ L2.map (·.1) := (List.nodup_cons.mp (List.nodup_append.mp nd).2.1).1
    rcases List.mem_append.mp hq with h | h
    · have hn : q.1 ≠ a := fun e => n1 (e ▸ List.mem_map_of_mem (f := (·.1)) h)
      rw [upd_ne hn]
      exact S.kn q (List.mem_append_left _ h)
    · rcases List.mem_cons.mp h with rfl | h
      · exact upd_same
      · have hn : q.1 ≠ a := fun e => n2 (e ▸ List.mem_map_of_mem (f := (·.1)) h)
        rw [upd_ne hn]
        exact S.kn q (List.mem_append_right _ (List.mem_cons_of_mem _ h))
  off := fun q hq => by
    rcases List.mem_append.mp hq with h | h
    · exact S.off q (List.mem_append_left _ h)
    · rcases List.mem_cons.mp h with rfl | h
      · exact S.off (a, o) (List.mem_append_right _ List.mem_cons_self)
      · exact S.off q (List.mem_append_right _ (List.mem_cons_of_mem _ h))
  tw := S.tw.same fun b u h z => by
    have hn : b ≠ a := fun e => S.off (a, o) (List.mem_append_right _ List.mem_cons_self) (e ▸ z)
    rw [upd_ne hn]
    exact h
  fr := fun b u h m => by
    rw [upd_ne (w.keep (H := H) h m)]
    exact S.fr b u h m
theorem Sep.put0 (S : Sep B M W ((a, o) :: L) H) (w : Own B M a) : Sep B M W ((a, o') :: L) (upd H a o') := Sep.put (L1 := []) S w
theorem Sep.put1 {x : Addr × HO} (S : Sep B M W (x :: (a, o) :: L) H) (w : Own B M a) : Sep B M W (x :: (a, o') :: L) (upd H a o') := Sep.put (L1 := [x]) S w
theorem Sep.put2 {x y : Addr × HO} (S : Sep B M W (x :: y :: (a, o) :: L) H) (w : Own B M a) : Sep B M W (x :: y :: (a, o') :: L) (upd H a o') := Sep.put (L1 := [x, y]) S w
theorem Sep.put3 {x y z : Addr × HO} (S : Sep B M W (x :: y :: z :: (a, o) :: L) H) (w : Own B M a) : Sep B M W (x :: y :: z :: (a, o') :: L) (upd H a o') := Sep.put (L1 := [x, y, z]) S w
theorem Sep.g0 (S : Sep B M W ((a, o) :: L) H) : H a = some o := S.kn _ List.mem_cons_self
theorem Sep.g1 {x : Addr × HO} (S : Sep B M W (x :: (a, o) :: L) H) : H a = some o := S.drop.g0
theorem Sep.g2 {x y : Addr × HO} (S : Sep B M W (x :: y :: (a, o) :: L) H) : H a = some o := S.drop.g1
theorem Sep.g3 {x y z : Addr × HO} (S : Sep B M W (x :: y :: z :: (a, o) :: L) H) : H a = some o := S.drop.g2
theorem Sep.g4 {x y z v : Addr × HO} (S : Sep B M W (x :: y :: z :: v :: (a, o) :: L) H) : H a = some o := S.drop.g3
theorem Sep.g5 {x y z v x' : Addr × HO} (S : Sep B M W (x :: y :: z :: v :: x' :: (a, o) :: L) H) : H a = some o := S.drop.g4
theorem Sep.g6 {x y z v x' y' : Addr × HO} (S : Sep B M W (x :: y :: z :: v :: x' :: y' :: (a, o) :: L) H) : H a = some o := S.drop.g5
theorem Sep.ro (S : Sep B M W L H) (h : B b = some u) (n : ¬ M b) : H b = some u := S.fr _ _ h n
theorem Sep.nil (S : Sep B M W L H) : Sep B M W [] H := ⟨List.nodup_nil, fun _ h => (by cases h), fun _ h => (by cases h), S.tw, S.fr⟩
/-- an object that is known besides -/
theorem Sep.see (S : Sep B M W [] H) (h : H a = some o) (n : ¬ TwIn W a) : Sep B M W [(a, o)] H :=
  ⟨List.nodup_cons.mpr ⟨(fun z => nomatch z), List.nodup_nil⟩, fun q hq => by
    cases List.mem_singleton.mp hq
    exact h, fun q hq => by
    cases List.mem_singleton.mp hq
    exact n, S.tw, S.fr⟩
theorem Sep.same_of (S : Sep B (fun _ => False) W L H) : Same B H := fun b o h => S.fr b o h fun z => z
end
/-! ### calls of built-ins, by named readings -/
def rLen (K : PySem.W.Frag) : List V → Hp → VK → Prop := fun xs H Q => ∃ p ys, xs = [V.ref p] ∧ (SqL K H p ys ∨ SqT K H p ys) ∧ Q (.int ys.length) H
theorem cr_len {X : Cx} : CallR X (.builtin "len") (rLen X.K) := call_len_seq
def rListOf (K : PySem.W.Frag) : List V → Hp → VK → Prop := fun xs H Q => ∃ p ys, xs = [V.ref p] ∧ (SqL K H p ys ∨ SqT K H p ys) ∧ ∀ l, H l = none → Q (.ref l) (upd H l (.lst ys))
theorem cr_listOf {X : Cx} : CallR X (.type "list") (rListOf X.K) := call_list_of
def rMax2 : List V → Hp → VK → Prop := fun xs H Q => ∃ i j, xs = [V.int i, V.int j] ∧ Q (.int (if j > i then j else i)) H
theorem cr_max2 {X : Cx} (hc : X.calm = true) : CallR X (.builtin "max") rMax2 := call_max2 hc
def rMin2 : List V → Hp → VK → Prop := fun xs H Q => ∃ i j, xs = [V.int i, V.int j] ∧ Q (.int (if j < i then j else i)) H
theorem cr_min2 {X : Cx} (hc : X.calm = true) : CallR X (.builtin "min") rMin2 := call_min2 hc
def rIsC (C : Addr) : List V → Hp → VK → Prop := fun xs H Q => ∃ a dx fs, xs = [V.ref a, V.ref C] ∧ H a = some (.ins C dx fs) ∧ Q (.bl true) H
theorem cr_isC {X : Cx} {C : Addr} (c : C8.InsC X.K C) : CallR X (.builtin "isinstance") (rIsC C) := C8.call_isC c
def rIsN : R2 := fun x y H Q => y = V.non ∧ Q (.bl (decide (x = .non))) H
theorem or_isN {X : Cx} : OpR X (compareOp .Is) rIsN := op_isN
def rNotN : R2 := fun x y H Q => y = V.non ∧ Q (.bl (!decide (x = .non))) H
theorem or_notN {X : Cx} : OpR X (compareOp .IsNot) rNotN := op_notN

/-! ### the layer's rules, the written part told by its own letter (within a comprehension the context's own can not stand in a reading) -/
section
variable {X : Cx} {K : PySem.W.Frag} {e o l : Expr} {es : List Expr} {ta tv tl to : TE} {t : TA} {f name : Str} {pos pos' apos cpos tpos : Pos} {value tg : Expr} {T id : String} {r : V → List V → Hp → VK → Prop}
theorem kfld (hK : X.K = K) (he : PE X e ta) (hb : attributeBase e f X.env (eval e X.env) = eval e X.env) : PE X (.Attribute e f pos) (tFld K ta f) := by
  subst hK
  exact pe_fld he hb
theorem ksfld (hK : X.K = K) (ha : PE X o ta) (hv : PE X value tv) (hs : swapsWith value (some (.Attribute o f pos')) pos.line X.env = pure false) : PS X (.Assign [.Attribute o f pos'] value pos) (sFld K ta tv f) := by
  subst hK
  exact ps_fld ha hv hs
theorem ksaug (hK : X.K = K) {op : Operator} {rd : V → V → Hp → VK → Prop} (ha : PE X o ta) (hv : PE X value tv) (hop : InOp X op rd) : PS X (.AugAssign (.Attribute o f tpos) op value pos) (sFldAug K ta tv rd f) := by
  subst hK
  exact ps_fldaug ha hv hop
theorem kixl (hK : X.K = K) : IxR X (rIxL K) := by
  subst hK
  exact ix_list
theorem kixt (hK : X.K = K) : IxR X (rIxT K) := by
  subst hK
  exact ix_tup
theorem kin (hK : X.K = K) : OpR X (compareOp .In) (rIn K false) := by
  subst hK
  exact op_in_seq
theorem knin (hK : X.K = K) : OpR X (compareOp .NotIn) (rIn K true) := by
  subst hK
  exact op_notIn_seq
theorem kne (hK : X.K = K) (hu : X.A.units + 64 < cLine) : OpR X (compareOp .NotEq) (rNeD K) := by
  subst hK
  exact op_neD hu
theorem klen (hK : X.K = K) : CallR X (.builtin "len") (rLen K) := by
  subst hK
  exact cr_len
theorem klistOf (hK : X.K = K) : CallR X (.type "list") (rListOf K) := by
  subst hK
  exact cr_listOf
theorem ksorted (hK : X.K = K) : CallR X (.builtin "sorted") (rSorted K) := by
  subst hK
  exact cr_sorted
theorem kall (hK : X.K = K) (hc : X.calm = true) : CallR X (.builtin "all") (rAll K) := by
  subst hK
  exact cr_all hc
theorem kany (hK : X.K = K) (hc : X.calm = true) : CallR X (.builtin "any") (rAny K) := by
  subst hK
  exact cr_any hc
theorem kmax (hK : X.K = K) (hc : X.calm = true) : CallR X (.builtin "max") (rMax K) := by
  subst hK
  exact cr_max hc
theorem kmin (hK : X.K = K) (hc : X.calm = true) : CallR X (.builtin "min") (rMin K) := by
  subst hK
  exact cr_min hc
theorem kisi (hK : X.K = K) : CallR X (.builtin "isinstance") (rIsi K) := by
  subst hK
  exact call_isi
theorem kisiT (hK : X.K = K) : CallR X (.builtin "isinstance") (rIsiT K) := by
  subst hK
  exact call_isiT
theorem kslice (hK : X.K = K) : SlR X (rSlL K) := by
  subst hK
  exact sl_list
theorem kpil (hK : X.K = K) (hl : PE X l tl) : PI X tg l (iList K tl) := by
  subst hK
  exact pi_list hl
theorem kpit (hK : X.K = K) (hl : PE X l tl) : PI X tg l (iTup K tl) := by
  subst hK
  exact pi_tup hl
theorem kgtup (hK : X.K = K) {es : List Expr} {k : Nat} {t : TGs} {n : Nat} (hc : X.calm = true) (h : PGs X es t)
    (hn : (assignEach es X.env).length = n := by rfl) (hst : (assignEach es X.env).findIdx? (·.1) = none := by rfl) : PG X (.Tuple es k pos) (gTup K n t) := by
  subst hK
  exact pg_tup hc h hn hst
theorem ksetI (hK : X.K = K) {w : World} (hw : X.w = w) (hc : X.calm = true) : CallR X (.type "set") (rSetI K w) := by
  subst hK
  subst hw
  exact cr_setI hc
theorem ksrtS {w : World} (hw : X.w = w) (hc : X.calm = true) : CallR X (.builtin "sorted") (rSortedSet w) := by
  subst hw
  exact cr_sortedSet hc
theorem kbm (hK : X.K = K) (pa : PlainAttrs T) (slot : Slot T name id) (hty : typeOf (.builtin id) = pure (.type "method_descriptor")) (hm : MtR X id r) (ho : PE X o to) (ha : PA X (e :: es) t)
    (hbase : attributeBase o name X.env (eval o X.env) = eval o X.env := by rfl)
    (hfew : ((backTo cpos (starEach (e :: es) X.env)).all (fun x => !x.1) && (backToKw cpos (keywordEach [] X.env)).all (fun x => x.1.isSome) &&
      decide ((e :: es).length + ([] : List Keyword).length + (if ([] : List Keyword).isEmpty then 0 else 1) < 30)) = true := by rfl)
    (hline : (apos.endLine == cpos.line) = true := by rfl) (hs : starEach (e :: es) X.env = (false, eval e X.env) :: starEach es X.env := by rfl) (hplain : (backTo cpos (starEach es X.env)).any (·.1) = false := by rfl) :
    PE X (.Call (.Attribute o name apos) (e :: es) [] cpos) (tBM K T r to t) := by
  subst hK
  exact pe_bm pa slot hty hm ho ha hbase hfew hline hs hplain
end

/-! ### the readings as introduction rules -/
section
variable {K : PySem.W.Frag} {B : Hp} {M : Addr → Prop} {W : TW} {L : KL} {D : Ends} {nx bk ct : L2.St → Hp → Prop} {rt : VK} {σ : L2.St} {H : Hp} {Q : VK} {QB : Bool → Hp → Prop} {t u : TS} {te ta tb tc tv : TE} {tt t2 : TT} {args tr tk : TA} {g : TG} {i : Nat} {v x y : V}
theorem w_seq (h : t ⟨u ⟨nx, rt, bk, ct⟩, rt, bk, ct⟩ σ H) : tSeq t u ⟨nx, rt, bk, ct⟩ σ H := h
theorem w_next (h : nx σ H) : tNext ⟨nx, rt, bk, ct⟩ σ H := h
theorem w_yes (h : QB true H) : tYes σ H QB := h
theorem w_drop (h : te σ H fun _ H1 => nx σ H1) : tDrop te ⟨nx, rt, bk, ct⟩ σ H := h
theorem w_ret (h : te σ H rt) : tRet te ⟨nx, rt, bk, ct⟩ σ H := h
theorem w_asg (h : te σ H fun x H1 => g x σ H1 nx) : tAsg te g ⟨nx, rt, bk, ct⟩ σ H := h
theorem w_name {Q : L2.St → Hp → Prop} (h : Q (σ.set i (some v)) H) : gName i v σ H Q := h
theorem w_var (e : σ[i]? = some (some v)) (q : Q v H) : tVar i σ H Q := ⟨v, e, q⟩
theorem w_c (q : Q v H) : tC v σ H Q := q
theorem w_op {r : R2} (h : ta σ H fun x H1 => tb σ H1 fun y H2 => r x y H2 Q) : tOp r ta tb σ H Q := h
theorem w_un {r : V → Hp → VK → Prop} (h : ta σ H fun x H1 => r x H1 Q) : tUn r ta σ H Q := h
theorem w_I0 {f : Int → Int → V} {a b : Int} (q : Q (f a b) H) : rI0 f (.int a) (.int b) H Q := ⟨a, b, rfl, rfl, q⟩
theorem w_I {C : Int → Int → Prop} {f : Int → Int → V} {a b : Int} (c : C a b) (q : Q (f a b) H) : rI C f (.int a) (.int b) H Q := ⟨a, b, rfl, rfl, c, q⟩
theorem w_U {f : Int → V} {a : Int} (q : Q (f a) H) : rU f (.int a) H Q := ⟨a, rfl, q⟩
theorem w_eqI {a b : Int} (q : Q (.bl (decide (a = b))) H) : rEq (.int a) (.int b) H Q := ⟨rfl, by
  rw [show decide (V.int a = V.int b) = decide (a = b) from by simp]
  exact q⟩
theorem w_neI {a b : Int} (q : Q (.bl (!decide (a = b))) H) : rNe (.int a) (.int b) H Q := ⟨rfl, by
  rw [show decide (V.int a = V.int b) = decide (a = b) from by simp]
  exact q⟩
/-- a value that is a truth value, then what is wanted of it -/
def BlK (Q : Bool → Hp → Prop) : VK := fun x H => ∃ k, x = .bl k ∧ Q k H
theorem w_blk {b : Bool} (q : QB b H) : BlK QB (.bl b) H := ⟨b, rfl, q⟩
theorem w_test (h : te σ H (BlK QB)) : tTest te σ H QB := h
theorem w_B (h : te σ H (BlK QB)) : tB te σ H QB := h
theorem w_not (h : tt σ H fun c H1 => QB (!c) H1) : tNot tt σ H QB := h
theorem w_and (h : tt σ H fun c H1 => if c = true then t2 σ H1 QB else QB false H1) : tAnd tt t2 σ H QB := h
theorem w_or (h : tt σ H fun c H1 => if c = true then QB true H1 else t2 σ H1 QB) : tOr tt t2 σ H QB := h
theorem w_andV (h : ta σ H (BlK fun c H1 => if c = true then tb σ H1 Q else Q (.bl false) H1)) : tAndV ta tb σ H Q := h
theorem w_notV (h : ta σ H (BlK fun c H1 => Q (.bl (!c)) H1)) : tNotV ta σ H Q := h
theorem w_if (h : tt σ H fun c H1 => if c = true then ta σ H1 Q else tb σ H1 Q) : tIf tt ta tb σ H Q := h
theorem w_ifS (h : tt σ H fun c H1 => if c = true then t D σ H1 else u D σ H1) : tIfS tt t u D σ H := h
theorem w_chain {r r' : R2} (h : ta σ H fun x H1 => tb σ H1 fun y H2 => r x y H2 (BlK fun k H3 => if k = true then tc σ H3 fun w' H4 => r' y w' H4 Q else Q (.bl false) H3)) : tChain r r' ta tb tc σ H Q := h
theorem w_cons {QA : List V → Hp → Prop} (h : te σ H fun x H1 => tr σ H1 fun xs H2 => QA (x :: xs) H2) : tCons te tr σ H QA := h
theorem w_nil {QA : List V → Hp → Prop} (h : QA [] H) : tNil σ H QA := h
theorem w_call {sp : Sp} {E : XK} (h : args σ H fun vs H1 => sp (vs ++ []) H1 Q E) : tCall sp [] E args σ H Q := h
theorem w_CB {r : List V → Hp → VK → Prop} (h : args σ H fun vs H1 => r vs H1 Q) : tCB r args σ H Q := h
/-- a field -/
def FldK (K : PySem.W.Frag) (f : Str) (Q : VK) : VK := fun x H1 => ∃ a C dx fs v, x = .ref a ∧ H1 a = some (.ins C dx fs) ∧ Cls K C ∧ NoAttr K C f ∧ fs.lookup f = some v ∧ Q v H1
theorem w_fld {f : Str} (h : ta σ H (FldK K f Q)) : tFld K ta f σ H Q := h
theorem w_fldk {f : Str} {a C dx : Addr} {fs : List (Str × V)} (e : H a = some (.ins C dx fs)) (c : Cls K C) (n : NoAttr K C f) (l : fs.lookup f = some v) (q : Q v H) : FldK K f Q (.ref a) H := ⟨a, C, dx, fs, v, rfl, e, c, n, l, q⟩
/-- a method -/
def MetK (C : Addr) (m : Str) (sp : Sp) (E : XK) (args : TA) (σ : L2.St) (Q : VK) : VK := fun x H1 => ∃ a dx fs, x = .ref a ∧ H1 a = some (.ins C dx fs) ∧ fs.lookup m = none ∧ args σ H1 fun vs H2 => sp (x :: (vs ++ [])) H2 Q E
theorem w_meth {C : Addr} {m : Str} {sp : Sp} {E : XK} (h : ta σ H (MetK C m sp E args σ Q)) : tMeth C m sp [] E ta args σ H Q := h
theorem w_methk {a C dx : Addr} {m : Str} {sp : Sp} {E : XK} {fs : List (Str × V)} (e : H a = some (.ins C dx fs)) (l : fs.lookup m = none) (h : args σ H fun vs H2 => sp (.ref a :: (vs ++ [])) H2 Q E) : MetK C m sp E args σ Q (.ref a) H := ⟨a, dx, fs, rfl, e, l, h⟩
def MetNK (C : Addr) (m : Str) (n j : Nat) (sp : Sp) (args tk : TA) (σ : L2.St) (Q : VK) : VK := fun x H1 => ∃ a dx fs, x = .ref a ∧ H1 a = some (.ins C dx fs) ∧ fs.lookup m = none ∧
    args σ H1 fun vs H2 => tk σ H2 fun zs H3 => vs.length = n ∧ zs.length = j ∧ sp (x :: (vs ++ zs)) H3 Q C8.E0
theorem w_methN {C : Addr} {m : Str} {n j : Nat} {sp : Sp} (h : ta σ H (MetNK C m n j sp args tk σ Q)) : tMethN C m n j sp ta args tk σ H Q := h
theorem w_methNk {a C dx : Addr} {m : Str} {n j : Nat} {sp : Sp} {fs : List (Str × V)} (e : H a = some (.ins C dx fs)) (l : fs.lookup m = none)
    (h : args σ H fun vs H2 => tk σ H2 fun zs H3 => vs.length = n ∧ zs.length = j ∧ sp (.ref a :: (vs ++ zs)) H3 Q C8.E0) : MetNK C m n j sp args tk σ Q (.ref a) H := ⟨a, dx, fs, rfl, e, l, h⟩
/-- o.f = e -/
def SFldK (K : PySem.W.Frag) (f : Str) (y : V) (nx : L2.St → Hp → Prop) (σ : L2.St) : VK := fun x H2 => ∃ a C dx fs, x = .ref a ∧ H2 a = some (.ins C dx fs) ∧ Cls K C ∧ NoAttr K C f ∧ fs.length < 1000 ∧ nx σ (upd H2 a (.ins C dx (putF f y fs)))
theorem w_sfld {f : Str} (h : tv σ H fun y H1 => ta σ H1 (SFldK K f y nx σ)) : sFld K ta tv f ⟨nx, rt, bk, ct⟩ σ H := h
theorem w_sfldk {f : Str} {a C dx : Addr} {fs : List (Str × V)} (e : H a = some (.ins C dx fs)) (c : Cls K C) (n : NoAttr K C f) (l : fs.length < 1000) (q : nx σ (upd H a (.ins C dx (putF f y fs)))) : SFldK K f y nx σ (.ref a) H := ⟨a, C, dx, fs, rfl, e, c, n, l, q⟩
/-- new tuples, new lists -/
def TupK (Q : VK) : List V → Hp → Prop := fun xs H1 => xs.length ≤ sizeLine ∧ ∀ p, H1 p = none → Q (.ref p) (upd H1 p (.tup xs))
theorem w_tup (h : args σ H (TupK Q)) : tTup args σ H Q := h
theorem w_tupk {xs : List V} (S : Sep B M W L H) (l : xs.length ≤ sizeLine) (k : ∀ p H', Sep B M W ((p, .tup xs) :: L) H' → Own B M p → Q (.ref p) H') : TupK Q xs H := ⟨l, fun p hp => k p _ (S.new hp) (S.own hp)⟩
def LstK (Q : VK) : List V → Hp → Prop := fun xs H1 => xs.length ≤ sizeLine ∧ ∀ p, H1 p = none → Q (.ref p) (upd H1 p (.lst xs))
theorem w_lst (h : args σ H (LstK Q)) : tLst args σ H Q := h
theorem w_lstk {xs : List V} (S : Sep B M W L H) (l : xs.length ≤ sizeLine) (k : ∀ p H', Sep B M W ((p, .lst xs) :: L) H' → Own B M p → Q (.ref p) H') : LstK Q xs H := ⟨l, fun p hp => k p _ (S.new hp) (S.own hp)⟩
/-- a list's item -/
theorem w_ixL {a : Addr} {xs : List V} {j : Int} (e : H a = some (.lst xs)) (h : atI xs j = some v) (q : Q v H) : rIxL K (.ref a) (.int j) H Q := ⟨a, xs, j, v, rfl, rfl, SqL.of e, h, q⟩
theorem w_ixT {a : Addr} {xs : List V} {j : Int} (e : H a = some (.tup xs)) (h : atI xs j = some v) (q : Q v H) : rIxT K (.ref a) (.int j) H Q := ⟨a, xs, j, v, rfl, rfl, SqT.of e, h, q⟩
/-- len -/
theorem w_len {a : Addr} {xs : List V} (e : H a = some (.lst xs)) (q : Q (.int (xs.length : Int)) H) : rLen K [V.ref a] H Q := ⟨a, xs, rfl, .inl (SqL.of e), q⟩
theorem w_lenT {a : Addr} {xs : List V} (e : H a = some (.tup xs)) (q : Q (.int (xs.length : Int)) H) : rLen K [V.ref a] H Q := ⟨a, xs, rfl, .inr (SqT.of e), q⟩
theorem w_max2 {i j : Int} (q : Q (.int (if j > i then j else i)) H) : rMax2 [.int i, .int j] H Q := ⟨i, j, rfl, q⟩
theorem w_min2 {i j : Int} (q : Q (.int (if j < i then j else i)) H) : rMin2 [.int i, .int j] H Q := ⟨i, j, rfl, q⟩
theorem w_isC {a C dx : Addr} {fs : List (Str × V)} (e : H a = some (.ins C dx fs)) (q : Q (.bl true) H) : rIsC C [.ref a, .ref C] H Q := ⟨a, dx, fs, rfl, e, q⟩
theorem w_isN {b : Bool} (h : decide (x = V.non) = b) (q : Q (.bl b) H) : rIsN x .non H Q := ⟨rfl, by
  rw [h]
  exact q⟩
theorem w_notN {b : Bool} (h : decide (x = V.non) = b) (q : Q (.bl (!b)) H) : rNotN x .non H Q := ⟨rfl, by
  rw [h]
  exact q⟩
/-- in, not in -/
theorem w_in {neg : Bool} {a : Addr} {xs : List V} (e : H a = some (.lst xs)) (fx : flatV x = true) (fs : xs.all flatV = true) (q : Q (.bl (if neg then !inV x xs else inV x xs)) H) : rIn K neg x (.ref a) H Q := ⟨a, xs, rfl, .inl (SqL.of e), fx, fs, q⟩
/-- a list's method -/
def BmK (K : PySem.W.Frag) (T : String) (r : V → List V → Hp → VK → Prop) (args : TA) (σ : L2.St) (Q : VK) : VK := fun x H1 => tyV K T x H1 ∧ args σ H1 fun xs H2 => r x xs H2 Q
theorem w_BM {T : String} {r : V → List V → Hp → VK → Prop} (h : ta σ H (BmK K T r args σ Q)) : tBM K T r ta args σ H Q := h
theorem w_BMl {r : V → List V → Hp → VK → Prop} {a : Addr} {xs : List V} (e : H a = some (.lst xs)) (h : args σ H fun zs H2 => r (.ref a) zs H2 Q) : BmK K "list" r args σ Q (.ref a) H := ⟨.inl ⟨rfl, _, SqL.of e⟩, h⟩
theorem w_append {a : Addr} {xs : List V} (e : H a = some (.lst xs)) (l : xs.length < sizeLine) (q : Q .non (upd H a (.lst (xs ++ [y])))) : rAppend (.ref a) [y] H Q := ⟨a, xs, y, rfl, rfl, e, l, q⟩
/-- o[i] = v -/
theorem w_sub {to ti : TE} {ts : TSet} {Q : L2.St → Hp → Prop} (h : to σ H fun o H1 => ti σ H1 fun j H2 => ts o j v H2 fun H3 => Q σ H3) : gSub to ti ts v σ H Q := h
theorem w_setL {a : Addr} {xs : List V} {k : Int} {j : Nat} {Q : Hp → Prop} (e : H a = some (.lst xs)) (h : ixN xs.length k = some j) (q : Q (upd H a (.lst (xs.set j v)))) : rSetL (.ref a) (.int k) v H Q := ⟨a, xs, k, j, rfl, rfl, e, h, q⟩
/-- a tuple taken apart -/
def TupQ (K : PySem.W.Frag) (n : Nat) (t : TGs) (σ : L2.St) (Q : L2.St → Hp → Prop) : VK := fun v H => ∃ a xs, v = .ref a ∧ SqT K H a xs ∧ xs.length = n ∧ t xs σ H Q
theorem w_gTup {n : Nat} {t : TGs} {a : Addr} {xs : List V} {Q : L2.St → Hp → Prop} (e : H a = some (.tup xs)) (l : xs.length = n) (q : t xs σ H Q) : gTup K n t (.ref a) σ H Q := ⟨a, xs, rfl, SqT.of e, l, q⟩
theorem w_gCons {t : TG} {u : TGs} {r : List V} {Q : L2.St → Hp → Prop} (h : t v σ H fun σ' H' => u r σ' H' Q) : gCons t u (v :: r) σ H Q := ⟨v, r, rfl, h⟩
theorem w_gNil {Q : L2.St → Hp → Prop} (h : Q σ H) : gNil [] σ H Q := ⟨rfl, h⟩
/-- slices -/
theorem w_sl {r : V → Option Int → Option Int → Hp → VK → Prop} {tl th : TO} (h : te σ H fun x H1 => tl σ H1 fun l H2 => th σ H2 fun u H3 => r x l u H3 Q) : tSl r te tl th σ H Q := h
def PartK (Q : Option Int → Hp → Prop) : VK := fun x H1 => ∃ i, x = .int i ∧ Q (some i) H1
theorem w_part {Q : Option Int → Hp → Prop} (h : te σ H (PartK Q)) : tPart te σ H Q := h
theorem w_partk {Q : Option Int → Hp → Prop} {j : Int} (h : Q (some j) H) : PartK Q (.int j) H := ⟨j, rfl, h⟩
theorem w_nopart {Q : Option Int → Hp → Prop} (h : Q none H) : tNoPart σ H Q := h
theorem w_slL {a : Addr} {xs : List V} {lo hi : Option Int} (S : Sep B M W L H) (e : H a = some (.lst xs)) (k : ∀ p H', Sep B M W ((p, .lst (cutV xs lo hi)) :: L) H' → Own B M p → Q (.ref p) H') : rSlL K (.ref a) lo hi H Q := ⟨a, xs, rfl, SqL.of e, fun p hp => k p _ (S.new hp) (S.own hp)⟩
/-- sorted -/
theorem w_sorted {a : Addr} {ns : List Int} (S : Sep B M W L H) (e : H a = some (.lst (ns.map V.int))) (l : ns.length < 64) (k : ∀ (ns' : List Int) (p : Addr) (H' : Hp), ns'.Perm ns → ns'.Pairwise (· ≤ ·) → Sep B M W ((p, .lst (ns'.map V.int)) :: L) H' → Own B M p → Q (.ref p) H') : rSorted K [V.ref a] H Q :=
  ⟨a, ns, rfl, SqL.of e, l, fun ns' p h1 h2 hp => k ns' p _ h1 h2 (S.new hp) (S.own hp)⟩
/-- list(xs) -/
theorem w_listOf {a : Addr} {xs : List V} (S : Sep B M W L H) (e : H a = some (.lst xs)) (k : ∀ p H', Sep B M W ((p, .lst xs) :: L) H' → Own B M p → Q (.ref p) H') : rListOf K [V.ref a] H Q :=
  ⟨a, xs, rfl, .inl (SqL.of e), fun p hp => k p _ (S.new hp) (S.own hp)⟩
/-- xs + ys -/
theorem w_cat {a b : Addr} {xs ys : List V} (S : Sep B M W L H) (e : H a = some (.lst xs)) (e' : H b = some (.lst ys)) (l : xs.length + ys.length ≤ sizeLine) (k : ∀ p H', Sep B M W ((p, .lst (xs ++ ys)) :: L) H' → Own B M p → Q (.ref p) H') : rCat (.ref a) (.ref b) H Q :=
  ⟨a, b, xs, ys, rfl, rfl, e, e', l, fun p hp => k p _ (S.new hp) (S.own hp)⟩
/-- dicts -/
theorem w_dget {td ty : TE} (h : td σ H fun x H1 => ty σ H1 fun y H2 => ∃ a v, x = .ref a ∧ DGet H2 a y (some v) ∧ Q v H2) : tDGet td ty σ H Q := h
def GetK (ty tx : TE) (σ : L2.St) (Q : VK) : VK := fun x H1 => ∃ a, x = .ref a ∧ IsD H1 a ∧ ty σ H1 fun y H2 => tx σ H2 fun z H3 => ∃ o, DGet H3 a y o ∧ Q (o.getD z) H3
theorem w_dget2 {td ty tx : TE} (h : td σ H (GetK ty tx σ Q)) : tDGet2 td ty tx σ H Q := h
theorem w_getk {ty tx : TE} {a : Addr} {kvs : List (List Key × V)} (e : H a = some (.dT kvs)) (h : ty σ H fun y H2 => tx σ H2 fun z H3 => ∃ o, DGet H3 a y o ∧ Q (o.getD z) H3) : GetK ty tx σ Q (.ref a) H := ⟨a, rfl, .inr ⟨kvs, .inl e⟩, h⟩
theorem w_dput {td ty : TE} (h : tv σ H fun v H1 => td σ H1 fun x H2 => ty σ H2 fun y H3 => ∃ a H4, x = .ref a ∧ DPut H3 a y v H4 ∧ nx σ H4) : sDPut td ty tv ⟨nx, rt, bk, ct⟩ σ H := h
theorem w_dnewT (S : Sep B M W L H) (k : ∀ p H', Sep B M W ((p, .dT []) :: L) H' → Own B M p → Q (.ref p) H') : tDNewT σ H Q := fun p hp => k p _ (S.new hp) (S.own hp)
end
end LK
set_option Elab.async false
set_option linter.all false
set_option maxRecDepth 100000
set_option maxHeartbeats 4000000
set_option autoImplicit false
/-! The text by places, its facts, what an object looks like. -/
namespace LK
open PySem PySem.Spec L2
open C8 (Cal Met Mak)
def top (i : Nat) : Stmt := PySem.Challenge.pw_liarclocks_k18_whole_joined.main.body.getD i (.Pass ⟨0, 0, 0, 0⟩)
abbrev s_is_whole : Stmt := top 9
-- slots: 0:thing 1:low 2:high
theorem sc_is_whole : FnScope ["thing", "low", "high"] ["thing", "low", "high"] (C8.fnScope s_is_whole) := C8.fnScope_by (by decide +kernel)
abbrev s_look_number : Stmt := top 10
-- slots: 0:thing 1:low 2:high
theorem sc_look_number : FnScope ["thing", "low", "high"] ["thing", "low", "high"] (C8.fnScope s_look_number) := C8.fnScope_by (by decide +kernel)
abbrev s_look_liars : Stmt := top 11
-- slots: 0:liars 1:houses 2:few 3:fine 4:one
theorem sc_look_liars : FnScope ["liars", "houses", "few", "fine", "one"] ["liars", "houses", "few"] (C8.fnScope s_look_liars) := C8.fnScope_by (by decide +kernel)
abbrev s_Clock_init : Stmt := inClass (top 16) 0
-- slots: 0:self 1:first 2:rate
theorem sc_Clock_init : FnScope ["self", "first", "rate"] ["self", "first", "rate"] (C8.fnScope s_Clock_init) := C8.fnScope_by (by decide +kernel)
abbrev s_Clock_raw : Stmt := inClass (top 16) 1
-- slots: 0:self 1:beat
theorem sc_Clock_raw : FnScope ["self", "beat"] ["self", "beat"] (C8.fnScope s_Clock_raw) := C8.fnScope_by (by decide +kernel)
abbrev s_Clock_shows : Stmt := inClass (top 16) 2
-- slots: 0:self 1:beat
theorem sc_Clock_shows : FnScope ["self", "beat"] ["self", "beat"] (C8.fnScope s_Clock_shows) := C8.fnScope_by (by decide +kernel)
abbrev s_Clock_twin : Stmt := inClass (top 16) 5
-- slots: 0:self 1:other
theorem sc_Clock_twin : FnScope ["self", "other"] ["self"] (C8.fnScope s_Clock_twin) := C8.fnScope_by (by decide +kernel)
abbrev s_left_of : Stmt := top 19
-- slots: 0:worths 1:few
theorem sc_left_of : FnScope ["worths", "few"] ["worths", "few"] (C8.fnScope s_left_of) := C8.fnScope_by (by decide +kernel)
abbrev s_middle_of : Stmt := top 20
-- slots: 0:worths 1:few 2:left
theorem sc_middle_of : FnScope ["worths", "few", "left"] ["worths", "few"] (C8.fnScope s_middle_of) := C8.fnScope_by (by decide +kernel)
abbrev s_look_lies : Stmt := top 23
-- slots: 0:lies 1:liars 2:houses 3:pair 4:fine
theorem sc_look_lies : FnScope ["lies", "liars", "houses", "pair", "fine"] ["lies", "liars", "houses"] (C8.fnScope s_look_lies) := C8.fnScope_by (by decide +kernel)
abbrev s_Company_init : Stmt := inClass (top 26) 0
-- slots: 0:self 1:clocks 2:few 3:error 4:liars 5:waiting 6:fine 7:clock 8:house
theorem sc_Company_init : FnScope ["self", "clocks", "few", "error", "liars", "waiting", "fine", "clock", "house"] ["self", "clocks", "few", "error", "liars", "waiting"] (C8.fnScope s_Company_init) := C8.fnScope_by (by decide +kernel)
abbrev s_Company_members : Stmt := inClass (top 26) 1
-- slots: 0:self 1:house
theorem sc_Company_members : FnScope ["self", "house"] ["self"] (C8.fnScope s_Company_members) := C8.fnScope_by (by decide +kernel)
abbrev s_Company_honest : Stmt := inClass (top 26) 2
-- slots: 0:self 1:house
theorem sc_Company_honest : FnScope ["self", "house"] ["self"] (C8.fnScope s_Company_honest) := C8.fnScope_by (by decide +kernel)
abbrev s_Company_look_honest : Stmt := inClass (top 26) 3
-- slots: 0:self 1:house
theorem sc_Company_look_honest : FnScope ["self", "house"] ["self", "house"] (C8.fnScope s_Company_look_honest) := C8.fnScope_by (by decide +kernel)
abbrev s_Company_shows : Stmt := inClass (top 26) 4
-- slots: 0:self 1:house 2:beat
theorem sc_Company_shows : FnScope ["self", "house", "beat"] ["self", "house", "beat"] (C8.fnScope s_Company_shows) := C8.fnScope_by (by decide +kernel)
abbrev s_Company_readings : Stmt := inClass (top 26) 5
-- slots: 0:self 1:beat 2:house
theorem sc_Company_readings : FnScope ["self", "beat", "house"] ["self", "beat"] (C8.fnScope s_Company_readings) := C8.fnScope_by (by decide +kernel)
abbrev s_Company_look_errors : Stmt := inClass (top 26) 7
-- slots: 0:self 1:errors 2:last 3:pair 4:fine 5:one
theorem sc_Company_look_errors : FnScope ["self", "errors", "last", "pair", "fine", "one"] ["self", "errors"] (C8.fnScope s_Company_look_errors) := C8.fnScope_by (by decide +kernel)
abbrev s_Company_seen : Stmt := inClass (top 26) 8
-- slots: 0:self 1:house 2:beat 3:lies 4:errors 5:found 6:one
theorem sc_Company_seen : FnScope ["self", "house", "beat", "lies", "errors", "found", "one"] ["self", "house", "beat", "lies", "errors"] (C8.fnScope s_Company_seen) := C8.fnScope_by (by decide +kernel)
abbrev s_Company_meet : Stmt := inClass (top 26) 9
-- slots: 0:self 1:beat 2:lies 3:offs 4:errors 5:goals 6:steps 7:house 8:step
theorem sc_Company_meet : FnScope ["self", "beat", "lies", "offs", "errors", "goals", "steps", "house", "step"] ["self", "beat", "lies", "offs"] (C8.fnScope s_Company_meet) := C8.fnScope_by (by decide +kernel)
abbrev s_Company_enter : Stmt := inClass (top 26) 10
-- slots: 0:self 1:house 2:beat 3:lies 4:offs 5:errors 6:goal
theorem sc_Company_enter : FnScope ["self", "house", "beat", "lies", "offs", "errors", "goal"] ["self", "house", "beat", "lies", "offs"] (C8.fnScope s_Company_enter) := C8.fnScope_by (by decide +kernel)
abbrev s_Company_leave : Stmt := inClass (top 26) 11
-- slots: 0:self 1:house
theorem sc_Company_leave : FnScope ["self", "house"] ["self", "house"] (C8.fnScope s_Company_leave) := C8.fnScope_by (by decide +kernel)
abbrev s__law_town : Stmt := top 28
-- slots: 0:_law_script
theorem sc__law_town : FnScope ["_law_script"] ["_law_script"] (C8.fnScope s__law_town) := C8.fnScope_by (by decide +kernel)
abbrev s__law_draw : Stmt := top 29
-- slots: 0:_law_town_here 1:_law_many 2:_law_row 3:_law_at 4:_law_cell 5:_law_mixed
theorem sc__law_draw : FnScope ["_law_town_here", "_law_many", "_law_row", "_law_at", "_law_cell", "_law_mixed"] ["_law_town_here", "_law_many"] (C8.fnScope s__law_draw) := C8.fnScope_by (by decide +kernel)
abbrev s__law_pick : Stmt := top 30
-- slots: 0:_law_town_here 1:_law_some
theorem sc__law_pick : FnScope ["_law_town_here", "_law_some"] ["_law_town_here", "_law_some"] (C8.fnScope s__law_pick) := C8.fnScope_by (by decide +kernel)
abbrev s__law_whole : Stmt := top 31
-- slots: 0:_law_thing
theorem sc__law_whole : FnScope ["_law_thing"] ["_law_thing"] (C8.fnScope s__law_whole) := C8.fnScope_by (by decide +kernel)
abbrev s__law_whole_list : Stmt := top 32
-- slots: 0:_law_thing 1:_law_one
theorem sc__law_whole_list : FnScope ["_law_thing", "_law_one"] ["_law_thing"] (C8.fnScope s__law_whole_list) := C8.fnScope_by (by decide +kernel)
abbrev s__law_number : Stmt := top 33
-- slots: 0:_law_town_here 1:_law_most 2:_law_found
theorem sc__law_number : FnScope ["_law_town_here", "_law_most", "_law_found"] ["_law_town_here"] (C8.fnScope s__law_number) := C8.fnScope_by (by decide +kernel)
abbrev s__law_liars : Stmt := top 34
-- slots: 0:_law_town_here 1:_law_crew 2:_law_most 3:_law_found 4:_law_house
theorem sc__law_liars : FnScope ["_law_town_here", "_law_crew", "_law_most", "_law_found", "_law_house"] ["_law_town_here", "_law_crew", "_law_most"] (C8.fnScope s__law_liars) := C8.fnScope_by (by decide +kernel)
abbrev s__law_lies : Stmt := top 35
-- slots: 0:_law_town_here 1:_law_crew 2:_law_foes 3:_law_worths 4:_law_found 5:_law_foe 6:_law_house 7:_law_near
theorem sc__law_lies : FnScope ["_law_town_here", "_law_crew", "_law_foes", "_law_worths", "_law_found", "_law_foe", "_law_house", "_law_near"] ["_law_town_here", "_law_crew", "_law_foes", "_law_worths"] (C8.fnScope s__law_lies) := C8.fnScope_by (by decide +kernel)
abbrev s__law_middle : Stmt := top 36
-- slots: 0:_law_worths 1:_law_some 2:_law_left_here 3:_law_turn
theorem sc__law_middle : FnScope ["_law_worths", "_law_some", "_law_left_here", "_law_turn"] ["_law_worths", "_law_some"] (C8.fnScope s__law_middle) := C8.fnScope_by (by decide +kernel)
abbrev s__law_company : Stmt := top 37
-- slots: 0:_law_town_here 1:_law_some 2:_law_crew 3:_law_wrong 4:_law_wait 5:_law_size 6:_law_clocks 7:_law_waits 8:_law_foes 9:_law_company_here 10:_law_k
theorem sc__law_company : FnScope ["_law_town_here", "_law_some", "_law_crew", "_law_wrong", "_law_wait", "_law_size", "_law_clocks", "_law_waits", "_law_foes", "_law_company_here", "_law_k"] ["_law_town_here", "_law_some", "_law_crew", "_law_wrong", "_law_wait"] (C8.fnScope s__law_company) := C8.fnScope_by (by decide +kernel)
abbrev s__law_slips : Stmt := top 38
-- slots: 0:_law_town_here 1:_law_size 2:_law_wrong 3:_law_found 4:_law_house 5:_law_other
theorem sc__law_slips : FnScope ["_law_town_here", "_law_size", "_law_wrong", "_law_found", "_law_house", "_law_other"] ["_law_town_here", "_law_size", "_law_wrong"] (C8.fnScope s__law_slips) := C8.fnScope_by (by decide +kernel)
abbrev s__law_reads : Stmt := top 39
-- slots: 0:_law_house 1:_law_inside 2:_law_shown 3:_law_foes 4:_law_tales 5:_law_slips_here 6:_law_found 7:_law_one 8:_law_off 9:_law_own
theorem sc__law_reads : FnScope ["_law_house", "_law_inside", "_law_shown", "_law_foes", "_law_tales", "_law_slips_here", "_law_found", "_law_one", "_law_off", "_law_own"] ["_law_house", "_law_inside", "_law_shown", "_law_foes", "_law_tales", "_law_slips_here"] (C8.fnScope s__law_reads) := C8.fnScope_by (by decide +kernel)
abbrev s__law_left : Stmt := top 40
-- slots: 0:_law_town_here 1:_law_company_here 2:_law_inside 3:_law_foes 4:_law_waits 5:_law_some 6:_law_house 7:_law_one
theorem sc__law_left : FnScope ["_law_town_here", "_law_company_here", "_law_inside", "_law_foes", "_law_waits", "_law_some", "_law_house", "_law_one"] ["_law_town_here", "_law_company_here", "_law_inside", "_law_foes", "_law_waits", "_law_some"] (C8.fnScope s__law_left) := C8.fnScope_by (by decide +kernel)
abbrev s_law : Stmt := top 41
-- slots: 0:_law_script 1:_law_town_here 2:_law_some 3:_law_crew 4:_law_wrong 5:_law_company_here 6:_law_clocks 7:_law_foes 8:_law_waits 9:_law_inside 10:_law_beat 11:_law_turn 12:_law_near 13:_law_tales 14:_law_slips_here 15:_law_house 16:_law_shown 17:_law_due 18:_law_k 19:_law_one
theorem sc_law : FnScope ["_law_script", "_law_town_here", "_law_some", "_law_crew", "_law_wrong", "_law_company_here", "_law_clocks", "_law_foes", "_law_waits", "_law_inside", "_law_beat", "_law_turn", "_law_near", "_law_tales", "_law_slips_here", "_law_house", "_law_shown", "_law_due", "_law_k", "_law_one"] ["_law_script"] (C8.fnScope s_law) := C8.fnScope_by (by decide +kernel)
/-- what the top has written -/
structure Txt (K : PySem.W.Frag) (mg : Str → Option Value) (Ccl Cco : Addr) : Prop where
  b_isinstance : mg "isinstance" = none
  b_len : mg "len" = none
  b_sorted : mg "sorted" = none
  b_all : mg "all" = none
  b_any : mg "any" = none
  b_max : mg "max" = none
  b_min : mg "min" = none
  b_set : mg "set" = none
  b_list : mg "list" = none
  b_range : mg "range" = none
  b_int : mg "int" = none
  b_bool : mg "bool" = none
  b_tuple : mg "tuple" = none
  b_dict : mg "dict" = none
  k_MOST : ∃ u, mg "MOST" = some u ∧ RelV (.int 1000000) u
  k_RATE : ∃ u, mg "RATE" = some u ∧ RelV (.int 1000) u
  k_MOST_RATE : ∃ u, mg "MOST_RATE" = some u ∧ RelV (.int 100) u
  k_MOST_BEAT : ∃ u, mg "MOST_BEAT" = some u ∧ RelV (.int 100000) u
  k_MOST_FEW : ∃ u, mg "MOST_FEW" = some u ∧ RelV (.int 5) u
  k_MOST_HOUSES : ∃ u, mg "MOST_HOUSES" = some u ∧ RelV (.int 16) u
  k_MOST_ERROR : ∃ u, mg "MOST_ERROR" = some u ∧ RelV (.int 100) u
  g_Clock : mg "Clock" = some (.ref Ccl)
  insc : C8.InsC K Ccl
  cC : Cls K Ccl
  cO : Cls K Cco
  n_first : NoAttr K Ccl "first"
  n_rate : NoAttr K Ccl "rate"
  n_set_by : NoAttr K Ccl "set_by"
  n_clocks : NoAttr K Cco "clocks"
  n_few : NoAttr K Cco "few"
  n_error : NoAttr K Cco "error"
  n_liars : NoAttr K Cco "liars"
  n_waits : NoAttr K Cco "waits"
  n_last : NoAttr K Cco "last"
  n_steps : NoAttr K Cco "steps"
/-- a def of the module -/
structure DefB (K : PySem.W.Frag) (mg : Str → Option Value) (x : Str) (st : Stmt) (ps : List Str) : Prop where
  ex : ∃ (f : Addr) (fd : FuncData), C8.Def K mg x st f fd ∧ Binds K fd ps []
/-- a method, called with values alone -/
structure MetB (K : PySem.W.Frag) (C : Addr) (m qual : Str) (st : Stmt) (ps : List Str) : Prop where
  ex : ∃ (f : Addr) (fd : FuncData), Cls K C ∧ Meth K C m f ∧ C8.Fun K m qual st f fd ∧ Binds K fd ps []
/-- a method, called with keywords -/
structure MetKB (K : PySem.W.Frag) (C : Addr) (m qual : Str) (st : Stmt) (ps : List Str) (n : Nat) (ks : List Str) : Prop where
  ex : ∃ (f : Addr) (fd : FuncData), Cls K C ∧ Meth K C m f ∧ C8.Fun K m qual st f fd ∧ KBn K fd ps (n + 1) ks (fun us ws => us ++ ws) (fun vs zs => vs ++ zs)
/-- a class that is made with keywords -/
structure MakKB (K : PySem.W.Frag) (mg : Str → Option Value) (x : Str) (C : Addr) (qual : Str) (st : Stmt) (ps : List Str) (n : Nat) (ks : List Str) : Prop where
  ex : ∃ (f : Addr) (fd : FuncData), Mk K C f ∧ mg x = some (.ref C) ∧ C8.Fun K "__init__" qual st f fd ∧ KBn K fd ps (n + 1) ks (fun us ws => us ++ ws) (fun vs zs => vs ++ zs)
section
variable {P : Program} {w : World} {K : PySem.W.Frag} {mg : Str → Option Value} {base : Heap} {x m qual : Str} {C : Addr} {st : Stmt} {N ps ks : List Str} {n k : Nat} {sp : Sp}
theorem DefB.cal (D : DefB K mg x st ps) (S : FnScope N ps (C8.fnScope st)) (len : ∀ vs H Q E, sp vs H Q E → vs.length = ps.length)
    (hbody : ∀ (f : Addr) (cdv : Value) (A : Around) (outer : List Env) (s : Shared) (H : Hp) (vs : List V) (Q : VK) (E : XK), Room k (A.deeper (PyProof.Rows.envOfC x (C8.fnScope st) s.heap.objs.size f cdv)) → sp vs H Q E →
      ∃ t, PSs (cxOf C8.CX0 P w K mg base N x (C8.fnScope st) f cdv A outer s H E).nox (C8.fnBody st) t ∧ t { nx := fun _ H' => Q .non H', rt := Q } (start N vs) H) : Cal P w K mg base (k + 1) x sp [] := by
  obtain ⟨f, fd, F, b⟩ := D.ex
  exact C8.cal0 F b .nil S len (hbody f)
theorem MetB.met (D : MetB K C m qual st ps) (S : FnScope N ps (C8.fnScope st)) (len : ∀ vs H Q E, sp vs H Q E → vs.length = ps.length)
    (hbody : ∀ (f : Addr) (cdv : Value) (A : Around) (outer : List Env) (s : Shared) (H : Hp) (vs : List V) (Q : VK) (E : XK), Room k (A.deeper (PyProof.Rows.envOfC qual (C8.fnScope st) s.heap.objs.size f cdv)) → sp vs H Q E →
      ∃ t, PSs (cxOf C8.CX0 P w K mg base N qual (C8.fnScope st) f cdv A outer s H E).nox (C8.fnBody st) t ∧ t { nx := fun _ H' => Q .non H', rt := Q } (start N vs) H) : Met P w K mg base (k + 1) C m sp [] := by
  obtain ⟨f, fd, c, me, F, b⟩ := D.ex
  exact C8.met0 c me F b S len (hbody f)
theorem MetKB.met (D : MetKB K C m qual st ps n ks) (S : FnScope N ps (C8.fnScope st)) (len : ∀ vs H Q E, sp vs H Q E → vs.length = ps.length)
    (hbody : ∀ (f : Addr) (cdv : Value) (A : Around) (outer : List Env) (s : Shared) (H : Hp) (vs : List V) (Q : VK) (E : XK), Room k (A.deeper (PyProof.Rows.envOfC qual (C8.fnScope st) s.heap.objs.size f cdv)) → sp vs H Q E →
      ∃ t, PSs (cxOf C8.CX0 P w K mg base N qual (C8.fnScope st) f cdv A outer s H E).nox (C8.fnBody st) t ∧ t { nx := fun _ H' => Q .non H', rt := Q } (start N vs) H) : MetN P w K mg base (k + 1) C m n ks sp := by
  obtain ⟨f, fd, c, me, F, b⟩ := D.ex
  exact ⟨f, fd, ps, c, me, C8.fn0 F S len (hbody f), b⟩
theorem MakKB.mak (D : MakKB K mg x C qual st ps n ks) (S : FnScope N ps (C8.fnScope st)) (len : ∀ vs H Q E, sp vs H Q E → vs.length = ps.length)
    (hbody : ∀ (f : Addr) (cdv : Value) (A : Around) (outer : List Env) (s : Shared) (H : Hp) (vs : List V) (Q : VK) (E : XK), Room k (A.deeper (PyProof.Rows.envOfC qual (C8.fnScope st) s.heap.objs.size f cdv)) → sp vs H Q E →
      ∃ t, PSs (cxOf C8.CX0 P w K mg base N qual (C8.fnScope st) f cdv A outer s H E).nox (C8.fnBody st) t ∧ t { nx := fun _ H' => Q .non H', rt := Q } (start N vs) H) : MakN P w K mg base (k + 1) x C n ks sp := by
  obtain ⟨f, fd, M, hm, F, b⟩ := D.ex
  exact ⟨f, fd, ps, M, hm, C8.fn0 F S len (hbody f), b⟩
end

/-! ### the attributes -/
def ckf (f r s : Int) : List (Str × V) := [("first", .int f), ("rate", .int r), ("set_by", .int s)]
theorem putF_hit {f : Str} {v u : V} {r : List (Str × V)} : putF f v ((f, u) :: r) = (f, v) :: r := by
  unfold putF
  rw [if_pos rfl]
theorem putF_miss {f g : Str} {v u : V} {r : List (Str × V)} (h : ¬ g = f) : putF f v ((g, u) :: r) = (g, u) :: putF f v r := by
  rw [show putF f v ((g, u) :: r) = (if g = f then (g, v) :: r else (g, u) :: putF f v r) from rfl, if_neg h]
theorem putF_end {f : Str} {v : V} : putF f v [] = [(f, v)] := rfl
theorem lk_hit {f : Str} {v : V} {r : List (Str × V)} : List.lookup f ((f, v) :: r) = some v := by simp [List.lookup]
theorem lk_miss {f g : Str} {v : V} {r : List (Str × V)} (h : ¬ f = g) : List.lookup f ((g, v) :: r) = List.lookup f r := by
  have hb : (f == g) = false := beq_eq_false_iff_ne.mpr h
  simp only [List.lookup, hb]
theorem ck_first {f r s : Int} : (ckf f r s).lookup ("first" : Str) = some (.int f) := lk_hit
theorem ck_rate {f r s : Int} : (ckf f r s).lookup ("rate" : Str) = some (.int r) := by
  unfold ckf
  rw [lk_miss (by decide +kernel), lk_hit]
theorem ck_set {f r s : Int} : (ckf f r s).lookup ("set_by" : Str) = some (.int s) := by
  unfold ckf
  rw [lk_miss (by decide +kernel), lk_miss (by decide +kernel), lk_hit]
theorem ck_no {f r s : Int} {m : Str} (h1 : ¬ m = "first") (h2 : ¬ m = "rate") (h3 : ¬ m = "set_by") : (ckf f r s).lookup m = none := by
  unfold ckf
  rw [lk_miss h1, lk_miss h2, lk_miss h3]
  rfl
theorem ck_put {f r s t : Int} : putF "set_by" (.int t) (ckf f r s) = ckf f r t := by
  unfold ckf
  rw [putF_miss (by decide +kernel), putF_miss (by decide +kernel), putF_hit]
theorem ck_mk1 {f : Int} : putF "first" (.int f) [] = [(("first" : Str), V.int f)] := rfl
theorem ck_mk2 {f r : Int} : putF "rate" (.int r) [(("first" : Str), V.int f)] = [(("first" : Str), V.int f), ("rate", .int r)] := by
  rw [putF_miss (by decide +kernel), putF_end]
theorem ck_mk3 {f r s : Int} : putF "set_by" (.int s) [(("first" : Str), V.int f), ("rate", .int r)] = ckf f r s := by
  rw [putF_miss (by decide +kernel), putF_miss (by decide +kernel), putF_end]
  rfl
theorem ck_raw {f r s : Int} : (ckf f r s).lookup ("raw" : Str) = none := ck_no (by decide +kernel) (by decide +kernel) (by decide +kernel)
theorem ck_shows {f r s : Int} : (ckf f r s).lookup ("shows" : Str) = none := ck_no (by decide +kernel) (by decide +kernel) (by decide +kernel)
theorem ck_twin {f r s : Int} : (ckf f r s).lookup ("twin" : Str) = none := ck_no (by decide +kernel) (by decide +kernel) (by decide +kernel)
/-- what a clock shows at a beat -/
def shw (f r s b : Int) : Int := f + b * (1000 + r) / 1000 + s

/-! ### values -/
section
variable {K : PySem.W.Frag} {H : Hp} {Q : VK}
theorem w_isiII {n : Int} (q : Q (.bl true) H) : rIsi K [.int n, .ty "int"] H Q := ⟨_, _, _, _, true, rfl, .ty _, .base (.int n), kit_ty (by decide +kernel), q⟩
theorem w_isiIB {n : Int} (q : Q (.bl false) H) : rIsi K [.int n, .ty "bool"] H Q := ⟨_, _, _, _, false, rfl, .ty _, .base (.int n), kit_ty (by decide +kernel), q⟩
theorem w_isiL {a : Addr} {xs : List V} (e : H a = some (.lst xs)) (q : Q (.bl true) H) : rIsi K [.ref a, .ty "list"] H Q := ⟨_, _, _, _, true, rfl, .ty _, .base (.lst e), kit_ty (by decide +kernel), q⟩
theorem w_isiD {a : Addr} {kvs : List (List Key × V)} (e : H a = some (.dT kvs)) (q : Q (.bl true) H) : rIsi K [.ref a, .ty "dict"] H Q := ⟨_, _, _, _, true, rfl, .ty _, .base (.dT e), kit_ty (by decide +kernel), q⟩
theorem w_isiT {a : Addr} {xs : List V} (e : H a = some (.tup xs)) (q : Q (.bl true) H) : rIsi K [.ref a, .ty "tuple"] H Q := ⟨_, _, _, _, true, rfl, .ty _, .base (.tup e), kit_ty (by decide +kernel), q⟩
theorem w_isiLT {a tp : Addr} {xs : List V} (e : H a = some (.lst xs)) (et : H tp = some (.tup [.ty "list", .ty "tuple"])) (q : Q (.bl true) H) : rIsiT K [.ref a, .ref tp] H Q :=
  ⟨_, _, _, _, [.type "list", .type "tuple"], true, rfl, et, .cons (.ty _) (.cons (.ty _) .nil), .base (.lst e),
    kitAny_cons (b := true) (kit_ty (by decide +kernel)) (fun z => by cases z) (fun _ => rfl), q⟩
end

/-! ### rising lists -/
def srt (ns : List Int) : List Int := ns.mergeSort fun a b => decide (a ≤ b)
theorem srt_perm (ns : List Int) : (srt ns).Perm ns := List.mergeSort_perm ns _
theorem srt_rise (ns : List Int) : (srt ns).Pairwise (· ≤ ·) := by
  have h := List.pairwise_mergeSort (le := fun a b : Int => decide (a ≤ b)) (fun a b c h1 h2 => by
    simp only [decide_eq_true_eq] at *
    omega) (fun a b => by
    simp only [Bool.or_eq_true, decide_eq_true_eq]
    omega) ns
  exact h.imp fun {a b} z => of_decide_eq_true z
theorem srt_of {ns' ns : List Int} (p : ns'.Perm ns) (s : ns'.Pairwise (· ≤ ·)) : ns' = srt ns := PySem.W.ksm_same (p.trans (srt_perm ns).symm) s (srt_rise ns)
theorem srt_len (ns : List Int) : (srt ns).length = ns.length := (srt_perm ns).length_eq
def mid (ns : List Int) (k : Nat) : Int := ((srt ns)[k]?.getD 0 + (srt ns)[ns.length - 1 - k]?.getD 0) / 2
end LK
set_option Elab.async false
set_option linter.all false
set_option maxRecDepth 100000
set_option maxHeartbeats 4000000
set_option autoImplicit false
local macro_rules | `(tactic| wtm_at "look") => `(tactic| (with_reducible first | assumption | exact LK.Sep.g0 (by assumption) | exact LK.Sep.g1 (by assumption) | exact LK.Sep.g2 (by assumption) | exact LK.Sep.g3 (by assumption) | exact LK.Sep.g4 (by assumption) | exact LK.Sep.g5 (by assumption) | exact LK.Sep.g6 (by assumption) | exact LK.Sep.ro (by assumption) (by assumption) (fun z => z) | exact LK.Sep.ro (by assumption) (by assumption) (by assumption)))
local macro_rules | `(tactic| wtm_at "wp1") => `(tactic| (first | with_reducible refine LK.w_seq ?_ | with_reducible refine LK.w_next ?_ | with_reducible refine LK.w_drop ?_ | with_reducible refine LK.w_ret ?_ | with_reducible refine LK.w_asg ?_ | with_reducible refine LK.w_name ?_ | ((with_reducible apply LK.w_var); exact rfl) | with_reducible refine LK.w_c ?_ | with_reducible refine LK.w_yes ?_ | with_reducible refine LK.w_op ?_ | with_reducible refine LK.w_un ?_ | with_reducible refine LK.w_I0 ?_ | with_reducible refine LK.w_U ?_ | with_reducible refine LK.w_eqI ?_ | with_reducible refine LK.w_neI ?_ | with_reducible refine LK.w_test ?_ | with_reducible refine LK.w_B ?_ | with_reducible refine LK.w_blk ?_ | with_reducible refine LK.w_not ?_ | with_reducible refine LK.w_and ?_ | with_reducible refine LK.w_or ?_ | with_reducible refine LK.w_andV ?_ | with_reducible refine LK.w_notV ?_ | with_reducible refine LK.w_if ?_ | with_reducible refine LK.w_ifS ?_ | with_reducible refine LK.w_chain ?_ | with_reducible refine LK.w_cons ?_ | with_reducible refine LK.w_nil ?_ | with_reducible refine LK.w_call ?_ | with_reducible refine LK.w_CB ?_ | with_reducible refine LK.w_fld ?_ | with_reducible refine LK.w_meth ?_ | with_reducible refine LK.w_methN ?_ | with_reducible refine LK.w_sfld ?_ | with_reducible refine LK.w_tup ?_ | with_reducible refine LK.w_lst ?_ | with_reducible refine LK.w_BM ?_ | with_reducible refine LK.w_sub ?_ | with_reducible refine LK.w_gCons ?_ | with_reducible refine LK.w_gNil ?_ | with_reducible refine LK.w_sl ?_ | with_reducible refine LK.w_part ?_ | with_reducible refine LK.w_partk ?_ | with_reducible refine LK.w_nopart ?_ | with_reducible refine LK.w_dget ?_ | with_reducible refine LK.w_dget2 ?_ | with_reducible refine LK.w_dput ?_))
local macro_rules | `(tactic| wtm_at "wp") => `(tactic| (repeat wtm_at "wp1"))

/-! The small defs. -/
namespace LK
open PySem PySem.Spec L2
open C8 (Cal Met Mak)
section
variable {P : Program} {w : World} {K : PySem.W.Frag} {mg : Str → Option Value} {base : Heap} {Ccl Cco : Addr}
def spIsWhole : Sp := fun vs H Q _ => ∃ (n lo hi : Int), vs = [.int n, .int lo, .int hi] ∧ Q (.bl (decide (lo ≤ n) && decide (n ≤ hi))) H
theorem ok_is_whole (D : DefB K mg "is_whole" s_is_whole ["thing", "low", "high"]) (T : Txt K mg Ccl Cco) : Cal P w K mg base 1 "is_whole" spIsWhole [] := by
  refine D.cal sc_is_whole (by rintro vs H Q E ⟨_, _, _, rfl, _⟩; rfl) fun f cdv A outer s H vs Q E hr h => ?_
  obtain ⟨n, lo, hi, rfl, k⟩ := h
  refine ⟨_, (pss_one (ps_ret (pe_and (pe_callB (LK.kisi (K := K) (by rfl)) (by rfl) T.b_isinstance (by decide +kernel) (pa_cons (pv 0) (pa_cons (pe_bltn (v := .ty "int") (by rfl) T.b_int (by decide +kernel) rfl) pa_nil))) (pe_and (pe_not (pe_callB (LK.kisi (K := K) (by rfl)) (by rfl) T.b_isinstance (by decide +kernel) (pa_cons (pv 0) (pa_cons (pe_bltn (v := .ty "bool") (by rfl) T.b_bool (by decide +kernel) rfl) pa_nil)))) (pe_one (pe_chain op_le op_le (pv 1) (pv 0) (pv 2))))))), ?_⟩
  wtm_at "wp"
  refine w_isiII ?_
  wtm_at "wp"
  refine iteT ?_
  wtm_at "wp"
  refine w_isiIB ?_
  wtm_at "wp"
  refine iteT ?_
  wtm_at "wp"
  cases e1 : decide (lo ≤ n) with
  | false =>
    refine iteF ?_
    rw [e1] at k
    exact k
  | true =>
    refine iteT ?_
    wtm_at "wp"
    rw [e1] at k
    exact k
def spLookNumber : Sp := fun vs H Q _ => ∃ (n lo hi : Int), vs = [.int n, .int lo, .int hi] ∧ lo ≤ n ∧ n ≤ hi ∧ Q .non H
theorem ok_look_number (D : DefB K mg "look_number" s_look_number ["thing", "low", "high"]) (c_is_whole : Cal P w K mg base 1 "is_whole" spIsWhole []) (T : Txt K mg Ccl Cco) :
    Cal P w K mg base 2 "look_number" spLookNumber [] := by
  refine D.cal sc_look_number (by rintro vs H Q E ⟨_, _, _, rfl, _⟩; rfl) fun f cdv A outer s H vs Q E hr h => ?_
  obtain ⟨n, lo, hi, rfl, h1, h2, k⟩ := h
  refine ⟨_, (pss_one (ps_if (pt_not (pt_val (C8.pe_c c_is_whole hr (by decide) (by rfl) (pa_cons (pv 0) (pa_cons (pv 1) (pa_cons (pv 2) pa_nil))))))
        (pss_one ps_never)
        pss_nil)), ?_⟩
  wtm_at "wp"
  refine ⟨n, lo, hi, rfl, ?_⟩
  wtm_at "wp"
  rw [decide_eq_true h1, decide_eq_true h2]
  refine iteF ?_
  exact k
def spRaw (C : Addr) : Sp := fun vs H Q _ => ∃ (a dx : Addr) (f r s b : Int), vs = [.ref a, .int b] ∧ H a = some (.ins C dx (ckf f r s)) ∧ 0 ≤ b ∧ b ≤ 100000 ∧ Q (.int (f + b * (1000 + r) / 1000)) H
theorem ok_raw (D : MetB K Ccl "raw" "Clock.raw" s_Clock_raw ["self", "beat"]) (c_look_number : Cal P w K mg base 2 "look_number" spLookNumber []) (T : Txt K mg Ccl Cco) :
    Met P w K mg base 3 Ccl "raw" (spRaw Ccl) [] := by
  refine D.met sc_Clock_raw (by rintro vs H Q E ⟨_, _, _, _, _, _, rfl, _⟩; rfl) fun f cdv A outer s H vs Q E hr h => ?_
  obtain ⟨a, dx, f, r, z, b, rfl, h1, b0, b1, k⟩ := h
  refine ⟨_, (pss_cons (ps_expr (C8.pe_c c_look_number hr (by decide) (by rfl) (pa_cons (pv 1) (pa_cons pe_int (pa_cons (C8.pe_gc (by rfl) T.k_MOST_BEAT) pa_nil)))))
      (pss_one (ps_ret (pe_op op_add (LK.kfld (K := K) (by rfl) (pv 0) rfl) (pe_op op_fdiv (pe_op op_mul (pv 1) (pe_op op_add (C8.pe_gc (by rfl) T.k_RATE) (LK.kfld (K := K) (by rfl) (pv 0) rfl))) (C8.pe_gc (by rfl) T.k_RATE)))))), ?_⟩
  wtm_at "wp"
  refine ⟨b, 0, 100000, rfl, b0, b1, ?_⟩
  wtm_at "wp"
  refine w_fldk h1 T.cC T.n_first ck_first ?_
  wtm_at "wp"
  refine w_fldk h1 T.cC T.n_rate ck_rate ?_
  wtm_at "wp"
  refine w_I (.inl ⟨by omega, by omega⟩) ?_
  wtm_at "wp"
  refine w_I ⟨by decide, by decide⟩ ?_
  wtm_at "wp"
  exact k
def spShows (C : Addr) : Sp := fun vs H Q _ => ∃ (a dx : Addr) (f r s b : Int), vs = [.ref a, .int b] ∧ H a = some (.ins C dx (ckf f r s)) ∧ 0 ≤ b ∧ b ≤ 100000 ∧ Q (.int (shw f r s b)) H
theorem ok_shows (D : MetB K Ccl "shows" "Clock.shows" s_Clock_shows ["self", "beat"]) (c_Clock_raw : Met P w K mg base 3 Ccl "raw" (spRaw Ccl) []) (T : Txt K mg Ccl Cco) :
    Met P w K mg base 4 Ccl "shows" (spShows Ccl) [] := by
  refine D.met sc_Clock_shows (by rintro vs H Q E ⟨_, _, _, _, _, _, rfl, _⟩; rfl) fun f cdv A outer s H vs Q E hr h => ?_
  obtain ⟨a, dx, f, r, z, b, rfl, h1, b0, b1, k⟩ := h
  refine ⟨_, (pss_one (ps_ret (pe_op op_add (C8.pe_mt c_Clock_raw hr (by decide) (pv 0) (pa_cons (pv 1) pa_nil)) (LK.kfld (K := K) (by rfl) (pv 0) rfl)))), ?_⟩
  wtm_at "wp"
  refine w_methk h1 ck_raw ?_
  wtm_at "wp"
  refine ⟨a, dx, f, r, z, b, rfl, h1, b0, b1, ?_⟩
  wtm_at "wp"
  refine w_fldk h1 T.cC T.n_set_by ck_set ?_
  wtm_at "wp"
  exact k
end
end LK
set_option Elab.async false
set_option linter.all false
set_option maxRecDepth 100000
set_option maxHeartbeats 4000000
set_option autoImplicit false
/-! Helpers: equal lists of ints, membership, places, comprehensions, objects made. -/
namespace LK
open PySem PySem.Spec L2
open C8 (Cal Met Mak)

/-! ### lists of ints -/
theorem all_flat (ns : List Int) : (ns.map V.int).all flatV = true := by
  rw [List.all_map, List.all_eq_true]
  exact fun _ _ => rfl
theorem inV_int (k : Int) : ∀ ns : List Int, inV (.int k) (ns.map V.int) = decide (k ∈ ns)
  | [] => by simp [inV]
  | a :: r => by
    have h := inV_int k r
    unfold inV at h ⊢
    rw [List.map_cons, List.any_cons, h]
    by_cases e : a = k
    · subst e
      simp [eqV]
    · have e' : ¬ k = a := fun z => e z.symm
      simp [eqV, e, e']
theorem eqv_ints : ∀ ns ms : List Int, PyData.eqvAll (ns.map PyData.int) (ms.map PyData.int) = decide (ns = ms)
  | [], [] => by simp [PyData.eqvAll]
  | [], _ :: _ => by simp [PyData.eqvAll]
  | _ :: _, [] => by simp [PyData.eqvAll]
  | a :: r, b :: t => by
    simp only [List.map_cons, PyData.eqvAll, PyData.eqv, eqv_ints r t]
    by_cases h : a = b <;> by_cases h' : r = t <;> simp [h, h']
section
variable {K : PySem.W.Frag} {B : Hp} {M : Addr → Prop} {W : TW} {L : KL} {nx bk ct : L2.St → Hp → Prop} {rt : VK} {σ : L2.St} {H H' : Hp} {Q : VK} {D : Ends}
theorem dpAll_ints (ns : List Int) : DpAll K H (ns.map V.int) (ns.map PyData.int) := by
  induction ns with
  | nil => exact .nil
  | cons a r ih => exact .cons (.int a) ih
theorem w_neL {a b : Addr} {ns ms : List Int} (e : SqL K H a (ns.map V.int)) (e' : SqL K H b (ms.map V.int)) (q : Q (.bl (!decide (ns = ms))) H) : rNeD K (.ref a) (.ref b) H Q :=
  ⟨.list (ns.map .int), .list (ms.map .int), .lst e (dpAll_ints ns), .lst e' (dpAll_ints ms), PySem.W.ke_shaped_ints ns, PySem.W.ke_shaped_ints ms, by
    show Q (.bl (!(PyData.eqvAll (ns.map PyData.int) (ms.map PyData.int)))) H
    rw [eqv_ints]
    exact q⟩
theorem w_inI {a : Addr} {ns : List Int} {k : Int} (e : H a = some (.lst (ns.map V.int))) (q : Q (.bl (decide (k ∈ ns))) H) : rIn K false (.int k) (.ref a) H Q :=
  w_in e rfl (all_flat ns) (by
    show Q (.bl (inV (.int k) (ns.map V.int))) H
    rw [inV_int]
    exact q)
theorem w_niI {a : Addr} {ns : List Int} {k : Int} (e : H a = some (.lst (ns.map V.int))) (q : Q (.bl (!decide (k ∈ ns))) H) : rIn K true (.int k) (.ref a) H Q :=
  w_in e rfl (all_flat ns) (by
    show Q (.bl (!inV (.int k) (ns.map V.int))) H
    rw [inV_int]
    exact q)
/-! ### places -/
theorem at_nn {xs : List V} {j : Nat} {k : Int} {v : V} (e : k = (j : Int)) (h : xs[j]? = some v) : atI xs k = some v := by
  rw [e]
  exact atI_nat h
theorem at_m1 {xs : List V} {v : V} (h : xs[xs.length - 1]? = some v) : atI xs (-1) = some v := by
  have hp : 0 < xs.length := by
    rcases Nat.eq_zero_or_pos xs.length with z | z
    · rw [List.getElem?_eq_none (by omega)] at h
      cases h
    · exact z
  unfold atI ixN
  rw [if_neg (by omega), if_pos (by omega)]
  show xs[((-1 : Int) + (xs.length : Int)).toNat]? = some v
  rw [show ((-1 : Int) + (xs.length : Int)).toNat = xs.length - 1 by omega]
  exact h
theorem cut_mid (xs : List V) (k : Nat) (j : Int) (hj : j = (xs.length : Int) - (k : Int)) (h : 2 * k < xs.length) : cutV xs (some (k : Int)) (some j) = (xs.drop k).take (xs.length - 2 * k) := by
  unfold cutV
  rw [hj, show ((xs.length : Int) - (k : Int)) = ((xs.length - k : Nat) : Int) by omega, HT.sIx_nat, HT.sIx_nat, Nat.min_eq_left (by omega), Nat.min_eq_left (by omega)]
  rw [show xs.length - k - k = xs.length - 2 * k by omega]
/-! ### comprehensions over a list, over a range -/
def LcK (J : It) (j : Nat) (tt : TT) (te : TE) (vs : List Nat) (σ : L2.St) (Q : VK) (H1 : Hp) : Prop := ∀ D, H1 D = none → ∃ W : Nat → Nat → Hp → Prop, (∃ m, W 0 m (upd H1 D (.lst []))) ∧ ∀ i m H, W i m H →
  (J.stop i H ∧ Q (.ref D) H) ∨ (J.go i H ∧ ∃ Nx : Hp → Prop, (∀ H', Nx H' → ∃ m', m' < m ∧ W (i + 1) m' H') ∧ ∀ x H', J.yld i H x H' → (gName j) x (wipe σ vs) H' fun σ2 H2 => wipe σ2 vs = wipe σ vs ∧ tt σ2 H2 fun b H3 =>
    if b = true then te σ2 H3 fun y H4 => ∃ acc, H4 D = some (.lst acc) ∧ acc.length < sizeLine ∧ Nx (upd H4 D (.lst (acc ++ [y]))) else Nx H3)
def LcL (K : PySem.W.Frag) (j : Nat) (tt : TT) (te : TE) (vs : List Nat) (σ : L2.St) (Q : VK) : VK := fun x H1 => ∃ a, x = .ref a ∧ (∃ xs, SqL K H1 a xs) ∧ LcK (Itl K a) j tt te vs σ Q H1
def LcT (K : PySem.W.Frag) (j : Nat) (tt : TT) (te : TE) (vs : List Nat) (σ : L2.St) (Q : VK) : VK := fun x H1 => ∃ a, x = .ref a ∧ (∃ xs, SqT K H1 a xs) ∧ LcK (Itt K a) j tt te vs σ Q H1
def LcR (j : Nat) (tt : TT) (te : TE) (vs : List Nat) (σ : L2.St) (Q : VK) : List V → Hp → Prop := fun xs H1 => ∃ n : Int, xs = [.int n] ∧ -(2 ^ 62) ≤ n ∧ n < 2 ^ 62 ∧ LcK (Itr 0 n.toNat) j tt te vs σ Q H1
variable {tl te : TE} {tt : TT} {ta : TA} {j : Nat} {vs : List Nat}
theorem w_lcL (h : tl σ H (LcL K j tt te vs σ Q)) : tLc (iList K tl) (gName j) tt te vs σ H Q := h
theorem w_lcT (h : tl σ H (LcT K j tt te vs σ Q)) : tLc (iTup K tl) (gName j) tt te vs σ H Q := h
theorem w_lcR (h : ta σ H (LcR j tt te vs σ Q)) : tLc (iRng1 ta) (gName j) tt te vs σ H Q := h
/-- where the test and the element leave what is known as it is -/
def TestIs (B : Hp) (M : Addr → Prop) (W : TW) (L : KL) (tt : TT) (σ : L2.St) (b : Bool) : Prop := ∀ D acc H', Sep B M W ((D, .lst acc) :: L) H' → ∀ Q' : Bool → Hp → Prop, (∀ H'', Sep B M W ((D, .lst acc) :: L) H'' → Q' b H'') → tt σ H' Q'
def ElIs (B : Hp) (M : Addr → Prop) (W : TW) (L : KL) (te : TE) (σ : L2.St) (v : V) : Prop := ∀ D acc H', Sep B M W ((D, .lst acc) :: L) H' → ∀ Q' : VK, (∀ H'', Sep B M W ((D, .lst acc) :: L) H'' → Q' v H'') → te σ H' Q'
theorem test_yes {b : Bool} (e : b = true) : TestIs B M W L tYes σ b := fun D acc H' S Q' q => by
  subst e
  exact q _ S
theorem lc_turn {D : Addr} {acc : List V} {σ2 : L2.St} {b : Bool} {v : V} {R : Hp → Prop} (S : Sep B M W ((D, .lst acc) :: L) H) (w : Own B M D) (hl : acc.length < sizeLine) (ht : TestIs B M W L tt σ2 b) (he : b = true → ElIs B M W L te σ2 v)
    (r : ∀ H', Sep B M W ((D, .lst (if b = true then acc ++ [v] else acc)) :: L) H' → R H') :
    tt σ2 H fun b H3 => if b = true then te σ2 H3 fun y H4 => ∃ acc, H4 D = some (.lst acc) ∧ acc.length < sizeLine ∧ R (upd H4 D (.lst (acc ++ [y]))) else R H3 := by
  refine ht D acc H S _ fun H3 S3 => ?_
  cases b with
  | true =>
    refine iteT ?_
    refine he rfl D acc H3 S3 _ fun H4 S4 => ⟨acc, S4.g0, hl, r _ (S4.put0 w)⟩
  | false =>
    refine iteF ?_
    exact r _ S3
/-- over range(n) -/
theorem w_lcRk {n : Int} (f : Nat → Bool) (g : Nat → V) (S : Sep B M W L H) (h0 : 0 ≤ n) (h1 : n ≤ 1000) (hw : ∀ x, wipe ((wipe σ vs).set j (some x)) vs = wipe σ vs)
    (ht : ∀ i : Nat, (i : Int) < n → TestIs B M W L tt ((wipe σ vs).set j (some (.int (i : Int)))) (f i))
    (he : ∀ i : Nat, (i : Int) < n → f i = true → ElIs B M W L te ((wipe σ vs).set j (some (.int (i : Int)))) (g i))
    (k : ∀ D H', Sep B M W ((D, .lst (((List.range n.toNat).filter f).map g)) :: L) H' → Own B M D → Q (.ref D) H') : LcR j tt te vs σ Q [.int n] H := by
  refine ⟨n, rfl, by omega, by omega, fun D hD => ?_⟩
  have w : Own B M D := S.own hD
  refine lc_range (lo := 0) (n := n.toNat) (fun i H' => Sep B M W ((D, .lst (((List.range i).filter f).map g)) :: L) H') (S.new hD) (fun i H' hi S' => ?_) (fun H' S' => k D H' S' w)
  have hz : ((0 : Int) + (i : Nat)) = ((i : Nat) : Int) := by omega
  rw [hz]
  refine ⟨hw _, ?_⟩
  have hl : (((List.range i).filter f).map g).length ≤ i := by
    rw [List.length_map]
    exact Nat.le_trans (List.length_filter_le _ _) (by rw [List.length_range]; exact Nat.le_refl _)
  refine lc_turn S' w (small1000 (by omega)) (ht i (by omega)) (he i (by omega)) fun H4 S4 => ?_
  rw [List.range_succ, List.filter_append, List.map_append]
  cases e : f i with
  | true =>
    rw [e, if_pos rfl] at S4
    rw [show List.filter f [i] = [i] by simp [e]]
    exact S4
  | false =>
    rw [e, if_neg (by decide)] at S4
    rw [show List.filter f [i] = [] by simp [e], List.map_nil, List.append_nil]
    exact S4
/-- over a list -/
theorem w_lcLk {a : Addr} {xs : List V} (f : V → Bool) (g : V → V) (S : Sep B M W L H) (h1 : xs.length ≤ 1000) (hw : ∀ x, wipe ((wipe σ vs).set j (some x)) vs = wipe σ vs)
    (e : H a = some (.lst xs)) (ea : ∀ D acc H', Sep B M W ((D, .lst acc) :: L) H' → H' a = some (.lst xs))
    (ht : ∀ x, x ∈ xs → TestIs B M W L tt ((wipe σ vs).set j (some x)) (f x))
    (he : ∀ x, x ∈ xs → f x = true → ElIs B M W L te ((wipe σ vs).set j (some x)) (g x))
    (k : ∀ D H', Sep B M W ((D, .lst ((xs.filter f).map g)) :: L) H' → Own B M D → Q (.ref D) H') : LcL K j tt te vs σ Q (.ref a) H := by
  refine ⟨a, rfl, ⟨xs, SqL.of e⟩, fun D hD => ?_⟩
  have w : Own B M D := S.own hD
  refine lc_list (K := K) (a := a) (xs := xs) (fun i H' => Sep B M W ((D, .lst (((xs.take i).filter f).map g)) :: L) H') (S.new hD) (fun i H' _ S' => SqL.of (ea _ _ _ S')) (fun i x H' hi S' => ?_) (fun H' S' => k D H' (by rw [List.take_length] at S'; exact S') w)
  refine ⟨hw _, ?_⟩
  have hlt := (List.getElem?_eq_some_iff.mp hi).1
  have hl : (((xs.take i).filter f).map g).length ≤ i := by
    rw [List.length_map]
    exact Nat.le_trans (List.length_filter_le _ _) (by rw [List.length_take]; exact Nat.min_le_left _ _)
  have hm : x ∈ xs := List.mem_of_getElem? hi
  refine lc_turn S' w (small1000 (by omega)) (ht x hm) (he x hm) fun H4 S4 => ?_
  rw [List.take_add_one, hi, List.filter_append, List.map_append]
  cases e : f x with
  | true =>
    rw [e, if_pos rfl] at S4
    rw [show List.filter f (some x).toList = [x] by simp [e]]
    exact S4
  | false =>
    rw [e, if_neg (by decide)] at S4
    rw [show List.filter f (some x).toList = [] by simp [e], List.map_nil, List.append_nil]
    exact S4
/-- over a tuple -/
theorem w_lcTk {a : Addr} {xs : List V} (f : V → Bool) (g : V → V) (S : Sep B M W L H) (h1 : xs.length ≤ 1000) (hw : ∀ x, wipe ((wipe σ vs).set j (some x)) vs = wipe σ vs)
    (e : H a = some (.tup xs)) (ea : ∀ D acc H', Sep B M W ((D, .lst acc) :: L) H' → H' a = some (.tup xs))
    (ht : ∀ x, x ∈ xs → TestIs B M W L tt ((wipe σ vs).set j (some x)) (f x))
    (he : ∀ x, x ∈ xs → f x = true → ElIs B M W L te ((wipe σ vs).set j (some x)) (g x))
    (k : ∀ D H', Sep B M W ((D, .lst ((xs.filter f).map g)) :: L) H' → Own B M D → Q (.ref D) H') : LcT K j tt te vs σ Q (.ref a) H := by
  refine ⟨a, rfl, ⟨xs, SqT.of e⟩, fun D hD => ?_⟩
  have w : Own B M D := S.own hD
  refine lc_tup (K := K) (a := a) (xs := xs) (fun i H' => Sep B M W ((D, .lst (((xs.take i).filter f).map g)) :: L) H') (S.new hD) (fun i H' _ S' => SqT.of (ea _ _ _ S')) (fun i x H' hi S' => ?_) (fun H' S' => k D H' (by rw [List.take_length] at S'; exact S') w)
  refine ⟨hw _, ?_⟩
  have hlt := (List.getElem?_eq_some_iff.mp hi).1
  have hl : (((xs.take i).filter f).map g).length ≤ i := by
    rw [List.length_map]
    exact Nat.le_trans (List.length_filter_le _ _) (by rw [List.length_take]; exact Nat.min_le_left _ _)
  have hm : x ∈ xs := List.mem_of_getElem? hi
  refine lc_turn S' w (small1000 (by omega)) (ht x hm) (he x hm) fun H4 S4 => ?_
  rw [List.take_add_one, hi, List.filter_append, List.map_append]
  cases e : f x with
  | true =>
    rw [e, if_pos rfl] at S4
    rw [show List.filter f (some x).toList = [x] by simp [e]]
    exact S4
  | false =>
    rw [e, if_neg (by decide)] at S4
    rw [show List.filter f (some x).toList = [] by simp [e], List.map_nil, List.append_nil]
    exact S4
/-- all, any of truth values -/
theorem w_all {a : Addr} {bs : List Bool} (e : H a = some (.lst (bs.map V.bl))) (q : Q (.bl (bs.all id)) H) : rAll K [.ref a] H Q := ⟨a, bs, rfl, SqL.of e, q⟩
theorem w_any {a : Addr} {bs : List Bool} (e : H a = some (.lst (bs.map V.bl))) (q : Q (.bl (bs.any id)) H) : rAny K [.ref a] H Q := ⟨a, bs, rfl, SqL.of e, q⟩
/-! for x in xs, for x in range(n) -/
variable {tb : TS}
def ForL (K : PySem.W.Frag) (j : Nat) (tb : TS) (D : Ends) (σ : L2.St) : VK := fun x H1 => ∃ a, x = .ref a ∧ (∃ xs, SqL K H1 a xs) ∧ ∃ W : Nat → Nat → L2.St → Hp → Prop, (∃ m, W 0 m σ H1) ∧ ∀ i m σ H, W i m σ H →
  ((Itl K a).stop i H ∧ D.nx σ H) ∨ ((Itl K a).go i H ∧ ∃ N : L2.St → Hp → Prop, (∀ σ' H', N σ' H' → ∃ m', m' < m ∧ W (i + 1) m' σ' H') ∧ ∀ x H', (Itl K a).yld i H x H' → (gName j) x σ H' fun σ2 H2 => tb { D with nx := N, ct := N, bk := D.nx } σ2 H2)
theorem w_forL (h : tl σ H (ForL K j tb D σ)) : tFor (iList K tl) (gName j) tb D σ H := h
theorem w_forLk {a : Addr} {xs : List V} (Pv : Nat → L2.St → Hp → Prop) (e : H a = some (.lst xs)) (h0 : Pv 0 σ H) (ea : ∀ i σ H, i ≤ xs.length → Pv i σ H → H a = some (.lst xs))
    (hs : ∀ i x σ H, xs[i]? = some x → Pv i σ H → tb ⟨Pv (i + 1), rt, nx, Pv (i + 1)⟩ (σ.set j (some x)) H) (hd : ∀ σ H, Pv xs.length σ H → nx σ H) : ForL K j tb ⟨nx, rt, bk, ct⟩ σ (.ref a) H :=
  ⟨a, rfl, ⟨xs, SqL.of e⟩, for_list (K := K) (a := a) (xs := xs) (D := ⟨nx, rt, bk, ct⟩) Pv h0 (fun i σ H hi p => SqL.of (ea i σ H hi p)) hs hd⟩
def ForR (j : Nat) (tb : TS) (D : Ends) (σ : L2.St) : List V → Hp → Prop := fun xs H1 => ∃ n : Int, xs = [.int n] ∧ -(2 ^ 62) ≤ n ∧ n < 2 ^ 62 ∧ ∃ W : Nat → Nat → L2.St → Hp → Prop, (∃ m, W 0 m σ H1) ∧ ∀ i m σ H, W i m σ H →
  ((Itr 0 n.toNat).stop i H ∧ D.nx σ H) ∨ ((Itr 0 n.toNat).go i H ∧ ∃ N : L2.St → Hp → Prop, (∀ σ' H', N σ' H' → ∃ m', m' < m ∧ W (i + 1) m' σ' H') ∧ ∀ x H', (Itr 0 n.toNat).yld i H x H' → (gName j) x σ H' fun σ2 H2 => tb { D with nx := N, ct := N, bk := D.nx } σ2 H2)
theorem w_forR (h : ta σ H (ForR j tb D σ)) : tFor (iRng1 ta) (gName j) tb D σ H := h
theorem w_forRk {n : Int} (Pv : Nat → L2.St → Hp → Prop) (h1 : 0 ≤ n) (h2 : n ≤ 1000) (h0 : Pv 0 σ H)
    (hs : ∀ (i : Nat) σ H, (i : Int) < n → Pv i σ H → tb ⟨Pv (i + 1), rt, nx, Pv (i + 1)⟩ (σ.set j (some (.int (i : Int)))) H) (hd : ∀ σ H, Pv n.toNat σ H → nx σ H) : ForR j tb ⟨nx, rt, bk, ct⟩ σ [.int n] H :=
  ⟨n, rfl, by omega, by omega, for_range (lo := 0) (n := n.toNat) (D := ⟨nx, rt, bk, ct⟩) Pv h0 (fun i σ H hi p => by
    have hz : ((0 : Int) + (i : Nat)) = ((i : Nat) : Int) := by omega
    rw [hz]
    exact hs i σ H (by omega) p) hd⟩
/-- a new object and its dict -/
theorem Sep.made {x dx C : Addr} (S : Sep B M W L H) (hx : H x = none) (hd : H dx = none) (hn : dx ≠ x) : Sep B M W ((x, .ins C dx []) :: L) (upd (upd H dx (.own x)) x (.ins C dx [])) :=
  (S.new (o := .own x) hd).drop.new (by rw [upd_ne hn.symm]; exact hx)
/-- the first one has changed -/
theorem Sep.mut0 {a : Addr} {o o' : HO} (S : Sep B M W ((a, o) :: L) H) (w : Own B M a) (h : H' a = some o') (f : ∀ b u, H b = some u → b ≠ a → H' b = some u) : Sep B M W ((a, o') :: L) H' where
  nd := S.nd
  kn := fun q hq => by
    rcases List.mem_cons.mp hq with rfl | hq
    · exact h
    · refine f _ _ (S.kn q (List.mem_cons_of_mem _ hq)) fun e => ?_
      exact (List.nodup_cons.mp S.nd).1 (e ▸ List.mem_map_of_mem (f := (·.1)) hq)
  off := fun q hq => by
    rcases List.mem_cons.mp hq with rfl | hq
    · exact S.off (a, o) List.mem_cons_self
    · exact S.off q (List.mem_cons_of_mem _ hq)
  tw := S.tw.same fun b u e z => f _ _ e fun q => S.off (a, o) List.mem_cons_self (q ▸ z)
  fr := fun b u e m => f _ _ (S.fr b u e m) (w.keep (H := H) e m)
def MkK (C : Addr) (n m : Nat) (sp : Sp) (Q : VK) (vs : List V) : List V → Hp → Prop := fun zs H2 => vs.length = n ∧ zs.length = m ∧ ∀ x dx, H2 x = none → H2 dx = none → dx ≠ x →
  sp ((.ref x :: vs) ++ zs) (upd (upd H2 dx (.own x)) x (.ins C dx [])) (fun v H3 => v = .non ∧ Q (.ref x) H3) C8.E0
theorem w_makeK {C : Addr} {n m : Nat} {sp : Sp} {tk : TA} (h : ta σ H fun vs H1 => tk σ H1 (MkK C n m sp Q vs)) : tMakeK C n m sp (fun vs zs => vs ++ zs) C8.E0 ta tk σ H Q := h
end
end LK
set_option Elab.async false
set_option linter.all false
set_option maxRecDepth 100000
set_option maxHeartbeats 4000000
set_option autoImplicit false

/-! The clocks; the middle; looks at liars. -/
namespace LK
open PySem PySem.Spec L2
open C8 (Cal Met Mak)
section
variable {P : Program} {w : World} {K : PySem.W.Frag} {mg : Str → Option Value} {base : Heap} {Ccl Cco : Addr}
def spClockInit (C : Addr) : Sp := fun vs H Q _ => ∃ (p dx : Addr) (f r : Int), vs = [.ref p, .int f, .int r] ∧ H p = some (.ins C dx []) ∧ -1000000 ≤ f ∧ f ≤ 1000000 ∧ -100 ≤ r ∧ r ≤ 100 ∧
  ∀ H', H' p = some (.ins C dx (ckf f r 0)) → (∀ b o, H b = some o → b ≠ p → H' b = some o) → Q .non H'
theorem ok_clock_init (D : MakKB K mg "Clock" Ccl "Clock.__init__" s_Clock_init ["self", "first", "rate"] 0 ["first", "rate"]) (c_is_whole : Cal P w K mg base 1 "is_whole" spIsWhole []) (T : Txt K mg Ccl Cco) :
    MakN P w K mg base 2 "Clock" Ccl 0 ["first", "rate"] (spClockInit Ccl) := by
  refine D.mak sc_Clock_init (by rintro vs H Q E ⟨_, _, _, _, rfl, _⟩; rfl) fun f cdv A outer s H vs Q E hr h => ?_
  obtain ⟨p, dx, f, r, rfl, hp, f0, f1, r0, r1, k⟩ := h
  refine ⟨_, (pss_cons (ps_if (pt_not (pt_val (C8.pe_c c_is_whole hr (by decide) (by rfl) (pa_cons (pv 1) (pa_cons (pe_un un_neg (C8.pe_gc (by rfl) T.k_MOST)) (pa_cons (C8.pe_gc (by rfl) T.k_MOST) pa_nil))))))
        (pss_one ps_never)
        pss_nil)
      (pss_cons (ps_if (pt_not (pt_val (C8.pe_c c_is_whole hr (by decide) (by rfl) (pa_cons (pv 2) (pa_cons (pe_un un_neg (C8.pe_gc (by rfl) T.k_MOST_RATE)) (pa_cons (C8.pe_gc (by rfl) T.k_MOST_RATE) pa_nil))))))
        (pss_one ps_never)
        pss_nil)
      (pss_cons (LK.ksfld (K := K) (by rfl) (pv 0) (pv 1) rfl)
      (pss_cons (LK.ksfld (K := K) (by rfl) (pv 0) (pv 2) rfl)
      (pss_one (LK.ksfld (K := K) (by rfl) (pv 0) pe_int rfl)))))), ?_⟩
  wtm_at "wp"
  refine ⟨f, -1000000, 1000000, rfl, ?_⟩
  wtm_at "wp"
  rw [decide_eq_true f0, decide_eq_true f1]
  refine iteF ?_
  wtm_at "wp"
  refine ⟨r, -100, 100, rfl, ?_⟩
  wtm_at "wp"
  rw [decide_eq_true r0, decide_eq_true r1]
  refine iteF ?_
  wtm_at "wp"
  refine w_sfldk hp T.cC T.n_first (by show 0 < 1000; decide) ?_
  rw [ck_mk1]
  wtm_at "wp"
  refine w_sfldk upd_same T.cC T.n_rate (by show 1 < 1000; decide) ?_
  rw [ck_mk2]
  wtm_at "wp"
  refine w_sfldk upd_same T.cC T.n_set_by (by show 2 < 1000; decide) ?_
  rw [ck_mk3]
  refine k _ upd_same fun b o e hb => ?_
  rw [upd_ne hb, upd_ne hb, upd_ne hb]
  exact e
/-- a new clock -/
theorem w_clock {B : Hp} {M : Addr → Prop} {W : TW} {L : KL} {H : Hp} {Q : VK} {f r : Int} (S : Sep B M W L H) (f0 : -1000000 ≤ f) (f1 : f ≤ 1000000) (r0 : -100 ≤ r) (r1 : r ≤ 100)
    (k : ∀ p dx H', Sep B M W ((p, .ins Ccl dx (ckf f r 0)) :: L) H' → H p = none → Own B M p → Q (.ref p) H') : MkK Ccl 0 2 (spClockInit Ccl) Q [] [.int f, .int r] H := by
  refine ⟨rfl, rfl, fun x dx hx hd hn => ⟨x, dx, f, r, rfl, upd_same, f0, f1, r0, r1, fun H' h1 h2 => ⟨rfl, ?_⟩⟩⟩
  have w : Own B M x := S.own hx
  exact k x dx H' ((S.made (C := Ccl) hx hd hn).mut0 w h1 h2) hx w
def spTwin (C : Addr) : Sp := fun vs H Q _ => ∃ (a dx : Addr) (f r s : Int), vs = [.ref a] ∧ H a = some (.ins C dx (ckf f r s)) ∧ -1000000 ≤ f ∧ f ≤ 1000000 ∧ -100 ≤ r ∧ r ≤ 100 ∧
  ∀ (p dy : Addr) H', Same H H' → H p = none → H' p = some (.ins C dy (ckf f r s)) → Q (.ref p) H'
theorem ok_twin (D : MetB K Ccl "twin" "Clock.twin" s_Clock_twin ["self"]) (c_Clock : MakN P w K mg base 2 "Clock" Ccl 0 ["first", "rate"] (spClockInit Ccl)) (T : Txt K mg Ccl Cco) :
    Met P w K mg base 4 Ccl "twin" (spTwin Ccl) [] := by
  refine D.met sc_Clock_twin (by rintro vs H Q E ⟨_, _, _, _, _, rfl, _⟩; rfl) fun f cdv A outer s H vs Q E hr h => ?_
  obtain ⟨a, dx, f, r, z, rfl, ha, f0, f1, r0, r1, k⟩ := h
  refine ⟨_, (pss_cons (ps_set (i := 1) sc_Clock_twin.nd rfl (by first | exact Or.inl rfl | exact Or.inr rfl) (LK.pe_mkN0 c_Clock hr (by decide) (by rfl) (pk_cons (LK.kfld (K := K) (by rfl) (pv 0) rfl) (pk_cons (LK.kfld (K := K) (by rfl) (pv 0) rfl) pk_nil))))
      (pss_cons (LK.ksfld (K := K) (by rfl) (pv 1) (LK.kfld (K := K) (by rfl) (pv 0) rfl) rfl)
      (pss_one (ps_ret (pv 1))))), ?_⟩
  have S : Sep H (fun _ => False) none [] H := Sep.start True.intro
  wtm_at "wp"
  refine w_makeK ?_
  wtm_at "wp"
  refine w_fldk ha T.cC T.n_first ck_first ?_
  wtm_at "wp"
  refine w_fldk ha T.cC T.n_rate ck_rate ?_
  wtm_at "wp"
  refine w_clock S f0 f1 r0 r1 fun p dy H1 S1 hp w => ?_
  wtm_at "wp"
  refine w_fldk (S1.ro ha fun z => z) T.cC T.n_set_by ck_set ?_
  wtm_at "wp"
  refine w_sfldk S1.g0 T.cC T.n_set_by (by show 3 < 1000; decide) ?_
  rw [ck_put]
  wtm_at "wp"
  have S2 := S1.put0 (o' := .ins Ccl dy (ckf f r z)) w
  exact k p dy _ S2.same_of hp S2.g0
def spLeft : Sp := fun vs H Q _ => ∃ (a : Addr) (ns : List Int) (j : Nat), vs = [.ref a, .int (j : Int)] ∧ H a = some (.lst (ns.map V.int)) ∧ ns.length < 64 ∧ 2 * j < ns.length ∧
  ∀ p H', Same H H' → H p = none → H' p = some (.lst ((((srt ns).drop j).take (ns.length - 2 * j)).map V.int)) → Q (.ref p) H'
theorem ok_left_of (D : DefB K mg "left_of" s_left_of ["worths", "few"]) (T : Txt K mg Ccl Cco) : Cal P w K mg base 1 "left_of" spLeft [] := by
  refine D.cal sc_left_of (by rintro vs H Q E ⟨_, _, _, rfl, _⟩; rfl) fun f cdv A outer s H vs Q E hr h => ?_
  obtain ⟨a, ns, j, rfl, ha, h1, h2, k⟩ := h
  refine ⟨_, (pss_one (ps_ret (pe_slice (LK.kslice (K := K) (by rfl)) (pe_callB (LK.ksorted (K := K) (by rfl)) (by rfl) T.b_sorted (by decide +kernel) (pa_cons (pv 0) pa_nil)) (po_some (pv 1)) (po_some (pe_op op_sub (pe_callB (LK.klen (K := K) (by rfl)) (by rfl) T.b_len (by decide +kernel) (pa_cons (pv 0) pa_nil)) (pv 1)))))), ?_⟩
  have S : Sep H (fun _ => False) none [] H := Sep.start True.intro
  wtm_at "wp"
  refine w_sorted S ha h1 fun ns' p H1 e1 e2 S1 w1 => ?_
  rw [srt_of e1 e2] at S1
  wtm_at "wp"
  refine w_len (S1.ro ha fun z => z) ?_
  wtm_at "wp"
  rw [List.length_map]
  refine w_slL S1 S1.g0 fun q H2 S2 w2 => ?_
  refine k q H2 S2.same_of (S2.gone w2) ?_
  rw [S2.g0, cut_mid _ j _ (by rw [List.length_map, srt_len]) (by rw [List.length_map, srt_len]; exact h2), List.length_map, srt_len, List.map_take, List.map_drop]
def spMiddle : Sp := fun vs H Q _ => ∃ (a : Addr) (ns : List Int) (j : Nat), vs = [.ref a, .int (j : Int)] ∧ H a = some (.lst (ns.map V.int)) ∧ ns.length < 64 ∧ 2 * j < ns.length ∧
  ∀ H', Same H H' → Q (.int (mid ns j)) H'
theorem get_map {l : List Int} {i : Nat} (h : i < l.length) : (l.map V.int)[i]? = some (.int (l[i]?.getD 0)) := by
  rw [List.getElem?_map, List.getElem?_eq_getElem h]
  rfl
theorem ok_middle_of (D : DefB K mg "middle_of" s_middle_of ["worths", "few"]) (c_left_of : Cal P w K mg base 1 "left_of" spLeft []) (T : Txt K mg Ccl Cco) : Cal P w K mg base 2 "middle_of" spMiddle [] := by
  refine D.cal sc_middle_of (by rintro vs H Q E ⟨_, _, _, rfl, _⟩; rfl) fun f cdv A outer s H vs Q E hr h => ?_
  obtain ⟨a, ns, j, rfl, ha, h1, h2, k⟩ := h
  refine ⟨_, (pss_cons (ps_set (i := 2) sc_middle_of.nd rfl (by first | exact Or.inl rfl | exact Or.inr rfl) (C8.pe_c c_left_of hr (by decide) (by rfl) (pa_cons (pv 0) (pa_cons (pv 1) pa_nil))))
      (pss_one (ps_ret (pe_op op_fdiv (pe_op op_add (pe_ix (LK.kixl (K := K) (by rfl)) (pv 2) pe_int (fun _ _ => rfl)) (pe_ix (LK.kixl (K := K) (by rfl)) (pv 2) (pe_un un_neg pe_int) (fun _ _ => rfl))) pe_int)))), ?_⟩
  have S : Sep H (fun _ => False) none [] H := Sep.start True.intro
  wtm_at "wp"
  refine ⟨a, ns, j, rfl, ha, h1, h2, fun p H1 e1 e2 e3 => ?_⟩
  have S1 := S.res e1 e2 e3
  have hl : (((srt ns).drop j).take (ns.length - 2 * j)).length = ns.length - 2 * j := by
    rw [List.length_take, List.length_drop, srt_len]
    omega
  wtm_at "wp"
  refine w_ixL S1.g0 (at_nn (j := 0) rfl (get_map (by omega))) ?_
  wtm_at "wp"
  refine w_ixL S1.g0 (at_m1 (get_map (by rw [List.length_map]; omega))) ?_
  wtm_at "wp"
  refine w_I ⟨by decide, by decide⟩ ?_
  have e : ((((srt ns).drop j).take (ns.length - 2 * j))[0]?.getD 0 + (((srt ns).drop j).take (ns.length - 2 * j))[((((srt ns).drop j).take (ns.length - 2 * j)).map V.int).length - 1]?.getD 0) / 2 = mid ns j := by
    unfold mid
    rw [List.length_map, hl, List.getElem?_take, if_pos (by omega), List.getElem?_take, if_pos (by omega), List.getElem?_drop, List.getElem?_drop, Nat.add_zero, show j + (ns.length - 2 * j - 1) = ns.length - 1 - j by omega]
  rw [e]
  exact k H1 e1
def spLookLiars : Sp := fun vs H Q _ => ∃ (a : Addr) (ns : List Int) (n f : Int), vs = [.ref a, .int n, .int f] ∧ H a = some (.lst (ns.map V.int)) ∧ (ns.length : Int) ≤ f ∧ ns.length < 64 ∧ (∀ x ∈ ns, 0 ≤ x ∧ x < n) ∧ ns.Pairwise (· < ·) ∧
  ∀ H', Same H H' → Q .non H'
/-- two rising lists of the same members are one -/
theorem rise_eq {ns ms : List Int} (h1 : ns.Pairwise (· < ·)) (h2 : ms.Pairwise (· < ·)) (h : ∀ k, k ∈ ns ↔ k ∈ ms) : ns = ms := by
  have n1 : ns.Nodup := h1.imp fun {a b} z => Int.ne_of_lt z
  have n2 : ms.Nodup := h2.imp fun {a b} z => Int.ne_of_lt z
  exact PySem.W.ksm_same ((List.perm_ext_iff_of_nodup n1 n2).mpr h) (h1.imp fun {a b} z => Int.le_of_lt z) (h2.imp fun {a b} z => Int.le_of_lt z)
theorem rise_len {ns ms : List Int} (h1 : ns.Pairwise (· < ·)) (h2 : ms.Pairwise (· < ·)) (h : ∀ k, k ∈ ns ↔ k ∈ ms) : ns.length = ms.length := congrArg _ (rise_eq h1 h2 h)
theorem all_bl {xs : List V} {f : V → V} (h : ∀ x ∈ xs, f x = .bl true) : xs.map f = (xs.map fun _ => true).map V.bl := by
  rw [List.map_map]
  exact List.map_congr_left h
theorem ok_look_liars (D : DefB K mg "look_liars" s_look_liars ["liars", "houses", "few"]) (c_is_whole : Cal P w K mg base 1 "is_whole" spIsWhole []) (T : Txt K mg Ccl Cco) : Cal P w K mg base 2 "look_liars" spLookLiars [] := by
  refine D.cal sc_look_liars (by rintro vs H Q E ⟨_, _, _, _, rfl, _⟩; rfl) fun f cdv A outer s H vs Q E hr h => ?_
  obtain ⟨a, ns, n, fw, rfl, ha, h1, h64, h2, h3, k⟩ := h
  refine ⟨_, (pss_cons (ps_set (i := 3) sc_look_liars.nd rfl (by first | exact Or.inl rfl | exact Or.inr rfl) (pe_and (pe_callB (LK.kisiT (K := K) (by rfl)) (by rfl) T.b_isinstance (by decide +kernel) (pa_cons (pv 0) (pa_cons (pe_tup (pa_cons (pe_bltn (v := .ty "list") (by rfl) T.b_list (by decide +kernel) rfl) (pa_cons (pe_bltn (v := .ty "tuple") (by rfl) T.b_tuple (by decide +kernel) rfl) pa_nil))) pa_nil))) (pe_one (pe_cmpR op_le (pe_callB (LK.klen (K := K) (by rfl)) (by rfl) T.b_len (by decide +kernel) (pa_cons (pv 0) pa_nil)) (pv 2) (nomark _)))))
      (pss_one (ps_if (PW.pt (pw_or (pt_not (pt_val (pv 3))) (pw_or (pt_not (pt_val (pe_callB (LK.kall (K := K) (by rfl) (by rfl)) (by rfl) T.b_all (by decide +kernel) (pa_cons (pe_lc (own := [("one", 4)]) (g := gName 4) (by rfl) sc_look_liars.nd (LK.kpil (K := K) (by rfl) (pv 0)) (blkOk_by (own := [("one", 4)]) (N := ["liars", "houses", "few", "fine", "one"]) (sc := C8.fnScope s_look_liars) (by decide +kernel)) (fun _ _ _ _ _ => pg_name (i := 4) sc_look_liars.nd rfl (Or.inl rfl)) (fun _ _ _ _ _ => pts_nil) (fun _ _ _ _ _ => (C8.pe_c c_is_whole hr (by decide) (by rfl) (pa_cons (pv 4) (pa_cons pe_int (pa_cons (pe_op op_sub (pv 1) pe_int) pa_nil)))))) pa_nil)))) (pw_or1 (pt_cmpR (LK.kne (K := K) (by rfl) hr.units) (pe_callB (LK.ksrtS (w := w) (by rfl) (by rfl)) (by rfl) T.b_sorted (by decide +kernel) (pa_cons (pe_callTy (LK.ksetI (K := K) (w := w) (by rfl) (by rfl) (by rfl)) (by rfl) T.b_set (by decide +kernel) (pa_cons (pv 0) pa_nil)) pa_nil)) (pe_callTy (LK.klistOf (K := K) (by rfl)) (by rfl) T.b_list (by decide +kernel) (pa_cons (pv 0) pa_nil)) (nomark _))))))
        (pss_one ps_never)
        pss_nil))), ?_⟩
  have S : Sep H (fun _ => False) none [] H := Sep.start True.intro
  wtm_at "wp"
  refine w_tupk S (by show 2 ≤ sizeLine; decide) fun tp H1 S1 w1 => ?_
  wtm_at "wp"
  refine w_isiLT (S1.ro ha fun z => z) S1.g0 ?_
  wtm_at "wp"
  refine iteT ?_
  wtm_at "wp"
  refine w_len (S1.ro ha fun z => z) ?_
  wtm_at "wp"
  rw [List.length_map, decide_eq_true h1]
  refine iteF ?_
  wtm_at "wp"
  refine w_lcL ?_
  wtm_at "wp"
  refine w_lcLk (fun _ => true) (fun _ => .bl true) S1 (by rw [List.length_map]; omega) (fun _ => rfl) (S1.ro ha fun z => z) (fun D acc H' S' => S'.ro ha fun z => z) (fun x hx => test_yes rfl) (fun x hx _ D acc H' S' Q' q => ?_) fun D H2 S2 w2 => ?_
  · obtain ⟨z, hz, rfl⟩ := List.mem_map.mp hx
    wtm_at "wp"
    refine ⟨z, 0, n - 1, rfl, ?_⟩
    have := h2 z hz
    rw [decide_eq_true (show 0 ≤ z by omega), decide_eq_true (show z ≤ n - 1 by omega)]
    exact q _ S'
  rw [all_bl fun _ _ => rfl] at S2
  refine w_all S2.g0 ?_
  wtm_at "wp"
  rw [show (List.map (fun _ => true) (List.filter (fun _ => true) (List.map V.int ns))).all id = true by simp]
  refine iteF ?_
  wtm_at "wp"
  refine ⟨a, ns, rfl, SqL.of (S2.ro ha fun z => z), by omega, fun p c hp hc => ?_⟩
  have S3 := S2.new (o := SetO w p (fun j => decide (j ∈ ns)) c) hp
  refine ⟨p, _, c, rfl, S3.g0, by omega, fun ms q r1 r2 r3 hq => ?_⟩
  have S4 := S3.new (o := .lst (ms.map V.int)) hq
  have e : ms = ns := rise_eq r1 h3 fun z => by
    rw [r2 z]
    exact decide_eq_true_iff
  subst e
  wtm_at "wp"
  refine w_listOf S4 (S4.ro ha fun z => z) fun q2 H5 S5 w5 => ?_
  refine w_neL (SqL.of S5.g1) (SqL.of S5.g0) ?_
  wtm_at "wp"
  rw [decide_eq_true rfl]
  refine iteF ?_
  exact k _ S5.same_of
end
end LK
set_option Elab.async false
set_option linter.all false
set_option maxRecDepth 100000
set_option maxHeartbeats 4000000
set_option autoImplicit false

/-! A company: what it looks like; its looks. -/
namespace LK
open PySem PySem.Spec L2
open C8 (Cal Met Mak)

/-! ### the data -/
def cof (cl ll wl sl : Addr) (few err last : Int) : List (Str × V) := [("clocks", .ref cl), ("few", .int few), ("error", .int err), ("liars", .ref ll), ("waits", .ref wl), ("last", .int last), ("steps", .ref sl)]
section
variable {cl ll wl sl : Addr} {few err last : Int}
theorem co_clocks : (cof cl ll wl sl few err last).lookup ("clocks" : Str) = some (.ref cl) := lk_hit
theorem co_few : (cof cl ll wl sl few err last).lookup ("few" : Str) = some (.int few) := by
  unfold cof
  rw [lk_miss (by decide +kernel), lk_hit]
theorem co_error : (cof cl ll wl sl few err last).lookup ("error" : Str) = some (.int err) := by
  unfold cof
  rw [lk_miss (by decide +kernel), lk_miss (by decide +kernel), lk_hit]
theorem co_liars : (cof cl ll wl sl few err last).lookup ("liars" : Str) = some (.ref ll) := by
  unfold cof
  rw [lk_miss (by decide +kernel), lk_miss (by decide +kernel), lk_miss (by decide +kernel), lk_hit]
theorem co_waits : (cof cl ll wl sl few err last).lookup ("waits" : Str) = some (.ref wl) := by
  unfold cof
  rw [lk_miss (by decide +kernel), lk_miss (by decide +kernel), lk_miss (by decide +kernel), lk_miss (by decide +kernel), lk_hit]
theorem co_last : (cof cl ll wl sl few err last).lookup ("last" : Str) = some (.int last) := by
  unfold cof
  rw [lk_miss (by decide +kernel), lk_miss (by decide +kernel), lk_miss (by decide +kernel), lk_miss (by decide +kernel), lk_miss (by decide +kernel), lk_hit]
theorem co_steps : (cof cl ll wl sl few err last).lookup ("steps" : Str) = some (.ref sl) := by
  unfold cof
  rw [lk_miss (by decide +kernel), lk_miss (by decide +kernel), lk_miss (by decide +kernel), lk_miss (by decide +kernel), lk_miss (by decide +kernel), lk_miss (by decide +kernel), lk_hit]
theorem co_no {m : Str} (h1 : ¬ m = "clocks") (h2 : ¬ m = "few") (h3 : ¬ m = "error") (h4 : ¬ m = "liars") (h5 : ¬ m = "waits") (h6 : ¬ m = "last") (h7 : ¬ m = "steps") : (cof cl ll wl sl few err last).lookup m = none := by
  unfold cof
  rw [lk_miss h1, lk_miss h2, lk_miss h3, lk_miss h4, lk_miss h5, lk_miss h6, lk_miss h7]
  rfl
theorem co_put_waits {q : Addr} : putF "waits" (.ref q) (cof cl ll wl sl few err last) = cof cl ll q sl few err last := by
  unfold cof
  rw [putF_miss (by decide +kernel), putF_miss (by decide +kernel), putF_miss (by decide +kernel), putF_miss (by decide +kernel), putF_hit]
theorem co_put_last {b : Int} : putF "last" (.int b) (cof cl ll wl sl few err last) = cof cl ll wl sl few err b := by
  unfold cof
  rw [putF_miss (by decide +kernel), putF_miss (by decide +kernel), putF_miss (by decide +kernel), putF_miss (by decide +kernel), putF_miss (by decide +kernel), putF_hit]
theorem co_m_members : (cof cl ll wl sl few err last).lookup ("members" : Str) = none := co_no (by decide +kernel) (by decide +kernel) (by decide +kernel) (by decide +kernel) (by decide +kernel) (by decide +kernel) (by decide +kernel)
theorem co_m_honest : (cof cl ll wl sl few err last).lookup ("honest" : Str) = none := co_no (by decide +kernel) (by decide +kernel) (by decide +kernel) (by decide +kernel) (by decide +kernel) (by decide +kernel) (by decide +kernel)
theorem co_m_look_honest : (cof cl ll wl sl few err last).lookup ("look_honest" : Str) = none := co_no (by decide +kernel) (by decide +kernel) (by decide +kernel) (by decide +kernel) (by decide +kernel) (by decide +kernel) (by decide +kernel)
theorem co_m_shows : (cof cl ll wl sl few err last).lookup ("shows" : Str) = none := co_no (by decide +kernel) (by decide +kernel) (by decide +kernel) (by decide +kernel) (by decide +kernel) (by decide +kernel) (by decide +kernel)
theorem co_m_readings : (cof cl ll wl sl few err last).lookup ("readings" : Str) = none := co_no (by decide +kernel) (by decide +kernel) (by decide +kernel) (by decide +kernel) (by decide +kernel) (by decide +kernel) (by decide +kernel)
theorem co_m_look_errors : (cof cl ll wl sl few err last).lookup ("look_errors" : Str) = none := co_no (by decide +kernel) (by decide +kernel) (by decide +kernel) (by decide +kernel) (by decide +kernel) (by decide +kernel) (by decide +kernel)
theorem co_m_seen : (cof cl ll wl sl few err last).lookup ("seen" : Str) = none := co_no (by decide +kernel) (by decide +kernel) (by decide +kernel) (by decide +kernel) (by decide +kernel) (by decide +kernel) (by decide +kernel)
theorem co_m_meet : (cof cl ll wl sl few err last).lookup ("meet" : Str) = none := co_no (by decide +kernel) (by decide +kernel) (by decide +kernel) (by decide +kernel) (by decide +kernel) (by decide +kernel) (by decide +kernel)
theorem co_m_enter : (cof cl ll wl sl few err last).lookup ("enter" : Str) = none := co_no (by decide +kernel) (by decide +kernel) (by decide +kernel) (by decide +kernel) (by decide +kernel) (by decide +kernel) (by decide +kernel)
theorem co_m_leave : (cof cl ll wl sl few err last).lookup ("leave" : Str) = none := co_no (by decide +kernel) (by decide +kernel) (by decide +kernel) (by decide +kernel) (by decide +kernel) (by decide +kernel) (by decide +kernel)
end
abbrev Ck := Int × Int × Int
structure Co where
  co : Addr
  dx : Addr
  cl : Addr
  ll : Addr
  wl : Addr
  sl : Addr
  cs : List (Addr × Addr)
  ks : List Ck
  few : Nat
  err : Int
  foes : List Int
  waits : List Int
  last : Int
  steps : List V
/-- the clocks of a list -/
def ckl (C : Addr) (cs : List (Addr × Addr)) (ks : List Ck) : KL := List.zipWith (fun p k => (p.1, HO.ins C p.2 (ckf k.1 k.2.1 k.2.2))) cs ks
def Co.kl (c : Co) (CC CO : Addr) : KL := (c.co, .ins CO c.dx (cof c.cl c.ll c.wl c.sl c.few c.err c.last)) :: (c.cl, .lst (c.cs.map fun p => V.ref p.1)) :: (c.ll, .lst (c.foes.map V.int)) :: (c.wl, .lst (c.waits.map V.int)) :: (c.sl, .lst c.steps) :: ckl CC c.cs c.ks
def mem (n : Nat) (ws : List Int) : List Int := ((List.range n).filter fun (i : Nat) => !decide ((i : Int) ∈ ws)).map fun (i : Nat) => (i : Int)
def hon (n : Nat) (ws fs : List Int) : List Int := (mem n ws).filter fun k => !decide (k ∈ fs)
/-- what the clock of a house shows -/
def rd (ks : List Ck) (k b : Int) : Int := match ks[k.toNat]? with
  | some (f, r, s) => shw f r s b
  | none => 0
structure Co.Ok (c : Co) : Prop where
  len : c.cs.length = c.ks.length
  n1 : 1 ≤ c.ks.length
  n16 : c.ks.length ≤ 16
  foes0 : ∀ x ∈ c.foes, 0 ≤ x ∧ x < (c.ks.length : Int)
  foesR : c.foes.Pairwise (· < ·)
  foesN : c.foes.length ≤ c.few
  waits0 : ∀ x ∈ c.waits, 0 ≤ x ∧ x < (c.ks.length : Int)
  waitsR : c.waits.Nodup
  apart : ∀ x ∈ c.foes, x ∉ c.waits
  enough : 2 * c.few < (mem c.ks.length c.waits).length
  few5 : c.few ≤ 5
  err0 : 0 ≤ c.err ∧ c.err ≤ 100
  last0 : 0 ≤ c.last
theorem mem_iff {n : Nat} {ws : List Int} {k : Int} : k ∈ mem n ws ↔ 0 ≤ k ∧ k < (n : Int) ∧ k ∉ ws := by
  unfold mem
  simp only [List.mem_map, List.mem_filter, List.mem_range, Bool.not_eq_true', decide_eq_false_iff_not]
  constructor
  · rintro ⟨i, ⟨h1, h2⟩, rfl⟩
    exact ⟨by omega, by omega, h2⟩
  · rintro ⟨h1, h2, h3⟩
    exact ⟨k.toNat, ⟨by omega, by rw [Int.toNat_of_nonneg h1]; exact h3⟩, Int.toNat_of_nonneg h1⟩
theorem hon_iff {n : Nat} {ws fs : List Int} {k : Int} : k ∈ hon n ws fs ↔ 0 ≤ k ∧ k < (n : Int) ∧ k ∉ ws ∧ k ∉ fs := by
  unfold hon
  rw [List.mem_filter, mem_iff]
  simp only [Bool.not_eq_true', decide_eq_false_iff_not]
  constructor
  · rintro ⟨⟨h1, h2, h3⟩, h4⟩
    exact ⟨h1, h2, h3, h4⟩
  · rintro ⟨h1, h2, h3, h4⟩
    exact ⟨⟨h1, h2, h3⟩, h4⟩
theorem mem_len {n : Nat} {ws : List Int} : (mem n ws).length ≤ n := by
  unfold mem
  rw [List.length_map]
  exact Nat.le_trans (List.length_filter_le _ _) (by rw [List.length_range]; exact Nat.le_refl _)
theorem hon_len {n : Nat} {ws fs : List Int} : (hon n ws fs).length ≤ n := Nat.le_trans (List.length_filter_le _ _) mem_len
/-- all of the company stands -/
def CoAt (c : Co) (CC CO : Addr) (H : Hp) : Prop := ∀ p, p ∈ c.kl CC CO → H p.1 = some p.2
section
variable {c : Co} {CC CO : Addr} {H H' : Hp}
theorem CoAt.same (h : CoAt c CC CO H) (e : Same H H') : CoAt c CC CO H' := fun p hp => e _ _ (h p hp)
theorem CoAt.obj (h : CoAt c CC CO H) : H c.co = some (.ins CO c.dx (cof c.cl c.ll c.wl c.sl c.few c.err c.last)) := h _ List.mem_cons_self
theorem CoAt.clocks (h : CoAt c CC CO H) : H c.cl = some (.lst (c.cs.map fun p => V.ref p.1)) := h _ (List.mem_cons_of_mem _ List.mem_cons_self)
theorem CoAt.liars (h : CoAt c CC CO H) : H c.ll = some (.lst (c.foes.map V.int)) := h _ (List.mem_cons_of_mem _ (List.mem_cons_of_mem _ List.mem_cons_self))
theorem CoAt.waits (h : CoAt c CC CO H) : H c.wl = some (.lst (c.waits.map V.int)) := h _ (List.mem_cons_of_mem _ (List.mem_cons_of_mem _ (List.mem_cons_of_mem _ List.mem_cons_self)))
theorem CoAt.stps (h : CoAt c CC CO H) : H c.sl = some (.lst c.steps) := h _ (List.mem_cons_of_mem _ (List.mem_cons_of_mem _ (List.mem_cons_of_mem _ (List.mem_cons_of_mem _ List.mem_cons_self))))
theorem ckl_mem {C : Addr} : ∀ {cs : List (Addr × Addr)} {ks : List Ck} {i : Nat} {p : Addr × Addr} {k : Ck}, cs[i]? = some p → ks[i]? = some k → (p.1, HO.ins C p.2 (ckf k.1 k.2.1 k.2.2)) ∈ ckl C cs ks
  | [], _, _, _, _, h, _ => by simp at h
  | _ :: _, [], _, _, _, _, h => by simp at h
  | a :: cs, b :: ks, 0, p, k, h, h' => by
    have e : a = p := by simpa using h
    have e' : b = k := by simpa using h'
    subst e
    subst e'
    exact List.mem_cons_self
  | a :: cs, b :: ks, i + 1, p, k, h, h' => List.mem_cons_of_mem _ (ckl_mem (i := i) (by simpa using h) (by simpa using h'))
theorem CoAt.clock (h : CoAt c CC CO H) {i : Nat} {p : Addr × Addr} {k : Ck} (e : c.cs[i]? = some p) (e' : c.ks[i]? = some k) : H p.1 = some (.ins CC p.2 (ckf k.1 k.2.1 k.2.2)) :=
  h _ (List.mem_cons_of_mem _ (List.mem_cons_of_mem _ (List.mem_cons_of_mem _ (List.mem_cons_of_mem _ (List.mem_cons_of_mem _ (ckl_mem e e'))))))
/-- a house's clock -/
theorem Co.Ok.at (o : c.Ok) {k : Int} (h0 : 0 ≤ k) (h1 : k < (c.ks.length : Int)) : ∃ (p : Addr × Addr) (q : Ck), c.cs[k.toNat]? = some p ∧ c.ks[k.toNat]? = some q ∧ (c.cs.map fun p => V.ref p.1)[k.toNat]? = some (V.ref p.1) ∧ ∀ b, rd c.ks k b = shw q.1 q.2.1 q.2.2 b := by
  have l1 : k.toNat < c.ks.length := by omega
  have l2 : k.toNat < c.cs.length := by rw [o.len]; exact l1
  refine ⟨c.cs[k.toNat], c.ks[k.toNat], List.getElem?_eq_getElem l2, List.getElem?_eq_getElem l1, ?_, fun b => ?_⟩
  · rw [List.getElem?_map, List.getElem?_eq_getElem l2]
    rfl
  · unfold rd
    rw [List.getElem?_eq_getElem l1]
end
section
variable {P : Program} {w : World} {K : PySem.W.Frag} {mg : Str → Option Value} {base : Heap} {Ccl Cco : Addr}
def spMembers (CC CO : Addr) : Sp := fun vs H Q _ => ∃ (c : Co), vs = [.ref c.co] ∧ CoAt c CC CO H ∧ c.Ok ∧
  ∀ p H', Same H H' → H p = none → H' p = some (.lst ((mem c.ks.length c.waits).map V.int)) → Q (.ref p) H'
theorem ok_members (D : MetB K Cco "members" "Company.members" s_Company_members ["self"]) (T : Txt K mg Ccl Cco) : Met P w K mg base 1 Cco "members" (spMembers Ccl Cco) [] := by
  refine D.met sc_Company_members (by rintro vs H Q E ⟨_, rfl, _⟩; rfl) fun f cdv A outer s H vs Q E hr h => ?_
  obtain ⟨c, rfl, hc, o, k⟩ := h
  refine ⟨_, (pss_one (ps_ret (pe_lc (own := [("house", 1)]) (g := gName 1) (by rfl) sc_Company_members.nd (pi_range1 (by rfl) T.b_range (pa_cons (pe_callB (LK.klen (K := K) (by rfl)) (by rfl) T.b_len (by decide +kernel) (pa_cons (LK.kfld (K := K) (by rfl) (pv 0) rfl) pa_nil)) pa_nil)) (blkOk_by (own := [("house", 1)]) (N := ["self", "house"]) (sc := C8.fnScope s_Company_members) (by decide +kernel)) (fun _ _ _ _ _ => pg_name (i := 1) sc_Company_members.nd rfl (Or.inl rfl)) (fun _ _ _ _ _ => (pts_one (pt_cmpR (LK.knin (K := K) (by rfl)) (pv 1) (LK.kfld (K := K) (by rfl) (pv 0) rfl) (by rfl)))) (fun _ _ _ _ _ => (pv 1))))), ?_⟩
  have S : Sep H (fun _ => False) none [] H := Sep.start True.intro
  wtm_at "wp"
  refine w_lcR ?_
  wtm_at "wp"
  refine w_fldk hc.obj T.cO T.n_clocks co_clocks ?_
  wtm_at "wp"
  refine w_len hc.clocks ?_
  wtm_at "wp"
  rw [List.length_map, o.len]
  have o16 := o.n16
  refine w_lcRk (fun i => !decide ((i : Int) ∈ c.waits)) (fun i => .int (i : Int)) S (by omega) (by omega) (fun _ => rfl) (fun i hi D acc H' S' Q' q => ?_) (fun i hi _ D acc H' S' Q' q => ?_) fun p H1 S1 w1 => ?_
  · wtm_at "wp"
    refine w_fldk (S'.ro hc.obj fun z => z) T.cO T.n_waits co_waits ?_
    wtm_at "wp"
    refine w_niI (S'.ro hc.waits fun z => z) ?_
    wtm_at "wp"
    exact q _ S'
  · wtm_at "wp"
    exact q _ S'
  · refine k p H1 S1.same_of (S1.gone w1) ?_
    rw [S1.g0, Int.toNat_natCast]
    unfold mem
    rw [List.map_map]
    rfl
def spHonest (CC CO : Addr) : Sp := fun vs H Q _ => ∃ (c : Co), vs = [.ref c.co] ∧ CoAt c CC CO H ∧ c.Ok ∧
  ∀ p H', Same H H' → H p = none → H' p = some (.lst ((hon c.ks.length c.waits c.foes).map V.int)) → Q (.ref p) H'
theorem filter_int (ns : List Int) (f : Int → Bool) (g : V → Bool) (h : ∀ k, g (.int k) = f k) : (ns.map V.int).filter g = (ns.filter f).map V.int := by
  rw [List.filter_map]
  congr 1
  exact List.filter_congr fun x _ => h x
def viv : V → Int
  | .int k => k
  | _ => 0
theorem ok_honest (D : MetB K Cco "honest" "Company.honest" s_Company_honest ["self"]) (c_Company_members : Met P w K mg base 1 Cco "members" (spMembers Ccl Cco) []) (T : Txt K mg Ccl Cco) : Met P w K mg base 2 Cco "honest" (spHonest Ccl Cco) [] := by
  refine D.met sc_Company_honest (by rintro vs H Q E ⟨_, rfl, _⟩; rfl) fun f cdv A outer s H vs Q E hr h => ?_
  obtain ⟨c, rfl, hc, o, k⟩ := h
  refine ⟨_, (pss_one (ps_ret (pe_lc (own := [("house", 1)]) (g := gName 1) (by rfl) sc_Company_honest.nd (LK.kpil (K := K) (by rfl) (C8.pe_mt0 c_Company_members hr (by decide) (pv 0))) (blkOk_by (own := [("house", 1)]) (N := ["self", "house"]) (sc := C8.fnScope s_Company_honest) (by decide +kernel)) (fun _ _ _ _ _ => pg_name (i := 1) sc_Company_honest.nd rfl (Or.inl rfl)) (fun _ _ _ _ _ => (pts_one (pt_cmpR (LK.knin (K := K) (by rfl)) (pv 1) (LK.kfld (K := K) (by rfl) (pv 0) rfl) (by rfl)))) (fun _ _ _ _ _ => (pv 1))))), ?_⟩
  have S : Sep H (fun _ => False) none [] H := Sep.start True.intro
  wtm_at "wp"
  refine w_lcL ?_
  wtm_at "wp"
  refine w_methk hc.obj co_m_members ?_
  wtm_at "wp"
  refine ⟨c, rfl, hc, o, fun p H1 e1 e2 e3 => ?_⟩
  have S1 := S.res e1 e2 e3
  have w1 := S.own e2
  have o16 := o.n16
  have ml := mem_len (n := c.ks.length) (ws := c.waits)
  refine w_lcLk (fun x => !decide (viv x ∈ c.foes)) (fun x => x) S1 (by rw [List.length_map]; omega) (fun _ => rfl) S1.g0 (fun D acc H' S' => S'.g1) (fun x hx D acc H' S' Q' q => ?_) (fun x hx _ D acc H' S' Q' q => ?_) fun q H2 S2 w2 => ?_
  · obtain ⟨z, hz, rfl⟩ := List.mem_map.mp hx
    wtm_at "wp"
    refine w_fldk (S'.ro hc.obj fun z => z) T.cO T.n_liars co_liars ?_
    wtm_at "wp"
    refine w_niI (S'.ro hc.liars fun z => z) ?_
    wtm_at "wp"
    exact q _ S'
  · wtm_at "wp"
    exact q _ S'
  · refine k q H2 S2.same_of (S2.gone w2) ?_
    rw [S2.g0, List.map_id', filter_int _ (fun k => !decide (k ∈ c.foes)) _ fun _ => rfl]
    rfl
def spLookHonest (CC CO : Addr) : Sp := fun vs H Q _ => ∃ (c : Co) (k : Int), vs = [.ref c.co, .int k] ∧ CoAt c CC CO H ∧ c.Ok ∧ 0 ≤ k ∧ k < (c.ks.length : Int) ∧ k ∉ c.foes ∧ Q .non H
theorem ok_look_honest (D : MetB K Cco "look_honest" "Company.look_honest" s_Company_look_honest ["self", "house"]) (c_is_whole : Cal P w K mg base 1 "is_whole" spIsWhole []) (T : Txt K mg Ccl Cco) :
    Met P w K mg base 2 Cco "look_honest" (spLookHonest Ccl Cco) [] := by
  refine D.met sc_Company_look_honest (by rintro vs H Q E ⟨_, _, rfl, _⟩; rfl) fun f cdv A outer s H vs Q E hr h => ?_
  obtain ⟨c, k, rfl, hc, o, h0, h1, h2, q⟩ := h
  refine ⟨_, (pss_one (ps_if (PW.pt (pw_or (pt_not (pt_val (C8.pe_c c_is_whole hr (by decide) (by rfl) (pa_cons (pv 1) (pa_cons pe_int (pa_cons (pe_op op_sub (pe_callB (LK.klen (K := K) (by rfl)) (by rfl) T.b_len (by decide +kernel) (pa_cons (LK.kfld (K := K) (by rfl) (pv 0) rfl) pa_nil)) pe_int) pa_nil)))))) (pw_or1 (pt_cmpR (LK.kin (K := K) (by rfl)) (pv 1) (LK.kfld (K := K) (by rfl) (pv 0) rfl) (by rfl)))))
        (pss_one ps_never)
        pss_nil)), ?_⟩
  wtm_at "wp"
  refine w_fldk hc.obj T.cO T.n_clocks co_clocks ?_
  wtm_at "wp"
  refine w_len hc.clocks ?_
  wtm_at "wp"
  rw [List.length_map, o.len]
  refine ⟨k, 0, (c.ks.length : Int) - 1, rfl, ?_⟩
  wtm_at "wp"
  rw [decide_eq_true h0, decide_eq_true (show k ≤ (c.ks.length : Int) - 1 by omega)]
  refine iteF ?_
  wtm_at "wp"
  refine w_fldk hc.obj T.cO T.n_liars co_liars ?_
  wtm_at "wp"
  refine w_inI hc.liars ?_
  wtm_at "wp"
  rw [decide_eq_false h2]
  refine iteF ?_
  exact q
def spShowsC (CC CO : Addr) : Sp := fun vs H Q _ => ∃ (c : Co) (k b : Int), vs = [.ref c.co, .int k, .int b] ∧ CoAt c CC CO H ∧ c.Ok ∧ 0 ≤ k ∧ k < (c.ks.length : Int) ∧ k ∉ c.foes ∧ 0 ≤ b ∧ b ≤ 100000 ∧ Q (.int (rd c.ks k b)) H
theorem ok_showsC (D : MetB K Cco "shows" "Company.shows" s_Company_shows ["self", "house", "beat"]) (c_Company_look_honest : Met P w K mg base 2 Cco "look_honest" (spLookHonest Ccl Cco) []) (c_Clock_shows : Met P w K mg base 4 Ccl "shows" (spShows Ccl) []) (T : Txt K mg Ccl Cco) :
    Met P w K mg base 5 Cco "shows" (spShowsC Ccl Cco) [] := by
  refine D.met sc_Company_shows (by rintro vs H Q E ⟨_, _, _, rfl, _⟩; rfl) fun f cdv A outer s H vs Q E hr h => ?_
  obtain ⟨c, k, b, rfl, hc, o, h0, h1, h2, b0, b1, q⟩ := h
  obtain ⟨p, z, e1, e2, e3, e4⟩ := o.at h0 h1
  refine ⟨_, (pss_cons (ps_expr (C8.pe_mt c_Company_look_honest hr (by decide) (pv 0) (pa_cons (pv 1) pa_nil)))
      (pss_one (ps_ret (C8.pe_mt c_Clock_shows hr (by decide) (pe_ix (LK.kixl (K := K) (by rfl)) (LK.kfld (K := K) (by rfl) (pv 0) rfl) (pv 1) (fun _ _ => rfl)) (pa_cons (pv 2) pa_nil))))), ?_⟩
  wtm_at "wp"
  refine w_methk hc.obj co_m_look_honest ?_
  wtm_at "wp"
  refine ⟨c, k, rfl, hc, o, h0, h1, h2, ?_⟩
  wtm_at "wp"
  refine w_fldk hc.obj T.cO T.n_clocks co_clocks ?_
  wtm_at "wp"
  refine w_ixL hc.clocks (at_nn (j := k.toNat) (by omega) e3) ?_
  refine w_methk (hc.clock e1 e2) ck_shows ?_
  wtm_at "wp"
  refine ⟨_, _, _, _, _, b, rfl, hc.clock e1 e2, b0, b1, ?_⟩
  rw [← e4]
  exact q
def spReadings (CC CO : Addr) : Sp := fun vs H Q _ => ∃ (c : Co) (b : Int), vs = [.ref c.co, .int b] ∧ CoAt c CC CO H ∧ c.Ok ∧ 0 ≤ b ∧ b ≤ 100000 ∧
  ∀ p H', Same H H' → H p = none → H' p = some (.lst (((hon c.ks.length c.waits c.foes).map fun k => rd c.ks k b).map V.int)) → Q (.ref p) H'
theorem ok_readings (D : MetB K Cco "readings" "Company.readings" s_Company_readings ["self", "beat"]) (c_Company_honest : Met P w K mg base 2 Cco "honest" (spHonest Ccl Cco) []) (c_Clock_shows : Met P w K mg base 4 Ccl "shows" (spShows Ccl) []) (T : Txt K mg Ccl Cco) :
    Met P w K mg base 5 Cco "readings" (spReadings Ccl Cco) [] := by
  refine D.met sc_Company_readings (by rintro vs H Q E ⟨_, _, rfl, _⟩; rfl) fun f cdv A outer s H vs Q E hr h => ?_
  obtain ⟨c, b, rfl, hc, o, b0, b1, k⟩ := h
  refine ⟨_, (pss_one (ps_ret (pe_lc (own := [("house", 2)]) (g := gName 2) (by rfl) sc_Company_readings.nd (LK.kpil (K := K) (by rfl) (C8.pe_mt0 c_Company_honest hr (by decide) (pv 0))) (blkOk_by (own := [("house", 2)]) (N := ["self", "beat", "house"]) (sc := C8.fnScope s_Company_readings) (by decide +kernel)) (fun _ _ _ _ _ => pg_name (i := 2) sc_Company_readings.nd rfl (Or.inl rfl)) (fun _ _ _ _ _ => pts_nil) (fun _ _ _ _ _ => (C8.pe_mt c_Clock_shows hr (by decide) (pe_ix (LK.kixl (K := K) (by rfl)) (LK.kfld (K := K) (by rfl) (pv 0) rfl) (pv 2) (fun _ _ => rfl)) (pa_cons (pv 1) pa_nil)))))), ?_⟩
  have S : Sep H (fun _ => False) none [] H := Sep.start True.intro
  wtm_at "wp"
  refine w_lcL ?_
  wtm_at "wp"
  refine w_methk hc.obj co_m_honest ?_
  wtm_at "wp"
  refine ⟨c, rfl, hc, o, fun p H1 e1 e2 e3 => ?_⟩
  have S1 := S.res e1 e2 e3
  have o16 := o.n16
  have ml := hon_len (n := c.ks.length) (ws := c.waits) (fs := c.foes)
  refine w_lcLk (fun _ => true) (fun x => .int (rd c.ks (viv x) b)) S1 (by rw [List.length_map]; omega) (fun _ => rfl) S1.g0 (fun D acc H' S' => S'.g1) (fun x hx => test_yes rfl) (fun x hx _ D acc H' S' Q' q => ?_) fun q H2 S2 w2 => ?_
  · obtain ⟨z, hz, rfl⟩ := List.mem_map.mp hx
    obtain ⟨z0, z1, _, _⟩ := hon_iff.mp hz
    obtain ⟨p, y, y1, y2, y3, y4⟩ := o.at z0 z1
    have hc' : CoAt c Ccl Cco H' := hc.same S'.same_of
    wtm_at "wp"
    refine w_fldk hc'.obj T.cO T.n_clocks co_clocks ?_
    wtm_at "wp"
    refine w_ixL hc'.clocks (at_nn (j := z.toNat) (by omega) y3) ?_
    refine w_methk (hc'.clock y1 y2) ck_shows ?_
    wtm_at "wp"
    refine ⟨_, _, _, _, _, b, rfl, hc'.clock y1 y2, b0, b1, ?_⟩
    rw [← y4]
    exact q _ S'
  · refine k q H2 S2.same_of (S2.gone w2) ?_
    rw [S2.g0, List.filter_eq_self.mpr (fun _ _ => rfl), List.map_map, List.map_map]
    rfl
end
end LK
set_option Elab.async false
set_option linter.all false
set_option maxRecDepth 100000
set_option maxHeartbeats 4000000
set_option autoImplicit false

/-! Looks at lies and errors (a locked dict is walked); what a house reads. -/
namespace LK
open PySem PySem.Spec L2
open C8 (Cal Met Mak)
abbrev Tab := List (List Key × V)
section
variable {K : PySem.W.Frag} {nx bk ct : L2.St → Hp → Prop} {rt : VK} {σ : L2.St} {H : Hp} {Q : VK} {t tb : TS} {td : TE} {j : Nat}
theorem w_lock {d : Addr} {kvs : Tab} (e : H d = some (.dT kvs)) (h : ∀ od, t ⟨fun σ' H' => H' d = some (.frz od (.dT kvs)) ∧ nx σ' (upd H' d (.dT kvs)), fun v H' => H' d = some (.frz od (.dT kvs)) ∧ rt v (upd H' d (.dT kvs)),
    fun σ' H' => H' d = some (.frz od (.dT kvs)) ∧ bk σ' (upd H' d (.dT kvs)), fun σ' H' => H' d = some (.frz od (.dT kvs)) ∧ ct σ' (upd H' d (.dT kvs))⟩ σ (upd H d (.frz od (.dT kvs)))) : tLock t ⟨nx, rt, bk, ct⟩ σ H := ⟨d, _, e, True.intro, h⟩
/-- a walk's turns, whatever is walked -/
def FT (J : It) (j : Nat) (tb : TS) (D : Ends) (σ : L2.St) (H1 : Hp) : Prop := ∃ W : Nat → Nat → L2.St → Hp → Prop, (∃ m, W 0 m σ H1) ∧ ∀ i m σ H, W i m σ H →
  (J.stop i H ∧ D.nx σ H) ∨ (J.go i H ∧ ∃ N : L2.St → Hp → Prop, (∀ σ' H', N σ' H' → ∃ m', m' < m ∧ W (i + 1) m' σ' H') ∧ ∀ x H', J.yld i H x H' → (gName j) x σ H' fun σ2 H2 => tb { D with nx := N, ct := N, bk := D.nx } σ2 H2)
def ForK (j : Nat) (tb : TS) (D : Ends) (σ : L2.St) : VK := fun x H1 => ∃ d o, x = .ref d ∧ ((∃ kvs, H1 d = some (.frz o (.dK kvs)) ∧ FT (Itk d o kvs) j tb D σ H1) ∨ ∃ kvs, H1 d = some (.frz o (.dT kvs)) ∧ FT (Itkt d o kvs) j tb D σ H1)
theorem w_forK {D : Ends} (h : td σ H (ForK j tb D σ)) : tFor (iKeys td) (gName j) tb D σ H := h
theorem w_forKk {d : Addr} {o : Obj} {kvs : Tab} (Pv : Nat → L2.St → Hp → Prop) (h0 : Pv 0 σ H) (ea : ∀ i σ H, Pv i σ H → H d = some (.frz o (.dT kvs)))
    (hs : ∀ i k v q σ H, kvs[i]? = some (k, v) → H q = some (.tup (k.map kV)) → Pv i σ H → tb ⟨Pv (i + 1), rt, nx, Pv (i + 1)⟩ (σ.set j (some (.ref q))) H)
    (hd : ∀ σ H, Pv kvs.length σ H → nx σ H) : ForK j tb ⟨nx, rt, bk, ct⟩ σ (.ref d) H := by
  refine ⟨d, o, rfl, .inr ⟨kvs, ea 0 σ H h0, fun i m σ H => m + i = kvs.length ∧ Pv i σ H, ⟨kvs.length, rfl, h0⟩, ?_⟩⟩
  rintro i m σ H ⟨hm, p⟩
  by_cases hlt : i < kvs.length
  · refine .inr ⟨⟨ea i σ H p, hlt⟩, Pv (i + 1), fun σ' H' p' => ⟨m - 1, by omega, by omega, p'⟩, ?_⟩
    rintro x H' ⟨rfl, k, v, q, hk, rfl, hq⟩
    exact hs i k v q σ _ hk hq p
  · have hi : i = kvs.length := by omega
    subst hi
    exact .inl ⟨⟨ea _ σ H p, Nat.le_refl _⟩, hd σ H p⟩
end
/-- an entry that keeps a word -/
def TabOk (R : Int → Int → Int → Prop) (kvs : Tab) : Prop := ∀ kv ∈ kvs, ∃ i j z : Int, kv = ([.inl i, .inl j], .int z) ∧ R i j z
theorem TabOk.val {R : Int → Int → Int → Prop} {kvs : Tab} (h : TabOk R kvs) {k : List Key} {v : V} (hm : (k, v) ∈ kvs) : ∃ i j z : Int, k = [.inl i, .inl j] ∧ valV kvs k = some (.int z) ∧ R i j z := by
  unfold valV
  cases e : kvs.find? (fun kv => decide (kv.1 = k)) with
  | none =>
    have := List.find?_eq_none.mp e (k, v) hm
    simp at this
  | some kv =>
    obtain ⟨i, j, z, h1, h2⟩ := h kv (List.mem_of_find?_eq_some e)
    have h3 : kv.1 = k := of_decide_eq_true (List.find?_some (p := fun (kv : List Key × V) => decide (kv.1 = k)) e)
    rw [h1] at h3
    exact ⟨i, j, z, h3.symm, by rw [h1]; rfl, h2⟩
/-- what is told for a pair -/
def lkp (kvs : Tab) (i j d : Int) : Int := match valV kvs [.inl i, .inl j] with
  | some (.int z) => z
  | _ => d
theorem valV_mem {kvs : Tab} {k : List Key} {v : V} (h : valV kvs k = some v) : (k, v) ∈ kvs := by
  unfold valV at h
  cases e : kvs.find? (fun kv => decide (kv.1 = k)) with
  | none =>
    rw [e] at h
    cases h
  | some kv =>
    rw [e] at h
    have h3 : kv.1 = k := of_decide_eq_true (List.find?_some (p := fun (kv : List Key × V) => decide (kv.1 = k)) e)
    have h4 : kv.2 = v := Option.some.inj h
    rw [← h3, ← h4]
    exact List.mem_of_find?_eq_some e
theorem TabOk.get {R : Int → Int → Int → Prop} {kvs : Tab} (h : TabOk R kvs) (i j d : Int) : (valV kvs [.inl i, .inl j]).getD (.int d) = .int (lkp kvs i j d) := by
  unfold lkp
  cases e : valV kvs [.inl i, .inl j] with
  | none => rfl
  | some v =>
    obtain ⟨a, b, z, h1, h2, _⟩ := h.val (valV_mem e)
    rw [e] at h2
    cases h2
    rfl
theorem TabOk.has {R : Int → Int → Int → Prop} {kvs : Tab} (h : TabOk R kvs) (i j d : Int) : lkp kvs i j d = d ∨ R i j (lkp kvs i j d) := by
  unfold lkp
  cases e : valV kvs [.inl i, .inl j] with
  | none => exact .inl rfl
  | some v =>
    obtain ⟨a, b, z, h1, h2, h3⟩ := h.val (valV_mem e)
    rw [e] at h2
    cases h2
    injection h1 with h4 h5
    injection h4 with h4
    injection h5 with h5 _
    injection h5 with h5
    subst h4
    subst h5
    exact .inr h3
def LieR (foes : List Int) (n : Int) (i j z : Int) : Prop := i ∈ foes ∧ 0 ≤ j ∧ j < n ∧ -1000000 ≤ z ∧ z ≤ 1000000
def ErrR (err n : Int) (i j z : Int) : Prop := i ≠ j ∧ 0 ≤ i ∧ i < n ∧ 0 ≤ j ∧ j < n ∧ -err ≤ z ∧ z ≤ err
/-- the lock is off, all is as it was -/
theorem same_unlock {H H' : Hp} {d : Addr} {u v : HO} (e : H d = some u) (S : Sep (upd H d v) (fun _ => False) none [] H') : Same H (upd H' d u) := fun b o h => by
  by_cases hb : b = d
  · subst hb
    rw [upd_same, ← e, h]
  · rw [upd_ne hb]
    refine S.fr b o ?_ fun z => z
    rw [upd_ne hb]
    exact h
section
variable {P : Program} {w : World} {K : PySem.W.Frag} {mg : Str → Option Value} {base : Heap} {Ccl Cco : Addr}
def spLookLies : Sp := fun vs H Q _ => ∃ (d l : Addr) (kvs : Tab) (ns : List Int) (n : Int), vs = [.ref d, .ref l, .int n] ∧ H d = some (.dT kvs) ∧ H l = some (.lst (ns.map V.int)) ∧ TabOk (LieR ns n) kvs ∧ ∀ H', Same H H' → Q .non H'
theorem ok_look_lies (D : DefB K mg "look_lies" s_look_lies ["lies", "liars", "houses"]) (c_is_whole : Cal P w K mg base 1 "is_whole" spIsWhole []) (T : Txt K mg Ccl Cco) : Cal P w K mg base 2 "look_lies" spLookLies [] := by
  refine D.cal sc_look_lies (by rintro vs H Q E ⟨_, _, _, _, _, rfl, _⟩; rfl) fun f cdv A outer s H vs Q E hr h => ?_
  obtain ⟨d, l, kvs, ns, n, rfl, hd, hl, ht, k⟩ := h
  have hu := hu_of hr
  have ndl : l ≠ d := ne_of hl hd (by intro z; cases z)
  refine ⟨_, (pss_cons (ps_if (pt_not (pt_val (pe_callB (LK.kisi (K := K) (by rfl)) (by rfl) T.b_isinstance (by decide +kernel) (pa_cons (pv 0) (pa_cons (pe_bltn (v := .ty "dict") (by rfl) T.b_dict (by decide +kernel) rfl) pa_nil)))))
        (pss_one ps_never)
        pss_nil)
      (pss_one (ps_lock (ps_for PassesOwn.never rfl (pi_keys (pv 0)) (pg_name (i := 3) sc_look_lies.nd rfl (by first | exact Or.inl rfl | exact Or.inr rfl))
        (pss_cons (ps_set (i := 4) sc_look_lies.nd rfl (by first | exact Or.inl rfl | exact Or.inr rfl) (pe_and (pe_callB (LK.kisi (K := K) (by rfl)) (by rfl) T.b_isinstance (by decide +kernel) (pa_cons (pv 3) (pa_cons (pe_bltn (v := .ty "tuple") (by rfl) T.b_tuple (by decide +kernel) rfl) pa_nil))) (pe_and (pe_cmpR op_eq (pe_callB (LK.klen (K := K) (by rfl)) (by rfl) T.b_len (by decide +kernel) (pa_cons (pv 3) pa_nil)) pe_int (nomark _)) (pe_one (C8.pe_c c_is_whole hr (by decide) (by rfl) (pa_cons (pe_ix (LK.kixt (K := K) (by rfl)) (pv 3) pe_int (fun _ _ => rfl)) (pa_cons pe_int (pa_cons (pe_op op_sub (pv 2) pe_int) pa_nil))))))))
        (pss_one (ps_if (PW.pt (pw_or (pt_not (pt_val (pv 4))) (pw_or (pt_val (pe_callB (LK.kisi (K := K) (by rfl)) (by rfl) T.b_isinstance (by decide +kernel) (pa_cons (pe_ix (LK.kixt (K := K) (by rfl)) (pv 3) pe_int (fun _ _ => rfl)) (pa_cons (pe_bltn (v := .ty "bool") (by rfl) T.b_bool (by decide +kernel) rfl) pa_nil)))) (pw_or (pt_cmpR (LK.knin (K := K) (by rfl)) (pe_ix (LK.kixt (K := K) (by rfl)) (pv 3) pe_int (fun _ _ => rfl)) (pv 1) (by rfl)) (pw_or1 (pt_not (pt_val (C8.pe_c c_is_whole hr (by decide) (by rfl) (pa_cons (pe_dget hu (pv 0) (pv 3) (fun _ _ => rfl)) (pa_cons (pe_un un_neg (C8.pe_gc (by rfl) T.k_MOST)) (pa_cons (C8.pe_gc (by rfl) T.k_MOST) pa_nil)))))))))))
          (pss_one ps_never)
          pss_nil))))))), ?_⟩
  wtm_at "wp"
  refine w_isiD hd ?_
  wtm_at "wp"
  refine iteF ?_
  wtm_at "wp"
  refine w_lock hd fun od => ?_
  refine w_forK ?_
  wtm_at "wp"
  refine w_forKk (d := d) (o := od) (kvs := kvs) (fun i σ H' => Sep (upd H d (.frz od (.dT kvs))) (fun _ => False) none [] H' ∧ ∃ x y, σ = [some (.ref d), some (.ref l), some (.int n), x, y]) ⟨Sep.start True.intro, none, none, rfl⟩ (fun i σ H' p => p.1.ro upd_same fun z => z) ?_ ?_
  · rintro i key v q σ H' hi hq ⟨S, x, y, rfl⟩
    obtain ⟨a, b, z, rfl, hv, r1, r2, r3, r4, r5⟩ := ht.val (List.mem_of_getElem? hi)
    wtm_at "wp"
    refine w_isiT hq ?_
    wtm_at "wp"
    refine iteT ?_
    wtm_at "wp"
    refine w_lenT hq ?_
    wtm_at "wp"
    rw [decide_eq_true (show ((([Sum.inl a, Sum.inl b] : List Key).map kV).length : Int) = 2 from rfl)]
    refine iteT ?_
    wtm_at "wp"
    refine w_ixT hq (at_nn (j := 1) rfl (show _ = some (V.int b) from rfl)) ?_
    wtm_at "wp"
    refine ⟨b, 0, n - 1, rfl, ?_⟩
    rw [decide_eq_true r2, decide_eq_true (show b ≤ n - 1 by omega)]
    wtm_at "wp"
    refine iteF ?_
    wtm_at "wp"
    refine w_ixT hq (at_nn (j := 0) rfl (show _ = some (V.int a) from rfl)) ?_
    wtm_at "wp"
    refine w_isiIB ?_
    wtm_at "wp"
    refine iteF ?_
    wtm_at "wp"
    refine w_ixT hq (at_nn (j := 0) rfl (show _ = some (V.int a) from rfl)) ?_
    wtm_at "wp"
    refine w_niI (S.ro (by rw [upd_ne ndl]; exact hl) fun z => z) ?_
    wtm_at "wp"
    rw [decide_eq_true r1]
    refine iteF ?_
    wtm_at "wp"
    refine ⟨d, .int z, rfl, .inr ⟨kvs, _, q, .inr ⟨od, S.ro upd_same fun z => z⟩, rfl, hq, hv.symm⟩, ?_⟩
    wtm_at "wp"
    refine ⟨z, -1000000, 1000000, rfl, ?_⟩
    rw [decide_eq_true r4, decide_eq_true r5]
    wtm_at "wp"
    refine iteF ?_
    wtm_at "wp"
    exact ⟨S, _, _, rfl⟩
  · rintro σ H' ⟨S, x, y, rfl⟩
    refine ⟨S.ro upd_same fun z => z, ?_⟩
    exact k _ (same_unlock hd S)
def spLookErrors (CC CO : Addr) : Sp := fun vs H Q _ => ∃ (c : Co) (d : Addr) (kvs : Tab), vs = [.ref c.co, .ref d] ∧ CoAt c CC CO H ∧ c.Ok ∧ H d = some (.dT kvs) ∧ TabOk (ErrR c.err c.ks.length) kvs ∧ ∀ H', Same H H' → Q .non H'
theorem ok_look_errors (D : MetB K Cco "look_errors" "Company.look_errors" s_Company_look_errors ["self", "errors"]) (c_is_whole : Cal P w K mg base 1 "is_whole" spIsWhole []) (T : Txt K mg Ccl Cco) :
    Met P w K mg base 2 Cco "look_errors" (spLookErrors Ccl Cco) [] := by
  refine D.met sc_Company_look_errors (by rintro vs H Q E ⟨_, _, _, rfl, _⟩; rfl) fun f cdv A outer s H vs Q E hr h => ?_
  obtain ⟨c, d, kvs, rfl, hc, o, hd, ht, k⟩ := h
  have hu := hu_of hr
  have ndc : c.co ≠ d := ne_of hc.obj hd (by intro z; cases z)
  refine ⟨_, (pss_cons (ps_if (pt_not (pt_val (pe_callB (LK.kisi (K := K) (by rfl)) (by rfl) T.b_isinstance (by decide +kernel) (pa_cons (pv 1) (pa_cons (pe_bltn (v := .ty "dict") (by rfl) T.b_dict (by decide +kernel) rfl) pa_nil)))))
        (pss_one ps_never)
        pss_nil)
      (pss_cons (ps_set (i := 2) sc_Company_look_errors.nd rfl (by first | exact Or.inl rfl | exact Or.inr rfl) (pe_op op_sub (pe_callB (LK.klen (K := K) (by rfl)) (by rfl) T.b_len (by decide +kernel) (pa_cons (LK.kfld (K := K) (by rfl) (pv 0) rfl) pa_nil)) pe_int))
      (pss_one (ps_lock (ps_for PassesOwn.never rfl (pi_keys (pv 1)) (pg_name (i := 3) sc_Company_look_errors.nd rfl (by first | exact Or.inl rfl | exact Or.inr rfl))
        (pss_cons (ps_set (i := 4) sc_Company_look_errors.nd rfl (by first | exact Or.inl rfl | exact Or.inr rfl) (pe_and (pe_callB (LK.kisi (K := K) (by rfl)) (by rfl) T.b_isinstance (by decide +kernel) (pa_cons (pv 3) (pa_cons (pe_bltn (v := .ty "tuple") (by rfl) T.b_tuple (by decide +kernel) rfl) pa_nil))) (pe_and (pe_cmpR op_eq (pe_callB (LK.klen (K := K) (by rfl)) (by rfl) T.b_len (by decide +kernel) (pa_cons (pv 3) pa_nil)) pe_int (nomark _)) (pe_one (pe_callB (LK.kall (K := K) (by rfl) (by rfl)) (by rfl) T.b_all (by decide +kernel) (pa_cons (pe_lc (own := [("one", 5)]) (g := gName 5) (by rfl) sc_Company_look_errors.nd (LK.kpit (K := K) (by rfl) (pv 3)) (blkOk_by (own := [("one", 5)]) (N := ["self", "errors", "last", "pair", "fine", "one"]) (sc := C8.fnScope s_Company_look_errors) (by decide +kernel)) (fun _ _ _ _ _ => pg_name (i := 5) sc_Company_look_errors.nd rfl (Or.inl rfl)) (fun _ _ _ _ _ => pts_nil) (fun _ _ _ _ _ => (C8.pe_c c_is_whole hr (by decide) (by rfl) (pa_cons (pv 5) (pa_cons pe_int (pa_cons (pv 2) pa_nil)))))) pa_nil))))))
        (pss_one (ps_if (PW.pt (pw_or (pt_not (pt_val (pv 4))) (pw_or (pt_cmpR op_eq (pe_ix (LK.kixt (K := K) (by rfl)) (pv 3) pe_int (fun _ _ => rfl)) (pe_ix (LK.kixt (K := K) (by rfl)) (pv 3) pe_int (fun _ _ => rfl)) (nomark _)) (pw_or1 (pt_not (pt_val (C8.pe_c c_is_whole hr (by decide) (by rfl) (pa_cons (pe_dget hu (pv 1) (pv 3) (fun _ _ => rfl)) (pa_cons (pe_un un_neg (LK.kfld (K := K) (by rfl) (pv 0) rfl)) (pa_cons (LK.kfld (K := K) (by rfl) (pv 0) rfl) pa_nil))))))))))
          (pss_one ps_never)
          pss_nil)))))))), ?_⟩
  wtm_at "wp"
  refine w_isiD hd ?_
  wtm_at "wp"
  refine iteF ?_
  wtm_at "wp"
  refine w_fldk hc.obj T.cO T.n_clocks co_clocks ?_
  wtm_at "wp"
  refine w_len hc.clocks ?_
  wtm_at "wp"
  rw [List.length_map, o.len]
  refine w_lock hd fun od => ?_
  refine w_forK ?_
  wtm_at "wp"
  refine w_forKk (d := d) (o := od) (kvs := kvs) (fun i σ H' => Sep (upd H d (.frz od (.dT kvs))) (fun _ => False) none [] H' ∧ ∃ x y z, σ = [some (.ref c.co), some (.ref d), some (.int ((c.ks.length : Int) - 1)), x, y, z]) ⟨Sep.start True.intro, none, none, none, rfl⟩ (fun i σ H' p => p.1.ro upd_same fun z => z) ?_ ?_
  · rintro i key v q σ H' hi hq ⟨S, x, y, x', rfl⟩
    obtain ⟨a, b, z, rfl, hv, r0, r1, r2, r3, r4, r5, r6⟩ := ht.val (List.mem_of_getElem? hi)
    have hobj : H' c.co = some (.ins Cco c.dx (cof c.cl c.ll c.wl c.sl c.few c.err c.last)) := S.ro (by rw [upd_ne ndc]; exact hc.obj) fun z => z
    wtm_at "wp"
    refine w_isiT hq ?_
    wtm_at "wp"
    refine iteT ?_
    wtm_at "wp"
    refine w_lenT hq ?_
    wtm_at "wp"
    rw [decide_eq_true (show ((([Sum.inl a, Sum.inl b] : List Key).map kV).length : Int) = 2 from rfl)]
    refine iteT ?_
    wtm_at "wp"
    refine w_lcT ?_
    wtm_at "wp"
    have Sq := S.see hq fun z => z
    refine w_lcTk (fun _ => true) (fun _ => .bl true) Sq (by rw [List.length_map]; show 2 ≤ 1000; decide) (fun _ => rfl) hq (fun D acc H' S' => S'.g1) (fun x hx => test_yes rfl) (fun x hx _ D acc H2 S2 Q' q' => ?_) fun D H2 S2 w2 => ?_
    · have hx2 : ∃ m : Int, x = V.int m ∧ 0 ≤ m ∧ m < (c.ks.length : Int) := by
        rcases List.mem_cons.mp hx with rfl | hx
        · exact ⟨a, rfl, r1, r2⟩
        · rcases List.mem_cons.mp hx with rfl | hx
          · exact ⟨b, rfl, r3, r4⟩
          · cases hx
      obtain ⟨m, rfl, m0, m1⟩ := hx2
      wtm_at "wp"
      refine ⟨m, 0, (c.ks.length : Int) - 1, rfl, ?_⟩
      rw [decide_eq_true m0, decide_eq_true (show m ≤ (c.ks.length : Int) - 1 by omega)]
      exact q' _ S2
    wtm_at "wp"
    rw [all_bl fun _ _ => rfl] at S2
    refine w_all S2.g0 ?_
    wtm_at "wp"
    refine iteF ?_
    wtm_at "wp"
    refine w_ixT S2.g1 (at_nn (j := 0) rfl (show _ = some (V.int a) from rfl)) ?_
    wtm_at "wp"
    refine w_ixT S2.g1 (at_nn (j := 1) rfl (show _ = some (V.int b) from rfl)) ?_
    wtm_at "wp"
    rw [decide_eq_false r0]
    refine iteF ?_
    wtm_at "wp"
    refine ⟨d, .int z, rfl, .inr ⟨kvs, _, q, .inr ⟨od, S2.ro upd_same fun z => z⟩, rfl, S2.g1, hv.symm⟩, ?_⟩
    wtm_at "wp"
    refine w_fldk (S2.ro (by rw [upd_ne ndc]; exact hc.obj) fun z => z) T.cO T.n_error co_error ?_
    wtm_at "wp"
    refine w_fldk (S2.ro (by rw [upd_ne ndc]; exact hc.obj) fun z => z) T.cO T.n_error co_error ?_
    wtm_at "wp"
    refine ⟨z, -c.err, c.err, rfl, ?_⟩
    rw [decide_eq_true r5, decide_eq_true r6]
    wtm_at "wp"
    refine iteF ?_
    wtm_at "wp"
    exact ⟨S2.nil, _, _, _, rfl⟩
  · rintro σ H' ⟨S, x, y, z, rfl⟩
    refine ⟨S.ro upd_same fun z => z, ?_⟩
    exact k _ (same_unlock hd S)
end
end LK
set_option Elab.async false
set_option linter.all false
set_option maxRecDepth 100000
set_option maxHeartbeats 4000000
set_option autoImplicit false

/-! What a house reads; leaving. -/
namespace LK
open PySem PySem.Spec L2
open C8 (Cal Met Mak)
/-- what a house reads of one other -/
def see1 (ks : List Ck) (fs : List Int) (tl te : Tab) (h b k : Int) : Int := if k ∈ fs then lkp tl k h (rd ks k b) else rd ks k b + lkp te k h 0
def sees (c : Co) (tl te : Tab) (h b : Int) : List Int := (mem c.ks.length c.waits).map (see1 c.ks c.foes tl te h b)
theorem take_map_snoc {α : Type} {f : α → Int} {xs : List α} {i : Nat} {x : α} (h : xs[i]? = some x) : ((xs.take (i + 1)).map f).map V.int = ((xs.take i).map f).map V.int ++ [V.int (f x)] := by
  rw [List.take_add_one, h, List.map_append, List.map_append]
  rfl
section
variable {P : Program} {w : World} {K : PySem.W.Frag} {mg : Str → Option Value} {base : Heap} {Ccl Cco : Addr}
def spSeen (CC CO : Addr) : Sp := fun vs H Q _ => ∃ (c : Co) (h b : Int) (dl de : Addr) (tl te : Tab), vs = [.ref c.co, .int h, .int b, .ref dl, .ref de] ∧ CoAt c CC CO H ∧ c.Ok ∧ 0 ≤ b ∧ b ≤ 100000 ∧ H dl = some (.dT tl) ∧ H de = some (.dT te) ∧
  (∃ R, TabOk R tl) ∧ (∃ R, TabOk R te) ∧ ∀ p H', Same H H' → H p = none → H' p = some (.lst ((sees c tl te h b).map V.int)) → Q (.ref p) H'
theorem ok_seen (D : MetB K Cco "seen" "Company.seen" s_Company_seen ["self", "house", "beat", "lies", "errors"]) (c_Company_members : Met P w K mg base 1 Cco "members" (spMembers Ccl Cco) []) (c_Clock_shows : Met P w K mg base 4 Ccl "shows" (spShows Ccl) []) (T : Txt K mg Ccl Cco) :
    Met P w K mg base 5 Cco "seen" (spSeen Ccl Cco) [] := by
  refine D.met sc_Company_seen (by rintro vs H Q E ⟨_, _, _, _, _, _, _, rfl, _⟩; rfl) fun f cdv A outer s H vs Q E hr hh => ?_
  obtain ⟨c, h, b, dl, de, tl, te, rfl, hc, o, b0, b1, hdl, hde, ⟨R1, t1⟩, ⟨R2, t2⟩, k⟩ := hh
  have hu := hu_of hr
  refine ⟨_, (pss_cons (ps_set (i := 5) sc_Company_seen.nd rfl (by first | exact Or.inl rfl | exact Or.inr rfl) (pe_lst pa_nil))
      (pss_cons (ps_for PassesOwn.never rfl (LK.kpil (K := K) (by rfl) (C8.pe_mt0 c_Company_members hr (by decide) (pv 0))) (pg_name (i := 6) sc_Company_seen.nd rfl (by first | exact Or.inl rfl | exact Or.inr rfl))
        (pss_one (ps_if (pt_cmpR (LK.kin (K := K) (by rfl)) (pv 6) (LK.kfld (K := K) (by rfl) (pv 0) rfl) (by rfl))
          (pss_one (ps_expr (LK.kbm (K := K) (by rfl) PySem.F.plainAttrs_list PySem.F.slot_list_append PySem.F.type_list_append mt_append (pv 5) (pa_cons (pe_dget2 hu (pv 3) (pe_tup (pa_cons (pv 6) (pa_cons (pv 1) pa_nil))) (C8.pe_mt c_Clock_shows hr (by decide) (pe_ix (LK.kixl (K := K) (by rfl)) (LK.kfld (K := K) (by rfl) (pv 0) rfl) (pv 6) (fun _ _ => rfl)) (pa_cons (pv 2) pa_nil)) ⟨rfl, rfl, rfl, rfl⟩) pa_nil))))
          (pss_one (ps_expr (LK.kbm (K := K) (by rfl) PySem.F.plainAttrs_list PySem.F.slot_list_append PySem.F.type_list_append mt_append (pv 5) (pa_cons (pe_op op_add (C8.pe_mt c_Clock_shows hr (by decide) (pe_ix (LK.kixl (K := K) (by rfl)) (LK.kfld (K := K) (by rfl) (pv 0) rfl) (pv 6) (fun _ _ => rfl)) (pa_cons (pv 2) pa_nil)) (pe_dget2 hu (pv 4) (pe_tup (pa_cons (pv 6) (pa_cons (pv 1) pa_nil))) pe_int ⟨rfl, rfl, rfl, rfl⟩)) pa_nil)))))))
      (pss_one (ps_ret (pv 5))))), ?_⟩
  have S : Sep H (fun _ => False) none [] H := Sep.start True.intro
  wtm_at "wp"
  refine w_lstk S (by show 0 ≤ sizeLine; decide) fun fo H1 S1 w1 => ?_
  wtm_at "wp"
  refine w_forL ?_
  refine w_meth ?_
  wtm_at "wp"
  have hc1 : CoAt c Ccl Cco H1 := hc.same S1.same_of
  refine w_methk hc1.obj co_m_members ?_
  wtm_at "wp"
  refine ⟨c, rfl, hc1, o, fun m H2 e1 e2 e3 => ?_⟩
  have S2 := S1.res e1 e2 e3
  have ml := mem_len (n := c.ks.length) (ws := c.waits)
  have o16 := o.n16
  refine w_forLk (fun i σ H' => Sep H (fun _ => False) none [(m, .lst ((mem c.ks.length c.waits).map V.int)), (fo, .lst ((((mem c.ks.length c.waits).take i).map (see1 c.ks c.foes tl te h b)).map V.int))] H' ∧ ∃ x, σ = [some (.ref c.co), some (.int h), some (.int b), some (.ref dl), some (.ref de), some (.ref fo), x]) S2.g0 ⟨S2, none, rfl⟩ (fun i σ H' _ p => p.1.g0) ?_ ?_
  · rintro i x σ H' hi ⟨S', y, rfl⟩
    rw [List.getElem?_map] at hi
    obtain ⟨z, hz, rfl⟩ : ∃ z, (mem c.ks.length c.waits)[i]? = some z ∧ V.int z = x := by
      cases e : (mem c.ks.length c.waits)[i]? with
      | none =>
        rw [e] at hi
        cases hi
      | some z =>
        rw [e] at hi
        exact ⟨z, rfl, Option.some.inj hi⟩
    have hzm := List.mem_of_getElem? hz
    obtain ⟨z0, z1, _⟩ := mem_iff.mp hzm
    obtain ⟨p, q, y1, y2, y3, y4⟩ := o.at z0 z1
    have hc' : CoAt c Ccl Cco H' := hc.same S'.same_of
    have hsz : ((((mem c.ks.length c.waits).take i).map (see1 c.ks c.foes tl te h b)).map V.int).length ≤ 1000 := by
      rw [List.length_map, List.length_map, List.length_take]
      omega
    wtm_at "wp"
    refine w_fldk hc'.obj T.cO T.n_liars co_liars ?_
    wtm_at "wp"
    refine w_inI hc'.liars ?_
    wtm_at "wp"
    by_cases hf : z ∈ c.foes
    · rw [decide_eq_true hf]
      refine iteT ?_
      wtm_at "wp"
      refine w_BMl S'.g1 ?_
      wtm_at "wp"
      refine w_getk (S'.ro hdl fun z => z) ?_
      wtm_at "wp"
      refine w_tupk S' (by show 2 ≤ sizeLine; decide) fun tp H3 S3 w3 => ?_
      wtm_at "wp"
      have hc3 : CoAt c Ccl Cco H3 := hc.same S3.same_of
      refine w_fldk hc3.obj T.cO T.n_clocks co_clocks ?_
      wtm_at "wp"
      refine w_ixL hc3.clocks (at_nn (j := z.toNat) (by omega) y3) ?_
      refine w_methk (hc3.clock y1 y2) ck_shows ?_
      wtm_at "wp"
      refine ⟨_, _, _, _, _, b, rfl, hc3.clock y1 y2, b0, b1, ?_⟩
      refine ⟨_, DGet.t (k := [.inl z, .inl h]) (S3.ro hdl fun z => z) S3.g0, ?_⟩
      rw [← y4, t1.get]
      wtm_at "wp"
      refine w_append S3.g2 (small1000 hsz) ?_
      wtm_at "wp"
      have S4 := (S3.put2 (o' := .lst (((((mem c.ks.length c.waits).take i).map (see1 c.ks c.foes tl te h b)).map V.int) ++ [V.int (lkp tl z h (rd c.ks z b))])) w1).drop
      refine ⟨?_, _, rfl⟩
      rw [take_map_snoc hz, show see1 c.ks c.foes tl te h b z = lkp tl z h (rd c.ks z b) from if_pos hf]
      exact S4
    · rw [decide_eq_false hf]
      refine iteF ?_
      wtm_at "wp"
      refine w_BMl S'.g1 ?_
      wtm_at "wp"
      refine w_fldk hc'.obj T.cO T.n_clocks co_clocks ?_
      wtm_at "wp"
      refine w_ixL hc'.clocks (at_nn (j := z.toNat) (by omega) y3) ?_
      refine w_methk (hc'.clock y1 y2) ck_shows ?_
      wtm_at "wp"
      refine ⟨_, _, _, _, _, b, rfl, hc'.clock y1 y2, b0, b1, ?_⟩
      wtm_at "wp"
      refine w_getk (S'.ro hde fun z => z) ?_
      wtm_at "wp"
      refine w_tupk S' (by show 2 ≤ sizeLine; decide) fun tp H3 S3 w3 => ?_
      wtm_at "wp"
      refine ⟨_, DGet.t (k := [.inl z, .inl h]) (S3.ro hde fun z => z) S3.g0, ?_⟩
      rw [← y4, t2.get]
      wtm_at "wp"
      refine w_append S3.g2 (small1000 hsz) ?_
      wtm_at "wp"
      have S4 := (S3.put2 (o' := .lst (((((mem c.ks.length c.waits).take i).map (see1 c.ks c.foes tl te h b)).map V.int) ++ [V.int (rd c.ks z b + lkp te z h 0)])) w1).drop
      refine ⟨?_, _, rfl⟩
      rw [take_map_snoc hz, show see1 c.ks c.foes tl te h b z = rd c.ks z b + lkp te z h 0 from if_neg hf]
      exact S4
  · rintro σ H' ⟨S', y, rfl⟩
    wtm_at "wp"
    rw [List.length_map, List.take_length] at S'
    exact k fo H' S'.same_of (S'.gone w1) S'.g1
end
end LK
set_option Elab.async false
set_option linter.all false
set_option maxRecDepth 100000
set_option maxHeartbeats 4000000
set_option autoImplicit false
/-! Objects in a row that change; the members counted. -/
namespace LK
open PySem PySem.Spec L2
open C8 (Cal Met Mak)
section
variable {B : Hp} {M : Addr → Prop} {W : TW} {L L0 L1 L2 : KL} {H H' : Hp} {p a b : Addr} {o o' u : HO}
theorem Sep.perm (S : Sep B M W L H) (h : L1.Perm L) : Sep B M W L1 H :=
  ⟨(h.map (·.1)).nodup_iff.mpr S.nd, fun q hq => S.kn q (h.mem_iff.mp hq), fun q hq => S.off q (h.mem_iff.mp hq), S.tw, S.fr⟩
/-- behind a call that changes L0 and hands back L2 in its place -/
theorem Sep.call (S : Sep B M W (L0 ++ L1) H) (own : ∀ q ∈ L0, Own B M q.1) (nd : (L2.map (·.1)).Nodup) (ad : ∀ q ∈ L2, q.1 ∈ L0.map (·.1) ∨ H q.1 = none)
    (kn : ∀ q ∈ L2, H' q.1 = some q.2) (f : ∀ b o, H b = some o → b ∉ L0.map (·.1) → H' b = some o) : Sep B M W (L2 ++ L1) H' := by
  have nd0 := S.nd
  rw [List.map_append, List.nodup_append] at nd0
  obtain ⟨n1, n2, n3⟩ := nd0
  have ap : ∀ q ∈ L1, q.1 ∉ L0.map (·.1) := fun q hq m => n3 _ m _ (List.mem_map_of_mem (f := (·.1)) hq) rfl
  refine ⟨?_, fun q hq => ?_, fun q hq => ?_, ?_, fun b o e m => ?_⟩
  · rw [List.map_append, List.nodup_append]
    refine ⟨nd, n2, fun x hx y hy e => ?_⟩
    subst e
    obtain ⟨q, hq, rfl⟩ := List.mem_map.mp hx
    obtain ⟨r, hr, er⟩ := List.mem_map.mp hy
    rcases ad q hq with h | h
    · exact n3 _ h _ hy rfl
    · have h2 := S.kn r (List.mem_append_right _ hr)
      have er' : r.1 = q.1 := er
      rw [er', h] at h2
      cases h2
  · rcases List.mem_append.mp hq with h | h
    · exact kn q h
    · exact f _ _ (S.kn q (List.mem_append_right _ h)) (ap q h)
  · rcases List.mem_append.mp hq with h | h
    · rcases ad q h with h2 | h2
      · obtain ⟨r, hr, er⟩ := List.mem_map.mp h2
        have er' : r.1 = q.1 := er
        rw [← er']
        exact S.off r (List.mem_append_left _ hr)
      · exact S.tw.ne h2
    · exact S.off q (List.mem_append_right _ h)
  · refine S.tw.same fun b o e z => f _ _ e fun m => ?_
    obtain ⟨r, hr, er⟩ := List.mem_map.mp m
    have er' : r.1 = b := er
    exact S.off r (List.mem_append_left _ hr) (er' ▸ z)
  · refine f _ _ (S.fr b o e m) fun z => ?_
    obtain ⟨r, hr, er⟩ := List.mem_map.mp z
    have er' : r.1 = b := er
    exact (own r hr).keep (H := H) e m er'.symm
theorem Sep.drop1 {x y : Addr × HO} (S : Sep B M W (x :: y :: L) H) : Sep B M W (x :: L) H := Sep.drop (p := y.1) (o := y.2) (S.perm (List.Perm.swap x y L))
theorem Sep.right (S : Sep B M W (L0 ++ L1) H) : Sep B M W L1 H :=
  ⟨by
    have nd0 := S.nd
    rw [List.map_append, List.nodup_append] at nd0
    exact nd0.2.1, fun q hq => S.kn q (List.mem_append_right _ hq), fun q hq => S.off q (List.mem_append_right _ hq), S.tw, S.fr⟩
theorem Sep.left (S : Sep B M W (L0 ++ L1) H) : Sep B M W L0 H :=
  ⟨by
    have nd0 := S.nd
    rw [List.map_append, List.nodup_append] at nd0
    exact nd0.1, fun q hq => S.kn q (List.mem_append_left _ hq), fun q hq => S.off q (List.mem_append_left _ hq), S.tw, S.fr⟩
/-- objects that are known besides -/
theorem Sep.sees (S : Sep B M W [] H) (nd : (L.map (·.1)).Nodup) (h : ∀ q ∈ L, H q.1 = some q.2) (n : ∀ q ∈ L, ¬ TwIn W q.1) : Sep B M W L H := ⟨nd, h, n, S.tw, S.fr⟩
theorem ckl_split {C : Addr} : ∀ {cs : List (Addr × Addr)} {ks : List Ck} {i : Nat} {p : Addr × Addr} {k : Ck}, cs[i]? = some p → ks[i]? = some k →
    ∃ A Z : KL, ckl C cs ks = A ++ (p.1, HO.ins C p.2 (ckf k.1 k.2.1 k.2.2)) :: Z ∧ ∀ k' : Ck, ckl C cs (ks.set i k') = A ++ (p.1, HO.ins C p.2 (ckf k'.1 k'.2.1 k'.2.2)) :: Z
  | [], _, _, _, _, h, _ => by simp at h
  | _ :: _, [], _, _, _, _, h => by simp at h
  | a :: cs, b :: ks, 0, p, k, h, h' => by
    have e : a = p := by simpa using h
    have e' : b = k := by simpa using h'
    subst e
    subst e'
    exact ⟨[], ckl C cs ks, rfl, fun _ => rfl⟩
  | a :: cs, b :: ks, i + 1, p, k, h, h' => by
    obtain ⟨A, Z, h1, h2⟩ := ckl_split (C := C) (cs := cs) (ks := ks) (i := i) (p := p) (k := k) (by simpa using h) (by simpa using h')
    refine ⟨(a.1, HO.ins C a.2 (ckf b.1 b.2.1 b.2.2)) :: A, Z, ?_, fun k' => ?_⟩
    · show _ :: ckl C cs ks = _
      rw [h1]
      rfl
    · show _ :: ckl C cs (ks.set i k') = _
      rw [h2 k']
      rfl
theorem ckl_snoc {C : Addr} {cs : List (Addr × Addr)} {ks : List Ck} (h : cs.length = ks.length) (p : Addr × Addr) (k : Ck) : ckl C (cs ++ [p]) (ks ++ [k]) = ckl C cs ks ++ [(p.1, HO.ins C p.2 (ckf k.1 k.2.1 k.2.2))] := by
  unfold ckl
  rw [List.zipWith_append h]
  rfl
theorem ckl_addr {C : Addr} : ∀ {cs : List (Addr × Addr)} {ks : List Ck}, cs.length = ks.length → (ckl C cs ks).map (·.1) = cs.map (·.1)
  | [], [], _ => rfl
  | [], _ :: _, h => by simp at h
  | _ :: _, [], h => by simp at h
  | a :: cs, b :: ks, h => by
    show a.1 :: (ckl C cs ks).map (·.1) = a.1 :: cs.map (·.1)
    rw [ckl_addr (by simpa using h)]
end
/-! ### how many are in -/
theorem count_in : ∀ (n : Nat) (ws : List Int), ws.Nodup → (∀ x ∈ ws, 0 ≤ x ∧ x < (n : Int)) → (mem n ws).length + ws.length = n
  | 0, ws, _, h => by
    have e : ws = [] := by
      cases ws with
      | nil => rfl
      | cons a r =>
        have := h a List.mem_cons_self
        omega
    subst e
    rfl
  | n + 1, ws, nd, h => by
    by_cases hm : (n : Int) ∈ ws
    · have ih := count_in n (ws.erase (n : Int)) (nd.erase _) fun x hx => by
        have h1 := h x (List.mem_of_mem_erase hx)
        have h2 : x ≠ (n : Int) := fun e => by
          subst e
          exact nd.not_mem_erase hx
        omega
      have hl := List.length_erase_of_mem hm
      have hp : 0 < ws.length := List.length_pos_of_mem hm
      have e : mem (n + 1) ws = mem n (ws.erase (n : Int)) := by
        unfold mem
        rw [List.range_succ, List.filter_append, show List.filter (fun (i : Nat) => !decide ((i : Int) ∈ ws)) [n] = [] by simp [hm], List.append_nil]
        congr 1
        refine List.filter_congr fun i hi => ?_
        have hin : i < n := List.mem_range.mp hi
        have e2 : ((i : Int) ∈ ws.erase (n : Int)) ↔ (i : Int) ∈ ws := List.mem_erase_of_ne (by omega)
        simp only [e2]
      rw [e]
      omega
    · have ih := count_in n ws nd fun x hx => by
        have h1 := h x hx
        have h2 : x ≠ (n : Int) := fun e => hm (e ▸ hx)
        omega
      have e : (mem (n + 1) ws).length = (mem n ws).length + 1 := by
        unfold mem
        rw [List.range_succ, List.filter_append, show List.filter (fun (i : Nat) => !decide ((i : Int) ∈ ws)) [n] = [n] by simp [hm], List.map_append, List.length_append]
        rfl
      omega
theorem mem_rise (n : Nat) (ws : List Int) : (mem n ws).Pairwise (· < ·) := by
  unfold mem
  rw [List.pairwise_map]
  refine List.Pairwise.filter _ ?_
  exact List.pairwise_lt_range.imp fun {a b} h => by omega
theorem mem_congr {n : Nat} {ws vs : List Int} (h : ∀ k, k ∈ ws ↔ k ∈ vs) : mem n ws = mem n vs := by
  unfold mem
  congr 1
  exact List.filter_congr fun i _ => by simp [h]
end LK
set_option Elab.async false
set_option linter.all false
set_option maxRecDepth 100000
set_option maxHeartbeats 4000000
set_option autoImplicit false

/-! A company is made. -/
namespace LK
open PySem PySem.Spec L2
open C8 (Cal Met Mak)
section
variable {cl ll wl sl : Addr} {few err last : Int}
theorem co_mk1 : putF "clocks" (.ref cl) [] = [(("clocks" : Str), V.ref cl)] := rfl
theorem co_mk2 : putF "few" (.int few) [(("clocks" : Str), V.ref cl)] = [(("clocks" : Str), V.ref cl), ("few", .int few)] := by
  rw [putF_miss (by decide +kernel), putF_end]
theorem co_mk3 : putF "error" (.int err) [(("clocks" : Str), V.ref cl), ("few", .int few)] = [(("clocks" : Str), V.ref cl), ("few", .int few), ("error", .int err)] := by
  rw [putF_miss (by decide +kernel), putF_miss (by decide +kernel), putF_end]
theorem co_mk4 : putF "liars" (.ref ll) [(("clocks" : Str), V.ref cl), ("few", .int few), ("error", .int err)] = [(("clocks" : Str), V.ref cl), ("few", .int few), ("error", .int err), ("liars", .ref ll)] := by
  rw [putF_miss (by decide +kernel), putF_miss (by decide +kernel), putF_miss (by decide +kernel), putF_end]
theorem co_mk5 : putF "waits" (.ref wl) [(("clocks" : Str), V.ref cl), ("few", .int few), ("error", .int err), ("liars", .ref ll)] = [(("clocks" : Str), V.ref cl), ("few", .int few), ("error", .int err), ("liars", .ref ll), ("waits", .ref wl)] := by
  rw [putF_miss (by decide +kernel), putF_miss (by decide +kernel), putF_miss (by decide +kernel), putF_miss (by decide +kernel), putF_end]
theorem co_mk6 : putF "last" (.int last) [(("clocks" : Str), V.ref cl), ("few", .int few), ("error", .int err), ("liars", .ref ll), ("waits", .ref wl)] =
    [(("clocks" : Str), V.ref cl), ("few", .int few), ("error", .int err), ("liars", .ref ll), ("waits", .ref wl), ("last", .int last)] := by
  rw [putF_miss (by decide +kernel), putF_miss (by decide +kernel), putF_miss (by decide +kernel), putF_miss (by decide +kernel), putF_miss (by decide +kernel), putF_end]
theorem co_mk7 : putF "steps" (.ref sl) [(("clocks" : Str), V.ref cl), ("few", .int few), ("error", .int err), ("liars", .ref ll), ("waits", .ref wl), ("last", .int last)] = cof cl ll wl sl few err last := by
  rw [putF_miss (by decide +kernel), putF_miss (by decide +kernel), putF_miss (by decide +kernel), putF_miss (by decide +kernel), putF_miss (by decide +kernel), putF_miss (by decide +kernel), putF_end]
  rfl
end
/-- clocks that stand at some addresses -/
def CksAt (C : Addr) (os : List (Addr × Addr)) (ks : List Ck) (H : Hp) : Prop := os.length = ks.length ∧ ∀ (i : Nat) (p : Addr × Addr) (k : Ck), os[i]? = some p → ks[i]? = some k → H p.1 = some (.ins C p.2 (ckf k.1 k.2.1 k.2.2))
theorem CksAt.at {C : Addr} {os : List (Addr × Addr)} {ks : List Ck} {H : Hp} (h : CksAt C os ks H) {i : Nat} {x : V} (hx : (os.map fun p => V.ref p.1)[i]? = some x) : ∃ (p : Addr × Addr) (k : Ck), x = .ref p.1 ∧ os[i]? = some p ∧ ks[i]? = some k ∧ H p.1 = some (.ins C p.2 (ckf k.1 k.2.1 k.2.2)) := by
  have hl : i < (os.map fun p => V.ref p.1).length := (List.getElem?_eq_some_iff.mp hx).1
  rw [List.length_map] at hl
  have hk : i < ks.length := by rw [← h.1]; exact hl
  rw [List.getElem?_map, List.getElem?_eq_getElem hl] at hx
  refine ⟨os[i], ks[i], (Option.some.inj hx).symm, List.getElem?_eq_getElem hl, List.getElem?_eq_getElem hk, h.2 i _ _ (List.getElem?_eq_getElem hl) (List.getElem?_eq_getElem hk)⟩
def CkR (k : Ck) : Prop := -1000000 ≤ k.1 ∧ k.1 ≤ 1000000 ∧ -100 ≤ k.2.1 ∧ k.2.1 ≤ 100
section
variable {P : Program} {w : World} {K : PySem.W.Frag} {mg : Str → Option Value} {base : Heap} {Ccl Cco : Addr}
def spCompanyInit (CC CO : Addr) : Sp := fun vs H Q _ => ∃ (p dx lc lf lw : Addr) (os : List (Addr × Addr)) (ks : List Ck) (few : Nat) (err : Int) (foes waits : List Int),
  vs = [.ref p, .ref lc, .int (few : Int), .int err, .ref lf, .ref lw] ∧ H p = some (.ins CO dx []) ∧ H lc = some (.lst (os.map fun p => V.ref p.1)) ∧ CksAt CC os ks H ∧ H lf = some (.lst (foes.map V.int)) ∧ H lw = some (.lst (waits.map V.int)) ∧
  (∀ k ∈ ks, CkR k) ∧ 1 ≤ ks.length ∧ ks.length ≤ 16 ∧ few ≤ 5 ∧ 0 ≤ err ∧ err ≤ 100 ∧ (∀ x ∈ foes, 0 ≤ x ∧ x < (ks.length : Int)) ∧ foes.Pairwise (· < ·) ∧ foes.length ≤ few ∧ (∀ x ∈ waits, 0 ≤ x ∧ x < (ks.length : Int)) ∧ waits.Pairwise (· < ·) ∧
  (∀ x ∈ foes, x ∉ waits) ∧ 2 * few + waits.length < ks.length ∧
  ∀ (c : Co) H', c.co = p → CoAt c CC CO H' → ((c.kl CC CO).map (·.1)).Nodup → c.Ok → c.ks = ks → c.few = few → c.err = err → c.foes = foes → c.waits = waits → c.last = 0 → c.steps = [] → (∀ q ∈ c.kl CC CO, q.1 = p ∨ H q.1 = none) → (∀ b o, H b = some o → b ≠ p → H' b = some o) → Q .non H'
theorem ok_company_init (D : MakKB K mg "Company" Cco "Company.__init__" s_Company_init ["self", "clocks", "few", "error", "liars", "waiting"] 1 ["few", "error", "liars", "waiting"]) (c_look_number : Cal P w K mg base 2 "look_number" spLookNumber []) (c_look_liars : Cal P w K mg base 2 "look_liars" spLookLiars [])
    (c_Clock_twin : Met P w K mg base 4 Ccl "twin" (spTwin Ccl) []) (T : Txt K mg Ccl Cco) : MakN P w K mg base 5 "Company" Cco 1 ["few", "error", "liars", "waiting"] (spCompanyInit Ccl Cco) := by
  refine D.mak sc_Company_init (by rintro vs H Q E ⟨_, _, _, _, _, _, _, _, _, _, _, rfl, _⟩; rfl) fun f cdv A outer s H vs Q E hr h => ?_
  obtain ⟨p, dx, lc, lf, lw, os, ks, few, err, foes, waits, rfl, hp, hlc, hck, hlf, hlw, hR, n1, n16, few5, e0, e1, f0, fR, fN, w0, wR, fw, hen, k⟩ := h
  have npc : lc ≠ p := ne_of hlc hp (by intro z; cases z)
  have npf : lf ≠ p := ne_of hlf hp (by intro z; cases z)
  have npw : lw ≠ p := ne_of hlw hp (by intro z; cases z)
  have hos := hck.1
  refine ⟨_, (pss_cons (ps_set (i := 6) sc_Company_init.nd rfl (by first | exact Or.inl rfl | exact Or.inr rfl) (pe_and (pe_callB (LK.kisi (K := K) (by rfl)) (by rfl) T.b_isinstance (by decide +kernel) (pa_cons (pv 1) (pa_cons (pe_bltn (v := .ty "list") (by rfl) T.b_list (by decide +kernel) rfl) pa_nil))) (pe_one (pe_chain op_le op_le pe_int (pe_callB (LK.klen (K := K) (by rfl)) (by rfl) T.b_len (by decide +kernel) (pa_cons (pv 1) pa_nil)) (C8.pe_gc (by rfl) T.k_MOST_HOUSES)))))
      (pss_cons (ps_if (PW.pt (pw_or (pt_not (pt_val (pv 6))) (pw_or1 (pt_not (pt_val (pe_callB (LK.kall (K := K) (by rfl) (by rfl)) (by rfl) T.b_all (by decide +kernel) (pa_cons (pe_lc (own := [("clock", 7)]) (g := gName 7) (by rfl) sc_Company_init.nd (LK.kpil (K := K) (by rfl) (pv 1)) (blkOk_by (own := [("clock", 7)]) (N := ["self", "clocks", "few", "error", "liars", "waiting", "fine", "clock", "house"]) (sc := C8.fnScope s_Company_init) (by decide +kernel)) (fun _ _ _ _ _ => pg_name (i := 7) sc_Company_init.nd rfl (Or.inl rfl)) (fun _ _ _ _ _ => pts_nil) (fun _ _ _ _ _ => (pe_callB (LK.cr_isC T.insc) (by rfl) T.b_isinstance (by decide +kernel) (pa_cons (pv 7) (pa_cons (pe_glob (v := .ref Ccl) (by rfl) T.g_Clock rfl) pa_nil))))) pa_nil)))))))
        (pss_one ps_never)
        pss_nil)
      (pss_cons (ps_expr (C8.pe_c c_look_number hr (by decide) (by rfl) (pa_cons (pv 2) (pa_cons pe_int (pa_cons (C8.pe_gc (by rfl) T.k_MOST_FEW) pa_nil)))))
      (pss_cons (ps_expr (C8.pe_c c_look_number hr (by decide) (by rfl) (pa_cons (pv 3) (pa_cons pe_int (pa_cons (C8.pe_gc (by rfl) T.k_MOST_ERROR) pa_nil)))))
      (pss_cons (ps_expr (C8.pe_c c_look_liars hr (by decide) (by rfl) (pa_cons (pv 4) (pa_cons (pe_callB (LK.klen (K := K) (by rfl)) (by rfl) T.b_len (by decide +kernel) (pa_cons (pv 1) pa_nil)) (pa_cons (pv 2) pa_nil)))))
      (pss_cons (ps_expr (C8.pe_c c_look_liars hr (by decide) (by rfl) (pa_cons (pv 5) (pa_cons (pe_callB (LK.klen (K := K) (by rfl)) (by rfl) T.b_len (by decide +kernel) (pa_cons (pv 1) pa_nil)) (pa_cons (pe_callB (LK.klen (K := K) (by rfl)) (by rfl) T.b_len (by decide +kernel) (pa_cons (pv 1) pa_nil)) pa_nil)))))
      (pss_cons (ps_if (PW.pt (pw_or (pt_val (pe_callB (LK.kany (K := K) (by rfl) (by rfl)) (by rfl) T.b_any (by decide +kernel) (pa_cons (pe_lc (own := [("house", 8)]) (g := gName 8) (by rfl) sc_Company_init.nd (LK.kpil (K := K) (by rfl) (pv 5)) (blkOk_by (own := [("house", 8)]) (N := ["self", "clocks", "few", "error", "liars", "waiting", "fine", "clock", "house"]) (sc := C8.fnScope s_Company_init) (by decide +kernel)) (fun _ _ _ _ _ => pg_name (i := 8) sc_Company_init.nd rfl (Or.inl rfl)) (fun _ _ _ _ _ => pts_nil) (fun _ _ _ _ _ => (pe_cmpR (LK.kin (K := K) (by rfl)) (pv 8) (pv 4) (by rfl)))) pa_nil))) (pw_or1 (pt_cmpR op_le (pe_op op_sub (pe_callB (LK.klen (K := K) (by rfl)) (by rfl) T.b_len (by decide +kernel) (pa_cons (pv 1) pa_nil)) (pe_callB (LK.klen (K := K) (by rfl)) (by rfl) T.b_len (by decide +kernel) (pa_cons (pv 5) pa_nil))) (pe_op op_mul pe_int (pv 2)) (nomark _)))))
        (pss_one ps_never)
        pss_nil)
      (pss_cons (LK.ksfld (K := K) (by rfl) (pv 0) (pe_lc (own := [("clock", 7)]) (g := gName 7) (by rfl) sc_Company_init.nd (LK.kpil (K := K) (by rfl) (pv 1)) (blkOk_by (own := [("clock", 7)]) (N := ["self", "clocks", "few", "error", "liars", "waiting", "fine", "clock", "house"]) (sc := C8.fnScope s_Company_init) (by decide +kernel)) (fun _ _ _ _ _ => pg_name (i := 7) sc_Company_init.nd rfl (Or.inl rfl)) (fun _ _ _ _ _ => pts_nil) (fun _ _ _ _ _ => (C8.pe_mt0 c_Clock_twin hr (by decide) (pv 7)))) rfl)
      (pss_cons (LK.ksfld (K := K) (by rfl) (pv 0) (pv 2) rfl)
      (pss_cons (LK.ksfld (K := K) (by rfl) (pv 0) (pv 3) rfl)
      (pss_cons (LK.ksfld (K := K) (by rfl) (pv 0) (pe_callTy (LK.klistOf (K := K) (by rfl)) (by rfl) T.b_list (by decide +kernel) (pa_cons (pv 4) pa_nil)) rfl)
      (pss_cons (LK.ksfld (K := K) (by rfl) (pv 0) (pe_callTy (LK.klistOf (K := K) (by rfl)) (by rfl) T.b_list (by decide +kernel) (pa_cons (pv 5) pa_nil)) rfl)
      (pss_cons (LK.ksfld (K := K) (by rfl) (pv 0) pe_int rfl)
      (pss_one (LK.ksfld (K := K) (by rfl) (pv 0) (pe_lst pa_nil) rfl))))))))))))))), ?_⟩
  have S0 : Sep H (fun b => b = p) none [] H := Sep.start True.intro
  have S : Sep H (fun b => b = p) none [(p, .ins Cco dx [])] H := S0.see hp fun z => z
  have wp : Own H (fun b => b = p) p := .inr rfl
  wtm_at "wp"
  refine w_isiL hlc ?_
  wtm_at "wp"
  refine iteT ?_
  wtm_at "wp"
  refine w_len hlc ?_
  wtm_at "wp"
  rw [List.length_map, hos, decide_eq_true (show (1 : Int) ≤ (ks.length : Int) by omega)]
  refine iteT ?_
  wtm_at "wp"
  rw [decide_eq_true (show (ks.length : Int) ≤ 16 by omega)]
  wtm_at "wp"
  refine iteF ?_
  wtm_at "wp"
  refine w_lcL ?_
  wtm_at "wp"
  have hil : ∀ {i : Nat} {x : V}, x ∈ (os.map fun p => V.ref p.1) → ∃ (q : Addr × Addr) (z : Ck), x = .ref q.1 ∧ H q.1 = some (.ins Ccl q.2 (ckf z.1 z.2.1 z.2.2)) := fun {i x} hx => by
    obtain ⟨i, hi⟩ := List.mem_iff_getElem?.mp hx
    obtain ⟨q, z, h1, _, _, h2⟩ := hck.at hi
    exact ⟨q, z, h1, h2⟩
  refine w_lcLk (fun _ => true) (fun _ => .bl true) S (by rw [List.length_map]; omega) (fun _ => rfl) hlc (fun D acc H' S' => S'.ro hlc npc) (fun x hx => test_yes rfl) (fun x hx _ D acc H' S' Q' q => ?_) fun D H1 S1 w1 => ?_
  · obtain ⟨q0, z, rfl, hq⟩ := hil (i := 0) hx
    have nq : q0.1 ≠ p := ne_of hq hp (by
      intro z
      injection z with _ _ z
      cases z)
    wtm_at "wp"
    refine w_isC (S'.ro hq nq) ?_
    exact q _ S'
  wtm_at "wp"
  rw [all_bl fun _ _ => rfl] at S1
  refine w_all S1.g0 ?_
  wtm_at "wp"
  rw [show (List.map (fun _ => true) (List.filter (fun _ => true) (os.map fun p => V.ref p.1))).all id = true by simp]
  refine iteF ?_
  wtm_at "wp"
  refine ⟨few, 0, 5, rfl, by omega, by omega, ?_⟩
  wtm_at "wp"
  refine ⟨err, 0, 100, rfl, e0, e1, ?_⟩
  wtm_at "wp"
  refine w_len (S1.ro hlc npc) ?_
  wtm_at "wp"
  rw [List.length_map, hos]
  refine ⟨lf, foes, (ks.length : Int), (few : Int), rfl, S1.ro hlf npf, by omega, by omega, f0, fR, fun H2 a2 => ?_⟩
  have S2 := S1.same a2
  wtm_at "wp"
  refine w_len (S2.ro hlc npc) ?_
  wtm_at "wp"
  refine w_len (S2.ro hlc npc) ?_
  wtm_at "wp"
  rw [List.length_map, hos]
  refine ⟨lw, waits, (ks.length : Int), (ks.length : Int), rfl, S2.ro hlw npw, by omega, by omega, w0, wR, fun H3 a3 => ?_⟩
  have S3 := S2.same a3
  wtm_at "wp"
  refine w_lcL ?_
  wtm_at "wp"
  refine w_lcLk (fun _ => true) (fun _ => .bl false) S3 (by rw [List.length_map]; omega) (fun _ => rfl) (S3.ro hlw npw) (fun D acc H' S' => S'.ro hlw npw) (fun x hx => test_yes rfl) (fun x hx _ D acc H' S' Q' q => ?_) fun D H4 S4 w4 => ?_
  · obtain ⟨z, hz, rfl⟩ := List.mem_map.mp hx
    wtm_at "wp"
    refine w_inI (S'.ro hlf npf) ?_
    rw [decide_eq_false fun z1 => fw z z1 hz]
    exact q _ S'
  wtm_at "wp"
  rw [show ((List.map V.int waits).filter fun _ => true).map (fun _ => V.bl false) = (((List.map V.int waits).filter fun _ => true).map fun _ => false).map V.bl by rw [List.map_map]; rfl] at S4
  refine w_any S4.g0 ?_
  wtm_at "wp"
  rw [show (List.map (fun _ => false) (List.filter (fun _ => true) (List.map V.int waits))).any id = false by simp]
  refine iteF ?_
  wtm_at "wp"
  refine w_len (S4.ro hlc npc) ?_
  wtm_at "wp"
  refine w_len (S4.ro hlw npw) ?_
  wtm_at "wp"
  refine w_I (.inl ⟨by decide, by decide⟩) ?_
  wtm_at "wp"
  rw [List.length_map, List.length_map, hos, decide_eq_false (by omega)]
  refine iteF ?_
  wtm_at "wp"
  refine w_lcL ?_
  wtm_at "wp"
  refine ⟨lc, rfl, ⟨_, SqL.of (S4.ro hlc npc)⟩, fun D hD => ?_⟩
  have S5 := S4.drop.drop
  have wD : Own H (fun b => b = p) D := S4.own hD
  refine lc_list (K := K) (a := lc) (xs := os.map fun p => V.ref p.1) (fun i H' => ∃ cs : List (Addr × Addr), cs.length = i ∧ (∀ q ∈ cs, Own H (fun b => b = p) q.1) ∧ Sep H (fun b => b = p) none ((D, .lst (cs.map fun p => V.ref p.1)) :: (p, .ins Cco dx []) :: ckl Ccl cs (ks.take i)) H')
    ⟨[], rfl, (fun _ z => by cases z), S5.new hD⟩ (fun i H' _ S' => by obtain ⟨_, _, _, S'⟩ := S'; exact SqL.of (S'.ro hlc npc)) ?_ ?_
  · rintro i x H' hi ⟨cs, hcs, hcw, S'⟩
    obtain ⟨q0, z, rfl, o1, o2, hq⟩ := hck.at hi
    have nq : q0.1 ≠ p := ne_of hq hp (by
      intro z
      injection z with _ _ z
      cases z)
    obtain ⟨r1, r2, r3, r4⟩ := hR z (List.mem_of_getElem? o2)
    have hik : i < ks.length := (List.getElem?_eq_some_iff.mp o2).1
    refine ⟨rfl, ?_⟩
    wtm_at "wp"
    refine iteT ?_
    wtm_at "wp"
    refine w_methk (S'.ro hq nq) ck_twin ?_
    wtm_at "wp"
    refine ⟨q0.1, q0.2, _, _, _, rfl, S'.ro hq nq, r1, r2, r3, r4, fun y dy H5 s5 n5 h5 => ?_⟩
    have S6 := S'.res s5 n5 h5
    refine ⟨_, S6.g1, small1000 (by rw [List.length_map]; omega), cs ++ [(y, dy)], by rw [List.length_append, hcs]; rfl, fun q hq => ?_, ?_⟩
    · rcases List.mem_append.mp hq with h | h
      · exact hcw q h
      · cases List.mem_singleton.mp h
        exact S'.own n5
    · have S7 := S6.put1 (o' := .lst ((cs.map fun p => V.ref p.1) ++ [V.ref y])) wD
      rw [List.take_add_one, o2, show (some z).toList = [z] from rfl, ckl_snoc (by rw [List.length_take]; omega), List.map_append]
      exact S7.perm (List.perm_append_singleton (y, _) (_ :: _ :: ckl Ccl cs (ks.take i)))
  rintro H6 ⟨cs, hcs, hcw, S6⟩
  rw [List.length_map] at hcs S6
  rw [List.take_of_length_le (by omega)] at S6
  wtm_at "wp"
  refine w_sfldk S6.g1 T.cO T.n_clocks (by show 0 < 1000; decide) ?_
  rw [co_mk1]
  have S7 := S6.put1 (o' := .ins Cco dx [("clocks", .ref D)]) wp
  wtm_at "wp"
  refine w_sfldk S7.g1 T.cO T.n_few (by show 1 < 1000; decide) ?_
  rw [co_mk2]
  have S8 := S7.put1 (o' := .ins Cco dx [("clocks", .ref D), ("few", .int few)]) wp
  wtm_at "wp"
  refine w_sfldk S8.g1 T.cO T.n_error (by show 2 < 1000; decide) ?_
  rw [co_mk3]
  have S9 := S8.put1 (o' := .ins Cco dx [("clocks", .ref D), ("few", .int few), ("error", .int err)]) wp
  wtm_at "wp"
  refine w_listOf S9 (S9.ro hlf npf) fun fl H10 S10 wfl => ?_
  wtm_at "wp"
  refine w_sfldk S10.g2 T.cO T.n_liars (by show 3 < 1000; decide) ?_
  rw [co_mk4]
  have S11 := S10.put2 (o' := .ins Cco dx [("clocks", .ref D), ("few", .int few), ("error", .int err), ("liars", .ref fl)]) wp
  wtm_at "wp"
  refine w_listOf S11 (S11.ro hlw npw) fun wl H12 S12 wwl => ?_
  wtm_at "wp"
  refine w_sfldk S12.g3 T.cO T.n_waits (by show 4 < 1000; decide) ?_
  rw [co_mk5]
  have S13 := S12.put3 (o' := .ins Cco dx [("clocks", .ref D), ("few", .int few), ("error", .int err), ("liars", .ref fl), ("waits", .ref wl)]) wp
  wtm_at "wp"
  refine w_sfldk S13.g3 T.cO T.n_last (by show 5 < 1000; decide) ?_
  rw [co_mk6]
  have S14 := S13.put3 (o' := .ins Cco dx [("clocks", .ref D), ("few", .int few), ("error", .int err), ("liars", .ref fl), ("waits", .ref wl), ("last", .int 0)]) wp
  wtm_at "wp"
  refine w_lstk S14 (by show 0 ≤ sizeLine; decide) fun sl H15 S15 wsl => ?_
  wtm_at "wp"
  refine w_sfldk S15.g4 T.cO T.n_steps (by show 6 < 1000; decide) ?_
  rw [co_mk7]
  have S16 := Sep.put (L1 := [(sl, _), (wl, _), (fl, _), (D, _)]) (o' := .ins Cco dx (cof D fl wl sl few err 0)) S15 wp
  have S17 : Sep H (fun b => b = p) none (Co.kl ⟨p, dx, D, fl, wl, sl, cs, ks, few, err, foes, waits, 0, []⟩ Ccl Cco) _ := S16.perm (by
    show ([(p, _), (D, _), (fl, _), (wl, _), (sl, _)] ++ ckl Ccl cs ks).Perm ([(sl, _), (wl, _), (fl, _), (D, _), (p, _)] ++ ckl Ccl cs ks)
    exact List.Perm.append_right _ (List.reverse_perm [(sl, _), (wl, _), (fl, _), (D, _), (p, _)]))
  have wN : waits.Nodup := wR.imp fun {a b} z => Int.ne_of_lt z
  have hcnt := count_in ks.length waits wN w0
  refine k ⟨p, dx, D, fl, wl, sl, cs, ks, few, err, foes, waits, 0, []⟩ _ rfl (fun q hq => S17.kn q hq) S17.nd ⟨by show cs.length = ks.length; omega, n1, n16, f0, fR, fN, w0, wN, fw, by show 2 * few < (mem ks.length waits).length; omega, few5, ⟨e0, e1⟩, Int.le_refl _⟩ rfl rfl rfl rfl rfl rfl rfl (fun q hq => ?_) (fun b o e nb => S17.fr b o e nb)
  have hw : Own H (fun b => b = p) q.1 := by
    rcases List.mem_cons.mp hq with rfl | hq
    · exact wp
    rcases List.mem_cons.mp hq with rfl | hq
    · exact wD
    rcases List.mem_cons.mp hq with rfl | hq
    · exact wfl
    rcases List.mem_cons.mp hq with rfl | hq
    · exact wwl
    rcases List.mem_cons.mp hq with rfl | hq
    · exact wsl
    have hm := List.mem_map_of_mem (f := (·.1)) hq
    rw [ckl_addr (show cs.length = ks.length by omega)] at hm
    obtain ⟨r, hr, er⟩ := List.mem_map.mp hm
    have er' : r.1 = q.1 := er
    rw [← er']
    exact hcw r hr
  exact hw.symm
end
end LK
set_option Elab.async false
set_option linter.all false
set_option maxRecDepth 100000
set_option maxHeartbeats 4000000
set_option autoImplicit false

/-! A house leaves, a house comes in. -/
namespace LK
open PySem PySem.Spec L2
open C8 (Cal Met Mak)
section
variable {CC CO : Addr} {c : Co} {H H' : Hp}
theorem ckl_kind {C : Addr} : ∀ {cs : List (Addr × Addr)} {ks : List Ck} {q : Addr × HO}, q ∈ ckl C cs ks → ∃ (d : Addr) (k : Ck), q.2 = .ins C d (ckf k.1 k.2.1 k.2.2)
  | [], _, _, h => by simp [ckl] at h
  | _ :: _, [], _, h => by simp [ckl] at h
  | a :: cs, b :: ks, q, h => by
    rcases List.mem_cons.mp (show q ∈ (a.1, HO.ins C a.2 (ckf b.1 b.2.1 b.2.2)) :: ckl C cs ks from h) with rfl | h
    · exact ⟨_, _, rfl⟩
    · exact ckl_kind h
theorem Co.nodt {q : Addr × HO} (h : q ∈ c.kl CC CO) (t : Tab) : q.2 ≠ .dT t := by
  intro e
  rcases List.mem_cons.mp h with rfl | h
  · cases e
  rcases List.mem_cons.mp h with rfl | h
  · cases e
  rcases List.mem_cons.mp h with rfl | h
  · cases e
  rcases List.mem_cons.mp h with rfl | h
  · cases e
  rcases List.mem_cons.mp h with rfl | h
  · cases e
  obtain ⟨d, k, e2⟩ := ckl_kind h
  rw [e2] at e
  cases e
theorem CoAt.notin (h : CoAt c CC CO H) {d : Addr} {t : Tab} (e : H d = some (.dT t)) : d ∉ (c.kl CC CO).map (·.1) := fun m => by
  obtain ⟨q, hq, eq⟩ := List.mem_map.mp m
  have h2 := h q hq
  have eq' : q.1 = d := eq
  rw [eq', e] at h2
  exact Co.nodt hq t (Option.some.inj h2).symm
theorem erase_at : ∀ {ns : List Int} {k : Int}, k ∈ ns → ∃ j, ns[j]? = some k ∧ (∀ m : Nat, m < j → ns[m]? ≠ some k) ∧ ns.eraseIdx j = ns.erase k
  | [], _, h => by simp at h
  | a :: r, k, h => by
    by_cases e : a = k
    · subst e
      refine ⟨0, rfl, fun m hm => absurd hm (Nat.not_lt_zero m), ?_⟩
      rw [List.erase_cons_head]
      rfl
    · have hr : k ∈ r := (List.mem_cons.mp h).resolve_left fun z => e z.symm
      obtain ⟨j, h1, h2, h3⟩ := erase_at hr
      refine ⟨j + 1, by simpa using h1, fun m hm => ?_, ?_⟩
      · cases m with
        | zero =>
          intro z
          have z' : a = k := by simpa using z
          exact e z'
        | succ m =>
          have := h2 m (by omega)
          simpa using this
      · rw [List.erase_cons_tail (by simpa using e), ← h3]
        rfl
theorem sw6 {α : Type} (q a b c w s : α) (r : List α) : (w :: a :: b :: c :: q :: s :: r).Perm (q :: a :: b :: c :: w :: s :: r) :=
  (List.perm_middle (l₁ := [w, a, b, c]) (a := q) (l₂ := s :: r)).trans ((List.perm_middle (l₁ := [a, b, c]) (a := w) (l₂ := s :: r)).cons q).symm
/-- a company's own objects -/
abbrev CoM (c : Co) (CC CO : Addr) : Addr → Prop := fun b => b ∈ (c.kl CC CO).map (·.1)
theorem kl_start (h : CoAt c CC CO H) (nd : ((c.kl CC CO).map (·.1)).Nodup) : Sep H (CoM c CC CO) none (c.kl CC CO) H := (Sep.start (W := none) True.intro).sees nd h fun _ _ z => z
def Co.hd (c : Co) (CO : Addr) : KL := [(c.co, .ins CO c.dx (cof c.cl c.ll c.wl c.sl c.few c.err c.last)), (c.cl, .lst (c.cs.map fun p => V.ref p.1)), (c.ll, .lst (c.foes.map V.int)), (c.wl, .lst (c.waits.map V.int)), (c.sl, .lst c.steps)]
/-- a clock is set -/
theorem Sep.clock {B : Hp} {M : Addr → Prop} {W : TW} {L1 : KL} {i : Nat} {p : Addr × Addr} {k : Ck} (S : Sep B M W (L1 ++ c.kl CC CO) H) (y1 : c.cs[i]? = some p) (y2 : c.ks[i]? = some k) (w : Own B M p.1) (k' : Ck) :
    Sep B M W (L1 ++ Co.kl { c with ks := c.ks.set i k' } CC CO) (upd H p.1 (.ins CC p.2 (ckf k'.1 k'.2.1 k'.2.2))) := by
  obtain ⟨A, Z, e1, e2⟩ := ckl_split (C := CC) y1 y2
  have h1 : L1 ++ c.kl CC CO = (L1 ++ c.hd CO ++ A) ++ (p.1, HO.ins CC p.2 (ckf k.1 k.2.1 k.2.2)) :: Z := by
    show L1 ++ (c.hd CO ++ ckl CC c.cs c.ks) = _
    rw [e1, List.append_assoc, List.append_assoc]
  have h2 : L1 ++ Co.kl { c with ks := c.ks.set i k' } CC CO = (L1 ++ c.hd CO ++ A) ++ (p.1, HO.ins CC p.2 (ckf k'.1 k'.2.1 k'.2.2)) :: Z := by
    show L1 ++ (c.hd CO ++ ckl CC c.cs (c.ks.set i k')) = _
    rw [e2 k', List.append_assoc, List.append_assoc]
  rw [h1] at S
  rw [h2]
  exact S.put w
theorem Co.clock_in {i : Nat} {p : Addr × Addr} {k : Ck} (y1 : c.cs[i]? = some p) (y2 : c.ks[i]? = some k) : p.1 ∈ (c.kl CC CO).map (·.1) :=
  List.mem_map_of_mem (f := (·.1)) (List.mem_cons_of_mem _ (List.mem_cons_of_mem _ (List.mem_cons_of_mem _ (List.mem_cons_of_mem _ (List.mem_cons_of_mem _ (ckl_mem (C := CC) y1 y2))))))
theorem Co.Ok.wlen (o : c.Ok) : c.waits.length ≤ c.ks.length := by
  have := count_in _ _ o.waitsR o.waits0
  omega
end
section
variable {K : PySem.W.Frag} {H : Hp} {σ : L2.St} {nx bk ct : L2.St → Hp → Prop} {rt : VK} {ta tv : TE} {rd' : V → V → Hp → VK → Prop} {f : Str} {Q : VK}
def AugK (K : PySem.W.Frag) (tv : TE) (rd' : V → V → Hp → VK → Prop) (f : Str) (nx : L2.St → Hp → Prop) (σ : L2.St) : VK := fun x H1 => ∃ a C dx fs v, x = .ref a ∧ H1 a = some (.ins C dx fs) ∧ Cls K C ∧ NoAttr K C f ∧ fs.lookup f = some v ∧
  tv σ H1 fun y H2 => rd' v y H2 fun z H3 => ∃ dx' fs', H3 a = some (.ins C dx' fs') ∧ fs'.length < 1000 ∧ nx σ (upd H3 a (.ins C dx' (putF f z fs')))
theorem w_aug (h : ta σ H (AugK K tv rd' f nx σ)) : sFldAug K ta tv rd' f ⟨nx, rt, bk, ct⟩ σ H := h
def AddK (a C : Addr) (f : Str) (nx : L2.St → Hp → Prop) (σ : L2.St) : VK := fun z H3 => ∃ dx' fs', H3 a = some (.ins C dx' fs') ∧ fs'.length < 1000 ∧ nx σ (upd H3 a (.ins C dx' (putF f z fs')))
theorem w_augk {a C dx : Addr} {fs : List (Str × V)} {v : V} (e : H a = some (.ins C dx fs)) (c : Cls K C) (n : NoAttr K C f) (l : fs.lookup f = some v) (h : tv σ H fun y H2 => rd' v y H2 (AddK a C f nx σ)) : AugK K tv rd' f nx σ (.ref a) H := ⟨a, C, dx, fs, v, rfl, e, c, n, l, h⟩
theorem w_rAdd {i j : Int} (q : Q (.int (i + j)) H) : rAdd (.int i) (.int j) H Q := ⟨i, j, rfl, rfl, q⟩
theorem w_addk {a C dx : Addr} {z : V} {fs : List (Str × V)} (e : H a = some (.ins C dx fs)) (l : fs.length < 1000) (q : nx σ (upd H a (.ins C dx (putF f z fs)))) : AddK a C f nx σ z H := ⟨dx, fs, e, l, q⟩
end
section
variable {P : Program} {w : World} {K : PySem.W.Frag} {mg : Str → Option Value} {base : Heap} {Ccl Cco : Addr}
def spLeave (CC CO : Addr) : Sp := fun vs H Q _ => ∃ (c : Co) (h : Int), vs = [.ref c.co, .int h] ∧ CoAt c CC CO H ∧ ((c.kl CC CO).map (·.1)).Nodup ∧ c.Ok ∧ 0 ≤ h ∧ h < (c.ks.length : Int) ∧ h ∉ c.foes ∧ h ∉ c.waits ∧ 2 * c.few + 1 < (mem c.ks.length c.waits).length ∧
  ∀ (c' : Co) H', (∃ q, H q = none ∧ c' = { c with wl := q, waits := srt (c.waits ++ [h]) }) → c'.Ok → CoAt c' CC CO H' → ((c'.kl CC CO).map (·.1)).Nodup → (∀ b o, H b = some o → b ∉ (c.kl CC CO).map (·.1) → H' b = some o) → Q .non H'
theorem Co.Ok.leave {c : Co} (o : c.Ok) {h : Int} {q : Addr} (h0 : 0 ≤ h) (h1 : h < (c.ks.length : Int)) (h2 : h ∉ c.foes) (h3 : h ∉ c.waits) (h4 : 2 * c.few + 1 < (mem c.ks.length c.waits).length) : ({ c with wl := q, waits := srt (c.waits ++ [h]) } : Co).Ok := by
  have hm : ∀ x, x ∈ srt (c.waits ++ [h]) ↔ x ∈ c.waits ∨ x = h := fun x => by
    rw [(srt_perm _).mem_iff, List.mem_append, List.mem_singleton]
  have hb : ∀ x ∈ srt (c.waits ++ [h]), 0 ≤ x ∧ x < (c.ks.length : Int) := fun x hx => by
    rcases (hm x).mp hx with z | rfl
    · exact o.waits0 x z
    · exact ⟨h0, h1⟩
  have hn : (srt (c.waits ++ [h])).Nodup := by
    rw [(srt_perm _).nodup_iff]
    exact nd_snoc o.waitsR h3
  have c1 := count_in _ _ o.waitsR o.waits0
  have c2 := count_in _ _ hn hb
  rw [srt_len, List.length_append, List.length_singleton] at c2
  exact ⟨o.len, o.n1, o.n16, o.foes0, o.foesR, o.foesN, hb, hn, fun x hx z => by
    rcases (hm x).mp z with y | rfl
    · exact o.apart x hx y
    · exact h2 hx, by show 2 * c.few < (mem c.ks.length (srt (c.waits ++ [h]))).length; omega, o.few5, o.err0, o.last0⟩
theorem ok_leave (D : MetB K Cco "leave" "Company.leave" s_Company_leave ["self", "house"]) (c_Company_look_honest : Met P w K mg base 2 Cco "look_honest" (spLookHonest Ccl Cco) []) (c_Company_members : Met P w K mg base 1 Cco "members" (spMembers Ccl Cco) []) (T : Txt K mg Ccl Cco) :
    Met P w K mg base 3 Cco "leave" (spLeave Ccl Cco) [] := by
  refine D.met sc_Company_leave (by rintro vs H Q E ⟨_, _, rfl, _⟩; rfl) fun f cdv A outer s H vs Q E hr hh => ?_
  obtain ⟨c, h, rfl, hc, nd, o, h0, h1, h2, h3, h4, k⟩ := hh
  refine ⟨_, (pss_cons (ps_expr (C8.pe_mt c_Company_look_honest hr (by decide) (pv 0) (pa_cons (pv 1) pa_nil)))
      (pss_cons (ps_if (PW.pt (pw_or (pt_cmpR (LK.kin (K := K) (by rfl)) (pv 1) (LK.kfld (K := K) (by rfl) (pv 0) rfl) (by rfl)) (pw_or1 (pt_cmpR op_le (pe_op op_sub (pe_callB (LK.klen (K := K) (by rfl)) (by rfl) T.b_len (by decide +kernel) (pa_cons (C8.pe_mt0 c_Company_members hr (by decide) (pv 0)) pa_nil)) pe_int) (pe_op op_mul pe_int (LK.kfld (K := K) (by rfl) (pv 0) rfl)) (nomark _)))))
        (pss_one ps_never)
        pss_nil)
      (pss_one (LK.ksfld (K := K) (by rfl) (pv 0) (pe_callB (LK.ksorted (K := K) (by rfl)) (by rfl) T.b_sorted (by decide +kernel) (pa_cons (pe_op op_cat (LK.kfld (K := K) (by rfl) (pv 0) rfl) (pe_lst (pa_cons (pv 1) pa_nil))) pa_nil)) rfl)))), ?_⟩
  have S := kl_start hc nd
  have wco : Own H (CoM c Ccl Cco) c.co := .inr List.mem_cons_self
  have wl := o.wlen
  have o16 := o.n16
  wtm_at "wp"
  refine w_methk hc.obj co_m_look_honest ?_
  wtm_at "wp"
  refine ⟨c, h, rfl, hc, o, h0, h1, h2, ?_⟩
  wtm_at "wp"
  refine w_fldk hc.obj T.cO T.n_waits co_waits ?_
  wtm_at "wp"
  refine w_inI hc.waits ?_
  wtm_at "wp"
  rw [decide_eq_false h3]
  refine iteF ?_
  wtm_at "wp"
  refine w_methk hc.obj co_m_members ?_
  wtm_at "wp"
  refine ⟨c, rfl, hc, o, fun m H1 e1 e2 e3 => ?_⟩
  have S1 := S.same e1
  have hc1 := hc.same e1
  wtm_at "wp"
  refine w_len e3 ?_
  wtm_at "wp"
  refine w_fldk hc1.obj T.cO T.n_few co_few ?_
  wtm_at "wp"
  refine w_I (.inl ⟨by decide, by decide⟩) ?_
  wtm_at "wp"
  rw [List.length_map, decide_eq_false (by omega)]
  refine iteF ?_
  wtm_at "wp"
  refine w_fldk hc1.obj T.cO T.n_waits co_waits ?_
  wtm_at "wp"
  refine w_lstk S1 (by show 1 ≤ sizeLine; decide) fun e H2 S2 w2 => ?_
  have hc2 : CoAt c Ccl Cco H2 := fun p hp => S2.kn p (List.mem_cons_of_mem _ hp)
  refine w_cat S2 hc2.waits S2.g0 (by rw [List.length_map]; show c.waits.length + 1 ≤ sizeLine; exact Nat.le_of_lt (small1000 (by omega))) fun g H3 S3 w3 => ?_
  wtm_at "wp"
  rw [show c.waits.map V.int ++ [V.int h] = (c.waits ++ [h]).map V.int by rw [List.map_append]; rfl] at S3
  refine w_sorted S3 S3.g0 (by rw [List.length_append, List.length_singleton]; omega) fun ns' q H4 p1 p2 S4 w4 => ?_
  rw [srt_of p1 p2] at S4
  have S5 := S4.drop1.drop1
  have hq : H q = none := by
    rcases w4 with z | z
    · exact z
    · exfalso
      exact (List.nodup_cons.mp S5.nd).1 z
  wtm_at "wp"
  refine w_sfldk S5.g1 T.cO T.n_waits (by show 7 < 1000; decide) ?_
  rw [co_put_waits]
  have S6 := S5.put1 (o' := .ins Cco c.dx (cof c.cl c.ll q c.sl c.few c.err c.last)) wco
  have S7 : Sep H (CoM c Ccl Cco) none (Co.kl { c with wl := q, waits := srt (c.waits ++ [h]) } Ccl Cco) _ := (S6.perm (sw6 _ _ _ _ _ _ _)).drop
  refine k _ _ ⟨q, hq, rfl⟩ (o.leave h0 h1 h2 h3 h4) S7.kn S7.nd fun b u e m => S7.fr b u e m
def spEnter (CC CO : Addr) : Sp := fun vs H Q _ => ∃ (c : Co) (h b : Int) (dl de : Addr) (tl te : Tab), vs = [.ref c.co, .int h, .int b, .ref dl, .ref de] ∧ CoAt c CC CO H ∧ ((c.kl CC CO).map (·.1)).Nodup ∧ c.Ok ∧ h ∉ c.foes ∧ h ∈ c.waits ∧ c.last ≤ b ∧ b ≤ 100000 ∧
  H dl = some (.dT tl) ∧ H de = some (.dT te) ∧ TabOk (LieR c.foes c.ks.length) tl ∧ TabOk (ErrR c.err c.ks.length) te ∧
  ∀ (z : Ck) (c' : Co) H', c.ks[h.toNat]? = some z → c' = { c with ks := c.ks.set h.toNat (z.1, z.2.1, z.2.2 + (mid (sees c tl te h b) c.few - shw z.1 z.2.1 z.2.2 b)), waits := c.waits.erase h, last := b } →
    c'.Ok → CoAt c' CC CO H' → ((c'.kl CC CO).map (·.1)).Nodup → (∀ b o, H b = some o → b ∉ (c.kl CC CO).map (·.1) → H' b = some o) → Q .non H'
theorem Co.Ok.enter {c : Co} (o : c.Ok) {h b : Int} {z : Ck} {i : Nat} (hb : c.last ≤ b) : ({ c with ks := c.ks.set i z, waits := c.waits.erase h, last := b } : Co).Ok := by
  have hl : (c.ks.set i z).length = c.ks.length := List.length_set
  have hsub : ∀ x ∈ c.waits.erase h, x ∈ c.waits := fun x hx => List.mem_of_mem_erase hx
  have hbd : ∀ x ∈ c.waits.erase h, 0 ≤ x ∧ x < (c.ks.length : Int) := fun x hx => o.waits0 x (hsub x hx)
  have hn : (c.waits.erase h).Nodup := o.waitsR.erase h
  have c1 := count_in _ _ o.waitsR o.waits0
  have c2 := count_in _ _ hn hbd
  have c3 : (c.waits.erase h).length ≤ c.waits.length := List.length_erase_le
  have o1 := o.enough
  have l0 := o.last0
  refine ⟨?_, ?_, ?_, ?_, o.foesR, o.foesN, ?_, hn, fun x hx y => o.apart x hx (hsub x y), ?_, o.few5, o.err0, by show 0 ≤ b; omega⟩
  · show c.cs.length = (c.ks.set i z).length
    rw [hl, o.len]
  · show 1 ≤ (c.ks.set i z).length
    rw [hl]
    exact o.n1
  · show (c.ks.set i z).length ≤ 16
    rw [hl]
    exact o.n16
  · show ∀ x ∈ c.foes, 0 ≤ x ∧ x < ((c.ks.set i z).length : Int)
    rw [hl]
    exact o.foes0
  · show ∀ x ∈ c.waits.erase h, 0 ≤ x ∧ x < ((c.ks.set i z).length : Int)
    rw [hl]
    exact hbd
  · show 2 * c.few < (mem (c.ks.set i z).length (c.waits.erase h)).length
    rw [hl]
    omega
theorem sees_len (c : Co) (tl te : Tab) (h b : Int) : (sees c tl te h b).length = (mem c.ks.length c.waits).length := List.length_map _
theorem ok_enter (D : MetKB K Cco "enter" "Company.enter" s_Company_enter ["self", "house", "beat", "lies", "offs"] 3 ["offs"]) (c_look_number : Cal P w K mg base 2 "look_number" spLookNumber []) (c_look_lies : Cal P w K mg base 2 "look_lies" spLookLies []) (c_middle_of : Cal P w K mg base 2 "middle_of" spMiddle [])
    (c_Clock_shows : Met P w K mg base 4 Ccl "shows" (spShows Ccl) []) (c_Company_look_honest : Met P w K mg base 2 Cco "look_honest" (spLookHonest Ccl Cco) []) (c_Company_look_errors : Met P w K mg base 2 Cco "look_errors" (spLookErrors Ccl Cco) [])
    (c_Company_seen : Met P w K mg base 5 Cco "seen" (spSeen Ccl Cco) []) (T : Txt K mg Ccl Cco) : MetN P w K mg base 6 Cco "enter" 3 ["offs"] (spEnter Ccl Cco) := by
  refine D.met sc_Company_enter (by rintro vs H Q E ⟨_, _, _, _, _, _, _, rfl, _⟩; rfl) fun f cdv A outer s H vs Q E hr hh => ?_
  obtain ⟨c, h, b, dl, de, tl, te, rfl, hc, nd, o, h2, h3, b0, b1, hdl, hde, t1, t2, k⟩ := hh
  obtain ⟨h0, h1⟩ := o.waits0 h h3
  have nl := hc.notin hdl
  have ne := hc.notin hde
  refine ⟨_, (pss_cons (ps_expr (C8.pe_mt c_Company_look_honest hr (by decide) (pv 0) (pa_cons (pv 1) pa_nil)))
      (pss_cons (ps_if (pt_cmpR (LK.knin (K := K) (by rfl)) (pv 1) (LK.kfld (K := K) (by rfl) (pv 0) rfl) (by rfl))
        (pss_one ps_never)
        pss_nil)
      (pss_cons (ps_expr (C8.pe_c c_look_number hr (by decide) (by rfl) (pa_cons (pv 2) (pa_cons (LK.kfld (K := K) (by rfl) (pv 0) rfl) (pa_cons pe_int pa_nil)))))
      (pss_cons (ps_expr (C8.pe_c c_look_lies hr (by decide) (by rfl) (pa_cons (pv 3) (pa_cons (LK.kfld (K := K) (by rfl) (pv 0) rfl) (pa_cons (pe_callB (LK.klen (K := K) (by rfl)) (by rfl) T.b_len (by decide +kernel) (pa_cons (LK.kfld (K := K) (by rfl) (pv 0) rfl) pa_nil)) pa_nil)))))
      (pss_cons (ps_set (i := 5) sc_Company_enter.nd rfl (by first | exact Or.inl rfl | exact Or.inr rfl) (pe_ifExp (pt_cmpR LK.or_isN (pv 4) pe_non (nomark _)) pe_dnewT (pv 4)))
      (pss_cons (ps_expr (C8.pe_mt c_Company_look_errors hr (by decide) (pv 0) (pa_cons (pv 5) pa_nil)))
      (pss_cons (ps_set (i := 6) sc_Company_enter.nd rfl (by first | exact Or.inl rfl | exact Or.inr rfl) (C8.pe_c c_middle_of hr (by decide) (by rfl) (pa_cons (C8.pe_mt c_Company_seen hr (by decide) (pv 0) (pa_cons (pv 1) (pa_cons (pv 2) (pa_cons (pv 3) (pa_cons (pv 5) pa_nil))))) (pa_cons (LK.kfld (K := K) (by rfl) (pv 0) rfl) pa_nil))))
      (pss_cons (LK.ksaug (K := K) (by rfl) (pe_ix (LK.kixl (K := K) (by rfl)) (LK.kfld (K := K) (by rfl) (pv 0) rfl) (pv 1) (fun _ _ => rfl)) (pe_op op_sub (pv 6) (C8.pe_mt c_Clock_shows hr (by decide) (pe_ix (LK.kixl (K := K) (by rfl)) (LK.kfld (K := K) (by rfl) (pv 0) rfl) (pv 1) (fun _ _ => rfl)) (pa_cons (pv 2) pa_nil))) in_add)
      (pss_cons (ps_expr (LK.kbm (K := K) (by rfl) PySem.F.plainAttrs_list PySem.F.slot_list_remove PySem.F.type_list_remove mt_remove (LK.kfld (K := K) (by rfl) (pv 0) rfl) (pa_cons (pv 1) pa_nil)))
      (pss_one (LK.ksfld (K := K) (by rfl) (pv 0) (pv 2) rfl))))))))))), ?_⟩
  have S := kl_start hc nd
  have l0 := o.last0
  have o16 := o.n16
  obtain ⟨p, z, y1, y2, y3, y4⟩ := o.at h0 h1
  wtm_at "wp"
  refine w_methk hc.obj co_m_look_honest ?_
  wtm_at "wp"
  refine ⟨c, h, rfl, hc, o, h0, h1, h2, ?_⟩
  wtm_at "wp"
  refine w_fldk hc.obj T.cO T.n_waits co_waits ?_
  wtm_at "wp"
  refine w_niI hc.waits ?_
  wtm_at "wp"
  rw [decide_eq_true h3]
  refine iteF ?_
  wtm_at "wp"
  refine w_fldk hc.obj T.cO T.n_last co_last ?_
  wtm_at "wp"
  refine ⟨b, c.last, 100000, rfl, b0, b1, ?_⟩
  wtm_at "wp"
  refine w_fldk hc.obj T.cO T.n_liars co_liars ?_
  wtm_at "wp"
  refine w_fldk hc.obj T.cO T.n_clocks co_clocks ?_
  wtm_at "wp"
  refine w_len hc.clocks ?_
  wtm_at "wp"
  rw [List.length_map, o.len]
  refine ⟨dl, c.ll, tl, c.foes, (c.ks.length : Int), rfl, hdl, hc.liars, t1, fun H1 a1 => ?_⟩
  have S1 := S.same a1
  have hc1 := hc.same a1
  wtm_at "wp"
  refine w_isN (b := false) rfl ?_
  wtm_at "wp"
  refine iteF ?_
  wtm_at "wp"
  refine w_methk hc1.obj co_m_look_errors ?_
  wtm_at "wp"
  refine ⟨c, de, te, rfl, hc1, o, a1 _ _ hde, t2, fun H2 a2 => ?_⟩
  have S2 := S1.same a2
  have hc2 := hc1.same a2
  wtm_at "wp"
  refine w_methk hc2.obj co_m_seen ?_
  wtm_at "wp"
  refine ⟨c, h, b, dl, de, tl, te, rfl, hc2, o, by omega, b1, a2 _ _ (a1 _ _ hdl), a2 _ _ (a1 _ _ hde), ⟨_, t1⟩, ⟨_, t2⟩, fun sl H3 a3 a4 a5 => ?_⟩
  have S3 := S2.same a3
  have hc3 := hc2.same a3
  wtm_at "wp"
  refine w_fldk hc3.obj T.cO T.n_few co_few ?_
  wtm_at "wp"
  have ml := mem_len (n := c.ks.length) (ws := c.waits)
  refine ⟨sl, sees c tl te h b, c.few, rfl, a5, by rw [sees_len]; omega, by rw [sees_len]; exact o.enough, fun H4 a6 => ?_⟩
  have S4 := S3.same a6
  have hc4 := hc3.same a6
  wtm_at "wp"
  refine w_aug ?_
  wtm_at "wp"
  refine w_fldk hc4.obj T.cO T.n_clocks co_clocks ?_
  wtm_at "wp"
  refine w_ixL hc4.clocks (at_nn (j := h.toNat) (by omega) y3) ?_
  refine w_augk (hc4.clock y1 y2) T.cC T.n_set_by ck_set ?_
  wtm_at "wp"
  refine w_fldk hc4.obj T.cO T.n_clocks co_clocks ?_
  wtm_at "wp"
  refine w_ixL hc4.clocks (at_nn (j := h.toNat) (by omega) y3) ?_
  refine w_methk (hc4.clock y1 y2) ck_shows ?_
  wtm_at "wp"
  refine ⟨_, _, _, _, _, b, rfl, hc4.clock y1 y2, by omega, b1, ?_⟩
  wtm_at "wp"
  refine w_rAdd ?_
  refine w_addk (hc4.clock y1 y2) (by show 3 < 1000; decide) ?_
  rw [ck_put]
  have S5 : Sep H (CoM c Ccl Cco) none (Co.kl { c with ks := c.ks.set h.toNat (z.1, z.2.1, z.2.2 + (mid (sees c tl te h b) c.few - shw z.1 z.2.1 z.2.2 b)) } Ccl Cco) _ := Sep.clock (L1 := []) S4 y1 y2 (.inr (Co.clock_in y1 y2)) (z.1, z.2.1, z.2.2 + (mid (sees c tl te h b) c.few - shw z.1 z.2.1 z.2.2 b))
  wtm_at "wp"
  have hc5 : CoAt _ Ccl Cco _ := S5.kn
  refine w_fldk hc5.obj T.cO T.n_waits co_waits ?_
  refine w_BMl hc5.waits ?_
  wtm_at "wp"
  obtain ⟨j, j1, j2, j3⟩ := erase_at h3
  refine ⟨c.wl, c.waits, h, j, rfl, rfl, hc5.waits, j1, j2, ?_⟩
  rw [j3]
  wtm_at "wp"
  have S6 := Sep.put (L1 := [_, _, _]) (o' := .lst ((c.waits.erase h).map V.int)) S5 (.inr (List.mem_cons_of_mem _ (List.mem_cons_of_mem _ (List.mem_cons_of_mem _ List.mem_cons_self))))
  refine w_sfldk S6.g0 T.cO T.n_last (by show 7 < 1000; decide) ?_
  rw [co_put_last]
  have S7 : Sep H (CoM c Ccl Cco) none (Co.kl { c with ks := c.ks.set h.toNat (z.1, z.2.1, z.2.2 + (mid (sees c tl te h b) c.few - shw z.1 z.2.1 z.2.2 b)), waits := c.waits.erase h, last := b } Ccl Cco) _ := S6.put0 (.inr List.mem_cons_self)
  exact k z _ _ y2 rfl (o.enter b0) S7.kn S7.nd fun b u e m => S7.fr b u e m
end
end LK
set_option Elab.async false
set_option linter.all false
set_option maxRecDepth 100000
set_option maxHeartbeats 4000000
set_option autoImplicit false

/-! A meeting. -/
namespace LK
open PySem PySem.Spec L2
open C8 (Cal Met Mak)
section
variable {K : PySem.W.Frag} {B : Hp} {M : Addr → Prop} {W : TW} {L : KL} {σ : L2.St} {H : Hp} {Q : VK} {tl tk tv : TE} {tt : TT} {j : Nat} {vs : List Nat}
theorem put_len (kvs : List (Key × V)) (k : Key) (v : V) : (putK kvs k v).length ≤ kvs.length + 1 := by
  unfold putK
  split
  · rw [List.length_map]
    omega
  · rw [List.length_append]
    exact Nat.le_refl _
def LdL (K : PySem.W.Frag) (j : Nat) (tt : TT) (tk tv : TE) (vs : List Nat) (σ : L2.St) (Q : VK) : VK := fun x H1 => ∃ a, x = .ref a ∧ (∃ xs, SqL K H1 a xs) ∧ ∀ D, H1 D = none → ∃ W : Nat → Nat → Hp → Prop, (∃ m, W 0 m (upd H1 D (.dK []))) ∧ ∀ i m H, W i m H →
  ((Itl K a).stop i H ∧ Q (.ref D) H) ∨ ((Itl K a).go i H ∧ ∃ Nx : Hp → Prop, (∀ H', Nx H' → ∃ m', m' < m ∧ W (i + 1) m' H') ∧ ∀ x H', (Itl K a).yld i H x H' → (gName j) x (wipe σ vs) H' fun σ2 H2 => wipe σ2 vs = wipe σ vs ∧ tt σ2 H2 fun b H3 =>
    if b = true then tk σ2 H3 fun y H4 => tv σ2 H4 fun z H5 => ∃ kvs k, y = kV k ∧ H5 D = some (.dK kvs) ∧ kvs.length < sizeLine ∧ Nx (upd H5 D (.dK (putK kvs k z))) else Nx H3)
theorem w_dcL (h : tl σ H (LdL K j tt tk tv vs σ Q)) : tDc (iList K tl) (gName j) tt tk tv vs σ H Q := h
theorem w_dcLk {a : Addr} {ns : List Int} (S : Sep B M W L H) (h1 : ns.length ≤ 1000) (hw : ∀ x, wipe ((wipe σ vs).set j (some x)) vs = wipe σ vs) (hj : ∀ x, ((wipe σ vs).set j (some x))[j]? = some (some x))
    (ea : ∀ (D : Addr) (kvs : List (Key × V)) H', Sep B M W ((D, .dK kvs) :: L) H' → H' a = some (.lst (ns.map V.int))) (e : H a = some (.lst (ns.map V.int)))
    (hv : ∀ z ∈ ns, ∀ (D : Addr) (kvs : List (Key × V)) H', Sep B M W ((D, .dK kvs) :: L) H' → ∀ Q' : VK, (∀ (n : Int) H'', Sep B M W ((D, .dK kvs) :: L) H'' → Q' (.int n) H'') → tv ((wipe σ vs).set j (some (.int z))) H' Q')
    (k : ∀ (D : Addr) (kvs : List (Key × V)) H', Sep B M W ((D, .dK kvs) :: L) H' → Own B M D → (∀ z ∈ ns, ∃ n : Int, valV kvs (Sum.inl z : Key) = some (.int n)) → Q (.ref D) H') : LdL K j tYes (tVar j) tv vs σ Q (.ref a) H := by
  refine ⟨a, rfl, ⟨_, SqL.of e⟩, fun D hD => ?_⟩
  have w : Own B M D := S.own hD
  refine ⟨fun i m H' => m + i = ns.length ∧ ∃ kvs : List (Key × V), kvs.length ≤ i ∧ Sep B M W ((D, .dK kvs) :: L) H' ∧ ∀ z ∈ ns.take i, ∃ n : Int, valV kvs (Sum.inl z : Key) = some (.int n), ⟨ns.length, rfl, [], Nat.le_refl _, S.new hD, fun z hz => by simp at hz⟩, ?_⟩
  rintro i m H' ⟨hm, kvs, hl, S', hk⟩
  have q := SqL.of (K := K) (ea D kvs H' S')
  by_cases hlt : i < ns.length
  · have hi : (ns.map V.int)[i]? = some (V.int ns[i]) := by
      rw [List.getElem?_map, List.getElem?_eq_getElem hlt]
      rfl
    refine .inr ⟨⟨_, _, q, hi⟩, fun H2 => m - 1 + (i + 1) = ns.length ∧ ∃ kvs : List (Key × V), kvs.length ≤ i + 1 ∧ Sep B M W ((D, .dK kvs) :: L) H2 ∧ ∀ z ∈ ns.take (i + 1), ∃ n : Int, valV kvs (Sum.inl z : Key) = some (.int n), fun H2 h2 => ⟨m - 1, by omega, h2⟩, ?_⟩
    rintro x H2 ⟨rfl, y⟩
    have ex : V.int ns[i] = x := Option.some.inj (hi.symm.trans (y _ q))
    subst ex
    refine ⟨hw _, ?_⟩
    refine w_yes ?_
    refine iteT ?_
    refine ⟨_, hj _, ?_⟩
    refine hv _ (List.getElem_mem hlt) D kvs _ S' _ fun n H3 S3 => ⟨kvs, .inl ns[i], rfl, S3.g0, small1000 (by omega), by omega, _, ?_, S3.put0 w, fun z hz => ?_⟩
    · exact Nat.le_trans (put_len _ _ _) (by omega)
    · rw [valV_put]
      by_cases ez : z = ns[i]
      · subst ez
        exact ⟨n, if_pos rfl⟩
      · rw [if_neg (by intro q2; exact ez (Sum.inl.inj q2))]
        rw [List.take_add_one, List.getElem?_eq_getElem hlt] at hz
        rcases List.mem_append.mp hz with h | h
        · exact hk z h
        · exact absurd (List.mem_singleton.mp h) ez
  · have hi : i = ns.length := by omega
    subst hi
    rw [List.take_length] at hk
    exact .inl ⟨⟨_, q, by rw [List.length_map]; exact Nat.le_refl _⟩, k D kvs H' S' w hk⟩
end
theorem Co.Ok.met {c : Co} (o : c.Ok) {b : Int} {ks : List Ck} {st : List V} (hl : ks.length = c.ks.length) (hb : c.last ≤ b) : ({ c with ks := ks, last := b, steps := st } : Co).Ok := by
  have l0 := o.last0
  refine ⟨?_, ?_, ?_, ?_, o.foesR, o.foesN, ?_, o.waitsR, o.apart, ?_, o.few5, o.err0, by show 0 ≤ b; omega⟩
  · show c.cs.length = ks.length
    rw [hl, o.len]
  · show 1 ≤ ks.length
    rw [hl]
    exact o.n1
  · show ks.length ≤ 16
    rw [hl]
    exact o.n16
  · show ∀ x ∈ c.foes, 0 ≤ x ∧ x < (ks.length : Int)
    rw [hl]
    exact o.foes0
  · show ∀ x ∈ c.waits, 0 ≤ x ∧ x < (ks.length : Int)
    rw [hl]
    exact o.waits0
  · show 2 * c.few < (mem ks.length c.waits).length
    rw [hl]
    exact o.enough
section
variable {P : Program} {w : World} {K : PySem.W.Frag} {mg : Str → Option Value} {base : Heap} {Ccl Cco : Addr}
def spMeet (CC CO : Addr) : Sp := fun vs H Q _ => ∃ (c : Co) (b : Int) (dl de : Addr) (tl te : Tab), vs = [.ref c.co, .int b, .ref dl, .ref de] ∧ CoAt c CC CO H ∧ ((c.kl CC CO).map (·.1)).Nodup ∧ c.Ok ∧ c.last ≤ b ∧ b ≤ 100000 ∧ c.steps.length ≤ 1000 ∧
  H dl = some (.dT tl) ∧ H de = some (.dT te) ∧ TabOk (LieR c.foes c.ks.length) tl ∧ TabOk (ErrR c.err c.ks.length) te ∧
  ∀ (ks : List Ck) (y : V) (v : V) (c' : Co) H', c' = { c with ks := ks, last := b, steps := c.steps ++ [y] } → ks.length = c.ks.length → (∀ k ∈ c.foes, ks[k.toNat]? = c.ks[k.toNat]?) →
    c'.Ok → CoAt c' CC CO H' → ((c'.kl CC CO).map (·.1)).Nodup → (∀ b o, H b = some o → b ∉ (c.kl CC CO).map (·.1) → H' b = some o) → Q v H'
theorem ok_meet (D : MetKB K Cco "meet" "Company.meet" s_Company_meet ["self", "beat", "lies", "offs"] 2 ["offs"]) (c_look_number : Cal P w K mg base 2 "look_number" spLookNumber []) (c_look_lies : Cal P w K mg base 2 "look_lies" spLookLies []) (c_middle_of : Cal P w K mg base 2 "middle_of" spMiddle [])
    (c_Clock_shows : Met P w K mg base 4 Ccl "shows" (spShows Ccl) []) (c_Company_honest : Met P w K mg base 2 Cco "honest" (spHonest Ccl Cco) []) (c_Company_look_errors : Met P w K mg base 2 Cco "look_errors" (spLookErrors Ccl Cco) [])
    (c_Company_seen : Met P w K mg base 5 Cco "seen" (spSeen Ccl Cco) []) (T : Txt K mg Ccl Cco) : MetN P w K mg base 6 Cco "meet" 2 ["offs"] (spMeet Ccl Cco) := by
  refine D.met sc_Company_meet (by rintro vs H Q E ⟨_, _, _, _, _, _, rfl, _⟩; rfl) fun f cdv A outer s H vs Q E hr hh => ?_
  obtain ⟨c, b, dl, de, tl, te, rfl, hc, nd, o, b0, b1, hst, hdl, hde, t1, t2, k⟩ := hh
  have hu := hu_of hr
  have nl := hc.notin hdl
  have ne := hc.notin hde
  refine ⟨_, (pss_cons (ps_expr (C8.pe_c c_look_number hr (by decide) (by rfl) (pa_cons (pv 1) (pa_cons (LK.kfld (K := K) (by rfl) (pv 0) rfl) (pa_cons pe_int pa_nil)))))
      (pss_cons (ps_expr (C8.pe_c c_look_lies hr (by decide) (by rfl) (pa_cons (pv 2) (pa_cons (LK.kfld (K := K) (by rfl) (pv 0) rfl) (pa_cons (pe_callB (LK.klen (K := K) (by rfl)) (by rfl) T.b_len (by decide +kernel) (pa_cons (LK.kfld (K := K) (by rfl) (pv 0) rfl) pa_nil)) pa_nil)))))
      (pss_cons (ps_set (i := 4) sc_Company_meet.nd rfl (by first | exact Or.inl rfl | exact Or.inr rfl) (pe_ifExp (pt_cmpR LK.or_isN (pv 3) pe_non (nomark _)) pe_dnewT (pv 3)))
      (pss_cons (ps_expr (C8.pe_mt c_Company_look_errors hr (by decide) (pv 0) (pa_cons (pv 4) pa_nil)))
      (pss_cons (LK.ks_setDc (i := 5) (own := [("house", 7)]) (g := gName 7) (by rfl) sc_Company_meet.nd rfl rfl (LK.sw_dict rfl rfl rfl (by decide +kernel)) (LK.kpil (K := K) (by rfl) (C8.pe_mt0 c_Company_honest hr (by decide) (pv 0))) (blkOk_by (own := [("house", 7)]) (N := ["self", "beat", "lies", "offs", "errors", "goals", "steps", "house", "step"]) (sc := C8.fnScope s_Company_meet) (by decide +kernel)) (fun _ _ _ _ _ => pg_name (i := 7) sc_Company_meet.nd rfl (Or.inl rfl)) (fun _ _ _ _ _ => pts_nil) (fun _ _ _ _ _ => (pv 7)) (fun _ _ _ _ _ => (C8.pe_c c_middle_of hr (by decide) (by rfl) (pa_cons (C8.pe_mt c_Company_seen hr (by decide) (pv 0) (pa_cons (pv 7) (pa_cons (pv 1) (pa_cons (pv 2) (pa_cons (pv 4) pa_nil))))) (pa_cons (LK.kfld (K := K) (by rfl) (pv 0) rfl) pa_nil)))))
      (pss_cons (ps_set (i := 6) sc_Company_meet.nd rfl (by first | exact Or.inl rfl | exact Or.inr rfl) (pe_lst pa_nil))
      (pss_cons (ps_for PassesOwn.never rfl (LK.kpil (K := K) (by rfl) (C8.pe_mt0 c_Company_honest hr (by decide) (pv 0))) (pg_name (i := 7) sc_Company_meet.nd rfl (by first | exact Or.inl rfl | exact Or.inr rfl))
        (pss_cons (ps_set (i := 8) sc_Company_meet.nd rfl (by first | exact Or.inl rfl | exact Or.inr rfl) (pe_op op_sub (pe_dget hu (pv 5) (pv 7) (fun _ _ => rfl)) (C8.pe_mt c_Clock_shows hr (by decide) (pe_ix (LK.kixl (K := K) (by rfl)) (LK.kfld (K := K) (by rfl) (pv 0) rfl) (pv 7) (fun _ _ => rfl)) (pa_cons (pv 1) pa_nil))))
        (pss_cons (LK.ksaug (K := K) (by rfl) (pe_ix (LK.kixl (K := K) (by rfl)) (LK.kfld (K := K) (by rfl) (pv 0) rfl) (pv 7) (fun _ _ => rfl)) (pv 8) in_add)
        (pss_one (ps_expr (LK.kbm (K := K) (by rfl) PySem.F.plainAttrs_list PySem.F.slot_list_append PySem.F.type_list_append mt_append (pv 6) (pa_cons (pv 8) pa_nil)))))))
      (pss_cons (LK.ksfld (K := K) (by rfl) (pv 0) (pv 1) rfl)
      (pss_cons (ps_expr (LK.kbm (K := K) (by rfl) PySem.F.plainAttrs_list PySem.F.slot_list_append PySem.F.type_list_append mt_append (LK.kfld (K := K) (by rfl) (pv 0) rfl) (pa_cons (pe_tup (pa_cons (pv 1) (pa_cons (pe_callTy (LK.klistOf (K := K) (by rfl)) (by rfl) T.b_list (by decide +kernel) (pa_cons (pv 6) pa_nil)) pa_nil))) pa_nil)))
      (pss_one (ps_ret (pv 6)))))))))))), ?_⟩
  have S := kl_start hc nd
  have l0 := o.last0
  have o16 := o.n16
  have hl := hon_len (n := c.ks.length) (ws := c.waits) (fs := c.foes)
  have ml := mem_len (n := c.ks.length) (ws := c.waits)
  wtm_at "wp"
  refine w_fldk hc.obj T.cO T.n_last co_last ?_
  wtm_at "wp"
  refine ⟨b, c.last, 100000, rfl, b0, b1, ?_⟩
  wtm_at "wp"
  refine w_fldk hc.obj T.cO T.n_liars co_liars ?_
  wtm_at "wp"
  refine w_fldk hc.obj T.cO T.n_clocks co_clocks ?_
  wtm_at "wp"
  refine w_len hc.clocks ?_
  wtm_at "wp"
  rw [List.length_map, o.len]
  refine ⟨dl, c.ll, tl, c.foes, (c.ks.length : Int), rfl, hdl, hc.liars, t1, fun H1 a1 => ?_⟩
  have S1 := S.same a1
  have hc1 := hc.same a1
  wtm_at "wp"
  refine w_isN (b := false) rfl ?_
  wtm_at "wp"
  refine iteF ?_
  wtm_at "wp"
  refine w_methk hc1.obj co_m_look_errors ?_
  wtm_at "wp"
  refine ⟨c, de, te, rfl, hc1, o, a1 _ _ hde, t2, fun H2 a2 => ?_⟩
  have S2 := S1.same a2
  have hc2 := hc1.same a2
  -- goals
  wtm_at "wp"
  refine w_dcL ?_
  wtm_at "wp"
  refine w_methk hc2.obj co_m_honest ?_
  wtm_at "wp"
  refine ⟨c, rfl, hc2, o, fun hn H3 a3 a4 a5 => ?_⟩
  have S3 := S2.res a3 a4 a5
  refine w_dcLk S3 (by omega) (fun _ => rfl) (fun _ => rfl) (fun D kvs H' S' => S'.g1) S3.g0 (fun z hz D kvs H' S' Q' q => ?_) fun gd kvs H4 S4 w4 hval => ?_
  · have hc' : CoAt c Ccl Cco H' := fun p hp => S'.kn p (List.mem_cons_of_mem _ (List.mem_cons_of_mem _ hp))
    wtm_at "wp"
    refine w_methk hc'.obj co_m_seen ?_
    wtm_at "wp"
    refine ⟨c, z, b, dl, de, tl, te, rfl, hc', o, by omega, b1, S'.ro hdl nl, S'.ro hde ne, ⟨_, t1⟩, ⟨_, t2⟩, fun sl H5 e1 e2 e3 => ?_⟩
    have S5 := S'.same e1
    have hc5 := hc'.same e1
    wtm_at "wp"
    refine w_fldk hc5.obj T.cO T.n_few co_few ?_
    wtm_at "wp"
    refine ⟨sl, sees c tl te z b, c.few, rfl, e3, by rw [sees_len]; omega, by rw [sees_len]; exact o.enough, fun H6 e4 => ?_⟩
    exact q _ _ (S5.same e4)
  have S4' := S4.drop1
  -- steps
  wtm_at "wp"
  refine w_lstk S4' (by show 0 ≤ sizeLine; decide) fun st H5 S5 w5 => ?_
  wtm_at "wp"
  refine w_forL ?_
  refine w_meth ?_
  wtm_at "wp"
  have hc5 : CoAt c Ccl Cco H5 := fun p hp => S5.kn p (List.mem_cons_of_mem _ (List.mem_cons_of_mem _ hp))
  refine w_methk hc5.obj co_m_honest ?_
  wtm_at "wp"
  refine ⟨c, rfl, hc5, o, fun hm H6 a6 a7 a8 => ?_⟩
  have S6 := S5.res a6 a7 a8
  refine w_forLk (fun i σ H' => ∃ (ks : List Ck) (ys : List V) (x y : Option V), ks.length = c.ks.length ∧ (∀ k ∈ c.foes, ks[k.toNat]? = c.ks[k.toNat]?) ∧ ys.length = i ∧
      Sep H (CoM c Ccl Cco) none ((hm, .lst ((hon c.ks.length c.waits c.foes).map V.int)) :: (st, .lst ys) :: (gd, .dK kvs) :: Co.kl { c with ks := ks } Ccl Cco) H' ∧
      σ = [some (.ref c.co), some (.int b), some (.ref dl), some (.ref de), some (.ref de), some (.ref gd), some (.ref st), x, y]) S6.g0 ⟨c.ks, [], none, none, rfl, fun _ _ => rfl, rfl, S6, rfl⟩ (fun i σ H' _ p => by obtain ⟨_, _, _, _, _, _, _, S', _⟩ := p; exact S'.g0) ?_ ?_
  · rintro i x σ H' hi ⟨ks, ys, x', y', hk1, hk2, hys, S', rfl⟩
    rw [List.getElem?_map] at hi
    obtain ⟨z, hz, rfl⟩ : ∃ z, (hon c.ks.length c.waits c.foes)[i]? = some z ∧ V.int z = x := by
      cases e : (hon c.ks.length c.waits c.foes)[i]? with
      | none =>
        rw [e] at hi
        cases hi
      | some z =>
        rw [e] at hi
        exact ⟨z, rfl, Option.some.inj hi⟩
    have hil : i < (hon c.ks.length c.waits c.foes).length := (List.getElem?_eq_some_iff.mp hz).1
    have hzm := List.mem_of_getElem? hz
    obtain ⟨z0, z1, z2, z3⟩ := hon_iff.mp hzm
    obtain ⟨n, hn⟩ := hval z hzm
    have oo : ({ c with ks := ks } : Co).Ok := o.met (b := c.last) (st := c.steps) hk1 (Int.le_refl _)
    obtain ⟨p, q, y1, y2, y3, y4⟩ := oo.at z0 (show z < (ks.length : Int) by omega)
    have hc' : CoAt { c with ks := ks } Ccl Cco H' := fun p hp => S'.kn p (List.mem_cons_of_mem _ (List.mem_cons_of_mem _ (List.mem_cons_of_mem _ hp)))
    wtm_at "wp"
    refine ⟨gd, .int n, rfl, ?_, ?_⟩
    · rw [← hn]
      exact DGet.k (k := .inl z) S'.g2
    wtm_at "wp"
    refine w_fldk hc'.obj T.cO T.n_clocks co_clocks ?_
    wtm_at "wp"
    refine w_ixL hc'.clocks (at_nn (j := z.toNat) (by omega) y3) ?_
    refine w_methk (hc'.clock y1 y2) ck_shows ?_
    wtm_at "wp"
    refine ⟨_, _, _, _, _, b, rfl, hc'.clock y1 y2, by omega, b1, ?_⟩
    wtm_at "wp"
    refine w_aug ?_
    wtm_at "wp"
    refine w_fldk hc'.obj T.cO T.n_clocks co_clocks ?_
    wtm_at "wp"
    refine w_ixL hc'.clocks (at_nn (j := z.toNat) (by omega) y3) ?_
    refine w_augk (hc'.clock y1 y2) T.cC T.n_set_by ck_set ?_
    wtm_at "wp"
    refine w_rAdd ?_
    refine w_addk (hc'.clock y1 y2) (by show 3 < 1000; decide) ?_
    rw [ck_put]
    have hin : CoM c Ccl Cco p.1 := by
      have h1 := Co.clock_in (CC := Ccl) (CO := Cco) y1 y2
      have h2 : (Co.kl { c with ks := ks } Ccl Cco).map (·.1) = (c.kl Ccl Cco).map (·.1) := by
        show _ :: _ :: _ :: _ :: _ :: (ckl Ccl c.cs ks).map (·.1) = _ :: _ :: _ :: _ :: _ :: (ckl Ccl c.cs c.ks).map (·.1)
        rw [ckl_addr oo.len, ckl_addr o.len]
      show p.1 ∈ (c.kl Ccl Cco).map (·.1)
      rw [← h2]
      exact h1
    have S8 := Sep.clock (L1 := [_, _, _]) S' y1 y2 (.inr hin) (q.1, q.2.1, q.2.2 + (n - shw q.1 q.2.1 q.2.2 b))
    wtm_at "wp"
    refine w_BMl S8.g1 ?_
    wtm_at "wp"
    refine w_append S8.g1 (small1000 (by omega)) ?_
    wtm_at "wp"
    refine ⟨ks.set z.toNat (q.1, q.2.1, q.2.2 + (n - shw q.1 q.2.1 q.2.2 b)), _, _, _, by rw [List.length_set]; exact hk1, fun k hkf => ?_, by rw [List.length_append, hys]; rfl, S8.put1 w5, rfl⟩
    rw [List.getElem?_set_ne, hk2 k hkf]
    intro e
    have h0 := (o.foes0 k hkf).1
    have e2 : z = k := by omega
    exact z3 (e2 ▸ hkf)
  · rintro σ H' ⟨ks, ys, x', y', hk1, hk2, hys, S', rfl⟩
    rw [List.length_map] at hys
    have hc' : CoAt { c with ks := ks } Ccl Cco H' := fun p hp => S'.kn p (List.mem_cons_of_mem _ (List.mem_cons_of_mem _ (List.mem_cons_of_mem _ hp)))
    wtm_at "wp"
    refine w_sfldk hc'.obj T.cO T.n_last (by show 7 < 1000; decide) ?_
    rw [co_put_last]
    have S8 := Sep.put (L1 := [_, _, _]) (o' := .ins Cco c.dx (cof c.cl c.ll c.wl c.sl c.few c.err b)) S' (.inr List.mem_cons_self)
    wtm_at "wp"
    refine w_fldk S8.g3 T.cO T.n_steps co_steps ?_
    refine w_BMl (Sep.at S8 (List.mem_append_right _ (List.mem_cons_of_mem _ (List.mem_cons_of_mem _ (List.mem_cons_of_mem _ (List.mem_cons_of_mem _ List.mem_cons_self)))))) ?_
    wtm_at "wp"
    refine w_listOf S8 S8.g1 fun cp H9 S9 w9 => ?_
    wtm_at "wp"
    refine w_tupk S9 (by show 2 ≤ sizeLine; decide) fun tp H10 S10 w10 => ?_
    wtm_at "wp"
    have S11 : Sep H (CoM c Ccl Cco) none (Co.kl { c with ks := ks, last := b } Ccl Cco) H10 := S10.drop.drop.drop.drop.drop
    have hc11 : CoAt { c with ks := ks, last := b } Ccl Cco H10 := S11.kn
    refine w_append hc11.stps (small1000 hst) ?_
    wtm_at "wp"
    have S12 : Sep H (CoM c Ccl Cco) none (Co.kl { c with ks := ks, last := b, steps := c.steps ++ [.ref tp] } Ccl Cco) _ := Sep.put (L1 := [_, _, _, _]) S11 (.inr (List.mem_cons_of_mem _ (List.mem_cons_of_mem _ (List.mem_cons_of_mem _ (List.mem_cons_of_mem _ List.mem_cons_self)))))
    exact k ks (.ref tp) _ _ _ rfl hk1 hk2 (o.met hk1 b0) S12.kn S12.nd fun b u e m => S12.fr b u e m
end
end LK
set_option Elab.async false
set_option linter.all false
set_option maxRecDepth 100000
set_option maxHeartbeats 4000000
set_option autoImplicit false

/-! The law's draws and small helpers. -/
namespace LK
open PySem PySem.Spec L2
open C8 (Cal Met Mak)
section
variable {P : Program} {w : World} {K : PySem.W.Frag} {mg : Str → Option Value} {base : Heap} {Ccl Cco : Addr}
def spTown (K : PySem.W.Frag) : Sp := fun vs H Q _ => ∃ (a : Addr) (ns : List Int), vs = [.ref a] ∧ SqL K H a (ns.map V.int) ∧ ns.length ≤ 63 ∧ ∀ t r H', Same H H' → H t = none → H r = none → Town t r H' → Q (.ref t) H'
theorem ok_town (D : DefB K mg "_law_town" s__law_town ["_law_script"]) (T : Txt K mg Ccl Cco) : Cal P w K mg base 1 "_law_town" (spTown K) [] := by
  refine D.cal sc__law_town (by rintro vs H Q E ⟨_, _, rfl, _⟩; rfl) fun f cdv A outer s H vs Q E hr h => ?_
  obtain ⟨a, ns, rfl, hS, h63, k⟩ := h
  refine ⟨_, (pss_one (ps_ret (pe_lst (pa_cons (pe_ifExp (pt_cmpR (LK.kne (K := K) (by rfl) hr.units) (pv 0) (pe_lst pa_nil) (nomark _)) (pe_callTy (LK.klistOf (K := K) (by rfl)) (by rfl) T.b_list (by decide +kernel) (pa_cons (pv 0) pa_nil)) (pe_lst (pa_cons pe_int pa_nil))) (pa_cons pe_int pa_nil))))), ?_⟩
  have S : Sep H (fun _ => False) none [] H := Sep.start True.intro
  wtm_at "wp"
  refine w_lstk S (by show 0 ≤ sizeLine; decide) fun e H1 S1 w1 => ?_
  refine w_neL (ms := []) (S1.same_of.seq hS) (SqL.of S1.g0) ?_
  wtm_at "wp"
  have fin : ∀ (r : Addr) (cells : List Int) H2, Sep H (fun _ => False) none [(r, .lst (cells.map V.int)), (e, .lst [])] H2 → Own H (fun _ => False) r → cells ≠ [] → cells.length ≤ 63 → (LstK (Q := Q) [V.ref r, V.int 0]) H2 := fun r cells H2 S2 w2 c1 c2 => by
    refine w_lstk S2 (by show 2 ≤ sizeLine; decide) fun t H3 S3 w3 => ?_
    exact k t r H3 S3.same_of (S3.gone w3) (S3.gone w2) ⟨0, cells, S3.g0, S3.g1, c1, c2⟩
  by_cases hn : ns = []
  · rw [decide_eq_true hn]
    refine iteF ?_
    wtm_at "wp"
    refine w_lstk S1 (by show 1 ≤ sizeLine; decide) fun r H2 S2 w2 => ?_
    wtm_at "wp"
    exact fin r [0] H2 S2 w2 (by decide) (by decide)
  · rw [decide_eq_false hn]
    refine iteT ?_
    wtm_at "wp"
    refine ⟨a, _, rfl, .inl (S1.same_of.seq hS), fun r hr2 => ?_⟩
    have S2 := S1.new (o := .lst (ns.map V.int)) hr2
    wtm_at "wp"
    exact fin r ns _ S2 (S1.own hr2) hn h63
def spDraw : Sp := fun vs H Q _ => ∃ (t r : Addr) (m : Int), vs = [.ref t, .int m] ∧ Town t r H ∧ 0 < m ∧ m < 1073741824 ∧ ∀ (v : Int) H', 0 ≤ v → v < m → Town t r H' → FrW (some (t, r)) H H' → Q (.int v) H'
theorem get_int {l : List Int} {i : Nat} (h : i < l.length) : (l.map V.int)[i]? = some (.int l[i]) := by
  rw [List.getElem?_map, List.getElem?_eq_getElem h]
  rfl
theorem ok_draw (D : DefB K mg "_law_draw" s__law_draw ["_law_town_here", "_law_many"]) (T : Txt K mg Ccl Cco) : Cal P w K mg base 1 "_law_draw" spDraw [] := by
  refine D.cal sc__law_draw (by rintro vs H Q E ⟨_, _, _, rfl, _⟩; rfl) fun f cdv A outer s H vs Q E hr h => ?_
  obtain ⟨t, r, m, rfl, ⟨c, cells, ht, hrw, hne, h63⟩, m0, m1, k⟩ := h
  have htr : t ≠ r := ne_of ht hrw (by
    intro z
    injection z with z
    cases cells with
    | nil => cases z
    | cons x y =>
      injection z with z _
      cases z)
  refine ⟨_, (pss_cons (ps_set (i := 2) sc__law_draw.nd rfl (by first | exact Or.inl rfl | exact Or.inr rfl) (pe_ix (LK.kixl (K := K) (by rfl)) (pv 0) pe_int (fun _ _ => rfl)))
      (pss_cons (ps_asg (pe_op op_add (pe_ix (LK.kixl (K := K) (by rfl)) (pv 0) pe_int (fun _ _ => rfl)) pe_int) (pg_sub (pv 0) pe_int set_list))
      (pss_cons (ps_set (i := 3) sc__law_draw.nd rfl (by first | exact Or.inl rfl | exact Or.inr rfl) (pe_op op_mod (pe_ix (LK.kixl (K := K) (by rfl)) (pv 0) pe_int (fun _ _ => rfl)) (pe_callB (LK.klen (K := K) (by rfl)) (by rfl) T.b_len (by decide +kernel) (pa_cons (pv 2) pa_nil))))
      (pss_cons (ps_set (i := 4) sc__law_draw.nd rfl (by first | exact Or.inl rfl | exact Or.inr rfl) (pe_ix (LK.kixl (K := K) (by rfl)) (pv 2) (pv 3) (fun _ _ => rfl)))
      (pss_cons (ps_if (pt_cmpR op_ge (pv 4) pe_int (nomark _))
        (pss_cons (ps_asg (pe_op op_fdiv (pv 4) (pv 1)) (pg_sub (pv 2) (pv 3) set_list))
        (pss_one (ps_ret (pe_op op_mod (pv 4) (pv 1)))))
        pss_nil)
      (pss_cons (ps_set (i := 5) sc__law_draw.nd rfl (by first | exact Or.inl rfl | exact Or.inr rfl) (pe_op op_mod (pe_op op_add (pv 4) (pe_op op_mul pe_int (pe_ix (LK.kixl (K := K) (by rfl)) (pv 0) pe_int (fun _ _ => rfl)))) pe_int))
      (pss_cons (ps_set (i := 5) sc__law_draw.nd rfl (by first | exact Or.inl rfl | exact Or.inr rfl) (pe_op op_mod (pe_op op_pow (pv 5) pe_int) pe_int))
      (pss_one (ps_ret (pe_op op_mod (pe_op op_fdiv (pe_op op_mod (pe_op op_add (pe_op op_mul (pe_op op_fdiv (pv 5) pe_int) pe_int) (pv 5)) pe_int) pe_int) (pv 1))))))))))), ?_⟩
  have S : Sep H (TwIn (some (t, r))) none [(t, .lst [.ref r, .int c]), (r, .lst (cells.map V.int))] H := (Sep.start (W := none) True.intro).sees (List.nodup_cons.mpr ⟨fun z => htr (List.mem_singleton.mp z), List.nodup_cons.mpr ⟨(fun z => nomatch z), List.nodup_nil⟩⟩) (fun q hq => by
    rcases List.mem_cons.mp hq with rfl | hq
    · exact ht
    · cases List.mem_singleton.mp hq
      exact hrw) fun _ _ z => z
  have wt : Own H (TwIn (some (t, r))) t := .inr (.inl rfl)
  have wr : Own H (TwIn (some (t, r))) r := .inr (.inr rfl)
  have hpos : 0 < cells.length := List.length_pos_iff.mpr hne
  wtm_at "wp"
  refine w_ixL S.g0 (at_nn (j := 0) rfl rfl) ?_
  wtm_at "wp"
  refine w_ixL S.g0 (at_nn (j := 1) rfl rfl) ?_
  wtm_at "wp"
  refine w_setL S.g0 (j := 1) rfl ?_
  have S1 := S.put0 (o' := .lst [.ref r, .int (c + 1)]) wt
  wtm_at "wp"
  refine w_ixL S1.g0 (at_nn (j := 1) rfl rfl) ?_
  wtm_at "wp"
  refine w_len S1.g1 ?_
  rw [List.length_map]
  refine w_I (show (0 : Int) < (cells.length : Int) by omega) ?_
  wtm_at "wp"
  have e0 := Int.emod_nonneg (c + 1) (show (cells.length : Int) ≠ 0 by omega)
  have e1 := Int.emod_lt_of_pos (c + 1) (show (0 : Int) < (cells.length : Int) by omega)
  generalize (c + 1) % (cells.length : Int) = i at e0 e1 ⊢
  have hi : i.toNat < cells.length := by omega
  refine w_ixL S1.g1 (at_nn (j := i.toNat) (by omega) (get_int hi)) ?_
  wtm_at "wp"
  generalize hcell : cells[i.toNat] = x
  by_cases hx : (1000000000000000000 : Int) ≤ x
  · rw [decide_eq_true hx]
    refine iteT ?_
    wtm_at "wp"
    refine w_I ⟨m0, m1⟩ ?_
    wtm_at "wp"
    refine w_setL S1.g1 (j := i.toNat) (by unfold ixN; rw [if_pos e0, if_pos (by rw [List.length_map]; exact e1)]) ?_
    have S2 := S1.put1 (o' := .lst ((cells.set i.toNat (x / m)).map V.int)) wr
    rw [show (cells.map V.int).set i.toNat (V.int (x / m)) = (cells.set i.toNat (x / m)).map V.int by rw [List.map_set]]
    wtm_at "wp"
    refine w_I m0 ?_
    refine k _ _ (Int.emod_nonneg _ (by omega)) (Int.emod_lt_of_pos _ m0) ⟨c + 1, cells.set i.toNat (x / m), S2.g0, S2.g1, ?_, by rw [List.length_set]; exact h63⟩ S2.fr
    intro z
    have hz := congrArg List.length z
    rw [List.length_set] at hz
    simp only [List.length_nil] at hz
    omega
  · rw [decide_eq_false hx]
    refine iteF ?_
    wtm_at "wp"
    refine w_ixL S1.g0 (at_nn (j := 1) rfl rfl) ?_
    refine w_I (.inl ⟨by decide, by decide⟩) ?_
    wtm_at "wp"
    refine w_I (show (0 : Int) < 4294967291 by decide) ?_
    wtm_at "wp"
    have y0 := Int.emod_nonneg (x + 104729 * (c + 1)) (show (4294967291 : Int) ≠ 0 by decide)
    have y1 := Int.emod_lt_of_pos (x + 104729 * (c + 1)) (show (0 : Int) < 4294967291 by decide)
    generalize (x + 104729 * (c + 1)) % 4294967291 = y at y0 y1 ⊢
    refine w_I ⟨by decide, by decide, by omega⟩ ?_
    wtm_at "wp"
    refine w_I (show (0 : Int) < 4294967279 by decide) ?_
    wtm_at "wp"
    refine w_I ⟨by decide, by decide⟩ ?_
    wtm_at "wp"
    refine w_I (.inr ⟨by decide, by decide⟩) ?_
    wtm_at "wp"
    refine w_I (show (0 : Int) < 4294967231 by decide) ?_
    wtm_at "wp"
    refine w_I ⟨by decide, by decide⟩ ?_
    wtm_at "wp"
    refine w_I m0 ?_
    exact k _ _ (Int.emod_nonneg _ (by omega)) (Int.emod_lt_of_pos _ m0) ⟨c + 1, cells, S1.g0, S1.g1, hne, h63⟩ S1.fr
def spPick : Sp := fun vs H Q _ => ∃ (t r a : Addr) (xs : List V), vs = [.ref t, .ref a] ∧ Town t r H ∧ H a = some (.lst xs) ∧ ¬ TwIn (some (t, r)) a ∧ xs ≠ [] ∧ xs.length ≤ 1000 ∧ ∀ (v : V) H', v ∈ xs → Town t r H' → FrW (some (t, r)) H H' → Q v H'
theorem ok_pick (D : DefB K mg "_law_pick" s__law_pick ["_law_town_here", "_law_some"]) (c__law_draw : Cal P w K mg base 1 "_law_draw" spDraw []) (T : Txt K mg Ccl Cco) : Cal P w K mg base 2 "_law_pick" spPick [] := by
  refine D.cal sc__law_pick (by rintro vs H Q E ⟨_, _, _, _, rfl, _⟩; rfl) fun f cdv A outer s H vs Q E hr h => ?_
  obtain ⟨t, r, a, xs, rfl, ht, ha, hna, hne, hl, k⟩ := h
  have hpos : 0 < xs.length := List.length_pos_iff.mpr hne
  refine ⟨_, (pss_one (ps_ret (pe_ix (LK.kixl (K := K) (by rfl)) (pv 1) (C8.pe_c c__law_draw hr (by decide) (by rfl) (pa_cons (pv 0) (pa_cons (pe_callB (LK.klen (K := K) (by rfl)) (by rfl) T.b_len (by decide +kernel) (pa_cons (pv 1) pa_nil)) pa_nil))) (fun _ _ => rfl)))), ?_⟩
  wtm_at "wp"
  refine w_len ha ?_
  wtm_at "wp"
  refine ⟨t, r, (xs.length : Int), rfl, ht, by omega, by omega, fun v H1 v0 v1 ht1 f1 => ?_⟩
  have hv : v.toNat < xs.length := by omega
  refine w_ixL (f1 a _ ha hna) (at_nn (j := v.toNat) (by omega) (List.getElem?_eq_getElem hv)) ?_
  exact k _ H1 (List.getElem_mem hv) ht1 f1
def spWhole : Sp := fun vs H Q _ => ∃ n : Int, vs = [.int n] ∧ Q (.bl true) H
theorem ok_whole (D : DefB K mg "_law_whole" s__law_whole ["_law_thing"]) (T : Txt K mg Ccl Cco) : Cal P w K mg base 1 "_law_whole" spWhole [] := by
  refine D.cal sc__law_whole (by rintro vs H Q E ⟨_, rfl, _⟩; rfl) fun f cdv A outer s H vs Q E hr h => ?_
  obtain ⟨n, rfl, k⟩ := h
  refine ⟨_, (pss_one (ps_ret (pe_and (pe_callB (LK.kisi (K := K) (by rfl)) (by rfl) T.b_isinstance (by decide +kernel) (pa_cons (pv 0) (pa_cons (pe_bltn (v := .ty "int") (by rfl) T.b_int (by decide +kernel) rfl) pa_nil))) (pe_one (pe_not (pe_callB (LK.kisi (K := K) (by rfl)) (by rfl) T.b_isinstance (by decide +kernel) (pa_cons (pv 0) (pa_cons (pe_bltn (v := .ty "bool") (by rfl) T.b_bool (by decide +kernel) rfl) pa_nil)))))))), ?_⟩
  wtm_at "wp"
  refine w_isiII ?_
  wtm_at "wp"
  refine iteT ?_
  wtm_at "wp"
  refine w_isiIB ?_
  wtm_at "wp"
  exact k
def spWholeList : Sp := fun vs H Q _ => ∃ (a : Addr) (ns : List Int), vs = [.ref a] ∧ H a = some (.lst (ns.map V.int)) ∧ ns.length ≤ 1000 ∧ ∀ H', Same H H' → Q (.bl true) H'
theorem ok_whole_list (D : DefB K mg "_law_whole_list" s__law_whole_list ["_law_thing"]) (c__law_whole : Cal P w K mg base 1 "_law_whole" spWhole []) (T : Txt K mg Ccl Cco) : Cal P w K mg base 2 "_law_whole_list" spWholeList [] := by
  refine D.cal sc__law_whole_list (by rintro vs H Q E ⟨_, _, rfl, _⟩; rfl) fun f cdv A outer s H vs Q E hr h => ?_
  obtain ⟨a, ns, rfl, ha, hl, k⟩ := h
  refine ⟨_, (pss_one (ps_ret (pe_and (pe_callB (LK.kisi (K := K) (by rfl)) (by rfl) T.b_isinstance (by decide +kernel) (pa_cons (pv 0) (pa_cons (pe_bltn (v := .ty "list") (by rfl) T.b_list (by decide +kernel) rfl) pa_nil))) (pe_one (pe_callB (LK.kall (K := K) (by rfl) (by rfl)) (by rfl) T.b_all (by decide +kernel) (pa_cons (pe_lc (own := [("_law_one", 1)]) (g := gName 1) (by rfl) sc__law_whole_list.nd (LK.kpil (K := K) (by rfl) (pv 0)) (blkOk_by (own := [("_law_one", 1)]) (N := ["_law_thing", "_law_one"]) (sc := C8.fnScope s__law_whole_list) (by decide +kernel)) (fun _ _ _ _ _ => pg_name (i := 1) sc__law_whole_list.nd rfl (Or.inl rfl)) (fun _ _ _ _ _ => pts_nil) (fun _ _ _ _ _ => (C8.pe_c c__law_whole hr (by decide) (by rfl) (pa_cons (pv 1) pa_nil)))) pa_nil)))))), ?_⟩
  have S : Sep H (fun _ => False) none [] H := Sep.start True.intro
  wtm_at "wp"
  refine w_isiL ha ?_
  wtm_at "wp"
  refine iteT ?_
  wtm_at "wp"
  refine w_lcL ?_
  wtm_at "wp"
  refine w_lcLk (fun _ => true) (fun _ => .bl true) S (by rw [List.length_map]; omega) (fun _ => rfl) ha (fun D acc H' S' => S'.ro ha fun z => z) (fun x hx => test_yes rfl) (fun x hx _ D acc H' S' Q' q => ?_) fun D H1 S1 w1 => ?_
  · obtain ⟨z, hz, rfl⟩ := List.mem_map.mp hx
    wtm_at "wp"
    exact ⟨z, rfl, q _ S'⟩
  wtm_at "wp"
  rw [all_bl fun _ _ => rfl] at S1
  refine w_all S1.g0 ?_
  rw [show (List.map (fun _ => true) (List.filter (fun _ => true) (List.map V.int ns))).all id = true by simp]
  exact k _ S1.same_of
def spNumber : Sp := fun vs H Q _ => ∃ (t r : Addr), vs = [.ref t] ∧ Town t r H ∧ ∀ (n : Int) H', -1000000 ≤ n → n ≤ 1000000 → Town t r H' → FrW (some (t, r)) H H' → Q (.int n) H'
theorem ok_number (D : DefB K mg "_law_number" s__law_number ["_law_town_here"]) (c__law_draw : Cal P w K mg base 1 "_law_draw" spDraw []) (c__law_pick : Cal P w K mg base 2 "_law_pick" spPick []) (T : Txt K mg Ccl Cco) : Cal P w K mg base 3 "_law_number" spNumber [] := by
  refine D.cal sc__law_number (by rintro vs H Q E ⟨_, _, rfl, _⟩; rfl) fun f cdv A outer s H vs Q E hr h => ?_
  obtain ⟨t, r, rfl, ht, k⟩ := h
  refine ⟨_, (pss_cons (ps_set (i := 1) sc__law_number.nd rfl (by first | exact Or.inl rfl | exact Or.inr rfl) (C8.pe_c c__law_pick hr (by decide) (by rfl) (pa_cons (pv 0) (pa_cons (pe_lst (pa_cons pe_int (pa_cons pe_int (pa_cons pe_int (pa_cons pe_int pa_nil))))) pa_nil))))
      (pss_cons (ps_set (i := 2) sc__law_number.nd rfl (by first | exact Or.inl rfl | exact Or.inr rfl) (C8.pe_c c__law_draw hr (by decide) (by rfl) (pa_cons (pv 0) (pa_cons (pv 1) pa_nil))))
      (pss_one (ps_ret (pe_ifExp (pt_cmpR op_eq (C8.pe_c c__law_draw hr (by decide) (by rfl) (pa_cons (pv 0) (pa_cons pe_int pa_nil))) pe_int (nomark _)) (pv 2) (pe_op op_sub pe_int (pv 2))))))), ?_⟩
  have S : Sep H (TwIn (some (t, r))) (some (t, r)) [] H := Sep.start ht
  wtm_at "wp"
  refine w_lstk S (by show 4 ≤ sizeLine; decide) fun p H1 S1 w1 => ?_
  wtm_at "wp"
  refine ⟨t, r, p, _, rfl, S1.tw, S1.g0, S1.off _ List.mem_cons_self, by simp, by show 4 ≤ 1000; decide, fun v H2 hv ht2 f2 => ?_⟩
  have S2 := S1.draw f2 ht2 fun _ z => z
  obtain ⟨m, rfl, m0, m1⟩ : ∃ m : Int, v = .int m ∧ 0 < m ∧ m ≤ 1000001 := by
    simp only [List.mem_cons, List.not_mem_nil, or_false] at hv
    rcases hv with rfl | rfl | rfl | rfl
    · exact ⟨3, rfl, by decide, by decide⟩
    · exact ⟨30, rfl, by decide, by decide⟩
    · exact ⟨1000, rfl, by decide, by decide⟩
    · exact ⟨1000001, rfl, by decide, by decide⟩
  wtm_at "wp"
  refine ⟨t, r, m, rfl, S2.tw, m0, by omega, fun n H3 n0 n1 ht3 f3 => ?_⟩
  have S3 := S2.draw f3 ht3 fun _ z => z
  wtm_at "wp"
  refine ⟨t, r, 2, rfl, S3.tw, by decide, by decide, fun q H4 q0 q1 ht4 f4 => ?_⟩
  have S4 := S3.draw f4 ht4 fun _ z => z
  wtm_at "wp"
  by_cases hq : q = 0
  · rw [decide_eq_true hq]
    refine iteT ?_
    wtm_at "wp"
    exact k n H4 (by omega) (by omega) ht4 S4.fr
  · rw [decide_eq_false hq]
    refine iteF ?_
    wtm_at "wp"
    exact k _ H4 (by omega) (by omega) ht4 S4.fr
def spLiars : Sp := fun vs H Q _ => ∃ (t r : Addr) (n m : Int), vs = [.ref t, .int n, .int m] ∧ Town t r H ∧ 0 ≤ n ∧ n ≤ 1000 ∧ 0 ≤ m ∧
  ∀ (p : Addr) (ns : List Int) H', ns.Pairwise (· < ·) → (∀ x ∈ ns, 0 ≤ x ∧ x < n) → (ns.length : Int) ≤ m → Town t r H' → FrW (some (t, r)) H H' → H p = none → H' p = some (.lst (ns.map V.int)) → Q (.ref p) H'
theorem ok_liars (D : DefB K mg "_law_liars" s__law_liars ["_law_town_here", "_law_crew", "_law_most"]) (c__law_draw : Cal P w K mg base 1 "_law_draw" spDraw []) (T : Txt K mg Ccl Cco) : Cal P w K mg base 2 "_law_liars" spLiars [] := by
  refine D.cal sc__law_liars (by rintro vs H Q E ⟨_, _, _, _, rfl, _⟩; rfl) fun f cdv A outer s H vs Q E hr h => ?_
  obtain ⟨t, r, n, m, rfl, ht, n0, n1, m0, k⟩ := h
  refine ⟨_, (pss_cons (ps_set (i := 3) sc__law_liars.nd rfl (by first | exact Or.inl rfl | exact Or.inr rfl) (pe_lst pa_nil))
      (pss_cons (ps_for PassesOwn.never rfl (pi_range1 (by rfl) T.b_range (pa_cons (pv 1) pa_nil)) (pg_name (i := 4) sc__law_liars.nd rfl (by first | exact Or.inl rfl | exact Or.inr rfl))
        (pss_one (ps_if (PW.pt (pw_and (pt_cmpR op_lt (pe_callB (LK.klen (K := K) (by rfl)) (by rfl) T.b_len (by decide +kernel) (pa_cons (pv 3) pa_nil)) (pv 2) (nomark _)) (pw_and1 (pt_cmpR op_eq (C8.pe_c c__law_draw hr (by decide) (by rfl) (pa_cons (pv 0) (pa_cons pe_int pa_nil))) pe_int (nomark _)))))
          (pss_one (ps_expr (LK.kbm (K := K) (by rfl) PySem.F.plainAttrs_list PySem.F.slot_list_append PySem.F.type_list_append mt_append (pv 3) (pa_cons (pv 4) pa_nil))))
          pss_nil)))
      (pss_one (ps_ret (pv 3))))), ?_⟩
  have S : Sep H (TwIn (some (t, r))) (some (t, r)) [] H := Sep.start ht
  wtm_at "wp"
  refine w_lstk S (by show 0 ≤ sizeLine; decide) fun p H1 S1 w1 => ?_
  have hp : H p = none := by
    rcases w1 with z | z
    · exact z
    · exact absurd z (S1.off _ List.mem_cons_self)
  wtm_at "wp"
  refine w_forR ?_
  wtm_at "wp"
  refine w_forRk (fun i σ H' => ∃ (ns : List Int) (x : Option V), ns.Pairwise (· < ·) ∧ (∀ x ∈ ns, 0 ≤ x ∧ x < (i : Int)) ∧ (ns.length : Int) ≤ m ∧ Sep H (TwIn (some (t, r))) (some (t, r)) [(p, .lst (ns.map V.int))] H' ∧ ns.length ≤ i ∧ σ = [some (.ref t), some (.int n), some (.int m), some (.ref p), x]) n0 n1
    ⟨[], none, .nil, (fun _ z => nomatch z), m0, S1, Nat.le_refl _, rfl⟩ ?_ ?_
  · rintro i σ H' hi ⟨ns, x, h1, h2, h3, S', h4, rfl⟩
    wtm_at "wp"
    refine w_len S'.g0 ?_
    wtm_at "wp"
    rw [List.length_map]
    by_cases hlt : (ns.length : Int) < m
    · rw [decide_eq_true hlt]
      refine iteT ?_
      wtm_at "wp"
      refine ⟨t, r, 3, rfl, S'.tw, by decide, by decide, fun q H4 q0 q1 ht4 f4 => ?_⟩
      have S4 := S'.draw f4 ht4 fun _ z => z
      wtm_at "wp"
      by_cases hq : q = 0
      · rw [decide_eq_true hq]
        refine iteT ?_
        wtm_at "wp"
        refine w_BMl S4.g0 ?_
        wtm_at "wp"
        refine w_append S4.g0 (small1000 (by rw [List.length_map]; omega)) ?_
        wtm_at "wp"
        have S5 := S4.put0 (o' := .lst ((ns ++ [(i : Int)]).map V.int)) w1
        rw [show ns.map V.int ++ [V.int (i : Int)] = (ns ++ [(i : Int)]).map V.int by rw [List.map_append]; rfl]
        refine ⟨ns ++ [(i : Int)], _, ?_, ?_, by rw [List.length_append, List.length_singleton]; omega, S5, by rw [List.length_append, List.length_singleton]; omega, rfl⟩
        · rw [List.pairwise_append]
          refine ⟨h1, List.pairwise_singleton _ _, fun a ha b hb => ?_⟩
          cases List.mem_singleton.mp hb
          exact (h2 a ha).2
        · intro x hx
          rcases List.mem_append.mp hx with z | z
          · have := h2 x z
            omega
          · cases List.mem_singleton.mp z
            omega
      · rw [decide_eq_false hq]
        refine iteF ?_
        wtm_at "wp"
        exact ⟨ns, _, h1, fun x hx => by have := h2 x hx; omega, h3, S4, by omega, rfl⟩
    · rw [decide_eq_false hlt]
      refine iteF ?_
      wtm_at "wp"
      refine iteF ?_
      wtm_at "wp"
      exact ⟨ns, _, h1, fun x hx => by have := h2 x hx; omega, h3, S', by omega, rfl⟩
  · rintro σ H' ⟨ns, x, h1, h2, h3, S', h4, rfl⟩
    wtm_at "wp"
    exact k p ns H' h1 (fun x hx => by have := h2 x hx; omega) h3 S'.tw S'.fr hp S'.g0
def spLawMiddle : Sp := fun vs H Q _ => ∃ (a : Addr) (ns : List Int) (j : Nat), vs = [.ref a, .int (j : Int)] ∧ H a = some (.lst (ns.map V.int)) ∧ ns.length < 64 ∧ 2 * j < ns.length ∧ ∀ H', Same H H' → Q (.int (mid ns j)) H'
theorem ok_law_middle (D : DefB K mg "_law_middle" s__law_middle ["_law_worths", "_law_some"]) (T : Txt K mg Ccl Cco) : Cal P w K mg base 1 "_law_middle" spLawMiddle [] := by
  refine D.cal sc__law_middle (by rintro vs H Q E ⟨_, _, _, rfl, _⟩; rfl) fun f cdv A outer s H vs Q E hr h => ?_
  obtain ⟨a, ns, j, rfl, ha, h64, h2, k⟩ := h
  refine ⟨_, (pss_cons (ps_set (i := 2) sc__law_middle.nd rfl (by first | exact Or.inl rfl | exact Or.inr rfl) (pe_callB (LK.ksorted (K := K) (by rfl)) (by rfl) T.b_sorted (by decide +kernel) (pa_cons (pv 0) pa_nil)))
      (pss_cons (ps_for PassesOwn.never rfl (pi_range1 (by rfl) T.b_range (pa_cons (pv 1) pa_nil)) (pg_name (i := 3) sc__law_middle.nd rfl (by first | exact Or.inl rfl | exact Or.inr rfl))
        (pss_one (ps_set (i := 2) sc__law_middle.nd rfl (by first | exact Or.inl rfl | exact Or.inr rfl) (pe_slice (LK.kslice (K := K) (by rfl)) (pv 2) (po_some pe_int) (po_some (pe_op op_sub (pe_callB (LK.klen (K := K) (by rfl)) (by rfl) T.b_len (by decide +kernel) (pa_cons (pv 2) pa_nil)) pe_int))))))
      (pss_one (ps_ret (pe_op op_fdiv (pe_op op_add (pe_ix (LK.kixl (K := K) (by rfl)) (pv 2) pe_int (fun _ _ => rfl)) (pe_ix (LK.kixl (K := K) (by rfl)) (pv 2) (pe_op op_sub (pe_callB (LK.klen (K := K) (by rfl)) (by rfl) T.b_len (by decide +kernel) (pa_cons (pv 2) pa_nil)) pe_int) (fun _ _ => rfl))) pe_int))))), ?_⟩
  have S : Sep H (fun _ => False) none [] H := Sep.start True.intro
  wtm_at "wp"
  refine w_sorted S ha h64 fun ns' p H1 e1 e2 S1 w1 => ?_
  rw [srt_of e1 e2] at S1
  wtm_at "wp"
  refine w_forR ?_
  wtm_at "wp"
  refine w_forRk (fun i σ H' => ∃ (q : Addr) (x : Option V), Sep H (fun _ => False) none [(q, .lst ((((srt ns).drop i).take (ns.length - 2 * i)).map V.int))] H' ∧ σ = [some (.ref a), some (.int (j : Int)), some (.ref q), x]) (by omega) (by omega) ⟨p, none, ?_, rfl⟩ ?_ ?_
  · rw [List.drop_zero, List.take_of_length_le (by rw [srt_len]; omega)]
    exact S1
  · rintro i σ H' hi ⟨q, x, S', rfl⟩
    have hl : ((((srt ns).drop i).take (ns.length - 2 * i)).map V.int).length = ns.length - 2 * i := by
      rw [List.length_map, List.length_take, List.length_drop, srt_len]
      omega
    wtm_at "wp"
    refine w_len S'.g0 ?_
    wtm_at "wp"
    refine w_slL S' S'.g0 fun q2 H2 S2 w2 => ?_
    wtm_at "wp"
    refine ⟨q2, _, ?_, rfl⟩
    have e : cutV ((((srt ns).drop i).take (ns.length - 2 * i)).map V.int) (some 1) (some (((((((srt ns).drop i).take (ns.length - 2 * i)).map V.int).length : Nat) : Int) - 1)) = (((srt ns).drop (i + 1)).take (ns.length - 2 * (i + 1))).map V.int := by
      rw [show (1 : Int) = ((1 : Nat) : Int) from rfl, cut_mid _ 1 _ (by omega) (by omega), hl, ← List.map_drop, ← List.map_take, List.drop_take, List.drop_drop, List.take_take]
      rw [show min (ns.length - 2 * i - 2 * 1) (ns.length - 2 * i - 1) = ns.length - 2 * (i + 1) by omega]
    rw [e] at S2
    exact S2.drop1
  · rintro σ H' ⟨q, x, S', rfl⟩
    rw [Int.toNat_natCast] at S'
    have hl : ((((srt ns).drop j).take (ns.length - 2 * j))).length = ns.length - 2 * j := by
      rw [List.length_take, List.length_drop, srt_len]
      omega
    wtm_at "wp"
    refine w_ixL S'.g0 (at_nn (j := 0) rfl (get_map (by omega))) ?_
    wtm_at "wp"
    refine w_len S'.g0 ?_
    wtm_at "wp"
    refine w_ixL S'.g0 (at_nn (j := ns.length - 2 * j - 1) (by rw [List.length_map]; omega) (get_map (by omega))) ?_
    wtm_at "wp"
    refine w_I ⟨by decide, by decide⟩ ?_
    have e : ((((srt ns).drop j).take (ns.length - 2 * j))[0]?.getD 0 + (((srt ns).drop j).take (ns.length - 2 * j))[ns.length - 2 * j - 1]?.getD 0) / 2 = mid ns j := by
      unfold mid
      rw [List.getElem?_take, if_pos (by omega), List.getElem?_take, if_pos (by omega), List.getElem?_drop, List.getElem?_drop, Nat.add_zero, show j + (ns.length - 2 * j - 1) = ns.length - 1 - j by omega]
    rw [e]
    exact k H' S'.same_of
def shn (shown : List Int) (k : Int) : Int := shown[k.toNat]?.getD 0
def law1 (shown fs : List Int) (tl te : Tab) (h k : Int) : Int := if k ∈ fs then lkp tl k h (shn shown k) else shn shown k + lkp te k h 0
def spReads : Sp := fun vs H Q _ => ∃ (h : Int) (ai ash af dl de : Addr) (ins shown fs : List Int) (tl te : Tab), vs = [.int h, .ref ai, .ref ash, .ref af, .ref dl, .ref de] ∧ H ai = some (.lst (ins.map V.int)) ∧ H ash = some (.lst (shown.map V.int)) ∧ H af = some (.lst (fs.map V.int)) ∧ H dl = some (.dT tl) ∧ H de = some (.dT te) ∧
  (∃ R, TabOk R tl) ∧ (∃ R, TabOk R te) ∧ ins.length ≤ 1000 ∧ (∀ x ∈ ins, 0 ≤ x ∧ x < (shown.length : Int) ∧ x ≠ h) ∧ ∀ p H', Same H H' → H p = none → H' p = some (.lst ((ins.map (law1 shown fs tl te h)).map V.int)) → Q (.ref p) H'
theorem ok_reads (D : DefB K mg "_law_reads" s__law_reads ["_law_house", "_law_inside", "_law_shown", "_law_foes", "_law_tales", "_law_slips_here"]) (T : Txt K mg Ccl Cco) : Cal P w K mg base 1 "_law_reads" spReads [] := by
  refine D.cal sc__law_reads (by rintro vs H Q E ⟨_, _, _, _, _, _, _, _, _, _, _, rfl, _⟩; rfl) fun f cdv A outer s H vs Q E hr hh => ?_
  obtain ⟨h, ai, ash, af, dl, de, ins, shown, fs, tl, te, rfl, hai, hash, haf, hdl, hde, ⟨R1, t1⟩, ⟨R2, t2⟩, hin, hx0, k⟩ := hh
  have hu := hu_of hr
  refine ⟨_, (pss_cons (ps_set (i := 6) sc__law_reads.nd rfl (by first | exact Or.inl rfl | exact Or.inr rfl) (pe_lst pa_nil))
      (pss_cons (ps_for PassesOwn.never rfl (LK.kpil (K := K) (by rfl) (pv 1)) (pg_name (i := 7) sc__law_reads.nd rfl (by first | exact Or.inl rfl | exact Or.inr rfl))
        (pss_cons (ps_set (i := 8) sc__law_reads.nd rfl (by first | exact Or.inl rfl | exact Or.inr rfl) (pe_ifExp (pt_cmpR op_ne (pv 7) (pv 0) (nomark _)) (pe_dget2 hu (pv 5) (pe_tup (pa_cons (pv 7) (pa_cons (pv 0) pa_nil))) pe_int ⟨rfl, rfl, rfl, rfl⟩) pe_int))
        (pss_cons (ps_set (i := 9) sc__law_reads.nd rfl (by first | exact Or.inl rfl | exact Or.inr rfl) (pe_ifExp (pt_cmpR (LK.kin (K := K) (by rfl)) (pv 7) (pv 3) (by rfl)) (pe_ix (LK.kixl (K := K) (by rfl)) (pv 2) (pv 7) (fun _ _ => rfl)) (pe_op op_add (pe_ix (LK.kixl (K := K) (by rfl)) (pv 2) (pv 7) (fun _ _ => rfl)) (pv 8))))
        (pss_one (ps_expr (LK.kbm (K := K) (by rfl) PySem.F.plainAttrs_list PySem.F.slot_list_append PySem.F.type_list_append mt_append (pv 6) (pa_cons (pe_ifExp (pt_cmpR (LK.kin (K := K) (by rfl)) (pv 7) (pv 3) (by rfl)) (pe_dget2 hu (pv 4) (pe_tup (pa_cons (pv 7) (pa_cons (pv 0) pa_nil))) (pv 9) ⟨rfl, rfl, rfl, rfl⟩) (pv 9)) pa_nil)))))))
      (pss_one (ps_ret (pv 6))))), ?_⟩
  have S : Sep H (fun _ => False) none [] H := Sep.start True.intro
  wtm_at "wp"
  refine w_lstk S (by show 0 ≤ sizeLine; decide) fun fo H1 S1 w1 => ?_
  wtm_at "wp"
  refine w_forL ?_
  wtm_at "wp"
  refine w_forLk (fun i σ H' => ∃ x y z, Sep H (fun _ => False) none [(fo, .lst (((ins.take i).map (law1 shown fs tl te h)).map V.int))] H' ∧ σ = [some (.int h), some (.ref ai), some (.ref ash), some (.ref af), some (.ref dl), some (.ref de), some (.ref fo), x, y, z]) (S1.ro hai fun z => z) ⟨none, none, none, S1, rfl⟩ (fun i σ H' _ p => by obtain ⟨_, _, _, S', _⟩ := p; exact S'.ro hai fun z => z) ?_ ?_
  · rintro i x σ H' hi ⟨y1, y2, y3, S', rfl⟩
    rw [List.getElem?_map] at hi
    obtain ⟨z, hz, rfl⟩ : ∃ z, ins[i]? = some z ∧ V.int z = x := by
      cases e : ins[i]? with
      | none =>
        rw [e] at hi
        cases hi
      | some z =>
        rw [e] at hi
        exact ⟨z, rfl, Option.some.inj hi⟩
    have hzm := List.mem_of_getElem? hz
    obtain ⟨z0, z1, z2⟩ := hx0 z hzm
    have hsz : (((ins.take i).map (law1 shown fs tl te h)).map V.int).length ≤ 1000 := by
      rw [List.length_map, List.length_map, List.length_take]
      omega
    have hsh : (shown.map V.int)[z.toNat]? = some (.int (shn shown z)) := get_map (by omega)
    wtm_at "wp"
    rw [decide_eq_false z2]
    refine iteT ?_
    wtm_at "wp"
    refine w_getk (S'.ro hde fun z => z) ?_
    wtm_at "wp"
    refine w_tupk S' (by show 2 ≤ sizeLine; decide) fun tp H3 S3 w3 => ?_
    wtm_at "wp"
    refine ⟨_, DGet.t (k := [.inl z, .inl h]) (S3.ro hde fun z => z) S3.g0, ?_⟩
    rw [t2.get]
    have S4 := S3.drop
    wtm_at "wp"
    refine w_inI (S4.ro haf fun z => z) ?_
    wtm_at "wp"
    by_cases hf : z ∈ fs
    · rw [decide_eq_true hf]
      refine iteT ?_
      wtm_at "wp"
      refine w_ixL (S4.ro hash fun z => z) (at_nn (j := z.toNat) (by omega) hsh) ?_
      wtm_at "wp"
      refine w_BMl S4.g0 ?_
      wtm_at "wp"
      refine w_inI (S4.ro haf fun z => z) ?_
      wtm_at "wp"
      rw [decide_eq_true hf]
      refine iteT ?_
      wtm_at "wp"
      refine w_getk (S4.ro hdl fun z => z) ?_
      wtm_at "wp"
      refine w_tupk S4 (by show 2 ≤ sizeLine; decide) fun tp2 H5 S5 w5 => ?_
      wtm_at "wp"
      refine ⟨_, DGet.t (k := [.inl z, .inl h]) (S5.ro hdl fun z => z) S5.g0, ?_⟩
      rw [t1.get]
      wtm_at "wp"
      refine w_append S5.g1 (small1000 hsz) ?_
      wtm_at "wp"
      have S6 := (S5.put1 (o' := .lst ((((ins.take i).map (law1 shown fs tl te h)).map V.int) ++ [V.int (lkp tl z h (shn shown z))])) w1).drop
      refine ⟨_, _, _, ?_, rfl⟩
      rw [take_map_snoc hz, show law1 shown fs tl te h z = lkp tl z h (shn shown z) from if_pos hf]
      exact S6
    · rw [decide_eq_false hf]
      refine iteF ?_
      wtm_at "wp"
      refine w_ixL (S4.ro hash fun z => z) (at_nn (j := z.toNat) (by omega) hsh) ?_
      wtm_at "wp"
      refine w_BMl S4.g0 ?_
      wtm_at "wp"
      refine w_inI (S4.ro haf fun z => z) ?_
      wtm_at "wp"
      rw [decide_eq_false hf]
      refine iteF ?_
      wtm_at "wp"
      refine w_append S4.g0 (small1000 hsz) ?_
      wtm_at "wp"
      have S6 := S4.put0 (o' := .lst ((((ins.take i).map (law1 shown fs tl te h)).map V.int) ++ [V.int (shn shown z + lkp te z h 0)])) w1
      refine ⟨_, _, _, ?_, rfl⟩
      rw [take_map_snoc hz, show law1 shown fs tl te h z = shn shown z + lkp te z h 0 from if_neg hf]
      exact S6
  · rintro σ H' ⟨x, y, z, S', rfl⟩
    wtm_at "wp"
    rw [List.length_map, List.take_length] at S'
    exact k fo H' S'.same_of (S'.gone w1) S'.g0
end
end LK
set_option Elab.async false
set_option linter.all false
set_option maxRecDepth 100000
set_option maxHeartbeats 4000000
set_option autoImplicit false

/-! The law's lies, slips, company; who leaves. -/
namespace LK
open PySem PySem.Spec L2
open C8 (Cal Met Mak)
section
variable {B : Hp} {M : Addr → Prop} {W : TW} {L L0 L1 L2 Lp : KL} {H H' : Hp}
theorem Sep.callT (S : Sep B M W (L0 ++ L1) H) (own : ∀ q ∈ L0, Own B M q.1) (nd : (L2.map (·.1)).Nodup) (ad : ∀ q ∈ L2, q.1 ∈ L0.map (·.1) ∨ H q.1 = none)
    (kn : ∀ q ∈ L2, H' q.1 = some q.2) (tw : TwAt W H') (mw : ∀ a, TwIn W a → M a) (f : ∀ b o, H b = some o → ¬ TwIn W b → b ∉ L0.map (·.1) → H' b = some o) : Sep B M W (L2 ++ L1) H' := by
  have nd0 := S.nd
  rw [List.map_append, List.nodup_append] at nd0
  obtain ⟨n1, n2, n3⟩ := nd0
  have ap : ∀ q ∈ L1, q.1 ∉ L0.map (·.1) := fun q hq m => n3 _ m _ (List.mem_map_of_mem (f := (·.1)) hq) rfl
  refine ⟨?_, fun q hq => ?_, fun q hq => ?_, tw, fun b o e m => ?_⟩
  · rw [List.map_append, List.nodup_append]
    refine ⟨nd, n2, fun x hx y hy e => ?_⟩
    subst e
    obtain ⟨q, hq, rfl⟩ := List.mem_map.mp hx
    obtain ⟨r, hr, er⟩ := List.mem_map.mp hy
    rcases ad q hq with h | h
    · exact n3 _ h _ hy rfl
    · have h2 := S.kn r (List.mem_append_right _ hr)
      have er' : r.1 = q.1 := er
      rw [er', h] at h2
      cases h2
  · rcases List.mem_append.mp hq with h | h
    · exact kn q h
    · exact f _ _ (S.kn q (List.mem_append_right _ h)) (S.off q (List.mem_append_right _ h)) (ap q h)
  · rcases List.mem_append.mp hq with h | h
    · rcases ad q h with h2 | h2
      · obtain ⟨r, hr, er⟩ := List.mem_map.mp h2
        have er' : r.1 = q.1 := er
        rw [← er']
        exact S.off r (List.mem_append_left _ hr)
      · exact S.tw.ne h2
    · exact S.off q (List.mem_append_right _ h)
  · refine f _ _ (S.fr b o e m) (fun z => m (mw b z)) fun z => ?_
    obtain ⟨r, hr, er⟩ := List.mem_map.mp z
    have er' : r.1 = b := er
    exact (own r hr).keep (H := H) e m er'.symm
theorem Sep.callTM (S : Sep B M W (Lp ++ (L0 ++ L1)) H) (own : ∀ q ∈ L0, Own B M q.1) (nd : (L2.map (·.1)).Nodup) (ad : ∀ q ∈ L2, q.1 ∈ L0.map (·.1) ∨ H q.1 = none)
    (kn : ∀ q ∈ L2, H' q.1 = some q.2) (tw : TwAt W H') (mw : ∀ a, TwIn W a → M a) (f : ∀ b o, H b = some o → ¬ TwIn W b → b ∉ L0.map (·.1) → H' b = some o) : Sep B M W (Lp ++ (L2 ++ L1)) H' :=
  ((S.perm (List.perm_append_comm_assoc L0 Lp L1)).callT own nd ad kn tw mw f).perm (List.perm_append_comm_assoc Lp L2 L1)
theorem Sep.callM (S : Sep B M W (Lp ++ (L0 ++ L1)) H) (own : ∀ q ∈ L0, Own B M q.1) (nd : (L2.map (·.1)).Nodup) (ad : ∀ q ∈ L2, q.1 ∈ L0.map (·.1) ∨ H q.1 = none)
    (kn : ∀ q ∈ L2, H' q.1 = some q.2) (f : ∀ b o, H b = some o → b ∉ L0.map (·.1) → H' b = some o) : Sep B M W (Lp ++ (L2 ++ L1)) H' :=
  ((S.perm (List.perm_append_comm_assoc L0 Lp L1)).call own nd ad kn f).perm (List.perm_append_comm_assoc Lp L2 L1)
theorem tput_len (kvs : Tab) (k : List Key) (v : V) : (putK kvs k v).length ≤ kvs.length + 1 := by
  unfold putK
  split
  · rw [List.length_map]
    omega
  · rw [List.length_append]
    exact Nat.le_refl _
theorem TabOk.put {R : Int → Int → Int → Prop} {kvs : Tab} (h : TabOk R kvs) {i j z : Int} (r : R i j z) : TabOk R (putK kvs [.inl i, .inl j] (.int z)) := by
  intro kv hm
  unfold putK at hm
  split at hm
  · obtain ⟨q, hq, rfl⟩ := List.mem_map.mp hm
    by_cases e : q.1 = [.inl i, .inl j]
    · rw [if_pos e, e]
      exact ⟨i, j, z, rfl, r⟩
    · rw [if_neg e]
      exact h q hq
  · rcases List.mem_append.mp hm with hm | hm
    · exact h kv hm
    · cases List.mem_singleton.mp hm
      exact ⟨i, j, z, rfl, r⟩
end
/-! ### ranges as lists -/
def rg (a b : Int) : List Int := (List.range (b - a).toNat).map fun (i : Nat) => a + (i : Int)
theorem rgV_eq (a b : Int) : rgV a b = (rg a b).map V.int := by
  unfold rgV rg
  rw [List.map_map]
  rfl
section
variable {B : Hp} {M : Addr → Prop} {W : TW} {L : KL} {σ : L2.St} {H : Hp} {Q : VK} {ta tb : TE}
def RgK (Q : VK) (x y : V) (H2 : Hp) : Prop := ∃ i j, x = .int i ∧ y = .int j ∧ RgOk i j ∧ ∀ q, H2 q = none → Q (.ref q) (upd H2 q (.lst (rgV i j)))
theorem w_rg2 (h : ta σ H fun x H1 => tb σ H1 fun y H2 => RgK Q x y H2) : tLstRg (tRg2 ta tb) σ H Q := h
theorem w_rgk {a b : Int} (S : Sep B M W L H) (ok : RgOk a b) (k : ∀ q H', Sep B M W ((q, .lst ((rg a b).map V.int)) :: L) H' → Own B M q → Q (.ref q) H') : RgK Q (.int a) (.int b) H :=
  ⟨a, b, rfl, rfl, ok, fun q hq => by
    rw [rgV_eq]
    exact k q _ (S.new hq) (S.own hq)⟩
def RgK1 (Q : VK) : VK := fun x H1 => ∃ n, x = .int n ∧ RgOk 0 n ∧ ∀ q, H1 q = none → Q (.ref q) (upd H1 q (.lst (rgV 0 n)))
theorem w_rg1 (h : ta σ H (RgK1 Q)) : tLstRg (tRg1 ta) σ H Q := h
theorem w_rgk1 {b : Int} (S : Sep B M W L H) (ok : RgOk 0 b) (k : ∀ q H', Sep B M W ((q, .lst ((rg 0 b).map V.int)) :: L) H' → Own B M q → Q (.ref q) H') : RgK1 Q (.int b) H :=
  ⟨b, rfl, ok, fun q hq => by
    rw [rgV_eq]
    exact k q _ (S.new hq) (S.own hq)⟩
end
theorem rg_mem {a b x : Int} (h : a ≤ b) : x ∈ rg a b ↔ a ≤ x ∧ x < b := by
  unfold rg
  simp only [List.mem_map, List.mem_range]
  constructor
  · rintro ⟨i, h1, rfl⟩
    omega
  · rintro ⟨h1, h2⟩
    exact ⟨(x - a).toNat, by omega, by omega⟩
theorem rg_rise (a b : Int) : (rg a b).Pairwise (· < ·) := by
  unfold rg
  rw [List.pairwise_map]
  exact List.pairwise_lt_range.imp fun {x y} h => by omega
theorem rg_len (a b : Int) : (rg a b).length = (b - a).toNat := by
  unfold rg
  rw [List.length_map, List.length_range]
theorem clamp (x : Int) : -1000000 ≤ (if (if x < 1000000 then x else 1000000) > -1000000 then (if x < 1000000 then x else 1000000) else -1000000) ∧ (if (if x < 1000000 then x else 1000000) > -1000000 then (if x < 1000000 then x else 1000000) else -1000000) ≤ 1000000 := by
  split <;> split <;> omega
section
variable {P : Program} {w : World} {K : PySem.W.Frag} {mg : Str → Option Value} {base : Heap} {Ccl Cco : Addr}
def spLies : Sp := fun vs H Q _ => ∃ (t r af aw : Addr) (n : Int) (fs ws : List Int), vs = [.ref t, .int n, .ref af, .ref aw] ∧ Town t r H ∧ H af = some (.lst (fs.map V.int)) ∧ ¬ TwIn (some (t, r)) af ∧ H aw = some (.lst (ws.map V.int)) ∧ ¬ TwIn (some (t, r)) aw ∧
  ws ≠ [] ∧ ws.length ≤ 1000 ∧ 0 ≤ n ∧ n ≤ 16 ∧ fs.length ≤ 16 ∧ ∀ (p : Addr) (kvs : Tab) H', TabOk (LieR fs n) kvs → Town t r H' → FrW (some (t, r)) H H' → H p = none → H' p = some (.dT kvs) → Q (.ref p) H'
theorem ok_lies (D : DefB K mg "_law_lies" s__law_lies ["_law_town_here", "_law_crew", "_law_foes", "_law_worths"]) (c__law_draw : Cal P w K mg base 1 "_law_draw" spDraw []) (c__law_pick : Cal P w K mg base 2 "_law_pick" spPick []) (c__law_number : Cal P w K mg base 3 "_law_number" spNumber []) (T : Txt K mg Ccl Cco) :
    Cal P w K mg base 4 "_law_lies" spLies [] := by
  refine D.cal sc__law_lies (by rintro vs H Q E ⟨_, _, _, _, _, _, _, rfl, _⟩; rfl) fun f cdv A outer s H vs Q E hr h => ?_
  obtain ⟨t, r, af, aw, n, fs, ws, rfl, ht, haf, naf, haw, naw, hne, hwl, n0, n1, hfl, k⟩ := h
  have hu := hu_of hr
  refine ⟨_, (pss_cons (ps_set (i := 4) sc__law_lies.nd rfl (by first | exact Or.inl rfl | exact Or.inr rfl) pe_dnewT)
      (pss_cons (ps_for PassesOwn.never rfl (LK.kpil (K := K) (by rfl) (pv 2)) (pg_name (i := 5) sc__law_lies.nd rfl (by first | exact Or.inl rfl | exact Or.inr rfl))
        (pss_one (ps_for PassesOwn.never rfl (pi_range1 (by rfl) T.b_range (pa_cons (pv 1) pa_nil)) (pg_name (i := 6) sc__law_lies.nd rfl (by first | exact Or.inl rfl | exact Or.inr rfl))
          (pss_one (ps_if (pt_cmpR op_gt (C8.pe_c c__law_draw hr (by decide) (by rfl) (pa_cons (pv 0) (pa_cons pe_int pa_nil))) pe_int (nomark _))
            (pss_cons (ps_set (i := 7) sc__law_lies.nd rfl (by first | exact Or.inl rfl | exact Or.inr rfl) (pe_op op_sub (pe_op op_add (C8.pe_c c__law_pick hr (by decide) (by rfl) (pa_cons (pv 0) (pa_cons (pv 3) pa_nil))) (C8.pe_c c__law_draw hr (by decide) (by rfl) (pa_cons (pv 0) (pa_cons pe_int pa_nil)))) pe_int))
            (pss_one (ps_dput hu (pv 4) (pe_tup (pa_cons (pv 5) (pa_cons (pv 6) pa_nil))) (pe_callB (LK.cr_max2 (by rfl)) (by rfl) T.b_max (by decide +kernel) (pa_cons (pe_op op_sub pe_int pe_int) (pa_cons (pe_callB (LK.cr_min2 (by rfl)) (by rfl) T.b_min (by decide +kernel) (pa_cons pe_int (pa_cons (C8.pe_c c__law_pick hr (by decide) (by rfl) (pa_cons (pv 0) (pa_cons (pe_lst (pa_cons (pv 7) (pa_cons (pv 7) (pa_cons (C8.pe_c c__law_number hr (by decide) (by rfl) (pa_cons (pv 0) pa_nil)) pa_nil)))) pa_nil))) pa_nil))) pa_nil))) rfl)))
            pss_nil)))))
      (pss_one (ps_ret (pv 4))))), ?_⟩
  have S : Sep H (TwIn (some (t, r))) (some (t, r)) [] H := Sep.start ht
  wtm_at "wp"
  refine w_dnewT S fun p H1 S1 w1 => ?_
  have hp : H p = none := by
    rcases w1 with z | z
    · exact z
    · exact absurd z (S1.off _ List.mem_cons_self)
  wtm_at "wp"
  refine w_forL ?_
  wtm_at "wp"
  refine w_forLk (fun i σ H' => ∃ (kvs : Tab) (x y z : Option V), TabOk (LieR fs n) kvs ∧ kvs.length ≤ 16 * i ∧ Sep H (TwIn (some (t, r))) (some (t, r)) [(p, .dT kvs)] H' ∧ σ = [some (.ref t), some (.int n), some (.ref af), some (.ref aw), some (.ref p), x, y, z]) (S1.ro haf naf)
    ⟨[], none, none, none, (fun _ z => nomatch z), Nat.le_refl _, S1, rfl⟩ (fun i σ H' _ p => by obtain ⟨_, _, _, _, _, _, S', _⟩ := p; exact S'.ro haf naf) ?_ ?_
  · rintro i x σ H' hi ⟨kvs, y1, y2, y3, h1, h2, S', rfl⟩
    rw [List.getElem?_map] at hi
    obtain ⟨fo, hz, rfl⟩ : ∃ z, fs[i]? = some z ∧ V.int z = x := by
      cases e : fs[i]? with
      | none =>
        rw [e] at hi
        cases hi
      | some z =>
        rw [e] at hi
        exact ⟨z, rfl, Option.some.inj hi⟩
    have hfm := List.mem_of_getElem? hz
    have hil := (List.getElem?_eq_some_iff.mp hz).1
    wtm_at "wp"
    refine w_forR ?_
    wtm_at "wp"
    refine w_forRk (fun j σ H' => ∃ (kvs : Tab) (y z : Option V), TabOk (LieR fs n) kvs ∧ kvs.length ≤ 16 * i + j ∧ Sep H (TwIn (some (t, r))) (some (t, r)) [(p, .dT kvs)] H' ∧ σ = [some (.ref t), some (.int n), some (.ref af), some (.ref aw), some (.ref p), some (.int fo), y, z]) n0 (by omega)
      ⟨kvs, y2, y3, h1, h2, S', rfl⟩ ?_ ?_
    · rintro j σ H2 hj ⟨kvs, z2, z3, g1, g2, S2, rfl⟩
      wtm_at "wp"
      refine ⟨t, r, 5, rfl, S2.tw, by decide, by decide, fun q H3 q0 q1 ht3 f3 => ?_⟩
      have S3 := S2.draw f3 ht3 fun _ z => z
      wtm_at "wp"
      by_cases hq : 0 < q
      · rw [decide_eq_true hq]
        refine iteT ?_
        wtm_at "wp"
        refine ⟨t, r, aw, _, rfl, S3.tw, S3.ro haw naw, naw, by simpa using hne, by rw [List.length_map]; exact hwl, fun v H4 hv ht4 f4 => ?_⟩
        have S4 := S3.draw f4 ht4 fun _ z => z
        obtain ⟨m, hm, rfl⟩ := List.mem_map.mp hv
        wtm_at "wp"
        refine ⟨t, r, 7, rfl, S4.tw, by decide, by decide, fun q2 H5 q3 q4 ht5 f5 => ?_⟩
        have S5 := S4.draw f5 ht5 fun _ z => z
        wtm_at "wp"
        refine ⟨t, r, rfl, S5.tw, fun m2 H6 m3 m4 ht6 f6 => ?_⟩
        have S6 := S5.draw f6 ht6 fun _ z => z
        wtm_at "wp"
        refine w_lstk S6 (by show 3 ≤ sizeLine; decide) fun lp H7 S7 w7 => ?_
        wtm_at "wp"
        refine ⟨t, r, lp, _, rfl, S7.tw, S7.g0, S7.off _ List.mem_cons_self, by simp, by show 3 ≤ 1000; decide, fun v H8 hv8 ht8 f8 => ?_⟩
        have S8 := S7.draw f8 ht8 fun _ z => z
        obtain ⟨u, rfl⟩ : ∃ u : Int, v = .int u := by
          simp only [List.mem_cons, List.not_mem_nil, or_false] at hv8
          rcases hv8 with rfl | rfl | rfl
          · exact ⟨_, rfl⟩
          · exact ⟨_, rfl⟩
          · exact ⟨_, rfl⟩
        wtm_at "wp"
        refine w_min2 ?_
        wtm_at "wp"
        refine w_max2 ?_
        wtm_at "wp"
        refine w_tupk S8.drop (by show 2 ≤ sizeLine; decide) fun tp H9 S9 w9 => ?_
        refine ⟨p, _, rfl, DPut.t (k := [.inl fo, .inl (j : Int)]) S9.g1 S9.g0 (small1000 (by omega)), ?_⟩
        wtm_at "wp"
        obtain ⟨c1, c2⟩ := clamp u
        refine ⟨_, _, _, g1.put (i := fo) (j := (j : Int)) ⟨hfm, by omega, by omega, c1, c2⟩, Nat.le_trans (tput_len _ _ _) (by omega), (S9.put1 w1).drop, rfl⟩
      · rw [decide_eq_false hq]
        refine iteF ?_
        wtm_at "wp"
        exact ⟨kvs, _, _, g1, by omega, S3, rfl⟩
    · rintro σ H2 ⟨kvs, z2, z3, g1, g2, S2, rfl⟩
      exact ⟨kvs, _, _, _, g1, by omega, S2, rfl⟩
  · rintro σ H' ⟨kvs, y1, y2, y3, h1, h2, S', rfl⟩
    wtm_at "wp"
    exact k p kvs H' h1 S'.tw S'.fr hp S'.g0
def spSlips : Sp := fun vs H Q _ => ∃ (t r : Addr) (n e : Int), vs = [.ref t, .int n, .int e] ∧ Town t r H ∧ 0 ≤ n ∧ n ≤ 16 ∧ 0 ≤ e ∧ e ≤ 100 ∧
  ∀ (p : Addr) (kvs : Tab) H', TabOk (ErrR e n) kvs → Town t r H' → FrW (some (t, r)) H H' → H p = none → H' p = some (.dT kvs) → Q (.ref p) H'
theorem ok_slips (D : DefB K mg "_law_slips" s__law_slips ["_law_town_here", "_law_size", "_law_wrong"]) (c__law_draw : Cal P w K mg base 1 "_law_draw" spDraw []) (c__law_pick : Cal P w K mg base 2 "_law_pick" spPick []) (T : Txt K mg Ccl Cco) : Cal P w K mg base 3 "_law_slips" spSlips [] := by
  refine D.cal sc__law_slips (by rintro vs H Q E ⟨_, _, _, _, rfl, _⟩; rfl) fun f cdv A outer s H vs Q E hr h => ?_
  obtain ⟨t, r, n, e, rfl, ht, n0, n1, e0, e1, k⟩ := h
  have hu := hu_of hr
  refine ⟨_, (pss_cons (ps_set (i := 3) sc__law_slips.nd rfl (by first | exact Or.inl rfl | exact Or.inr rfl) pe_dnewT)
      (pss_cons (ps_for PassesOwn.never rfl (pi_range1 (by rfl) T.b_range (pa_cons (pv 1) pa_nil)) (pg_name (i := 4) sc__law_slips.nd rfl (by first | exact Or.inl rfl | exact Or.inr rfl))
        (pss_one (ps_for PassesOwn.never rfl (pi_range1 (by rfl) T.b_range (pa_cons (pv 1) pa_nil)) (pg_name (i := 5) sc__law_slips.nd rfl (by first | exact Or.inl rfl | exact Or.inr rfl))
          (pss_one (ps_if (PW.pt (pw_and (pt_cmpR op_ne (pv 4) (pv 5) (nomark _)) (pw_and1 (pt_cmpR op_eq (C8.pe_c c__law_draw hr (by decide) (by rfl) (pa_cons (pv 0) (pa_cons pe_int pa_nil))) pe_int (nomark _)))))
            (pss_one (ps_dput hu (pv 3) (pe_tup (pa_cons (pv 4) (pa_cons (pv 5) pa_nil))) (C8.pe_c c__law_pick hr (by decide) (by rfl) (pa_cons (pv 0) (pa_cons (pe_lst (pa_cons (pv 2) (pa_cons (pe_op op_sub pe_int (pv 2)) (pa_cons (pe_op op_sub (C8.pe_c c__law_draw hr (by decide) (by rfl) (pa_cons (pv 0) (pa_cons (pe_op op_add (pe_op op_mul pe_int (pv 2)) pe_int) pa_nil))) (pv 2)) pa_nil)))) pa_nil))) rfl))
            pss_nil)))))
      (pss_one (ps_ret (pv 3))))), ?_⟩
  have S : Sep H (TwIn (some (t, r))) (some (t, r)) [] H := Sep.start ht
  wtm_at "wp"
  refine w_dnewT S fun p H1 S1 w1 => ?_
  have hp : H p = none := by
    rcases w1 with z | z
    · exact z
    · exact absurd z (S1.off _ List.mem_cons_self)
  wtm_at "wp"
  refine w_forR ?_
  wtm_at "wp"
  refine w_forRk (fun i σ H' => ∃ (kvs : Tab) (x y : Option V), TabOk (ErrR e n) kvs ∧ kvs.length ≤ 16 * i ∧ Sep H (TwIn (some (t, r))) (some (t, r)) [(p, .dT kvs)] H' ∧ σ = [some (.ref t), some (.int n), some (.int e), some (.ref p), x, y]) n0 (by omega)
    ⟨[], none, none, (fun _ z => nomatch z), Nat.le_refl _, S1, rfl⟩ ?_ ?_
  · rintro i σ H' hi ⟨kvs, y1, y2, h1, h2, S', rfl⟩
    wtm_at "wp"
    refine w_forR ?_
    wtm_at "wp"
    refine w_forRk (fun j σ H' => ∃ (kvs : Tab) (y : Option V), TabOk (ErrR e n) kvs ∧ kvs.length ≤ 16 * i + j ∧ Sep H (TwIn (some (t, r))) (some (t, r)) [(p, .dT kvs)] H' ∧ σ = [some (.ref t), some (.int n), some (.int e), some (.ref p), some (.int (i : Int)), y]) n0 (by omega)
      ⟨kvs, y2, h1, h2, S', rfl⟩ ?_ ?_
    · rintro j σ H2 hj ⟨kvs, z2, g1, g2, S2, rfl⟩
      wtm_at "wp"
      by_cases hij : (i : Int) = (j : Int)
      · rw [decide_eq_true hij]
        refine iteF ?_
        wtm_at "wp"
        refine iteF ?_
        wtm_at "wp"
        exact ⟨kvs, _, g1, by omega, S2, rfl⟩
      rw [decide_eq_false hij]
      refine iteT ?_
      wtm_at "wp"
      refine ⟨t, r, 2, rfl, S2.tw, by decide, by decide, fun q H3 q0 q1 ht3 f3 => ?_⟩
      have S3 := S2.draw f3 ht3 fun _ z => z
      wtm_at "wp"
      by_cases hq : q = 0
      · rw [decide_eq_true hq]
        refine iteT ?_
        wtm_at "wp"
        refine w_I (.inl ⟨by decide, by decide⟩) ?_
        wtm_at "wp"
        refine ⟨t, r, 2 * e + 1, rfl, S3.tw, by omega, by omega, fun q2 H5 q3 q4 ht5 f5 => ?_⟩
        have S5 := S3.draw f5 ht5 fun _ z => z
        wtm_at "wp"
        refine w_lstk S5 (by show 3 ≤ sizeLine; decide) fun lp H7 S7 w7 => ?_
        wtm_at "wp"
        refine ⟨t, r, lp, _, rfl, S7.tw, S7.g0, S7.off _ List.mem_cons_self, by simp, by show 3 ≤ 1000; decide, fun v H8 hv8 ht8 f8 => ?_⟩
        have S8 := S7.draw f8 ht8 fun _ z => z
        obtain ⟨u, rfl, u0, u1⟩ : ∃ u : Int, v = .int u ∧ -e ≤ u ∧ u ≤ e := by
          simp only [List.mem_cons, List.not_mem_nil, or_false] at hv8
          rcases hv8 with rfl | rfl | rfl
          · exact ⟨_, rfl, by omega, by omega⟩
          · exact ⟨_, rfl, by omega, by omega⟩
          · exact ⟨_, rfl, by omega, by omega⟩
        wtm_at "wp"
        refine w_tupk S8.drop (by show 2 ≤ sizeLine; decide) fun tp H9 S9 w9 => ?_
        refine ⟨p, _, rfl, DPut.t (k := [.inl (i : Int), .inl (j : Int)]) S9.g1 S9.g0 (small1000 (by omega)), ?_⟩
        wtm_at "wp"
        refine ⟨_, _, g1.put (i := (i : Int)) (j := (j : Int)) ⟨hij, by omega, by omega, by omega, by omega, u0, u1⟩, Nat.le_trans (tput_len _ _ _) (by omega), (S9.put1 w1).drop, rfl⟩
      · rw [decide_eq_false hq]
        refine iteF ?_
        wtm_at "wp"
        exact ⟨kvs, _, g1, by omega, S3, rfl⟩
    · rintro σ H2 ⟨kvs, z2, g1, g2, S2, rfl⟩
      exact ⟨kvs, _, _, g1, by omega, S2, rfl⟩
  · rintro σ H' ⟨kvs, y1, y2, h1, h2, S', rfl⟩
    wtm_at "wp"
    exact k p kvs H' h1 S'.tw S'.fr hp S'.g0
end
end LK
set_option Elab.async false
set_option linter.all false
set_option maxRecDepth 100000
set_option maxHeartbeats 4000000
set_option autoImplicit false

/-! The law's company; who leaves. -/
namespace LK
open PySem PySem.Spec L2
open C8 (Cal Met Mak)
section
variable {P : Program} {w : World} {K : PySem.W.Frag} {mg : Str → Option Value} {base : Heap} {Ccl Cco : Addr}
theorem cks_of {C : Addr} {os : List (Addr × Addr)} {ks : List Ck} {H : Hp} (hl : os.length = ks.length) (h : ∀ q ∈ ckl C os ks, H q.1 = some q.2) : CksAt C os ks H := ⟨hl, fun i p k e e' => h _ (ckl_mem e e')⟩
/-- what the company's maker hands back -/
def LawCo (CC CO : Addr) (H : Hp) (t r : Addr) (few : Nat) (crew err wait : Int) (tu lc lf lw : Addr) (os : List (Addr × Addr)) (c : Co) (H' : Hp) : Prop :=
  Sep H (TwIn (some (t, r))) (some (t, r)) ((tu, .tup [.ref c.co, .ref lc, .ref lf, .ref lw]) :: (c.kl CC CO ++ ((lf, .lst (c.foes.map V.int)) :: (lw, .lst (c.waits.map V.int)) :: (lc, .lst (os.map fun p => V.ref p.1)) :: ckl CC os c.ks))) H' ∧
  c.Ok ∧ os.length = c.ks.length ∧ c.few = few ∧ c.err = err ∧ (c.ks.length : Int) = crew + wait ∧ c.waits = rg crew (crew + wait) ∧ c.last = 0 ∧ c.steps = []
def spLawCompany (CC CO : Addr) : Sp := fun vs H Q _ => ∃ (t r : Addr) (few : Nat) (crew err wait : Int), vs = [.ref t, .int (few : Int), .int crew, .int err, .int wait] ∧ Town t r H ∧ few ≤ 5 ∧ 2 * (few : Int) < crew ∧ 1 ≤ wait ∧ crew + wait ≤ 16 ∧ 0 ≤ err ∧ err ≤ 100 ∧
  ∀ (tu lc lf lw : Addr) (os : List (Addr × Addr)) (c : Co) H', LawCo CC CO H t r few crew err wait tu lc lf lw os c H' → Q (.ref tu) H'
theorem ok_law_company (D : DefB K mg "_law_company" s__law_company ["_law_town_here", "_law_some", "_law_crew", "_law_wrong", "_law_wait"]) (c__law_draw : Cal P w K mg base 1 "_law_draw" spDraw []) (c__law_liars : Cal P w K mg base 2 "_law_liars" spLiars []) (c_Clock : MakN P w K mg base 2 "Clock" Ccl 0 ["first", "rate"] (spClockInit Ccl))
    (c_Company : MakN P w K mg base 5 "Company" Cco 1 ["few", "error", "liars", "waiting"] (spCompanyInit Ccl Cco)) (T : Txt K mg Ccl Cco) : Cal P w K mg base 7 "_law_company" (spLawCompany Ccl Cco) [] := by
  refine D.cal sc__law_company (by rintro vs H Q E ⟨_, _, _, _, _, _, rfl, _⟩; rfl) fun f cdv A outer s H vs Q E hr h => ?_
  obtain ⟨t, r, few, crew, err, wait, rfl, ht, few5, hcrew, w1, h16, e0, e1, k⟩ := h
  refine ⟨_, (pss_cons (ps_set (i := 5) sc__law_company.nd rfl (by first | exact Or.inl rfl | exact Or.inr rfl) (pe_op op_add (pv 2) (pv 4)))
      (pss_cons (ps_setLc (i := 6) (own := [("_law_k", 10)]) (g := gName 10) (by rfl) sc__law_company.nd rfl rfl (sw_true rfl rfl rfl (by decide +kernel)) (pi_range1 (by rfl) T.b_range (pa_cons (pv 5) pa_nil)) (blkOk_by (own := [("_law_k", 10)]) (N := ["_law_town_here", "_law_some", "_law_crew", "_law_wrong", "_law_wait", "_law_size", "_law_clocks", "_law_waits", "_law_foes", "_law_company_here", "_law_k"]) (sc := C8.fnScope s__law_company) (by decide +kernel)) (fun _ _ _ _ _ => pg_name (i := 10) sc__law_company.nd rfl (Or.inl rfl)) (fun _ _ _ _ _ => pts_nil) (fun _ _ _ _ _ => (LK.pe_mkN0 c_Clock hr (by decide) (by rfl) (pk_cons (pe_op op_sub (C8.pe_c c__law_draw hr (by decide) (by rfl) (pa_cons (pv 0) (pa_cons pe_int pa_nil))) pe_int) (pk_cons (pe_op op_sub (C8.pe_c c__law_draw hr (by decide) (by rfl) (pa_cons (pv 0) (pa_cons pe_int pa_nil))) pe_int) pk_nil)))))
      (pss_cons (ps_set (i := 7) sc__law_company.nd rfl (by first | exact Or.inl rfl | exact Or.inr rfl) (pe_listRg (by rfl) (by rfl) T.b_list (prg_2 (by rfl) T.b_range (pv 2) (pv 5))))
      (pss_cons (ps_set (i := 8) sc__law_company.nd rfl (by first | exact Or.inl rfl | exact Or.inr rfl) (C8.pe_c c__law_liars hr (by decide) (by rfl) (pa_cons (pv 0) (pa_cons (pv 2) (pa_cons (pv 1) pa_nil)))))
      (pss_cons (ps_set (i := 9) sc__law_company.nd rfl (by first | exact Or.inl rfl | exact Or.inr rfl) (LK.pe_mkN c_Company hr (by decide) (by rfl) (pa_cons (pv 6) pa_nil) (pk_cons (pv 1) (pk_cons (pv 3) (pk_cons (pv 8) (pk_cons (pv 7) pk_nil))))))
      (pss_one (ps_ret (pe_tup (pa_cons (pv 9) (pa_cons (pv 6) (pa_cons (pv 8) (pa_cons (pv 7) pa_nil)))))))))))), ?_⟩
  have S : Sep H (TwIn (some (t, r))) (some (t, r)) [] H := Sep.start ht
  wtm_at "wp"
  refine w_lcR ?_
  wtm_at "wp"
  refine ⟨crew + wait, rfl, by omega, by omega, fun D hD => ?_⟩
  have wD := S.own hD
  refine lc_range (lo := 0) (n := (crew + wait).toNat) (fun i H' => ∃ (os : List (Addr × Addr)) (ks : List Ck), os.length = i ∧ ks.length = i ∧ (∀ k ∈ ks, CkR k) ∧ Sep H (TwIn (some (t, r))) (some (t, r)) ((D, .lst (os.map fun p => V.ref p.1)) :: ckl Ccl os ks) H') ⟨[], [], rfl, rfl, (fun _ z => nomatch z), S.new hD⟩ ?_ ?_
  · rintro i H' hi ⟨os, ks, hos, hks, hR, S'⟩
    refine ⟨rfl, ?_⟩
    wtm_at "wp"
    refine iteT ?_
    refine w_makeK ?_
    wtm_at "wp"
    refine ⟨t, r, 4001, rfl, S'.tw, by decide, by decide, fun a H2 a0 a1 ht2 f2 => ?_⟩
    have S2 := S'.draw f2 ht2 fun _ z => z
    wtm_at "wp"
    refine ⟨t, r, 41, rfl, S2.tw, by decide, by decide, fun b H3 b0 b1 ht3 f3 => ?_⟩
    have S3 := S2.draw f3 ht3 fun _ z => z
    wtm_at "wp"
    refine w_clock S3 (by omega) (by omega) (by omega) (by omega) fun y dy H4 S4 hy wy => ?_
    have S5 := S4.put1 (o' := .lst ((os.map fun p => V.ref p.1) ++ [V.ref y])) wD
    refine ⟨_, S4.g1, small1000 (by rw [List.length_map]; omega), os ++ [(y, dy)], ks ++ [(a - 2000, b - 20, 0)], by rw [List.length_append, hos]; rfl, by rw [List.length_append, hks]; rfl, fun q hq => ?_, ?_⟩
    · rcases List.mem_append.mp hq with z | z
      · exact hR q z
      · cases List.mem_singleton.mp z
        exact ⟨by show -1000000 ≤ a - 2000; omega, by show a - 2000 ≤ 1000000; omega, by show -100 ≤ b - 20; omega, by show b - 20 ≤ 100; omega⟩
    · rw [ckl_snoc (by omega), List.map_append]
      exact S5.perm (List.perm_append_singleton (y, _) (_ :: ckl Ccl os ks))
  rintro H1 ⟨os, ks, hos, hks, hR, S1⟩
  wtm_at "wp"
  refine w_rg2 ?_
  wtm_at "wp"
  refine w_rgk S1 (RgOk.of_le (by omega) (by omega) (by omega) (by omega)) fun lw H2 S2 w2 => ?_
  wtm_at "wp"
  refine ⟨t, r, crew, (few : Int), rfl, S2.tw, by omega, by omega, by omega, fun lf foes H3 g1 g2 g3 ht3 f3 n3 h3 => ?_⟩
  have S3 := S2.cons n3 f3 ht3 (fun _ z => z) h3
  wtm_at "wp"
  refine w_makeK ?_
  wtm_at "wp"
  refine ⟨rfl, rfl, fun x dx hx hd hn => ?_⟩
  have S4 := S3.made (C := Cco) hx hd hn
  have wx := S3.own hx
  have hk : (ks.length : Int) = crew + wait := by omega
  refine ⟨x, dx, D, lf, lw, os, ks, few, err, foes, rg crew (crew + wait), rfl, S4.g0, S4.g3, cks_of (by omega) (fun q hq => S4.kn q (List.mem_cons_of_mem _ (List.mem_cons_of_mem _ (List.mem_cons_of_mem _ (List.mem_cons_of_mem _ hq))))), S4.g1, S4.g2, hR, by omega, by omega, few5, e0, e1,
    (fun z hz => by have := g2 z hz; omega), g1, by omega, (fun z hz => by have := (rg_mem (by omega)).mp hz; omega), rg_rise _ _, (fun z hz hz2 => by
      have h1 := g2 z hz
      have h2 := (rg_mem (by omega)).mp hz2
      omega), by rw [rg_len]; omega, fun c H5 c1 c2 c3 c4 c5 c6 c7 c8 c9 c10 c10s c11 c12 => ⟨rfl, ?_⟩⟩
  have S5 : Sep H (TwIn (some (t, r))) (some (t, r)) (c.kl Ccl Cco ++ _) H5 := Sep.call (L0 := [(x, .ins Cco dx [])]) S4 (fun q hq => by
      cases List.mem_singleton.mp hq
      exact wx) c3 (fun q hq => by
      rcases c11 q hq with z | z
      · exact .inl (List.mem_singleton.mpr z)
      · exact .inr z) c2 (fun b o e m => c12 b o e fun z => m (List.mem_singleton.mpr z))
  wtm_at "wp"
  refine w_tupk S5 (by show 4 ≤ sizeLine; decide) fun tu H6 S6 w6 => ?_
  rw [← c8, ← c9, ← c5, ← c1] at S6
  refine k tu D lf lw os c H6 ⟨S6, c4, by rw [c5]; omega, c6, c7, by rw [c5]; exact hk, c9, c10, c10s⟩
/-- nothing is asked of what stood ahead -/
abbrev B0 : Hp := fun _ => none
theorem Sep.zero {B : Hp} {M : Addr → Prop} {W : TW} {L : KL} {H : Hp} (S : Sep B M W L H) : Sep B0 (TwIn W) W L H := ⟨S.nd, S.kn, S.off, S.tw, fun _ _ z => nomatch z⟩
theorem own0 {M : Addr → Prop} {p : Addr} : Own B0 M p := .inl rfl
def spLawLeft (CC CO : Addr) : Sp := fun vs H Q _ => ∃ (t r ai lf lw : Addr) (c : Co) (ins ws : List Int) (R : KL), vs = [.ref t, .ref c.co, .ref ai, .ref lf, .ref lw, .int (c.few : Int)] ∧
  Sep B0 (TwIn (some (t, r))) (some (t, r)) ((ai, .lst (ins.map V.int)) :: (lw, .lst (ws.map V.int)) :: (lf, .lst (c.foes.map V.int)) :: (c.kl CC CO ++ R)) H ∧ c.Ok ∧ ins = mem c.ks.length c.waits ∧ ws.length ≤ 100 ∧
  ∀ (c' : Co) (ins' ws' : List Int) H', Sep B0 (TwIn (some (t, r))) (some (t, r)) ((ai, .lst (ins'.map V.int)) :: (lw, .lst (ws'.map V.int)) :: (lf, .lst (c.foes.map V.int)) :: (c'.kl CC CO ++ R)) H' →
    ((c' = c ∧ ins' = ins ∧ ws' = ws) ∨ ∃ (h : Int) (q : Addr), h ∈ ins ∧ h ∉ c.foes ∧ c' = { c with wl := q, waits := srt (c.waits ++ [h]) } ∧ ins' = ins.erase h ∧ ws' = ws ++ [h]) → c'.Ok → Q .non H'
theorem co_in {CC CO : Addr} {c : Co} {R : KL} {B : Hp} {M : Addr → Prop} {W : TW} {H : Hp} (S : Sep B M W (c.kl CC CO ++ R) H) : CoAt c CC CO H := fun p hp => S.kn p (List.mem_append_left _ hp)
theorem len_sub : ∀ {l m : List Int}, l.Nodup → (∀ x ∈ l, x ∈ m) → l.length ≤ m.length
  | [], _, _, _ => Nat.zero_le _
  | a :: r, m, h, hs => by
    obtain ⟨h1, h2⟩ := List.nodup_cons.mp h
    have ha := hs a List.mem_cons_self
    have ih := len_sub (m := m.erase a) h2 fun x hx => by
      have hne : x ≠ a := fun e => h1 (e ▸ hx)
      exact (List.mem_erase_of_ne hne).mpr (hs x (List.mem_cons_of_mem _ hx))
    rw [List.length_erase_of_mem ha] at ih
    have hp := List.length_pos_of_mem ha
    rw [List.length_cons]
    omega
theorem split_len : ∀ (l : List Int) (p : Int → Bool), l.length = (l.filter p).length + (l.filter fun x => !p x).length
  | [], _ => rfl
  | a :: r, p => by
    have ih := split_len r p
    cases e : p a with
    | true =>
      rw [List.filter_cons_of_pos e, List.filter_cons_of_neg (by simp [e]), List.length_cons, List.length_cons]
      omega
    | false =>
      rw [List.filter_cons_of_neg (by simp [e]), List.filter_cons_of_pos (by simp [e]), List.length_cons, List.length_cons]
      omega
theorem Co.Ok.hon_pos {c : Co} (o : c.Ok) : c.few < (hon c.ks.length c.waits c.foes).length := by
  have h1 := split_len (mem c.ks.length c.waits) fun k => decide (k ∈ c.foes)
  have h2 : ((mem c.ks.length c.waits).filter fun k => decide (k ∈ c.foes)).length ≤ c.foes.length := by
    refine len_sub ?_ fun x hx => of_decide_eq_true (List.mem_filter.mp hx).2
    exact ((mem_rise c.ks.length c.waits).imp fun {a b} z => Int.ne_of_lt z).filter _
  have h3 := o.enough
  have h4 := o.foesN
  unfold hon
  omega
theorem ok_law_left (D : DefB K mg "_law_left" s__law_left ["_law_town_here", "_law_company_here", "_law_inside", "_law_foes", "_law_waits", "_law_some"]) (c__law_pick : Cal P w K mg base 2 "_law_pick" spPick []) (c_Company_leave : Met P w K mg base 3 Cco "leave" (spLeave Ccl Cco) []) (T : Txt K mg Ccl Cco) :
    Cal P w K mg base 4 "_law_left" (spLawLeft Ccl Cco) [] := by
  refine D.cal sc__law_left (by rintro vs H Q E ⟨_, _, _, _, _, _, _, _, _, rfl, _⟩; rfl) fun f cdv A outer s H vs Q E hr h => ?_
  obtain ⟨t, r, ai, lf, lw, c, ins, ws, R, rfl, S, o, hins, hws, k⟩ := h
  refine ⟨_, (pss_cons (ps_set (i := 6) sc__law_left.nd rfl (by first | exact Or.inl rfl | exact Or.inr rfl) (C8.pe_c c__law_pick hr (by decide) (by rfl) (pa_cons (pv 0) (pa_cons (pe_lc (own := [("_law_one", 7)]) (g := gName 7) (by rfl) sc__law_left.nd (LK.kpil (K := K) (by rfl) (pv 2)) (blkOk_by (own := [("_law_one", 7)]) (N := ["_law_town_here", "_law_company_here", "_law_inside", "_law_foes", "_law_waits", "_law_some", "_law_house", "_law_one"]) (sc := C8.fnScope s__law_left) (by decide +kernel)) (fun _ _ _ _ _ => pg_name (i := 7) sc__law_left.nd rfl (Or.inl rfl)) (fun _ _ _ _ _ => (pts_one (pt_cmpR (LK.knin (K := K) (by rfl)) (pv 7) (pv 3) (by rfl)))) (fun _ _ _ _ _ => (pv 7))) pa_nil))))
      (pss_one (ps_if (pt_cmpR op_gt (pe_op op_sub (pe_callB (LK.klen (K := K) (by rfl)) (by rfl) T.b_len (by decide +kernel) (pa_cons (pv 2) pa_nil)) pe_int) (pe_op op_mul pe_int (pv 5)) (nomark _))
        (pss_cons (ps_expr (C8.pe_mt c_Company_leave hr (by decide) (pv 1) (pa_cons (pv 6) pa_nil)))
        (pss_cons (ps_expr (LK.kbm (K := K) (by rfl) PySem.F.plainAttrs_list PySem.F.slot_list_remove PySem.F.type_list_remove mt_remove (pv 2) (pa_cons (pv 6) pa_nil)))
        (pss_one (ps_expr (LK.kbm (K := K) (by rfl) PySem.F.plainAttrs_list PySem.F.slot_list_append PySem.F.type_list_append mt_append (pv 4) (pa_cons (pv 6) pa_nil))))))
        pss_nil))), ?_⟩
  have ml := mem_len (n := c.ks.length) (ws := c.waits)
  have o16 := o.n16
  wtm_at "wp"
  refine w_lcL ?_
  wtm_at "wp"
  refine w_lcLk (fun x => !decide (viv x ∈ c.foes)) (fun x => x) S (by rw [List.length_map, hins]; omega) (fun _ => rfl) S.g0 (fun D acc H' S' => S'.g1) (fun x hx D acc H' S' Q' q => ?_) (fun x hx _ D acc H' S' Q' q => ?_) fun hl H1 S1 w1 => ?_
  · obtain ⟨z, hz, rfl⟩ := List.mem_map.mp hx
    wtm_at "wp"
    refine w_niI S'.g3 ?_
    wtm_at "wp"
    exact q _ S'
  · wtm_at "wp"
    exact q _ S'
  rw [List.map_id', filter_int _ (fun k => !decide (k ∈ c.foes)) _ fun _ => rfl] at S1
  wtm_at "wp"
  have hh : ins.filter (fun k => !decide (k ∈ c.foes)) = hon c.ks.length c.waits c.foes := by
    rw [hins]
    rfl
  have hp := o.hon_pos
  have hlen := hon_len (n := c.ks.length) (ws := c.waits) (fs := c.foes)
  rw [hh] at S1
  refine ⟨t, r, hl, _, rfl, S1.tw, S1.g0, S1.off _ List.mem_cons_self, ?_, by rw [List.length_map]; omega, fun v H2 hv ht2 f2 => ?_⟩
  · intro z
    have hz := congrArg List.length z
    rw [List.length_map] at hz
    simp only [List.length_nil] at hz
    omega
  have S2 := (S1.draw f2 ht2 fun _ z => z).drop
  obtain ⟨h, hm, rfl⟩ := List.mem_map.mp hv
  obtain ⟨h0, h1, h2, h3⟩ := hon_iff.mp hm
  have hmi : h ∈ ins := by
    rw [hins]
    exact mem_iff.mpr ⟨h0, h1, h2⟩
  wtm_at "wp"
  refine w_len S2.g0 ?_
  wtm_at "wp"
  refine w_I (.inl ⟨by decide, by decide⟩) ?_
  wtm_at "wp"
  rw [List.length_map]
  by_cases hc : 2 * (c.few : Int) < (ins.length : Int) - 1
  · rw [decide_eq_true hc]
    refine iteT ?_
    have hco : CoAt c Ccl Cco H2 := co_in S2.drop.drop.drop
    wtm_at "wp"
    refine w_methk hco.obj co_m_leave ?_
    wtm_at "wp"
    refine ⟨c, h, rfl, hco, (Sep.left S2.drop.drop.drop).nd, o, h0, h1, h3, h2, by rw [← hins]; omega, fun c' H3 e1 e2 e3 e4 e5 => ?_⟩
    obtain ⟨q, hq, rfl⟩ := e1
    have S3 := Sep.callM (Lp := [_, _, _]) (L2 := Co.kl { c with wl := q, waits := srt (c.waits ++ [h]) } Ccl Cco) S2 (fun _ _ => own0) e4 (fun p hp => ?_) e3 e5
    · wtm_at "wp"
      refine w_BMl S3.g0 ?_
      wtm_at "wp"
      obtain ⟨j, j1, j2, j3⟩ := erase_at hmi
      refine ⟨ai, ins, h, j, rfl, rfl, S3.g0, j1, j2, ?_⟩
      rw [j3]
      have S4 := Sep.put0 (o' := .lst ((ins.erase h).map V.int)) S3 own0
      wtm_at "wp"
      refine w_BMl S4.g1 ?_
      wtm_at "wp"
      refine w_append S4.g1 (small1000 (by rw [List.length_map]; omega)) ?_
      rw [show ws.map V.int ++ [V.int h] = (ws ++ [h]).map V.int by rw [List.map_append]; rfl]
      have S5 := Sep.put1 (o' := .lst ((ws ++ [h]).map V.int)) S4 own0
      exact k _ _ _ _ S5 (.inr ⟨h, q, hmi, h3, rfl, rfl, rfl⟩) e2
    · rcases List.mem_cons.mp hp with rfl | hp
      · exact .inl List.mem_cons_self
      rcases List.mem_cons.mp hp with rfl | hp
      · exact .inl (List.mem_cons_of_mem _ List.mem_cons_self)
      rcases List.mem_cons.mp hp with rfl | hp
      · exact .inl (List.mem_cons_of_mem _ (List.mem_cons_of_mem _ List.mem_cons_self))
      rcases List.mem_cons.mp hp with rfl | hp
      · exact .inr hq
      · exact .inl (List.mem_map_of_mem (f := (·.1)) (List.mem_cons_of_mem _ (List.mem_cons_of_mem _ (List.mem_cons_of_mem _ (List.mem_cons_of_mem _ hp)))))
  · rw [decide_eq_false hc]
    refine iteF ?_
    wtm_at "wp"
    exact k c ins ws H2 S2 (.inl ⟨rfl, rfl, rfl⟩) o
end
end LK
set_option Elab.async false
set_option linter.all false
set_option maxRecDepth 100000
set_option maxHeartbeats 4000000
set_option autoImplicit false
/-! The plain law: the middle lies between; what the law keeps from turn to turn. -/
namespace LK
open PySem PySem.Spec L2
open C8 (Cal Met Mak)
theorem rise_lo {s : List Int} {lo x : Int} {i : Nat} (h : s.Pairwise (· ≤ ·)) (hi : s[i]? = some x) (hx : x < lo) : i + 1 ≤ (s.filter fun y => decide (y < lo)).length := by
  obtain ⟨hl, he⟩ := List.getElem?_eq_some_iff.mp hi
  have h1 : ((s.take (i + 1)).filter fun y => decide (y < lo)).length ≤ (s.filter fun y => decide (y < lo)).length := ((List.take_sublist (i + 1) s).filter _).length_le
  have h2 : (s.take (i + 1)).filter (fun y => decide (y < lo)) = s.take (i + 1) := by
    refine List.filter_eq_self.mpr fun y hy => decide_eq_true ?_
    obtain ⟨j, hj, e⟩ := List.mem_iff_getElem.mp hy
    rw [List.length_take] at hj
    rw [List.getElem_take] at e
    by_cases hji : j = i
    · subst hji
      omega
    · have := List.pairwise_iff_getElem.mp h j i (by omega) hl (by omega)
      omega
  rw [h2, List.length_take] at h1
  omega
theorem rise_hi {s : List Int} {hi x : Int} {i : Nat} (h : s.Pairwise (· ≤ ·)) (he' : s[i]? = some x) (hx : hi < x) : s.length - i ≤ (s.filter fun y => decide (hi < y)).length := by
  obtain ⟨hl, he⟩ := List.getElem?_eq_some_iff.mp he'
  have h1 : ((s.drop i).filter fun y => decide (hi < y)).length ≤ (s.filter fun y => decide (hi < y)).length := ((List.drop_sublist i s).filter _).length_le
  have h2 : (s.drop i).filter (fun y => decide (hi < y)) = s.drop i := by
    refine List.filter_eq_self.mpr fun y hy => decide_eq_true ?_
    obtain ⟨j, hj, e⟩ := List.mem_iff_getElem.mp hy
    rw [List.length_drop] at hj
    rw [List.getElem_drop] at e
    by_cases hji : j = 0
    · subst hji
      simp only [Nat.add_zero] at e
      omega
    · have := List.pairwise_iff_getElem.mp h i (i + j) hl (by omega) (by omega)
      omega
  rw [h2, List.length_drop] at h1
  exact h1
theorem mid_two {ns : List Int} {k : Nat} (h2 : 2 * k < ns.length) : ∃ x y : Int, mid ns k = (x + y) / 2 ∧ (srt ns)[k]? = some x ∧ (srt ns)[ns.length - 1 - k]? = some y := by
  have hl := srt_len ns
  have e1 : (srt ns)[k]? = some ((srt ns)[k]'(by omega)) := List.getElem?_eq_getElem (by omega)
  have e2 : (srt ns)[ns.length - 1 - k]? = some ((srt ns)[ns.length - 1 - k]'(by omega)) := List.getElem?_eq_getElem (by omega)
  refine ⟨_, _, ?_, e1, e2⟩
  unfold mid
  rw [e1, e2]
  rfl
theorem mid_lo {ns : List Int} {k : Nat} {lo : Int} (h2 : 2 * k < ns.length) (hlo : (ns.filter fun x => decide (x < lo)).length ≤ k) : lo ≤ mid ns k := by
  have hl := srt_len ns
  have p1 : ((srt ns).filter fun x => decide (x < lo)).length ≤ k := by
    rw [((srt_perm ns).filter _).length_eq]
    exact hlo
  obtain ⟨x, y, e, e1, e2⟩ := mid_two h2
  have hx : lo ≤ x := Int.not_lt.mp fun z => by
    have := rise_lo (srt_rise ns) e1 z
    omega
  have hy : lo ≤ y := Int.not_lt.mp fun z => by
    have := rise_lo (srt_rise ns) e2 z
    omega
  rw [e]
  omega
theorem mid_hi {ns : List Int} {k : Nat} {hi : Int} (h2 : 2 * k < ns.length) (hhi : (ns.filter fun x => decide (hi < x)).length ≤ k) : mid ns k ≤ hi := by
  have hl := srt_len ns
  have p2 : ((srt ns).filter fun x => decide (hi < x)).length ≤ k := by
    rw [((srt_perm ns).filter _).length_eq]
    exact hhi
  obtain ⟨x, y, e, e1, e2⟩ := mid_two h2
  have hx : x ≤ hi := Int.not_lt.mp fun z => by
    have := rise_hi (srt_rise ns) e1 z
    omega
  have hy : y ≤ hi := Int.not_lt.mp fun z => by
    have := rise_hi (srt_rise ns) e2 z
    omega
  rw [e]
  omega
theorem mem_nd (n : Nat) (ws : List Int) : (mem n ws).Nodup := (mem_rise n ws).imp fun {a b} z => Int.ne_of_lt z
theorem sees_bad {c : Co} (o : c.Ok) {tl te : Tab} {h b : Int} (p : Int → Bool) (hp : ∀ k ∈ hon c.ks.length c.waits c.foes, p (see1 c.ks c.foes tl te h b k) = false) : ((sees c tl te h b).filter p).length ≤ c.few := by
  unfold sees
  rw [List.filter_map, List.length_map]
  refine Nat.le_trans (len_sub ((mem_nd _ _).filter _) fun x hx => ?_) o.foesN
  obtain ⟨h1, h2⟩ := List.mem_filter.mp hx
  obtain ⟨m1, m2, m3⟩ := mem_iff.mp h1
  by_cases hf : x ∈ c.foes
  · exact hf
  · have := hp x (hon_iff.mpr ⟨m1, m2, m3, hf⟩)
    have h2' : p (see1 c.ks c.foes tl te h b x) = true := h2
    rw [this] at h2'
    cases h2'
theorem due_lo {c : Co} (o : c.Ok) {tl te : Tab} {h b m1 : Int} (t2 : TabOk (ErrR c.err c.ks.length) te) (h1 : ∀ y ∈ (hon c.ks.length c.waits c.foes).map fun k => rd c.ks k b, m1 ≤ y) : m1 - c.err ≤ mid (sees c tl te h b) c.few := by
  have e0 := o.err0
  refine mid_lo (by rw [sees_len]; exact o.enough) (sees_bad o _ fun k hk => decide_eq_false ?_)
  obtain ⟨_, _, _, hf⟩ := hon_iff.mp hk
  have a1 : m1 ≤ rd c.ks k b := h1 _ (List.mem_map_of_mem (f := fun k => rd c.ks k b) hk)
  rw [show see1 c.ks c.foes tl te h b k = rd c.ks k b + lkp te k h 0 from if_neg hf]
  rcases t2.has k h 0 with z | ⟨_, _, _, _, _, z1, z2⟩
  · rw [z]
    omega
  · omega
theorem due_hi {c : Co} (o : c.Ok) {tl te : Tab} {h b m2 : Int} (t2 : TabOk (ErrR c.err c.ks.length) te) (h2 : ∀ y ∈ (hon c.ks.length c.waits c.foes).map fun k => rd c.ks k b, y ≤ m2) : mid (sees c tl te h b) c.few ≤ m2 + c.err := by
  have e0 := o.err0
  refine mid_hi (by rw [sees_len]; exact o.enough) (sees_bad o _ fun k hk => decide_eq_false ?_)
  obtain ⟨_, _, _, hf⟩ := hon_iff.mp hk
  have a2 : rd c.ks k b ≤ m2 := h2 _ (List.mem_map_of_mem (f := fun k => rd c.ks k b) hk)
  rw [show see1 c.ks c.foes tl te h b k = rd c.ks k b + lkp te k h 0 from if_neg hf]
  rcases t2.has k h 0 with z | ⟨_, _, _, _, _, z1, z2⟩
  · rw [z]
    omega
  · omega
theorem get_range {n i : Nat} {f : Nat → Int} (h : i < n) : ((List.range n).map f)[i]? = some (f i) := by
  rw [List.getElem?_map, List.getElem?_range h]
  rfl
theorem shn_rd {c : Co} {b k : Int} (h0 : 0 ≤ k) (h1 : k < (c.ks.length : Int)) : shn ((List.range c.ks.length).map fun (i : Nat) => rd c.ks (i : Int) b) k = rd c.ks k b := by
  unfold shn
  rw [get_range (by omega), Int.toNat_of_nonneg h0]
  rfl
theorem law_sees {c : Co} {tl te : Tab} {h b : Int} : (mem c.ks.length c.waits).map (law1 ((List.range c.ks.length).map fun (i : Nat) => rd c.ks (i : Int) b) c.foes tl te h) = sees c tl te h b := by
  unfold sees
  refine List.map_congr_left fun k hk => ?_
  obtain ⟨h0, h1, _⟩ := mem_iff.mp hk
  unfold law1 see1
  rw [shn_rd h0 h1]
theorem ins_enter {n : Nat} {ws : List Int} {h : Int} (hn : ws.Nodup) (h0 : 0 ≤ h) (h1 : h < (n : Int)) (hw : h ∈ ws) : srt (mem n ws ++ [h]) = mem n (ws.erase h) := by
  have nd : (mem n ws ++ [h]).Nodup := nd_snoc (mem_nd _ _) fun z => (mem_iff.mp z).2.2 hw
  refine rise_eq (lt_of_le_nodup _ (srt_rise _) ((srt_perm _).nodup_iff.mpr nd)) (mem_rise _ _) fun k => ?_
  rw [(srt_perm _).mem_iff, List.mem_append, List.mem_singleton, mem_iff, mem_iff, hn.mem_erase_iff]
  constructor
  · rintro (⟨a, b, c⟩ | rfl)
    · exact ⟨a, b, fun z => c z.2⟩
    · exact ⟨h0, h1, fun z => z.1 rfl⟩
  · rintro ⟨a, b, c⟩
    by_cases e : k = h
    · exact .inr e
    · exact .inl ⟨a, b, fun z => c ⟨e, z⟩⟩
theorem ins_leave {n : Nat} {ws : List Int} {h : Int} : (mem n ws).erase h = mem n (srt (ws ++ [h])) := by
  refine rise_eq ((mem_rise _ _).sublist List.erase_sublist) (mem_rise _ _) fun k => ?_
  rw [(mem_nd n ws).mem_erase_iff, mem_iff, mem_iff, (srt_perm _).mem_iff, List.mem_append, List.mem_singleton]
  constructor
  · rintro ⟨a, b, c, d⟩
    exact ⟨b, c, fun z => z.elim d a⟩
  · rintro ⟨b, c, d⟩
    exact ⟨fun z => d (.inr z), b, c, fun z => d (.inl z)⟩
theorem erase_ix {ws : List Int} {h : Int} {j : Nat} (hn : ws.Nodup) (hj : ws[j]? = some h) : ws.eraseIdx j = ws.erase h := by
  obtain ⟨i, i1, _, i3⟩ := erase_at (List.mem_of_getElem? hj)
  rw [nd_ix hn hj i1]
  exact i3
/-- what the law keeps from turn to turn -/
structure LInv (ks0 : List Ck) (i : Nat) (c : Co) (ins ws : List Int) (bt : Int) : Prop where
  ok : c.Ok
  kl : ks0.length = c.ks.length
  kf : ∀ k ∈ c.foes, c.ks[k.toNat]? = ks0[k.toNat]?
  iv : ins = mem c.ks.length c.waits
  wv : ∀ k, k ∈ ws ↔ k ∈ c.waits
  nd : ws.Nodup
  last : c.last ≤ bt
  bt0 : 0 ≤ bt
  bt1 : bt ≤ 500 * (i : Int)
  steps : c.steps.length ≤ i
theorem LInv.wl {ks0 : List Ck} {i : Nat} {c : Co} {ins ws : List Int} {bt : Int} (v : LInv ks0 i c ins ws bt) : ws.length ≤ 16 := by
  have h1 := len_sub v.nd fun x hx => (v.wv x).mp hx
  have h2 := v.ok.wlen
  have h3 := v.ok.n16
  omega
section
variable {nx bk ct : L2.St → Hp → Prop} {rt : VK} {σ : L2.St} {H : Hp} {t u : TS} {B : Hp} {M : Addr → Prop} {W : TW} {L0 R : KL} {c : Co} {CC CO : Addr}
theorem w_cut (Mid : L2.St → Hp → Prop) (h1 : t ⟨Mid, rt, bk, ct⟩ σ H) (h2 : ∀ σ' H', Mid σ' H' → u ⟨nx, rt, bk, ct⟩ σ' H') : C8.tCut t u ⟨nx, rt, bk, ct⟩ σ H := ⟨Mid, h1, h2⟩
theorem co_inn (S : Sep B M W (L0 ++ (c.kl CC CO ++ R)) H) : CoAt c CC CO H := fun p hp => S.kn p (List.mem_append_right _ (List.mem_append_left _ hp))
theorem co_nd (S : Sep B M W (L0 ++ (c.kl CC CO ++ R)) H) : ((c.kl CC CO).map (·.1)).Nodup := S.right.left.nd
theorem lc_inn {lc : Addr} {os : List (Addr × Addr)} {ks0 : List Ck} (S : Sep B M W (L0 ++ (c.kl CC CO ++ ((lc, .lst (os.map fun p => V.ref p.1)) :: ckl CC os ks0))) H) : H lc = some (.lst (os.map fun p => V.ref p.1)) := S.right.right.g0
theorem ck_inn {lc : Addr} {os : List (Addr × Addr)} {ks0 : List Ck} (S : Sep B M W (L0 ++ (c.kl CC CO ++ ((lc, .lst (os.map fun p => V.ref p.1)) :: ckl CC os ks0))) H) {i : Nat} {p : Addr × Addr} {k : Ck} (e : os[i]? = some p) (e' : ks0[i]? = some k) : H p.1 = some (.ins CC p.2 (ckf k.1 k.2.1 k.2.2)) :=
  S.right.right.drop.kn _ (ckl_mem e e')
theorem kl_addr (o : c.Ok) : (c.kl CC CO).map (·.1) = c.co :: c.cl :: c.ll :: c.wl :: c.sl :: c.cs.map (·.1) := by
  show _ :: _ :: _ :: _ :: _ :: (ckl CC c.cs c.ks).map (·.1) = _
  rw [ckl_addr o.len]
theorem kl_same {c' : Co} (o : c.Ok) (o' : c'.Ok) (h : (c.co, c.cl, c.ll, c.wl, c.sl, c.cs) = (c'.co, c'.cl, c'.ll, c'.wl, c'.sl, c'.cs)) {q : Addr × HO} (hq : q ∈ c'.kl CC CO) : q.1 ∈ (c.kl CC CO).map (·.1) := by
  have hm := List.mem_map_of_mem (f := (·.1)) hq
  rw [kl_addr o'] at hm
  rw [kl_addr o]
  simp only [Prod.mk.injEq] at h
  obtain ⟨h1, h2, h3, h4, h5, h6⟩ := h
  rw [h1, h2, h3, h4, h5, h6]
  exact hm
theorem shw_set (f r s b g : Int) : shw f r (s + (g - shw f r s b)) b = g := by
  unfold shw
  generalize b * (1000 + r) / 1000 = y
  omega
/-- a branch with an else: the else told once -/
theorem w_ifC {D : Ends} {tt : TT} (Rf : Hp → Prop) (h2 : ∀ H1, Rf H1 → u D σ H1) (h : (∀ H1, Rf H1 → u D σ H1) → tt σ H fun c H1 => if c = true then t D σ H1 else u D σ H1) : tIfS tt t u D σ H := h h2
theorem rd_set {ks : List Ck} {z : Ck} {h b : Int} (hi : h.toNat < ks.length) : rd (ks.set h.toNat z) h b = shw z.1 z.2.1 z.2.2 b := by
  unfold rd
  rw [List.getElem?_set_self hi]
end
end LK
set_option Elab.async false
set_option linter.all false
set_option maxRecDepth 100000
set_option maxHeartbeats 8000000
set_option autoImplicit false

/-! The law. -/
namespace LK
open PySem PySem.Spec L2
open C8 (Cal Met Mak)
section
variable {P : Program} {w : World} {K : PySem.W.Frag} {mg : Str → Option Value} {base : Heap} {Ccl Cco : Addr}
def spLaw (K : PySem.W.Frag) : Sp := fun vs H Q _ => ∃ (a : Addr) (ns : List Int), vs = [.ref a] ∧ SqL K H a (ns.map V.int) ∧ ns.length ≤ 63 ∧ ∀ H', Q (.bl true) H'
/-- what stands at the start of a turn -/
def LPv (CC CO : Addr) (a t r lc lf lw : Addr) (os : List (Addr × Addr)) (ks0 : List Ck) (i : Nat) (σ : L2.St) (H : Hp) : Prop := ∃ (c : Co) (ai : Addr) (ins ws : List Int) (bt : Int) (x3 x11 x12 x13 x14 x15 x16 x17 x18 x19 : Option V),
  Sep B0 (TwIn (some (t, r))) (some (t, r)) ((ai, .lst (ins.map V.int)) :: (lw, .lst (ws.map V.int)) :: (lf, .lst (c.foes.map V.int)) :: (c.kl CC CO ++ ((lc, .lst (os.map fun p => V.ref p.1)) :: ckl CC os ks0))) H ∧ LInv ks0 i c ins ws bt ∧
  σ = [some (.ref a), some (.ref t), some (.int (c.few : Int)), x3, some (.int c.err), some (.ref c.co), some (.ref lc), some (.ref lf), some (.ref lw), some (.ref ai), some (.int bt), x11, x12, x13, x14, x15, x16, x17, x18, x19]
theorem ok_law {f : Addr} {fd : FuncData} (F : C8.Fun K "law" "law" s_law f fd) (c__law_town : Cal P w K mg base 1 "_law_town" (spTown K) []) (c__law_draw : Cal P w K mg base 1 "_law_draw" spDraw []) (c__law_pick : Cal P w K mg base 2 "_law_pick" spPick [])
    (c__law_whole_list : Cal P w K mg base 2 "_law_whole_list" spWholeList []) (c__law_middle : Cal P w K mg base 1 "_law_middle" spLawMiddle []) (c__law_reads : Cal P w K mg base 1 "_law_reads" spReads [])
    (c__law_lies : Cal P w K mg base 4 "_law_lies" spLies []) (c__law_slips : Cal P w K mg base 3 "_law_slips" spSlips []) (c__law_company : Cal P w K mg base 7 "_law_company" (spLawCompany Ccl Cco) []) (c__law_left : Cal P w K mg base 4 "_law_left" (spLawLeft Ccl Cco) [])
    (c_Clock_shows : Met P w K mg base 4 Ccl "shows" (spShows Ccl) []) (c_Company_shows : Met P w K mg base 5 Cco "shows" (spShowsC Ccl Cco) []) (c_Company_members : Met P w K mg base 1 Cco "members" (spMembers Ccl Cco) []) (c_Company_honest : Met P w K mg base 2 Cco "honest" (spHonest Ccl Cco) [])
    (c_Company_readings : Met P w K mg base 5 Cco "readings" (spReadings Ccl Cco) []) (c_Company_enter : MetN P w K mg base 6 Cco "enter" 3 ["offs"] (spEnter Ccl Cco)) (c_Company_meet : MetN P w K mg base 6 Cco "meet" 2 ["offs"] (spMeet Ccl Cco)) (T : Txt K mg Ccl Cco) :
    FnOk P w K mg base C8.CX0 8 f fd ["_law_script"] (spLaw K) := by
  refine C8.fn0 F sc_law (by rintro vs H Q E ⟨_, _, rfl, _⟩; rfl) fun cdv A outer s H vs Q E hr h => ?_
  obtain ⟨a, ns, rfl, ha, h63, k⟩ := h
  have hu := hu_of hr
  refine ⟨_, (pss_cons (ps_set (i := 1) sc_law.nd rfl (by first | exact Or.inl rfl | exact Or.inr rfl) (C8.pe_c c__law_town hr (by decide) (by rfl) (pa_cons (pv 0) pa_nil)))
      (pss_cons (ps_set (i := 2) sc_law.nd rfl (by first | exact Or.inl rfl | exact Or.inr rfl) (C8.pe_c c__law_draw hr (by decide) (by rfl) (pa_cons (pv 1) (pa_cons pe_int pa_nil))))
      (pss_cons (ps_set (i := 3) sc_law.nd rfl (by first | exact Or.inl rfl | exact Or.inr rfl) (pe_op op_add (pe_op op_add (pe_op op_mul pe_int (pv 2)) pe_int) (C8.pe_c c__law_draw hr (by decide) (by rfl) (pa_cons (pv 1) (pa_cons pe_int pa_nil)))))
      (pss_cons (ps_set (i := 4) sc_law.nd rfl (by first | exact Or.inl rfl | exact Or.inr rfl) (C8.pe_c c__law_pick hr (by decide) (by rfl) (pa_cons (pv 1) (pa_cons (pe_lst (pa_cons pe_int (pa_cons pe_int (pa_cons pe_int pa_nil)))) pa_nil))))
      (pss_cons (ps_asg (C8.pe_c c__law_company hr (by decide) (by rfl) (pa_cons (pv 1) (pa_cons (pv 2) (pa_cons (pv 3) (pa_cons (pv 4) (pa_cons (pe_op op_add pe_int (C8.pe_c c__law_draw hr (by decide) (by rfl) (pa_cons (pv 1) (pa_cons pe_int pa_nil)))) pa_nil)))))) (LK.kgtup (K := K) (by rfl) (by rfl) (pgs_cons (pg_name (i := 5) sc_law.nd rfl (by first | exact Or.inl rfl | exact Or.inr rfl)) (pgs_cons (pg_name (i := 6) sc_law.nd rfl (by first | exact Or.inl rfl | exact Or.inr rfl)) (pgs_cons (pg_name (i := 7) sc_law.nd rfl (by first | exact Or.inl rfl | exact Or.inr rfl)) (pgs_cons (pg_name (i := 8) sc_law.nd rfl (by first | exact Or.inl rfl | exact Or.inr rfl)) pgs_nil))))))
      (pss_cons (ps_set (i := 9) sc_law.nd rfl (by first | exact Or.inl rfl | exact Or.inr rfl) (pe_listRg (by rfl) (by rfl) T.b_list (prg_1 (by rfl) T.b_range (pv 3))))
      (pss_cons (ps_set (i := 10) sc_law.nd rfl (by first | exact Or.inl rfl | exact Or.inr rfl) pe_int)
      (pss_cons (ps_for PassesOwn.never rfl (pi_range1 (by rfl) T.b_range (pa_cons pe_int pa_nil)) (pg_name (i := 11) sc_law.nd rfl (by first | exact Or.inl rfl | exact Or.inr rfl))
        (pss_cons (ps_set (i := 10) sc_law.nd rfl (by first | exact Or.inl rfl | exact Or.inr rfl) (pe_op op_add (pv 10) (C8.pe_c c__law_draw hr (by decide) (by rfl) (pa_cons (pv 1) (pa_cons pe_int pa_nil)))))
        (pss_cons (ps_set (i := 12) sc_law.nd rfl (by first | exact Or.inl rfl | exact Or.inr rfl) (C8.pe_mt c_Company_readings hr (by decide) (pv 5) (pa_cons (pv 10) pa_nil)))
        (pss_cons (ps_set (i := 13) sc_law.nd rfl (by first | exact Or.inl rfl | exact Or.inr rfl) (C8.pe_c c__law_lies hr (by decide) (by rfl) (pa_cons (pv 1) (pa_cons (pe_callB (LK.klen (K := K) (by rfl)) (by rfl) T.b_len (by decide +kernel) (pa_cons (pv 6) pa_nil)) (pa_cons (pv 7) (pa_cons (pv 12) pa_nil))))))
        (pss_cons (ps_set (i := 14) sc_law.nd rfl (by first | exact Or.inl rfl | exact Or.inr rfl) (C8.pe_c c__law_slips hr (by decide) (by rfl) (pa_cons (pv 1) (pa_cons (pe_callB (LK.klen (K := K) (by rfl)) (by rfl) T.b_len (by decide +kernel) (pa_cons (pv 6) pa_nil)) (pa_cons (pv 4) pa_nil)))))
        (C8.pss_cut (ps_if (PW.pt (pw_and (pt_cmpR (LK.kne (K := K) (by rfl) hr.units) (pv 8) (pe_lst pa_nil) (nomark _)) (pw_and1 (pt_cmpR op_eq (C8.pe_c c__law_draw hr (by decide) (by rfl) (pa_cons (pv 1) (pa_cons pe_int pa_nil))) pe_int (nomark _)))))
          (pss_cons (ps_set (i := 15) sc_law.nd rfl (by first | exact Or.inl rfl | exact Or.inr rfl) (LK.kbm (K := K) (by rfl) PySem.F.plainAttrs_list PySem.F.slot_list_pop PySem.F.type_list_pop mt_popAt (pv 8) (pa_cons (C8.pe_c c__law_draw hr (by decide) (by rfl) (pa_cons (pv 1) (pa_cons (pe_callB (LK.klen (K := K) (by rfl)) (by rfl) T.b_len (by decide +kernel) (pa_cons (pv 8) pa_nil)) pa_nil))) pa_nil)))
          (pss_cons (ps_setLc (i := 16) (own := [("_law_k", 18)]) (g := gName 18) (by rfl) sc_law.nd rfl rfl (sw_true rfl rfl rfl (by decide +kernel)) (pi_range1 (by rfl) T.b_range (pa_cons (pe_callB (LK.klen (K := K) (by rfl)) (by rfl) T.b_len (by decide +kernel) (pa_cons (pv 6) pa_nil)) pa_nil)) (blkOk_by (own := [("_law_k", 18)]) (N := ["_law_script", "_law_town_here", "_law_some", "_law_crew", "_law_wrong", "_law_company_here", "_law_clocks", "_law_foes", "_law_waits", "_law_inside", "_law_beat", "_law_turn", "_law_near", "_law_tales", "_law_slips_here", "_law_house", "_law_shown", "_law_due", "_law_k", "_law_one"]) (sc := C8.fnScope s_law) (by decide +kernel)) (fun _ _ _ _ _ => pg_name (i := 18) sc_law.nd rfl (Or.inl rfl)) (fun _ _ _ _ _ => pts_nil) (fun _ _ _ _ _ => (pe_ifExp (pt_cmpR (LK.kin (K := K) (by rfl)) (pv 18) (pv 7) (by rfl)) (C8.pe_mt c_Clock_shows hr (by decide) (pe_ix (LK.kixl (K := K) (by rfl)) (pv 6) (pv 18) (fun _ _ => rfl)) (pa_cons (pv 10) pa_nil)) (C8.pe_mt c_Company_shows hr (by decide) (pv 5) (pa_cons (pv 18) (pa_cons (pv 10) pa_nil))))))
          (pss_cons (ps_set (i := 17) sc_law.nd rfl (by first | exact Or.inl rfl | exact Or.inr rfl) (C8.pe_c c__law_middle hr (by decide) (by rfl) (pa_cons (C8.pe_c c__law_reads hr (by decide) (by rfl) (pa_cons (pv 15) (pa_cons (pv 9) (pa_cons (pv 16) (pa_cons (pv 7) (pa_cons (pv 13) (pa_cons (pv 14) pa_nil))))))) (pa_cons (pv 2) pa_nil))))
          (pss_cons (ps_if (PW.pt (pw_or (pt_cmpR LK.or_notN (LK.pe_mtN c_Company_enter hr (by decide) (pv 5) (pa_cons (pv 15) (pa_cons (pv 10) (pa_cons (pv 13) pa_nil))) (pk_cons (pv 14) pk_nil)) pe_non (nomark _)) (pw_or1 (pt_cmpR op_ne (C8.pe_mt c_Company_shows hr (by decide) (pv 5) (pa_cons (pv 15) (pa_cons (pv 10) pa_nil))) (pv 17) (nomark _)))))
            (pss_one (ps_ret pe_bl))
            pss_nil)
          (pss_cons (ps_if (pt_not (pt_chain op_le op_le (pe_op op_sub (pe_callB (LK.kmin (K := K) (by rfl) (by rfl)) (by rfl) T.b_min (by decide +kernel) (pa_cons (pv 12) pa_nil)) (pv 4)) (pv 17) (pe_op op_add (pe_callB (LK.kmax (K := K) (by rfl) (by rfl)) (by rfl) T.b_max (by decide +kernel) (pa_cons (pv 12) pa_nil)) (pv 4))))
            (pss_one (ps_ret pe_bl))
            pss_nil)
          (pss_one (ps_set (i := 9) sc_law.nd rfl (by first | exact Or.inl rfl | exact Or.inr rfl) (pe_callB (LK.ksorted (K := K) (by rfl)) (by rfl) T.b_sorted (by decide +kernel) (pa_cons (pe_op op_cat (pv 9) (pe_lst (pa_cons (pv 15) pa_nil))) pa_nil)))))))))
          (pss_one (ps_if (pt_cmpR op_eq (C8.pe_c c__law_draw hr (by decide) (by rfl) (pa_cons (pv 1) (pa_cons pe_int pa_nil))) pe_int (nomark _))
            (pss_one (ps_expr (LK.pe_mtN c_Company_meet hr (by decide) (pv 5) (pa_cons (pv 10) (pa_cons (pv 13) pa_nil)) (pk_cons (pv 14) pk_nil))))
            (pss_one (ps_expr (C8.pe_c c__law_left hr (by decide) (by rfl) (pa_cons (pv 1) (pa_cons (pv 5) (pa_cons (pv 9) (pa_cons (pv 7) (pa_cons (pv 8) (pa_cons (pv 2) pa_nil))))))))))))
        (pss_cons (ps_if (PW.pt (pw_or (pt_cmpR (LK.kne (K := K) (by rfl) hr.units) (C8.pe_mt0 c_Company_members hr (by decide) (pv 5)) (pv 9) (nomark _)) (pw_or1 (pt_cmpR (LK.kne (K := K) (by rfl) hr.units) (C8.pe_mt0 c_Company_honest hr (by decide) (pv 5)) (pe_lc (own := [("_law_one", 19)]) (g := gName 19) (by rfl) sc_law.nd (LK.kpil (K := K) (by rfl) (pv 9)) (blkOk_by (own := [("_law_one", 19)]) (N := ["_law_script", "_law_town_here", "_law_some", "_law_crew", "_law_wrong", "_law_company_here", "_law_clocks", "_law_foes", "_law_waits", "_law_inside", "_law_beat", "_law_turn", "_law_near", "_law_tales", "_law_slips_here", "_law_house", "_law_shown", "_law_due", "_law_k", "_law_one"]) (sc := C8.fnScope s_law) (by decide +kernel)) (fun _ _ _ _ _ => pg_name (i := 19) sc_law.nd rfl (Or.inl rfl)) (fun _ _ _ _ _ => (pts_one (pt_cmpR (LK.knin (K := K) (by rfl)) (pv 19) (pv 7) (by rfl)))) (fun _ _ _ _ _ => (pv 19))) (nomark _)))))
          (pss_one (ps_ret pe_bl))
          pss_nil)
        (pss_one (ps_if (pt_cmpR op_ne (pe_callB (LK.klen (K := K) (by rfl)) (by rfl) T.b_len (by decide +kernel) (pa_cons (C8.pe_mt c_Company_readings hr (by decide) (pv 5) (pa_cons (pv 10) pa_nil)) pa_nil)) (pe_callB (LK.klen (K := K) (by rfl)) (by rfl) T.b_len (by decide +kernel) (pa_cons (C8.pe_mt0 c_Company_honest hr (by decide) (pv 5)) pa_nil)) (nomark _))
          (pss_one (ps_ret pe_bl))
          pss_nil)))))))))
      (pss_one (ps_ret (C8.pe_c c__law_whole_list hr (by decide) (by rfl) (pa_cons (C8.pe_mt0 c_Company_members hr (by decide) (pv 5)) pa_nil)))))))))))), ?_⟩
  wtm_at "wp"
  refine ⟨a, ns, rfl, ha, h63, fun t r H1 s1 n1 n2 tw1 => ?_⟩
  have S1 : Sep B0 (TwIn (some (t, r))) (some (t, r)) [] H1 := Sep.zero (M := fun _ => False) (Sep.start (W := some (t, r)) tw1)
  wtm_at "wp"
  refine ⟨t, r, 3, rfl, S1.tw, by decide, by decide, fun q1 H2 q10 q11 tw2 f2 => ?_⟩
  have S2 := S1.draw f2 tw2 fun _ z => z
  obtain ⟨few, rfl⟩ : ∃ n : Nat, q1 = (n : Int) := ⟨q1.toNat, by omega⟩
  wtm_at "wp"
  refine w_I (.inl ⟨by omega, by omega⟩) ?_
  wtm_at "wp"
  refine ⟨t, r, 3, rfl, S2.tw, by decide, by decide, fun q3 H3 q30 q31 tw3 f3 => ?_⟩
  have S3 := S2.draw f3 tw3 fun _ z => z
  wtm_at "wp"
  generalize hcr : 2 * (few : Int) + 1 + q3 = crew
  refine w_lstk S3 (by show 3 ≤ sizeLine; decide) fun lp H4 S4 w4 => ?_
  wtm_at "wp"
  refine ⟨t, r, lp, _, rfl, S4.tw, S4.g0, S4.off _ List.mem_cons_self, by simp, by show 3 ≤ 1000; decide, fun v H5 hv tw5 f5 => ?_⟩
  have S5 := (S4.draw f5 tw5 fun _ z => z).drop
  obtain ⟨err, rfl, e0, e1⟩ : ∃ u : Int, v = .int u ∧ 0 ≤ u ∧ u ≤ 100 := by
    simp only [List.mem_cons, List.not_mem_nil, or_false] at hv
    rcases hv with rfl | rfl | rfl
    · exact ⟨_, rfl, by decide, by decide⟩
    · exact ⟨_, rfl, by decide, by decide⟩
    · exact ⟨_, rfl, by decide, by decide⟩
  wtm_at "wp"
  refine ⟨t, r, 3, rfl, S5.tw, by decide, by decide, fun q6 H6 q60 q61 tw6 f6 => ?_⟩
  have S6 := S5.draw f6 tw6 fun _ z => z
  wtm_at "wp"
  refine ⟨t, r, few, crew, err, 1 + q6, rfl, S6.tw, by omega, by omega, by omega, by omega, e0, e1, fun tu lc lf lw os c0 H7 hco => ?_⟩
  obtain ⟨S7', o0, hos, hfew, herr, hkl, hwt, hls, hst⟩ := hco
  have S7 := S7'.zero
  wtm_at "wp"
  refine w_gTup S7.g0 rfl ?_
  wtm_at "wp"
  refine w_rg1 ?_
  wtm_at "wp"
  refine w_rgk1 S7 (RgOk.of_le (by omega) (by omega) (by omega) (by omega)) fun ai H8 S8 w8 => ?_
  wtm_at "wp"
  have S9 : Sep B0 (TwIn (some (t, r))) (some (t, r)) ((ai, .lst ((rg 0 crew).map V.int)) :: (lw, .lst (c0.waits.map V.int)) :: (lf, .lst (c0.foes.map V.int)) :: (c0.kl Ccl Cco ++ ((lc, .lst (os.map fun p => V.ref p.1)) :: ckl Ccl os c0.ks))) H8 :=
    S8.drop1.perm (((List.Perm.swap (lf, _) (lw, _) _).trans (List.perm_append_comm_assoc [(lf, _), (lw, _)] (c0.kl Ccl Cco) ((lc, _) :: ckl Ccl os c0.ks))).cons (ai, _))
  refine w_forR ?_
  wtm_at "wp"
  subst hfew
  subst herr
  refine w_forRk (LPv Ccl Cco a t r lc lf lw os c0.ks) (by omega) (by omega) ⟨c0, ai, rg 0 crew, c0.waits, 0, _, none, none, none, none, none, none, none, none, none, S9, ?_, rfl⟩ ?_ ?_
  · refine ⟨o0, rfl, fun _ _ => rfl, rise_eq (rg_rise _ _) (mem_rise _ _) fun z => ?_, fun _ => Iff.rfl, o0.waitsR, by omega, by omega, by omega, by rw [hst]; exact Nat.le_refl _⟩
    rw [rg_mem (by omega), mem_iff, hwt, rg_mem (by omega)]
    omega
  · rintro i σ H' hi ⟨c, ai, ins, ws, bt, x3, x11, x12, x13, x14, x15, x16, x17, x18, x19, S, v, rfl⟩
    clear S9 S8 S7 S7' S6 S5 S4 S3 S2 S1
    wtm_at "wp"
    have o16 := v.ok.n16
    have wl := v.wl
    have hos' : os.length = c.ks.length := by rw [hos, v.kl]
    have b0 := v.bt0
    have b1 := v.bt1
    have bl := v.last
    have mem16 := mem_len (n := c.ks.length) (ws := c.waits)
    have hon16 := hon_len (n := c.ks.length) (ws := c.waits) (fs := c.foes)
    have hiv := v.iv
    subst hiv
    refine ⟨t, r, 500, rfl, S.tw, by decide, by decide, fun d H2 d0 d1 tw2 f2 => ?_⟩
    have S2 := S.draw f2 tw2 fun _ z => z
    wtm_at "wp"
    have hc2 : CoAt c Ccl Cco H2 := co_inn (L0 := [_, _, _]) S2
    refine w_methk hc2.obj co_m_readings ?_
    wtm_at "wp"
    refine ⟨c, bt + d, rfl, hc2, v.ok, by omega, by omega, fun nr H3 s3 n3 h3 => ?_⟩
    have S3 := S2.res s3 n3 h3
    wtm_at "wp"
    refine w_len (lc_inn (L0 := [_, _, _, _]) S3) ?_
    wtm_at "wp"
    rw [List.length_map, hos']
    have hp := v.ok.hon_pos
    refine ⟨t, r, lf, nr, (c.ks.length : Int), c.foes, _, rfl, S3.tw, S3.g3, S3.off (lf, .lst (c.foes.map V.int)) (List.mem_cons_of_mem _ (List.mem_cons_of_mem _ (List.mem_cons_of_mem _ List.mem_cons_self))), S3.g0, S3.off _ List.mem_cons_self, ?_, by rw [List.length_map]; omega, by omega, by omega, by have := v.ok.foesN; have := v.ok.few5; omega, fun dl tl H4 t1 tw4 f4 n4 h4 => ?_⟩
    · intro z
      have hz := congrArg List.length z
      rw [List.length_map] at hz
      simp only [List.length_nil] at hz
      omega
    have S4 := S3.cons n4 f4 tw4 (fun _ z => z) h4
    wtm_at "wp"
    refine w_len (lc_inn (L0 := [_, _, _, _, _]) S4) ?_
    wtm_at "wp"
    rw [List.length_map, hos']
    refine ⟨t, r, (c.ks.length : Int), c.err, rfl, S4.tw, by omega, by omega, v.ok.err0.1, v.ok.err0.2, fun de te H5 t2 tw5 f5 n5 h5 => ?_⟩
    have S5 := S4.cons n5 f5 tw5 (fun _ z => z) h5
    clear f5 f4 f2 s3 S4 S3 S2 S h3 h4 h5 n3 n4 n5 tw2 tw4 tw5 hc2
    wtm_at "wp"
    refine w_cut (LPv Ccl Cco a t r lc lf lw os c0.ks (i + 1)) ?_ ?_
    · refine w_ifC (fun H1 => Sep B0 (TwIn (some (t, r))) (some (t, r)) ((de, .dT te) :: (dl, .dT tl) :: (nr, .lst (((hon c.ks.length c.waits c.foes).map fun k => rd c.ks k (bt + d)).map V.int)) :: (ai, .lst ((mem c.ks.length c.waits).map V.int)) :: (lw, .lst (ws.map V.int)) :: (lf, .lst (c.foes.map V.int)) :: (c.kl Ccl Cco ++ ((lc, .lst (os.map fun p => V.ref p.1)) :: ckl Ccl os c0.ks))) H1) ?_ fun els => ?_
      · intro H6 S6
        wtm_at "wp"
        refine ⟨t, r, 2, rfl, S6.tw, by decide, by decide, fun q H7 q0 q1 tw7 f7 => ?_⟩
        have S7 := S6.draw f7 tw7 fun _ z => z
        wtm_at "wp"
        have hc7 : CoAt c Ccl Cco H7 := co_inn (L0 := [_, _, _, _, _, _]) S7
        by_cases hq : q = 0
        · rw [decide_eq_true hq]
          refine iteT ?_
          wtm_at "wp"
          refine w_methNk hc7.obj co_m_meet ?_
          wtm_at "wp"
          refine ⟨rfl, rfl, c, bt + d, dl, de, tl, te, rfl, hc7, co_nd (L0 := [_, _, _, _, _, _]) S7, v.ok, by omega, by omega, by have := v.steps; omega, S7.g1, S7.g0, t1, t2, fun ks y vv c' H8 hc' hks hkf ok' hat' nd' fr' => ?_⟩
          subst hc'
          have S8 := Sep.callM (Lp := [_, _, _, _, _, _]) (L0 := c.kl Ccl Cco) S7 (fun _ _ => own0) nd' (fun q hq => .inl (kl_same v.ok ok' rfl hq)) hat' fr'
          wtm_at "wp"
          have S9 := S8.drop.drop.drop
          refine ⟨{ c with ks := ks, last := bt + d, steps := c.steps ++ [y] }, ai, mem c.ks.length c.waits, ws, bt + d, _, _, _, _, _, _, _, _, _, _, S9, ⟨ok', by rw [v.kl]; exact hks.symm, fun k hk => by rw [← v.kf k hk]; exact hkf k hk, by rw [← hks], v.wv, v.nd, Int.le_refl _, by omega, by omega, ?_⟩, rfl⟩
          rw [List.length_append, List.length_singleton]
          have := v.steps
          omega
        · rw [decide_eq_false hq]
          refine iteF ?_
          wtm_at "wp"
          refine ⟨t, r, ai, lf, lw, c, _, ws, _, rfl, S7.drop.drop.drop, v.ok, rfl, by omega, fun c' ins' ws' H8 S8 hor ok' => ?_⟩
          have vst := v.steps
          rcases hor with ⟨rfl, rfl, rfl⟩ | ⟨h, q', h1, h2, rfl, rfl, rfl⟩
          · exact ⟨_, ai, _, _, bt + d, _, _, _, _, _, _, _, _, _, _, S8, ⟨v.ok, v.kl, v.kf, rfl, v.wv, v.nd, by omega, by omega, by omega, by omega⟩, rfl⟩
          · have hnw : h ∉ c.waits := (mem_iff.mp h1).2.2
            refine ⟨{ c with wl := q', waits := srt (c.waits ++ [h]) }, ai, _, _, bt + d, _, _, _, _, _, _, _, _, _, _, S8, ⟨ok', v.kl, v.kf, ins_leave, fun k => ?_, nd_snoc v.nd fun z => hnw ((v.wv h).mp z), by show c.last ≤ _; omega, by omega, by omega, by show c.steps.length ≤ _; omega⟩, rfl⟩
            rw [List.mem_append, List.mem_singleton, v.wv]
            show _ ↔ k ∈ srt (c.waits ++ [h])
            rw [(srt_perm _).mem_iff, List.mem_append, List.mem_singleton]
      wtm_at "wp"
      refine w_lstk S5 (by show 0 ≤ sizeLine; decide) fun el H6 S6 w6 => ?_
      refine w_neL (ms := []) (SqL.of S6.g5) (SqL.of S6.g0) ?_
      wtm_at "wp"
      by_cases hws : ws = []
      · rw [decide_eq_true hws]
        refine iteF ?_
        refine iteF ?_
        exact els _ S6.drop
      rw [decide_eq_false hws]
      refine iteT ?_
      have hwp : 0 < ws.length := List.length_pos_iff.mpr hws
      wtm_at "wp"
      refine ⟨t, r, 2, rfl, S6.tw, by decide, by decide, fun q H7 q0 q1 tw7 f7 => ?_⟩
      have S7 := (S6.draw f7 tw7 fun _ z => z).drop
      wtm_at "wp"
      by_cases hq : q = 0
      · rw [decide_eq_true hq]
        refine iteT ?_
        clear els S6 S5
        wtm_at "wp"
        refine w_BMl S7.g4 ?_
        wtm_at "wp"
        refine w_len S7.g4 ?_
        wtm_at "wp"
        rw [List.length_map]
        refine ⟨t, r, (ws.length : Int), rfl, S7.tw, by omega, by omega, fun j H8 j0 j1 tw8 f8 => ?_⟩
        have S8 := S7.draw f8 tw8 fun _ z => z
        wtm_at "wp"
        have hj : j.toNat < ws.length := by omega
        have hjj : ws[j.toNat]? = some ws[j.toNat] := List.getElem?_eq_getElem hj
        refine ⟨lw, ws.map V.int, j, j.toNat, _, rfl, rfl, S8.g4, by omega, by omega, ?_, get_int hj, ?_⟩
        · unfold seqIndex?
          rw [List.length_map]
          simp only [Int.not_lt.mpr j0, if_false, j0, j1, decide_true, Bool.and_self, if_true]
        generalize ws[j.toNat] = h at hjj ⊢
        rw [erase_mapI, erase_ix v.nd hjj]
        have hm : h ∈ ws := List.mem_of_getElem? hjj
        have hw : h ∈ c.waits := (v.wv h).mp hm
        obtain ⟨h0, h1⟩ := v.ok.waits0 h hw
        have hnf : h ∉ c.foes := fun z => v.ok.apart h z hw
        have S9 := Sep.put (L1 := [_, _, _, _]) (o' := .lst ((ws.erase h).map V.int)) S8 own0
        clear S8 S7 f8 f7
        wtm_at "wp"
        refine w_lcR ?_
        wtm_at "wp"
        refine w_len (lc_inn (L0 := [_, _, _, _, _, _]) S9) ?_
        wtm_at "wp"
        rw [List.length_map, hos']
        refine w_lcRk (fun _ => true) (fun i => .int (rd c.ks (i : Int) (bt + d))) S9 (by omega) (by omega) (fun _ => rfl) (fun i hi => test_yes rfl) (fun i hi _ D acc H' S' Q' q => ?_) fun sh H10 S10 w10 => ?_
        · have hc' : CoAt c Ccl Cco H' := co_inn (L0 := [_, _, _, _, _, _, _]) S'
          wtm_at "wp"
          refine w_inI S'.g6 ?_
          wtm_at "wp"
          by_cases hf : (i : Int) ∈ c.foes
          · rw [decide_eq_true hf]
            refine iteT ?_
            wtm_at "wp"
            have hio : i < os.length := by omega
            have hik : i < c0.ks.length := by omega
            have e1 : os[i]? = some os[i] := List.getElem?_eq_getElem hio
            have e2 : c0.ks[i]? = some c0.ks[i] := List.getElem?_eq_getElem hik
            have hcl := ck_inn (L0 := [_, _, _, _, _, _, _]) S' e1 e2
            refine w_ixL (lc_inn (L0 := [_, _, _, _, _, _, _]) S') (at_nn (j := i) rfl (by rw [List.getElem?_map, e1]; rfl)) ?_
            refine w_methk hcl ck_shows ?_
            wtm_at "wp"
            refine ⟨_, _, _, _, _, bt + d, rfl, hcl, by omega, by omega, ?_⟩
            have hrd : rd c.ks (i : Int) (bt + d) = shw c0.ks[i].1 c0.ks[i].2.1 c0.ks[i].2.2 (bt + d) := by
              unfold rd
              rw [v.kf _ hf, Int.toNat_natCast, e2]
            rw [← hrd]
            exact q _ S'
          · rw [decide_eq_false hf]
            refine iteF ?_
            wtm_at "wp"
            refine w_methk hc'.obj co_m_shows ?_
            wtm_at "wp"
            exact ⟨c, (i : Int), bt + d, rfl, hc', v.ok, by omega, by omega, hf, by omega, by omega, q _ S'⟩
        have hsh : (((List.range (c.ks.length : Int).toNat).filter fun _ => true).map fun (i : Nat) => V.int (rd c.ks (i : Int) (bt + d))) = ((List.range c.ks.length).map fun (i : Nat) => rd c.ks (i : Int) (bt + d)).map V.int := by
          rw [List.filter_eq_self.mpr (fun _ _ => rfl), Int.toNat_natCast, List.map_map]
          rfl
        rw [hsh] at S10
        wtm_at "wp"
        refine ⟨h, ai, sh, lf, dl, de, _, _, c.foes, tl, te, rfl, S10.g4, S10.g0, S10.g6, S10.g2, S10.g1, ⟨_, t1⟩, ⟨_, t2⟩, by omega, fun x hx => ?_, fun rl H11 s11 n11 h11 => ?_⟩
        · obtain ⟨x0, x1, x2⟩ := mem_iff.mp hx
          exact ⟨x0, by rw [List.length_map, List.length_range]; exact x1, fun z => x2 (z ▸ hw)⟩
        rw [law_sees] at h11
        have S11 := S10.res s11 n11 h11
        wtm_at "wp"
        refine ⟨rl, _, c.few, rfl, S11.g0, by rw [sees_len]; omega, by rw [sees_len]; exact v.ok.enough, fun H12 s12 => ?_⟩
        have S12 := (S11.same s12).drop.drop
        clear S11 S10 S9 h11 s11 n11 s12
        wtm_at "wp"
        have hc12 : CoAt c Ccl Cco H12 := co_inn (L0 := [_, _, _, _, _, _]) S12
        refine w_methNk hc12.obj co_m_enter ?_
        wtm_at "wp"
        refine ⟨rfl, rfl, c, h, bt + d, dl, de, tl, te, rfl, hc12, co_nd (L0 := [_, _, _, _, _, _]) S12, v.ok, hnf, hw, by omega, by omega, S12.g1, S12.g0, t1, t2, fun z c' H13 hz hc' ok' hat' nd' fr' => ?_⟩
        subst hc'
        have S13 := Sep.callM (Lp := [_, _, _, _, _, _]) (L0 := c.kl Ccl Cco) S12 (fun _ _ => own0) nd' (fun q hq => .inl (kl_same v.ok ok' rfl hq)) hat' fr'
        wtm_at "wp"
        refine w_notN (b := true) rfl ?_
        wtm_at "wp"
        refine iteF ?_
        wtm_at "wp"
        refine w_methk hat'.obj co_m_shows ?_
        wtm_at "wp"
        have hlen : (c.ks.set h.toNat (z.1, z.2.1, z.2.2 + (mid (sees c tl te h (bt + d)) c.few - shw z.1 z.2.1 z.2.2 (bt + d)))).length = c.ks.length := List.length_set
        refine ⟨{ c with ks := c.ks.set h.toNat (z.1, z.2.1, z.2.2 + (mid (sees c tl te h (bt + d)) c.few - shw z.1 z.2.1 z.2.2 (bt + d))), waits := c.waits.erase h, last := bt + d }, h, bt + d, rfl, hat', ok', h0, by rw [hlen]; exact h1, hnf, by omega, by omega, ?_⟩
        rw [rd_set (by omega), shw_set]
        wtm_at "wp"
        rw [decide_eq_true rfl]
        refine iteF ?_
        wtm_at "wp"
        refine ⟨nr, _, rfl, SqL.of S13.g2, by rw [List.length_map]; omega, fun m1 _ hm1 => ?_⟩
        wtm_at "wp"
        rw [decide_eq_true (due_lo v.ok t2 hm1)]
        refine iteT ?_
        wtm_at "wp"
        refine ⟨nr, _, rfl, SqL.of S13.g2, by rw [List.length_map]; omega, fun m2 _ hm2 => ?_⟩
        wtm_at "wp"
        rw [decide_eq_true (due_hi v.ok t2 hm2)]
        refine iteF ?_
        wtm_at "wp"
        refine w_lstk S13 (by show 1 ≤ sizeLine; decide) fun el2 H14 S14 w14 => ?_
        refine w_cat S14 S14.g4 S14.g0 (by rw [List.length_map]; exact Nat.le_of_lt (small1000 (by show _ + 1 ≤ 1000; omega))) fun g H15 S15 w15 => ?_
        wtm_at "wp"
        rw [show (mem c.ks.length c.waits).map V.int ++ [V.int h] = (mem c.ks.length c.waits ++ [h]).map V.int by rw [List.map_append]; rfl] at S15
        refine w_sorted S15 S15.g0 (by rw [List.length_append, List.length_singleton]; omega) fun ns' ai2 H16 p1 p2 S16 w16 => ?_
        rw [srt_of p1 p2, ins_enter v.ok.waitsR h0 h1 hw] at S16
        wtm_at "wp"
        have S17 := S16.drop1.drop1.drop1.drop1.drop1.drop1
        refine ⟨{ c with ks := c.ks.set h.toNat (z.1, z.2.1, z.2.2 + (mid (sees c tl te h (bt + d)) c.few - shw z.1 z.2.1 z.2.2 (bt + d))), waits := c.waits.erase h, last := bt + d }, ai2, _, ws.erase h, bt + d, _, _, _, _, _, _, _, _, _, _, S17, ⟨ok', by rw [v.kl]; exact hlen.symm, fun k hk => ?_, by rw [← hlen], fun k => ?_, v.nd.erase h, Int.le_refl _, by omega, by omega, by have := v.steps; show c.steps.length ≤ _; omega⟩, rfl⟩
        · rw [← v.kf k hk]
          refine List.getElem?_set_ne ?_
          intro e
          have hk0 := (v.ok.foes0 k hk).1
          have e2 : h = k := by omega
          exact hnf (e2 ▸ hk)
        · show _ ↔ k ∈ c.waits.erase h
          rw [v.nd.mem_erase_iff, v.ok.waitsR.mem_erase_iff, v.wv]
      · rw [decide_eq_false hq]
        refine iteF ?_
        exact els _ S7
    · clear S5 v b0 b1 bl hp mem16 hon16 t1 t2 wl hos'
      rintro σ' H2 ⟨c, ai, ins, ws, bt, x3, x11, x12, x13, x14, x15, x16, x17, x18, x19, S, v, rfl⟩
      have b0 := v.bt0
      have b1 := v.bt1
      have o16 := v.ok.n16
      have mem16 := mem_len (n := c.ks.length) (ws := c.waits)
      have hiv := v.iv
      subst hiv
      have hc : CoAt c Ccl Cco H2 := co_inn (L0 := [_, _, _]) S
      wtm_at "wp"
      refine w_methk hc.obj co_m_members ?_
      wtm_at "wp"
      refine ⟨c, rfl, hc, v.ok, fun p H3 s3 n3 h3 => ?_⟩
      have S3 := S.res s3 n3 h3
      have hc3 := hc.same s3
      wtm_at "wp"
      refine w_neL (SqL.of S3.g0) (SqL.of S3.g1) ?_
      wtm_at "wp"
      rw [decide_eq_true rfl]
      refine iteF ?_
      wtm_at "wp"
      refine w_methk hc3.obj co_m_honest ?_
      wtm_at "wp"
      refine ⟨c, rfl, hc3, v.ok, fun hp H4 s4 n4 h4 => ?_⟩
      have S4 := S3.res s4 n4 h4
      wtm_at "wp"
      refine w_lcL ?_
      wtm_at "wp"
      refine w_lcLk (fun x => !decide (viv x ∈ c.foes)) (fun x => x) S4 (by rw [List.length_map]; omega) (fun _ => rfl) S4.g2 (fun D acc H' S' => S'.g3) (fun x hx D acc H' S' Q' q => ?_) (fun x hx _ D acc H' S' Q' q => ?_) fun hl H5 S5 w5 => ?_
      · obtain ⟨z, hz, rfl⟩ := List.mem_map.mp hx
        wtm_at "wp"
        refine w_niI S'.g5 ?_
        wtm_at "wp"
        exact q _ S'
      · wtm_at "wp"
        exact q _ S'
      rw [List.map_id', filter_int _ (fun k => !decide (k ∈ c.foes)) _ fun _ => rfl] at S5
      refine w_neL (SqL.of S5.g1) (SqL.of S5.g0) ?_
      wtm_at "wp"
      rw [decide_eq_true (show hon c.ks.length c.waits c.foes = (mem c.ks.length c.waits).filter (fun k => !decide (k ∈ c.foes)) from rfl)]
      refine iteF ?_
      have S6 := S5.drop.drop.drop
      have hc6 : CoAt c Ccl Cco H5 := co_inn (L0 := [_, _, _]) S6
      wtm_at "wp"
      refine w_methk hc6.obj co_m_readings ?_
      wtm_at "wp"
      refine ⟨c, bt, rfl, hc6, v.ok, b0, by omega, fun rp H7 s7 n7 h7 => ?_⟩
      have hc7 := hc6.same s7
      wtm_at "wp"
      refine w_len h7 ?_
      wtm_at "wp"
      refine w_methk hc7.obj co_m_honest ?_
      wtm_at "wp"
      refine ⟨c, rfl, hc7, v.ok, fun hp2 H8 s8 n8 h8 => ?_⟩
      wtm_at "wp"
      refine w_len h8 ?_
      wtm_at "wp"
      rw [List.length_map, List.length_map, List.length_map, decide_eq_true rfl]
      refine iteF ?_
      wtm_at "wp"
      exact ⟨c, ai, _, ws, bt, _, _, _, _, _, _, _, _, _, _, (S6.same s7).same s8, v, rfl⟩
  · rintro σ H' ⟨c, ai, ins, ws, bt, x3, x11, x12, x13, x14, x15, x16, x17, x18, x19, S, v, rfl⟩
    have hc : CoAt c Ccl Cco H' := co_inn (L0 := [_, _, _]) S
    wtm_at "wp"
    refine w_methk hc.obj co_m_members ?_
    wtm_at "wp"
    refine ⟨c, rfl, hc, v.ok, fun p H2 e1 e2 e3 => ?_⟩
    have ml := mem_len (n := c.ks.length) (ws := c.waits)
    have o16 := v.ok.n16
    exact ⟨p, _, rfl, e3, by omega, fun H3 _ => k H3⟩
end
end LK
set_option Elab.async false
set_option linter.all false
set_option maxRecDepth 100000
set_option maxHeartbeats 4000000
set_option autoImplicit false
/-! The end: what the top has written; the law's promise. -/
namespace LK
open PySem PySem.Spec L2
open C8 (Cal Met Mak)
section
variable {K : PySem.W.Frag} {h : Heap} {mg : Str → Option Value} {x m qual : Str} {C f : Addr} {st : Stmt} {ps ks : List Str} {n : Nat} {oc kV dc pm cd ct : Value} {od an : Option Addr} {sl : Array (Option Value)}
abbrev fnX (x qual : Str) (st : Stmt) (kV dc pm : Value) (an : Option Addr) (cd ct : Value) : FuncData := PySem.W.fnOf x qual (C8.fnArgs st) (C8.fnBody st) (C8.fnScope st) .none kV dc pm an cd ct
theorem fun_mk (l : K.lookup f = some ⟨oc, od, .func (fnX x qual st kV dc pm an cd ct), sl⟩) (c : PySem.W.codeIn K cd qual = true) : C8.Fun K x qual st f (fnX x qual st kV dc pm an cd ct) := ⟨oc, od, .none, kV, dc, pm, an, cd, ct, sl, rfl, l, c⟩
def BindsP (x qual : Str) (st : Stmt) (ps : List Str) : Prop := ∀ (kV doc pm : Value) (an : Option Addr) (cdv ct : Value) (us : List Value), us.length = ps.length → bindArgs (fnX x qual st kV doc pm an cdv ct) ⟨us, []⟩ = pure (ps.zip us)
def BindsK (x qual : Str) (st : Stmt) (ps : List Str) (n : Nat) (ks : List Str) : Prop := ∀ (kV doc pm : Value) (an : Option Addr) (cdv ct : Value) (us ws : List Value), us.length = n + 1 → ws.length = ks.length → bindArgs (fnX x qual st kV doc pm an cdv ct) ⟨us, ks.zip ws⟩ = pure (ps.zip (us ++ ws))
theorem kbn_mk (b : BindsK x qual st ps n ks) : KBn K (fnX x qual st kV dc pm an cd ct) ps (n + 1) ks (fun us ws => us ++ ws) (fun vs zs => vs ++ zs) := ⟨fun s us ws _ l1 l2 => .of_eq (b _ _ _ _ _ _ us ws l1 l2), fun r1 r2 => r1.append r2⟩
theorem defB_mk (b : BindsP x x st ps) (X : K.In h) (G : h.Ns mainGlobals mg) (a : PySem.W.nsIn K mainGlobals x = some (some (.ref f))) (l : K.lookup f = some ⟨oc, od, .func (fnX x x st kV dc pm an cd ct), sl⟩) (c : PySem.W.codeIn K cd x = true) (k : PySem.W.keepIn K (.ref f) = true) : DefB K mg x st ps :=
  ⟨f, _, ⟨fun_mk l c, PySem.W.mg_of X G a, k⟩, (fun_mk l c).binds rfl b⟩
theorem metB_mk (b : BindsP m qual st ps) (a : PySem.W.findIn K (.ref C) m = some (some (.ref f))) (i : PySem.W.isFn K (.ref f) = true) (l : K.lookup f = some ⟨oc, od, .func (fnX m qual st kV dc pm an cd ct), sl⟩) (c : PySem.W.codeIn K cd qual = true) (k : PySem.W.keepIn K (.ref f) = true) (cl : Cls K C) : MetB K C m qual st ps :=
  ⟨f, _, cl, ⟨a, i, k⟩, fun_mk l c, (fun_mk l c).binds rfl b⟩
theorem metKB_mk (b : BindsK m qual st ps n ks) (a : PySem.W.findIn K (.ref C) m = some (some (.ref f))) (i : PySem.W.isFn K (.ref f) = true) (l : K.lookup f = some ⟨oc, od, .func (fnX m qual st kV dc pm an cd ct), sl⟩) (c : PySem.W.codeIn K cd qual = true) (k : PySem.W.keepIn K (.ref f) = true) (cl : Cls K C) : MetKB K C m qual st ps n ks :=
  ⟨f, _, cl, ⟨a, i, k⟩, fun_mk l c, kbn_mk b⟩
theorem makKB_mk (b : BindsK "__init__" qual st ps n ks) (mk : PySem.W.makesIn K C = true) (kc : PySem.W.keepIn K (.ref C) = true) (a : PySem.W.findIn K (.ref C) "__init__" = some (some (.ref f))) (i : PySem.W.isFn K (.ref f) = true) (l : K.lookup f = some ⟨oc, od, .func (fnX "__init__" qual st kV dc pm an cd ct), sl⟩) (c : PySem.W.codeIn K cd qual = true) (hm : mg x = some (.ref C)) : MakKB K mg x C qual st ps n ks :=
  ⟨f, _, ⟨mk, a, i, kc⟩, hm, fun_mk l c, kbn_mk b⟩
theorem con_mk {i : Int} {t : Addr} (X : K.In h) (G : h.Ns mainGlobals mg) (a : PySem.W.nsIn K mainGlobals x = some (some (.int i t))) : ∃ u, mg x = some u ∧ RelV (.int i) u := ⟨_, PySem.W.mg_of X G a, ⟨t, rfl⟩⟩
/-- the law's def -/
structure LawB (K : PySem.W.Frag) (mg : Str → Option Value) : Prop where
  ex : ∃ (f : Addr) (fd : FuncData), mg "law" = some (.ref f) ∧ C8.Fun K "law" "law" s_law f fd ∧ ∀ (s : Shared) (v : Value), BindsTo s fd ⟨[v], []⟩ [("_law_script", v)]
theorem lawB_mk (X : K.In h) (G : h.Ns mainGlobals mg) (a : PySem.W.nsIn K mainGlobals "law" = some (some (.ref f))) (l : K.lookup f = some ⟨oc, od, .func (fnX "law" "law" s_law kV dc pm an cd ct), sl⟩) (c : PySem.W.codeIn K cd "law" = true) : LawB K mg :=
  ⟨f, _, PySem.W.mg_of X G a, fun_mk l c, fun s v => .of_eq rfl⟩
end
theorem b_is_whole : BindsP "is_whole" "is_whole" s_is_whole ["thing", "low", "high"] := fun _ _ _ _ _ _ us hl => match us, hl with | [_, _, _], _ => rfl
theorem b_look_number : BindsP "look_number" "look_number" s_look_number ["thing", "low", "high"] := fun _ _ _ _ _ _ us hl => match us, hl with | [_, _, _], _ => rfl
theorem b_raw : BindsP "raw" "Clock.raw" s_Clock_raw ["self", "beat"] := fun _ _ _ _ _ _ us hl => match us, hl with | [_, _], _ => rfl
theorem b_shows : BindsP "shows" "Clock.shows" s_Clock_shows ["self", "beat"] := fun _ _ _ _ _ _ us hl => match us, hl with | [_, _], _ => rfl
theorem b_clock_init : BindsK "__init__" "Clock.__init__" s_Clock_init ["self", "first", "rate"] 0 ["first", "rate"] := fun _ _ _ _ _ _ us ws hl hk => match us, ws, hl, hk with | [_], [_, _], _, _ => rfl
theorem b_twin : BindsP "twin" "Clock.twin" s_Clock_twin ["self"] := fun _ _ _ _ _ _ us hl => match us, hl with | [_], _ => rfl
theorem b_left_of : BindsP "left_of" "left_of" s_left_of ["worths", "few"] := fun _ _ _ _ _ _ us hl => match us, hl with | [_, _], _ => rfl
theorem b_middle_of : BindsP "middle_of" "middle_of" s_middle_of ["worths", "few"] := fun _ _ _ _ _ _ us hl => match us, hl with | [_, _], _ => rfl
theorem b_look_liars : BindsP "look_liars" "look_liars" s_look_liars ["liars", "houses", "few"] := fun _ _ _ _ _ _ us hl => match us, hl with | [_, _, _], _ => rfl
theorem b_members : BindsP "members" "Company.members" s_Company_members ["self"] := fun _ _ _ _ _ _ us hl => match us, hl with | [_], _ => rfl
theorem b_honest : BindsP "honest" "Company.honest" s_Company_honest ["self"] := fun _ _ _ _ _ _ us hl => match us, hl with | [_], _ => rfl
theorem b_look_honest : BindsP "look_honest" "Company.look_honest" s_Company_look_honest ["self", "house"] := fun _ _ _ _ _ _ us hl => match us, hl with | [_, _], _ => rfl
theorem b_showsC : BindsP "shows" "Company.shows" s_Company_shows ["self", "house", "beat"] := fun _ _ _ _ _ _ us hl => match us, hl with | [_, _, _], _ => rfl
theorem b_readings : BindsP "readings" "Company.readings" s_Company_readings ["self", "beat"] := fun _ _ _ _ _ _ us hl => match us, hl with | [_, _], _ => rfl
theorem b_look_lies : BindsP "look_lies" "look_lies" s_look_lies ["lies", "liars", "houses"] := fun _ _ _ _ _ _ us hl => match us, hl with | [_, _, _], _ => rfl
theorem b_look_errors : BindsP "look_errors" "Company.look_errors" s_Company_look_errors ["self", "errors"] := fun _ _ _ _ _ _ us hl => match us, hl with | [_, _], _ => rfl
theorem b_seen : BindsP "seen" "Company.seen" s_Company_seen ["self", "house", "beat", "lies", "errors"] := fun _ _ _ _ _ _ us hl => match us, hl with | [_, _, _, _, _], _ => rfl
theorem b_company_init : BindsK "__init__" "Company.__init__" s_Company_init ["self", "clocks", "few", "error", "liars", "waiting"] 1 ["few", "error", "liars", "waiting"] := fun _ _ _ _ _ _ us ws hl hk => match us, ws, hl, hk with | [_, _], [_, _, _, _], _, _ => rfl
theorem b_leave : BindsP "leave" "Company.leave" s_Company_leave ["self", "house"] := fun _ _ _ _ _ _ us hl => match us, hl with | [_, _], _ => rfl
theorem b_enter : BindsK "enter" "Company.enter" s_Company_enter ["self", "house", "beat", "lies", "offs"] 3 ["offs"] := fun _ _ _ _ _ _ us ws hl hk => match us, ws, hl, hk with | [_, _, _, _], [_], _, _ => rfl
theorem b_meet : BindsK "meet" "Company.meet" s_Company_meet ["self", "beat", "lies", "offs"] 2 ["offs"] := fun _ _ _ _ _ _ us ws hl hk => match us, ws, hl, hk with | [_, _, _], [_], _, _ => rfl
theorem b_town : BindsP "_law_town" "_law_town" s__law_town ["_law_script"] := fun _ _ _ _ _ _ us hl => match us, hl with | [_], _ => rfl
theorem b_draw : BindsP "_law_draw" "_law_draw" s__law_draw ["_law_town_here", "_law_many"] := fun _ _ _ _ _ _ us hl => match us, hl with | [_, _], _ => rfl
theorem b_pick : BindsP "_law_pick" "_law_pick" s__law_pick ["_law_town_here", "_law_some"] := fun _ _ _ _ _ _ us hl => match us, hl with | [_, _], _ => rfl
theorem b_whole : BindsP "_law_whole" "_law_whole" s__law_whole ["_law_thing"] := fun _ _ _ _ _ _ us hl => match us, hl with | [_], _ => rfl
theorem b_whole_list : BindsP "_law_whole_list" "_law_whole_list" s__law_whole_list ["_law_thing"] := fun _ _ _ _ _ _ us hl => match us, hl with | [_], _ => rfl
theorem b_number : BindsP "_law_number" "_law_number" s__law_number ["_law_town_here"] := fun _ _ _ _ _ _ us hl => match us, hl with | [_], _ => rfl
theorem b_liars : BindsP "_law_liars" "_law_liars" s__law_liars ["_law_town_here", "_law_crew", "_law_most"] := fun _ _ _ _ _ _ us hl => match us, hl with | [_, _, _], _ => rfl
theorem b_law_middle : BindsP "_law_middle" "_law_middle" s__law_middle ["_law_worths", "_law_some"] := fun _ _ _ _ _ _ us hl => match us, hl with | [_, _], _ => rfl
theorem b_reads : BindsP "_law_reads" "_law_reads" s__law_reads ["_law_house", "_law_inside", "_law_shown", "_law_foes", "_law_tales", "_law_slips_here"] := fun _ _ _ _ _ _ us hl => match us, hl with | [_, _, _, _, _, _], _ => rfl
theorem b_lies : BindsP "_law_lies" "_law_lies" s__law_lies ["_law_town_here", "_law_crew", "_law_foes", "_law_worths"] := fun _ _ _ _ _ _ us hl => match us, hl with | [_, _, _, _], _ => rfl
theorem b_slips : BindsP "_law_slips" "_law_slips" s__law_slips ["_law_town_here", "_law_size", "_law_wrong"] := fun _ _ _ _ _ _ us hl => match us, hl with | [_, _, _], _ => rfl
theorem b_law_company : BindsP "_law_company" "_law_company" s__law_company ["_law_town_here", "_law_some", "_law_crew", "_law_wrong", "_law_wait"] := fun _ _ _ _ _ _ us hl => match us, hl with | [_, _, _, _, _], _ => rfl
theorem b_law_left : BindsP "_law_left" "_law_left" s__law_left ["_law_town_here", "_law_company_here", "_law_inside", "_law_foes", "_law_waits", "_law_some"] := fun _ _ _ _ _ _ us hl => match us, hl with | [_, _, _, _, _, _], _ => rfl
theorem all_mk {l : PySem.W.OpenLaw} {w : World} {K : PySem.W.Frag} {h : Heap} {mg : Str → Option Value} {fa Ccl Cco : Addr} (X : K.In h) (G : h.Ns mainGlobals mg) (hfa : mg "law" = some (.ref fa)) (aCo : PySem.W.nsIn K mainGlobals "Company" = some (some (.ref Cco))) (T : Txt K mg Ccl Cco) (DL : LawB K mg)
    (D_is_whole : DefB K mg "is_whole" s_is_whole ["thing", "low", "high"])
    (D_look_number : DefB K mg "look_number" s_look_number ["thing", "low", "high"])
    (D_raw : Cls K Ccl → MetB K Ccl "raw" "Clock.raw" s_Clock_raw ["self", "beat"])
    (D_shows : Cls K Ccl → MetB K Ccl "shows" "Clock.shows" s_Clock_shows ["self", "beat"])
    (D_clock_init : mg "Clock" = some (.ref Ccl) → MakKB K mg "Clock" Ccl "Clock.__init__" s_Clock_init ["self", "first", "rate"] 0 ["first", "rate"])
    (D_twin : Cls K Ccl → MetB K Ccl "twin" "Clock.twin" s_Clock_twin ["self"])
    (D_left_of : DefB K mg "left_of" s_left_of ["worths", "few"])
    (D_middle_of : DefB K mg "middle_of" s_middle_of ["worths", "few"])
    (D_look_liars : DefB K mg "look_liars" s_look_liars ["liars", "houses", "few"])
    (D_members : Cls K Cco → MetB K Cco "members" "Company.members" s_Company_members ["self"])
    (D_honest : Cls K Cco → MetB K Cco "honest" "Company.honest" s_Company_honest ["self"])
    (D_look_honest : Cls K Cco → MetB K Cco "look_honest" "Company.look_honest" s_Company_look_honest ["self", "house"])
    (D_showsC : Cls K Cco → MetB K Cco "shows" "Company.shows" s_Company_shows ["self", "house", "beat"])
    (D_readings : Cls K Cco → MetB K Cco "readings" "Company.readings" s_Company_readings ["self", "beat"])
    (D_look_lies : DefB K mg "look_lies" s_look_lies ["lies", "liars", "houses"])
    (D_look_errors : Cls K Cco → MetB K Cco "look_errors" "Company.look_errors" s_Company_look_errors ["self", "errors"])
    (D_seen : Cls K Cco → MetB K Cco "seen" "Company.seen" s_Company_seen ["self", "house", "beat", "lies", "errors"])
    (D_company_init : mg "Company" = some (.ref Cco) → MakKB K mg "Company" Cco "Company.__init__" s_Company_init ["self", "clocks", "few", "error", "liars", "waiting"] 1 ["few", "error", "liars", "waiting"])
    (D_leave : Cls K Cco → MetB K Cco "leave" "Company.leave" s_Company_leave ["self", "house"])
    (D_enter : Cls K Cco → MetKB K Cco "enter" "Company.enter" s_Company_enter ["self", "house", "beat", "lies", "offs"] 3 ["offs"])
    (D_meet : Cls K Cco → MetKB K Cco "meet" "Company.meet" s_Company_meet ["self", "beat", "lies", "offs"] 2 ["offs"])
    (D_town : DefB K mg "_law_town" s__law_town ["_law_script"])
    (D_draw : DefB K mg "_law_draw" s__law_draw ["_law_town_here", "_law_many"])
    (D_pick : DefB K mg "_law_pick" s__law_pick ["_law_town_here", "_law_some"])
    (D_whole : DefB K mg "_law_whole" s__law_whole ["_law_thing"])
    (D_whole_list : DefB K mg "_law_whole_list" s__law_whole_list ["_law_thing"])
    (D_number : DefB K mg "_law_number" s__law_number ["_law_town_here"])
    (D_liars : DefB K mg "_law_liars" s__law_liars ["_law_town_here", "_law_crew", "_law_most"])
    (D_law_middle : DefB K mg "_law_middle" s__law_middle ["_law_worths", "_law_some"])
    (D_reads : DefB K mg "_law_reads" s__law_reads ["_law_house", "_law_inside", "_law_shown", "_law_foes", "_law_tales", "_law_slips_here"])
    (D_lies : DefB K mg "_law_lies" s__law_lies ["_law_town_here", "_law_crew", "_law_foes", "_law_worths"])
    (D_slips : DefB K mg "_law_slips" s__law_slips ["_law_town_here", "_law_size", "_law_wrong"])
    (D_law_company : DefB K mg "_law_company" s__law_company ["_law_town_here", "_law_some", "_law_crew", "_law_wrong", "_law_wait"])
    (D_law_left : DefB K mg "_law_left" s__law_left ["_law_town_here", "_law_company_here", "_law_inside", "_law_foes", "_law_waits", "_law_some"])
    : ∃ fd : FuncData, (∀ (s : Shared) (v : Value), BindsTo s fd ⟨[v], []⟩ [("_law_script", v)]) ∧ ∀ base : Heap, K.In base → base.Ns mainGlobals mg → FnOk l.prog w K mg base C8.CX0 8 fa fd ["_law_script"] (spLaw K) := by
  obtain ⟨f, fd, e, F, hb⟩ := DL.ex
  have e2 := hfa.symm.trans e
  cases e2
  refine ⟨fd, hb, fun base _ _ => ?_⟩
  have c_is_whole : Cal l.prog w K mg base 1 "is_whole" spIsWhole [] := ok_is_whole D_is_whole  T
  have c_look_number : Cal l.prog w K mg base 2 "look_number" spLookNumber [] := ok_look_number D_look_number c_is_whole T
  have c_Clock_raw : Met l.prog w K mg base 3 Ccl "raw" (spRaw Ccl) [] := ok_raw (D_raw T.cC) c_look_number T
  have c_Clock_shows : Met l.prog w K mg base 4 Ccl "shows" (spShows Ccl) [] := ok_shows (D_shows T.cC) c_Clock_raw T
  have c_Clock : MakN l.prog w K mg base 2 "Clock" Ccl 0 ["first", "rate"] (spClockInit Ccl) := ok_clock_init (D_clock_init T.g_Clock) c_is_whole T
  have c_Clock_twin : Met l.prog w K mg base 4 Ccl "twin" (spTwin Ccl) [] := ok_twin (D_twin T.cC) c_Clock T
  have c_left_of : Cal l.prog w K mg base 1 "left_of" spLeft [] := ok_left_of D_left_of  T
  have c_middle_of : Cal l.prog w K mg base 2 "middle_of" spMiddle [] := ok_middle_of D_middle_of c_left_of T
  have c_look_liars : Cal l.prog w K mg base 2 "look_liars" spLookLiars [] := ok_look_liars D_look_liars c_is_whole T
  have c_Company_members : Met l.prog w K mg base 1 Cco "members" (spMembers Ccl Cco) [] := ok_members (D_members T.cO)  T
  have c_Company_honest : Met l.prog w K mg base 2 Cco "honest" (spHonest Ccl Cco) [] := ok_honest (D_honest T.cO) c_Company_members T
  have c_Company_look_honest : Met l.prog w K mg base 2 Cco "look_honest" (spLookHonest Ccl Cco) [] := ok_look_honest (D_look_honest T.cO) c_is_whole T
  have c_Company_shows : Met l.prog w K mg base 5 Cco "shows" (spShowsC Ccl Cco) [] := ok_showsC (D_showsC T.cO) c_Company_look_honest c_Clock_shows T
  have c_Company_readings : Met l.prog w K mg base 5 Cco "readings" (spReadings Ccl Cco) [] := ok_readings (D_readings T.cO) c_Company_honest c_Clock_shows T
  have c_look_lies : Cal l.prog w K mg base 2 "look_lies" spLookLies [] := ok_look_lies D_look_lies c_is_whole T
  have c_Company_look_errors : Met l.prog w K mg base 2 Cco "look_errors" (spLookErrors Ccl Cco) [] := ok_look_errors (D_look_errors T.cO) c_is_whole T
  have c_Company_seen : Met l.prog w K mg base 5 Cco "seen" (spSeen Ccl Cco) [] := ok_seen (D_seen T.cO) c_Company_members c_Clock_shows T
  have c_Company : MakN l.prog w K mg base 5 "Company" Cco 1 ["few", "error", "liars", "waiting"] (spCompanyInit Ccl Cco) := ok_company_init (D_company_init (PySem.W.mg_of X G aCo)) c_look_number c_look_liars c_Clock_twin T
  have c_Company_leave : Met l.prog w K mg base 3 Cco "leave" (spLeave Ccl Cco) [] := ok_leave (D_leave T.cO) c_Company_look_honest c_Company_members T
  have c_Company_enter : MetN l.prog w K mg base 6 Cco "enter" 3 ["offs"] (spEnter Ccl Cco) := ok_enter (D_enter T.cO) c_look_number c_look_lies c_middle_of c_Clock_shows c_Company_look_honest c_Company_look_errors c_Company_seen T
  have c_Company_meet : MetN l.prog w K mg base 6 Cco "meet" 2 ["offs"] (spMeet Ccl Cco) := ok_meet (D_meet T.cO) c_look_number c_look_lies c_middle_of c_Clock_shows c_Company_honest c_Company_look_errors c_Company_seen T
  have c__law_town : Cal l.prog w K mg base 1 "_law_town" (spTown K) [] := ok_town D_town  T
  have c__law_draw : Cal l.prog w K mg base 1 "_law_draw" spDraw [] := ok_draw D_draw  T
  have c__law_pick : Cal l.prog w K mg base 2 "_law_pick" spPick [] := ok_pick D_pick c__law_draw T
  have c__law_whole : Cal l.prog w K mg base 1 "_law_whole" spWhole [] := ok_whole D_whole  T
  have c__law_whole_list : Cal l.prog w K mg base 2 "_law_whole_list" spWholeList [] := ok_whole_list D_whole_list c__law_whole T
  have c__law_number : Cal l.prog w K mg base 3 "_law_number" spNumber [] := ok_number D_number c__law_draw c__law_pick T
  have c__law_liars : Cal l.prog w K mg base 2 "_law_liars" spLiars [] := ok_liars D_liars c__law_draw T
  have c__law_middle : Cal l.prog w K mg base 1 "_law_middle" spLawMiddle [] := ok_law_middle D_law_middle  T
  have c__law_reads : Cal l.prog w K mg base 1 "_law_reads" spReads [] := ok_reads D_reads  T
  have c__law_lies : Cal l.prog w K mg base 4 "_law_lies" spLies [] := ok_lies D_lies c__law_draw c__law_pick c__law_number T
  have c__law_slips : Cal l.prog w K mg base 3 "_law_slips" spSlips [] := ok_slips D_slips c__law_draw c__law_pick T
  have c__law_company : Cal l.prog w K mg base 7 "_law_company" (spLawCompany Ccl Cco) [] := ok_law_company D_law_company c__law_draw c__law_liars c_Clock c_Company T
  have c__law_left : Cal l.prog w K mg base 4 "_law_left" (spLawLeft Ccl Cco) [] := ok_law_left D_law_left c__law_pick c_Company_leave T
  exact ok_law F c__law_town c__law_draw c__law_pick c__law_whole_list c__law_middle c__law_reads c__law_lies c__law_slips c__law_company c__law_left c_Clock_shows c_Company_shows c_Company_members c_Company_honest c_Company_readings c_Company_enter c_Company_meet T
theorem txt_mk {K : PySem.W.Frag} {h : Heap} {mg : Str → Option Value} {Ccl Cco : Addr} {t_MOST t_RATE t_MOST_RATE t_MOST_BEAT t_MOST_FEW t_MOST_HOUSES t_MOST_ERROR : Addr} (X : K.In h) (G : h.Ns mainGlobals mg)
    (aCl : PySem.W.nsIn K mainGlobals "Clock" = some (some (.ref Ccl)))
    (aCo : PySem.W.nsIn K mainGlobals "Company" = some (some (.ref Cco)))
    (pgCl : PySem.W.plainGet K Ccl Str.empty = true)
    (hdCl : PySem.W.hasDictIn K Ccl = true)
    (poCl : PySem.W.plainOver K Ccl = true)
    (saCl : PySem.W.findIn K (.ref Ccl) "__setattr__" = some (some (.builtin "object.__setattr__")))
    (pgCo : PySem.W.plainGet K Cco Str.empty = true)
    (hdCo : PySem.W.hasDictIn K Cco = true)
    (poCo : PySem.W.plainOver K Cco = true)
    (saCo : PySem.W.findIn K (.ref Cco) "__setattr__" = some (some (.builtin "object.__setattr__")))
    (haCl : PySem.W.findIn K (.ref Ccl) "__class__" = some (some (.builtin "object.__class__")))
    (hnCl : PySem.W.specialIn K (.builtin "object.__class__") "__get__" = some (some (.builtin "getset_descriptor.__get__")))
    (htCl : PySem.W.takesIn K (.builtin "object.__class__") = some true)
    (hmCl : PySem.W.mroIn K Ccl (.type "object") = some true)
    (meCl : PySem.W.kitOne K (.ref Ccl) (.ref Ccl) = some true)
    (nCl_first : NoAttr K Ccl "first")
    (nCl_rate : NoAttr K Ccl "rate")
    (nCl_set_by : NoAttr K Ccl "set_by")
    (nCo_clocks : NoAttr K Cco "clocks")
    (nCo_few : NoAttr K Cco "few")
    (nCo_error : NoAttr K Cco "error")
    (nCo_liars : NoAttr K Cco "liars")
    (nCo_waits : NoAttr K Cco "waits")
    (nCo_last : NoAttr K Cco "last")
    (nCo_steps : NoAttr K Cco "steps")
    (z_isinstance : PySem.W.nsIn K mainGlobals "isinstance" = some none)
    (z_len : PySem.W.nsIn K mainGlobals "len" = some none)
    (z_sorted : PySem.W.nsIn K mainGlobals "sorted" = some none)
    (z_all : PySem.W.nsIn K mainGlobals "all" = some none)
    (z_any : PySem.W.nsIn K mainGlobals "any" = some none)
    (z_max : PySem.W.nsIn K mainGlobals "max" = some none)
    (z_min : PySem.W.nsIn K mainGlobals "min" = some none)
    (z_set : PySem.W.nsIn K mainGlobals "set" = some none)
    (z_list : PySem.W.nsIn K mainGlobals "list" = some none)
    (z_range : PySem.W.nsIn K mainGlobals "range" = some none)
    (z_int : PySem.W.nsIn K mainGlobals "int" = some none)
    (z_bool : PySem.W.nsIn K mainGlobals "bool" = some none)
    (z_tuple : PySem.W.nsIn K mainGlobals "tuple" = some none)
    (z_dict : PySem.W.nsIn K mainGlobals "dict" = some none)
    (k_MOST : PySem.W.nsIn K mainGlobals "MOST" = some (some (.int 1000000 t_MOST)))
    (k_RATE : PySem.W.nsIn K mainGlobals "RATE" = some (some (.int 1000 t_RATE)))
    (k_MOST_RATE : PySem.W.nsIn K mainGlobals "MOST_RATE" = some (some (.int 100 t_MOST_RATE)))
    (k_MOST_BEAT : PySem.W.nsIn K mainGlobals "MOST_BEAT" = some (some (.int 100000 t_MOST_BEAT)))
    (k_MOST_FEW : PySem.W.nsIn K mainGlobals "MOST_FEW" = some (some (.int 5 t_MOST_FEW)))
    (k_MOST_HOUSES : PySem.W.nsIn K mainGlobals "MOST_HOUSES" = some (some (.int 16 t_MOST_HOUSES)))
    (k_MOST_ERROR : PySem.W.nsIn K mainGlobals "MOST_ERROR" = some (some (.int 100 t_MOST_ERROR))) : Txt K mg Ccl Cco :=
  ⟨PySem.W.mg_none_of X G z_isinstance, PySem.W.mg_none_of X G z_len, PySem.W.mg_none_of X G z_sorted, PySem.W.mg_none_of X G z_all, PySem.W.mg_none_of X G z_any, PySem.W.mg_none_of X G z_max, PySem.W.mg_none_of X G z_min, PySem.W.mg_none_of X G z_set, PySem.W.mg_none_of X G z_list, PySem.W.mg_none_of X G z_range, PySem.W.mg_none_of X G z_int, PySem.W.mg_none_of X G z_bool, PySem.W.mg_none_of X G z_tuple, PySem.W.mg_none_of X G z_dict, con_mk X G k_MOST, con_mk X G k_RATE, con_mk X G k_MOST_RATE, con_mk X G k_MOST_BEAT, con_mk X G k_MOST_FEW, con_mk X G k_MOST_HOUSES, con_mk X G k_MOST_ERROR, PySem.W.mg_of X G aCl, ⟨⟨pgCl, hdCl, poCl, saCl⟩, haCl, hnCl, htCl, hmCl, meCl⟩, ⟨pgCl, hdCl, poCl, saCl⟩, ⟨pgCo, hdCo, poCo, saCo⟩, nCl_first, nCl_rate, nCl_set_by, nCo_clocks, nCo_few, nCo_error, nCo_liars, nCo_waits, nCo_last, nCo_steps⟩
theorem walk {l : PySem.W.OpenLaw} {q : Program} {loose : List Str} {XP : (Str → Option Value) → Heap → Prop} {YP : World → Heap → Prop} {d : DefRec} {K : Params → PySem.W.Frag} (hn : l.most = some 63) (hdf : d.params.defaults = [])
    (hY : ∀ (w : World) (h : Heap), YP w h → (K w.params).In h)
    (F : ∀ (w : World) (mg : Str → Option Value) (fa : Addr) (h : Heap), (K w.params).In h → h.Ns mainGlobals mg → mg d.name = some (.ref fa) →
      ∃ fd : FuncData, (∀ (s : Shared) (u : Value), BindsTo s fd ⟨[u], []⟩ [("_law_script", u)]) ∧ ∀ base : Heap, (K w.params).In base → base.Ns mainGlobals mg → FnOk l.prog w (K w.params) mg base C8.CX0 8 fa fd ["_law_script"] (spLaw (K w.params))) :
    PySem.W.WalkO q loose XP YP l.row.toRowW d [] (fun f vs => PySem.call f vs) :=
  L2.walk_of (n := 63) (k := 8) (x := "_law_script") (CX := fun _ => C8.CX0) (sp := fun w => spLaw (K w.params)) hn (by decide) hdf ⟨rfl, by decide, by decide⟩ hY F (fun _ _ a ns hl _ hS => ⟨a, ns, rfl, hS, hl, fun _ => rfl⟩) fun _ _ _ _ _ z => z
end LK
set_option Elab.async false
set_option linter.all false
set_option maxRecDepth 100000
open PySem PySem.W PyProof.Rows in
set_option maxRecDepth 100000 in
set_option maxHeartbeats 0 in
theorem PySem.Challenge.cw_liarclocks_k18_whole_joined_holds : PySem.Challenge.rw_liarclocks_k18_whole_joined.Holds := by
  w_on; o_law; k_head; (case hw => w_witness2)
  k_fill
  refine LK.walk (l := PySem.Challenge.rw_liarclocks_k18_whole_joined) rfl rfl (fun w h Y => PySem.W.kIn_of Y) ?F
  case F =>
    intro w mg fa h KX G hmg
    refine' LK.all_mk KX G hmg ?bCo (LK.txt_mk KX G ?aCl ?aCo ?pgCl ?hdCl ?poCl ?saCl ?pgCo ?hdCo ?poCo ?saCo ?haCl ?hnCl ?htCl ?hmCl ?meCl ?nCl_first ?nCl_rate ?nCl_set_by ?nCo_clocks ?nCo_few ?nCo_error ?nCo_liars ?nCo_waits ?nCo_last ?nCo_steps ?z_isinstance ?z_len ?z_sorted ?z_all ?z_any ?z_max ?z_min ?z_set ?z_list ?z_range ?z_int ?z_bool ?z_tuple ?z_dict ?k_MOST ?k_RATE ?k_MOST_RATE ?k_MOST_BEAT ?k_MOST_FEW ?k_MOST_HOUSES ?k_MOST_ERROR) ?DL ?D_is_whole ?D_look_number ?D_raw ?D_shows ?D_clock_init ?D_twin ?D_left_of ?D_middle_of ?D_look_liars ?D_members ?D_honest ?D_look_honest ?D_showsC ?D_readings ?D_look_lies ?D_look_errors ?D_seen ?D_company_init ?D_leave ?D_enter ?D_meet ?D_town ?D_draw ?D_pick ?D_whole ?D_whole_list ?D_number ?D_liars ?D_law_middle ?D_reads ?D_lies ?D_slips ?D_law_company ?D_law_left
    (case bCo => k_is)
    (case aCl => k_is)
    (case aCo => k_is)
    (case pgCl => k_is)
    (case hdCl => k_is)
    (case poCl => k_is)
    (case saCl => k_is)
    (case pgCo => k_is)
    (case hdCo => k_is)
    (case poCo => k_is)
    (case saCo => k_is)
    (case haCl => k_is)
    (case hnCl => k_is)
    (case htCl => k_is)
    (case hmCl => k_is)
    (case meCl => rfl)
    (case nCl_first => unfold L2.NoAttr; k_is)
    (case nCl_rate => unfold L2.NoAttr; k_is)
    (case nCl_set_by => unfold L2.NoAttr; k_is)
    (case nCo_clocks => unfold L2.NoAttr; k_is)
    (case nCo_few => unfold L2.NoAttr; k_is)
    (case nCo_error => unfold L2.NoAttr; k_is)
    (case nCo_liars => unfold L2.NoAttr; k_is)
    (case nCo_waits => unfold L2.NoAttr; k_is)
    (case nCo_last => unfold L2.NoAttr; k_is)
    (case nCo_steps => unfold L2.NoAttr; k_is)
    (case z_isinstance => k_is)
    (case z_len => k_is)
    (case z_sorted => k_is)
    (case z_all => k_is)
    (case z_any => k_is)
    (case z_max => k_is)
    (case z_min => k_is)
    (case z_set => k_is)
    (case z_list => k_is)
    (case z_range => k_is)
    (case z_int => k_is)
    (case z_bool => k_is)
    (case z_tuple => k_is)
    (case z_dict => k_is)
    (case k_MOST => k_is)
    (case k_RATE => k_is)
    (case k_MOST_RATE => k_is)
    (case k_MOST_BEAT => k_is)
    (case k_MOST_FEW => k_is)
    (case k_MOST_HOUSES => k_is)
    (case k_MOST_ERROR => k_is)
    (case DL => refine' LK.lawB_mk KX G ?a ?l ?c; (case a => k_is); (case l => k_is); (case c => k_is))
    (case D_is_whole => refine' LK.defB_mk LK.b_is_whole KX G ?a ?l ?c ?k; (case a => k_is); (case l => k_is); (case c => k_is); (case k => k_is))
    (case D_look_number => refine' LK.defB_mk LK.b_look_number KX G ?a ?l ?c ?k; (case a => k_is); (case l => k_is); (case c => k_is); (case k => k_is))
    (case D_raw => refine' LK.metB_mk LK.b_raw ?a ?i ?l ?c ?k; (case a => k_is); (case i => k_is); (case l => k_is); (case c => k_is); (case k => k_is))
    (case D_shows => refine' LK.metB_mk LK.b_shows ?a ?i ?l ?c ?k; (case a => k_is); (case i => k_is); (case l => k_is); (case c => k_is); (case k => k_is))
    (case D_clock_init => refine' LK.makKB_mk LK.b_clock_init ?mk ?kc ?a ?i ?l ?c; (case mk => k_is); (case kc => k_is); (case a => k_is); (case i => k_is); (case l => k_is); (case c => k_is))
    (case D_twin => refine' LK.metB_mk LK.b_twin ?a ?i ?l ?c ?k; (case a => k_is); (case i => k_is); (case l => k_is); (case c => k_is); (case k => k_is))
    (case D_left_of => refine' LK.defB_mk LK.b_left_of KX G ?a ?l ?c ?k; (case a => k_is); (case l => k_is); (case c => k_is); (case k => k_is))
    (case D_middle_of => refine' LK.defB_mk LK.b_middle_of KX G ?a ?l ?c ?k; (case a => k_is); (case l => k_is); (case c => k_is); (case k => k_is))
    (case D_look_liars => refine' LK.defB_mk LK.b_look_liars KX G ?a ?l ?c ?k; (case a => k_is); (case l => k_is); (case c => k_is); (case k => k_is))
    (case D_members => refine' LK.metB_mk LK.b_members ?a ?i ?l ?c ?k; (case a => k_is); (case i => k_is); (case l => k_is); (case c => k_is); (case k => k_is))
    (case D_honest => refine' LK.metB_mk LK.b_honest ?a ?i ?l ?c ?k; (case a => k_is); (case i => k_is); (case l => k_is); (case c => k_is); (case k => k_is))
    (case D_look_honest => refine' LK.metB_mk LK.b_look_honest ?a ?i ?l ?c ?k; (case a => k_is); (case i => k_is); (case l => k_is); (case c => k_is); (case k => k_is))
    (case D_showsC => refine' LK.metB_mk LK.b_showsC ?a ?i ?l ?c ?k; (case a => k_is); (case i => k_is); (case l => k_is); (case c => k_is); (case k => k_is))
    (case D_readings => refine' LK.metB_mk LK.b_readings ?a ?i ?l ?c ?k; (case a => k_is); (case i => k_is); (case l => k_is); (case c => k_is); (case k => k_is))
    (case D_look_lies => refine' LK.defB_mk LK.b_look_lies KX G ?a ?l ?c ?k; (case a => k_is); (case l => k_is); (case c => k_is); (case k => k_is))
    (case D_look_errors => refine' LK.metB_mk LK.b_look_errors ?a ?i ?l ?c ?k; (case a => k_is); (case i => k_is); (case l => k_is); (case c => k_is); (case k => k_is))
    (case D_seen => refine' LK.metB_mk LK.b_seen ?a ?i ?l ?c ?k; (case a => k_is); (case i => k_is); (case l => k_is); (case c => k_is); (case k => k_is))
    (case D_company_init => refine' LK.makKB_mk LK.b_company_init ?mk ?kc ?a ?i ?l ?c; (case mk => k_is); (case kc => k_is); (case a => k_is); (case i => k_is); (case l => k_is); (case c => k_is))
    (case D_leave => refine' LK.metB_mk LK.b_leave ?a ?i ?l ?c ?k; (case a => k_is); (case i => k_is); (case l => k_is); (case c => k_is); (case k => k_is))
    (case D_enter => refine' LK.metKB_mk LK.b_enter ?a ?i ?l ?c ?k; (case a => k_is); (case i => k_is); (case l => k_is); (case c => k_is); (case k => k_is))
    (case D_meet => refine' LK.metKB_mk LK.b_meet ?a ?i ?l ?c ?k; (case a => k_is); (case i => k_is); (case l => k_is); (case c => k_is); (case k => k_is))
    (case D_town => refine' LK.defB_mk LK.b_town KX G ?a ?l ?c ?k; (case a => k_is); (case l => k_is); (case c => k_is); (case k => k_is))
    (case D_draw => refine' LK.defB_mk LK.b_draw KX G ?a ?l ?c ?k; (case a => k_is); (case l => k_is); (case c => k_is); (case k => k_is))
    (case D_pick => refine' LK.defB_mk LK.b_pick KX G ?a ?l ?c ?k; (case a => k_is); (case l => k_is); (case c => k_is); (case k => k_is))
    (case D_whole => refine' LK.defB_mk LK.b_whole KX G ?a ?l ?c ?k; (case a => k_is); (case l => k_is); (case c => k_is); (case k => k_is))
    (case D_whole_list => refine' LK.defB_mk LK.b_whole_list KX G ?a ?l ?c ?k; (case a => k_is); (case l => k_is); (case c => k_is); (case k => k_is))
    (case D_number => refine' LK.defB_mk LK.b_number KX G ?a ?l ?c ?k; (case a => k_is); (case l => k_is); (case c => k_is); (case k => k_is))
    (case D_liars => refine' LK.defB_mk LK.b_liars KX G ?a ?l ?c ?k; (case a => k_is); (case l => k_is); (case c => k_is); (case k => k_is))
    (case D_law_middle => refine' LK.defB_mk LK.b_law_middle KX G ?a ?l ?c ?k; (case a => k_is); (case l => k_is); (case c => k_is); (case k => k_is))
    (case D_reads => refine' LK.defB_mk LK.b_reads KX G ?a ?l ?c ?k; (case a => k_is); (case l => k_is); (case c => k_is); (case k => k_is))
    (case D_lies => refine' LK.defB_mk LK.b_lies KX G ?a ?l ?c ?k; (case a => k_is); (case l => k_is); (case c => k_is); (case k => k_is))
    (case D_slips => refine' LK.defB_mk LK.b_slips KX G ?a ?l ?c ?k; (case a => k_is); (case l => k_is); (case c => k_is); (case k => k_is))
    (case D_law_company => refine' LK.defB_mk LK.b_law_company KX G ?a ?l ?c ?k; (case a => k_is); (case l => k_is); (case c => k_is); (case k => k_is))
    (case D_law_left => refine' LK.defB_mk LK.b_law_left KX G ?a ?l ?c ?k; (case a => k_is); (case l => k_is); (case c => k_is); (case k => k_is))
