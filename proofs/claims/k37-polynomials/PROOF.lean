import PyProof.Rows.All
import HandS.SortKw
import HandS.DictTup
import KE.KDictCopyH
import KE.KDictOf
import Wide.All
import OpenK.AllK
import Wide.FinOn
import HandS.Base
import HandS.Call
import HandS.List
import HandS.Comp
import HandS.Iter
import HandS.Exc
import HandS.Dict
import HandS.Wide
import HandS.WideBits
import HandS.Conv
import HandS.IsInst
import HandS.TupAny
import HandS.Style
import KE.SortData
import HandS.SortInts
import HandS.Small
import HandS.Zip
import HandS.Rev
import KE.GoesEnum
import HandS.WideMore
import HandS.Defaults
import HandS.Head0
import HandS.Head1
import HandS.Head2
import HandS.HeadEnd
import HandS.HeadHook1
import HandS.HeadHook2
import HandS.Words
import HandS.Head3
import PySem.Challenge.RW_spanbench_k37_polynomials
section
set_option Elab.async false
set_option linter.all false
set_option maxRecDepth 100000
set_option maxHeartbeats 8000000
/-! M1: max of a list of ints with a default. -/
namespace G
open PySem PySem.Spec PyProof.Rows L2
section
variable {pg : Program} {wd : World} {B : Around} {Z : Result → Shared → Prop} {J : Addr} {fq wq : List Addr} {m : Nat} {Pv : Nat → Value → Prop} {Sv : Nat → Heap → Prop}
abbrev dkw (dv : Value) : List (Str × Value) := [(("default" : Str), dv)]
theorem mxd_loop (W : Walks pg wd B.in1 J fq wq m Pv Sv) (bt : Nat → Nat → Bool) (cm : CmpOf pg wd B.in1 .Gt Pv bt) (T : Addr) (nT : T ∉ fq) (dv : Value) :
    ∀ (r j : Nat) (z : Shared) (c : Nat) (it : Array Value), m - j = r → j ≤ m → Sv j z.heap → (j = 0 ∧ it = #[] ∨ 0 < j ∧ ∃ vb, it = #[vb, vb] ∧ Pv (argBest bt (j - 1)) vb) →
    z.heap.get? T = some { cls := .type "list", dict := none, data := .seq it c, slots := #[] } →
    (∀ v h2 tk, (m = 0 ∧ v = dv ∨ 0 < m ∧ Pv (argBest bt (m - 1)) v) → (∀ b o, b ∉ wq → b ≠ T → z.heap.get? b = some o → h2.get? b = some o) → Z (.ok (.ret v)) { z with heap := h2, toks := tk }) →
    codeAny (model pg wd) B (.builtin "max.loop" ⟨[.ref J, .none, .ref T], dkw dv⟩) Z z := by
  have nw : T ∉ wq := fun h => nT (W.sub _ h)
  have en : (toString "max" ++ toString ".loop" : String) = "max.loop" := by decide
  intro r
  induction r with
  | zero =>
    intro j z c it hr hj hs hb hT hZ
    have hjm : j = m := by omega
    refine codeAny_builtin F.entry_max_loop ?_
    rw [Around.under_plainId F.plain_max_loop _]
    show wpAny _ B.in1 (seqItems? (.ref T) >>= _) _ _ z
    refine wpAny_bind (wpAny_seqItems hT rfl ?_)
    show wpAny _ B.in1 (tryCatch (pyNext (.ref J)) _ >>= _) _ _ z
    refine wpAny_bind (wpAny_tryCatch (W.done z _ _ (hjm ▸ hs) fun h2 tk kp => ?_))
    have hT2 := kp T _ nw hT
    rcases hb with ⟨j0, rfl⟩ | ⟨jp, vb, rfl, hv⟩
    · refine wpAny_bind (wpAny_rule (wpAny_pure ?_))
      exact hZ dv h2 tk (.inl ⟨by omega, rfl⟩) fun b o q _ e => kp b o q e
    · show wpAny _ B.in1 (updateSeq T (fun _ => #[]) >>= _) _ _ _
      refine wpAny_bind ?_
      refine wpAny_updateSeq hT2 rfl (wpAny_bind (wpAny_letGo (wpAny_pure ?_)))
      exact hZ vb _ tk (.inr ⟨by omega, by rw [← hjm]; exact hv⟩) fun b o q1 q2 e => (Heap.get?_update_other _ _ (Ne.symm q2)).trans (kp b o q1 e)
  | succ r ih =>
    intro j z c it hr hj hs hb hT hZ
    have hlt : j < m := by omega
    refine codeAny_builtin F.entry_max_loop ?_
    rw [Around.under_plainId F.plain_max_loop _]
    show wpAny _ B.in1 (seqItems? (.ref T) >>= _) _ _ z
    refine wpAny_bind (wpAny_seqItems hT rfl ?_)
    show wpAny _ B.in1 (tryCatch (pyNext (.ref J)) _ >>= _) _ _ z
    refine wpAny_bind (wpAny_tryCatch (W.item j z _ _ hlt hs fun v h2 tk hP hs2 kp => ?_))
    have hT2 := kp T _ nw hT
    have fr : ∀ (it' : Array Value → Array Value) b, b ∈ fq → ∀ o, h2.get? b = some o → (h2.update T (Obj.mapSeq it')).get? b = some o := fun it' b hbf o e => (Heap.get?_update_other _ _ (fun h : T = b => nT (by rw [h]; exact hbf))).trans e
    rcases hb with ⟨j0, rfl⟩ | ⟨jp, vb, rfl, hv⟩
    · subst j0
      show wpAny _ B.in1 (updateSeq T (fun _ => #[v, v]) >>= _) _ _ _
      refine wpAny_bind ?_
      refine wpAny_updateSeq hT2 rfl ?_
      rw [en]
      refine wpAny_pure ⟨plainId_quiet F.plain_max_loop _, ih 1 _ _ #[v, v] (by omega) hlt (W.frame _ _ _ hs2 (fr _)) (.inr ⟨by omega, v, rfl, hP⟩) (Heap.get?_update_self _ hT2 rfl) fun v' h3 tk3 hP3 kp3 => ?_⟩
      exact hZ v' h3 tk3 hP3 fun b o q1 q2 e => kp3 b o q1 q2 ((Heap.get?_update_other _ _ (Ne.symm q2)).trans (kp b o q1 e))
    · obtain ⟨i, rfl⟩ : ∃ i, j = i + 1 := ⟨j - 1, by omega⟩
      have hv' : Pv (argBest bt i) vb := hv
      show wpAny _ B.in1 (tryCatch (holding [v, v] (richCompare .Gt v vb >>= _)) _ >>= _) _ _ _
      refine wpAny_bind (wpAny_tryCatch (wpAny_holding (wpAny_bind (cm (i + 1) (argBest bt i) v vb _ _ _ hP hv' ?_))))
      refine wpAny_bind (wpAny_holding (wpAny_truthy_bool ?_))
      refine wpAny_bind (wpAny_letGo (wpAny_pure ?_))
      cases hbt : bt (i + 1) (argBest bt i) with
      | true =>
        simp only [if_true]
        refine wpAny_bind ?_
        refine wpAny_updateSeq hT2 rfl (wpAny_bind (wpAny_letGo ?_))
        rw [en]
        refine wpAny_pure ⟨plainId_quiet F.plain_max_loop _, ih (i + 1 + 1) _ _ #[v, v] (by omega) hlt (W.frame _ _ _ hs2 (fr _)) (.inr ⟨by omega, v, rfl, ?_⟩) (Heap.get?_update_self _ hT2 rfl) fun v' h3 tk3 hP3 kp3 => ?_⟩
        · show Pv (argBest bt (i + 1)) v
          simp only [argBest, hbt, if_true]; exact hP
        · exact hZ v' h3 tk3 hP3 fun b o q1 q2 e => kp3 b o q1 q2 ((Heap.get?_update_other _ _ (Ne.symm q2)).trans (kp b o q1 e))
      | false =>
        simp only [Bool.false_eq_true, if_false]
        refine wpAny_bind (wpAny_letGo ?_)
        rw [en]
        refine wpAny_pure ⟨plainId_quiet F.plain_max_loop _, ih (i + 1 + 1) _ c #[vb, vb] (by omega) hlt hs2 (.inr ⟨by omega, vb, rfl, ?_⟩) hT2 fun v' h3 tk3 hP3 kp3 => ?_⟩
        · show Pv (argBest bt (i + 1)) vb
          simp only [argBest, hbt, Bool.false_eq_true, if_false]; exact hv'
        · exact hZ v' h3 tk3 hP3 fun b o q1 q2 e => kp3 b o q1 q2 (kp b o q1 e)
end
theorem args_maxd (a dv : Value) : argsOk "max" ⟨[a], dkw dv⟩ := by unfold argsOk; kernel_rfl
section
variable {pg : Program} {wd : World} {B : Around} {E : Value → Shared → Prop} {z : Shared} {l : Addr} {xs : Array (Int × Tok)}
theorem kw_tree {id : String} {b : Builtin} {vs : List Value} {kw : List (Str × Value)} {Q : Value → Shared → Prop} (hk : builtinKind id = none) (hp : plainId id = true) (hb : entryFor table id = some b) (ha : argsOk id ⟨vs, kw⟩)
    (hc : wpAny (model pg wd) B.in1 (b ⟨vs, kw⟩) (fun fin z' => match fin with
      | .done f => wants Q E (Except.ok f : Result) z'
      | .again c2 => c2.quiet = true ∧ codeAny (model pg wd) B c2 (wants Q E) z') E z) : wpAny (model pg wd) B (call (.builtin id) vs kw) Q E z := by
  refine wpAny_call (codeAny_call_builtin hp hb ?_)
  simp only [checkBuiltinCall, hk]
  cases hs : Manifest.signature? id with
  | none => exact wpAny_pure hc
  | some sg =>
    have hz : Bind.checkArgs id sg ⟨vs, kw⟩ = pure () := by simpa only [argsOk, hs] using ha
    simp only [hz]
    exact wpAny_pure hc
theorem maxd_list {Q : Value → Shared → Prop} (dv : Value) (hh : B.handled = none) (hl : z.heap.IsList l (intItems xs))
    (h : ∀ v h2 tk, (xs.size = 0 ∧ v = dv ∨ 0 < xs.size ∧ (intItems xs)[argBest (fun i j => decide (numAt xs i > numAt xs j)) (xs.size - 1)]? = some v) → (∀ b o, z.heap.get? b = some o → h2.get? b = some o) → Q v { z with heap := h2, toks := tk }) :
    wpAny (model pg wd) B (call (.builtin "max") [.ref l] (dkw dv)) Q E z := by
  have en : (toString "max" ++ toString ".loop" : String) = "max.loop" := by decide
  refine kw_tree F.kind_max F.plain_max F.entry_max (args_maxd _ _) ?_
  show wpAny _ B.in1 (Builtin.Builtins.bindParams "max" ["key", "default"] 0 ⟨[], dkw dv⟩ >>= _) _ _ z
  refine wpAny_bind (wpAny_of_eq (show Builtin.Builtins.bindParams "max" ["key", "default"] 0 ⟨[], dkw dv⟩ = pure [none, some dv] from rfl) ?_)
  refine wpAny_bind (wpAny_pure ?_)
  refine wpAny_bind (iter_intList hl fun z2 e st hfp hlI => ?_)
  subst e
  refine wpAny_bind (wpAny_newObj_type ?_)
  rw [en]
  have Wk := Walks.list (prog := pg) (w := wd) (A := B.in1) hh z.heap.objs.size l hlI (intItems xs)
  refine wpAny_pure ⟨plainId_quiet F.plain_max_loop _, ?_⟩
  refine mxd_loop Wk _ (CmpOf.ints_gt (numAt xs) (fun _ _ => intItems_at)) _ (fun q => Nat.lt_irrefl _ (hfp _ q)) dv _ 0 _ _ #[] rfl (Nat.zero_le _) ?_ (.inl ⟨rfl, rfl⟩) (Heap.get?_push_size _ rfl) fun v h2 tk hv kp => ?_
  · exact Wk.frame 0 _ _ st fun b _ o q => Heap.get?_push_of_some _ q
  refine h v h2 tk ?_ fun b o q => ?_
  · simpa [intItems] using hv
  · have q1 : b < z.heap.objs.size := Heap.lt_size q
    refine kp b o (fun hm => ?_) (fun e => ?_) (Heap.get?_push_of_some _ (Heap.get?_push_of_some _ q))
    rotate_left
    · have e2 : b = (z.heap.push { cls := .type "list_iterator", data := .fields #[.ref l, .int 0 0] }).objs.size := e
      rw [Heap.size_push] at e2
      exact absurd q1 (by rw [e2]; exact fun h => Nat.lt_irrefl _ (Nat.lt_of_succ_lt h))
    rcases List.mem_cons.mp hm with rfl | hm
    · exact Nat.lt_irrefl _ q1
    · cases hm
end
theorem maxd_raw {pg : Program} {wd : World} {B : Around} {E : Value → Shared → Prop} {z : Shared} {l : Addr} {its : List Value} {ns : List Int} {Q : Value → Shared → Prop} (dv : Value) (hh : B.handled = none) (hl : z.heap.IsList l its.toArray) (hi : IntsAre its ns)
    (h : ∀ h2 tk v, (∀ b o, z.heap.get? b = some o → h2.get? b = some o) → (ns = [] ∧ v = dv ∨ ∃ M t, v = .int M t ∧ M ∈ ns ∧ ∀ a, a ∈ ns → a ≤ M) → Q v { z with heap := h2, toks := tk }) : wpAny (model pg wd) B (call (.builtin "max") [.ref l] (dkw dv)) Q E z := by
  obtain ⟨xs, e⟩ := hi.allInts.items
  have hn : numsOf (intItems xs).toList = ns := by rw [← e]; exact hi.numsOf
  rw [nums_intItems] at hn
  subst hn
  rw [e] at hl
  refine maxd_list dv hh hl fun v h2 tk hv kp => h h2 tk v kp ?_
  rcases hv with ⟨h0, rfl⟩ | ⟨h0, hv⟩
  · refine .inl ⟨?_, rfl⟩
    have : xs.toList = [] := List.length_eq_zero_iff.mp (by simpa using h0)
    rw [this]; rfl
  · obtain ⟨t, rfl⟩ := intItems_at hv
    obtain ⟨h1, h3⟩ := argBest_gt (numAt xs) (xs.size - 1)
    refine .inr ⟨_, t, rfl, ?_, fun a ha => ?_⟩
    · rw [numAt_eq]; exact PySem.getD_mem (by rw [List.length_map, Array.length_toList]; omega)
    · obtain ⟨j, hj, rfl⟩ := mem_getD ha
      rw [List.length_map, Array.length_toList] at hj
      rw [← numAt_eq]; exact h3 j (by omega)
theorem cr_maxdflt {X : Cx} (hc : X.calm = true) : CallRK X (.builtin "max") [("default" : Str)] (fun vs zs H Q => ∃ (a : Addr) (ns : List Int) (d : V), vs = [V.ref a] ∧ zs = [d] ∧ SqL X.K H a (ns.map V.int) ∧ ∀ m, (ns = [] ∧ m = d ∨ ∃ M, m = .int M ∧ M ∈ ns ∧ ∀ y, y ∈ ns → y ≤ M) → Q m H) := by
  intro pins s σ H xs zs us ws Q I r r2 ⟨a, ns, d, e1, e2, hs, q⟩
  subst e1 e2
  obtain ⟨its, rv, hl, _⟩ := I.list hs
  obtain ⟨dv, rfl, rd⟩ := Vals.one r2
  rw [Vals.ref1 r]
  refine maxd_raw dv (I.ok.hd hc) hl.isList rv.ints fun h2 tk v kp hv => ?_
  rcases hv with ⟨h0, rfl⟩ | ⟨M, t, rfl, h1, h3⟩
  · exact ⟨d, H, I.kept kp, rd, q d (.inl ⟨h0, rfl⟩)⟩
  · exact ⟨.int M, H, I.kept kp, ⟨t, rfl⟩, q _ (.inr ⟨M, rfl, h1, h3⟩)⟩
end G

end

section
set_option Elab.async false
set_option linter.all false
set_option maxRecDepth 100000
set_option maxHeartbeats 8000000
/-! M2: dicts of tuple keys: a copy, a display of one pair. -/
namespace G
open PySem PySem.Spec PyProof.Rows L2
abbrev hashK (w : World) (k : List Key) : Int := reduceHash (Builtin.Tuple.tupleHashOf (k.map (L2.keyH w)))
section
variable {X : Cx} {pins : List (Addr × Obj)} {σ : L2.St} {H : Hp} {s : Shared}
theorem kt_hash {kvs : List (List Key × V)} {xs : List (List Key × Addr × Value)} (r : KT H kvs xs) (f : List Key → Int) : (xs.map fun x => f x.1) = kvs.map fun p => f p.1 := by
  induction r with
  | nil => rfl
  | cons h _ ih => rw [List.map_cons, List.map_cons, ih, h.1]
theorem kt_keys {kvs : List (List Key × V)} {xs : List (List Key × Addr × Value)} (r : KT H kvs xs) : ∀ x ∈ xs, ∃ k : List Key, H x.2.1 = some (.tup (k.map kV)) := by
  induction r with
  | nil => exact fun x hx => nomatch hx
  | cons h _ ih =>
    intro x hx
    rcases List.mem_cons.mp hx with rfl | hx
    · exact ⟨_, h.2.1⟩
    · exact ih x hx
theorem call_dictT (hu : X.A.units + 3 < cLine) : CallR X (.type "dict") (fun xs H Q => ∃ (a : Addr) (kvs : List (List Key × V)), xs = [.ref a] ∧ Rd H a (.dT kvs) ∧ (kvs.map fun p => hashK X.w p.1).Nodup ∧ ∀ p, H p = none → Q (.ref p) (upd H p (.dT kvs))) := by
  intro pins s σ H vs us Q I r ⟨a, kvs, ex, hd, hn, q⟩
  subst ex
  obtain ⟨u, eu, rx⟩ := vals1 r
  subst eu
  cases rx
  have hP : H s.heap.objs.size = none := I.hok.fresh (Nat.le_refl _)
  have I1 := I.laid (a := s.heap.objs.size) (o := .dT []) (h' := s.heap.push { cls := .type "dict", data := .dict #[] }) (t' := s.toks) (fun _ _ z => Heap.get?_push_of_some _ z) (Nat.le_refl _) (dt_empty s.heap I.big)
  have ha : a ≠ s.heap.objs.size := by
    rcases hd with e | ⟨o, e⟩
    · exact ne_of_none e hP
    · exact ne_of_none e hP
  have hd1 : Rd (upd H s.heap.objs.size (.dT [])) a (.dT kvs) := by
    rcases hd with e | ⟨o, e⟩
    · exact .inl (by rw [upd_ne ha]; exact e)
    · exact .inr ⟨o, by rw [upd_ne ha]; exact e⟩
  obtain ⟨z1, y1, xs, rel, dd⟩ := dt_rd I1.hok hd1
  obtain ⟨z0, y0, xs0, rel0, dd0⟩ := dt_rd I1.hok (.inl upd_same)
  cases rel0
  have hz : xs.length ≤ sizeLine := by rw [← Paired.length rel]; exact z1
  have ht : ∀ x ∈ xs, ({ s with heap := s.heap.push { cls := .type "dict", data := .dict #[] } } : Shared).TypeIs (.ref x.2.1) "tuple" := fun x hx => by
    obtain ⟨k, hk⟩ := kt_keys rel x hx
    obtain ⟨_, _, _, o, e1, e2, _⟩ := (show ObjOk X.prog X.w _ _ _ (.tup (k.map kV)) from I1.hok _ _ hk)
    exact ⟨o, e1, e2⟩
  have hh : (xs.map fun x => (tupleKind (mixKind X.prog X.w)).hash x.1).Nodup := by
    have := kt_hash rel (fun k => hashK X.w k)
    show (xs.map fun x => hashK X.w x.1).Nodup
    rw [this]; exact hn
  refine callType_codes (Q₁ := fun obj s1 => obj = .ref s.heap.objs.size ∧ s1 = { s with heap := s.heap.push { cls := .type "dict", data := .dict #[] } }) F.kt_called_dict (F.kt_typeCall_dict_1 _) F.entry_dict_init (kt_code_dict_new _ ⟨rfl, rfl⟩) ?_
  rintro obj s1 ⟨rfl, rfl⟩
  refine ⟨dd0.typeIs, F.args_dict_init_2 _ _, ?_⟩
  unfold Builtin.«dict.__init__»
  refine wpAny_bind ?_
  unfold Builtin.Dict.selfAndRest
  refine wpAny_bind (wpAny_notOrdered_dict dd0.typeIs ?_)
  refine wpAny_pure ?_
  refine updateFrom_dictH (A := X.A.in1) .none (tupleKind_room_in1 (by show X.A.units + 1 + 1 < cLine; omega)) (Ne.symm ha) y1 dd0 dd (.inr ⟨ht, hh⟩) (by simpa using hz) fun h' hd' ho' hs' => ?_
  rw [storedAllH_nil_of_nodup xs dd.nodup] at hd'
  obtain ⟨ob, es, ep, g1, g2, g3, g4, _, g5⟩ := hd'
  refine ⟨rfl, .ref s.heap.objs.size, upd H s.heap.objs.size (.dT kvs), ?_, rfl, q _ hP⟩
  have J := d_write (t' := s.toks) (a := s.heap.objs.size) (ob := .dT kvs) I1 (by rw [upd_same]; exact True.intro) hs' ⟨ob, g1⟩ ⟨z1, y0, xs, rel.keeps fun c ys ec => ?_, ob, es, ep, g1, g2, g3, g4, g5⟩
  · rw [upd_upd] at J; exact J
  · by_cases hc : c = s.heap.objs.size
    · subst hc; rw [upd_same] at ec; cases ec
    · rw [upd_ne hc] at ec ⊢; rw [upd_ne hc]; exact ec
/-- {k: v}, the key a tuple -/
theorem pe_d1T {k v : Expr} {pos : Pos} {tk tv : TE} (hu : X.A.units + 1 < cLine) (hk : PE X k tk) (hv : PE X v tv) : PE X (.Dict [some k] [v] pos) (fun σ H Q => ∀ p, H p = none → tk σ (upd H p (.dT [])) fun x H1 => tv σ H1 fun y H2 => H2 p = some (.dT []) ∧ ∃ (ks : List Key) (b : Addr), x = .ref b ∧ H2 b = some (.tup (ks.map kV)) ∧ Q (.ref p) (upd H2 p (.dT [(ks, y)]))) := by
  refine ⟨fun pins s σ H Q I h => ?_⟩
  have hn := I.hok.fresh (Nat.le_refl s.heap.objs.size)
  have I1 := I.laid (a := s.heap.objs.size) (o := .dT []) (h' := s.heap.push { cls := .type "dict", data := .dict #[] }) (t' := s.toks) (fun _ _ q => Heap.get?_push_of_some _ q) (Nat.le_refl _) (dt_empty s.heap I.big)
  have e0 := zip_pairTrees [some k] [v] X.env pos rfl rfl
  rw [arm_eval_Dict, e0, dictDisplay_pairs (pairTrees [some k] [v] X.env pos) (by simp [pairTrees]) (by simp [pairTrees])]
  refine wpAny_bind (wpAny_standAt (wpAny_bind ?_))
  unfold subDict
  refine wpAny_bind (wpAny_alloc ?_)
  refine wpAny_bind (wpAny_holding ?_)
  rw [if_pos (by simp [pairTrees])]
  refine wpAny_bind (pairTrees_cons_walk (thn (hk.run pins _ σ _ _ I1 (h _ hn)) fun u s1 ⟨x, H1, J1, rx, q1⟩ => thn (hv.run pins s1 σ H1 _ J1 q1) fun w2 s2 ⟨y, H2, J2, ry, q2⟩ => pairTrees_nil_walk ?_))
  obtain ⟨e, ks, b, ex, eb, q⟩ := q2
  subst ex
  cases (show u = Value.ref b from rx)
  obtain ⟨z, hd, xs, rel, dd⟩ := dt_of J2.hok e
  cases rel
  refine wpAny_holding (wpAny_bind ?_)
  rw [List.forIn_cons]
  refine wpAny_bind (wpAny_bind (wpAny_dictSet_heap (show X.A.units < cLine by omega) (key_of J2.hok eb) dd (fun h' dd' hs => wpAny_pure ?_) (by simp)))
  simp only [List.forIn_nil]
  refine wpAny_pure (wpAny_pure (wpAny_pure (wpAny_pure ?_)))
  obtain ⟨ob, es, ep, g1, g2, g3, g4, _, g5⟩ := dd'
  have hne : b ≠ s.heap.objs.size := ne_of eb e (fun z => nomatch z)
  refine ⟨.ref s.heap.objs.size, _, d_write (a := s.heap.objs.size) (ob := .dT [(ks, y)]) J2 (by rw [e]; exact True.intro) hs ⟨ob, g1⟩ ⟨by rw [sizeLine_eq]; exact Nat.le_of_ble_eq_true rfl, hd, [(ks, b, w2)], .cons ⟨rfl, ?_, ry⟩ .nil, ob, es, ep, g1, g2, g3, ?_, ?_⟩, rfl, q⟩
  · rw [upd_ne hne]; exact eb
  · simpa [storedH, atKey] using g4
  · simp
end
end G

end

section
set_option Elab.async false
set_option linter.all false
set_option maxRecDepth 100000
set_option maxHeartbeats 2000000
/-! G1: value trees, their relation to the layer's values and heaps, liftings. -/
namespace G
open PySem PySem.Spec PyProof.Rows L2

/-- a value tree: tuples, and what is never changed any more, stand by value; ref: an object that may change -/
inductive D where
  | non | bl (b : Bool) | int (i : Int) | str (x : Str) | ref (a : Addr) | ty (n : String)
  | tup (ds : List D) | lst (ds : List D)
  | dK (kvs : List (Key × D)) | dT (kvs : List (List Key × D))
  | obj (C : Addr) (fs : List (Str × D))

abbrev AH := Addr → Option D
abbrev Env' := List (Option D)
abbrev DK := D → AH → Prop
/-- an exception: its class, its fields, the heap -/
abbrev EK := Addr → List (Str × D) → AH → Prop

def hup (h : AH) (a : Addr) (d : D) : AH := fun b => if b = a then some d else h b
def hdel (h : AH) (a : Addr) : AH := fun b => if b = a then none else h b
theorem hup_same {h : AH} {a : Addr} {d : D} : hup h a d a = some d := if_pos rfl
theorem hup_ne {h : AH} {a b : Addr} {d : D} (e : b ≠ a) : hup h a d b = h b := if_neg e
theorem hup_hup {h : AH} {a : Addr} {d e : D} : hup (hup h a d) a e = hup h a e := by
  funext b; unfold hup; split <;> rfl
theorem hdel_same {h : AH} {a : Addr} : hdel h a a = none := if_pos rfl
theorem hdel_ne {h : AH} {a b : Addr} (e : b ≠ a) : hdel h a b = h b := if_neg e
theorem hdel_hup {h : AH} {a : Addr} {d : D} (n : h a = none) : hdel (hup h a d) a = h := by
  funext b; unfold hdel hup; split
  · subst_vars; exact n.symm
  · rfl
def Sub (h h' : AH) : Prop := ∀ a d, h a = some d → h' a = some d
theorem Sub.refl (h : AH) : Sub h h := fun _ _ e => e
theorem Sub.trans {h h1 h2 : AH} (a : Sub h h1) (b : Sub h1 h2) : Sub h h2 := fun c d e => b c d (a c d e)
theorem Sub.hup {h : AH} {a : Addr} {d : D} (n : h a = none) : Sub h (hup h a d) := fun b e q => by
  rw [hup_ne]; exact q
  rintro rfl; rw [n] at q; cases q
theorem Sub.hdel {h : AH} {a : Addr} : Sub (hdel h a) h := fun b e q => by
  unfold G.hdel at q; split at q
  · cases q
  · exact q

/-- what stays: tuples, frozen things -/
structure Stab (H H' : Hp) : Prop where
  tup : ∀ b xs, H b = some (.tup xs) → H' b = some (.tup xs)
  frz : ∀ b o u, H b = some (.frz o u) → H' b = some (.frz o u)
theorem Stab.refl (H : Hp) : Stab H H := ⟨fun _ _ e => e, fun _ _ _ e => e⟩
theorem Stab.trans {H H1 H2 : Hp} (a : Stab H H1) (b : Stab H1 H2) : Stab H H2 := ⟨fun c xs e => b.tup c xs (a.tup c xs e), fun c o u e => b.frz c o u (a.frz c o u e)⟩
theorem Stab.un {fs ex : List Addr} {H H' : Hp} {h h' : Heap} (u : Un fs ex H H' h h') : Stab H H' := ⟨u.tups, u.frzs⟩
theorem Stab.put0 {H : Hp} {p : Addr} {o : HO} (n : ∀ xs, H p ≠ some (.tup xs)) (n' : ∀ ob u, H p ≠ some (.frz ob u)) : Stab H (upd H p o) :=
  ⟨fun b xs e => by rw [upd_ne]; exact e; rintro rfl; exact n _ e, fun b ob u e => by rw [upd_ne]; exact e; rintro rfl; exact n' _ _ e⟩
theorem Stab.new {H : Hp} {p : Addr} {o : HO} (n : H p = none) : Stab H (L2.upd H p o) := .put0 (fun xs => by rw [n]; nofun) fun ob u => by rw [n]; nofun
theorem Stab.lstUpd {H : Hp} {p : Addr} {o : HO} {xs : List V} (n : H p = some (.lst xs)) : Stab H (L2.upd H p o) := .put0 (fun xs => by rw [n]; nofun) fun ob u => by rw [n]; nofun
theorem Stab.sqT {K : PySem.W.Frag} {H H' : Hp} (s : Stab H H') {a : Addr} {xs : List V} (h : SqT K H a xs) : SqT K H' a xs := by
  rcases h with (h | ⟨o, h⟩) | h
  · exact .inl (.inl (s.tup _ _ h))
  · exact .inl (.inr ⟨o, s.frz _ _ _ h⟩)
  · exact .inr h

section
variable (K : PySem.W.Frag) (H : Hp)
mutual
/-- the value v is the tree d -/
inductive Rp (K : PySem.W.Frag) (H : Hp) : D → V → Prop
  | non : Rp K H .non .non
  | bl (b : Bool) : Rp K H (.bl b) (.bl b)
  | int (i : Int) : Rp K H (.int i) (.int i)
  | str (x : Str) : Rp K H (.str x) (.str x)
  | ref (a : Addr) : Rp K H (.ref a) (.ref a)
  | ty (n : String) : Rp K H (.ty n) (.ty n)
  | tup {ds : List D} {a : Addr} {vs : List V} : H a = some (.tup vs) → RpAll K H ds vs → Rp K H (.tup ds) (.ref a)
  | frz {d : D} {a : Addr} {o : Obj} {u : HO} : H a = some (.frz o u) → RpC K H d u → Rp K H d (.ref a)
inductive RpAll (K : PySem.W.Frag) (H : Hp) : List D → List V → Prop
  | nil : RpAll K H [] []
  | cons {d : D} {v : V} {ds : List D} {vs : List V} : Rp K H d v → RpAll K H ds vs → RpAll K H (d :: ds) (v :: vs)
/-- what stands at an address is the tree d -/
inductive RpC (K : PySem.W.Frag) (H : Hp) : D → HO → Prop
  | lst {ds : List D} {vs : List V} : RpAll K H ds vs → RpC K H (.lst ds) (.lst vs)
  | dK {kvs : List (Key × D)} {kws : List (Key × V)} : kvs.map (·.1) = kws.map (·.1) → RpAll K H (kvs.map (·.2)) (kws.map (·.2)) → RpC K H (.dK kvs) (.dK kws)
  | dT {kvs : List (List Key × D)} {kws : List (List Key × V)} : kvs.map (·.1) = kws.map (·.1) → RpAll K H (kvs.map (·.2)) (kws.map (·.2)) → RpC K H (.dT kvs) (.dT kws)
  | obj {C dx : Addr} {fs : List (Str × D)} {fv : List (Str × V)} : fs.map (·.1) = fv.map (·.1) → RpAll K H (fs.map (·.2)) (fv.map (·.2)) → RpC K H (.obj C fs) (.ins C dx fv)
end
end

section
variable {K : PySem.W.Frag} {H H' : Hp}
theorem Rp.mono {d : D} {v : V} (r : Rp K H d v) (s : Stab H H') : Rp K H' d v :=
  Rp.rec (motive_1 := fun d v _ => Rp K H' d v) (motive_2 := fun ds vs _ => RpAll K H' ds vs) (motive_3 := fun d u _ => RpC K H' d u)
    .non .bl .int .str .ref .ty (fun h _ ih => .tup (s.tup _ _ h) ih) (fun h _ ih => .frz (s.frz _ _ _ h) ih)
    .nil (fun _ _ a b => .cons a b) (fun _ a => .lst a) (fun e _ a => .dK e a) (fun e _ a => .dT e a) (fun e _ a => .obj e a) r
theorem RpAll.mono {ds : List D} {vs : List V} (r : RpAll K H ds vs) (s : Stab H H') : RpAll K H' ds vs := by
  induction ds generalizing vs with
  | nil => cases r; exact .nil
  | cons d ds ih =>
    cases r with
    | cons a b => exact .cons (a.mono s) (ih b)
theorem RpC.mono {d : D} {u : HO} (r : RpC K H d u) (s : Stab H H') : RpC K H' d u := by
  cases r with
  | lst a => exact .lst (a.mono s)
  | dK e a => exact .dK e (a.mono s)
  | dT e a => exact .dT e (a.mono s)
  | obj e a => exact .obj e (a.mono s)
theorem RpAll.length {ds : List D} {vs : List V} (r : RpAll K H ds vs) : ds.length = vs.length := by
  induction ds generalizing vs with
  | nil => cases r; rfl
  | cons d ds ih =>
    cases r with
    | cons a b => simp [ih b]
theorem RpAll.get {ds : List D} {vs : List V} (r : RpAll K H ds vs) {i : Nat} {d : D} (e : ds[i]? = some d) : ∃ v, vs[i]? = some v ∧ Rp K H d v := by
  induction ds generalizing vs i with
  | nil => simp at e
  | cons d' ds ih =>
    cases r with
    | cons a b =>
      cases i with
      | zero => simp at e; subst e; exact ⟨_, rfl, a⟩
      | succ i => simpa using ih b (by simpa using e)
theorem RpAll.append {ds es : List D} {vs us : List V} (r : RpAll K H ds vs) (q : RpAll K H es us) : RpAll K H (ds ++ es) (vs ++ us) := by
  induction ds generalizing vs with
  | nil => cases r; exact q
  | cons d ds ih =>
    cases r with
    | cons a b => exact .cons a (ih b)
theorem RpAll.one {d : D} {v : V} (r : Rp K H d v) : RpAll K H [d] [v] := .cons r .nil
theorem RpAll.set {ds : List D} {vs : List V} (r : RpAll K H ds vs) (i : Nat) {d : D} {v : V} (q : Rp K H d v) : RpAll K H (ds.set i d) (vs.set i v) := by
  induction ds generalizing vs i with
  | nil => cases r; exact .nil
  | cons d' ds ih =>
    cases r with
    | cons a b =>
      cases i with
      | zero => exact .cons q b
      | succ i => exact .cons a (ih b i)
theorem RpAll.take {ds : List D} {vs : List V} (r : RpAll K H ds vs) (n : Nat) : RpAll K H (ds.take n) (vs.take n) := by
  induction ds generalizing vs n with
  | nil => cases r; simp; exact .nil
  | cons d' ds ih =>
    cases r with
    | cons a b =>
      cases n with
      | zero => exact .nil
      | succ i => exact .cons a (ih b i)
theorem RpAll.drop {ds : List D} {vs : List V} (r : RpAll K H ds vs) (n : Nat) : RpAll K H (ds.drop n) (vs.drop n) := by
  induction ds generalizing vs n with
  | nil => cases r; simp; exact .nil
  | cons d' ds ih =>
    cases r with
    | cons a b =>
      cases n with
      | zero => exact .cons a b
      | succ i => exact ih b i
theorem RpAll.reverse {ds : List D} {vs : List V} (r : RpAll K H ds vs) : RpAll K H ds.reverse vs.reverse := by
  induction ds generalizing vs with
  | nil => cases r; exact .nil
  | cons d' ds ih =>
    cases r with
    | cons a b => simpa using (ih b).append (.one a)
theorem RpAll.eraseIdx {ds : List D} {vs : List V} (r : RpAll K H ds vs) (i : Nat) : RpAll K H (ds.eraseIdx i) (vs.eraseIdx i) := by
  induction ds generalizing vs i with
  | nil => cases r; exact .nil
  | cons d' ds ih =>
    cases r with
    | cons a b =>
      cases i with
      | zero => exact b
      | succ i => exact .cons a (ih b i)
theorem RpAll.rep {ds : List D} {vs : List V} (r : RpAll K H ds vs) (n : Nat) : RpAll K H (List.replicate n ds).flatten (List.replicate n vs).flatten := by
  induction n with
  | zero => exact .nil
  | succ n ih => simpa [List.replicate_succ] using r.append ih
theorem RpAll.ints {ns : List Int} {vs : List V} (r : RpAll K H (ns.map D.int) vs) : vs = ns.map V.int := by
  induction ns generalizing vs with
  | nil => cases r; rfl
  | cons n ns ih =>
    cases r with
    | cons a b =>
      rw [ih b]
      cases a with
      | int => rfl
      | frz _ c => cases c
theorem RpAll.of_ints {ns : List Int} : RpAll K H (ns.map D.int) (ns.map V.int) := by
  induction ns with
  | nil => exact .nil
  | cons n ns ih => exact .cons (.int n) ih
theorem RpAll.bls {ns : List Bool} {vs : List V} (r : RpAll K H (ns.map D.bl) vs) : vs = ns.map V.bl := by
  induction ns generalizing vs with
  | nil => cases r; rfl
  | cons n ns ih =>
    cases r with
    | cons a b =>
      rw [ih b]
      cases a with
      | bl => rfl
      | frz _ c => cases c
theorem Rp.int_inv {i : Int} {v : V} (r : Rp K H (.int i) v) : v = .int i := by
  cases r with
  | int => rfl
  | frz _ c => cases c
theorem Rp.bl_inv {b : Bool} {v : V} (r : Rp K H (.bl b) v) : v = .bl b := by
  cases r with
  | bl => rfl
  | frz _ c => cases c
theorem Rp.non_inv {v : V} (r : Rp K H .non v) : v = .non := by
  cases r with
  | non => rfl
  | frz _ c => cases c
theorem Rp.str_inv {x : Str} {v : V} (r : Rp K H (.str x) v) : v = .str x := by
  cases r with
  | str => rfl
  | frz _ c => cases c
theorem Rp.ref_inv {a : Addr} {v : V} (r : Rp K H (.ref a) v) : v = .ref a := by
  cases r with
  | ref => rfl
  | frz _ c => cases c
theorem Rp.ty_inv {n : String} {v : V} (r : Rp K H (.ty n) v) : v = .ty n := by
  cases r with
  | ty => rfl
  | frz _ c => cases c
theorem sq {K : PySem.W.Frag} {H : Hp} {a : Addr} {vs : List V} (h : H a = some (.tup vs)) : SqT K H a vs := .inl (.inl h)
theorem Rp.tup_inv {ds : List D} {v : V} (r : Rp K H (.tup ds) v) : ∃ a vs, v = .ref a ∧ H a = some (.tup vs) ∧ RpAll K H ds vs := by
  cases r with
  | tup a b => exact ⟨_, _, rfl, a, b⟩
  | frz _ c => cases c
theorem Rp.lst_inv {ds : List D} {v : V} (r : Rp K H (.lst ds) v) : ∃ a vs, v = .ref a ∧ Rd H a (.lst vs) ∧ RpAll K H ds vs := by
  cases r with
  | frz h c =>
    cases c with
    | lst q => exact ⟨_, _, rfl, .inr ⟨_, h⟩, q⟩

/-- the heaps -/
def RelH (K : PySem.W.Frag) (h : AH) (H : Hp) : Prop := ∀ a d, h a = some d → ∃ u, H a = some u ∧ Mut (some u) ∧ RpC K H d u
theorem RelH.sub {h h' : AH} (r : RelH K h' H) (s : Sub h h') : RelH K h H := fun a d e => r a d (s a d e)
theorem RelH.no {h : AH} (r : RelH K h H) {a : Addr} (e : H a = none) : h a = none := by
  cases q : h a with
  | none => rfl
  | some d =>
    obtain ⟨u, e', _⟩ := r a d q
    rw [e] at e'; cases e'
theorem RelH.lst {h : AH} (r : RelH K h H) {a : Addr} {ds : List D} (e : h a = some (.lst ds)) : ∃ vs, H a = some (.lst vs) ∧ RpAll K H ds vs := by
  obtain ⟨u, e', _, c⟩ := r a _ e
  cases c with
  | lst q => exact ⟨_, e', q⟩
/-- a thing is laid or changed at p -/
theorem RelH.put {h : AH} (r : RelH K h H) {p : Addr} {d : D} {u : HO} (s : Stab H (upd H p u)) (m : Mut (some u)) (c : RpC K H d u) : RelH K (hup h p d) (upd H p u) := fun a e q => by
  by_cases ha : a = p
  · subst ha
    rw [hup_same] at q; cases q
    exact ⟨u, upd_same, m, c.mono s⟩
  · rw [hup_ne ha] at q
    obtain ⟨u', e', m', c'⟩ := r a e q
    exact ⟨u', by rw [upd_ne ha]; exact e', m', c'.mono s⟩
/-- a thing that is not told is laid or changed -/
theorem RelH.keep {h : AH} (r : RelH K h H) {p : Addr} {u : HO} (s : Stab H (upd H p u)) (n : h p = none) : RelH K h (upd H p u) := fun a e q => by
  have ha : a ≠ p := by rintro rfl; rw [n] at q; cases q
  obtain ⟨u', e', m', c'⟩ := r a e q
  exact ⟨u', by rw [upd_ne ha]; exact e', m', c'.mono s⟩

/-- the names' values -/
structure RelE (K : PySem.W.Frag) (H : Hp) (ρ : Env') (σ : L2.St) : Prop where
  len : ρ.length = σ.length
  get : ∀ (i : Nat) (d : D), ρ[i]? = some (some d) → ∃ v, σ[i]? = some (some v) ∧ Rp K H d v
theorem RelE.mono {ρ : Env'} {σ : L2.St} (r : RelE K H ρ σ) (s : Stab H H') : RelE K H' ρ σ := ⟨r.len, fun i d e => let ⟨v, a, b⟩ := r.get i d e; ⟨v, a, b.mono s⟩⟩
theorem RelE.set {ρ : Env'} {σ : L2.St} (r : RelE K H ρ σ) (i : Nat) {d : D} {v : V} (q : Rp K H d v) : RelE K H (ρ.set i (some d)) (σ.set i (some v)) := by
  refine ⟨by simp [r.len], fun j e h => ?_⟩
  by_cases hij : i = j
  · subst hij
    by_cases hi : i < ρ.length
    · rw [List.getElem?_set_self hi] at h
      cases h
      exact ⟨v, List.getElem?_set_self (by rw [← r.len]; exact hi), q⟩
    · rw [List.getElem?_eq_none (by simpa using hi)] at h; cases h
  · rw [List.getElem?_set_ne hij] at h ⊢
    exact r.get j e h
theorem RelE.setNone {ρ : Env'} {σ : L2.St} (r : RelE K H ρ σ) (i : Nat) : RelE K H (ρ.set i none) (σ.set i none) := by
  refine ⟨by simp [r.len], fun j e h => ?_⟩
  by_cases hij : i = j
  · subst hij
    by_cases hi : i < ρ.length
    · rw [List.getElem?_set_self hi] at h; cases h
    · rw [List.getElem?_eq_none (by simpa using hi)] at h; cases h
  · rw [List.getElem?_set_ne hij] at h ⊢
    exact r.get j e h
def wipeD (ρ : Env') : List Nat → Env'
  | [] => ρ
  | v :: vs => (wipeD ρ vs).set v none
theorem RelE.wipe {ρ : Env'} {σ : L2.St} (r : RelE K H ρ σ) : ∀ vs : List Nat, RelE K H (wipeD ρ vs) (wipe σ vs)
  | [] => r
  | v :: vs => (RelE.wipe r vs).setNone v
theorem RelE.start {N : Nat} {ds : List D} {vs : List V} (r : RpAll K H ds vs) : RelE K H (ds.map some ++ List.replicate (N - ds.length) none) (vs.map some ++ List.replicate (N - vs.length) none) := by
  refine ⟨by simp [r.length], fun i d h => ?_⟩
  by_cases hi : i < ds.length
  · rw [List.getElem?_append_left (by simpa using hi), List.getElem?_map] at h
    obtain ⟨d', hd, e⟩ := Option.map_eq_some_iff.mp h
    cases e
    obtain ⟨v, a, b⟩ := r.get hd
    exact ⟨v, by rw [List.getElem?_append_left (by simp [← r.length]; exact hi), List.getElem?_map, a]; rfl, b⟩
  · rw [List.getElem?_append_right (by simpa using hi), List.getElem?_replicate] at h
    split at h <;> cases h
end

/-! ### liftings -/
section
variable (K : PySem.W.Frag)
abbrev WE := Env' → AH → DK → Prop
abbrev WT := Env' → AH → (Bool → AH → Prop) → Prop
abbrev WA := Env' → AH → (List D → AH → Prop) → Prop
structure EndsD where
  nx : Env' → AH → Prop
  rt : DK
  bk : Env' → AH → Prop
  ct : Env' → AH → Prop
abbrev WS := EndsD → Env' → AH → Prop
def liftK (H : Hp) (Q : VK) : DK := fun d h' => ∀ v H', Stab H H' → Rp K H' d v → RelH K h' H' → Q v H'
def liftE (w : WE) : TE := fun σ H Q => ∃ ρ h, RelE K H ρ σ ∧ RelH K h H ∧ w ρ h (liftK K H Q)
def liftT (w : WT) : TT := fun σ H Q => ∃ ρ h, RelE K H ρ σ ∧ RelH K h H ∧ w ρ h fun b h' => ∀ H', Stab H H' → RelH K h' H' → Q b H'
def liftA (w : WA) : TA := fun σ H Q => ∃ ρ h, RelE K H ρ σ ∧ RelH K h H ∧ w ρ h fun ds h' => ∀ vs H', Stab H H' → RpAll K H' ds vs → RelH K h' H' → Q vs H'
def liftN (H : Hp) (N : L2.St → Hp → Prop) : Env' → AH → Prop := fun ρ' h' => ∀ σ' H', Stab H H' → RelE K H' ρ' σ' → RelH K h' H' → N σ' H'
def liftEnds (H : Hp) (D : Ends) : EndsD := ⟨liftN K H D.nx, liftK K H D.rt, liftN K H D.bk, liftN K H D.ct⟩
def liftS (w : WS) : TS := fun D σ H => ∃ ρ h, RelE K H ρ σ ∧ RelH K h H ∧ w (liftEnds K H D) ρ h
/-- monotone -/
def MonE (w : WE) : Prop := ∀ ρ h (P P' : DK), w ρ h P → (∀ d h', P d h' → P' d h') → w ρ h P'
def MonT (w : WT) : Prop := ∀ ρ h (P P' : Bool → AH → Prop), w ρ h P → (∀ d h', P d h' → P' d h') → w ρ h P'
def MonA (w : WA) : Prop := ∀ ρ h (P P' : List D → AH → Prop), w ρ h P → (∀ d h', P d h' → P' d h') → w ρ h P'
structure EndsLe (D D' : EndsD) : Prop where
  nx : ∀ ρ h, D.nx ρ h → D'.nx ρ h
  rt : ∀ d h, D.rt d h → D'.rt d h
  bk : ∀ ρ h, D.bk ρ h → D'.bk ρ h
  ct : ∀ ρ h, D.ct ρ h → D'.ct ρ h
def MonS (w : WS) : Prop := ∀ D D' ρ h, w D ρ h → EndsLe D D' → w D' ρ h
variable {K}
theorem liftE.bind {w : WE} (m : MonE w) {ρ : Env'} {h : AH} {P : DK} {σ : L2.St} {H : Hp} {Q : VK} (re : RelE K H ρ σ) (rh : RelH K h H) (hw : w ρ h P)
    (k : ∀ d h' v H', Stab H H' → RelE K H' ρ σ → Rp K H' d v → RelH K h' H' → P d h' → Q v H') : liftE K w σ H Q :=
  ⟨ρ, h, re, rh, m _ _ _ _ hw fun d h' p v H' s r q => k d h' v H' s (re.mono s) r q p⟩
theorem liftT.bind {w : WT} (m : MonT w) {ρ : Env'} {h : AH} {P : Bool → AH → Prop} {σ : L2.St} {H : Hp} {Q : Bool → Hp → Prop} (re : RelE K H ρ σ) (rh : RelH K h H) (hw : w ρ h P)
    (k : ∀ b h' H', Stab H H' → RelE K H' ρ σ → RelH K h' H' → P b h' → Q b H') : liftT K w σ H Q :=
  ⟨ρ, h, re, rh, m _ _ _ _ hw fun d h' p H' s q => k d h' H' s (re.mono s) q p⟩
theorem liftA.bind {w : WA} (m : MonA w) {ρ : Env'} {h : AH} {P : List D → AH → Prop} {σ : L2.St} {H : Hp} {Q : List V → Hp → Prop} (re : RelE K H ρ σ) (rh : RelH K h H) (hw : w ρ h P)
    (k : ∀ ds h' vs H', Stab H H' → RelE K H' ρ σ → RpAll K H' ds vs → RelH K h' H' → P ds h' → Q vs H') : liftA K w σ H Q :=
  ⟨ρ, h, re, rh, m _ _ _ _ hw fun d h' p v H' s r q => k d h' v H' s (re.mono s) r q p⟩
theorem liftK.bind {H H' : Hp} {Q : VK} {d : D} {h : AH} {v : V} (s : Stab H H') (k : liftK K H Q d h) (r : Rp K H' d v) (q : RelH K h H') : Q v H' := k v H' s r q
theorem liftK.stab {H H' : Hp} {Q : VK} {d : D} {h : AH} (s : Stab H H') (k : liftK K H Q d h) : liftK K H' Q d h := fun v H2 s2 r q => k v H2 (s.trans s2) r q
theorem liftEnds.stab {H H' : Hp} {D : Ends} (s : Stab H H') : EndsLe (liftEnds K H D) (liftEnds K H' D) :=
  ⟨fun ρ h q σ H2 s2 r t => q σ H2 (s.trans s2) r t, fun d h q v H2 s2 r t => q v H2 (s.trans s2) r t, fun ρ h q σ H2 s2 r t => q σ H2 (s.trans s2) r t, fun ρ h q σ H2 s2 r t => q σ H2 (s.trans s2) r t⟩
end

/-! ### weakening a judgement's reading; freezing -/
section
variable {X : Cx}
theorem PE.imp {e : Expr} {t t' : TE} (h : PE X e t) (i : ∀ σ H Q, t' σ H Q → t σ H Q) : PE X e t' := ⟨fun pins s σ H Q I w => h.run pins s σ H Q I (i _ _ _ w)⟩
theorem PT.imp {e : Expr} {t t' : TT} (h : PT X e t) (i : ∀ σ H Q, t' σ H Q → t σ H Q) : PT X e t' := ⟨fun pins s σ H Q I w => h.run pins s σ H Q I (i _ _ _ w)⟩
theorem PW.imp {e : Expr} {t t' : TT} (h : PW X e t) (i : ∀ σ H Q, t' σ H Q → t σ H Q) : PW X e t' := ⟨fun wh pins s σ H Q I w => h.run wh pins s σ H Q I (i _ _ _ w)⟩
theorem PA.imp {e : List Expr} {t t' : TA} (h : PA X e t) (i : ∀ σ H Q, t' σ H Q → t σ H Q) : PA X e t' := ⟨fun pos pins s σ H Q I w => h.run pos pins s σ H Q I (i _ _ _ w)⟩
theorem PS.imp {e : Stmt} {t t' : TS} (h : PS X e t) (i : ∀ D σ H, t' D σ H → t D σ H) : PS X e t' := ⟨fun pins s σ H D I w => h.run pins s σ H D I (i _ _ _ w)⟩
theorem PSs.imp {e : List Stmt} {t t' : TS} (h : PSs X e t) (i : ∀ D σ H, t' D σ H → t D σ H) : PSs X e t' := ⟨fun pins s σ H D I w => h.run pins s σ H D I (i _ _ _ w)⟩
theorem PI.imp {tg it : Expr} {t t' : TI} (h : PI X tg it t) (i : ∀ σ H Q, t' σ H Q → t σ H Q) : PI X tg it t' := ⟨fun pins s σ H Q I w => h.run pins s σ H Q I (i _ _ _ w)⟩
/-- the value's own object may be frozen -/
def Fz (H1 H2 : Hp) (a : Addr) : Prop := ∃ u od, H1 a = some u ∧ Mut (some u) ∧ H2 = upd H1 a (.frz od u)
def fzQ (Q : VK) : VK := fun v H1 => Q v H1 ∨ ∃ a u, v = .ref a ∧ H1 a = some u ∧ Mut (some u) ∧ ∀ od, Q v (upd H1 a (.frz od u))
theorem PE.fz {e : Expr} {t : TE} (h : PE X e t) : PE X e (fun σ H Q => t σ H (fzQ Q)) := ⟨fun pins s σ H Q I w =>
  thn (h.run pins s σ H _ I w) fun u s' ⟨v, H', I', r, q⟩ => by
    rcases q with q | ⟨a, o, rfl, e, m, q⟩
    · exact ⟨v, H', I', r, q⟩
    · obtain ⟨od, J⟩ := I'.lock e m
      exact ⟨_, _, J, r, q od⟩⟩
theorem Mut.notTup {H : Hp} {a : Addr} {u : HO} (e : H a = some u) (m : Mut (some u)) : (∀ xs, H a ≠ some (.tup xs)) ∧ ∀ o v, H a ≠ some (.frz o v) := by
  refine ⟨fun xs q => ?_, fun o v q => ?_⟩ <;> (rw [e] at q; cases q; exact m)
theorem Stab.ofMut {H : Hp} {a : Addr} {u w : HO} (e : H a = some u) (m : Mut (some u)) : Stab H (upd H a w) := .put0 (Mut.notTup e m).1 (Mut.notTup e m).2
theorem RelH.freeze {K : PySem.W.Frag} {h : AH} {H : Hp} (r : RelH K h H) {a : Addr} {d : D} (e : h a = some d) : ∃ u, H a = some u ∧ Mut (some u) ∧ ∀ od, Stab H (upd H a (.frz od u)) ∧ Rp K (upd H a (.frz od u)) d (.ref a) ∧ RelH K (hdel h a) (upd H a (.frz od u)) := by
  obtain ⟨u, eu, m, c⟩ := r a d e
  refine ⟨u, eu, m, fun od => ?_⟩
  have s : Stab H (upd H a (.frz od u)) := .ofMut eu m
  exact ⟨s, .frz upd_same (c.mono s), (r.sub Sub.hdel).keep s hdel_same⟩
/-- what is laid new, frozen at once -/
theorem freezeNew {K : PySem.W.Frag} {h : AH} {H : Hp} (r : RelH K h H) {p : Addr} {u : HO} {d : D} (n : H p = none) (m : Mut (some u)) (c : RpC K H d u) : ∀ od, Stab H (upd (upd H p u) p (.frz od u)) ∧ Rp K (upd (upd H p u) p (.frz od u)) d (.ref p) ∧ RelH K h (upd (upd H p u) p (.frz od u)) := fun od => by
  rw [upd_upd]
  have s : Stab H (upd H p (.frz od u)) := .new n
  exact ⟨s, .frz upd_same (c.mono s), r.keep s (r.no n)⟩
end
end G

end

section
set_option Elab.async false
set_option linter.all false
set_option maxRecDepth 100000
set_option maxHeartbeats 2000000
/-! G2: the small language and its weakest preconditions over value trees. -/
namespace G
open PySem PySem.Spec PyProof.Rows L2

/-! ### what the operations do on trees -/
/-- an object that may change is read as what stands there -/
def vw (h : AH) (d : D) : D := match d with
  | .ref a => (h a).getD d
  | d => d
mutual
def D.py : D → Option PyData
  | .non => some .none
  | .bl b => some (.bool b)
  | .int i => some (.int i)
  | .str x => some (.str x)
  | .tup ds => (D.pyAll ds).map .tuple
  | .lst ds => (D.pyAll ds).map .list
  | .ref _ => none
  | .ty _ => none
  | .dK _ => none
  | .dT _ => none
  | .obj _ _ => none
def D.pyAll : List D → Option (List PyData)
  | [] => some []
  | d :: ds => match D.py d, D.pyAll ds with
    | some p, some ps => some (p :: ps)
    | _, _ => none
end
/-- == of data -/
def eqD (x y : D) : Option Bool := match x.py, y.py with
  | some p, some q => if SeqAt.shaped p = true ∧ SeqAt.shaped q = true then some (PyData.eqv p q) else none
  | _, _ => none
/-- x in y, y data -/
def inD (x y : D) : Option Bool := match x.py, y.py with
  | some p, some (.tuple qs) => if SeqAt.shaped p = true ∧ SeqAt.shaped (.tuple qs) = true then some (qs.any fun z => PyData.eqv z p) else none
  | some p, some (.list qs) => if SeqAt.shaped p = true ∧ SeqAt.shaped (.list qs) = true then some (qs.any fun z => PyData.eqv z p) else none
  | _, _ => none
def intsOf : List D → Option (List Int)
  | [] => some []
  | .int i :: ds => (intsOf ds).map (i :: ·)
  | _ :: _ => none
def bolsOf : List D → Option (List Bool)
  | [] => some []
  | .bl i :: ds => (bolsOf ds).map (i :: ·)
  | _ :: _ => none
theorem intsOf_map (ns : List Int) : intsOf (ns.map D.int) = some ns := by
  induction ns with
  | nil => rfl
  | cons n ns ih => simp [intsOf, ih]
theorem bolsOf_map (ns : List Bool) : bolsOf (ns.map D.bl) = some ns := by
  induction ns with
  | nil => rfl
  | cons n ns ih => simp [bolsOf, ih]
theorem of_intsOf : ∀ {ds : List D} {ns : List Int}, intsOf ds = some ns → ds = ns.map D.int
  | [], ns, h => by simp [intsOf] at h; subst h; rfl
  | .int i :: ds, ns, h => by
    simp only [intsOf, Option.map_eq_some_iff] at h
    obtain ⟨r, e, rfl⟩ := h
    rw [of_intsOf e]; rfl
  | .non :: _, _, h | .bl _ :: _, _, h | .str _ :: _, _, h | .ref _ :: _, _, h | .ty _ :: _, _, h | .tup _ :: _, _, h | .lst _ :: _, _, h | .dK _ :: _, _, h | .dT _ :: _, _, h | .obj _ _ :: _, _, h => by simp [intsOf] at h
theorem of_bolsOf : ∀ {ds : List D} {ns : List Bool}, bolsOf ds = some ns → ds = ns.map D.bl
  | [], ns, h => by simp [bolsOf] at h; subst h; rfl
  | .bl i :: ds, ns, h => by
    simp only [bolsOf, Option.map_eq_some_iff] at h
    obtain ⟨r, e, rfl⟩ := h
    rw [of_bolsOf e]; rfl
  | .non :: _, _, h | .int _ :: _, _, h | .str _ :: _, _, h | .ref _ :: _, _, h | .ty _ :: _, _, h | .tup _ :: _, _, h | .lst _ :: _, _, h | .dK _ :: _, _, h | .dT _ :: _, _, h | .obj _ _ :: _, _, h => by simp [bolsOf] at h
def maxI : Int → List Int → Int
  | m, [] => m
  | m, n :: ns => maxI (if m < n then n else m) ns
def minI : Int → List Int → Int
  | m, [] => m
  | m, n :: ns => minI (if n < m then n else m) ns

inductive BOp | add | sub | mul | fdiv | mod | pow | shl | shr | band | bor | bxor
  deriving DecidableEq
inductive Cop | eq | ne | lt | le | gt | ge | is | nis | isin | nin
  deriving DecidableEq
def binW (o : BOp) (x y : D) (h : AH) (Q : DK) : Prop := match o, x, y with
  | .add, .int i, .int j => Q (.int (i + j)) h
  | .sub, .int i, .int j => Q (.int (i - j)) h
  | .mul, .int i, .int j => CMulX i j ∧ Q (.int (i * j)) h
  | .fdiv, .int i, .int j => CDivW i j ∧ Q (.int (i / j)) h
  | .mod, .int i, .int j => 0 < j ∧ Q (.int (i % j)) h
  | .pow, .int i, .int j => CPow i j ∧ Q (.int (i ^ j.toNat)) h
  | .shl, .int i, .int j => CPow i j ∧ Q (.int (i * 2 ^ j.toNat)) h
  | .shr, .int i, .int j => 0 ≤ j ∧ Q (.int (i / 2 ^ j.toNat)) h
  | .band, .int i, .int j => Q (.int (Builtin.bitAnd i j)) h
  | .bor, .int i, .int j => Q (.int (Builtin.bitOr i j)) h
  | .bxor, .int i, .int j => Q (.int (Builtin.bitXor i j)) h
  | .add, .str x, .str y => x.length + y.length ≤ sizeLine ∧ Q (.str (x ++ y)) h
  | .add, .tup a, .tup b => a.length + b.length ≤ sizeLine ∧ Q (.tup (a ++ b)) h
  | _, _, _ => False
def lexLtD : List D → List D → Option Bool
  | xs, ys => match intsOf xs, intsOf ys with
    | some ns, some ms => some (HT.lexLt ns ms)
    | _, _ => none
def isD (x y : D) : Option Bool := match y with
  | .non => match x with
    | .non => some true
    | _ => some false
  | .bl c => match x with
    | .bl b => some (decide (b = c))
    | _ => none
  | _ => none
def cmpD (o : Cop) (x y : D) : Option Bool := match o with
  | .eq => eqD x y
  | .ne => (eqD x y).map (!·)
  | .lt => match x, y with
    | .int i, .int j => some (decide (i < j))
    | .tup a, .tup b => lexLtD a b
    | _, _ => none
  | .le => match x, y with
    | .int i, .int j => some (decide (i ≤ j))
    | _, _ => none
  | .gt => match x, y with
    | .int i, .int j => some (decide (j < i))
    | _, _ => none
  | .ge => match x, y with
    | .int i, .int j => some (decide (j ≤ i))
    | _, _ => none
  | .is => isD x y
  | .nis => (isD x y).map (!·)
  | .isin => inD x y
  | .nin => (inD x y).map (!·)
/-- a <= b, of data -/
def leD (a b : D) : Bool := match a.py, b.py with
  | some p, some q => !PySem.W.dataLt q p
  | _, _ => true
/-- items that sorted takes -/
def SortOk (ds : List D) : Prop := ∃ ps, D.pyAll ds = some ps ∧ PySem.W.AllAlike ps ∧ (PySem.W.Sortable ps ∨ ∀ p ∈ ps, p ≠ .none ∧ ps.length ≤ 1) ∧ ∀ p ∈ ps, p.depth ≤ 60
/-- a new list: by value (never changed any more), or an object -/
def mkL (fz : Bool) (ds : List D) (h : AH) (Q : DK) : Prop := match fz with
  | true => ds.length ≤ sizeLine ∧ Q (.lst ds) h
  | false => ds.length ≤ sizeLine ∧ ∀ p, h p = none → Q (.ref p) (hup h p (.lst ds))
inductive Bi | len | tuple | list (fz : Bool) | sum | all | any | max1 | min1 | max2 | min2 | maxd | abs | int | bool | str | sorted (fz : Bool)
  deriving DecidableEq
def biW (b : Bi) (xs : List D) (h : AH) (Q : DK) : Prop := match b with
  | .len => match xs with
    | [x] => match vw h x with
      | .tup ds => Q (.int ds.length) h
      | .lst ds => Q (.int ds.length) h
      | .str z => z.length ≤ sizeLine ∧ Q (.int z.length) h
      | _ => False
    | _ => False
  | .tuple => match xs with
    | [x] => match vw h x with
      | .tup ds => Q (.tup ds) h
      | .lst ds => Q (.tup ds) h
      | _ => False
    | _ => False
  | .list fz => match xs with
    | [x] => match vw h x with
      | .tup ds => mkL fz ds h Q
      | .lst ds => mkL fz ds h Q
      | _ => False
    | _ => False
  | .sum => match xs with
    | [x] => match vw h x with
      | .lst ds => match intsOf ds with
        | some ns => Q (.int ns.sum) h
        | none => False
      | _ => False
    | _ => False
  | .all => match xs with
    | [x] => match vw h x with
      | .lst ds => match bolsOf ds with
        | some ns => Q (.bl (ns.all id)) h
        | none => False
      | _ => False
    | _ => False
  | .any => match xs with
    | [x] => match vw h x with
      | .lst ds => match bolsOf ds with
        | some ns => Q (.bl (ns.any id)) h
        | none => False
      | _ => False
    | _ => False
  | .max1 => match xs with
    | [x] => match vw h x with
      | .lst ds => match intsOf ds with
        | some (n :: ns) => Q (.int (maxI n ns)) h
        | _ => False
      | _ => False
    | _ => False
  | .min1 => match xs with
    | [x] => match vw h x with
      | .lst ds => match intsOf ds with
        | some (n :: ns) => Q (.int (minI n ns)) h
        | _ => False
      | _ => False
    | _ => False
  | .max2 => match xs with
    | [.int i, .int j] => Q (.int (if j > i then j else i)) h
    | _ => False
  | .min2 => match xs with
    | [.int i, .int j] => Q (.int (if j < i then j else i)) h
    | _ => False
  | .maxd => match xs with
    | [x, .int z] => match vw h x with
      | .lst ds => match intsOf ds with
        | some (n :: ns) => Q (.int (maxI n ns)) h
        | some [] => Q (.int z) h
        | none => False
      | _ => False
    | _ => False
  | .abs => match xs with
    | [.int i] => Q (.int (if i < 0 then -i else i)) h
    | _ => False
  | .int => match xs with
    | [.int i] => Q (.int i) h
    | [.bl b] => Q (.int (if b then 1 else 0)) h
    | _ => False
  | .bool => match xs with
    | [.int i] => Q (.bl (i != 0)) h
    | [.bl b] => Q (.bl b) h
    | _ => False
  | .str => match xs with
    | [.int i] => i.natAbs.log2 < 1920 ∧ Q (.str (toString i)) h
    | _ => False
  | .sorted fz => match xs with
    | [x] => match vw h x with
      | .lst ds => SortOk ds ∧ mkL fz (ds.mergeSort leD) h Q
      | _ => False
    | _ => False
/-- the built-in classes that isinstance is asked about -/
inductive TyN | int | bool | str | list | tuple | dict | none
  deriving DecidableEq
def TyN.name : TyN → String
  | .int => "int" | .bool => "bool" | .str => "str" | .list => "list" | .tuple => "tuple" | .dict => "dict" | .none => "NoneType"
def tyN : D → Option TyN
  | .non => some .none
  | .bl _ => some .bool
  | .int _ => some .int
  | .str _ => some .str
  | .tup _ => some .tuple
  | .lst _ => some .list
  | .dK _ => some .dict
  | .dT _ => some .dict
  | _ => none
def isiD (d : D) (t : TyN) : Option Bool := (tyN d).map fun u => u == t || (u == .bool && t == .int)
/-! ### dicts of tuple keys -/
def keyOf : D → Option Key
  | .int i => some (.inl i)
  | .str x => some (.inr x)
  | _ => none
def keysOf : List D → Option (List Key)
  | [] => some []
  | d :: ds => match keyOf d, keysOf ds with
    | some k, some ks => some (k :: ks)
    | _, _ => none
def kD : Key → D
  | .inl i => .int i
  | .inr x => .str x
def valD (kvs : List (List Key × D)) (k : List Key) : Option D := (kvs.find? fun kv => decide (kv.1 = k)).map (·.2)
def putD (kvs : List (List Key × D)) (k : List Key) (v : D) : List (List Key × D) :=
  if (kvs.any fun kv => decide (kv.1 = k)) = true then kvs.map (fun kv => if kv.1 = k then (kv.1, v) else kv) else kvs ++ [(k, v)]
def isDT (d : D) : Prop := ∃ kvs, d = .dT kvs
/-- d.get(y, z) -/
def dgetW (x y z : D) (h : AH) (Q : DK) : Prop := match vw h x, y with
  | .dT kvs, .tup ds => match keysOf ds with
    | some k => Q ((valD kvs k).getD z) h
    | none => False
  | _, _ => False
/-- dict(x) -/
def dcopyW (x : D) (h : AH) (Q : DK) : Prop := match vw h x with
  | .dT kvs => (∀ w : World, (kvs.map fun p => hashK w p.1).Nodup) ∧ ∀ p, h p = none → Q (.ref p) (hup h p (.dT kvs))
  | _ => False
def d1W (p : Addr) (x y : D) (h : AH) (Q : DK) : Prop := h p = some (.dT []) ∧ match x with
  | .tup ds => match keysOf ds with
    | some k => Q (.ref p) (hup h p (.dT [(k, y)]))
    | none => False
  | _ => False
/-- max(x, default=y) -/
def maxdW (x y : D) (h : AH) (Q : DK) : Prop := match vw h x with
  | .lst ds => match intsOf ds with
    | some [] => Q y h
    | some (n :: ns) => Q (.int (maxI n ns)) h
    | none => False
  | _ => False
def keysW (x : D) (k : List D → Prop) : Prop := match x with
  | .dT kvs => k (kvs.map fun p => .tup (p.1.map kD))
  | _ => False
def ixW (x i : D) (h : AH) (Q : DK) : Prop := match vw h x, i with
  | .tup ds, .int k => match atI ds k with
    | some d => Q d h
    | none => False
  | .lst ds, .int k => match atI ds k with
    | some d => Q d h
    | none => False
  | .dT kvs, .tup ds => match keysOf ds with
    | some k => match valD kvs k with
      | some d => Q d h
      | none => False
    | none => False
  | _, _ => False
def cutD (xs : List D) (lo hi : Option Int) : List D := (xs.drop (HT.sIx xs.length 0 lo)).take (HT.sIx xs.length xs.length hi - HT.sIx xs.length 0 lo)
def slW (fz : Bool) (x : D) (lo hi : Option Int) (h : AH) (Q : DK) : Prop := match vw h x with
  | .tup ds => Q (.tup (cutD ds lo hi)) h
  | .lst ds => mkL fz (cutD ds lo hi) h Q
  | _ => False
def setW (o i v : D) (h : AH) (k : AH → Prop) : Prop := match o, i with
  | .ref a, .int n => match h a with
    | some (.lst ds) => match ixN ds.length n with
      | some j => k (hup h a (.lst (ds.set j v)))
      | none => False
    | _ => False
  | .ref a, .tup ds => match h a with
    | some (.dT kvs) => match keysOf ds with
      | some y => kvs.length < sizeLine ∧ k (hup h a (.dT (putD kvs y v)))
      | none => False
    | _ => False
  | _, _ => False
def insAt (ds : List D) (i : Int) (v : D) : List D := ds.take (HT.sIx ds.length 0 (some i)) ++ v :: ds.drop (HT.sIx ds.length 0 (some i))
inductive Mt | append | pop | popAt | extend | reverse | bits
  deriving DecidableEq
def mtW (m : Mt) (o : D) (xs : List D) (h : AH) (Q : DK) : Prop := match m with
  | .append => match o, xs with
    | .ref a, [x] => match h a with
      | some (.lst ds) => ds.length < sizeLine ∧ Q .non (hup h a (.lst (ds ++ [x])))
      | _ => False
    | _, _ => False
  | .pop => match o, xs with
    | .ref a, [] => match h a with
      | some (.lst ds) => match ds[ds.length - 1]? with
        | some d => Q d (hup h a (.lst ds.dropLast))
        | none => False
      | _ => False
    | _, _ => False
  | .popAt => match o, xs with
    | .ref a, [.int i] => match h a with
      | some (.lst ds) => match ixN ds.length i with
        | some k => match ds[k]? with
          | some d => (-(2 ^ 63) ≤ i ∧ i < 2 ^ 63) ∧ Q d (hup h a (.lst (ds.eraseIdx k)))
          | none => False
        | none => False
      | _ => False
    | _, _ => False
  | .extend => match o, xs with
    | .ref a, [x] => match h a, vw h x with
      | some (.lst ds), .lst es => ds.length + es.length ≤ sizeLine ∧ Q .non (hup h a (.lst (ds ++ es)))
      | _, _ => False
    | _, _ => False
  | .reverse => match o, xs with
    | .ref a, [] => match h a with
      | some (.lst ds) => Q .non (hup h a (.lst ds.reverse))
      | _ => False
    | _, _ => False
  | .bits => match o, xs with
    | .int i, [] => Q (.int (Builtin.Int.intBits i : Nat)) h
    | _, _ => False
/-- what the method's object must be -/
def mtAt (m : Mt) (x : D) (h : AH) : Prop := match m with
  | .bits => True
  | _ => ∃ a ds, x = .ref a ∧ h a = some (.lst ds)
def catW (fz : Bool) (x y : D) (h : AH) (Q : DK) : Prop := match vw h x, vw h y with
  | .lst a, .lst b => mkL fz (a ++ b) h Q
  | _, _ => False
def repW (fz : Bool) (x y : D) (h : AH) (Q : DK) : Prop := match vw h x, y with
  | .lst a, .int k => -(2 ^ 63) ≤ k ∧ k < 2 ^ 63 ∧ mkL fz (List.replicate k.toNat a).flatten h Q
  | _, _ => False
def fzW (d : D) (h : AH) (Q : DK) : Prop := match d with
  | .ref a => match h a with
    | some d' => Q d' (hdel h a)
    | none => False
  | d => Q d h

/-! ### the language -/
inductive UOp | neg | inv
  deriving DecidableEq
/-- a target: a name, a tuple of names -/
inductive ITg | nm (i : Nat) | tp (is : List Nat)
mutual
inductive IE
  | var (i : Nat) | int (i : Int) | bl (b : Bool) | non | str (x : Str) | glb (g : Nat)
  | un (o : UOp) (a : IE) | bin (o : BOp) (a b : IE) | cat (fz : Bool) (a b : IE) | rep (fz : Bool) (a b : IE)
  | cmp (o : Cop) (a b : IE) | chn (o p : Cop) (a b c : IE)
  | andv (a b : IE) | orv (a b : IE) | notv (a : IE)
  | ite (c : IT) (a b : IE)
  | call (f : Nat) (as : IEs)
  | callK (c : Nat) (as ks : IEs)
  | bi (b : Bi) (as : IEs)
  | isi (e : IE) (T : TyN)
  | mt (m : Mt) (o : IE) (as : IEs)
  | ix (a i : IE)
  | sl (fz : Bool) (a : IE) (lo hi : IO)
  | tup (es : IEs) | lst (fz : Bool) (es : IEs)
  | comp (fz : Bool) (tg : ITg) (it : IIt) (own : List (Str × Nat)) (c : ITo) (e : IE)
  | lrng (fz : Bool) (a b : IE)
  | fz (e : IE)
  | dnew | d1 (k v : IE) | dcopy (a : IE) | dget (d k x : IE) | maxd (a d : IE)
  | comp2 (fz : Bool) (tg : ITg) (it : IIt) (own : List (Str × Nat)) (c : ITo) (tg1 : ITg) (it1 : IIt) (vs1 : List Nat) (c1 : ITo) (e : IE)
inductive IEs
  | nil | cons (e : IE) (es : IEs)
inductive IO
  | no | yes (e : IE)
inductive IT
  | val (e : IE) | not (a : IT) | and (a b : IT) | or (a b : IT) | ite (c a b : IT)
  | cmp (o : Cop) (a b : IE) | chn (o p : Cop) (a b c : IE)
inductive ITo
  | no | yes (t : IT)
/-- what is walked -/
inductive IIt
  | seq (e : IE) | rng1 (a : IE) | rng2 (a b : IE) | enum (e : IE) | zip (a b : IE) | rev (e : IE) | keys (e : IE)
end
mutual
inductive IS
  | asg (i : Nat) (e : IE) | asgT (is : List Nat) (e : IE) | sub (o i e : IE)
  | aug (i : Nat) (o : BOp) (e : IE) | augS (o i : IE) (p : BOp) (e : IE)
  | ife (c : IT) (a b : ISs) | fr (tg : ITg) (it : IIt) (b : ISs) | wh (c : IT) (b : ISs)
  | ret (e : IE) | retN | ex (e : IE) | brk | cnt | pass
  | fzv (i : Nat)
inductive ISs
  | nil | cons (s : IS) (ss : ISs)
end
/-- a def: its name, its parameters' number, its names by slot, its body -/
structure FD where
  name : Str
  np : Nat
  N : List Str
  body : ISs
/-- a way to call the def f by keywords: n positional values, the keywords' names, the parameters' places among all values -/
structure KC where
  f : Nat
  n : Nat
  ks : List Str
  perm : List Nat
structure Prog where
  fns : List FD
  /-- names that the module leaves to the built-ins -/
  free : List Str
  /-- the module's constants -/
  glbs : List (Str × D)
  kwc : List KC
abbrev Fn := List D → AH → DK → EK → Prop

def setAll : List Nat → List D → Env' → Env'
  | i :: is, d :: ds, ρ => setAll is ds (ρ.set i (some d))
  | _, _, ρ => ρ
def tgW (tg : ITg) (d : D) (ρ : Env') (k : Env' → Prop) : Prop := match tg with
  | .nm i => k (ρ.set i (some d))
  | .tp is => match d with
    | .tup ds => ds.length = is.length ∧ k (setAll is ds ρ)
    | _ => False
/-- a turn after another over the items; g: what must hold of the heap at each -/
def forW (tg : ITg) (g : AH → Prop) (b : WS) (Dn : EndsD) : List D → Env' → AH → Prop
  | [], ρ, h => g h ∧ Dn.nx ρ h
  | x :: xs, ρ, h => g h ∧ tgW tg x ρ fun ρ1 => b ⟨forW tg g b Dn xs, Dn.rt, Dn.nx, forW tg g b Dn xs⟩ ρ1 h
/-- the list at p that a comprehension makes -/
def compW (tg : ITg) (g : AH → Prop) (c : WT) (e : WE) (own : List Nat) (ρ : Env') (p : Addr) (Q : List D → AH → Prop) : List D → List D → AH → Prop
  | [], acc, h => g h ∧ h p = some (.lst acc) ∧ Q acc h
  | x :: xs, acc, h => g h ∧ tgW tg x (wipeD ρ own) fun ρ1 => c ρ1 h fun b h1 => match b with
    | true => e ρ1 h1 fun d h2 => h2 p = some (.lst acc) ∧ acc.length < sizeLine ∧ compW tg g c e own ρ p Q xs (acc ++ [d]) (hup h2 p (.lst (acc ++ [d])))
    | false => compW tg g c e own ρ p Q xs acc h1
abbrev WI := Env' → AH → (List D → (AH → Prop) → AH → Prop) → Prop
/-- two loops -/
def comp2W (tg : ITg) (g : AH → Prop) (c : WT) (tg1 : ITg) (it1 : WI) (c1 : WT) (e : WE) (own vs1 : List Nat) (ρ : Env') (p : Addr) (Q : List D → AH → Prop) : List D → List D → AH → Prop
  | [], acc, h => g h ∧ h p = some (.lst acc) ∧ Q acc h
  | x :: xs, acc, h => g h ∧ tgW tg x (wipeD ρ own) fun ρ1 => c ρ1 h fun b h1 => match b with
    | true => it1 ρ1 h1 fun items g1 h2 => compW tg1 g1 c1 e vs1 ρ1 p (comp2W tg g c tg1 it1 c1 e own vs1 ρ p Q xs) items acc h2
    | false => comp2W tg g c tg1 it1 c1 e own vs1 ρ p Q xs acc h1
def compEnd (fz : Bool) (p : Addr) (Q : DK) (ds : List D) (h : AH) : Prop := match fz with
  | true => Q (.lst ds) (hdel h p)
  | false => Q (.ref p) h
def whileW (c : WT) (b : WS) (D : EndsD) : Nat → Env' → AH → Prop
  | 0, _, _ => False
  | n + 1, ρ, h => c ρ h fun t h1 => match t with
    | true => b ⟨whileW c b D n, D.rt, D.nx, whileW c b D n⟩ ρ h1
    | false => D.nx ρ h1
def rngD (lo hi : Int) : List D := (List.range (hi - lo).toNat).map fun (i : Nat) => D.int (lo + (i : Int))
def pairs (k : Nat) : List D → List D
  | [] => []
  | d :: ds => .tup [.int k, d] :: pairs (k + 1) ds
def zipD : List D → List D → List D
  | a :: as, b :: bs => .tup [a, b] :: zipD as bs
  | _, _ => []
/-- the items of a thing that is walked, and what must stay meanwhile -/
def seqW (x : D) (h : AH) (k : List D → (AH → Prop) → Prop) : Prop := match x with
  | .tup ds => k ds fun _ => True
  | .lst ds => k ds fun _ => True
  | .ref a => match h a with
    | some (.lst ds) => k ds fun h' => h' a = some (.lst ds)
    | _ => False
  | _ => False
def Small (i : Int) : Prop := -(2 ^ 62) ≤ i ∧ i < 2 ^ 62
/-- nothing may be raised -/
abbrev noE : EK := fun _ _ _ => False
section
variable (P : Prog) (Φ : Nat → Fn)
mutual
def W (E : EK) : IE → WE
  | .var i, ρ, h, Q => match ρ[i]? with
    | some (some d) => Q d h
    | _ => False
  | .int i, _, h, Q => Q (.int i) h
  | .bl b, _, h, Q => Q (.bl b) h
  | .non, _, h, Q => Q .non h
  | .str x, _, h, Q => Q (.str x) h
  | .glb g, _, h, Q => match P.glbs[g]? with
    | some p => Q p.2 h
    | none => False
  | .un o a, ρ, h, Q => W E a ρ h fun x h1 => match o, x with
    | .neg, .int i => Q (.int (-i)) h1
    | .inv, .int i => Q (.int (Builtin.bitNot i)) h1
    | _, _ => False
  | .bin o a b, ρ, h, Q => W E a ρ h fun x h1 => W E b ρ h1 fun y h2 => binW o x y h2 Q
  | .cat fz a b, ρ, h, Q => W E a ρ h fun x h1 => W E b ρ h1 fun y h2 => catW fz x y h2 Q
  | .rep fz a b, ρ, h, Q => W E a ρ h fun x h1 => W E b ρ h1 fun y h2 => repW fz x y h2 Q
  | .cmp o a b, ρ, h, Q => W E a ρ h fun x h1 => W E b ρ h1 fun y h2 => match cmpD o (vw h2 x) (vw h2 y) with
    | some t => Q (.bl t) h2
    | none => False
  | .chn o p a b c, ρ, h, Q => W E a ρ h fun x h1 => W E b ρ h1 fun y h2 => match cmpD o (vw h2 x) (vw h2 y) with
    | some true => W E c ρ h2 fun z h3 => match cmpD p (vw h3 y) (vw h3 z) with
      | some t => Q (.bl t) h3
      | none => False
    | some false => Q (.bl false) h2
    | none => False
  | .andv a b, ρ, h, Q => W E a ρ h fun x h1 => match x with
    | .bl true => W E b ρ h1 Q
    | .bl false => Q (.bl false) h1
    | _ => False
  | .orv a b, ρ, h, Q => W E a ρ h fun x h1 => match x with
    | .bl true => Q (.bl true) h1
    | .bl false => W E b ρ h1 Q
    | _ => False
  | .notv a, ρ, h, Q => W E a ρ h fun x h1 => match x with
    | .bl b => Q (.bl (!b)) h1
    | _ => False
  | .ite c a b, ρ, h, Q => T E c ρ h fun t h1 => match t with
    | true => W E a ρ h1 Q
    | false => W E b ρ h1 Q
  | .call f as, ρ, h, Q => Ws E as ρ h fun ds h1 => Φ f ds h1 Q E
  | .callK c as ks, ρ, h, Q => match P.kwc[c]? with
    | some q => Ws E as ρ h fun ds h1 => Ws E ks ρ h1 fun es h2 => Φ q.f (q.perm.filterMap fun i => (ds ++ es)[i]?) h2 Q E
    | none => False
  | .bi b as, ρ, h, Q => Ws E as ρ h fun ds h1 => biW b ds h1 Q
  | .isi e t, ρ, h, Q => W E e ρ h fun x h1 => match isiD (vw h1 x) t with
    | some b => Q (.bl b) h1
    | none => False
  | .mt m o as, ρ, h, Q => W E o ρ h fun x h1 => mtAt m x h1 ∧ Ws E as ρ h1 fun ds h2 => mtW m x ds h2 Q
  | .ix a i, ρ, h, Q => W E a ρ h fun x h1 => W E i ρ h1 fun y h2 => ixW x y h2 Q
  | .sl fz a lo hi, ρ, h, Q => W E a ρ h fun x h1 => Wo E lo ρ h1 fun l h2 => Wo E hi ρ h2 fun u h3 => slW fz x l u h3 Q
  | .tup es, ρ, h, Q => Ws E es ρ h fun ds h1 => ds.length ≤ sizeLine ∧ Q (.tup ds) h1
  | .lst fz es, ρ, h, Q => Ws E es ρ h fun ds h1 => mkL fz ds h1 Q
  | .comp fz tg it own c e, ρ, h, Q => Wi E it ρ h fun items g h1 => ∀ p, h1 p = none →
      compW tg g (To noE c) (W noE e) (own.map (·.2)) ρ p (compEnd fz p Q) items [] (hup h1 p (.lst []))
  | .lrng fz a b, ρ, h, Q => W E a ρ h fun x h1 => W E b ρ h1 fun y h2 => match x, y with
    | .int i, .int j => RgOk i j ∧ mkL fz (rngD i j) h2 Q
    | _, _ => False
  | .fz e, ρ, h, Q => W E e ρ h fun d h1 => fzW d h1 Q
  | .dnew, _, h, Q => ∀ p, h p = none → Q (.ref p) (hup h p (.dT []))
  | .d1 k v, ρ, h, Q => ∀ p, h p = none → W E k ρ (hup h p (.dT [])) fun x h1 => W E v ρ h1 fun y h2 => d1W p x y h2 Q
  | .dcopy a, ρ, h, Q => W E a ρ h fun x h1 => dcopyW x h1 Q
  | .dget d k x, ρ, h, Q => W E d ρ h fun o h1 => isDT (vw h1 o) ∧ W E k ρ h1 fun y h2 => W E x ρ h2 fun z h3 => dgetW o y z h3 Q
  | .maxd a d, ρ, h, Q => W E a ρ h fun x h1 => W E d ρ h1 fun y h2 => maxdW x y h2 Q
  | .comp2 fz tg it own c tg1 it1 vs1 c1 e, ρ, h, Q => Wi E it ρ h fun items g h1 => ∀ p, h1 p = none →
      comp2W tg g (To noE c) tg1 (Wi noE it1) (To noE c1) (W noE e) (own.map (·.2)) vs1 ρ p (compEnd fz p Q) items [] (hup h1 p (.lst []))
def Ws (E : EK) : IEs → WA
  | .nil, _, h, Q => Q [] h
  | .cons e es, ρ, h, Q => W E e ρ h fun d h1 => Ws E es ρ h1 fun ds h2 => Q (d :: ds) h2
def Wo (E : EK) : IO → Env' → AH → (Option Int → AH → Prop) → Prop
  | .no, _, h, Q => Q none h
  | .yes e, ρ, h, Q => W E e ρ h fun d h1 => match d with
    | .int i => Q (some i) h1
    | _ => False
def T (E : EK) : IT → WT
  | .val e, ρ, h, k => W E e ρ h fun d h1 => match vw h1 d with
    | .bl b => k b h1
    | .int i => k (i != 0) h1
    | .lst ds => k (!ds.isEmpty) h1
    | .tup ds => k (!ds.isEmpty) h1
    | .non => k false h1
    | .str x => x.length ≤ sizeLine ∧ k (x.length != 0) h1
    | _ => False
  | .cmp o a b, ρ, h, k => W E a ρ h fun x h1 => W E b ρ h1 fun y h2 => match cmpD o (vw h2 x) (vw h2 y) with
    | some t => k t h2
    | none => False
  | .chn o p a b c, ρ, h, k => W E a ρ h fun x h1 => W E b ρ h1 fun y h2 => match cmpD o (vw h2 x) (vw h2 y) with
    | some true => W E c ρ h2 fun z h3 => match cmpD p (vw h3 y) (vw h3 z) with
      | some t => k t h3
      | none => False
    | some false => k false h2
    | none => False
  | .not a, ρ, h, k => T E a ρ h fun b h1 => k (!b) h1
  | .and a b, ρ, h, k => T E a ρ h fun t h1 => match t with
    | true => T E b ρ h1 k
    | false => k false h1
  | .or a b, ρ, h, k => T E a ρ h fun t h1 => match t with
    | true => k true h1
    | false => T E b ρ h1 k
  | .ite c a b, ρ, h, k => T E c ρ h fun t h1 => match t with
    | true => T E a ρ h1 k
    | false => T E b ρ h1 k
def To (E : EK) : ITo → WT
  | .no, _, h, k => k true h
  | .yes t, ρ, h, k => T E t ρ h k
def Wi (E : EK) : IIt → WI
  | .seq e, ρ, h, R => W E e ρ h fun x h1 => seqW x h1 fun ds g => R ds g h1
  | .rng1 a, ρ, h, R => W E a ρ h fun x h1 => match x with
    | .int j => Small j ∧ R (rngD 0 j) (fun _ => True) h1
    | _ => False
  | .rng2 a b, ρ, h, R => W E a ρ h fun x h1 => W E b ρ h1 fun y h2 => match x, y with
    | .int i, .int j => Small i ∧ Small j ∧ R (rngD i j) (fun _ => True) h2
    | _, _ => False
  | .enum e, ρ, h, R => W E e ρ h fun x h1 => seqW x h1 fun ds g => R (pairs 0 ds) g h1
  | .zip a b, ρ, h, R => W E a ρ h fun x h1 => W E b ρ h1 fun y h2 => seqW x h2 fun ds g => seqW y h2 fun es g' => R (zipD ds es) (fun h => g h ∧ g' h) h2
  | .rev e, ρ, h, R => W E e ρ h fun x h1 => seqW x h1 fun ds g => R ds.reverse g h1
  | .keys e, ρ, h, R => W E e ρ h fun x h1 => keysW x fun ds => R ds (fun _ => True) h1
end
mutual
def S (E : EK) : IS → WS
  | .asg i e, D, ρ, h => W P Φ E e ρ h fun d h1 => D.nx (ρ.set i (some d)) h1
  | .asgT is e, D, ρ, h => W P Φ E e ρ h fun d h1 => tgW (.tp is) d ρ fun ρ1 => D.nx ρ1 h1
  | .sub o i e, D, ρ, h => W P Φ E e ρ h fun v h1 => W P Φ E o ρ h1 fun x h2 => W P Φ E i ρ h2 fun y h3 => setW x y v h3 fun h4 => D.nx ρ h4
  | .aug i o e, D, ρ, h => match ρ[i]? with
    | some (some x) => W P Φ E e ρ h fun y h1 => match x with
      | .int _ => binW o x y h1 fun z h2 => D.nx (ρ.set i (some z)) h2
      | _ => False
    | _ => False
  | .augS o i p e, D, ρ, h => W P Φ E o ρ h fun x h1 => W P Φ E i ρ h1 fun y h2 => ixW x y h2 fun v h3 => W P Φ E e ρ h3 fun u h4 => match v with
    | .int _ => binW p v u h4 fun z h5 => setW x y z h5 fun h6 => D.nx ρ h6
    | _ => False
  | .ife c a b, D, ρ, h => T P Φ E c ρ h fun t h1 => match t with
    | true => Ss E a D ρ h1
    | false => Ss E b D ρ h1
  | .fr tg it b, D, ρ, h => Wi P Φ E it ρ h fun items g h1 => forW tg g (Ss E b) D items ρ h1
  | .wh c b, D, ρ, h => ∃ n, whileW (T P Φ E c) (Ss E b) D n ρ h
  | .ret e, D, ρ, h => W P Φ E e ρ h fun d h1 => ∃ h2, Sub h2 h1 ∧ D.rt d h2
  | .retN, D, ρ, h => ∃ h2, Sub h2 h ∧ D.rt .non h2
  | .ex e, D, ρ, h => W P Φ E e ρ h fun _ h1 => D.nx ρ h1
  | .brk, D, ρ, h => D.bk ρ h
  | .cnt, D, ρ, h => D.ct ρ h
  | .pass, D, ρ, h => D.nx ρ h
  | .fzv i, D, ρ, h => match ρ[i]? with
    | some (some (.ref a)) => match h a with
      | some d => D.nx (ρ.set i (some d)) (hdel h a)
      | none => False
    | _ => False
def Ss (E : EK) : ISs → WS
  | .nil, D, ρ, h => D.nx ρ h
  | .cons s ss, D, ρ, h => S E s { D with nx := Ss E ss D } ρ h
end
end
def startD (N : List Str) (ds : List D) : Env' := ds.map some ++ List.replicate (N.length - ds.length) none
/-- the def f, with k calls within one another -/
def fnW (P : Prog) : Nat → Nat → Fn
  | 0, _ => fun _ _ _ _ => False
  | k + 1, i => fun ds h Q E => match P.fns[i]? with
    | some fd => ds.length = fd.np ∧ Ss P (fnW P k) E fd.body ⟨fun _ h' => ∃ h1, Sub h1 h' ∧ Q .non h1, Q, fun _ _ => False, fun _ _ => False⟩ (startD fd.N ds) h
    | none => False
end G

end

section
set_option Elab.async false
set_option linter.all false
set_option maxRecDepth 100000
set_option maxHeartbeats 4000000
/-! G3: monotony. -/
namespace G
open PySem PySem.Spec PyProof.Rows L2
section
variable {h : AH} {Q Q' : DK}
theorem mkL_mono {fz : Bool} {ds : List D} (hw : mkL fz ds h Q) (k : ∀ d h', Q d h' → Q' d h') : mkL fz ds h Q' := by
  cases fz
  · exact ⟨hw.1, fun p n => k _ _ (hw.2 p n)⟩
  · exact ⟨hw.1, k _ _ hw.2⟩
theorem binW_mono {o : BOp} {x y : D} (hw : binW o x y h Q) (k : ∀ d h', Q d h' → Q' d h') : binW o x y h Q' := by
  revert hw; unfold binW; split <;> first | exact k _ _ | exact fun q => ⟨q.1, k _ _ q.2⟩ | exact fun q => ⟨q.1, q.2.1, k _ _ q.2.2⟩ | exact id
theorem biW_mono {b : Bi} {xs : List D} (hw : biW b xs h Q) (k : ∀ d h', Q d h' → Q' d h') : biW b xs h Q' := by
  cases b <;> simp only [biW] at hw ⊢ <;> revert hw <;> (repeat' split) <;>
    first | exact k _ _ | exact fun q => ⟨q.1, k _ _ q.2⟩ | exact fun q => mkL_mono q k | exact fun q => q | exact fun q => ⟨q.1, mkL_mono q.2 k⟩
theorem ixW_mono {x i : D} (hw : ixW x i h Q) (k : ∀ d h', Q d h' → Q' d h') : ixW x i h Q' := by
  unfold ixW at hw ⊢; revert hw; (repeat' split) <;> first | exact k _ _ | exact fun q => q
theorem d1W_mono {p : Addr} {x y : D} (hw : d1W p x y h Q) (k : ∀ d h', Q d h' → Q' d h') : d1W p x y h Q' := by
  unfold d1W at hw ⊢; revert hw; (repeat' split) <;> first | exact fun q => ⟨q.1, k _ _ q.2⟩ | exact fun q => q
theorem dcopyW_mono {x : D} (hw : dcopyW x h Q) (k : ∀ d h', Q d h' → Q' d h') : dcopyW x h Q' := by
  unfold dcopyW at hw ⊢; revert hw; (repeat' split) <;> first | exact fun q => ⟨q.1, fun p n => k _ _ (q.2 p n)⟩ | exact fun q => q
theorem dgetW_mono {x y z : D} (hw : dgetW x y z h Q) (k : ∀ d h', Q d h' → Q' d h') : dgetW x y z h Q' := by
  unfold dgetW at hw ⊢; revert hw; (repeat' split) <;> first | exact k _ _ | exact fun q => q
theorem maxdW_mono {x y : D} (hw : maxdW x y h Q) (k : ∀ d h', Q d h' → Q' d h') : maxdW x y h Q' := by
  unfold maxdW at hw ⊢; revert hw; (repeat' split) <;> first | exact k _ _ | exact fun q => q
theorem keysW_mono {x : D} {k k' : List D → Prop} (hw : keysW x k) (m : ∀ ds, k ds → k' ds) : keysW x k' := by
  unfold keysW at hw ⊢; revert hw; (repeat' split) <;> first | exact m _ | exact fun q => q
theorem slW_mono {fz : Bool} {x : D} {lo hi : Option Int} (hw : slW fz x lo hi h Q) (k : ∀ d h', Q d h' → Q' d h') : slW fz x lo hi h Q' := by
  unfold slW at hw ⊢; revert hw; (repeat' split) <;> first | exact k _ _ | exact fun q => mkL_mono q k | exact fun q => q
theorem setW_mono {o i v : D} {k k' : AH → Prop} (hw : setW o i v h k) (m : ∀ h', k h' → k' h') : setW o i v h k' := by
  unfold setW at hw ⊢; revert hw; (repeat' split) <;> first | exact m _ | exact fun q => ⟨q.1, m _ q.2⟩ | exact fun q => q
theorem mtW_mono {m : Mt} {o : D} {xs : List D} (hw : mtW m o xs h Q) (k : ∀ d h', Q d h' → Q' d h') : mtW m o xs h Q' := by
  cases m <;> simp only [mtW] at hw ⊢ <;> revert hw <;> (repeat' split) <;>
    first | exact k _ _ | exact fun q => ⟨q.1, k _ _ q.2⟩ | exact fun q => q | skip
theorem catW_mono {fz : Bool} {x y : D} (hw : catW fz x y h Q) (k : ∀ d h', Q d h' → Q' d h') : catW fz x y h Q' := by
  unfold catW at hw ⊢; revert hw; (repeat' split) <;> first | exact fun q => mkL_mono q k | exact fun q => q
theorem repW_mono {fz : Bool} {x y : D} (hw : repW fz x y h Q) (k : ∀ d h', Q d h' → Q' d h') : repW fz x y h Q' := by
  unfold repW at hw ⊢; revert hw; (repeat' split) <;> first | exact fun q => ⟨q.1, q.2.1, mkL_mono q.2.2 k⟩ | exact fun q => q
theorem fzW_mono {d : D} (hw : fzW d h Q) (k : ∀ d h', Q d h' → Q' d h') : fzW d h Q' := by
  unfold fzW at hw ⊢; revert hw; (repeat' split) <;> first | exact k _ _ | exact fun q => q
theorem tgW_mono {tg : ITg} {d : D} {ρ : Env'} {k k' : Env' → Prop} (hw : tgW tg d ρ k) (m : ∀ ρ, k ρ → k' ρ) : tgW tg d ρ k' := by
  unfold tgW at hw ⊢; revert hw; (repeat' split) <;> first | exact m _ | exact fun q => ⟨q.1, m _ q.2⟩ | exact fun q => q
theorem seqW_mono {x : D} {k k' : List D → (AH → Prop) → Prop} (hw : seqW x h k) (m : ∀ ds g, k ds g → k' ds g) : seqW x h k' := by
  unfold seqW at hw ⊢; revert hw; (repeat' split) <;> first | exact m _ _ | exact fun q => q
end
theorem EndsLe.refl (D : EndsD) : EndsLe D D := ⟨fun _ _ q => q, fun _ _ q => q, fun _ _ q => q, fun _ _ q => q⟩
theorem forW_mono {tg : ITg} {g : AH → Prop} {b : WS} (mb : MonS b) {D D' : EndsD} (le : EndsLe D D') : ∀ (items : List G.D) (ρ : Env') (h : AH), forW tg g b D items ρ h → forW tg g b D' items ρ h
  | [], ρ, h, q => ⟨q.1, le.nx _ _ q.2⟩
  | x :: xs, ρ, h, q => ⟨q.1, tgW_mono q.2 fun ρ1 z => mb _ _ _ _ z ⟨fun _ _ => forW_mono mb le xs _ _, le.rt, le.nx, fun _ _ => forW_mono mb le xs _ _⟩⟩
theorem whileW_mono {c : WT} {b : WS} (mc : MonT c) (mb : MonS b) {D D' : EndsD} (le : EndsLe D D') : ∀ (n : Nat) (ρ : Env') (h : AH), whileW c b D n ρ h → whileW c b D' n ρ h
  | 0, _, _, q => q
  | n + 1, ρ, h, q => mc _ _ _ _ q fun t h1 z => by
    cases t with
    | true => exact mb _ _ _ _ z ⟨fun _ _ => whileW_mono mc mb le n _ _, le.rt, le.nx, fun _ _ => whileW_mono mc mb le n _ _⟩
    | false => exact le.nx _ _ z
theorem compW_mono {tg : ITg} {g : AH → Prop} {c : WT} {e : WE} {own : List Nat} {ρ : Env'} {p : Addr} (mc : MonT c) (me : MonE e) {Q Q' : List D → AH → Prop} (k : ∀ ds h, Q ds h → Q' ds h) : ∀ (items acc : List D) (h : AH), compW tg g c e own ρ p Q items acc h → compW tg g c e own ρ p Q' items acc h
  | [], acc, h, q => ⟨q.1, q.2.1, k _ _ q.2.2⟩
  | x :: xs, acc, h, q => ⟨q.1, tgW_mono q.2 fun ρ1 z => mc _ _ _ _ z fun b h1 y => by
    cases b with
    | true => exact me _ _ _ _ y fun d h2 u => ⟨u.1, u.2.1, compW_mono mc me k xs _ _ u.2.2⟩
    | false => exact compW_mono mc me k xs _ _ y⟩
theorem comp2W_mono {tg tg1 : ITg} {g : AH → Prop} {c c1 : WT} {it1 : WI} {e : WE} {own vs1 : List Nat} {ρ : Env'} {p : Addr} (mc : MonT c) (mi : ∀ ρ h R R', it1 ρ h R → (∀ ds g h', R ds g h' → R' ds g h') → it1 ρ h R') (mc1 : MonT c1) (me : MonE e) {Q Q' : List D → AH → Prop} (k : ∀ ds h, Q ds h → Q' ds h) : ∀ (items acc : List D) (h : AH), comp2W tg g c tg1 it1 c1 e own vs1 ρ p Q items acc h → comp2W tg g c tg1 it1 c1 e own vs1 ρ p Q' items acc h
  | [], acc, h, q => ⟨q.1, q.2.1, k _ _ q.2.2⟩
  | x :: xs, acc, h, q => ⟨q.1, tgW_mono q.2 fun ρ1 z => mc _ _ _ _ z fun b h1 y => by
    cases b with
    | true => exact mi _ _ _ _ y fun items1 g1 h2 u => compW_mono mc1 me (comp2W_mono mc mi mc1 me k xs) items1 acc h2 u
    | false => exact comp2W_mono mc mi mc1 me k xs _ _ y⟩
theorem compEnd_mono {fz : Bool} {p : Addr} {Q Q' : DK} (k : ∀ d h', Q d h' → Q' d h') (ds : List D) (h : AH) (q : compEnd fz p Q ds h) : compEnd fz p Q' ds h := by
  cases fz <;> exact k _ _ q
def MonΦ (Φ : Nat → Fn) : Prop := ∀ f ds h E (Q Q' : DK), Φ f ds h Q E → (∀ d h', Q d h' → Q' d h') → Φ f ds h Q' E
section
variable {P : Prog} {Φ : Nat → Fn} (mΦ : MonΦ Φ)
include mΦ
mutual
theorem W_mono (E : EK) : ∀ e : IE, MonE (W P Φ E e)
  | .var i => fun ρ h Q Q' hw k => by
    simp only [W] at hw ⊢; revert hw; split
    · exact k _ _
    · exact id
  | .int i => fun ρ h Q Q' hw k => by simp only [W] at hw ⊢; exact k _ _ hw
  | .bl b => fun ρ h Q Q' hw k => by simp only [W] at hw ⊢; exact k _ _ hw
  | .non => fun ρ h Q Q' hw k => by simp only [W] at hw ⊢; exact k _ _ hw
  | .str x => fun ρ h Q Q' hw k => by simp only [W] at hw ⊢; exact k _ _ hw
  | .glb g => fun ρ h Q Q' hw k => by
    simp only [W] at hw ⊢; revert hw; split
    · exact k _ _
    · exact id
  | .un o a => fun ρ h Q Q' hw k => by
    simp only [W] at hw ⊢
    refine W_mono E a _ _ _ _ hw fun x h1 => ?_
    split <;> first | exact k _ _ | exact id
  | .bin o a b => fun ρ h Q Q' hw k => by
    simp only [W] at hw ⊢
    exact W_mono E a _ _ _ _ hw fun x h1 z => W_mono E b _ _ _ _ z fun y h2 u => binW_mono u k
  | .cat fz a b => fun ρ h Q Q' hw k => by
    simp only [W] at hw ⊢
    exact W_mono E a _ _ _ _ hw fun x h1 z => W_mono E b _ _ _ _ z fun y h2 u => catW_mono u k
  | .rep fz a b => fun ρ h Q Q' hw k => by
    simp only [W] at hw ⊢
    exact W_mono E a _ _ _ _ hw fun x h1 z => W_mono E b _ _ _ _ z fun y h2 u => repW_mono u k
  | .cmp o a b => fun ρ h Q Q' hw k => by
    simp only [W] at hw ⊢
    refine W_mono E a _ _ _ _ hw fun x h1 z => W_mono E b _ _ _ _ z fun y h2 => ?_
    split <;> first | exact k _ _ | exact id
  | .chn o p a b c => fun ρ h Q Q' hw k => by
    simp only [W] at hw ⊢
    refine W_mono E a _ _ _ _ hw fun x h1 z => W_mono E b _ _ _ _ z fun y h2 => ?_
    split
    · refine fun u => W_mono E c _ _ _ _ u fun z h3 => ?_
      split <;> first | exact k _ _ | exact id
    · exact k _ _
    · exact id
  | .andv a b => fun ρ h Q Q' hw k => by
    simp only [W] at hw ⊢
    refine W_mono E a _ _ _ _ hw fun x h1 => ?_
    split <;> first | exact k _ _ | exact fun u => W_mono E b _ _ _ _ u k | exact id
  | .orv a b => fun ρ h Q Q' hw k => by
    simp only [W] at hw ⊢
    refine W_mono E a _ _ _ _ hw fun x h1 => ?_
    split <;> first | exact k _ _ | exact fun u => W_mono E b _ _ _ _ u k | exact id
  | .notv a => fun ρ h Q Q' hw k => by
    simp only [W] at hw ⊢
    refine W_mono E a _ _ _ _ hw fun x h1 => ?_
    split <;> first | exact k _ _ | exact id
  | .ite c a b => fun ρ h Q Q' hw k => by
    simp only [W] at hw ⊢
    refine T_mono E c _ _ _ _ hw fun t h1 => ?_
    cases t
    · exact fun u => W_mono E b _ _ _ _ u k
    · exact fun u => W_mono E a _ _ _ _ u k
  | .call f as => fun ρ h Q Q' hw k => by
    simp only [W] at hw ⊢
    exact Ws_mono E as _ _ _ _ hw fun ds h1 u => mΦ _ _ _ _ _ _ u k
  | .callK c as ks => fun ρ h Q Q' hw k => by
    simp only [W] at hw ⊢
    revert hw; split
    · exact fun hw => Ws_mono E as _ _ _ _ hw fun ds h1 z => Ws_mono E ks _ _ _ _ z fun es h2 u => mΦ _ _ _ _ _ _ u k
    · exact id
  | .bi b as => fun ρ h Q Q' hw k => by
    simp only [W] at hw ⊢
    exact Ws_mono E as _ _ _ _ hw fun ds h1 u => biW_mono u k
  | .isi e t => fun ρ h Q Q' hw k => by
    simp only [W] at hw ⊢
    refine W_mono E e _ _ _ _ hw fun x h1 => ?_
    split <;> first | exact k _ _ | exact id
  | .mt m o as => fun ρ h Q Q' hw k => by
    simp only [W] at hw ⊢
    exact W_mono E o _ _ _ _ hw fun x h1 z => ⟨z.1, Ws_mono E as _ _ _ _ z.2 fun ds h2 u => mtW_mono u k⟩
  | .ix a i => fun ρ h Q Q' hw k => by
    simp only [W] at hw ⊢
    exact W_mono E a _ _ _ _ hw fun x h1 z => W_mono E i _ _ _ _ z fun y h2 u => ixW_mono u k
  | .sl fz a lo hi => fun ρ h Q Q' hw k => by
    simp only [W] at hw ⊢
    exact W_mono E a _ _ _ _ hw fun x h1 z => Wo_mono E lo _ _ _ _ z fun l h2 y => Wo_mono E hi _ _ _ _ y fun u h3 v => slW_mono v k
  | .tup es => fun ρ h Q Q' hw k => by
    simp only [W] at hw ⊢
    exact Ws_mono E es _ _ _ _ hw fun ds h1 u => ⟨u.1, k _ _ u.2⟩
  | .lst fz es => fun ρ h Q Q' hw k => by
    simp only [W] at hw ⊢
    exact Ws_mono E es _ _ _ _ hw fun ds h1 u => mkL_mono u k
  | .comp fz tg it own c e => fun ρ h Q Q' hw k => by
    simp only [W] at hw ⊢
    exact Wi_mono E it _ _ _ _ hw fun items g h1 u p n => compW_mono (To_mono noE c) (W_mono noE e) (compEnd_mono k) _ _ _ (u p n)
  | .lrng fz a b => fun ρ h Q Q' hw k => by
    simp only [W] at hw ⊢
    refine W_mono E a _ _ _ _ hw fun x h1 z => W_mono E b _ _ _ _ z fun y h2 => ?_
    split <;> first | exact fun u => ⟨u.1, mkL_mono u.2 k⟩ | exact id
  | .fz e => fun ρ h Q Q' hw k => by
    simp only [W] at hw ⊢
    exact W_mono E e _ _ _ _ hw fun d h1 u => fzW_mono u k
  | .dnew => fun ρ h Q Q' hw k => by simp only [W] at hw ⊢; exact fun p n => k _ _ (hw p n)
  | .d1 a b => fun ρ h Q Q' hw k => by
    simp only [W] at hw ⊢
    exact fun p n => W_mono E a _ _ _ _ (hw p n) fun x h1 z => W_mono E b _ _ _ _ z fun y h2 u => d1W_mono u k
  | .dcopy a => fun ρ h Q Q' hw k => by
    simp only [W] at hw ⊢
    exact W_mono E a _ _ _ _ hw fun x h1 u => dcopyW_mono u k
  | .dget a b c => fun ρ h Q Q' hw k => by
    simp only [W] at hw ⊢
    exact W_mono E a _ _ _ _ hw fun x h1 z => ⟨z.1, W_mono E b _ _ _ _ z.2 fun y h2 u => W_mono E c _ _ _ _ u fun z h3 v => dgetW_mono v k⟩
  | .maxd a b => fun ρ h Q Q' hw k => by
    simp only [W] at hw ⊢
    exact W_mono E a _ _ _ _ hw fun x h1 z => W_mono E b _ _ _ _ z fun y h2 u => maxdW_mono u k
  | .comp2 fz tg it own c tg1 it1 vs1 c1 e => fun ρ h Q Q' hw k => by
    simp only [W] at hw ⊢
    exact Wi_mono E it _ _ _ _ hw fun items g h1 u p n => comp2W_mono (To_mono noE c) (Wi_mono noE it1) (To_mono noE c1) (W_mono noE e) (compEnd_mono k) _ _ _ (u p n)
theorem Ws_mono (E : EK) : ∀ es : IEs, MonA (Ws P Φ E es)
  | .nil => fun ρ h Q Q' hw k => by simp only [Ws] at hw ⊢; exact k _ _ hw
  | .cons e es => fun ρ h Q Q' hw k => by
    simp only [Ws] at hw ⊢
    exact W_mono E e _ _ _ _ hw fun d h1 z => Ws_mono E es _ _ _ _ z fun ds h2 u => k _ _ u
theorem Wo_mono (E : EK) : ∀ (o : IO) (ρ : Env') (h : AH) (Q Q' : Option Int → AH → Prop), Wo P Φ E o ρ h Q → (∀ i h', Q i h' → Q' i h') → Wo P Φ E o ρ h Q'
  | .no => fun ρ h Q Q' hw k => by simp only [Wo] at hw ⊢; exact k _ _ hw
  | .yes e => fun ρ h Q Q' hw k => by
    simp only [Wo] at hw ⊢
    refine W_mono E e _ _ _ _ hw fun d h1 => ?_
    split <;> first | exact k _ _ | exact id
theorem T_mono (E : EK) : ∀ t : IT, MonT (T P Φ E t)
  | .val e => fun ρ h Q Q' hw k => by
    simp only [T] at hw ⊢
    refine W_mono E e _ _ _ _ hw fun d h1 => ?_
    split <;> first | exact k _ _ | exact fun q => ⟨q.1, k _ _ q.2⟩ | exact id
  | .cmp o a b => fun ρ h Q Q' hw k => by
    simp only [T] at hw ⊢
    refine W_mono E a _ _ _ _ hw fun x h1 z => W_mono E b _ _ _ _ z fun y h2 => ?_
    split <;> first | exact k _ _ | exact id
  | .chn o p a b c => fun ρ h Q Q' hw k => by
    simp only [T] at hw ⊢
    refine W_mono E a _ _ _ _ hw fun x h1 z => W_mono E b _ _ _ _ z fun y h2 => ?_
    split
    · refine fun u => W_mono E c _ _ _ _ u fun z h3 => ?_
      split <;> first | exact k _ _ | exact id
    · exact k _ _
    · exact id
  | .not a => fun ρ h Q Q' hw k => by simp only [T] at hw ⊢; exact T_mono E a _ _ _ _ hw fun b h1 => k _ _
  | .and a b => fun ρ h Q Q' hw k => by
    simp only [T] at hw ⊢
    refine T_mono E a _ _ _ _ hw fun t h1 => ?_
    cases t
    · exact k _ _
    · exact fun u => T_mono E b _ _ _ _ u k
  | .or a b => fun ρ h Q Q' hw k => by
    simp only [T] at hw ⊢
    refine T_mono E a _ _ _ _ hw fun t h1 => ?_
    cases t
    · exact fun u => T_mono E b _ _ _ _ u k
    · exact k _ _
  | .ite c a b => fun ρ h Q Q' hw k => by
    simp only [T] at hw ⊢
    refine T_mono E c _ _ _ _ hw fun t h1 => ?_
    cases t
    · exact fun u => T_mono E b _ _ _ _ u k
    · exact fun u => T_mono E a _ _ _ _ u k
theorem To_mono (E : EK) : ∀ t : ITo, MonT (To P Φ E t)
  | .no => fun ρ h Q Q' hw k => by simp only [To] at hw ⊢; exact k _ _ hw
  | .yes t => fun ρ h Q Q' hw k => by simp only [To] at hw ⊢; exact T_mono E t _ _ _ _ hw k
theorem Wi_mono (E : EK) : ∀ (i : IIt) (ρ : Env') (h : AH) (R R' : List D → (AH → Prop) → AH → Prop), Wi P Φ E i ρ h R → (∀ ds g h', R ds g h' → R' ds g h') → Wi P Φ E i ρ h R'
  | .seq e => fun ρ h Q Q' hw k => by
    simp only [Wi] at hw ⊢
    exact W_mono E e _ _ _ _ hw fun x h1 z => seqW_mono z fun ds g => k _ _ _
  | .rng1 a => fun ρ h Q Q' hw k => by
    simp only [Wi] at hw ⊢
    refine W_mono E a _ _ _ _ hw fun x h1 => ?_
    split <;> first | exact fun q => ⟨q.1, k _ _ _ q.2⟩ | exact id
  | .rng2 a b => fun ρ h Q Q' hw k => by
    simp only [Wi] at hw ⊢
    refine W_mono E a _ _ _ _ hw fun x h1 z => W_mono E b _ _ _ _ z fun y h2 => ?_
    split <;> first | exact fun q => ⟨q.1, q.2.1, k _ _ _ q.2.2⟩ | exact id
  | .enum e => fun ρ h Q Q' hw k => by
    simp only [Wi] at hw ⊢
    exact W_mono E e _ _ _ _ hw fun x h1 z => seqW_mono z fun ds g => k _ _ _
  | .zip a b => fun ρ h Q Q' hw k => by
    simp only [Wi] at hw ⊢
    exact W_mono E a _ _ _ _ hw fun x h1 z => W_mono E b _ _ _ _ z fun y h2 u => seqW_mono u fun ds g v => seqW_mono v fun es g' => k _ _ _
  | .rev e => fun ρ h Q Q' hw k => by
    simp only [Wi] at hw ⊢
    exact W_mono E e _ _ _ _ hw fun x h1 z => seqW_mono z fun ds g => k _ _ _
  | .keys e => fun ρ h Q Q' hw k => by
    simp only [Wi] at hw ⊢
    exact W_mono E e _ _ _ _ hw fun x h1 z => keysW_mono z fun ds => k _ _ _
end
mutual
theorem S_mono (E : EK) : ∀ s : IS, MonS (S P Φ E s)
  | .asg i e => fun D D' ρ h hw le => by simp only [S] at hw ⊢; exact W_mono mΦ E e _ _ _ _ hw fun d h1 => le.nx _ _
  | .asgT is e => fun D D' ρ h hw le => by simp only [S] at hw ⊢; exact W_mono mΦ E e _ _ _ _ hw fun d h1 z => tgW_mono z fun ρ1 => le.nx _ _
  | .sub o i e => fun D D' ρ h hw le => by
    simp only [S] at hw ⊢
    exact W_mono mΦ E e _ _ _ _ hw fun v h1 z => W_mono mΦ E o _ _ _ _ z fun x h2 y => W_mono mΦ E i _ _ _ _ y fun u h3 q => setW_mono q fun h4 => le.nx _ _
  | .aug i o e => fun D D' ρ h hw le => by
    simp only [S] at hw ⊢; revert hw; split
    · refine fun hw => W_mono mΦ E e _ _ _ _ hw fun y h1 => ?_
      split <;> first | exact fun z => binW_mono z fun u h2 => le.nx _ _ | exact id
    · exact id
  | .augS o i p e => fun D D' ρ h hw le => by
    simp only [S] at hw ⊢
    refine W_mono mΦ E o _ _ _ _ hw fun x h1 z => W_mono mΦ E i _ _ _ _ z fun y h2 u => ixW_mono u fun v h3 q => W_mono mΦ E e _ _ _ _ q fun u h4 => ?_
    split <;> first | exact fun r => binW_mono r fun z h5 t => setW_mono t fun h6 => le.nx _ _ | exact id
  | .ife c a b => fun D D' ρ h hw le => by
    simp only [S] at hw ⊢
    refine T_mono mΦ E c _ _ _ _ hw fun t h1 => ?_
    cases t
    · exact fun u => Ss_mono E b _ _ _ _ u le
    · exact fun u => Ss_mono E a _ _ _ _ u le
  | .fr tg it b => fun D D' ρ h hw le => by
    simp only [S] at hw ⊢
    exact Wi_mono mΦ E it _ _ _ _ hw fun items g h1 => forW_mono (Ss_mono E b) le _ _ _
  | .wh c b => fun D D' ρ h hw le => by
    simp only [S] at hw ⊢
    obtain ⟨n, q⟩ := hw
    exact ⟨n, whileW_mono (T_mono mΦ E c) (Ss_mono E b) le _ _ _ q⟩
  | .ret e => fun D D' ρ h hw le => by simp only [S] at hw ⊢; exact W_mono mΦ E e _ _ _ _ hw fun d h1 ⟨h2, a, b⟩ => ⟨h2, a, le.rt _ _ b⟩
  | .retN => fun D D' ρ h hw le => by simp only [S] at hw ⊢; obtain ⟨h2, a, b⟩ := hw; exact ⟨h2, a, le.rt _ _ b⟩
  | .ex e => fun D D' ρ h hw le => by simp only [S] at hw ⊢; exact W_mono mΦ E e _ _ _ _ hw fun d h1 => le.nx _ _
  | .brk => fun D D' ρ h hw le => by simp only [S] at hw ⊢; exact le.bk _ _ hw
  | .cnt => fun D D' ρ h hw le => by simp only [S] at hw ⊢; exact le.ct _ _ hw
  | .pass => fun D D' ρ h hw le => by simp only [S] at hw ⊢; exact le.nx _ _ hw
  | .fzv i => fun D D' ρ h hw le => by
    simp only [S] at hw ⊢; revert hw; (repeat' split) <;> first | exact le.nx _ _ | exact id
theorem Ss_mono (E : EK) : ∀ s : ISs, MonS (Ss P Φ E s)
  | .nil => fun D D' ρ h hw le => by simp only [Ss] at hw ⊢; exact le.nx _ _ hw
  | .cons s ss => fun D D' ρ h hw le => by
    simp only [Ss] at hw ⊢
    exact S_mono E s _ _ _ _ hw ⟨fun ρ h q => Ss_mono E ss _ _ _ _ q le, le.rt, le.bk, le.ct⟩
end
end
theorem fnW_mono (P : Prog) : ∀ k, MonΦ (fnW P k)
  | 0 => fun _ _ _ _ _ _ q _ => q
  | k + 1 => fun f ds h E Q Q' q le => by
    simp only [fnW] at q ⊢
    revert q; split
    · exact fun q => ⟨q.1, Ss_mono (fnW_mono P k) E _ _ _ _ _ q.2 ⟨fun _ _ ⟨h1, a, b⟩ => ⟨h1, a, le _ _ b⟩, le, fun _ _ z => z, fun _ _ z => z⟩⟩
    · exact id
end G

end

section
set_option Elab.async false
set_option linter.all false
set_option maxRecDepth 100000
set_option maxHeartbeats 4000000
/-! G4: the operations on trees are the machine's. -/
namespace G
open PySem PySem.Spec PyProof.Rows L2
section
variable {K : PySem.W.Frag} {H : Hp}

/-! ### data -/
mutual
theorem Rp.dp : ∀ (d : D) (v : V) (p : PyData), Rp K H d v → d.py = some p → Dp K H v p
  | .non, v, p, r, e => by
    cases r.non_inv; simp [D.py] at e; subst e; exact .non
  | .bl b, v, p, r, e => by
    cases r.bl_inv; simp [D.py] at e; subst e; exact .bl b
  | .int i, v, p, r, e => by
    cases r.int_inv; simp [D.py] at e; subst e; exact .int i
  | .str x, v, p, r, e => by
    cases r.str_inv; simp [D.py] at e; subst e; exact .str x
  | .tup ds, v, p, r, e => by
    obtain ⟨a, vs, rfl, h, q⟩ := r.tup_inv
    simp only [D.py, Option.map_eq_some_iff] at e
    obtain ⟨ps, e, rfl⟩ := e
    exact .tup (sq h) (RpAll.dp ds vs ps q e)
  | .lst ds, v, p, r, e => by
    obtain ⟨a, vs, rfl, h, q⟩ := r.lst_inv
    simp only [D.py, Option.map_eq_some_iff] at e
    obtain ⟨ps, e, rfl⟩ := e
    exact .lst (.inl h) (RpAll.dp ds vs ps q e)
  | .ref _, _, _, _, e => by simp [D.py] at e
  | .ty _, _, _, _, e => by simp [D.py] at e
  | .dK _, _, _, _, e => by simp [D.py] at e
  | .dT _, _, _, _, e => by simp [D.py] at e
  | .obj _ _, _, _, _, e => by simp [D.py] at e
theorem RpAll.dp : ∀ (ds : List D) (vs : List V) (ps : List PyData), RpAll K H ds vs → D.pyAll ds = some ps → DpAll K H vs ps
  | [], vs, ps, r, e => by
    cases r; simp [D.pyAll] at e; subst e; exact .nil
  | d :: ds, vs, ps, r, e => by
    cases r with
    | cons a b =>
      simp only [D.pyAll] at e
      split at e
      · rename_i p ps' e1 e2
        cases e
        exact .cons (Rp.dp d _ p a e1) (RpAll.dp ds _ ps' b e2)
      · cases e
end
/-- what a thing is seen as -/
def RpV (K : PySem.W.Frag) (H : Hp) (d : D) (v : V) : Prop := Rp K H d v ∨ ∃ a u, v = .ref a ∧ H a = some u ∧ Mut (some u) ∧ RpC K H d u
theorem RpV.of {h : AH} {d : D} {v : V} (r : Rp K H d v) (rh : RelH K h H) : RpV K H (vw h d) v := by
  cases d with
  | ref a =>
    cases r.ref_inv
    have e0 : vw h (.ref a) = (h a).getD (.ref a) := rfl
    rw [e0]
    cases q : h a with
    | none => exact .inl (.ref a)
    | some d =>
      obtain ⟨u, e, m, c⟩ := rh a d q
      exact .inr ⟨a, u, rfl, e, m, c⟩
  | _ => exact .inl r
theorem RpV.lst {ds : List D} {v : V} (r : RpV K H (.lst ds) v) : ∃ a vs, v = .ref a ∧ Rd H a (.lst vs) ∧ RpAll K H ds vs := by
  rcases r with r | ⟨a, u, rfl, e, m, c⟩
  · exact r.lst_inv
  · cases c with
    | lst q => exact ⟨_, _, rfl, .inl e, q⟩
theorem RpV.tup {ds : List D} {v : V} (r : RpV K H (.tup ds) v) : ∃ a vs, v = .ref a ∧ H a = some (.tup vs) ∧ RpAll K H ds vs := by
  rcases r with r | ⟨a, u, rfl, e, m, c⟩
  · exact r.tup_inv
  · cases c
theorem RpV.int {i : Int} {v : V} (r : RpV K H (.int i) v) : v = .int i := by
  rcases r with r | ⟨a, u, rfl, e, m, c⟩
  · exact r.int_inv
  · cases c
theorem RpV.bl {i : Bool} {v : V} (r : RpV K H (.bl i) v) : v = .bl i := by
  rcases r with r | ⟨a, u, rfl, e, m, c⟩
  · exact r.bl_inv
  · cases c
theorem RpV.non {v : V} (r : RpV K H .non v) : v = .non := by
  rcases r with r | ⟨a, u, rfl, e, m, c⟩
  · exact r.non_inv
  · cases c
theorem RpV.str {x : Str} {v : V} (r : RpV K H (.str x) v) : v = .str x := by
  rcases r with r | ⟨a, u, rfl, e, m, c⟩
  · exact r.str_inv
  · cases c
theorem RpV.dp {d : D} {v : V} {p : PyData} (r : RpV K H d v) (e : d.py = some p) : Dp K H v p := by
  rcases r with r | ⟨a, u, rfl, e', m, c⟩
  · exact r.dp _ _ _ e
  · cases c with
    | lst q =>
      simp only [D.py, Option.map_eq_some_iff] at e
      obtain ⟨ps, e, rfl⟩ := e
      exact .lst (.inl (.inl e')) (q.dp _ _ _ e)
    | dK _ _ => simp [D.py] at e
    | dT _ _ => simp [D.py] at e
    | obj _ _ => simp [D.py] at e
end

section
variable {X : Cx}
theorem OpR.imp {f : Value → Value → Sem Value} {r r' : R2} (h : OpR X f r) (i : ∀ x y H Q, r' x y H Q → r x y H Q) : OpR X f r' := fun pins s σ H x y v u Q I rx ry w => h pins s σ H x y v u Q I rx ry (i _ _ _ _ w)
theorem CallR.imp {f : Value} {r r' : List V → Hp → VK → Prop} (h : CallR X f r) (i : ∀ xs H Q, r' xs H Q → r xs H Q) : CallR X f r' := fun pins s σ H xs us Q I rx w => h pins s σ H xs us Q I rx (i _ _ _ w)
theorem EP.fz {pins : List (Addr × Obj)} {σ : L2.St} {Q : VK} {u : Value} {s' : Shared} (h : EP X pins σ (fzQ Q) u s') : EP X pins σ Q u s' := by
  obtain ⟨v, H', I', r, q⟩ := h
  rcases q with q | ⟨a, o, rfl, e, m, q⟩
  · exact ⟨v, H', I', r, q⟩
  · obtain ⟨od, J⟩ := I'.lock e m
    exact ⟨_, _, J, r, q od⟩
theorem OpR.fz {f : Value → Value → Sem Value} {r : R2} (h : OpR X f r) : OpR X f (fun x y H Q => r x y H (fzQ Q)) := fun pins s σ H x y v u Q I rx ry w =>
  thn (h pins s σ H x y v u _ I rx ry w) fun _ _ q => EP.fz q
theorem CallR.fz {f : Value} {r : List V → Hp → VK → Prop} (h : CallR X f r) : CallR X f (fun xs H Q => r xs H (fzQ Q)) := fun pins s σ H xs us Q I rx w =>
  thn (h pins s σ H xs us _ I rx w) fun _ _ q => EP.fz q
theorem SlR.fz {r : V → Option Int → Option Int → Hp → VK → Prop} (h : SlR X r) : SlR X (fun x lo hi H Q => r x lo hi H (fzQ Q)) := fun pins s σ H x v vl vu lo hi sl Q I rx hs pl pu w => by
  obtain ⟨T, id, a, b, c⟩ := h pins s σ H x v vl vu lo hi sl _ I rx hs pl pu w
  exact ⟨T, id, a, b, thn c fun _ _ q => EP.fz q⟩
theorem SlR.imp {r r' : V → Option Int → Option Int → Hp → VK → Prop} (h : SlR X r) (i : ∀ x lo hi H Q, r' x lo hi H Q → r x lo hi H Q) : SlR X r' := fun pins s σ H x v vl vu lo hi sl Q I rx hs pl pu w => h pins s σ H x v vl vu lo hi sl Q I rx hs pl pu (i _ _ _ _ _ w)
theorem MtR.imp {id : String} {r r' : V → List V → Hp → VK → Prop} (h : MtR X id r) (i : ∀ x xs H Q, r' x xs H Q → r x xs H Q) : MtR X id r' := fun pins s σ H x xs v us Q I rx rs w => h pins s σ H x xs v us Q I rx rs (i _ _ _ _ w)
theorem IxR.imp {r r' : R2} (h : IxR X r) (i : ∀ x y H Q, r' x y H Q → r x y H Q) : IxR X r' := fun value slice pins s σ H x y v u Q I rx ry w => h value slice pins s σ H x y v u Q I rx ry (i _ _ _ _ w)
end

section
variable {K : PySem.W.Frag} {H : Hp} {h : AH} {Q : VK}
/-- a new list: what a rule that lays it asks -/
theorem mkL_ok {fz : Bool} {ds : List D} {vs : List V} {H₀ : Hp} (s : Stab H₀ H) (rh : RelH K h H) (r : RpAll K H ds vs) (w : mkL fz ds h (liftK K H₀ Q)) : vs.length ≤ sizeLine ∧ ∀ p, H p = none → fzQ Q (.ref p) (upd H p (.lst vs)) := by
  cases fz with
  | false =>
    refine ⟨by rw [← r.length]; exact w.1, fun p n => .inl ?_⟩
    have s1 : Stab H (upd H p (.lst vs)) := .new n
    exact w.2 p (rh.no n) _ _ (s.trans s1) (.ref p) (rh.put s1 trivial (.lst (r)))
  | true =>
    refine ⟨by rw [← r.length]; exact w.1, fun p n => .inr ⟨p, .lst vs, rfl, upd_same, trivial, fun od => ?_⟩⟩
    obtain ⟨a, b, c⟩ := freezeNew (K := K) rh n (u := .lst vs) (d := .lst ds) trivial (.lst r) od
    exact w.2 _ _ (s.trans a) b c
/-- a new tuple -/
theorem tup_ok {ds : List D} {vs : List V} {H₀ : Hp} (s : Stab H₀ H) (rh : RelH K h H) (r : RpAll K H ds vs) (w : liftK K H₀ Q (.tup ds) h) : ∀ p, H p = none → Q (.ref p) (upd H p (.tup vs)) := fun p n => by
  have s1 : Stab H (upd H p (.tup vs)) := .new n
  exact w _ _ (s.trans s1) (.tup upd_same (r.mono s1)) (rh.keep s1 (rh.no n))
theorem at_rp {ds : List D} {vs : List V} (r : RpAll K H ds vs) {k : Int} {d : D} (e : atI ds k = some d) : ∃ v, atI vs k = some v ∧ Rp K H d v := by
  unfold atI at e ⊢
  rw [← r.length]
  cases q : ixN ds.length k with
  | none => rw [q] at e; cases e
  | some j =>
    rw [q] at e
    exact r.get e
theorem cut_rp {ds : List D} {vs : List V} (r : RpAll K H ds vs) (lo hi : Option Int) : RpAll K H (cutD ds lo hi) (cutV vs lo hi) := by
  unfold cutD cutV
  rw [← r.length]
  exact (r.drop _).take _
end

/-! ### operators -/
section
variable {X : Cx}
def opB : BOp → Operator
  | .add => .Add | .sub => .Sub | .mul => .Mult | .fdiv => .FloorDiv | .mod => .Mod | .pow => .Pow | .shl => .LShift | .shr => .RShift | .band => .BitAnd | .bor => .BitOr | .bxor => .BitXor
/-- an operation of trees, as one of the layer's values -/
def r2 (X : Cx) (f : D → D → AH → DK → Prop) : R2 := fun x y H Q => ∃ dx dy h H₀, Stab H₀ H ∧ Rp X.K H dx x ∧ Rp X.K H dy y ∧ RelH X.K h H ∧ f dx dy h (liftK X.K H₀ Q)
theorem r2_int {C : Int → Int → Prop} {g : Int → Int → Int} {f : Value → Value → Sem Value} (ho : OpR X f (rI C fun i j => .int (g i j))) {F : D → D → AH → DK → Prop}
    (e : ∀ dx dy h Q, F dx dy h Q → ∃ i j, dx = .int i ∧ dy = .int j ∧ C i j ∧ Q (.int (g i j)) h) : OpR X f (r2 X F) := OpR.imp ho fun x y H Q ⟨dx, dy, h, H₀, s, rx, ry, rh, w⟩ => by
  obtain ⟨i, j, rfl, rfl, c, q⟩ := e _ _ _ _ w
  cases rx.int_inv; cases ry.int_inv
  exact ⟨i, j, rfl, rfl, c, q _ _ s (.int _) rh⟩
theorem bin_ok (o : BOp) : OpR X (binaryOp (opB o)) (r2 X (binW o)) := by
  cases o with
  | add =>
    intro pins s σ H x y v u Q I rx ry ⟨dx, dy, h, H₀, st, qx, qy, rh, w⟩
    unfold binW at w
    split at w
    · cases qx.int_inv; cases qy.int_inv
      exact op_add pins s σ H _ _ v u Q I rx ry ⟨_, _, rfl, rfl, w _ _ st (.int _) rh⟩
    all_goals first | (rename_i q; cases q; done) | skip
    · cases qx.str_inv; cases qy.str_inv
      exact op_add_str pins s σ H _ _ v u Q I rx ry ⟨_, _, rfl, rfl, w.1, w.2 _ _ st (.str _) rh⟩
    · obtain ⟨a, vs, rfl, ha, ra⟩ := qx.tup_inv
      obtain ⟨b, us, rfl, hb, rb⟩ := qy.tup_inv
      refine op_catA pins s σ H _ _ v u Q I rx ry ⟨a, b, vs, us, rfl, rfl, sq ha, sq hb, by rw [← ra.length, ← rb.length]; exact w.1, fun e => ?_, fun _ e => ?_, fun _ _ => tup_ok st rh (ra.append rb) w.2⟩
      · subst e
        cases ra
        exact w.2 _ _ st (.tup hb (by simpa using rb)) rh
      · subst e
        cases rb
        exact w.2 _ _ st (.tup ha (by simpa using ra)) rh
    · exact w.elim
  | sub =>
    exact r2_int (C := fun _ _ => True) (OpR.imp op_sub fun _ _ _ _ ⟨i, j, a, b, _, q⟩ => ⟨i, j, a, b, q⟩) fun dx dy h Q w => by
      unfold binW at w; split at w <;> first | (rename_i q; cases q; done) | exact ⟨_, _, rfl, rfl, trivial, w⟩ | exact w.elim
  | mul =>
    exact r2_int op_mulX fun dx dy h Q w => by
      unfold binW at w; split at w <;> first | (rename_i q; cases q; done) | exact ⟨_, _, rfl, rfl, w.1, w.2⟩ | exact w.elim
  | fdiv =>
    exact r2_int op_fdivW fun dx dy h Q w => by
      unfold binW at w; split at w <;> first | (rename_i q; cases q; done) | exact ⟨_, _, rfl, rfl, w.1, w.2⟩ | exact w.elim
  | mod =>
    exact r2_int op_mod fun dx dy h Q w => by
      unfold binW at w; split at w <;> first | (rename_i q; cases q; done) | exact ⟨_, _, rfl, rfl, w.1, w.2⟩ | exact w.elim
  | pow =>
    exact r2_int op_pow fun dx dy h Q w => by
      unfold binW at w; split at w <;> first | (rename_i q; cases q; done) | exact ⟨_, _, rfl, rfl, w.1, w.2⟩ | exact w.elim
  | shl =>
    exact r2_int op_shl fun dx dy h Q w => by
      unfold binW at w; split at w <;> first | (rename_i q; cases q; done) | exact ⟨_, _, rfl, rfl, w.1, w.2⟩ | exact w.elim
  | shr =>
    exact r2_int op_shr fun dx dy h Q w => by
      unfold binW at w; split at w <;> first | (rename_i q; cases q; done) | exact ⟨_, _, rfl, rfl, w.1, w.2⟩ | exact w.elim
  | band =>
    exact r2_int (C := fun _ _ => True) (OpR.imp op_and fun _ _ _ _ ⟨i, j, a, b, _, q⟩ => ⟨i, j, a, b, q⟩) fun dx dy h Q w => by
      unfold binW at w; split at w <;> first | (rename_i q; cases q; done) | exact ⟨_, _, rfl, rfl, trivial, w⟩ | exact w.elim
  | bor =>
    exact r2_int (C := fun _ _ => True) (OpR.imp op_or fun _ _ _ _ ⟨i, j, a, b, _, q⟩ => ⟨i, j, a, b, q⟩) fun dx dy h Q w => by
      unfold binW at w; split at w <;> first | (rename_i q; cases q; done) | exact ⟨_, _, rfl, rfl, trivial, w⟩ | exact w.elim
  | bxor =>
    exact r2_int (C := fun _ _ => True) (OpR.imp op_xor fun _ _ _ _ ⟨i, j, a, b, _, q⟩ => ⟨i, j, a, b, q⟩) fun dx dy h Q w => by
      unfold binW at w; split at w <;> first | (rename_i q; cases q; done) | exact ⟨_, _, rfl, rfl, trivial, w⟩ | exact w.elim
end
end G

end

section
set_option Elab.async false
set_option linter.all false
set_option maxRecDepth 100000
set_option maxHeartbeats 4000000
/-! G5: comparisons, built-in calls, methods. -/
namespace G
open PySem PySem.Spec PyProof.Rows L2
section
variable {X : Cx}
def opC : Cop → CmpOp
  | .eq => .Eq | .ne => .NotEq | .lt => .Lt | .le => .LtE | .gt => .Gt | .ge => .GtE | .is => .Is | .nis => .IsNot | .isin => .In | .nin => .NotIn
def rC (X : Cx) (o : Cop) : R2 := fun x y H Q => ∃ dx dy t, RpV X.K H dx x ∧ RpV X.K H dy y ∧ cmpD o dx dy = some t ∧ Q (.bl t) H
theorem eqD_some {x y : D} {t : Bool} (e : eqD x y = some t) : ∃ p q, x.py = some p ∧ y.py = some q ∧ SeqAt.shaped p = true ∧ SeqAt.shaped q = true ∧ t = PyData.eqv p q := by
  unfold eqD at e
  split at e
  · rename_i p q e1 e2
    split at e
    · rename_i c
      cases e
      exact ⟨p, q, e1, e2, c.1, c.2, rfl⟩
    · cases e
  · cases e
theorem inD_some {x y : D} {t : Bool} (e : inD x y = some t) : ∃ p qs, x.py = some p ∧ SeqAt.shaped p = true ∧ t = (qs.any fun z => PyData.eqv z p) ∧ PyData.canLayAll0 qs = true ∧ (y.py = some (.tuple qs) ∨ y.py = some (.list qs)) := by
  unfold inD at e
  split at e
  · rename_i p q e1 e2
    split at e
    · rename_i c
      cases e
      refine ⟨p, q, e1, c.1, rfl, ?_, .inl e2⟩
      simpa [PyData.canLay0] using SeqAt.canLay_of_shaped c.2
    · cases e
  · rename_i p q e1 e2
    split at e
    · rename_i c
      cases e
      refine ⟨p, q, e1, c.1, rfl, ?_, .inr e2⟩
      simpa [PyData.canLay0] using SeqAt.canLay_of_shaped c.2
    · cases e
  · cases e
theorem RpV.notNon {K : PySem.W.Frag} {H : Hp} {d : D} {v : V} (r : RpV K H d v) (n : d ≠ .non) : v ≠ .non := by
  rintro rfl
  rcases r with r | ⟨a, u, e, _⟩
  · cases r with
    | non => exact n rfl
  · cases e
theorem isD_some {x y : D} {t : Bool} (e : isD x y = some t) : (y = .non ∧ (t = true ↔ x = .non)) ∨ ∃ b c, x = .bl b ∧ y = .bl c ∧ t = decide (b = c) := by
  unfold isD at e
  split at e
  · split at e
    · cases e; exact .inl ⟨rfl, by simp⟩
    · rename_i n
      cases e
      exact .inl ⟨rfl, by simp; exact n⟩
  · split at e
    · cases e; exact .inr ⟨_, _, rfl, rfl, rfl⟩
    · cases e
  · cases e
theorem cmp_ok {k : Nat} (hr : Room k X.A) (o : Cop) : OpR X (compareOp (opC o)) (rC X o) := by
  have hu := hr.units
  have hu0 := hr.units0
  have hu5 : X.A.units + 65 < cLine := by have := hr.un; omega
  intro pins s σ H x y v u Q I rx ry ⟨dx, dy, t, qx, qy, e, w⟩
  cases o with
  | eq =>
    obtain ⟨p, q, e1, e2, s1, s2, rfl⟩ := eqD_some (show eqD dx dy = some t from e)
    exact op_eqD hu pins s σ H x y v u Q I rx ry ⟨p, q, qx.dp e1, qy.dp e2, s1, s2, w⟩
  | ne =>
    obtain ⟨t', e', rfl⟩ := Option.map_eq_some_iff.mp (show (eqD dx dy).map (!·) = some t from e)
    obtain ⟨p, q, e1, e2, s1, s2, rfl⟩ := eqD_some e'
    exact op_neD hu pins s σ H x y v u Q I rx ry ⟨p, q, qx.dp e1, qy.dp e2, s1, s2, w⟩
  | lt =>
    simp only [cmpD] at e
    split at e
    · cases e
      cases qx.int; cases qy.int
      exact op_lt pins s σ H _ _ v u Q I rx ry ⟨_, _, rfl, rfl, w⟩
    · simp only [lexLtD] at e
      split at e
      · rename_i ns ms e1 e2
        cases of_intsOf e1; cases of_intsOf e2
        cases e
        obtain ⟨a, vs, rfl, ha, ra⟩ := qx.tup
        obtain ⟨b, us, rfl, hb, rb⟩ := qy.tup
        cases ra.ints; cases rb.ints
        exact op_ltT hu0 pins s σ H _ _ v u Q I rx ry ⟨a, b, ns, ms, rfl, rfl, sq ha, sq hb, w⟩
      · cases e
    · cases e
  | le =>
    simp only [cmpD] at e
    split at e
    · cases e
      cases qx.int; cases qy.int
      exact op_le pins s σ H _ _ v u Q I rx ry ⟨_, _, rfl, rfl, w⟩
    · cases e
  | gt =>
    simp only [cmpD] at e
    split at e
    · cases e
      cases qx.int; cases qy.int
      exact op_gt pins s σ H _ _ v u Q I rx ry ⟨_, _, rfl, rfl, w⟩
    · cases e
  | ge =>
    simp only [cmpD] at e
    split at e
    · cases e
      cases qx.int; cases qy.int
      exact op_ge pins s σ H _ _ v u Q I rx ry ⟨_, _, rfl, rfl, w⟩
    · cases e
  | is =>
    rcases isD_some (show isD dx dy = some t from e) with ⟨rfl, h⟩ | ⟨b, c, rfl, rfl, rfl⟩
    · cases qy.non
      refine op_isN pins s σ H x _ v u Q I rx ry ⟨rfl, ?_⟩
      by_cases hx : dx = .non
      · subst hx
        cases qx.non
        rw [h.mpr rfl] at w
        exact w
      · have := qx.notNon hx
        rw [decide_eq_false this]
        have ht : t = false := by cases t <;> simp_all
        rw [ht] at w
        exact w
    · cases qx.bl; cases qy.bl
      exact op_isBl pins s σ H _ _ v u Q I rx ry ⟨b, c, rfl, rfl, w⟩
  | nis =>
    obtain ⟨t', e', rfl⟩ := Option.map_eq_some_iff.mp (show (isD dx dy).map (!·) = some t from e)
    rcases isD_some e' with ⟨rfl, h⟩ | ⟨b, c, rfl, rfl, rfl⟩
    · cases qy.non
      refine op_notN pins s σ H x _ v u Q I rx ry ⟨rfl, ?_⟩
      by_cases hx : dx = .non
      · subst hx
        cases qx.non
        rw [h.mpr rfl] at w
        exact w
      · have := qx.notNon hx
        rw [decide_eq_false this]
        have ht : t' = false := by cases t' <;> simp_all
        rw [ht] at w
        exact w
    · cases qx.bl; cases qy.bl
      exact op_notBl pins s σ H _ _ v u Q I rx ry ⟨b, c, rfl, rfl, w⟩
  | isin =>
    obtain ⟨p, qs, e1, s1, rfl, cl, e2⟩ := inD_some (show inD dx dy = some t from e)
    obtain ⟨as, r1⟩ := Dp.reads I p x v (qx.dp e1) rx
    rcases e2 with e2 | e2
    · obtain ⟨bs, r2⟩ := Dp.reads I _ y u (qy.dp e2) ry
      exact SeqAt.in_tuple_reads r2 r1 cl (SeqAt.canLay_of_shaped s1) (room_in_shaped s1 hu5) ⟨.bl _, H, I, rfl, w⟩
    · obtain ⟨bs, r2⟩ := Dp.reads I _ y u (qy.dp e2) ry
      exact SeqAt.in_list_reads r2 r1 cl (SeqAt.canLay_of_shaped s1) (room_in_shaped s1 hu5) ⟨.bl _, H, I, rfl, w⟩
  | nin =>
    obtain ⟨t', e', rfl⟩ := Option.map_eq_some_iff.mp (show (inD dx dy).map (!·) = some t from e)
    obtain ⟨p, qs, e1, s1, rfl, cl, e2⟩ := inD_some e'
    obtain ⟨as, r1⟩ := Dp.reads I p x v (qx.dp e1) rx
    rcases e2 with e2 | e2
    · obtain ⟨bs, r2⟩ := Dp.reads I _ y u (qy.dp e2) ry
      exact SeqAt.notIn_tuple_reads r2 r1 cl (SeqAt.canLay_of_shaped s1) (room_in_shaped s1 hu5) ⟨.bl _, H, I, rfl, w⟩
    · obtain ⟨bs, r2⟩ := Dp.reads I _ y u (qy.dp e2) ry
      exact SeqAt.notIn_list_reads r2 r1 cl (SeqAt.canLay_of_shaped s1) (room_in_shaped s1 hu5) ⟨.bl _, H, I, rfl, w⟩

/-! ### lists -/
theorem rdL {pins : List (Addr × Obj)} {σ : L2.St} {H : Hp} {s : Shared} {a : Addr} {xs : List V} (I : Inv X pins σ H s) (h : Rd H a (.lst xs)) : xs.length ≤ sizeLine ∧ ∃ (its : List Value) (n : Nat), Vals xs its ∧ s.heap.get? a = some { cls := .type "list", data := .seq its.toArray n } := h.ok I.hok
/-- xs + ys, read or written -/
theorem op_catR : OpR X (binaryOp .Add) (fun x y H Q => ∃ l b xs zs, x = .ref l ∧ y = .ref b ∧ Rd H l (.lst xs) ∧ Rd H b (.lst zs) ∧ xs.length + zs.length ≤ sizeLine ∧ ∀ p, H p = none → Q (.ref p) (upd H p (.lst (xs ++ zs)))) := by
  intro pins s σ H x y v u Q I rx ry h
  obtain ⟨l, b, xs, zs, rfl, rfl, hH, hB, hz, q⟩ := h
  cases rx
  cases ry
  obtain ⟨z, its, n, r, e⟩ := rdL I hH
  obtain ⟨z2, its2, n2, r2, e2⟩ := rdL I hB
  have hl := r.length
  have hl2 := r2.length
  refine PySem.P.add_list e e2 ?_ (by rw [List.size_toArray, List.size_toArray]; omega)
  have ea : its.toArray ++ its2.toArray = (its ++ its2).toArray := by simp
  rw [ea]
  exact ⟨.ref _, _, I.lnew (t' := s.toks) (r.append r2) (by rw [List.length_append]; omega), rfl, q _ I.fresh⟩
theorem op_repR : OpR X (binaryOp .Mult) (fun x y H Q => ∃ l k xs, x = .ref l ∧ y = .int k ∧ Rd H l (.lst xs) ∧ -(2 ^ 63) ≤ k ∧ k < 2 ^ 63 ∧ xs.length * k.toNat ≤ sizeLine ∧ ∀ p, H p = none → Q (.ref p) (upd H p (.lst (List.replicate k.toNat xs).flatten))) := by
  intro pins s σ H x y v u Q I rx ry h
  obtain ⟨l, k, xs, rfl, rfl, hH, h1, h2, hz, q⟩ := h
  cases rx
  obtain ⟨t, rfl⟩ := ry
  obtain ⟨z, its, n, r, e⟩ := rdL I hH
  have hl := r.length
  have hlen : its.toArray.size * k.toNat ≤ sizeLine := by rw [List.size_toArray, ← hl]; exact hz
  have hcap : ¬ its.toArray.size * k.toNat > (2 ^ 63 - 1) / 8 := by
    have : (sizeLine : Nat) ≤ (2 ^ 63 - 1) / 8 := by decide
    omega
  have hfit : ¬ (!Builtin.List.listFitsIndex k) = true := by
    rw [fitsIndex_both h1 h2]
    exact Bool.false_ne_true
  have hlong : ¬ Builtin.List.listTooLong (its.toArray.size * k.toNat) = true := by
    rw [notLongL hlen]
    exact Bool.false_ne_true
  have hnew : List.foldl (fun x1 x2 => x1 ++ x2) #[] (List.replicate (if its.toArray.isEmpty = true then 0 else k.toNat) its.toArray) = (List.replicate k.toNat its).flatten.toArray := by
    have f0 : ∀ m : Nat, List.foldl (fun x1 x2 => x1 ++ x2) #[] (List.replicate m its.toArray) = (List.replicate m its).flatten.toArray := fun m => by
      have := foldl_rep its m []
      rw [List.nil_append] at this
      exact this
    rw [f0]
    cases its with
    | nil => simp
    | cons a r' => rw [if_neg (by simp)]
  refine wpAny_binaryOp_repeat_ref (T := "list") (U := "int") (by decide) ⟨_, e, rfl⟩ (fun s' => typeIs_int s' k t) noFill_list_mul PySem.F.fills_int_mul PySem.F.slot_int_rmul repeat_list PySem.F.slot_int_index.lookup
    (call_meets PySem.F.slot_int_rmul (typeIs_int s k t) PySem.F.entry_int_rmul (PySem.F.args_int_rmul_2 _ _) (int___rmul___int_list k t l its.toArray n)
      ⟨e, rfl, ⟨_, e, rfl⟩, call_meets PySem.F.slot_list_mul ⟨_, e, rfl⟩ PySem.F.entry_list_mul (PySem.F.args_list_mul_2 _ _) (AutoListH.list___mul___list_int_3 l its.toArray n k t hfit hcap hlong) ⟨e, ?_⟩⟩)
  rw [hnew]
  exact ⟨.ref _, _, I.lnew (t' := s.toks) (r.rep k.toNat) (by rw [PyProof.Rows.lm_len_rep_flat, Nat.mul_comm]; exact hz), rfl, q _ I.fresh⟩
theorem cat_ok (fz : Bool) : OpR X (binaryOp .Add) (r2 X (catW fz)) := by
  refine OpR.imp (OpR.fz op_catR) fun x y H Q ⟨dx, dy, h, H₀, s, qx, qy, rh, w⟩ => ?_
  unfold catW at w
  split at w
  · rename_i as bs e1 e2
    have vx := RpV.of qx rh
    have vy := RpV.of qy rh
    rw [e1] at vx
    rw [e2] at vy
    obtain ⟨a, vs, rfl, ha, ra⟩ := vx.lst
    obtain ⟨b, us, rfl, hb, rb⟩ := vy.lst
    have := mkL_ok s rh (ra.append rb) w
    exact ⟨a, b, vs, us, rfl, rfl, ha, hb, by rw [← List.length_append]; exact this.1, this.2⟩
  · exact w.elim
theorem len_rep {α : Type} (k : Nat) (xs : List α) : (List.replicate k xs).flatten.length = xs.length * k := by
  induction k with
  | zero => simp
  | succ k ih => rw [List.replicate_succ, List.flatten_cons, List.length_append, ih, Nat.mul_succ, Nat.add_comm]
theorem rep_ok (fz : Bool) : OpR X (binaryOp .Mult) (r2 X (repW fz)) := by
  refine OpR.imp (OpR.fz op_repR) fun x y H Q ⟨dx, dy, h, H₀, s, qx, qy, rh, w⟩ => ?_
  unfold repW at w
  split at w
  · rename_i as k e1
    have vx := RpV.of qx rh
    rw [e1] at vx
    cases qy.int_inv
    obtain ⟨a, vs, rfl, ha, ra⟩ := vx.lst
    have := mkL_ok s rh (ra.rep k.toNat) w.2.2
    refine ⟨a, k, vs, rfl, rfl, ha, w.1, w.2.1, ?_, this.2⟩
    rw [← len_rep]
    exact this.1
  · exact w.elim
end
end G

end

section
set_option Elab.async false
set_option linter.all false
set_option maxRecDepth 100000
set_option maxHeartbeats 8000000
/-! G5b: dicts of tuple keys, as trees. -/
namespace G
open PySem PySem.Spec PyProof.Rows L2
section
variable {K : PySem.W.Frag} {H : Hp}
theorem key_rp {d : D} {v : V} {k : Key} (r : Rp K H d v) (e : keyOf d = some k) : v = kV k := by
  cases d <;> simp only [keyOf] at e <;> cases e
  · exact r.int_inv
  · exact r.str_inv
theorem keys_rp : ∀ {ds : List D} {vs : List V} {ks : List Key}, RpAll K H ds vs → keysOf ds = some ks → vs = ks.map kV
  | [], _, ks, r, e => by cases r; simp only [keysOf] at e; cases e; rfl
  | d :: ds, _, ks, .cons r rs, e => by
    simp only [keysOf] at e
    split at e
    · rename_i k ks' e1 e2
      cases e
      rw [key_rp r e1, keys_rp rs e2]; rfl
    · cases e
theorem rp_keys : ∀ ks : List Key, RpAll K H (ks.map kD) (ks.map kV)
  | [] => .nil
  | .inl i :: ks => .cons (.int i) (rp_keys ks)
  | .inr x :: ks => .cons (.str x) (rp_keys ks)
/-- the pairs -/
def DP (K : PySem.W.Frag) (H : Hp) (kvs : List (List Key × D)) (kws : List (List Key × V)) : Prop := kvs.map (·.1) = kws.map (·.1) ∧ RpAll K H (kvs.map (·.2)) (kws.map (·.2))
theorem DP.nil : DP K H [] [] := ⟨rfl, .nil⟩
theorem DP.cases {p : List Key × D} {kvs : List (List Key × D)} {kws : List (List Key × V)} (r : DP K H (p :: kvs) kws) : ∃ v kws', kws = (p.1, v) :: kws' ∧ Rp K H p.2 v ∧ DP K H kvs kws' := by
  obtain ⟨r1, r2⟩ := r
  cases kws with
  | nil => cases r1
  | cons q kws =>
    obtain ⟨q1, q2⟩ := q
    rw [List.map_cons, List.map_cons] at r1 r2
    cases r2 with
    | cons a b =>
      have e1 : p.1 = q1 := (List.cons.inj r1).1
      have e2 := (List.cons.inj r1).2
      exact ⟨q2, kws, by rw [e1], a, e2, b⟩
theorem DP.cons {k : List Key} {d : D} {v : V} {kvs : List (List Key × D)} {kws : List (List Key × V)} (a : Rp K H d v) (r : DP K H kvs kws) : DP K H ((k, d) :: kvs) ((k, v) :: kws) := ⟨by rw [List.map_cons, List.map_cons, r.1], .cons a r.2⟩
theorem DP.length : ∀ {kvs : List (List Key × D)} {kws : List (List Key × V)}, DP K H kvs kws → kvs.length = kws.length := fun r => by
  have := congrArg List.length r.1
  simpa using this
theorem DP.val : ∀ {kvs : List (List Key × D)} {kws : List (List Key × V)}, DP K H kvs kws → ∀ k, (valD kvs k = none ∧ valV kws k = none) ∨ ∃ d v, valD kvs k = some d ∧ valV kws k = some v ∧ Rp K H d v
  | [], _, r, k => by
    obtain ⟨r1, _⟩ := r
    have : ‹List (List Key × V)› = [] := List.map_eq_nil_iff.mp r1.symm
    subst this
    exact .inl ⟨rfl, rfl⟩
  | p :: kvs, _, r, k => by
    obtain ⟨v, kws', rfl, a, b⟩ := r.cases
    by_cases e : p.1 = k
    · refine .inr ⟨p.2, v, ?_, ?_, a⟩
      · simp [valD, List.find?_cons, e]
      · exact valV_pos e
    · have e1 : valD (p :: kvs) k = valD kvs k := by simp [valD, List.find?_cons, e]
      rw [e1, valV_neg (p := (p.1, v)) e]
      exact b.val k
theorem DP.append : ∀ {kvs : List (List Key × D)} {kws : List (List Key × V)} {kvs2 : List (List Key × D)} {kws2 : List (List Key × V)}, DP K H kvs kws → DP K H kvs2 kws2 → DP K H (kvs ++ kvs2) (kws ++ kws2) := fun a b =>
  ⟨by rw [List.map_append, List.map_append, a.1, b.1], by rw [List.map_append, List.map_append]; exact a.2.append b.2⟩
theorem DP.any {kvs : List (List Key × D)} {kws : List (List Key × V)} (r : DP K H kvs kws) (k : List Key) : (kvs.any fun kv => decide (kv.1 = k)) = kws.any fun kv => decide (kv.1 = k) := by
  have : ∀ {α : Type} (l : List (List Key × α)), (l.any fun kv => decide (kv.1 = k)) = (l.map (·.1)).any fun x => decide (x = k) := fun l => by rw [List.any_map]; rfl
  rw [this, this, r.1]
theorem DP.repl : ∀ {kvs : List (List Key × D)} {kws : List (List Key × V)}, DP K H kvs kws → ∀ (k : List Key) {d : D} {v : V}, Rp K H d v → DP K H (kvs.map fun kv => if kv.1 = k then (kv.1, d) else kv) (kws.map fun kv => if kv.1 = k then (kv.1, v) else kv)
  | [], _, r, k, d, v, a => by
    obtain ⟨r1, _⟩ := r
    have : ‹List (List Key × V)› = [] := List.map_eq_nil_iff.mp r1.symm
    subst this
    exact .nil
  | p :: kvs, _, r, k, d, v, a => by
    obtain ⟨v', kws', rfl, a', b⟩ := r.cases
    rw [List.map_cons, List.map_cons]
    by_cases e : p.1 = k
    · rw [if_pos e, if_pos (show (p.1, v').1 = k from e)]
      exact .cons a (b.repl k a)
    · rw [if_neg e, if_neg (show ¬ (p.1, v').1 = k from e)]
      exact .cons a' (b.repl k a)
theorem DP.put {kvs : List (List Key × D)} {kws : List (List Key × V)} (r : DP K H kvs kws) (k : List Key) {d : D} {v : V} (a : Rp K H d v) : DP K H (putD kvs k d) (putK kws k v) := by
  unfold putD putK
  rw [r.any k]
  split
  · exact r.repl k a
  · exact r.append (.cons a .nil)
theorem RpC.dt {kvs : List (List Key × D)} {u : HO} (c : RpC K H (.dT kvs) u) : ∃ kws, u = .dT kws ∧ DP K H kvs kws := by
  cases c with
  | dT e r => exact ⟨_, rfl, e, r⟩
theorem RpV.dt {kvs : List (List Key × D)} {v : V} (r : RpV K H (.dT kvs) v) : ∃ a kws, v = .ref a ∧ Rd H a (.dT kws) ∧ DP K H kvs kws := by
  rcases r with r | ⟨a, u, rfl, e, m, c⟩
  · cases r with
    | frz h c =>
      obtain ⟨kws, rfl, p⟩ := c.dt
      exact ⟨_, kws, rfl, .inr ⟨_, h⟩, p⟩
  · obtain ⟨kws, rfl, p⟩ := c.dt
    exact ⟨a, kws, rfl, .inl e, p⟩
theorem RelH.dt {h : AH} (r : RelH K h H) {a : Addr} {kvs : List (List Key × D)} (e : h a = some (.dT kvs)) : ∃ kws, H a = some (.dT kws) ∧ DP K H kvs kws := by
  obtain ⟨u, eu, _, c⟩ := r a _ e
  obtain ⟨kws, rfl, p⟩ := c.dt
  exact ⟨kws, eu, p⟩
end
theorem tail_any {pg : Program} {wd : World} {B : Around} {E : Value → Shared → Prop} {z : Shared} {ve se : Expr} {o i : Value} {T id : String} {Q : Value → Shared → Prop} (hT : z.TypeIs o T) (hl : typeLookup (.type T) "__getitem__" = pure (some (.builtin id)))
    (h : wpAny (model pg wd) B (getItem o i) Q E z) (hs : subscripted se false o i = operate [o, i] (getItem o i)) : wpAny (model pg wd) B (subscriptTail ve se o i) Q E z := by
  unfold subscriptTail
  refine wpAny_bind ?_
  rw [getitemInPython_of_ne hT.not_modules]
  refine wpAny_bind (wpAny_specialOf hT hl ?_)
  have last : wpAny (model pg wd) B (subscripted se false o i) (fun r z3 => wpAny (model pg wd) B (letTemporaryGo ve o r >>= fun _ => pure r) Q E z3) E z := by
    rw [hs]
    exact wpAny_operating (wpAny_mono h (fun r z3 h3 => wpAny_bind (wpAny_letTemporaryGo (wpAny_pure h3))) fun _ _ x => x)
  first
    | exact wpAny_pure (wpAny_bind last)
    | exact wpAny_bind (wpAny_pure (wpAny_bind last))
    | exact wpAny_bind last
section
variable {X : Cx}
theorem ix_dict (hu : X.A.units + 1 < cLine) : IxR X (fun x y H Q => ∃ a v, x = .ref a ∧ DGet H a y (some v) ∧ Q v H) := by
  intro value slice pins s σ H x y v u Q I rx ry ⟨a, z, ex, g, q⟩ hs
  subst ex
  obtain rfl : v = Value.ref a := rx
  exact tail_any (dict_typeIs I g) PySem.F.slot_dict_getitem.lookup (d_getItem hu I g ry fun w' s3 I3 rw' => ⟨z, H, I3, rw', q⟩) hs
end
end G

end

section
set_option Elab.async false
set_option linter.all false
set_option maxRecDepth 100000
set_option maxHeartbeats 4000000
/-! G6: built-in calls, methods, subscripts. -/
namespace G
open PySem PySem.Spec PyProof.Rows L2
section
variable {X : Cx}
/-- a call of trees, as one of the layer's values -/
def rA (X : Cx) (f : List D → AH → DK → Prop) : List V → Hp → VK → Prop := fun xs H Q => ∃ ds h H₀, Stab H₀ H ∧ RpAll X.K H ds xs ∧ RelH X.K h H ∧ f ds h (liftK X.K H₀ Q)
theorem one_of {K : PySem.W.Frag} {H : Hp} {d : D} {vs : List V} (r : RpAll K H [d] vs) : ∃ v, vs = [v] ∧ Rp K H d v := by
  cases r with
  | cons a b => cases b; exact ⟨_, rfl, a⟩
theorem two_of {K : PySem.W.Frag} {H : Hp} {d e : D} {vs : List V} (r : RpAll K H [d, e] vs) : ∃ v u, vs = [v, u] ∧ Rp K H d v ∧ Rp K H e u := by
  cases r with
  | cons a b =>
    obtain ⟨u, rfl, q⟩ := one_of b
    exact ⟨_, u, rfl, a, q⟩
theorem zero_of {K : PySem.W.Frag} {H : Hp} {vs : List V} (r : RpAll K H [] vs) : vs = [] := by cases r; rfl
theorem shp1 {xs : List D} {f : D → Prop} (w : match xs with | [x] => f x | _ => False) : ∃ x, xs = [x] ∧ f x := by
  split at w
  · exact ⟨_, rfl, w⟩
  · exact w.elim
theorem maxI_le : ∀ (m : Int) (ns : List Int), m ≤ maxI m ns ∧ (∀ n ∈ ns, n ≤ maxI m ns) ∧ (maxI m ns = m ∨ maxI m ns ∈ ns)
  | m, [] => ⟨Int.le_refl _, by simp, .inl rfl⟩
  | m, n :: ns => by
    have hz : (if m < n then n else m) = n ∧ m < n ∨ (if m < n then n else m) = m ∧ n ≤ m := by
      by_cases q : m < n
      · exact .inl ⟨if_pos q, q⟩
      · exact .inr ⟨if_neg q, by omega⟩
    obtain ⟨a, b, c⟩ := maxI_le (if m < n then n else m) ns
    simp only [maxI]
    generalize (if m < n then n else m) = z at *
    refine ⟨by omega, fun k hk => ?_, ?_⟩
    · rcases List.mem_cons.mp hk with rfl | hk
      · omega
      · exact b k hk
    · rcases c with c | c
      · rcases hz with hz | hz
        · rw [c, hz.1]; exact .inr List.mem_cons_self
        · rw [c, hz.1]; exact .inl rfl
      · exact .inr (List.mem_cons_of_mem _ c)
theorem minI_le : ∀ (m : Int) (ns : List Int), minI m ns ≤ m ∧ (∀ n ∈ ns, minI m ns ≤ n) ∧ (minI m ns = m ∨ minI m ns ∈ ns)
  | m, [] => ⟨Int.le_refl _, by simp, .inl rfl⟩
  | m, n :: ns => by
    have hz : (if n < m then n else m) = n ∧ n < m ∨ (if n < m then n else m) = m ∧ m ≤ n := by
      by_cases q : n < m
      · exact .inl ⟨if_pos q, q⟩
      · exact .inr ⟨if_neg q, by omega⟩
    obtain ⟨a, b, c⟩ := minI_le (if n < m then n else m) ns
    simp only [minI]
    generalize (if n < m then n else m) = z at *
    refine ⟨by omega, fun k hk => ?_, ?_⟩
    · rcases List.mem_cons.mp hk with rfl | hk
      · omega
      · exact b k hk
    · rcases c with c | c
      · rcases hz with hz | hz
        · rw [c, hz.1]; exact .inr List.mem_cons_self
        · rw [c, hz.1]; exact .inl rfl
      · exact .inr (List.mem_cons_of_mem _ c)
theorem maxI_eq {n m : Int} {ns : List Int} (h1 : m ∈ n :: ns) (h2 : ∀ y, y ∈ n :: ns → y ≤ m) : maxI n ns = m := by
  obtain ⟨a, b, c⟩ := maxI_le n ns
  have h3 : maxI n ns ∈ n :: ns := by rcases c with c | c <;> simp [c]
  have h4 := h2 _ h3
  rcases List.mem_cons.mp h1 with rfl | h1
  · omega
  · have := b m h1; omega
theorem minI_eq {n m : Int} {ns : List Int} (h1 : m ∈ n :: ns) (h2 : ∀ y, y ∈ n :: ns → m ≤ y) : minI n ns = m := by
  obtain ⟨a, b, c⟩ := minI_le n ns
  have h3 : minI n ns ∈ n :: ns := by rcases c with c | c <;> simp [c]
  have h4 := h2 _ h3
  rcases List.mem_cons.mp h1 with rfl | h1
  · omega
  · have := b m h1; omega

theorem shpL {h : AH} {x : D} {f : List D → Prop} (w : match vw h x with | .lst ds => f ds | _ => False) : ∃ ds, vw h x = .lst ds ∧ f ds := by
  split at w
  · rename_i e; exact ⟨_, e, w⟩
  · exact w.elim
theorem len_ok : CallR X (.builtin "len") (rA X (biW .len)) := by
  refine CallR.imp call_len fun xs H Q ⟨ds, h, H₀, s, r, rh, w⟩ => ?_
  simp only [biW] at w
  split at w <;> first | exact w.elim | skip
  rename_i x
  obtain ⟨v, rfl, rv⟩ := one_of r
  have vx := RpV.of rv rh
  split at w
  · rename_i e
    rw [e] at vx
    obtain ⟨a, vs, rfl, ha, ra⟩ := vx.tup
    exact ⟨_, _, rfl, .inr ⟨_, sq ha, ra.length⟩, w _ _ s (.int _) rh⟩
  · rename_i e
    rw [e] at vx
    obtain ⟨a, vs, rfl, ha, ra⟩ := vx.lst
    exact ⟨_, _, rfl, .inl ⟨_, .inl ha, ra.length⟩, w _ _ s (.int _) rh⟩
  · rename_i e
    rw [e] at vx
    cases vx.str
    exact ⟨_, _, rfl, ⟨w.1, rfl⟩, w.2 _ _ s (.int _) rh⟩
  · exact w.elim
theorem tuple_ok : CallR X (.type "tuple") (rA X (biW .tuple)) := by
  refine CallR.imp call_tuple_of fun xs H Q ⟨ds, h, H₀, s, r, rh, w⟩ => ?_
  simp only [biW] at w
  split at w <;> first | exact w.elim | skip
  rename_i x
  obtain ⟨v, rfl, rv⟩ := one_of r
  have vx := RpV.of rv rh
  split at w
  · rename_i e
    rw [e] at vx
    obtain ⟨a, vs, rfl, ha, ra⟩ := vx.tup
    exact ⟨a, vs, rfl, .inr ⟨sq ha, w _ _ s (.tup ha ra) rh⟩⟩
  · rename_i e
    rw [e] at vx
    obtain ⟨a, vs, rfl, ha, ra⟩ := vx.lst
    exact ⟨a, vs, rfl, .inl ⟨.inl ha, tup_ok s rh ra w⟩⟩
  · exact w.elim
theorem list_ok (fz : Bool) : CallR X (.type "list") (rA X (biW (.list fz))) := by
  refine CallR.imp (CallR.fz call_list_of) fun xs H Q ⟨ds, h, H₀, s, r, rh, w⟩ => ?_
  simp only [biW] at w
  split at w <;> first | exact w.elim | skip
  rename_i x
  obtain ⟨v, rfl, rv⟩ := one_of r
  have vx := RpV.of rv rh
  split at w
  · rename_i e
    rw [e] at vx
    obtain ⟨a, vs, rfl, ha, ra⟩ := vx.tup
    exact ⟨a, vs, rfl, .inr (sq ha), (mkL_ok s rh ra w).2⟩
  · rename_i e
    rw [e] at vx
    obtain ⟨a, vs, rfl, ha, ra⟩ := vx.lst
    exact ⟨a, vs, rfl, .inl (.inl ha), (mkL_ok s rh ra w).2⟩
  · exact w.elim
theorem sum_ok (hc : X.calm = true) : CallR X (.builtin "sum") (rA X (biW .sum)) := by
  refine CallR.imp (cr_sum hc) fun xs H Q ⟨ds, h, H₀, s, r, rh, w⟩ => ?_
  simp only [biW] at w
  split at w <;> first | exact w.elim | skip
  rename_i x
  obtain ⟨v, rfl, rv⟩ := one_of r
  have vx := RpV.of rv rh
  obtain ⟨ds, e, w⟩ := shpL w
  rw [e] at vx
  obtain ⟨a, vs, rfl, ha, ra⟩ := vx.lst
  split at w
  · rename_i ns e'
    cases of_intsOf e'
    cases ra.ints
    exact ⟨a, ns, rfl, .inl ha, w _ _ s (.int _) rh⟩
  · exact w.elim
theorem all_ok (hc : X.calm = true) : CallR X (.builtin "all") (rA X (biW .all)) := by
  refine CallR.imp (cr_all hc) fun xs H Q ⟨ds, h, H₀, s, r, rh, w⟩ => ?_
  simp only [biW] at w
  split at w <;> first | exact w.elim | skip
  rename_i x
  obtain ⟨v, rfl, rv⟩ := one_of r
  have vx := RpV.of rv rh
  obtain ⟨ds, e, w⟩ := shpL w
  rw [e] at vx
  obtain ⟨a, vs, rfl, ha, ra⟩ := vx.lst
  split at w
  · rename_i ns e'
    cases of_bolsOf e'
    cases ra.bls
    exact ⟨a, ns, rfl, .inl ha, w _ _ s (.bl _) rh⟩
  · exact w.elim
theorem any_ok (hc : X.calm = true) : CallR X (.builtin "any") (rA X (biW .any)) := by
  refine CallR.imp (cr_any hc) fun xs H Q ⟨ds, h, H₀, s, r, rh, w⟩ => ?_
  simp only [biW] at w
  split at w <;> first | exact w.elim | skip
  rename_i x
  obtain ⟨v, rfl, rv⟩ := one_of r
  have vx := RpV.of rv rh
  obtain ⟨ds, e, w⟩ := shpL w
  rw [e] at vx
  obtain ⟨a, vs, rfl, ha, ra⟩ := vx.lst
  split at w
  · rename_i ns e'
    cases of_bolsOf e'
    cases ra.bls
    exact ⟨a, ns, rfl, .inl ha, w _ _ s (.bl _) rh⟩
  · exact w.elim
theorem max1_ok (hc : X.calm = true) : CallR X (.builtin "max") (rA X (biW .max1)) := by
  refine CallR.imp (cr_max hc) fun xs H Q ⟨ds, h, H₀, s, r, rh, w⟩ => ?_
  simp only [biW] at w
  split at w <;> first | exact w.elim | skip
  rename_i x
  obtain ⟨v, rfl, rv⟩ := one_of r
  have vx := RpV.of rv rh
  obtain ⟨ds, e, w⟩ := shpL w
  rw [e] at vx
  obtain ⟨a, vs, rfl, ha, ra⟩ := vx.lst
  split at w
  · rename_i n ns e'
    cases of_intsOf e'
    cases ra.ints
    refine ⟨a, n :: ns, rfl, .inl ha, by simp, fun m h1 h2 => ?_⟩
    rw [← maxI_eq h1 h2]
    exact w _ _ s (.int _) rh
  · exact w.elim
theorem min1_ok (hc : X.calm = true) : CallR X (.builtin "min") (rA X (biW .min1)) := by
  refine CallR.imp (cr_min hc) fun xs H Q ⟨ds, h, H₀, s, r, rh, w⟩ => ?_
  simp only [biW] at w
  split at w <;> first | exact w.elim | skip
  rename_i x
  obtain ⟨v, rfl, rv⟩ := one_of r
  have vx := RpV.of rv rh
  obtain ⟨ds, e, w⟩ := shpL w
  rw [e] at vx
  obtain ⟨a, vs, rfl, ha, ra⟩ := vx.lst
  split at w
  · rename_i n ns e'
    cases of_intsOf e'
    cases ra.ints
    refine ⟨a, n :: ns, rfl, .inl ha, by simp, fun m h1 h2 => ?_⟩
    rw [← minI_eq h1 h2]
    exact w _ _ s (.int _) rh
  · exact w.elim
theorem max2_ok (hc : X.calm = true) : CallR X (.builtin "max") (rA X (biW .max2)) := by
  refine CallR.imp (call_max2 hc) fun xs H Q ⟨ds, h, H₀, s, r, rh, w⟩ => ?_
  simp only [biW] at w
  split at w
  · obtain ⟨v, u, rfl, r1, r2⟩ := two_of r
    cases r1.int_inv; cases r2.int_inv
    exact ⟨_, _, rfl, w _ _ s (.int _) rh⟩
  · exact w.elim
theorem min2_ok (hc : X.calm = true) : CallR X (.builtin "min") (rA X (biW .min2)) := by
  refine CallR.imp (call_min2 hc) fun xs H Q ⟨ds, h, H₀, s, r, rh, w⟩ => ?_
  simp only [biW] at w
  split at w
  · obtain ⟨v, u, rfl, r1, r2⟩ := two_of r
    cases r1.int_inv; cases r2.int_inv
    exact ⟨_, _, rfl, w _ _ s (.int _) rh⟩
  · exact w.elim
theorem abs_ok : CallR X (.builtin "abs") (rA X (biW .abs)) := by
  refine CallR.imp call_abs fun xs H Q ⟨ds, h, H₀, s, r, rh, w⟩ => ?_
  simp only [biW] at w
  split at w
  · obtain ⟨v, rfl, r1⟩ := one_of r
    cases r1.int_inv
    exact ⟨_, rfl, w _ _ s (.int _) rh⟩
  · exact w.elim
theorem int_ok : CallR X (.type "int") (rA X (biW .int)) := by
  refine CallR.imp call_int1 fun xs H Q ⟨ds, h, H₀, s, r, rh, w⟩ => ?_
  simp only [biW] at w
  split at w
  · obtain ⟨v, rfl, r1⟩ := one_of r
    cases r1.int_inv
    exact .inl ⟨_, rfl, w _ _ s (.int _) rh⟩
  · obtain ⟨v, rfl, r1⟩ := one_of r
    cases r1.bl_inv
    exact .inr ⟨_, rfl, w _ _ s (.int _) rh⟩
  · exact w.elim
theorem bool_ok : CallR X (.type "bool") (rA X (biW .bool)) := by
  refine CallR.imp call_bool1 fun xs H Q ⟨ds, h, H₀, s, r, rh, w⟩ => ?_
  simp only [biW] at w
  split at w
  · obtain ⟨v, rfl, r1⟩ := one_of r
    cases r1.int_inv
    exact .inl ⟨_, rfl, w _ _ s (.bl _) rh⟩
  · obtain ⟨v, rfl, r1⟩ := one_of r
    cases r1.bl_inv
    exact .inr ⟨_, rfl, w _ _ s (.bl _) rh⟩
  · exact w.elim
theorem str_ok : CallR X (.type "str") (rA X (biW .str)) := by
  refine CallR.imp call_str_int fun xs H Q ⟨ds, h, H₀, s, r, rh, w⟩ => ?_
  simp only [biW] at w
  split at w
  · obtain ⟨v, rfl, r1⟩ := one_of r
    cases r1.int_inv
    exact ⟨_, rfl, w.1, w.2 _ _ s (.str _) rh⟩
  · exact w.elim

/-! ### subscripts, slices, stores -/
theorem ix_ok (hu : X.A.units + 1 < cLine) : IxR X (r2 X ixW) := by
  refine IxR.imp (IxR.or ix_seq (ix_dict hu)) fun x y H Q ⟨dx, dy, h, H₀, s, qx, qy, rh, w⟩ => ?_
  unfold ixW at w
  have vx := RpV.of qx rh
  split at w
  · rename_i k e
    rw [e] at vx
    obtain ⟨a, vs, rfl, ha, ra⟩ := vx.tup
    cases qy.int_inv
    split at w
    · rename_i d e'
      obtain ⟨v, ev, rv⟩ := at_rp ra e'
      exact .inl (.inr (.inl ⟨a, vs, k, v, rfl, rfl, sq ha, ev, w _ _ s rv rh⟩))
    · exact w.elim
  · rename_i k e
    rw [e] at vx
    obtain ⟨a, vs, rfl, ha, ra⟩ := vx.lst
    cases qy.int_inv
    split at w
    · rename_i d e'
      obtain ⟨v, ev, rv⟩ := at_rp ra e'
      exact .inl (.inl ⟨a, vs, k, v, rfl, rfl, .inl ha, ev, w _ _ s rv rh⟩)
    · exact w.elim
  · rename_i kvs ds e
    rw [e] at vx
    obtain ⟨a, kws, rfl, ha, ra⟩ := vx.dt
    obtain ⟨b, ys, rfl, hb, rb⟩ := qy.tup_inv
    split at w
    · rename_i k ek
      split at w
      · rename_i d e'
        rcases ra.val k with ⟨n1, _⟩ | ⟨d', v, e1, e2, rv⟩
        · rw [n1] at e'; cases e'
        · rw [e1] at e'; cases e'
          exact .inr ⟨a, v, rfl, .inr ⟨kws, k, b, ha, rfl, by rw [← keys_rp rb ek]; exact hb, e2.symm⟩, w _ _ s rv rh⟩
      · exact w.elim
    · exact w.elim
  · exact w.elim
theorem sl_ok (fz : Bool) : SlR X (fun x lo hi H Q => ∃ dx h H₀, Stab H₀ H ∧ Rp X.K H dx x ∧ RelH X.K h H ∧ slW fz dx lo hi h (liftK X.K H₀ Q)) := by
  refine SlR.imp (SlR.or sl_tupA (SlR.fz sl_list)) fun x lo hi H Q ⟨dx, h, H₀, s, qx, rh, w⟩ => ?_
  unfold slW at w
  have vx := RpV.of qx rh
  split at w
  · rename_i e
    rw [e] at vx
    obtain ⟨a, vs, rfl, ha, ra⟩ := vx.tup
    refine .inl ⟨a, vs, rfl, sq ha, fun hw => ?_, fun _ => tup_ok s rh (cut_rp ra lo hi) w⟩
    have : cutV vs lo hi = vs := by
      unfold cutV
      rw [hw.1, hw.2]
      simp
    have rc := cut_rp ra lo hi
    rw [this] at rc
    exact w _ _ s (.tup ha rc) rh
  · rename_i e
    rw [e] at vx
    obtain ⟨a, vs, rfl, ha, ra⟩ := vx.lst
    exact .inr ⟨a, vs, rfl, .inl ha, (mkL_ok s rh (cut_rp ra lo hi) w).2⟩
  · exact w.elim
theorem set_ok (hu : X.A.units + 1 < cLine) : PSet X (fun o i v H Q => ∃ dO di dv h H₀, Stab H₀ H ∧ Rp X.K H dO o ∧ Rp X.K H di i ∧ Rp X.K H dv v ∧ RelH X.K h H ∧ setW dO di dv h fun h' => ∀ H', Stab H₀ H' → RelH X.K h' H' → Q H') := by
  intro pins s σ H o i v ov iv u Q I ro ri rv ⟨dO, di, dv, h, H₀, st, qo, qi, qv, rh, w⟩
  unfold setW at w
  split at w
  · rename_i a n
    split at w
    · rename_i ds e
      split at w
      · rename_i j ej
        cases qo.ref_inv; cases qi.int_inv
        obtain ⟨vs, ev, ra⟩ := rh.lst e
        have s1 : Stab H (upd H a (.lst (vs.set j v))) := .lstUpd ev
        exact set_list pins s σ H _ _ v ov iv u Q I ro ri rv ⟨a, vs, n, j, rfl, rfl, ev, by rw [← ra.length]; exact ej, w _ (st.trans s1) (rh.put s1 trivial (.lst (ra.set j qv)))⟩
      · exact w.elim
    · exact w.elim
  · rename_i a ds
    split at w
    · rename_i kvs e
      split at w
      · rename_i y ey
        cases qo.ref_inv
        obtain ⟨b, ys, rfl, hb, rb⟩ := qi.tup_inv
        obtain ⟨kws, ev, ra⟩ := rh.dt e
        cases ro
        have s1 : Stab H (upd H a (.dT (putK kws y v))) := .put0 (fun xs z => by rw [ev] at z; cases z) (fun o u z => by rw [ev] at z; cases z)
        have r1 := (ra.put y qv)
        refine d_setItem hu I (.inr ⟨kws, y, b, ev, rfl, by rw [← keys_rp rb ey]; exact hb, by rw [← ra.length]; exact w.1, rfl⟩) ri rv fun s' I' => ⟨_, I', w.2 _ (st.trans s1) (rh.put s1 trivial (.dT r1.1 r1.2))⟩
      · exact w.elim
    · exact w.elim
  · exact w.elim

/-! ### methods -/
/-- a method of trees -/
def rM (X : Cx) (f : D → List D → AH → DK → Prop) : V → List V → Hp → VK → Prop := fun x xs H Q => ∃ d ds h H₀, Stab H₀ H ∧ Rp X.K H d x ∧ RpAll X.K H ds xs ∧ RelH X.K h H ∧ f d ds h (liftK X.K H₀ Q)
theorem append_ok : MtR X "list.append" (rM X (mtW .append)) := by
  refine MtR.imp mt_append fun x xs H Q ⟨d, ds, h, H₀, st, rx, r, rh, w⟩ => ?_
  simp only [mtW] at w
  split at w
  · rename_i a y
    split at w
    · rename_i ls e
      cases rx.ref_inv
      obtain ⟨v, rfl, rv⟩ := one_of r
      obtain ⟨vs, ev, ra⟩ := rh.lst e
      have s1 : Stab H (upd H a (.lst (vs ++ [v]))) := .lstUpd ev
      exact ⟨a, vs, v, rfl, rfl, ev, by rw [← ra.length]; exact w.1, w.2 _ _ (st.trans s1) .non (rh.put s1 trivial (.lst (ra.append (.one rv))))⟩
    · exact w.elim
  · exact w.elim
theorem pop_ok : MtR X "list.pop" (rM X (mtW .pop)) := by
  refine MtR.imp mt_pop fun x xs H Q ⟨d, ds, h, H₀, st, rx, r, rh, w⟩ => ?_
  simp only [mtW] at w
  split at w
  · rename_i a
    split at w
    · rename_i ls e
      split at w
      · rename_i y ey
        cases rx.ref_inv
        cases zero_of r
        obtain ⟨vs, ev, ra⟩ := rh.lst e
        obtain ⟨v, ev', rv⟩ := ra.get ey
        have s1 : Stab H (upd H a (.lst vs.dropLast)) := .lstUpd ev
        have rd : RpAll X.K H ls.dropLast vs.dropLast := by
          rw [List.dropLast_eq_take, List.dropLast_eq_take, ← ra.length]; exact ra.take _
        exact ⟨a, vs, v, rfl, rfl, ev, by rw [← ra.length]; exact ev', w _ _ (st.trans s1) (rv.mono s1) (rh.put s1 trivial (.lst rd))⟩
      · exact w.elim
    · exact w.elim
  · exact w.elim
theorem popAt_ok : MtR X "list.pop" (rM X (mtW .popAt)) := by
  refine MtR.imp mt_popAt fun x xs H Q ⟨d, ds, h, H₀, st, rx, r, rh, w⟩ => ?_
  simp only [mtW] at w
  split at w
  · rename_i a i
    split at w
    · rename_i ls e
      split at w
      · rename_i k ek
        split at w
        · rename_i y ey
          cases rx.ref_inv
          obtain ⟨u, rfl, ru⟩ := one_of r
          cases ru.int_inv
          obtain ⟨vs, ev, ra⟩ := rh.lst e
          obtain ⟨v, ev', rv⟩ := ra.get ey
          have s1 : Stab H (upd H a (.lst (vs.eraseIdx k))) := .lstUpd ev
          exact ⟨a, vs, i, k, v, rfl, rfl, ev, w.1.1, w.1.2, by rw [← ra.length]; exact (ixN_seq ek).1, ev', w.2 _ _ (st.trans s1) (rv.mono s1) (rh.put s1 trivial (.lst (ra.eraseIdx k)))⟩
        · exact w.elim
      · exact w.elim
    · exact w.elim
  · exact w.elim
theorem reverse_ok : MtR X "list.reverse" (rM X (mtW .reverse)) := by
  refine MtR.imp mt_reverse fun x xs H Q ⟨d, ds, h, H₀, st, rx, r, rh, w⟩ => ?_
  simp only [mtW] at w
  split at w
  · rename_i a
    split at w
    · rename_i ls e
      cases rx.ref_inv
      cases zero_of r
      obtain ⟨vs, ev, ra⟩ := rh.lst e
      have s1 : Stab H (upd H a (.lst vs.reverse)) := .lstUpd ev
      exact ⟨a, vs, rfl, rfl, ev, w _ _ (st.trans s1) .non (rh.put s1 trivial (.lst ra.reverse))⟩
    · exact w.elim
  · exact w.elim
end
end G

end

section
set_option Elab.async false
set_option linter.all false
set_option maxRecDepth 100000
set_option maxHeartbeats 4000000
/-! G6b: sorted, isinstance, bit_length, extend, reading an item by values. -/
namespace G
open PySem PySem.Spec PyProof.Rows L2
section
variable {prog : Program} {w : World} {A : Around} {s : Shared}
theorem sortsFew {vs : List Value} {ds : List PyData} (e : PySem.W.EachIs (fun v d => ∃ as, Reads s.heap v d as) vs ds) (hal : PySem.W.AllAlike ds) (hn : ∀ d ∈ ds, d ≠ .none) (h1 : ds.length ≤ 1) (hu : ∀ d, d ∈ ds → A.units + d.depth < cLine) :
    PySem.W.SortsAt prog w A s (PySem.W.dataKind s.heap ds) vs := by
  refine ⟨fun v hv => ?_, general', fun E x y a b Q ha hb hq => ?_, fun h2 => ?_⟩
  · obtain ⟨d, hd, as, r⟩ := e.left v hv
    exact ⟨_, PySem.W.dataKind_some hal hd r⟩
  · obtain ⟨d, as, hd, ra, rfl⟩ := PySem.W.dataKind_inv ha
    obtain ⟨d', as', hd', rb, rfl⟩ := PySem.W.dataKind_inv hb
    show wpAny _ _ (oneLt' false x y) _ _ _
    exact PySem.W.oneLt_alike (fun h => nomatch h) ra rb (hal d hd d' hd') (hn d hd) (Nat.lt_of_le_of_lt (Nat.add_le_add_left (Nat.min_le_left _ _) _) (hu d hd)) hq
  · rw [e.length] at h2
    omega
end
section
variable {X : Cx}
theorem pyAll_each : ∀ {ds : List D} {ps : List PyData}, D.pyAll ds = some ps → ds.length = ps.length ∧ ∀ (i : Nat) (d : D), ds[i]? = some d → ∃ p, ps[i]? = some p ∧ d.py = some p
  | [], ps, h => by simp [D.pyAll] at h; subst h; exact ⟨rfl, fun i d e => by simp at e⟩
  | d :: ds, ps, h => by
    simp only [D.pyAll] at h
    split at h
    · rename_i p qs e1 e2
      cases h
      obtain ⟨a, b⟩ := pyAll_each e2
      refine ⟨by simp [a], fun i x e => ?_⟩
      cases i with
      | zero => simp at e; subst e; exact ⟨p, rfl, e1⟩
      | succ i => simpa using b i x (by simpa using e)
    · cases h
theorem pyAll_get : ∀ {ds : List D} {ps : List PyData}, D.pyAll ds = some ps → ps = ds.map fun d => d.py.getD .none
  | [], ps, h => by simp [D.pyAll] at h; subst h; rfl
  | d :: ds, ps, h => by
    simp only [D.pyAll] at h
    split at h
    · rename_i p qs e1 e2
      cases h
      rw [List.map_cons, e1, ← pyAll_get e2]; rfl
    · cases h
/-- items of values and trees, side by side -/
theorem each_of {K : PySem.W.Frag} {H : Hp} : ∀ {ds : List D} {vs : List V} {us : List Value}, RpAll K H ds vs → Vals vs us → PySem.W.EachIs (fun u d => ∃ v, RelV v u ∧ Rp K H d v) us ds
  | [], _, _, r, q => by cases r; cases q; exact .nil
  | d :: ds, _, _, r, q => by
    cases r with
    | cons a b =>
      cases q with
      | cons c e => exact .cons ⟨_, c, a⟩ (each_of b e)
theorem each_back {K : PySem.W.Frag} {H : Hp} : ∀ {ds : List D} {us : List Value}, PySem.W.EachIs (fun u d => ∃ v, RelV v u ∧ Rp K H d v) us ds → ∃ vs, RpAll K H ds vs ∧ Vals vs us
  | [], _, .nil => ⟨[], .nil, .nil⟩
  | d :: ds, _, .cons ⟨v, a, b⟩ t => by
    obtain ⟨vs, c, e⟩ := each_back t
    exact ⟨v :: vs, .cons b c, .cons a e⟩
theorem leD_eq : leD = PySem.W.dataLe false (fun d : D => d.py.getD .none) ∨ True := .inr trivial
theorem sorted_ok {k : Nat} (hr : Room k X.A) (fz : Bool) : CallR X (.builtin "sorted") (rA X (biW (.sorted fz))) := by
  refine CallR.imp (r := fun xs H Q => ∃ ds h H₀, Stab H₀ H ∧ RpAll X.K H ds xs ∧ RelH X.K h H ∧ biW (.sorted fz) ds h (liftK X.K H₀ Q)) ?_ fun xs H Q w => w
  intro pins s σ H xs us Q I rv ⟨ds, h, H₀, st, r, rh, w⟩
  simp only [biW] at w
  split at w <;> first | exact w.elim | skip
  rename_i x
  obtain ⟨v, rfl, rx⟩ := one_of r
  have vx := RpV.of rx rh
  split at w <;> first | exact w.elim | skip
  rename_i ds e
  obtain ⟨⟨ps, ep, hal, hk, hd⟩, w⟩ := w
  rw [e] at vx
  obtain ⟨a, vs, rfl, ha, ra⟩ := vx.lst
  obtain ⟨u, rfl, ru⟩ := Vals.one rv
  cases ru
  obtain ⟨z, its, n, rvs, eo⟩ := rdL I ha
  have epm := pyAll_get ep
  have each := each_of ra rvs
  have er : PySem.W.EachIs (fun u (d : D) => ∃ as, Reads s.heap u (d.py.getD .none) as) its ds := by
    have hp : ∀ d ∈ ds, ∃ p, d.py = some p := fun d hd => by
      obtain ⟨i, hi⟩ := List.getElem?_of_mem hd
      obtain ⟨p, _, q⟩ := (pyAll_each ep).2 i d hi
      exact ⟨p, q⟩
    refine (PySem.W.each_mem each).mono fun u d ⟨⟨v, rv', rd⟩, hm⟩ => ?_
    obtain ⟨p, hp⟩ := hp d hm
    rw [hp]
    exact Dp.reads I p v u (rd.dp _ _ _ hp) rv'
  have hal' : PySem.W.AllAlike (ds.map fun d => d.py.getD .none) := epm ▸ hal
  have hlen : ds.length ≤ sizeLine := by rw [ra.length]; exact z
  have hu : ∀ d, d ∈ ds → X.A.units + 2 + (d.py.getD .none).depth < cLine := fun d hm => by
    have := hd (d.py.getD .none) (by rw [epm]; exact List.mem_map.mpr ⟨d, hm, rfl⟩)
    have := hr.un
    omega
  have hle : ds.mergeSort leD = ds.mergeSort (PySem.W.dataLe false fun d : D => d.py.getD .none) := by
    refine PySem.W.sort_congr fun a ha b hb => ?_
    obtain ⟨i, hi⟩ := List.getElem?_of_mem ha
    obtain ⟨p, _, q⟩ := (pyAll_each ep).2 i a hi
    obtain ⟨j, hj⟩ := List.getElem?_of_mem hb
    obtain ⟨p', _, q'⟩ := (pyAll_each ep).2 j b hj
    rw [PySem.W.dataLe_eq]
    simp only [leD, q, q', Option.getD_some, cond]
  have fin : ∀ out, out.length = ds.length → PySem.W.EachIs (fun u d => ∃ v, RelV v u ∧ Rp X.K H d v) out (ds.mergeSort (PySem.W.dataLe false fun d : D => d.py.getD .none)) →
      EP X pins σ Q (.ref (s.heap.objs.size + 1)) { s with heap := sortedAll s.heap its (List.toArray out) } := fun out hl ho => by
    rw [← hle] at ho
    obtain ⟨ws, rw1, rw2⟩ := each_back ho
    have hlt : s.heap.objs.size ≤ s.heap.objs.size + 1 := Nat.le_succ _
    have hn := I.hok.fresh hlt
    obtain ⟨q1, q2⟩ := mkL_ok st rh rw1 w
    obtain ⟨ne, hat⟩ := sortedAll_at s.heap its (List.toArray out)
    have J : Inv X pins σ (upd H (s.heap.objs.size + 1) (.lst ws)) { s with heap := sortedAll s.heap its (List.toArray out) } :=
      I.laid (t' := s.toks) (o := .lst ws) (fun b o q => sortedAll_old q) hlt ⟨q1, out, ne, rw2, hat⟩
    exact EP.fz ⟨.ref (s.heap.objs.size + 1), _, J, rfl, q2 _ hn⟩
  have isl : s.heap.IsList a its.toArray := ⟨_, eo, rfl, _, rfl⟩
  rcases hk with hk | hk
  · exact PySem.W.sorted_data isl each er hal' (epm ▸ hk) hlen hu fin
  · have er' : PySem.W.EachIs (fun u (d : D) => ∃ as, Reads (PySem.W.sortingHeap (PySem.W.copyHeap s.heap its) (s.heap.objs.size + 1) its) u (d.py.getD .none) as) its ds := er.mono fun _ _ ⟨as, r⟩ => ⟨as, PyProof.Rows.Reads.keeps (fun _ _ => PySem.W.sorting_copy_old) r⟩
    have hn : ∀ d ∈ ds.map (fun d : D => d.py.getD .none), d ≠ .none := fun d hm => by
      rw [← epm] at hm
      exact (hk d hm).1
    have h1 : (ds.map (fun d : D => d.py.getD .none)).length ≤ 1 := by
      cases ds with
      | nil => simp
      | cons d0 dr =>
        rw [← epm]
        refine (hk (d0.py.getD .none) ?_).2
        rw [epm]
        exact List.mem_cons_self
    refine PySem.W.sorted_vals isl (sortsFew (s := { s with heap := PySem.W.sortingHeap (PySem.W.copyHeap s.heap its) (s.heap.objs.size + 1) its }) (PySem.W.each_map (R := fun v d => ∃ as, Reads (PySem.W.sortingHeap (PySem.W.copyHeap s.heap its) (s.heap.objs.size + 1) its) v d as) _ er') hal' hn h1 (PySem.W.bound_map hu)) (by rw [each.length]; exact hlen)
      (fin _ (by rw [PySem.W.sortVals_length false rfl]; exact each.length) (PySem.W.sortVals_data false each er' hal'))

/-! ### isinstance -/
theorem kit_table (t u : TyN) : kitB t.name u.name = some (t == u || (t == .bool && u == .int)) := by
  cases t <;> cases u <;> decide +kernel
/-- the type of a thing -/
theorem ty_of {pins : List (Addr × Obj)} {σ : L2.St} {H : Hp} {s : Shared} {d : D} {v : V} {u : Value} {t : TyN} (I : Inv X pins σ H s) (r : RpV X.K H d v) (rv : RelV v u) (e : tyN d = some t) :
    ∃ P : Heap → Prop, PySem.W.KitX X.K u (.type t.name) P ∧ P s.heap ∧ u ≠ .builtin "__main__.__loader__#opaque" := by
  have go : ∀ {t : String}, TyX X.K H v (.type t) → ∃ P : Heap → Prop, PySem.W.KitX X.K u (.type t) P ∧ P s.heap ∧ u ≠ .builtin "__main__.__loader__#opaque" := fun h => kit_of I rv h
  cases d with
  | non => cases e; cases r.non; exact go (.base .non)
  | bl b => cases e; cases r.bl; exact go (.base (.bl _))
  | int i => cases e; cases r.int; exact go (.base (.int _))
  | str x => cases e; cases r.str; exact go (.base (.str _))
  | ref _ => cases e
  | ty _ => cases e
  | obj _ _ => cases e
  | tup ds =>
    cases e
    obtain ⟨a, vs, rfl, ha, _⟩ := r.tup
    cases rv
    obtain ⟨its, _, ⟨o, h1, h2, _⟩, _⟩ := I.tuple (sq ha)
    exact ⟨_, PySem.W.kitx_tuple, ⟨o, h1, h2⟩, fun z => nomatch z⟩
  | lst ds =>
    cases e
    obtain ⟨a, vs, rfl, ha, _⟩ := r.lst
    cases rv
    obtain ⟨_, its, n, _, h1⟩ := rdL I ha
    exact ⟨_, PySem.W.kitx_list, ⟨_, h1, rfl⟩, fun z => nomatch z⟩
  | dK kvs =>
    cases e
    have : ∃ a kws, v = .ref a ∧ Rd H a (.dK kws) := by
      rcases r with r | ⟨a, w, rfl, ea, _, c⟩
      · cases r with
        | frz q c => cases c; exact ⟨_, _, rfl, .inr ⟨_, q⟩⟩
      · cases c; exact ⟨a, _, rfl, .inl ea⟩
    obtain ⟨a, kws, rfl, ha⟩ := this
    cases rv
    obtain ⟨_, _, vs, _, o, es, ep, h1, h2, _⟩ := ha.ok I.hok
    exact ⟨_, PySem.W.kitx_dict, ⟨o, h1, h2.1⟩, fun z => nomatch z⟩
  | dT kvs =>
    cases e
    have : ∃ a kws, v = .ref a ∧ Rd H a (.dT kws) := by
      rcases r with r | ⟨a, w, rfl, ea, _, c⟩
      · cases r with
        | frz q c => cases c; exact ⟨_, _, rfl, .inr ⟨_, q⟩⟩
      · cases c; exact ⟨a, _, rfl, .inl ea⟩
    obtain ⟨a, kws, rfl, ha⟩ := this
    cases rv
    obtain ⟨_, _, xs, _, o, es, ep, h1, h2, _⟩ := ha.ok I.hok
    exact ⟨_, PySem.W.kitx_dict, ⟨o, h1, h2.1⟩, fun z => nomatch z⟩
theorem isi_ok (t : TyN) : CallR X (.builtin "isinstance") (fun xs H Q => ∃ (x : V) (d : D) (b : Bool), xs = [x, .ty t.name] ∧ RpV X.K H d x ∧ isiD d t = some b ∧ Q (.bl b) H) := by
  intro pins s σ H xs us Q I rv ⟨x, d, b, ex, rx, e, q⟩
  subst ex
  obtain ⟨u, u', rfl, r1, r2⟩ := Vals.two rv
  cases r2
  unfold isiD at e
  obtain ⟨t', e1, rfl⟩ := Option.map_eq_some_iff.mp e
  obtain ⟨Z, p, hz, hx⟩ := ty_of I rx r1 e1
  exact PySem.W.kia_one p I.kIn hz (kit_ty (kit_table t' t)) hx fun tk => ⟨.bl _, H, I.tok tk, rfl, q⟩
theorem extend_ok : MtR X "list.extend" (rM X (mtW .extend)) := by
  intro pins s σ H x xs v us Q I rx rv ⟨d, ds, h, H₀, st, qx, r, rh, w⟩
  simp only [mtW] at w
  split at w
  · rename_i a y
    split at w
    · rename_i ls es e ey
      cases qx.ref_inv
      obtain ⟨b, rfl, rb⟩ := one_of r
      obtain ⟨vs, ev, ra⟩ := rh.lst e
      have vy := RpV.of rb rh
      rw [ey] at vy
      obtain ⟨c, ws, rfl, hc, rc⟩ := vy.lst
      cases rx
      obtain ⟨u, rfl, ru⟩ := Vals.one rv
      cases ru
      obtain ⟨z, its, n, r, hl, e1⟩ := I.lstM ev
      obtain ⟨z2, its2, n2, r2, e2⟩ := rdL I hc
      have hl2 := r2.length
      have q1 := ra.length
      have q2 := rc.length
      have w1 := w.1
      have hsz : its.toArray.size + its2.toArray.size ≤ sizeLine := by rw [List.size_toArray, List.size_toArray]; omega
      have hlong : ¬ (!its.toArray.isEmpty && Builtin.List.listTooLong (its.toArray.size + its2.toArray.size)) = true := by
        rw [notLongL hsz, Bool.and_false]
        exact Bool.false_ne_true
      refine call_meets PySem.F.slot_list_extend ⟨_, e1, rfl⟩ PySem.F.entry_list_extend (PySem.F.args_list_extend_2 _ _)
        (AutoSeq1.list_extend_list_list_0 a its.toArray n c its2.toArray n2 hlong (by rw [List.size_toArray]; omega) (by omega)) ⟨e1, e2, ?_⟩
      have s1 : Stab H (upd H a (.lst (vs ++ ws))) := .lstUpd ev
      refine ⟨.non, _, I.lset (its' := its ++ its2) ev e1 (by simp) (r.append r2) ?_, rfl, w.2 _ _ (st.trans s1) .non (rh.put s1 trivial (.lst (ra.append rc)))⟩
      rw [List.length_append]
      omega
    · exact w.elim
  · exact w.elim
/-- o[i] by values -/
theorem pget_list (hu : X.A.units + 1 < cLine) : PGet X (fun o i H Q => ∃ dO di h H₀, Stab H₀ H ∧ Rp X.K H dO o ∧ Rp X.K H di i ∧ RelH X.K h H ∧ ixW dO di h (liftK X.K H₀ Q)) := by
  intro pins s σ H o i ov iv Q I ro ri ⟨dO, di, h, H₀, st, qo, qi, rh, w⟩
  unfold ixW at w
  have vx := RpV.of qo rh
  split at w
  · rename_i ds k e
    rw [e] at vx
    obtain ⟨a, vs, rfl, ha, ra⟩ := vx.tup
    cases qi.int_inv
    split at w
    · rename_i d e'
      obtain ⟨v, ev, rv⟩ := at_rp ra e'
      cases ro
      obtain ⟨t, rfl⟩ := ri
      obtain ⟨its, r, pl, hz⟩ := I.tuple (sq ha)
      obtain ⟨j, h1, h2, h3, h4, h5⟩ := atI_get ev
      obtain ⟨z, ew, rw'⟩ := r.get h2
      have hl := r.length
      have hn := line63
      exact getItem_tuple (j := j) pl (by omega) (by omega) (by rw [List.size_toArray, ← hl]; exact h1) (by simpa using ew) ⟨v, H, I, rw', w _ _ st rv rh⟩
    · exact w.elim
  · rename_i ds k e
    rw [e] at vx
    obtain ⟨a, vs, rfl, ha, ra⟩ := vx.lst
    cases qi.int_inv
    split at w
    · rename_i d e'
      obtain ⟨v, ev, rv⟩ := at_rp ra e'
      cases ro
      obtain ⟨t, rfl⟩ := ri
      obtain ⟨its, r, pl, hz⟩ := I.list (.inl ha)
      obtain ⟨j, h1, h2, h3, h4, h5⟩ := atI_get ev
      obtain ⟨z, ew, rw'⟩ := r.get h2
      have hl := r.length
      have hn := line63
      have fin : EP X pins σ Q z s := ⟨v, H, I, rw', w _ _ st rv rh⟩
      by_cases h0 : 0 ≤ k
      · have hj : k.toNat = j := by
          rw [seqIndex_of h0 h5] at h1
          exact Option.some.inj h1
        exact wpAny_getItem_list pl.isList h0 (by omega) (by rw [hj]; simpa using ew) fin
      · have hj : (k + (its.toArray.size : Int)).toNat = j := by
          rw [seqIndex_neg (by omega) h4] at h1
          rw [List.size_toArray, ← hl]
          exact Option.some.inj h1
        exact wpAny_getItem_list_neg pl.isList (by omega) (by rw [List.size_toArray] <;> omega) (by omega) (by rw [hj]; simpa using ew) fin
    · exact w.elim
  · rename_i kvs ds e
    rw [e] at vx
    obtain ⟨a, kws, rfl, ha, ra⟩ := vx.dt
    obtain ⟨b, ys, rfl, hb, rb⟩ := qi.tup_inv
    cases ro
    split at w
    · rename_i k ek
      split at w
      · rename_i d e'
        rcases ra.val k with ⟨n1, _⟩ | ⟨d', v, e1, e2, rv⟩
        · rw [n1] at e'; cases e'
        · rw [e1] at e'; cases e'
          exact d_getItem hu I (.inr ⟨kws, k, b, ha, rfl, by rw [← keys_rp rb ek]; exact hb, e2.symm⟩) ri fun w' s3 I3 rw' => ⟨v, H, I3, rw', w _ _ st rv rh⟩
      · exact w.elim
    · exact w.elim
  · exact w.elim
end
end G

end

section
set_option Elab.async false
set_option linter.all false
set_option maxRecDepth 100000
set_option maxHeartbeats 4000000
/-! G7: what is walked. -/
namespace G
open PySem PySem.Spec PyProof.Rows L2
open Sem (wp)

/-! ### enumerate(tuple) -/
theorem meets_enum_newT (l : Addr) (items : Array Value) :
    Meets (Builtin.«enumerate.__new__» ⟨[.type "enumerate", .ref l], []⟩) (fun _ R s => s.heap.IsTuple l items ∧
      R (.ok (.ret (.ref (s.heap.push { cls := .type "tuple_iterator", data := .fields #[.ref l, .int 0 0] }).objs.size)))
        { s with heap := (s.heap.push { cls := .type "tuple_iterator", data := .fields #[.ref l, .int 0 0] }).push { cls := .type "enumerate", data := .fields #[.none, .bool false, .ref s.heap.objs.size, rawInt 0, .none, .none] } }) :=
  .of_wp fun prog w A R s h => by
    obtain ⟨hp, g, d, tk, os⟩ := s; obtain ⟨hl, h⟩ := h
    have hsub := sub_enumerate
    have hL : Heap.IsTuple (Shared.heap ⟨hp, g, d, tk, os⟩) l items := hl
    obtain ⟨o, ho, hc, n, hd⟩ := id hl
    wp_walk using wpAny_pyIter_tuple hL
    refine wpAny_stack_any fun st => wpAny_pure ?_
    split
    · rename_i c _ _ _ _ _
      cases (c == Value.type "enumerate")
      · wp_walk using wpAny_pyIter_tuple hL
        exact ⟨_, rfl, h⟩
      · wp_walk using wpAny_pyIter_tuple hL
        exact ⟨_, rfl, h⟩
    · wp_walk using wpAny_pyIter_tuple hL
      exact ⟨_, rfl, h⟩
theorem call_enum_tuple {prog : Program} {w : World} {A : Around} {E : Value → Shared → Prop} {s : Shared} {l : Addr} {items : Array Value} {Q : Value → Shared → Prop} (hL : s.heap.IsTuple l items)
    (h : ∀ h', IsEnum h' (s.heap.objs.size + 1) s.heap.objs.size 0 .none → h'.IsTupleIter s.heap.objs.size l 0 → h'.objs.size = s.heap.objs.size + 2 →
      (∀ b o, s.heap.get? b = some o → h'.get? b = some o) → Q (.ref (s.heap.objs.size + 1)) { s with heap := h' }) :
    wpAny (model prog w) A (call (.type "enumerate") [.ref l]) Q E s := by
  refine callType_new PySem.F.called_enumerate (by decide) (PySem.F.typeCall_enumerate_1 _) (PySem.F.newCall_enumerate_1 _) (fun obj => PySem.F.args_object_init_2 obj _) PySem.F.entry_enumerate_new
    (meets_enum_newT l items) ⟨hL, ?_⟩
  have hz : (s.heap.push { cls := .type "tuple_iterator", data := .fields #[.ref l, .int 0 0] }).objs.size = s.heap.objs.size + 1 := Heap.size_push ..
  show _ ∧ _
  rw [hz]
  have he : IsEnum ((s.heap.push { cls := .type "tuple_iterator", data := .fields #[.ref l, .int 0 0] }).push
      { cls := .type "enumerate", data := .fields #[.none, .bool false, .ref s.heap.objs.size, rawInt 0, .none, .none] }) (s.heap.objs.size + 1) s.heap.objs.size 0 .none := by
    have := Heap.get?_push_size (s.heap.push { cls := .type "tuple_iterator", data := .fields #[.ref l, .int 0 0] })
      (o := { cls := .type "enumerate", data := .fields #[.none, .bool false, .ref s.heap.objs.size, rawInt 0, .none, .none] }) rfl
    rw [hz] at this; exact this
  refine ⟨⟨_, he, rfl⟩, h _ he ⟨_, Heap.get?_push_of_some _ (Heap.get?_push_size _ rfl), rfl, rfl⟩ (by rw [Heap.size_push, hz]) fun b o x => Heap.get?_push_of_some _ (Heap.get?_push_of_some _ x)⟩
theorem enum_end_tuple {prog : Program} {w : World} {A : Around} {E : Value → Shared → Prop} {s : Shared} {e it l : Addr} {i : Nat} {items : Array Value} {old : Value} {Q : Option Value → Shared → Prop} (hh : A.handled = none)
    (he : IsEnum s.heap e it i old) (hit : s.heap.IsTupleIter it l i) (hl : s.heap.IsTuple l items) (hx : items[i]? = none)
    (hQ : ∀ h', Heap.ExtBut it s.heap h' → Q none { s with heap := h' }) : wpAny (model prog w) A (pyNext (.ref e)) Q E s := by
  have hT : s.TypeIs (.ref e) "enumerate" := ⟨_, he, rfl⟩
  unfold pyNext
  refine wpAny_bind (wpAny_attempt (wpAny_callSpecial?_slot (name := Str.ofString "__next__") hT PySem.F.slot_enumerate_next
    (wpAny_call_entry PySem.F.slot_enumerate_next hT PySem.F.entry_enumerate_next ?_ (PySem.F.args_enumerate_next_1 _))))
  show wpAny _ _ (field (.ref e) 2 >>= _) _ _ _
  refine wpAny_bind (wpAny_field he rfl (x := .ref it) rfl ?_)
  refine wpAny_bind (wpAny_nextOf_tuple_end hh hit hl hx fun h' x he' hx' => ?_)
  obtain ⟨o, ho, hc⟩ := hx'
  refine wpAny_bind (wpAny_isInstance (T := "StopIteration") (b := true) ⟨o, ho, hc⟩ isSubtype_stop ?_)
  exact wpAny_pure (hQ _ he')
def IteT (K : PySem.W.Frag) (a : Addr) : It :=
  ⟨fun i H => ∃ (xs : List V) (x : V), SqT K H a xs ∧ xs[i]? = some x, fun i H v H' => ∃ T x, v = .ref T ∧ H T = none ∧ H' = upd H T (.tup [.int (i : Nat), x]) ∧ ∀ xs, SqT K H a xs → xs[i]? = some x, fun i H => ∃ xs : List V, SqT K H a xs ∧ xs.length ≤ i⟩
theorem turn_enumT {P : Program} {w : World} {K : PySem.W.Frag} {elts : List Expr} {kk : Nat} {tpos : Pos} (a e it : Addr) :
    Turn P w K (.Tuple elts kk tpos) (IteT K a) [e, it] e (fun i h => (∃ old, IsEnum h e it ((i : Nat) : Int) old) ∧ h.IsTupleIter it a i ∧ e ≠ it ∧ a ≠ it ∧ a ≠ e) where
  mem := by simp
  obj := fun i h st b hb => by
    obtain ⟨⟨old, he⟩, ⟨o, ho, hc, hd⟩, _⟩ := st
    have e' : b = e ∨ b = it := by simpa using hb
    rcases e' with z | z
    · rw [z]; exact ⟨_, he, fun v q => nomatch q⟩
    · rw [z]; exact ⟨o, ho, fun v q => by rw [hd] at q; cases q⟩
  keep := fun i h h' st k => let ⟨⟨old, he⟩, hi, hne⟩ := st; ⟨⟨old, k e (by simp) _ he⟩, hi.at fun o q => k it (by simp) o q, hne⟩
  item := by
    intro X hP hw hK hc i pins s σ H E I hf st hg
    subst hP hw hK
    obtain ⟨⟨old, he⟩, hit, hne, hai, hae⟩ := st
    obtain ⟨xs, x, hq, hx⟩ := hg
    obtain ⟨its, rv, p, hz⟩ := I.tuple hq
    obtain ⟨u, hu, ru⟩ := rv.get hx
    have hel : e < s.heap.objs.size := Heap.lt_size he
    have hil : it < s.heap.objs.size := by obtain ⟨_, q, _⟩ := hit; exact Heap.lt_size q
    have hlt : i < its.toArray.size := by
      obtain ⟨h1, _⟩ := List.getElem?_eq_some_iff.mp hu
      simpa using h1
    refine wpAny_pyNext_enum_itemD (Draws.tuple (A := X.A.in1) (by exact I.ok.hd hc) it a hai its.toArray) he ⟨hit, p⟩ hlt hne (by simp [hne, hae.symm]) fun y h' tk hy ho ⟨hit', _⟩ hT hsz hk => ?_
    have ey : u = y := by
      have : its.toArray[i]? = some u := by simpa using hu
      rw [this] at hy
      exact Option.some.inj hy
    subst ey
    refine ⟨_, rfl, wpAny_letOwnedTupleGo_enum (s := { s with heap := h', toks := tk + 1 }) ho fun h'' he' sb => ?_⟩
    have hT2 : h''.get? s.heap.objs.size = some { cls := .type "tuple", data := .seq #[.int i tk, u] } := (sb.2 _ (Nat.ne_of_gt hel)).trans hT
    have new : ObjOk X.prog X.w (upd H s.heap.objs.size (.tup [.int (i : Nat), x])) h'' s.heap.objs.size (.tup [.int (i : Nat), x]) :=
      ⟨by show 2 ≤ sizeLine; decide, [.int i tk, u], .cons ⟨_, rfl⟩ (.cons ru .nil), ⟨_, hT2, rfl, _, rfl⟩⟩
    have I1 : Inv X pins σ (upd H s.heap.objs.size (.tup [.int (i : Nat), x])) { s with heap := h'', toks := tk + 1 } :=
      I.turnedNew (ch := [e, it]) (fun b ob hb q => (sb.2 b (fun z => hb (by simp [z]))).trans (hk b ob (fun z => hb (by simp [z])) (fun z => hb (by simp [z])) q)) hf (Nat.le_refl _) new
    refine ⟨.ref s.heap.objs.size, _, I1, rfl, ⟨_, x, rfl, I.hok.fresh (Nat.le_refl _), rfl, fun ys hy => by rw [I.tuple_inj hy hq]; exact hx⟩, ⟨⟨u, ?_⟩, hit'.at fun o q => (sb.2 it (Ne.symm hne)).trans q, hne, hai, hae⟩, fun b hb => ?_⟩
    · have e1 : ((i + 1 : Nat) : Int) = (i : Int) + 1 := by omega
      rw [e1]; exact he'
    · have hb' : b < s.heap.objs.size := by
        have e' : b = e ∨ b = it := by simpa using hb
        rcases e' with z | z
        · rw [z]; exact hel
        · rw [z]; exact hil
      rw [upd_ne (Nat.ne_of_lt hb')]
      exact (hf b hb).1
  done := by
    intro X hP hw hK hc i pins s σ H E I hf st hg
    subst hP hw hK
    obtain ⟨⟨old, he⟩, hit, hne, hai, hae⟩ := st
    obtain ⟨xs, hq, hx⟩ := hg
    obtain ⟨its, rv, p, hz⟩ := I.tuple hq
    obtain ⟨f0, f1, f2, f3, f4, f5⟩ := hf it (by simp)
    have hl := rv.length
    exact enum_end_tuple (I.ok.hd hc) he hit p (by simp; omega) fun h' eb => ⟨rfl, I.turned (t' := s.toks) (fun b o hb q => eb b o hb q) f0 f1 f3 f4 f5⟩
  self := fun A i s Q E st h => let ⟨⟨_, he⟩, _⟩ := st; wpAny_pyIter_enum he h

/-! ### the items, by turns -/
structure Walks (K : PySem.W.Frag) (J : It) (ds : List D) (g : AH → Prop) (H₀ : Hp) : Prop where
  go : ∀ (i : Nat) (d : D) (H : Hp) (h : AH), Stab H₀ H → RelH K h H → g h → ds[i]? = some d → J.go i H ∧ ∀ x H', J.yld i H x H' → Stab H H' ∧ RelH K h H' ∧ Rp K H' d x
  stop : ∀ (H : Hp) (h : AH), Stab H₀ H → RelH K h H → g h → J.stop ds.length H
def liftI (K : PySem.W.Frag) (w : WI) : TI := fun σ H R => ∃ ρ h, RelE K H ρ σ ∧ RelH K h H ∧ w ρ h fun ds g h' => ∀ J H', Stab H H' → RelH K h' H' → Walks K J ds g H' → R J H'
/-- where the items are to be read -/
def AtL (K : PySem.W.Frag) (a : Addr) (ds : List D) (g : AH → Prop) (H₀ : Hp) : Prop := ∀ (H : Hp) (h : AH), Stab H₀ H → RelH K h H → g h → ∃ vs, SqL K H a vs ∧ RpAll K H ds vs
def AtT (K : PySem.W.Frag) (a : Addr) (ds : List D) (g : AH → Prop) (H₀ : Hp) : Prop := ∀ (H : Hp) (h : AH), Stab H₀ H → RelH K h H → g h → ∃ vs, SqT K H a vs ∧ RpAll K H ds vs
section
variable {K : PySem.W.Frag} {H₀ : Hp} {ds es : List D} {g g' : AH → Prop} {a b : Addr}
theorem seq_at {x : D} {v : V} {h : AH} {H : Hp} {k : List D → (AH → Prop) → Prop} (r : Rp K H x v) (rh : RelH K h H) (w : seqW x h k) :
    ∃ a ds g, v = .ref a ∧ k ds g ∧ ((∃ vs, SqL K H a vs) ∧ AtL K a ds g H ∨ (∃ vs, SqT K H a vs) ∧ AtT K a ds g H) := by
  unfold seqW at w
  split at w
  · rename_i ds
    obtain ⟨a, vs, rfl, ha, ra⟩ := r.tup_inv
    exact ⟨a, ds, _, rfl, w, .inr ⟨⟨vs, sq ha⟩, fun H' h' s _ _ => ⟨vs, sq (s.tup _ _ ha), ra.mono s⟩⟩⟩
  · rename_i ds
    obtain ⟨a, vs, e, ha, ra⟩ := r.lst_inv
    subst e
    cases r with
    | frz q c =>
      cases c with
      | lst c => exact ⟨a, ds, _, rfl, w, .inl ⟨⟨_, .inl (.inr ⟨_, q⟩)⟩, fun H' h' s _ _ => ⟨_, .inl (.inr ⟨_, s.frz _ _ _ q⟩), c.mono s⟩⟩⟩
  · rename_i a
    cases r.ref_inv
    split at w
    · rename_i ds e
      obtain ⟨vs, ev, ra⟩ := rh.lst e
      refine ⟨a, ds, _, rfl, w, .inl ⟨⟨vs, .inl (.inl ev)⟩, fun H' h' s rh' eg => ?_⟩⟩
      obtain ⟨vs', ev', ra'⟩ := rh'.lst eg
      exact ⟨vs', .inl (.inl ev'), ra'⟩
    · exact w.elim
  · exact w.elim
theorem walks_list (w : AtL K a ds g H₀) : Walks K (Itl K a) ds g H₀ := by
  refine ⟨fun i d H h s rh gh e => ?_, fun H h s rh gh => ?_⟩
  · obtain ⟨vs, hs, ra⟩ := w H h s rh gh
    obtain ⟨v, ev, rv⟩ := ra.get e
    refine ⟨⟨vs, v, hs, ev⟩, fun x H' ⟨e1, e2⟩ => ?_⟩
    subst e1
    have := e2 vs hs
    rw [ev] at this
    cases this
    exact ⟨.refl _, rh, rv⟩
  · obtain ⟨vs, hs, ra⟩ := w H h s rh gh
    exact ⟨vs, hs, by rw [ra.length]; exact Nat.le_refl _⟩
theorem walks_tup (w : AtT K a ds g H₀) : Walks K (Itt K a) ds g H₀ := by
  refine ⟨fun i d H h s rh gh e => ?_, fun H h s rh gh => ?_⟩
  · obtain ⟨vs, hs, ra⟩ := w H h s rh gh
    obtain ⟨v, ev, rv⟩ := ra.get e
    refine ⟨⟨vs, v, hs, ev⟩, fun x H' ⟨e1, e2⟩ => ?_⟩
    subst e1
    have := e2 vs hs
    rw [ev] at this
    cases this
    exact ⟨.refl _, rh, rv⟩
  · obtain ⟨vs, hs, ra⟩ := w H h s rh gh
    exact ⟨vs, hs, by rw [ra.length]; exact Nat.le_refl _⟩
theorem pairs_get : ∀ (ds : List D) (k i : Nat), (pairs k ds)[i]? = (ds[i]?).map fun d => D.tup [.int (k + i : Nat), d]
  | [], _, _ => by simp [pairs]
  | d :: ds, k, 0 => by simp [pairs]
  | d :: ds, k, i + 1 => by
    simp only [pairs, List.getElem?_cons_succ]
    rw [pairs_get ds (k + 1) i]
    congr 2
    funext d
    rw [show k + 1 + i = k + (i + 1) by omega]
theorem pairs_len : ∀ (ds : List D) (k : Nat), (pairs k ds).length = ds.length
  | [], _ => rfl
  | d :: ds, k => by simp [pairs, pairs_len ds]
/-- a pair just laid -/
theorem pair_rp {H : Hp} {h : AH} {T : Addr} {d e : D} {x y : V} (n : H T = none) (rh : RelH K h H) (rd : Rp K H d x) (re : Rp K H e y) : Stab H (upd H T (.tup [x, y])) ∧ RelH K h (upd H T (.tup [x, y])) ∧ Rp K (upd H T (.tup [x, y])) (.tup [d, e]) (.ref T) := by
  have s : Stab H (upd H T (.tup [x, y])) := .new n
  exact ⟨s, rh.keep s (rh.no n), .tup upd_same (.cons (rd.mono s) (.one (re.mono s)))⟩
theorem walks_enumL (w : AtL K a ds g H₀) : Walks K (Ite K a) (pairs 0 ds) g H₀ := by
  refine ⟨fun i d H h s rh gh e => ?_, fun H h s rh gh => ?_⟩
  · obtain ⟨vs, hs, ra⟩ := w H h s rh gh
    rw [pairs_get, Option.map_eq_some_iff] at e
    obtain ⟨d', e, rfl⟩ := e
    obtain ⟨v, ev, rv⟩ := ra.get e
    refine ⟨⟨vs, v, hs, ev⟩, fun x H' ⟨T, x', e1, n, e3, e2⟩ => ?_⟩
    subst e1 e3
    have := e2 vs hs
    rw [ev] at this
    cases this
    rw [Nat.zero_add]
    exact pair_rp n rh (.int _) rv
  · obtain ⟨vs, hs, ra⟩ := w H h s rh gh
    exact ⟨vs, hs, by rw [pairs_len, ra.length]; exact Nat.le_refl _⟩
theorem walks_enumT (w : AtT K a ds g H₀) : Walks K (IteT K a) (pairs 0 ds) g H₀ := by
  refine ⟨fun i d H h s rh gh e => ?_, fun H h s rh gh => ?_⟩
  · obtain ⟨vs, hs, ra⟩ := w H h s rh gh
    rw [pairs_get, Option.map_eq_some_iff] at e
    obtain ⟨d', e, rfl⟩ := e
    obtain ⟨v, ev, rv⟩ := ra.get e
    refine ⟨⟨vs, v, hs, ev⟩, fun x H' ⟨T, x', e1, n, e3, e2⟩ => ?_⟩
    subst e1 e3
    have := e2 vs hs
    rw [ev] at this
    cases this
    rw [Nat.zero_add]
    exact pair_rp n rh (.int _) rv
  · obtain ⟨vs, hs, ra⟩ := w H h s rh gh
    exact ⟨vs, hs, by rw [pairs_len, ra.length]; exact Nat.le_refl _⟩
theorem zip_get : ∀ (ds es : List D) (i : Nat) (d : D), (zipD ds es)[i]? = some d → ∃ x y, ds[i]? = some x ∧ es[i]? = some y ∧ d = .tup [x, y]
  | [], _, i, d, h => by simp [zipD] at h
  | _ :: _, [], i, d, h => by simp [zipD] at h
  | x :: xs, y :: ys, 0, d, h => by simp [zipD] at h; exact ⟨x, y, rfl, rfl, h.symm⟩
  | x :: xs, y :: ys, i + 1, d, h => by simpa using zip_get xs ys i d (by simpa [zipD] using h)
theorem zip_len : ∀ (ds es : List D), ds.length ≤ (zipD ds es).length ∨ es.length ≤ (zipD ds es).length
  | [], _ => .inl (Nat.zero_le _)
  | _ :: _, [] => .inr (Nat.zero_le _)
  | x :: xs, y :: ys => by
    simp only [zipD, List.length_cons]
    rcases zip_len xs ys with h | h
    · exact .inl (by omega)
    · exact .inr (by omega)
theorem walks_zipL (w : AtL K a ds g H₀) (w' : AtL K b es g' H₀) : Walks K (Itz K a b) (zipD ds es) (fun h => g h ∧ g' h) H₀ := by
  refine ⟨fun i d H h s rh gh e => ?_, fun H h s rh gh => ?_⟩
  · obtain ⟨vs, hs, ra⟩ := w H h s rh gh.1
    obtain ⟨us, hs', ra'⟩ := w' H h s rh gh.2
    obtain ⟨x, y, ex, ey, rfl⟩ := zip_get _ _ _ _ e
    obtain ⟨v, ev, rv⟩ := ra.get ex
    obtain ⟨u, eu, ru⟩ := ra'.get ey
    refine ⟨⟨vs, us, v, u, hs, hs', ev, eu⟩, fun x' H' ⟨T, x1, y1, e1, n, e3, e2, e4⟩ => ?_⟩
    subst e1 e3
    have h1 := e2 vs hs
    have h2 := e4 us hs'
    rw [ev] at h1
    rw [eu] at h2
    cases h1; cases h2
    exact pair_rp n rh rv ru
  · obtain ⟨vs, hs, ra⟩ := w H h s rh gh.1
    obtain ⟨us, hs', ra'⟩ := w' H h s rh gh.2
    exact ⟨vs, us, hs, hs', by rw [← ra.length, ← ra'.length]; exact zip_len _ _⟩
theorem walks_zipT (w : AtT K a ds g H₀) (w' : AtT K b es g' H₀) : Walks K (RZ.ItzT K a b) (zipD ds es) (fun h => g h ∧ g' h) H₀ := by
  refine ⟨fun i d H h s rh gh e => ?_, fun H h s rh gh => ?_⟩
  · obtain ⟨vs, hs, ra⟩ := w H h s rh gh.1
    obtain ⟨us, hs', ra'⟩ := w' H h s rh gh.2
    obtain ⟨x, y, ex, ey, rfl⟩ := zip_get _ _ _ _ e
    obtain ⟨v, ev, rv⟩ := ra.get ex
    obtain ⟨u, eu, ru⟩ := ra'.get ey
    refine ⟨⟨vs, us, v, u, hs, hs', ev, eu⟩, fun x' H' ⟨T, x1, y1, e1, n, e3, e2, e4⟩ => ?_⟩
    subst e1 e3
    have h1 := e2 vs hs
    have h2 := e4 us hs'
    rw [ev] at h1
    rw [eu] at h2
    cases h1; cases h2
    exact pair_rp n rh rv ru
  · obtain ⟨vs, hs, ra⟩ := w H h s rh gh.1
    obtain ⟨us, hs', ra'⟩ := w' H h s rh gh.2
    exact ⟨vs, us, hs, hs', by rw [← ra.length, ← ra'.length]; exact zip_len _ _⟩
theorem walks_range {lo : Int} {n : Nat} : Walks K (Itr lo n) ((List.range n).map fun (i : Nat) => D.int (lo + (i : Int))) (fun _ => True) H₀ := by
  refine ⟨fun i d H h s rh gh e => ?_, fun H h s rh gh => ?_⟩
  · rw [List.getElem?_map, Option.map_eq_some_iff] at e
    obtain ⟨j, e, rfl⟩ := e
    obtain ⟨h1, h2⟩ := List.getElem?_eq_some_iff.mp e
    simp at h1 h2
    subst h2
    refine ⟨h1, fun x H' ⟨e1, e2⟩ => ?_⟩
    subst e1 e2
    exact ⟨.refl _, rh, .int _⟩
  · show n ≤ _
    simp
end
section
variable {X : Cx} {tg : Expr}
/-- a list or a tuple -/
theorem pi_any {l : Expr} {tl : TE} (hl : PE X l tl) : PI X tg l (fun σ H R => tl σ H fun x H1 => ∃ a, x = .ref a ∧ ((∃ xs, SqL X.K H1 a xs) ∧ R (Itl X.K a) H1 ∨ (∃ xs, SqT X.K H1 a xs) ∧ R (Itt X.K a) H1)) := by
  refine ⟨fun pins s σ H R I h => ?_⟩
  refine thn (hl.run pins s σ H _ I h) fun v s1 ⟨x, H1, I1, r1, q1⟩ => ?_
  obtain ⟨a, e, q⟩ := q1
  subst e
  cases r1
  rcases q with ⟨⟨xs, hq⟩, q⟩ | ⟨⟨xs, hq⟩, q⟩
  · obtain ⟨its, rv, p, hz⟩ := I1.list hq
    refine wpAny_pyIter_list p.isList ?_
    refine ⟨s1.heap.objs.size, [s1.heap.objs.size], _, _, H1, rfl, I1.kept (t' := s1.toks) fun b o e => Heap.get?_push_of_some _ e, turn_list a _, ⟨_, Heap.get?_push_size _ rfl, rfl, rfl⟩, fun b hb => ?_, q⟩
    have e : b = s1.heap.objs.size := by simpa using hb
    subst e
    exact I1.fpOk (Nat.le_refl _) (I1.hok.fresh (Nat.le_refl _))
  · obtain ⟨its, rv, p, hz⟩ := I1.tuple hq
    refine wpAny_pyIter_tuple (show s1.heap.IsTuple a its.toArray from p) ?_
    refine ⟨s1.heap.objs.size, [s1.heap.objs.size], _, _, H1, rfl, I1.kept (t' := s1.toks) fun b o e => Heap.get?_push_of_some _ e, turn_tuple a _, ⟨_, Heap.get?_push_size _ rfl, rfl, rfl⟩, fun b hb => ?_, q⟩
    have e : b = s1.heap.objs.size := by simpa using hb
    subst e
    exact I1.fpOk (Nat.le_refl _) (I1.hok.fresh (Nat.le_refl _))
theorem pi_enumAny {e : Expr} {ta : TA} {p pos tpos : Pos} {elts : List Expr} {kk : Nat} (hg : Gl X "enumerate") (hm : X.mg "enumerate" = none) (ha : PA X [e] ta) (hs : starEach [e] X.env = [(false, eval e X.env)] := by rfl) :
    PI X (.Tuple elts kk tpos) (.Call (.Name "enumerate" p) [e] [] pos) (fun σ H R => ta σ H fun vs H1 => ∃ a, vs = [.ref a] ∧ ((∃ xs, SqL X.K H1 a xs) ∧ R (Ite X.K a) H1 ∨ (∃ xs, SqT X.K H1 a xs) ∧ R (IteT X.K a) H1)) := by
  refine ⟨fun pins s σ H R I h => ?_⟩
  refine Call_ (ld_blt I hg hm boot_enumerate (PyProof.Rows.callWith_type1 (thn (ha.run pos pins s σ H _ I h) fun us s1 ⟨vs, H1, I1, r1, q1⟩ => ?_) hs rfl))
  obtain ⟨a, ex, q⟩ := q1
  subst ex
  cases r1 with
  | cons r rr =>
    cases rr
    cases r
    have le : ∀ b ∈ [s1.heap.objs.size + 1, s1.heap.objs.size], s1.heap.objs.size ≤ b := fun b hb => by
      have e' : b = s1.heap.objs.size + 1 ∨ b = s1.heap.objs.size := by simpa using hb
      rcases e' with z | z
      · rw [z]; exact Nat.le_add_right _ _
      · rw [z]; exact Nat.le_refl _
    rcases q with ⟨⟨xs, hq⟩, q⟩ | ⟨⟨xs, hq⟩, q⟩
    · obtain ⟨its, rv, p', hz⟩ := I1.list hq
      refine call_enumerate_list p'.isList fun h' he hit hsz hk => wpAny_pyIter_enum he ?_
      have I2 : Inv X pins σ H1 { s1 with heap := h' } := I1.kept (t' := s1.toks) hk
      exact ⟨s1.heap.objs.size + 1, [s1.heap.objs.size + 1, s1.heap.objs.size], _, _, H1, rfl, I2, turn_enum a (s1.heap.objs.size + 1) s1.heap.objs.size, ⟨⟨.none, he⟩, hit, Nat.succ_ne_self _⟩, fun b hb => I1.fpOk (le b hb) (I1.hok.fresh (le b hb)), q⟩
    · obtain ⟨its, rv, p', hz⟩ := I1.tuple hq
      have hlt : a < s1.heap.objs.size := p'.lt
      refine call_enum_tuple p' fun h' he hit hsz hk => wpAny_pyIter_enum he ?_
      have I2 : Inv X pins σ H1 { s1 with heap := h' } := I1.kept (t' := s1.toks) hk
      exact ⟨s1.heap.objs.size + 1, [s1.heap.objs.size + 1, s1.heap.objs.size], _, _, H1, rfl, I2, turn_enumT a (s1.heap.objs.size + 1) s1.heap.objs.size, ⟨⟨.none, he⟩, hit, Nat.succ_ne_self _, Nat.ne_of_lt hlt, Nat.ne_of_lt (Nat.lt_succ_of_lt hlt)⟩, fun b hb => I1.fpOk (le b hb) (I1.hok.fresh (le b hb)), q⟩
end
end G

end

section
set_option Elab.async false
set_option linter.all false
set_option maxRecDepth 100000
set_option maxHeartbeats 8000000
/-! G7b: dicts in expressions. -/
namespace G
open PySem PySem.Spec PyProof.Rows L2
section
variable {K : PySem.W.Frag} {H₀ : Hp}
theorem walks_keys {d : Addr} {o : Obj} {kvs : List (List Key × D)} {kws : List (List Key × V)} (e : H₀ d = some (.frz o (.dT kws))) (p : kvs.map (·.1) = kws.map (·.1)) : Walks K (Itkt d o kws) (kvs.map fun q => D.tup (q.1.map kD)) (fun _ => True) H₀ := by
  have hl : kvs.length = kws.length := by simpa using congrArg List.length p
  refine ⟨fun i t H h s rh _ et => ?_, fun H h s rh _ => ⟨s.frz _ _ _ e, by rw [List.length_map]; omega⟩⟩
  rw [List.getElem?_map, Option.map_eq_some_iff] at et
  obtain ⟨q, eq, rfl⟩ := et
  have hi : i < kvs.length := (List.getElem?_eq_some_iff.mp eq).1
  refine ⟨⟨s.frz _ _ _ e, by omega⟩, fun x H' ⟨eH, k, v, b, ek, ex, eb⟩ => ?_⟩
  subst eH ex
  have e1 : q.1 = k := by
    have a1 : (kvs.map (·.1))[i]? = some q.1 := by rw [List.getElem?_map, eq]; rfl
    have a2 : (kws.map (·.1))[i]? = some k := by rw [List.getElem?_map, ek]; rfl
    rw [p, a2] at a1
    exact (Option.some.inj a1).symm
  subst e1
  exact ⟨.refl _, rh, .tup eb (rp_keys _)⟩
end
section
variable {X : Cx}
/-- {} -/
theorem dnew_ok {h : AH} {H : Hp} {Q : VK} (rh : RelH X.K h H) (w : ∀ p, h p = none → liftK X.K H Q (.ref p) (hup h p (.dT []))) : ∀ p, H p = none → Q (.ref p) (upd H p (.dT [])) := fun p n => by
  have s : Stab H (upd H p (.dT [])) := .new n
  exact w p (rh.no n) _ _ s (.ref p) (rh.put s trivial (.dT rfl .nil))
theorem dcopy_ok (hu : X.A.units + 3 < cLine) : CallR X (.type "dict") (fun xs H Q => ∃ x d h H₀, xs = [x] ∧ Stab H₀ H ∧ Rp X.K H d x ∧ RelH X.K h H ∧ dcopyW d h (liftK X.K H₀ Q)) := by
  refine CallR.imp (call_dictT hu) fun xs H Q ⟨x, d, h, H₀, ex, st, rx, rh, w⟩ => ?_
  subst ex
  unfold dcopyW at w
  have vx := RpV.of rx rh
  split at w
  · rename_i kvs e
    rw [e] at vx
    obtain ⟨a, kws, rfl, ha, ra⟩ := vx.dt
    refine ⟨a, kws, rfl, ha, ?_, fun p n => ?_⟩
    · have : (kws.map fun p => hashK X.w p.1) = kvs.map fun p => hashK X.w p.1 := by
        have z := congrArg (List.map (hashK X.w)) ra.1
        rw [List.map_map, List.map_map] at z
        exact z.symm
      rw [this]; exact w.1 X.w
    · have s1 : Stab H (upd H p (.dT kws)) := .new n
      exact w.2 p (rh.no n) _ _ (st.trans s1) (.ref p) (rh.put s1 trivial (.dT ra.1 ra.2))
  · exact w.elim
theorem maxd_ok (hc : X.calm = true) : CallRK X (.builtin "max") [("default" : Str)] (fun vs zs H Q => ∃ x d y e h H₀, vs = [x] ∧ zs = [y] ∧ Stab H₀ H ∧ Rp X.K H d x ∧ Rp X.K H e y ∧ RelH X.K h H ∧ maxdW d e h (liftK X.K H₀ Q)) := by
  intro pins s σ H xs zs us ws Q I r r2 ⟨x, d, y, e, h, H₀, e1, e2, st, rx, ry, rh, w⟩
  subst e1 e2
  unfold maxdW at w
  have vx := RpV.of rx rh
  split at w
  · rename_i ds ed
    rw [ed] at vx
    obtain ⟨a, vs, rfl, ha, ra⟩ := vx.lst
    have go : ∀ ns, intsOf ds = some ns → (∀ m, (ns = [] ∧ m = y ∨ ∃ M, m = .int M ∧ M ∈ ns ∧ ∀ z, z ∈ ns → z ≤ M) → Q m H) → wpAny (model X.prog X.w) X.A (call (.builtin "max") us ([("default" : Str)].zip ws)) (EP X pins σ Q) X.xe s := fun ns en q => by
      cases of_intsOf en
      cases ra.ints
      exact cr_maxdflt hc pins s σ H _ _ us ws Q I r r2 ⟨a, ns, y, rfl, rfl, .inl ha, q⟩
    split at w
    · rename_i en
      exact go [] en fun m hm => by
        rcases hm with ⟨_, rfl⟩ | ⟨M, _, hM, _⟩
        · exact w _ _ st ry rh
        · cases hM
    · rename_i n ns en
      exact go _ en fun m hm => by
        rcases hm with ⟨z, _⟩ | ⟨M, rfl, hM, hm⟩
        · cases z
        · rw [← maxI_eq hM hm]; exact w _ _ st (.int _) rh
    · exact w.elim
  · exact w.elim
end
end G

end

section
set_option Elab.async false
set_option linter.all false
set_option maxRecDepth 100000
set_option maxHeartbeats 4000000
/-! G8: the check of the small language's text against the program's. -/
namespace G
open PySem PySem.Spec PyProof.Rows L2
section
def isStarred : Expr → Bool
  | .Starred _ _ => true
  | _ => false
def isSetE : Expr → Bool
  | .Set _ _ _ => true
  | _ => false
def isSliceE : Expr → Bool
  | .Slice _ _ _ _ => true
  | _ => false
def isCompE : Expr → Bool
  | .ListComp _ _ _ _ => true
  | .SetComp _ _ _ _ => true
  | .DictComp _ _ _ _ _ => true
  | _ => false
/-- a test whose truth is that of its value -/
def plainTest : Expr → Bool
  | .UnaryOp .Not _ _ => false
  | .BoolOp _ _ _ => false
  | .IfExp _ _ _ _ => false
  | .Compare _ _ _ _ => false
  | _ => true
/-- no super() -/
def plainBase : Expr → Bool
  | .Call (.Name _ _) [] [] _ => false
  | _ => true
def isTupE : Expr → Bool
  | .Tuple _ _ _ => true
  | _ => false
variable (N : List Str) (P : Prog)
def vis (sc : Scope) (x : Str) : Bool := match sc.names.lookup x with
  | some .local => true
  | some .cell => true
  | some .free => true
  | _ => false
def stor (sc : Scope) (x : Str) : Bool := match sc.names.lookup x with
  | some .local => true
  | some .cell => true
  | _ => false
def glo (sc : Scope) (x : Str) : Bool := match sc.names.lookup x with
  | some .globalImplicit => true
  | _ => false
def nmAt (i : Nat) (x : Str) : Bool := match N[i]? with
  | some y => decide (y = x)
  | none => false
def freeB (sc : Scope) (x : Str) : Bool := glo sc x && decide (x ∈ P.free)
def biName : Bi → Str
  | .len => "len" | .tuple => "tuple" | .list _ => "list" | .sum => "sum" | .all => "all" | .any => "any" | .max1 => "max" | .min1 => "min" | .max2 => "max" | .min2 => "min" | .maxd => "max" | .abs => "abs" | .int => "int" | .bool => "bool" | .str => "str" | .sorted _ => "sorted"
def mtName : Mt → Str
  | .append => "append" | .pop => "pop" | .popAt => "pop" | .extend => "extend" | .reverse => "reverse" | .bits => "bit_length"
def opU : UOp → UnaryOp
  | .neg => .USub | .inv => .Invert
def isZero : IE → Bool
  | .int i => decide (i = 0)
  | _ => false
def kwNames : List Keyword → List Str → Bool
  | [], [] => true
  | q :: qs, k :: ks => (match q.arg with
    | some x => decide (x = k)
    | none => false) && kwNames qs ks
  | _, _ => false
def tgNames (sto : Scope) : List Nat → List Expr → Bool
  | [], [] => true
  | i :: is, .Name x _ :: es => nmAt N i x && stor sto x && tgNames sto is es
  | _, _ => false
def chkTg (sto : Scope) : ITg → Expr → Bool
  | .nm i, .Name x _ => nmAt N i x && stor sto x
  | .tp is, .Tuple es _ _ => tgNames N sto is es
  | _, _ => false
def tgIn : ITg → List Nat → Bool
  | .nm i, vs => decide (i ∈ vs)
  | .tp is, vs => is.all fun i => decide (i ∈ vs)
mutual
def chkE (sc : Scope) : IE → Expr → Bool
  | .var i, e => match e with
    | .Name x _ => nmAt N i x && vis sc x
    | _ => false
  | .int i, e => match e with
    | .Constant (.int j) _ _ => decide (i = j)
    | _ => false
  | .bl b, e => match e with
    | .Constant (.bool c) _ _ => decide (b = c)
    | _ => false
  | .non, e => match e with
    | .Constant .none _ _ => true
    | _ => false
  | .str x, e => match e with
    | .Constant (.str y) _ _ => decide (x = y)
    | _ => false
  | .glb g, e => match e with
    | .Name x _ => glo sc x && (match P.glbs[g]? with
      | some q => decide (q.1 = x)
      | none => false)
    | _ => false
  | .un o a, e => match e with
    | .UnaryOp p f _ => decide (p = opU o) && chkE sc a f
    | _ => false
  | .bin o a b, e => match e with
    | .BinOp f p g _ => decide (p = opB o) && chkE sc a f && chkE sc b g
    | _ => false
  | .cat _ a b, e => match e with
    | .BinOp f p g _ => decide (p = .Add) && chkE sc a f && chkE sc b g
    | _ => false
  | .rep _ a b, e => match e with
    | .BinOp f p g _ => decide (p = .Mult) && chkE sc a f && chkE sc b g
    | _ => false
  | .cmp o a b, e => match e with
    | .Compare f [p] [g] _ => decide (p = opC o) && !isSetE g && chkE sc a f && chkE sc b g
    | _ => false
  | .chn o p a b c, e => match e with
    | .Compare f [q, r] [g, k] _ => decide (q = opC o) && decide (r = opC p) && !isSetE g && !isSetE k && chkE sc a f && chkE sc b g && chkE sc c k
    | _ => false
  | .andv a b, e => match e with
    | .BoolOp .And (f :: g :: r) pos => chkE sc a f && (match r with
      | [] => chkE sc b g
      | _ :: _ => chkE sc b (.BoolOp .And (g :: r) pos))
    | _ => false
  | .orv a b, e => match e with
    | .BoolOp .Or (f :: g :: r) pos => chkE sc a f && (match r with
      | [] => chkE sc b g
      | _ :: _ => chkE sc b (.BoolOp .Or (g :: r) pos))
    | _ => false
  | .notv a, e => match e with
    | .UnaryOp .Not f _ => chkE sc a f
    | _ => false
  | .ite c a b, e => match e with
    | .IfExp t f g _ => chkT sc c t && chkE sc a f && chkE sc b g
    | _ => false
  | .call f as, e => match e with
    | .Call (.Name x _) es [] _ => (match P.fns[f]? with
      | some fd => decide (fd.name = x)
      | none => false) && glo sc x && chkEs sc as es
    | _ => false
  | .callK c as ks, e => match e with
    | .Call (.Name x _) es kws _ => (match P.kwc[c]? with
      | some q => (match P.fns[q.f]? with
        | some fd => decide (fd.name = x)
        | none => false) && decide (es.length = q.n) && kwNames kws q.ks
      | none => false) && glo sc x && chkEs sc as es && chkKs sc ks kws
    | _ => false
  | .bi b as, e => match e with
    | .Call (.Name x _) es [] _ => decide (x = biName b) && freeB P sc x && decide (b ≠ .maxd) && !es.isEmpty && chkEs sc as es
    | _ => false
  | .isi a t, e => match e with
    | .Call (.Name x _) [f, .Name y _] [] _ => decide (x = "isinstance") && decide (y = t.name) && decide (t ≠ .none) && freeB P sc x && freeB P sc y && !isStarred f && chkE sc a f
    | _ => false
  | .ix a i, e => match e with
    | .Subscript f g _ => !isSliceE g && chkE sc a f && chkE sc i g
    | _ => false
  | .sl _ a lo hi, e => match e with
    | .Subscript f (.Slice l u none _) _ => chkE sc a f && chkO sc lo l && chkO sc hi u
    | _ => false
  | .tup es, e => match e with
    | .Tuple fs _ _ => chkEs sc es fs
    | _ => false
  | .lst _ es, e => match e with
    | .List fs _ => chkEs sc es fs
    | _ => false
  | .mt m o as, e => match e with
    | .Call (.Attribute f x apos) es [] cpos => decide (x = mtName m) && plainBase f && (apos.endLine == cpos.line) && decide (es.length < 20) && (decide (m ≠ .bits) || es.isEmpty) && chkE sc o f && chkEs sc as es
    | _ => false
  | .comp _ tg it own c a, e => match e with
    | .ListComp elt [⟨tgE, iterE, ifs, n⟩] scope _ => decide (n = 0) && blkC N sc scope own && chkI sc it iterE tgE && !isSetE iterE && chkTg N scope tg tgE && tgIn tg (own.map (·.2)) &&
      chkTo (relS scope sc) c ifs && chkE (relS scope sc) a elt
    | _ => false
  | .lrng _ _ _, _ => false
  | .fz a, e => chkE sc a e
  | .dnew, e => match e with
    | .Dict [] [] _ => true
    | _ => false
  | .d1 k v, e => match e with
    | .Dict [some f] [g] _ => chkE sc k f && chkE sc v g
    | _ => false
  | .dcopy a, e => match e with
    | .Call (.Name x _) [f] [] _ => decide (x = "dict") && freeB P sc x && !isStarred f && chkE sc a f
    | _ => false
  | .dget d k x, e => match e with
    | .Call (.Attribute f n apos) [g, m] [] cpos => decide (n = "get") && plainBase f && (apos.endLine == cpos.line) && !isStarred g && !isStarred m && chkE sc d f && chkE sc k g && chkE sc x m
    | _ => false
  | .maxd a d, e => match e with
    | .Call (.Name x _) [f] [q] _ => decide (x = "max") && freeB P sc x && kwNames [q] ["default"] && !isStarred f && chkE sc a f && chkE sc d q.value
    | _ => false
  | .comp2 _ tg it own c tg1 it1 vs1 c1 a, e => match e with
    | .ListComp elt [⟨tgE, iterE, ifs, n⟩, ⟨tgE1, iterE1, ifs1, n1⟩] scope _ => decide (n = 0) && decide (n1 = 0) && blkC N sc scope own && chkI sc it iterE tgE && !isSetE iterE && !isSetE iterE1 && chkTg N scope tg tgE && tgIn tg (own.map (·.2)) &&
      chkTo (relS scope sc) c ifs && chkI (relS scope sc) it1 iterE1 tgE1 && chkTg N scope tg1 tgE1 && tgIn tg1 vs1 && (vs1.all fun i => decide (i ∈ own.map (·.2))) && chkTo (relS scope sc) c1 ifs1 && chkE (relS scope sc) a elt
    | _ => false
def chkEs (sc : Scope) : IEs → List Expr → Bool
  | .nil, es => es.isEmpty
  | .cons a as, es => match es with
    | e :: es => !isStarred e && chkE sc a e && chkEs sc as es
    | [] => false
def chkKs (sc : Scope) : IEs → List Keyword → Bool
  | .nil, es => es.isEmpty
  | .cons a as, es => match es with
    | e :: es => chkE sc a e.value && chkKs sc as es
    | [] => false
def chkO (sc : Scope) : IO → Option Expr → Bool
  | .no, o => o.isNone
  | .yes a, o => match o with
    | some e => chkE sc a e
    | none => false
def chkT (sc : Scope) : IT → Expr → Bool
  | .val a, e => plainTest e && chkE sc a e
  | .not a, e => match e with
    | .UnaryOp .Not f _ => chkT sc a f
    | _ => false
  | .and a b, e => match e with
    | .BoolOp .And (f :: g :: r) pos => chkT sc a f && (match r with
      | [] => chkT sc b g
      | _ :: _ => chkT sc b (.BoolOp .And (g :: r) pos))
    | _ => false
  | .or a b, e => match e with
    | .BoolOp .Or (f :: g :: r) pos => chkT sc a f && (match r with
      | [] => chkT sc b g
      | _ :: _ => chkT sc b (.BoolOp .Or (g :: r) pos))
    | _ => false
  | .ite _ _ _, _ => false
  | .cmp o a b, e => match e with
    | .Compare f [p] [g] _ => decide (p = opC o) && !isSetE g && chkE sc a f && chkE sc b g
    | _ => false
  | .chn o p a b c, e => match e with
    | .Compare f [q, r] [g, k] _ => decide (q = opC o) && decide (r = opC p) && !isSetE g && !isSetE k && chkE sc a f && chkE sc b g && chkE sc c k
    | _ => false
def chkTo (sc : Scope) : ITo → List Expr → Bool
  | .no, es => es.isEmpty
  | .yes t, es => match es with
    | [e] => chkT sc t e
    | _ => false
def chkI (sc : Scope) : IIt → Expr → Expr → Bool
  | .seq a, e, _ => chkE sc a e
  | .rng1 a, e, _ => match e with
    | .Call (.Name x _) [f] [] _ => decide (x = "range") && freeB P sc x && !isStarred f && chkE sc a f
    | _ => false
  | .rng2 a b, e, _ => match e with
    | .Call (.Name x _) [f, g] [] _ => decide (x = "range") && freeB P sc x && !isStarred f && !isStarred g && chkE sc a f && chkE sc b g
    | _ => false
  | .enum a, e, tg => match e with
    | .Call (.Name x _) [f] [] _ => decide (x = "enumerate") && freeB P sc x && isTupE tg && !isStarred f && chkE sc a f
    | _ => false
  | .zip _ _, _, _ => false
  | .rev _, _, _ => false
  | .keys a, e, _ => chkE sc a e
end
end
end G

end

section
set_option Elab.async false
set_option linter.all false
set_option maxRecDepth 100000
set_option maxHeartbeats 4000000
/-! G9: checked expressions do what they say. -/
namespace G
open PySem PySem.Spec PyProof.Rows L2

/-! ### the context -/
def XD (K : PySem.W.Frag) (H : Hp) (d : Option Addr) (fs : List (Str × D)) : Prop :=
  (d = none ∧ fs = []) ∨ ∃ dx fv, d = some dx ∧ H dx = some (.xd fv) ∧ fs.map (·.1) = fv.map (·.1) ∧ RpAll K H (fs.map (·.2)) (fv.map (·.2))
def liftX (K : PySem.W.Frag) (E : EK) : XK := fun cls d H' => ∃ C fs h', cls = .ref C ∧ RelH K h' H' ∧ XD K H' d fs ∧ E C fs h'
def spOf (K : PySem.W.Frag) (w : Fn) : Sp := fun vs H Q Ex => ∃ ds h E, RpAll K H ds vs ∧ RelH K h H ∧ (∀ cls d H', liftX K E cls d H' → Ex cls d H') ∧ w ds h (liftK K H Q) E
/-- the i-th def stands in the module and keeps its promise -/
structure FnIn (P : Prog) (k i : Nat) (fd : FD) (prog : Program) (w : World) (K : PySem.W.Frag) (mg : Str → Option Value) (base : Heap) (f : Addr) (fdt : FuncData) : Prop where
  dbg : (fd.name == ("__debug__" : Str)) = false
  gm : mg fd.name = some (.ref f)
  kp : PySem.W.keepIn K (.ref f) = true
  bd : Binds K fdt (fd.N.take fd.np) []
  kw : ∀ q ∈ P.kwc, q.f = i → ∀ (s : Shared) (us ws : List Value), K.In s.heap → us.length = q.n → ws.length = q.ks.length → BindsTo s fdt ⟨us, q.ks.zip ws⟩ ((fd.N.take fd.np).zip (q.perm.filterMap fun i => (us ++ ws)[i]?))
  ok : FnOk prog w K mg base (CX prog w) k f fdt (fd.N.take fd.np) (spOf K (fnW P k i))
structure Ctx (P : Prog) (k : Nat) (E : EK) (sc sto : Scope) (X : Cx) : Prop where
  nd : X.N.Nodup
  dbg : ∀ x ∈ X.N, (x == ("__debug__" : Str)) = false ∧ (x == ("__classdict__" : Str)) = false
  sc : X.env.scope = sc
  sto : ∀ x, stor sto x = true → Loc X.env.scope x ∧ (X.fn x = true ∨ X.env.scope.names.lookup x = some .local)
  calm : X.calm = true
  room : Room k X.A
  free : ∀ x ∈ P.free, X.mg x = none
  fns : ∀ i fd, P.fns[i]? = some fd → ∃ f fdt, FnIn P k i fd X.prog X.w X.K X.mg X.base f fdt
  glbs : ∀ q ∈ P.glbs, (q.1 == ("__debug__" : Str)) = false ∧ ∃ u v, X.mg q.1 = some u ∧ RelV v u ∧ ∀ H, Rp X.K H q.2 v
  own : PassesOwn (model X.prog X.w) X.A X.env X.xe
  pass : ∀ (pins : List (Addr × Obj)) (σ : L2.St) (H : Hp) (s : Shared) (e : Value) (s' : Shared), Inv X pins σ H s → CX X.prog X.w X.stack H s (liftX X.K E) e s' → X.xe e s'

theorem glo_ok {sc : Scope} {x : Str} (h : glo sc x = true) : sc.names.lookup x = some .globalImplicit := by
  unfold glo at h; split at h
  · assumption
  · cases h
theorem vis_ok {sc : Scope} {x : Str} (h : vis sc x = true) : Vis sc x := by
  unfold vis at h; split at h
  · exact .inl (by assumption)
  · exact .inr (.inl (by assumption))
  · exact .inr (.inr (by assumption))
  · cases h
theorem nmAt_ok {N : List Str} {i : Nat} {x : Str} (h : nmAt N i x = true) : N[i]? = some x := by
  unfold nmAt at h; split at h
  · rename_i y e; rw [e, of_decide_eq_true h]
  · cases h
theorem stor_relS {scope sc : Scope} {x : Str} (h : stor scope x = true) : stor (relS scope sc) x = true ∧ ((relS scope sc).names.lookup x = scope.names.lookup x) := by
  unfold stor at h
  split at h
  · rename_i e
    have := lookup_relS_keep (sc := sc) (by decide) e
    exact ⟨by unfold stor; rw [show (relS scope sc).names.lookup x = _ from this], by rw [e]; exact this⟩
  · rename_i e
    have := lookup_relS_keep (sc := sc) (by decide) e
    exact ⟨by unfold stor; rw [show (relS scope sc).names.lookup x = _ from this], by rw [e]; exact this⟩
  · cases h
theorem stor_ok {sc : Scope} {x : Str} (h : stor sc x = true) : Loc sc x := by
  unfold stor at h; split at h
  · exact .inl (by assumption)
  · exact .inr (by assumption)
  · cases h
section
variable {P : Prog} {k : Nat} {E : EK} {sc sto : Scope} {X : Cx}
theorem Ctx.gl (c : Ctx P k E sc sto X) {x : Str} (h : glo sc x = true) : Gl X x := by
  show X.env.scope.names.lookup x = _
  rw [c.sc]; exact glo_ok h
theorem Ctx.hu (c : Ctx P k E sc sto X) : X.A.units + 65 < cLine := by have := c.room.un; omega
theorem Ctx.fr (c : Ctx P k E sc sto X) {x : Str} (h : freeB P sc x = true) : Gl X x ∧ X.mg x = none := by
  unfold freeB at h
  rw [Bool.and_eq_true] at h
  exact ⟨c.gl h.1, c.free x (of_decide_eq_true h.2)⟩
/-- a comprehension's block -/
theorem Ctx.blk (c : Ctx P k E sc sto X) {scope : Scope} (s : Shared) (H : Hp) (C : Addr) (cl : List (Str × Addr)) (fp : List Addr) : Ctx P k noE (relS scope sc) scope (X.blk s H scope (compEnvC scope cl C X.env) fp) := by
  have e : (compEnvC scope cl C X.env).scope = relS scope X.env.scope := rfl
  refine ⟨c.nd, c.dbg, by show (compEnvC scope cl C X.env).scope = _; rw [e, c.sc], fun x hx => ?_, c.calm, c.room, c.free, c.fns, c.glbs, PassesOwn.never, ?_⟩
  · have h1 := stor_relS (sc := X.env.scope) hx
    refine ⟨stor_ok h1.1, ?_⟩
    unfold stor at hx
    show (scope.names.lookup x == some .cell) = true ∨ (relS scope X.env.scope).names.lookup x = some .local
    split at hx
    · rename_i q; exact .inr (h1.2.trans q)
    · rename_i q; exact .inl (by rw [q]; rfl)
    · cases hx
  · rintro pins σ H s e s' I ⟨_, _, _, _, _, _, _, _, _, _, _, _, _, _, _, _, _, _, z⟩
    exact z
/-! ### shapes -/
theorem star_cons {e : Expr} {es : List Expr} {env : Env} (h : isStarred e = false) : starEach (e :: es) env = (false, eval e env) :: starEach es env := by
  cases e <;> first | rfl | cases h
theorem not_true {b : Bool} (h : (!b) = true) : b = false := by cases b <;> simp_all
theorem chkEs_star : ∀ {as : IEs} {es : List Expr}, chkEs X.N P sc as es = true → ∀ (pos : Pos) (env : Env), (backTo pos (starEach es env)).any (·.1) = false ∧ (backTo pos (starEach es env)).all (fun x => !x.1) = true
  | .nil, es, h, pos, env => by
    simp only [chkEs, List.isEmpty_iff] at h
    subst h
    exact ⟨rfl, rfl⟩
  | .cons a as, es, h, pos, env => by
    simp only [chkEs] at h
    split at h
    · rename_i e es
      simp only [Bool.and_eq_true] at h
      obtain ⟨⟨h1, h2⟩, h3⟩ := h
      have ih := chkEs_star h3 pos env
      have e1 : backTo pos (starEach (e :: es) env) = (false, eval e env) :: backTo pos (starEach es env) := by
        rw [star_cons (not_true h1)]; rfl
      rw [e1]
      exact ⟨by simp [ih.1], by simp [ih.2]⟩
    · cases h
theorem plain_base {e : Expr} {a : Str} {env : Env} (h : plainBase e = true) : attributeBase e a env (eval e env) = eval e env := by
  unfold plainBase at h
  split at h
  · cases h
  · rename_i n
    unfold attributeBase
    split
    · rename_i x q1 q2
      exact absurd rfl (n _ _ _)
    · rfl
theorem fold_pure {e : Expr} {env : Env} {x : Value} (h : isSetE e = false) : foldedSetIterable e env x = pure x := by
  cases e <;> first | rfl | cases h
theorem plain_ix {e : Expr} (h : isSliceE e = false) : PlainIx e := by
  intro o i
  cases e <;> first | rfl | cases h
theorem nomark2 {op : CmpOp} {e : Expr} (h : isSetE e = false) : behindInMarks op e = false := by
  cases e <;> first | rfl | cases h
theorem plain_test {e : Expr} {env : Env} (h : plainTest e = true) (whole : Sem Value) : isTrue e env whole = (do let v ← whole; standAt e.pos; holding [v] (truthy v)) := by
  cases e with
  | UnaryOp o a p => cases o <;> first | rfl | cases h
  | BoolOp _ _ _ => cases h
  | IfExp _ _ _ _ => cases h
  | Compare _ _ _ _ => cases h
  | _ => rfl
end
end G

end

section
set_option Elab.async false
set_option linter.all false
set_option maxRecDepth 100000
set_option maxHeartbeats 8000000
/-! G10: checked expressions do what they say. -/
namespace G
open PySem PySem.Spec PyProof.Rows L2
def biVal : Bi → Value
  | .len => .builtin "len" | .tuple => .type "tuple" | .list _ => .type "list" | .sum => .builtin "sum" | .all => .builtin "all" | .any => .builtin "any" | .max1 => .builtin "max" | .min1 => .builtin "min" | .max2 => .builtin "max" | .min2 => .builtin "min" | .maxd => .builtin "max" | .abs => .builtin "abs" | .int => .type "int" | .bool => .type "bool" | .str => .type "str" | .sorted _ => .builtin "sorted"
theorem bi_boot (b : Bi) : bootBuiltins (biName b) = some (biVal b) := by
  cases b <;> first | decide +kernel | (rename_i fz; cases fz <;> decide +kernel)
theorem bi_dbg (b : Bi) : biName b ≠ "__name__" ∧ (biName b == ("__debug__" : Str)) = false := by
  cases b <;> first | exact ⟨by decide +kernel, by decide +kernel⟩ | (rename_i fz; cases fz <;> exact ⟨by decide +kernel, by decide +kernel⟩)
section
variable {P : Prog} {k : Nat} {X : Cx}
theorem bi_call (hc : X.calm = true) (hr : Room k X.A) (b : Bi) (hb : b ≠ .maxd) : CallR X (biVal b) (rA X (biW b)) := by
  cases b with
  | len => exact len_ok
  | tuple => exact tuple_ok
  | list fz => exact list_ok fz
  | sum => exact sum_ok hc
  | all => exact all_ok hc
  | any => exact any_ok hc
  | max1 => exact max1_ok hc
  | min1 => exact min1_ok hc
  | max2 => exact max2_ok hc
  | min2 => exact min2_ok hc
  | maxd => exact absurd rfl hb
  | abs => exact abs_ok
  | int => exact int_ok
  | bool => exact bool_ok
  | str => exact str_ok
  | sorted fz => exact sorted_ok hr fz
/-- f(e, ..), f a built-in function or class -/
theorem pe_callAny {x : Str} {p pos : Pos} {e : Expr} {es : List Expr} {t : TA} {u : Value} {r : List V → Hp → VK → Prop} (hu : (∃ n, u = .builtin n) ∨ ∃ n, u = .type n) (hc : CallR X u r) (hg : Gl X x) (hm : X.mg x = none) (hv : bootBuiltins x = some u) (ha : PA X (e :: es) t) (hn : x ≠ "__name__") (hdb : (x == ("__debug__" : Str)) = false)
    (he : starEach (e :: es) X.env = (false, eval e X.env) :: starEach es X.env) (hpl : (backTo pos (starEach es X.env)).any (·.1) = false) : PE X (.Call (.Name x p) (e :: es) [] pos) (tCB r t) := by
  rcases hu with ⟨n, rfl⟩ | ⟨n, rfl⟩
  · exact pe_callB hc hg hm hv ha hn hdb he hpl
  · exact pe_callTy hc hg hm hv ha hn hdb he hpl
theorem bi_kind (b : Bi) : (∃ n, biVal b = .builtin n) ∨ ∃ n, biVal b = .type n := by
  cases b <;> first | exact .inl ⟨_, rfl⟩ | exact .inr ⟨_, rfl⟩
/-! ### the tests of and, or -/
theorem pw_of {op : PySem.BoolOp} {es : List Expr} {pos : Pos} {t : TT} (h : PT X (.BoolOp op es pos) t) : PW X (.BoolOp op es pos) t := ⟨fun wh pins s σ H Q I w => h.run pins s σ H Q I w⟩
def mt_id : Mt → String
  | .append => "list.append" | .pop => "list.pop" | .popAt => "list.pop" | .extend => "list.extend" | .reverse => "list.reverse" | .bits => ""
theorem keysSome : ∀ {kws : List Keyword} {ks : List Str}, kwNames kws ks = true → ∀ (pos : Pos) (env : Env), (backToKw pos (keywordEach kws env)).all (·.1.isSome) = true ∧ (backToKw pos (keywordEach kws env)).filterMap (·.1) = ks ∧ (backToKw pos (keywordEach kws env)).any (·.1.isNone) = false
  | [], [], _, pos, env => ⟨rfl, rfl, rfl⟩
  | [], _ :: _, h, _, _ => by simp [kwNames] at h
  | _ :: _, [], h, _, _ => by simp [kwNames] at h
  | ⟨a, v, p⟩ :: qs, y :: ks, h, pos, env => by
    simp only [kwNames, Bool.and_eq_true] at h
    obtain ⟨h1, h2⟩ := h
    cases a with
    | none => cases h1
    | some z =>
      have ez : z = y := of_decide_eq_true h1
      subst ez
      obtain ⟨i1, i2, i3⟩ := keysSome h2 pos env
      have e1 : backToKw pos (keywordEach (⟨some z, v, p⟩ :: qs) env) = (some z, do let v ← eval v env; standAt pos; pure v) :: backToKw pos (keywordEach qs env) := rfl
      rw [e1]
      refine ⟨?_, ?_, ?_⟩
      · rw [List.all_cons, i1]; rfl
      · rw [List.filterMap_cons]; show z :: _ = _; rw [i2]
      · rw [List.any_cons, i3]; rfl
theorem RpAll.perm {K : PySem.W.Frag} {H : Hp} {ds : List D} {vs : List V} (r : RpAll K H ds vs) : ∀ perm : List Nat, RpAll K H (perm.filterMap fun i => ds[i]?) (perm.filterMap fun i => vs[i]?)
  | [] => .nil
  | i :: is => by
    have ih := RpAll.perm r is
    rw [List.filterMap_cons, List.filterMap_cons]
    cases e : ds[i]? with
    | none =>
      have : vs[i]? = none := by
        rw [List.getElem?_eq_none_iff] at e ⊢
        rw [← r.length]; exact e
      rw [this]
      exact ih
    | some d =>
      obtain ⟨v, ev, rv⟩ := r.get e
      rw [ev]
      exact .cons rv ih
theorem Vals.perm {vs : List V} {us : List Value} (r : Vals vs us) : ∀ perm : List Nat, Vals (perm.filterMap fun i => vs[i]?) (perm.filterMap fun i => us[i]?)
  | [] => .nil
  | i :: is => by
    have ih := Vals.perm r is
    rw [List.filterMap_cons, List.filterMap_cons]
    cases e : vs[i]? with
    | none =>
      rw [L2.Vals.none_of r e]
      exact ih
    | some d =>
      obtain ⟨v, ev, rv⟩ := L2.Vals.get r e
      rw [ev]
      exact .cons rv ih
theorem zero_len {as : IEs} {N : List Str} {P : Prog} {sc : Scope} (h : chkEs N P sc as [] = true) : as = .nil := by
  cases as with
  | nil => rfl
  | cons a as => simp [chkEs] at h
/-- a call of a def, by position -/
theorem call_ok {E : EK} {sc sto : Scope} (c : Ctx P k E sc sto X) {f : Nat} {fd : FD} (hf : P.fns[f]? = some fd) {p pos : Pos} {es : List Expr} {as : IEs} (hg : glo sc fd.name = true) (hs : chkEs X.N P sc as es = true)
    (ha : PA X es (liftA X.K (Ws P (fnW P k) E as))) : PE X (.Call (.Name fd.name p) es [] pos) (liftE X.K (W P (fnW P k) E (.call f as))) := by
  obtain ⟨fa, fdt, F⟩ := c.fns f fd hf
  have hx : Passes (CX X.prog X.w) X (liftX X.K E) := c.pass
  have imp : ∀ σ H Q, liftE X.K (W P (fnW P k) E (.call f as)) σ H Q → tCall (spOf X.K (fnW P k f)) [] (liftX X.K E) (liftA X.K (Ws P (fnW P k) E as)) σ H Q := fun σ H Q ⟨ρ, h, re, rh, w⟩ => by
    simp only [W] at w
    refine liftA.bind (Ws_mono (fnW_mono P k) E as) re rh w fun ds h' vs H' s re' r rh' q => ?_
    rw [List.append_nil]
    exact ⟨ds, h', E, r, rh', fun _ _ _ z => z, fnW_mono P k _ _ _ _ _ _ q fun d h2 z => liftK.stab s z⟩
  cases es with
  | nil =>
    cases zero_len hs
    refine PE.imp (pe_call0 F.ok c.room (c.gl hg) F.gm F.kp F.bd .nil hx F.dbg) fun σ H Q w => ?_
    have := imp σ H Q w
    obtain ⟨ρ, h, re, rh, w⟩ := this
    simp only [Ws] at w
    exact w [] H (.refl _) .nil rh
  | cons e es =>
    cases as with
    | nil => simp [chkEs] at hs
    | cons a as =>
      simp only [chkEs, Bool.and_eq_true] at hs
      exact PE.imp (pe_call F.ok c.room (c.gl hg) F.gm F.kp F.bd .nil hx ha F.dbg (star_cons (not_true hs.1.1)) (chkEs_star hs.2 pos X.env).1) imp
/-- a call of a def with keywords -/
theorem callK_ok {E : EK} {sc sto : Scope} (c : Ctx P k E sc sto X) {i : Nat} {q : KC} (hq : P.kwc[i]? = some q) {fd : FD} (hf : P.fns[q.f]? = some fd) {p pos : Pos} {es : List Expr} {kws : List Keyword} {as ks : IEs} (hg : glo sc fd.name = true) (hs : chkEs X.N P sc as es = true)
    (hn : es.length = q.n) (hk : kwNames kws q.ks = true) (ha : PA X es (liftA X.K (Ws P (fnW P k) E as))) (hb : PK X kws (liftA X.K (Ws P (fnW P k) E ks))) (hla : ∀ ρ h Q, Ws P (fnW P k) E as ρ h Q → Ws P (fnW P k) E as ρ h fun ds h' => ds.length = q.n ∧ Q ds h')
    (hlk : ∀ ρ h Q, Ws P (fnW P k) E ks ρ h Q → Ws P (fnW P k) E ks ρ h fun ds h' => ds.length = q.ks.length ∧ Q ds h') : PE X (.Call (.Name fd.name p) es kws pos) (liftE X.K (W P (fnW P k) E (.callK i as ks))) := by
  obtain ⟨fa, fdt, F⟩ := c.fns q.f fd hf
  have hx : Passes (CX X.prog X.w) X (liftX X.K E) := c.pass
  obtain ⟨k1, k2, k3⟩ := keysSome hk pos X.env
  refine ⟨fun pins s σ H Q I ⟨ρ, h, re, rh, w⟩ => ?_⟩
  simp only [W, hq] at w
  refine wpAny_Call_Name_kw (ld_glob I (c.gl hg) F.gm ?_ F.dbg)
  -- the two lists, then the def
  have last : ∀ (s2 : Shared) (H2 : Hp) (ds es' : List D) (h2 : AH) (vs zs : List V) (us ws : List Value), Stab H H2 → Inv X pins σ H2 s2 → RpAll X.K H2 ds vs → Vals vs us → RpAll X.K H2 es' zs → Vals zs ws → RelH X.K h2 H2 → ds.length = q.n → es'.length = q.ks.length →
      fnW P k q.f (q.perm.filterMap fun i => (ds ++ es')[i]?) h2 (liftK X.K H Q) E → X.K.In s2.heap ∧ wpAny (model X.prog X.w) X.A (call (.ref fa) us (q.ks.zip ws)) (EP X pins σ Q) X.xe s2 := fun s2 H2 ds es' h2 vs zs us ws st I2 rd rv re' rz rh2 l1 l2 w2 => by
    refine ⟨I2.kIn, ?_⟩
    have r2 := Vals.perm (rv.append rz) q.perm
    have rd2 := RpAll.perm (rd.append re') q.perm
    refine wpAny_call (codeAny_mono (F.ok.run X.A X.stack s2 H2 ⟨us, q.ks.zip ws⟩ _ _ Q (liftX X.K E) c.room I2.env0 (F.kw q (List.mem_of_getElem? hq) rfl s2 us ws I2.kIn (by rw [← rv.length, ← rd.length]; exact l1) (by rw [← rz.length, ← re'.length]; exact l2)) r2 ⟨_, h2, E, rd2, rh2, fun _ _ _ z => z, fnW_mono P k _ _ _ _ _ _ w2 fun d h' z => liftK.stab st z⟩) fun r s' hq' => ?_)
    cases r with
    | error e => exact hx pins σ H2 s2 e s' I2 hq'
    | ok fl =>
      cases fl with
      | ret u => exact I2.after hq'
      | next => exact False.elim hq'
      | brk => exact False.elim hq'
      | cont => exact False.elim hq'
  have w := hla _ _ _ w
  cases es with
  | nil =>
    cases zero_len hs
    simp only [Ws] at w
    obtain ⟨hn0, w⟩ := w
    have w := hlk _ _ _ w
    refine PySem.W.callWith_KW0 (h₀ := X.base) I.ok.mod.kin F.kp k1 ?_ (by show (([] : List (Bool × Sem Value)).any (·.1) || _) = false; rw [k3]; rfl)
    refine thn (hb.run pos pins s σ H (fun zs H2 => ∃ es' h2, Stab H H2 ∧ RpAll X.K H2 es' zs ∧ RelH X.K h2 H2 ∧ es'.length = q.ks.length ∧ fnW P k q.f (q.perm.filterMap fun i => ([] ++ es')[i]?) h2 (liftK X.K H Q) E) I ?_) fun ws s2 ⟨zs, H2, I2, rz, es', h2, st, r', rh2, l2, w2⟩ => ?_
    · exact liftA.bind (Ws_mono (fnW_mono P k) E ks) re rh w fun es' h2 zs H2 st _ r' rh2 z => ⟨es', h2, st, r', rh2, z.1, z.2⟩
    · have := last s2 H2 [] es' h2 [] zs [] ws st I2 .nil .nil r' rz rh2 hn0 l2 w2
      rw [k2]
      exact this
  | cons e es =>
    cases as with
    | nil => simp [chkEs] at hs
    | cons a as =>
      simp only [chkEs, Bool.and_eq_true] at hs
      refine PySem.W.callWith_KW (h₀ := X.base) I.ok.mod.kin F.kp k1 ?_ ?_ (star_cons (not_true hs.1.1))
      · refine thn (ha.run pos pins s σ H (fun vs H1 => ∃ ds h1, Stab H H1 ∧ RpAll X.K H1 ds vs ∧ RelH X.K h1 H1 ∧ ds.length = q.n ∧ Ws P (fnW P k) E ks ρ h1 fun es' h2 => es'.length = q.ks.length ∧ fnW P k q.f (q.perm.filterMap fun i => (ds ++ es')[i]?) h2 (liftK X.K H Q) E) I ?_) fun us s1 ⟨vs, H1, I1, rv, ds, h1, st1, rd, rh1, l1, w1⟩ => ?_
        · exact liftA.bind (Ws_mono (fnW_mono P k) E _) re rh w fun ds h1 vs H1 st _ r' rh1 z => ⟨ds, h1, st, r', rh1, z.1, hlk _ _ _ z.2⟩
        refine thn (hb.run pos pins s1 σ H1 (fun zs H2 => ∃ es' h2, Stab H1 H2 ∧ RpAll X.K H2 es' zs ∧ RelH X.K h2 H2 ∧ es'.length = q.ks.length ∧ fnW P k q.f (q.perm.filterMap fun i => (ds ++ es')[i]?) h2 (liftK X.K H Q) E) I1 ?_) fun ws s2 ⟨zs, H2, I2, rz, es', h2, st, r', rh2, l2, w2⟩ => ?_
        · exact liftA.bind (Ws_mono (fnW_mono P k) E ks) (re.mono st1) rh1 w1 fun es' h2 zs H2 st _ r' rh2 z => ⟨es', h2, st, r', rh2, z.1, z.2⟩
        · have := last s2 H2 ds es' h2 vs zs us ws (st1.trans st) I2 (rd.mono st) rv r' rz rh2 l1 l2 w2
          rw [k2]
          exact this
      · rw [k3]
        have := (chkEs_star hs.2 pos X.env).1
        have e1 : backTo pos (starEach (e :: es) X.env) = (false, eval e X.env) :: backTo pos (starEach es X.env) := by
          rw [star_cons (not_true hs.1.1)]; rfl
        rw [e1]
        simp [this]
end
end G

end

section
set_option Elab.async false
set_option linter.all false
set_option maxRecDepth 100000
set_option maxHeartbeats 8000000
/-! G11: checked expressions do what they say. -/
namespace G
open PySem PySem.Spec PyProof.Rows L2
def IEs.len : IEs → Nat
  | .nil => 0
  | .cons _ es => es.len + 1
section
variable {P : Prog} {Φ : Nat → Fn}
theorem Ws_len (mΦ : MonΦ Φ) {E : EK} : ∀ (as : IEs) (ρ : Env') (h : AH) (Q : List D → AH → Prop), Ws P Φ E as ρ h Q → Ws P Φ E as ρ h fun ds h' => ds.length = as.len ∧ Q ds h'
  | .nil, ρ, h, Q, w => by simp only [Ws] at w ⊢; exact ⟨rfl, w⟩
  | .cons e es, ρ, h, Q, w => by
    simp only [Ws] at w ⊢
    exact W_mono mΦ E e _ _ _ _ w fun d h1 z => Ws_mono mΦ E es _ _ _ _ (Ws_len mΦ es _ _ _ z) fun ds h2 q => ⟨by simp [IEs.len, q.1], q.2⟩
theorem chkEs_len {N : List Str} {sc : Scope} : ∀ {as : IEs} {es : List Expr}, chkEs N P sc as es = true → es.length = as.len
  | .nil, es, h => by simp only [chkEs, List.isEmpty_iff] at h; subst h; rfl
  | .cons a as, es, h => by
    simp only [chkEs] at h
    split at h
    · simp only [Bool.and_eq_true] at h
      simp [IEs.len, chkEs_len h.2]
    · cases h
theorem chkKs_len {N : List Str} {sc : Scope} : ∀ {as : IEs} {es : List Keyword}, chkKs N P sc as es = true → es.length = as.len
  | .nil, es, h => by simp only [chkKs, List.isEmpty_iff] at h; subst h; rfl
  | .cons a as, es, h => by
    simp only [chkKs] at h
    split at h
    · simp only [Bool.and_eq_true] at h
      simp [IEs.len, chkKs_len h.2]
    · cases h
theorem kwNames_len : ∀ {kws : List Keyword} {ks : List Str}, kwNames kws ks = true → kws.length = ks.length
  | [], [], _ => rfl
  | [], _ :: _, h => by simp [kwNames] at h
  | _ :: _, [], h => by simp [kwNames] at h
  | q :: qs, y :: ks, h => by
    simp only [kwNames, Bool.and_eq_true] at h
    simp [kwNames_len h.2]
end
/-! ### targets -/
def gT (K : PySem.W.Frag) : ITg → TG
  | .nm i => gName i
  | .tp is => fun v σ H Q => ∃ a xs, v = .ref a ∧ SqT K H a xs ∧ xs.length = is.length ∧ Q (setAllV is xs σ) H
where
  setAllV : List Nat → List V → L2.St → L2.St
  | i :: is, d :: ds, ρ => setAllV is ds (ρ.set i (some d))
  | _, _, ρ => ρ
section
variable {P : Prog} {k : Nat} {E : EK} {sc sto : Scope} {X : Cx}
theorem pgs_names (c : Ctx P k E sc sto X) : ∀ {is : List Nat} {es : List Expr}, tgNames X.N sto is es = true → PGs X es (fun vs σ H Q => vs.length = is.length ∧ Q (gT.setAllV is vs σ) H) ∧ (assignEach es X.env).length = is.length ∧ (assignEach es X.env).findIdx? (·.1) = none
  | [], [], _ => ⟨⟨fun pins s σ H vs us Q I r ⟨e, h⟩ => pgs_nil.run pins s σ H vs us Q I r ⟨List.length_eq_zero_iff.mp e, by
      have : vs = [] := List.length_eq_zero_iff.mp e
      subst this; exact h⟩⟩, rfl, rfl⟩
  | [], _ :: _, h => by simp [tgNames] at h
  | _ :: _, [], h => by simp [tgNames] at h
  | i :: is, e :: es, h => by
    cases e with
    | Name x p =>
      simp only [tgNames, Bool.and_eq_true] at h
      obtain ⟨⟨h1, h2⟩, h3⟩ := h
      obtain ⟨i1, i2, i3⟩ := pgs_names c h3
      obtain ⟨l1, l2⟩ := c.sto x h2
      have e0 : assignEach (.Name x p :: es) X.env = (false, assign (.Name x p) X.env) :: assignEach es X.env := rfl
      refine ⟨⟨fun pins s σ H vs us Q I r ⟨el, hq⟩ => ?_⟩, by rw [e0, List.length_cons, i2, List.length_cons], ?_⟩
      · cases vs with
        | nil => simp at el
        | cons v vr =>
          refine (pgs_cons (pg_name c.nd (nmAt_ok h1) l1 l2) i1 (by rw [e0]; rfl)).run pins s σ H _ us Q I r ⟨v, vr, rfl, ?_⟩
          exact ⟨by simpa using el, hq⟩
      · rw [e0, List.findIdx?_cons]
        simp [i3]
    | _ => simp [tgNames] at h
theorem pg_ok (c : Ctx P k E sc sto X) {tg : ITg} {e : Expr} (h : chkTg X.N sto tg e = true) : PG X e (gT X.K tg) := by
  cases tg with
  | nm i =>
    cases e with
    | Name x p =>
      simp only [chkTg, Bool.and_eq_true] at h
      obtain ⟨l1, l2⟩ := c.sto _ h.2
      exact pg_name c.nd (nmAt_ok h.1) l1 l2
    | _ => simp [chkTg] at h
  | tp is =>
    cases e with
    | Tuple es n p =>
      simp only [chkTg] at h
      obtain ⟨p1, p2, p3⟩ := pgs_names c h
      refine ⟨fun pins s σ H v u Q I r ⟨a, xs, e, hq, hl, w⟩ => (pg_tup c.calm p1 p2 p3).run pins s σ H v u Q I r ⟨a, xs, e, hq, hl, ⟨hl, w⟩⟩⟩
    | _ => simp [chkTg] at h
theorem setAll_rel {K : PySem.W.Frag} {H : Hp} : ∀ (is : List Nat) {ds : List D} {vs : List V} {ρ : Env'} {σ : L2.St}, RpAll K H ds vs → RelE K H ρ σ → RelE K H (setAll is ds ρ) (gT.setAllV is vs σ)
  | [], ds, vs, ρ, σ, r, re => by simp only [setAll, gT.setAllV]; exact re
  | i :: is, [], vs, ρ, σ, r, re => by cases r; simp only [setAll, gT.setAllV]; exact re
  | i :: is, d :: ds, vs, ρ, σ, r, re => by
    cases r with
    | cons a b => simp only [setAll, gT.setAllV]; exact setAll_rel is b (re.set i a)
/-- a target takes a tree -/
theorem gT_ok {K : PySem.W.Frag} {H : Hp} {tg : ITg} {d : D} {v : V} {ρ : Env'} {σ : L2.St} {kk : Env' → Prop} {Q : L2.St → Hp → Prop} (w : tgW tg d ρ kk) (r : Rp K H d v) (re : RelE K H ρ σ) (h : ∀ ρ' σ', RelE K H ρ' σ' → kk ρ' → Q σ' H) : gT K tg v σ H Q := by
  cases tg with
  | nm i => exact h _ _ (re.set i r) w
  | tp is =>
    unfold tgW at w
    cases d with
    | tup ds =>
      obtain ⟨a, vs, rfl, ha, ra⟩ := r.tup_inv
      exact ⟨a, vs, rfl, sq ha, by rw [← ra.length]; exact w.1, h _ _ (setAll_rel is ra re) w.2⟩
    | _ => exact w.elim
theorem wipe_set (σ : L2.St) : ∀ (vs : List Nat) (i : Nat) (x : Option V), i ∈ vs → wipe (σ.set i x) vs = wipe σ vs
  | [], _, _, h => by simp at h
  | v :: vs, i, x, h => by
    by_cases e : i ∈ vs
    · simp only [wipe, wipe_set σ vs i x e]
    · have e' : i = v := by
        rcases List.mem_cons.mp h with h | h
        · exact h
        · exact absurd h e
      subst e'
      have : ∀ (us : List Nat), i ∉ us → wipe (σ.set i x) us = (wipe σ us).set i x := by
        intro us
        induction us with
        | nil => intro _; rfl
        | cons u us ih =>
          intro hu
          simp only [List.mem_cons, not_or] at hu
          simp only [wipe, ih hu.2]
          exact List.set_comm _ _ hu.1
      simp only [wipe, this vs e, List.set_set]
/-- the block's own names alone change -/
theorem gT_wipe {K : PySem.W.Frag} {H : Hp} {tg : ITg} {vs : List Nat} {σ0 : L2.St} : ∀ {v : V} {Q : L2.St → Hp → Prop}, tgIn tg vs = true → gT K tg v (wipe σ0 vs) H Q → gT K tg v (wipe σ0 vs) H fun σ2 H2 => wipe σ2 vs = wipe σ0 vs ∧ Q σ2 H2 := by
  have ww : ∀ us : List Nat, wipe (wipe σ0 us) us = wipe σ0 us := by
    intro us
    induction us with
    | nil => rfl
    | cons u us ih =>
      have : ∀ (zs : List Nat) (τ : L2.St) , wipe (τ.set u none) zs = (wipe τ zs).set u none := by
        intro zs τ
        induction zs with
        | nil => rfl
        | cons z zs ihz =>
          simp only [wipe, ihz]
          by_cases e : u = z
          · subst e; simp
          · exact List.set_comm _ _ e
      simp only [wipe, this, ih, List.set_set]
  intro v Q hin w
  cases tg with
  | nm i =>
    have hi : i ∈ vs := by simpa [tgIn] using hin
    exact ⟨by rw [wipe_set _ _ _ _ hi, ww], w⟩
  | tp is =>
    obtain ⟨a, xs, e, ha, hl, q⟩ := w
    refine ⟨a, xs, e, ha, hl, ?_, q⟩
    have hall : ∀ i ∈ is, i ∈ vs := by simpa [tgIn] using hin
    have : ∀ (js : List Nat) (ys : List V) (τ : L2.St), (∀ i ∈ js, i ∈ vs) → wipe (gT.setAllV js ys τ) vs = wipe τ vs := by
      intro js
      induction js with
      | nil => intro ys τ _; simp only [gT.setAllV]
      | cons j js ih =>
        intro ys τ hj
        cases ys with
        | nil => simp only [gT.setAllV]
        | cons y ys =>
          simp only [gT.setAllV]
          rw [ih _ _ fun i hi => hj i (List.mem_cons_of_mem _ hi), wipe_set _ _ _ _ (hj j List.mem_cons_self)]
    rw [this _ _ _ hall, ww]
end
end G

end

section
set_option Elab.async false
set_option linter.all false
set_option maxRecDepth 100000
set_option maxHeartbeats 8000000
/-! G12: comprehensions; checked expressions do what they say. -/
namespace G
open PySem PySem.Spec PyProof.Rows L2
section
variable {K : PySem.W.Frag}
theorem drop_cons {α : Type} {l : List α} {i : Nat} {x : α} {xs : List α} (h : l.drop i = x :: xs) : l[i]? = some x ∧ l.drop (i + 1) = xs ∧ i < l.length := by
  have h1 : l[i]? = some x := by
    have := congrArg List.head? h
    rw [List.head?_drop] at this
    simpa using this
  refine ⟨h1, ?_, (List.getElem?_eq_some_iff.mp h1).1⟩
  have := congrArg List.tail h
  rw [List.tail_drop] at this
  simpa using this
theorem comp_read {fz : Bool} {tg : ITg} {w : WI} (mw : ∀ ρ h R R', w ρ h R → (∀ ds g h', R ds g h' → R' ds g h') → w ρ h R') {c : WT} (mc : MonT c) {e : WE} (me : MonE e) {vs : List Nat} (hin : tgIn tg vs = true) {σ : L2.St} {H : Hp} {Q : VK} {ρ : Env'} {h : AH} (re : RelE K H ρ σ) (rh : RelH K h H)
    (hw : w ρ h fun items g h1 => ∀ p, h1 p = none → compW tg g c e vs ρ p (compEnd fz p (liftK K H Q)) items [] (hup h1 p (.lst []))) : tLc (liftI K w) (gT K tg) (liftT K c) (liftE K e) vs σ H (fzQ Q) := by
  refine ⟨ρ, h, re, rh, mw _ _ _ _ hw fun items g h1 z J H1 st rh1 wk p hn => ?_⟩
  refine ⟨fun i m H2 => m = items.length - i ∧ i ≤ items.length ∧ ∃ acc h2, Stab H1 H2 ∧ RelH K h2 H2 ∧ compW tg g c e vs ρ p (compEnd fz p (liftK K H Q)) (items.drop i) acc h2, ⟨items.length, by simp, Nat.zero_le _, [], _, .new hn, rh1.put (.new hn) trivial (.lst .nil), z p (rh1.no hn)⟩, ?_⟩
  rintro i m H2 ⟨rfl, hi, acc, h2, s2, rh2, q⟩
  cases hd : items.drop i with
  | nil =>
    rw [hd] at q
    obtain ⟨q1, q2, q3⟩ := q
    have hil : i = items.length := by
      have := congrArg List.length hd
      simp at this
      omega
    subst hil
    refine .inl ⟨wk.stop H2 h2 s2 rh2 q1, ?_⟩
    cases fz with
    | false => exact .inl (q3 _ _ (st.trans s2) (.ref p) rh2)
    | true =>
      obtain ⟨u, eu, mu, fr⟩ := rh2.freeze q2
      exact .inr ⟨p, u, rfl, eu, mu, fun od => q3 _ _ ((st.trans s2).trans (fr od).1) (fr od).2.1 (fr od).2.2⟩
  | cons x xs =>
    rw [hd] at q
    obtain ⟨q1, q2⟩ := q
    obtain ⟨hx, hd', hlt⟩ := drop_cons hd
    obtain ⟨go, yl⟩ := wk.go i x H2 h2 s2 rh2 q1 hx
    refine .inr ⟨go, fun H3 => ∃ acc h3, Stab H1 H3 ∧ RelH K h3 H3 ∧ compW tg g c e vs ρ p (compEnd fz p (liftK K H Q)) xs acc h3, fun H3 ⟨acc3, h3, a1, a2, a3⟩ => ⟨items.length - (i + 1), by omega, rfl, hlt, acc3, h3, a1, a2, by rw [hd']; exact a3⟩, fun y H3 yy => ?_⟩
    obtain ⟨s3, rh3, ry⟩ := yl y H3 yy
    refine gT_wipe hin (gT_ok q2 ry ((re.mono ((st.trans s2).trans s3)).wipe vs) fun ρ' σ' re' kk => ?_)
    refine liftT.bind mc re' (rh3 : RelH K h2 H3) kk fun b h4 H4 s4 re4 rh4 kb => ?_
    cases b with
    | false => exact ⟨acc, h4, (s2.trans s3).trans s4, rh4, kb⟩
    | true =>
      show liftE K e _ _ _
      refine liftE.bind me re4 rh4 kb fun d h5 v H5 s5 re5 rv5 rh5 kd => ?_
      obtain ⟨e5, l5, z5⟩ := kd
      obtain ⟨ws, ew, rw5⟩ := rh5.lst e5
      have s6 : Stab H5 (upd H5 p (.lst (ws ++ [v]))) := .lstUpd ew
      exact ⟨ws, ew, by rw [← rw5.length]; exact l5, acc ++ [d], _, (((s2.trans s3).trans s4).trans s5).trans s6, rh5.put s6 trivial (.lst (rw5.append (.one rv5))), z5⟩
theorem comp2_read {fz : Bool} {tg tg1 : ITg} {w w1 : WI} (mw : ∀ ρ h R R', w ρ h R → (∀ ds g h', R ds g h' → R' ds g h') → w ρ h R') {c c1 : WT} (mc : MonT c) (mw1 : ∀ ρ h R R', w1 ρ h R → (∀ ds g h', R ds g h' → R' ds g h') → w1 ρ h R') (mc1 : MonT c1) {e : WE} (me : MonE e) {vs vs1 : List Nat} (hin : tgIn tg vs = true) (hin1 : tgIn tg1 vs1 = true) {σ : L2.St} {H : Hp} {Q : VK} {ρ : Env'} {h : AH} (re : RelE K H ρ σ) (rh : RelH K h H)
    (hw : w ρ h fun items g h1 => ∀ p, h1 p = none → comp2W tg g c tg1 w1 c1 e vs vs1 ρ p (compEnd fz p (liftK K H Q)) items [] (hup h1 p (.lst []))) : tLc2 (liftI K w) (gT K tg) (liftT K c) (liftI K w1) (gT K tg1) (liftT K c1) (liftE K e) vs vs1 σ H (fzQ Q) := by
  refine ⟨ρ, h, re, rh, mw _ _ _ _ hw fun items g h1 z J H1 st rh1 wk p hn => ?_⟩
  refine ⟨fun i m H2 => m = items.length - i ∧ i ≤ items.length ∧ ∃ acc h2, Stab H1 H2 ∧ RelH K h2 H2 ∧ comp2W tg g c tg1 w1 c1 e vs vs1 ρ p (compEnd fz p (liftK K H Q)) (items.drop i) acc h2, ⟨items.length, by simp, Nat.zero_le _, [], _, .new hn, rh1.put (.new hn) trivial (.lst .nil), z p (rh1.no hn)⟩, ?_⟩
  rintro i m H2 ⟨rfl, hi, acc, h2, s2, rh2, q⟩
  cases hd : items.drop i with
  | nil =>
    rw [hd] at q
    obtain ⟨q1, q2, q3⟩ := q
    have hil : i = items.length := by
      have := congrArg List.length hd
      simp at this
      omega
    subst hil
    refine .inl ⟨wk.stop H2 h2 s2 rh2 q1, ?_⟩
    cases fz with
    | false => exact .inl (q3 _ _ (st.trans s2) (.ref p) rh2)
    | true =>
      obtain ⟨u, eu, mu, fr⟩ := rh2.freeze q2
      exact .inr ⟨p, u, rfl, eu, mu, fun od => q3 _ _ ((st.trans s2).trans (fr od).1) (fr od).2.1 (fr od).2.2⟩
  | cons x xs =>
    rw [hd] at q
    obtain ⟨q1, q2⟩ := q
    obtain ⟨hx, hd', hlt⟩ := drop_cons hd
    obtain ⟨go, yl⟩ := wk.go i x H2 h2 s2 rh2 q1 hx
    refine .inr ⟨go, fun H3 => ∃ acc h3, Stab H1 H3 ∧ RelH K h3 H3 ∧ comp2W tg g c tg1 w1 c1 e vs vs1 ρ p (compEnd fz p (liftK K H Q)) xs acc h3, fun H3 ⟨acc3, h3, a1, a2, a3⟩ => ⟨items.length - (i + 1), by omega, rfl, hlt, acc3, h3, a1, a2, by rw [hd']; exact a3⟩, fun y H3 yy => ?_⟩
    obtain ⟨s3, rh3, ry⟩ := yl y H3 yy
    refine gT_wipe hin (gT_ok q2 ry ((re.mono ((st.trans s2).trans s3)).wipe vs) fun ρ' σ' re' kk => ?_)
    refine liftT.bind mc re' (rh3 : RelH K h2 H3) kk fun b h4 H4 s4 re4 rh4 kb => ?_
    cases b with
    | false => exact ⟨acc, h4, (s2.trans s3).trans s4, rh4, kb⟩
    | true =>
      show liftI K w1 _ _ _
      have s14 := (s2.trans s3).trans s4
      refine ⟨ρ', h4, re4, rh4, mw1 _ _ _ _ kb fun items1 g1 h5 z1 J1 H5 st5 rh5 wk1 => ?_⟩
      refine ⟨fun i1 m1 H6 => m1 = items1.length - i1 ∧ i1 ≤ items1.length ∧ ∃ acc h6, Stab H5 H6 ∧ RelH K h6 H6 ∧ compW tg1 g1 c1 e vs1 ρ' p (comp2W tg g c tg1 w1 c1 e vs vs1 ρ p (compEnd fz p (liftK K H Q)) xs) (items1.drop i1) acc h6, ⟨items1.length, by simp, Nat.zero_le _, acc, h5, .refl _, rh5, z1⟩, ?_⟩
      rintro i1 m1 H6 ⟨rfl, hi1, acc6, h6, s6, rh6, q6⟩
      cases hd1 : items1.drop i1 with
      | nil =>
        rw [hd1] at q6
        have hil : i1 = items1.length := by
          have := congrArg List.length hd1
          simp at this
          omega
        subst hil
        exact .inl ⟨wk1.stop H6 h6 s6 rh6 q6.1, acc6, h6, (s14.trans st5).trans s6, rh6, q6.2.2⟩
      | cons x1 xs1 =>
        rw [hd1] at q6
        obtain ⟨q61, q62⟩ := q6
        obtain ⟨hx1, hd1', hlt1⟩ := drop_cons hd1
        obtain ⟨go1, yl1⟩ := wk1.go i1 x1 H6 h6 s6 rh6 q61 hx1
        refine .inr ⟨go1, fun H7 => ∃ acc h7, Stab H5 H7 ∧ RelH K h7 H7 ∧ compW tg1 g1 c1 e vs1 ρ' p (comp2W tg g c tg1 w1 c1 e vs vs1 ρ p (compEnd fz p (liftK K H Q)) xs) xs1 acc h7, fun H7 ⟨acc7, h7, a1, a2, a3⟩ => ⟨items1.length - (i1 + 1), by omega, rfl, hlt1, acc7, h7, a1, a2, by rw [hd1']; exact a3⟩, fun y1 H7 yy1 => ?_⟩
        obtain ⟨s7, rh7, ry1⟩ := yl1 y1 H7 yy1
        refine gT_wipe hin1 (gT_ok q62 ry1 ((re4.mono ((st5.trans s6).trans s7)).wipe vs1) fun ρ8 σ8 re8 k8 => ?_)
        refine liftT.bind mc1 re8 (rh7 : RelH K h6 H7) k8 fun b1 h9 H9 s9 re9 rh9 kb1 => ?_
        cases b1 with
        | false => exact ⟨acc6, h9, (s6.trans s7).trans s9, rh9, kb1⟩
        | true =>
          show liftE K e _ _ _
          refine liftE.bind me re9 rh9 kb1 fun d h10 v H10 s10 re10 rv10 rh10 kd => ?_
          obtain ⟨e10, l10, z10⟩ := kd
          obtain ⟨ws, ew, rw10⟩ := rh10.lst e10
          have s11 : Stab H10 (upd H10 p (.lst (ws ++ [v]))) := .lstUpd ew
          exact ⟨ws, ew, by rw [← rw10.length]; exact l10, acc6 ++ [d], _, (((s6.trans s7).trans s9).trans s10).trans s11, rh10.put s11 trivial (.lst (rw10.append (.one rv10))), z10⟩
theorem comp_noFz {tg : ITg} {w : WI} (mw : ∀ ρ h R R', w ρ h R → (∀ ds g h', R ds g h' → R' ds g h') → w ρ h R') {c : WT} (mc : MonT c) {e : WE} (me : MonE e) {vs : List Nat} (hin : tgIn tg vs = true) {σ : L2.St} {H : Hp} {Q : VK} {ρ : Env'} {h : AH} (re : RelE K H ρ σ) (rh : RelH K h H)
    (hw : w ρ h fun items g h1 => ∀ p, h1 p = none → compW tg g c e vs ρ p (compEnd false p (liftK K H Q)) items [] (hup h1 p (.lst []))) : tLc (liftI K w) (gT K tg) (liftT K c) (liftE K e) vs σ H Q := by
  refine ⟨ρ, h, re, rh, mw _ _ _ _ hw fun items g h1 z J H1 st rh1 wk p hn => ?_⟩
  refine ⟨fun i m H2 => m = items.length - i ∧ i ≤ items.length ∧ ∃ acc h2, Stab H1 H2 ∧ RelH K h2 H2 ∧ compW tg g c e vs ρ p (compEnd false p (liftK K H Q)) (items.drop i) acc h2, ⟨items.length, by simp, Nat.zero_le _, [], _, .new hn, rh1.put (.new hn) trivial (.lst .nil), z p (rh1.no hn)⟩, ?_⟩
  rintro i m H2 ⟨rfl, hi, acc, h2, s2, rh2, q⟩
  cases hd : items.drop i with
  | nil =>
    rw [hd] at q
    obtain ⟨q1, q2, q3⟩ := q
    have hil : i = items.length := by
      have := congrArg List.length hd
      simp at this
      omega
    subst hil
    exact .inl ⟨wk.stop H2 h2 s2 rh2 q1, q3 _ _ (st.trans s2) (.ref p) rh2⟩
  | cons x xs =>
    rw [hd] at q
    obtain ⟨q1, q2⟩ := q
    obtain ⟨hx, hd', hlt⟩ := drop_cons hd
    obtain ⟨go, yl⟩ := wk.go i x H2 h2 s2 rh2 q1 hx
    refine .inr ⟨go, fun H3 => ∃ acc h3, Stab H1 H3 ∧ RelH K h3 H3 ∧ compW tg g c e vs ρ p (compEnd false p (liftK K H Q)) xs acc h3, fun H3 ⟨acc3, h3, a1, a2, a3⟩ => ⟨items.length - (i + 1), by omega, rfl, hlt, acc3, h3, a1, a2, by rw [hd']; exact a3⟩, fun y H3 yy => ?_⟩
    obtain ⟨s3, rh3, ry⟩ := yl y H3 yy
    refine gT_wipe hin (gT_ok q2 ry ((re.mono ((st.trans s2).trans s3)).wipe vs) fun ρ' σ' re' kk => ?_)
    refine liftT.bind mc re' (rh3 : RelH K h2 H3) kk fun b h4 H4 s4 re4 rh4 kb => ?_
    cases b with
    | false => exact ⟨acc, h4, (s2.trans s3).trans s4, rh4, kb⟩
    | true =>
      show liftE K e _ _ _
      refine liftE.bind me re4 rh4 kb fun d h5 v H5 s5 re5 rv5 rh5 kd => ?_
      obtain ⟨e5, l5, z5⟩ := kd
      obtain ⟨ws, ew, rw5⟩ := rh5.lst e5
      have s6 : Stab H5 (upd H5 p (.lst (ws ++ [v]))) := .lstUpd ew
      exact ⟨ws, ew, by rw [← rw5.length]; exact l5, acc ++ [d], _, (((s2.trans s3).trans s4).trans s5).trans s6, rh5.put s6 trivial (.lst (rw5.append (.one rv5))), z5⟩
theorem PO.imp {X : Cx} {o : Option Expr} {t t' : TO} (h : PO X o t) (i : ∀ σ H Q, t' σ H Q → t σ H Q) : PO X o t' := ⟨fun pins s σ H Q I w => h.run pins s σ H Q I (i _ _ _ w)⟩
theorem PTs.imp {X : Cx} {ifs : List Expr} {t t' : TT} (h : PTs X ifs t) (i : ∀ σ H Q, t' σ H Q → t σ H Q) : PTs X ifs t' := ⟨fun pins s σ H Q I w => h.run pins s σ H Q I (i _ _ _ w)⟩
end
section
variable {P : Prog} {k : Nat}
theorem last2 {o p : CmpOp} {g k : Expr} (h : isSetE k = false) : lastMarks [o, p] [g, k] = false := nomark2 h
theorem mt_meth (X : Cx) (m : Mt) (hm : m ≠ .bits) : ∃ id, Slot "list" (mtName m) id ∧ typeOf (.builtin id) = pure (.type "method_descriptor") ∧ MtR X id (rM X (mtW m)) := by
  cases m with
  | append => exact ⟨_, PySem.F.slot_list_append, PySem.F.type_list_append, append_ok⟩
  | pop => exact ⟨_, PySem.F.slot_list_pop, PySem.F.type_list_pop, pop_ok⟩
  | popAt => exact ⟨_, PySem.F.slot_list_pop, PySem.F.type_list_pop, popAt_ok⟩
  | extend => exact ⟨_, PySem.F.slot_list_extend, PySem.F.type_list_extend, extend_ok⟩
  | reverse => exact ⟨_, PySem.F.slot_list_reverse, PySem.F.type_list_reverse, reverse_ok⟩
  | bits => exact absurd rfl hm
theorem mtAt_ty {K : PySem.W.Frag} {m : Mt} {d : D} {h : AH} {H : Hp} {x : V} (hm : m ≠ .bits) (a : mtAt m d h) (r : Rp K H d x) (rh : RelH K h H) : tyV K "list" x H := by
  have z : ∃ a ds, d = .ref a ∧ h a = some (.lst ds) := by
    cases m <;> first | exact a | exact absurd rfl hm
  obtain ⟨a, ds, rfl, e⟩ := z
  cases r.ref_inv
  obtain ⟨vs, ev, _⟩ := rh.lst e
  exact .inl ⟨rfl, vs, .inl (.inl ev)⟩
theorem few_ok {as : IEs} {es : List Expr} {X : Cx} {P : Prog} {sc : Scope} (h : chkEs X.N P sc as es = true) (hl : es.length < 20) (pos : Pos) (env : Env) : ((backTo pos (starEach es env)).all (fun x => !x.1) && (backToKw pos (keywordEach [] env)).all (fun x => x.1.isSome)
      && decide (es.length + ([] : List Keyword).length + (if ([] : List Keyword).isEmpty then 0 else 1) < 30)) = true := by
  rw [(chkEs_star h pos env).2]
  show (true && true && decide (es.length + 0 + 0 < 30)) = true
  rw [decide_eq_true (by omega)]
  rfl
theorem tru_test {X : Cx} {a : Expr} {ta : TE} {r : V → Hp → (Bool → Hp → Prop) → Prop} (ha : PE X a ta) (hr : TruR X r) (he : ∀ whole, isTrue a X.env whole = (do let v ← whole; standAt a.pos; holding [v] (truthy v))) :
    PT X a (fun σ H Q => ta σ H fun x H' => r x H' Q) :=
  ⟨fun pins s σ H Q I h => isTrue_plain (thn (ha.run pins s σ H _ I h) fun v s1 ⟨x, H1, I1, r1, q1⟩ => hr pins s1 σ H1 x v Q I1 r1 q1) (he _)⟩
theorem tru_tree {X : Cx} : TruR X (fun x H Q => ∃ d, RpV X.K H d x ∧ match d with
    | .bl b => Q b H
    | .int i => Q (i != 0) H
    | .lst ds => Q (!ds.isEmpty) H
    | .tup ds => Q (!ds.isEmpty) H
    | .non => Q false H
    | .str x => x.length ≤ sizeLine ∧ Q (x.length != 0) H
    | _ => False) := by
  intro pins s σ H x v Q I rx h
  obtain ⟨d, rv, q⟩ := h
  have hl := L2.line63
  have hs : sizeLine = 16777216 := sizeLine_eq
  have em : ∀ {ds : List D} {xs : List V}, RpAll X.K H ds xs → ds.isEmpty = xs.isEmpty := fun r => by
    cases r <;> rfl
  cases d with
  | bl b => cases rv.bl; cases rx; exact wpAny_truthy_bool ⟨H, I, q⟩
  | int i => cases rv.int; obtain ⟨t, rfl⟩ := rx; exact PySem.P.truthy_int ⟨H, I, q⟩
  | non => cases rv.non; cases rx; exact truthy_none ⟨H, I, q⟩
  | str y =>
    cases rv.str
    obtain ⟨t, rfl⟩ := rx
    refine PySem.P.truthy_str (by omega) ⟨H, I.tok _, ?_⟩
    have e : ((y.length : Int) != 0) = (y.length != 0) := by
      cases hy : y.length with
      | zero => rfl
      | succ n => simp; omega
    rw [e]; exact q.2
  | lst ds =>
    obtain ⟨a, vs, rfl, ha, ra⟩ := rv.lst
    cases rx
    obtain ⟨its, r, pl, hz⟩ := I.list (.inl ha)
    have hlen := r.length
    refine wpAny_truthy_list pl.isList (by simp only [List.size_toArray]; omega) ⟨H, I.tok _, ?_⟩
    rw [isEmpty_of r, ← em ra]; exact q
  | tup ds =>
    obtain ⟨a, vs, rfl, ha, ra⟩ := rv.tup
    cases rx
    obtain ⟨its, r, pl, hz⟩ := I.tuple (sq ha)
    have hlen := r.length
    refine truthy_tuple pl (by simp only [List.size_toArray]; omega) ⟨H, I.tok _, ?_⟩
    rw [isEmpty_of r, ← em ra]; exact q
  | ref _ => exact q.elim
  | ty _ => exact q.elim
  | dK _ => exact q.elim
  | dT _ => exact q.elim
  | obj _ _ => exact q.elim
mutual
theorem sE : ∀ (ie : IE) {X : Cx} {E : EK} {sc sto : Scope} (c : Ctx P k E sc sto X) {e : Expr}, chkE X.N P sc ie e = true → PE X e (liftE X.K (W P (fnW P k) E ie))
  | .var i, X, E, sc, sto, c, e, h => by
    simp only [chkE] at h
    split at h <;> first | cases h | skip
    rename_i x p
    simp only [Bool.and_eq_true] at h
    have hN := nmAt_ok h.1
    have hd := c.dbg x (List.mem_of_getElem? hN)
    refine PE.imp (pe_var hN (by rw [c.sc]; exact vis_ok h.2) hd.1 hd.2) fun σ H Q ⟨ρ, hh, re, rh, w⟩ => ?_
    simp only [W] at w
    split at w <;> first | exact w.elim | skip
    rename_i d ed
    obtain ⟨v, ev, rv⟩ := re.get _ _ ed
    exact ⟨v, ev, w v H (.refl _) rv rh⟩
  | .int i, X, E, sc, sto, c, e, h => by
    simp only [chkE] at h
    split at h <;> first | cases h | skip
    cases of_decide_eq_true h
    exact PE.imp pe_int fun σ H Q ⟨ρ, hh, re, rh, w⟩ => by simp only [W] at w; exact w _ _ (.refl _) (.int _) rh
  | .bl b, X, E, sc, sto, c, e, h => by
    simp only [chkE] at h
    split at h <;> first | cases h | skip
    cases of_decide_eq_true h
    exact PE.imp pe_bl fun σ H Q ⟨ρ, hh, re, rh, w⟩ => by simp only [W] at w; exact w _ _ (.refl _) (.bl _) rh
  | .non, X, E, sc, sto, c, e, h => by
    simp only [chkE] at h
    split at h <;> first | cases h | skip
    exact PE.imp pe_non fun σ H Q ⟨ρ, hh, re, rh, w⟩ => by simp only [W] at w; exact w _ _ (.refl _) .non rh
  | .str x, X, E, sc, sto, c, e, h => by
    simp only [chkE] at h
    split at h <;> first | cases h | skip
    cases of_decide_eq_true h
    exact PE.imp pe_str fun σ H Q ⟨ρ, hh, re, rh, w⟩ => by simp only [W] at w; exact w _ _ (.refl _) (.str _) rh
  | .glb g, X, E, sc, sto, c, e, h => by
    simp only [chkE] at h
    split at h <;> first | cases h | skip
    rename_i x p
    simp only [Bool.and_eq_true] at h
    obtain ⟨h1, h2⟩ := h
    split at h2 <;> first | cases h2 | skip
    rename_i q eq
    cases of_decide_eq_true h2
    obtain ⟨hd, u, v, gm, rv, rd⟩ := c.glbs q (List.mem_of_getElem? eq)
    refine PE.imp (pe_glob (c.gl h1) gm rv hd) fun σ H Q ⟨ρ, hh, re, rh, w⟩ => ?_
    simp only [W, eq] at w
    exact w _ _ (.refl _) (rd H) rh
  | .un o a, X, E, sc, sto, c, e, h => by
    simp only [chkE] at h
    split at h <;> first | cases h | skip
    simp only [Bool.and_eq_true] at h
    obtain ⟨h1, h2⟩ := h
    have hp := of_decide_eq_true h1
    subst hp
    have ih := sE a c h2
    cases o with
    | neg =>
      refine PE.imp (pe_un un_neg ih) fun σ H Q ⟨ρ, hh, re, rh, w⟩ => ?_
      simp only [W] at w
      refine liftE.bind (W_mono (fnW_mono P k) E a) re rh w fun d h' v H' s re' r rh' q => ?_
      split at q <;> first | exact q.elim | (rename_i z _; cases z; done) | skip
      all_goals first | contradiction | skip
      cases r.int_inv
      exact ⟨_, rfl, q _ _ s (.int _) rh'⟩
    | inv =>
      refine PE.imp (pe_un un_inv ih) fun σ H Q ⟨ρ, hh, re, rh, w⟩ => ?_
      simp only [W] at w
      refine liftE.bind (W_mono (fnW_mono P k) E a) re rh w fun d h' v H' s re' r rh' q => ?_
      split at q <;> first | exact q.elim | (rename_i z _; cases z; done) | skip
      all_goals first | contradiction | skip
      cases r.int_inv
      exact ⟨_, rfl, q _ _ s (.int _) rh'⟩
  | .bin o a b, X, E, sc, sto, c, e, h => by
    simp only [chkE] at h
    split at h <;> first | cases h | skip
    simp only [Bool.and_eq_true] at h
    obtain ⟨⟨h1, h2⟩, h3⟩ := h
    have hp := of_decide_eq_true h1
    subst hp
    refine PE.imp (pe_op (bin_ok o) (sE a c h2) (sE b c h3)) fun σ H Q ⟨ρ, hh, re, rh, w⟩ => ?_
    simp only [W] at w
    refine liftE.bind (W_mono (fnW_mono P k) E a) re rh w fun d h' v H' s re' r rh' q => ?_
    refine liftE.bind (W_mono (fnW_mono P k) E b) re' rh' q fun d2 h2 v2 H2 s2 re2 r2 rh2 q2 => ?_
    exact ⟨d, d2, h2, H, s.trans s2, r.mono s2, r2, rh2, q2⟩
  | .cat fz a b, X, E, sc, sto, c, e, h => by
    simp only [chkE] at h
    split at h <;> first | cases h | skip
    simp only [Bool.and_eq_true] at h
    obtain ⟨⟨h1, h2⟩, h3⟩ := h
    have hp := of_decide_eq_true h1
    subst hp
    refine PE.imp (pe_op (cat_ok fz) (sE a c h2) (sE b c h3)) fun σ H Q ⟨ρ, hh, re, rh, w⟩ => ?_
    simp only [W] at w
    refine liftE.bind (W_mono (fnW_mono P k) E a) re rh w fun d h' v H' s re' r rh' q => ?_
    refine liftE.bind (W_mono (fnW_mono P k) E b) re' rh' q fun d2 h2 v2 H2 s2 re2 r2 rh2 q2 => ?_
    exact ⟨d, d2, h2, H, s.trans s2, r.mono s2, r2, rh2, q2⟩
  | .rep fz a b, X, E, sc, sto, c, e, h => by
    simp only [chkE] at h
    split at h <;> first | cases h | skip
    simp only [Bool.and_eq_true] at h
    obtain ⟨⟨h1, h2⟩, h3⟩ := h
    have hp := of_decide_eq_true h1
    subst hp
    refine PE.imp (pe_op (rep_ok fz) (sE a c h2) (sE b c h3)) fun σ H Q ⟨ρ, hh, re, rh, w⟩ => ?_
    simp only [W] at w
    refine liftE.bind (W_mono (fnW_mono P k) E a) re rh w fun d h' v H' s re' r rh' q => ?_
    refine liftE.bind (W_mono (fnW_mono P k) E b) re' rh' q fun d2 h2 v2 H2 s2 re2 r2 rh2 q2 => ?_
    exact ⟨d, d2, h2, H, s.trans s2, r.mono s2, r2, rh2, q2⟩
  | .cmp o a b, X, E, sc, sto, c, e, h => by
    simp only [chkE] at h
    split at h <;> first | cases h | skip
    simp only [Bool.and_eq_true] at h
    obtain ⟨⟨⟨h1, h0⟩, h2⟩, h3⟩ := h
    have hp := of_decide_eq_true h1
    subst hp
    refine PE.imp (pe_cmpR (cmp_ok c.room o) (sE a c h2) (sE b c h3) (nomark2 (not_true h0))) fun σ H Q ⟨ρ, hh, re, rh, w⟩ => ?_
    simp only [W] at w
    refine liftE.bind (W_mono (fnW_mono P k) E a) re rh w fun d h' v H' s re' r rh' q => ?_
    refine liftE.bind (W_mono (fnW_mono P k) E b) re' rh' q fun d2 h2 v2 H2 s2 re2 r2 rh2 q2 => ?_
    split at q2 <;> first | exact q2.elim | skip
    rename_i t et
    exact ⟨_, _, t, RpV.of (r.mono s2) rh2, RpV.of r2 rh2, et, q2 _ _ (s.trans s2) (.bl _) rh2⟩
  | .chn o p a b d, X, E, sc, sto, c, e, h => by
    simp only [chkE] at h
    split at h <;> first | cases h | skip
    simp only [Bool.and_eq_true] at h
    obtain ⟨⟨⟨⟨⟨⟨h1, h1'⟩, h0⟩, h0'⟩, h2⟩, h3⟩, h4⟩ := h
    have hp := of_decide_eq_true h1
    have hp' := of_decide_eq_true h1'
    subst hp hp'
    refine PE.imp (pe_chain (cmp_ok c.room o) (cmp_ok c.room p) (sE a c h2) (sE b c h3) (sE d c h4) (last2 (not_true h0'))) fun σ H Q ⟨ρ, hh, re, rh, w⟩ => ?_
    simp only [W] at w
    refine liftE.bind (W_mono (fnW_mono P k) E a) re rh w fun d1 h' v H' s re' r rh' q => ?_
    refine liftE.bind (W_mono (fnW_mono P k) E b) re' rh' q fun d2 h2 v2 H2 s2 re2 r2 rh2 q2 => ?_
    split at q2
    · rename_i et
      refine ⟨_, _, true, RpV.of (r.mono s2) rh2, RpV.of r2 rh2, et, true, rfl, ?_⟩
      show liftE _ _ _ _ _
      refine liftE.bind (W_mono (fnW_mono P k) E d) re2 rh2 q2 fun d3 h3 v3 H3 s3 re3 r3 rh3 q3 => ?_
      split at q3 <;> first | exact q3.elim | skip
      rename_i t et'
      exact ⟨_, _, t, RpV.of (r2.mono s3) rh3, RpV.of r3 rh3, et', q3 _ _ ((s.trans s2).trans s3) (.bl _) rh3⟩
    · rename_i et
      exact ⟨_, _, false, RpV.of (r.mono s2) rh2, RpV.of r2 rh2, et, false, rfl, q2 _ _ (s.trans s2) (.bl _) rh2⟩
    · exact q2.elim
  | .andv a b, X, E, sc, sto, c, e, h => by
    simp only [chkE] at h
    split at h <;> first | cases h | skip
    rename_i f g r pos
    simp only [Bool.and_eq_true] at h
    obtain ⟨h1, h2⟩ := h
    have hb : PE X (.BoolOp .And (g :: r) pos) (liftE X.K (W P (fnW P k) E b)) := by
      cases r with
      | nil => exact pe_one (sE b c h2)
      | cons _ _ => exact sE b c h2
    refine PE.imp (pe_and (sE a c h1) hb) fun σ H Q ⟨ρ, hh, re, rh, w⟩ => ?_
    simp only [W] at w
    refine liftE.bind (W_mono (fnW_mono P k) E a) re rh w fun d h' v H' s re' r rh' q => ?_
    split at q
    · cases r.bl_inv
      refine ⟨true, rfl, ?_⟩
      rw [if_pos rfl]
      exact liftE.bind (W_mono (fnW_mono P k) E b) re' rh' q fun d2 h2 v2 H2 s2 re2 r2 rh2 q2 => q2 _ _ (s.trans s2) r2 rh2
    · cases r.bl_inv
      exact ⟨false, rfl, q _ _ s (.bl _) rh'⟩
    · exact q.elim
  | .orv a b, X, E, sc, sto, c, e, h => by
    simp only [chkE] at h
    split at h <;> first | cases h | skip
    rename_i f g r pos
    simp only [Bool.and_eq_true] at h
    obtain ⟨h1, h2⟩ := h
    have hb : PE X (.BoolOp .Or (g :: r) pos) (liftE X.K (W P (fnW P k) E b)) := by
      cases r with
      | nil => exact pe_one (sE b c h2)
      | cons _ _ => exact sE b c h2
    refine PE.imp (pe_or (sE a c h1) hb) fun σ H Q ⟨ρ, hh, re, rh, w⟩ => ?_
    simp only [W] at w
    refine liftE.bind (W_mono (fnW_mono P k) E a) re rh w fun d h' v H' s re' r rh' q => ?_
    split at q
    · cases r.bl_inv
      exact ⟨true, rfl, q _ _ s (.bl _) rh'⟩
    · cases r.bl_inv
      refine ⟨false, rfl, ?_⟩
      rw [if_neg Bool.false_ne_true]
      exact liftE.bind (W_mono (fnW_mono P k) E b) re' rh' q fun d2 h2 v2 H2 s2 re2 r2 rh2 q2 => q2 _ _ (s.trans s2) r2 rh2
    · exact q.elim
  | .notv a, X, E, sc, sto, c, e, h => by
    simp only [chkE] at h
    split at h <;> first | cases h | skip
    refine PE.imp (pe_not (sE a c h)) fun σ H Q ⟨ρ, hh, re, rh, w⟩ => ?_
    simp only [W] at w
    refine liftE.bind (W_mono (fnW_mono P k) E a) re rh w fun d h' v H' s re' r rh' q => ?_
    split at q <;> first | exact q.elim | skip
    cases r.bl_inv
    exact ⟨_, rfl, q _ _ s (.bl _) rh'⟩
  | .ite t a b, X, E, sc, sto, c, e, h => by
    simp only [chkE] at h
    split at h <;> first | cases h | skip
    simp only [Bool.and_eq_true] at h
    obtain ⟨⟨h1, h2⟩, h3⟩ := h
    refine PE.imp (pe_ifExp (sT t c h1) (sE a c h2) (sE b c h3)) fun σ H Q ⟨ρ, hh, re, rh, w⟩ => ?_
    simp only [W] at w
    refine liftT.bind (T_mono (fnW_mono P k) E t) re rh w fun bb h' H' s re' rh' q => ?_
    cases bb with
    | true =>
      rw [if_pos rfl]
      exact liftE.bind (W_mono (fnW_mono P k) E a) re' rh' q fun d2 h2 v2 H2 s2 re2 r2 rh2 q2 => q2 _ _ (s.trans s2) r2 rh2
    | false =>
      rw [if_neg Bool.false_ne_true]
      exact liftE.bind (W_mono (fnW_mono P k) E b) re' rh' q fun d2 h2 v2 H2 s2 re2 r2 rh2 q2 => q2 _ _ (s.trans s2) r2 rh2
  | .call f as, X, E, sc, sto, c, e, h => by
    simp only [chkE] at h
    split at h <;> first | cases h | skip
    simp only [Bool.and_eq_true] at h
    obtain ⟨⟨h1, h2⟩, h3⟩ := h
    split at h1 <;> first | cases h1 | skip
    rename_i fd ef
    cases of_decide_eq_true h1
    exact call_ok c ef h2 h3 (sEs as c h3)
  | .callK f as ks, X, E, sc, sto, c, e, h => by
    simp only [chkE] at h
    split at h <;> first | cases h | skip
    simp only [Bool.and_eq_true] at h
    obtain ⟨⟨⟨h1, h2⟩, h3⟩, h4⟩ := h
    split at h1 <;> first | cases h1 | skip
    rename_i q eq
    simp only [Bool.and_eq_true] at h1
    obtain ⟨⟨h5, h6⟩, h7⟩ := h1
    split at h5 <;> first | cases h5 | skip
    rename_i fd ef
    cases of_decide_eq_true h5
    have hn := of_decide_eq_true h6
    refine callK_ok c eq ef h2 h3 hn h7 (sEs as c h3) (sKs ks c h4) (fun ρ h Q w => ?_) (fun ρ h Q w => ?_)
    · have := Ws_len (fnW_mono P k) as ρ h Q w
      rw [← chkEs_len h3, hn] at this
      exact this
    · have := Ws_len (fnW_mono P k) ks ρ h Q w
      rw [← chkKs_len h4, kwNames_len h7] at this
      exact this
  | .bi b as, X, E, sc, sto, c, e, h => by
    simp only [chkE] at h
    split at h <;> first | cases h | skip
    rename_i x p es pos
    simp only [Bool.and_eq_true] at h
    obtain ⟨⟨⟨⟨h1, h2⟩, h3⟩, h4⟩, h5⟩ := h
    have hp := of_decide_eq_true h1
    subst hp
    obtain ⟨g1, g2⟩ := c.fr h2
    cases es with
    | nil => simp at h4
    | cons e es =>
      cases as with
      | nil => simp [chkEs] at h5
      | cons a as =>
        have h5' := h5
        simp only [chkEs, Bool.and_eq_true] at h5'
        refine PE.imp (pe_callAny (bi_kind b) (bi_call c.calm c.room b (of_decide_eq_true h3)) g1 g2 (bi_boot b) (sEs (.cons a as) c h5) (bi_dbg b).1 (bi_dbg b).2 (star_cons (not_true h5'.1.1)) (chkEs_star h5'.2 pos X.env).1) fun σ H Q ⟨ρ, hh, re, rh, w⟩ => ?_
        simp only [W] at w
        exact liftA.bind (Ws_mono (fnW_mono P k) E _) re rh w fun ds h' vs H' s re' r rh' q => ⟨ds, h', H, s, r, rh', q⟩
  | .isi a t, X, E, sc, sto, c, e, h => by
    simp only [chkE] at h
    split at h <;> first | cases h | skip
    rename_i x p f y p2 pos
    simp only [Bool.and_eq_true] at h
    obtain ⟨⟨⟨⟨⟨⟨h1, h2⟩, h0⟩, h3⟩, h4⟩, h5⟩, h6⟩ := h
    have hp := of_decide_eq_true h1
    have hp2 := of_decide_eq_true h2
    subst hp hp2
    obtain ⟨g1, g2⟩ := c.fr h3
    obtain ⟨g3, g4⟩ := c.fr h4
    have hy : PE X (.Name (t.name : Str) p2) (tC (.ty t.name)) := by
      cases t with
      | none => exact absurd rfl (of_decide_eq_true h0)
      | _ => exact pe_bltn (u := .type _) g3 g4 (by decide +kernel) rfl (by decide +kernel) (by decide +kernel)
    refine PE.imp (pe_callB (id := "isinstance") (isi_ok t) g1 g2 (by decide +kernel) (pa_cons (sE a c h6) (pa_cons hy pa_nil) (star_cons (not_true h5))) (by decide +kernel) (by decide +kernel) (star_cons (not_true h5))) fun σ H Q ⟨ρ, hh, re, rh, w⟩ => ?_
    simp only [W] at w
    refine liftE.bind (W_mono (fnW_mono P k) E a) re rh w fun d h' v H' s re' r rh' q => ?_
    split at q <;> first | exact q.elim | skip
    rename_i b eb
    exact ⟨v, _, b, rfl, RpV.of r rh', eb, q _ _ s (.bl _) rh'⟩
  | .ix a i, X, E, sc, sto, c, e, h => by
    simp only [chkE] at h
    split at h <;> first | cases h | skip
    simp only [Bool.and_eq_true] at h
    obtain ⟨⟨h1, h2⟩, h3⟩ := h
    refine PE.imp (pe_ix (ix_ok (by have := c.hu; omega)) (sE a c h2) (sE i c h3) (plain_ix (not_true h1))) fun σ H Q ⟨ρ, hh, re, rh, w⟩ => ?_
    simp only [W] at w
    refine liftE.bind (W_mono (fnW_mono P k) E a) re rh w fun d h' v H' s re' r rh' q => ?_
    refine liftE.bind (W_mono (fnW_mono P k) E i) re' rh' q fun d2 h2 v2 H2 s2 re2 r2 rh2 q2 => ?_
    exact ⟨d, d2, h2, H, s.trans s2, r.mono s2, r2, rh2, q2⟩
  | .sl fz a lo hi, X, E, sc, sto, c, e, h => by
    simp only [chkE] at h
    split at h <;> first | cases h | skip
    simp only [Bool.and_eq_true] at h
    obtain ⟨⟨h1, h2⟩, h3⟩ := h
    refine PE.imp (pe_slice (sl_ok fz) (sE a c h1) (sO lo c h2) (sO hi c h3)) fun σ H Q ⟨ρ, hh, re, rh, w⟩ => ?_
    simp only [W] at w
    refine liftE.bind (W_mono (fnW_mono P k) E a) re rh w fun d h' v H' s re' r rh' q => ?_
    refine ⟨ρ, h', re', rh', Wo_mono (fnW_mono P k) E lo _ _ _ _ q fun l h2 q2 H2 s2 rh2 => ?_⟩
    refine ⟨ρ, h2, re'.mono s2, rh2, Wo_mono (fnW_mono P k) E hi _ _ _ _ q2 fun u h3 q3 H3 s3 rh3 => ?_⟩
    exact ⟨d, h3, H, (s.trans s2).trans s3, r.mono (s2.trans s3), rh3, q3⟩
  | .tup es, X, E, sc, sto, c, e, h => by
    simp only [chkE] at h
    split at h <;> first | cases h | skip
    refine PE.imp (pe_tup (sEs es c h)) fun σ H Q ⟨ρ, hh, re, rh, w⟩ => ?_
    simp only [W] at w
    exact liftA.bind (Ws_mono (fnW_mono P k) E es) re rh w fun ds h' vs H' s re' r rh' q => ⟨by rw [← r.length]; exact q.1, tup_ok s rh' r q.2⟩
  | .lst fz es, X, E, sc, sto, c, e, h => by
    simp only [chkE] at h
    split at h <;> first | cases h | skip
    refine PE.imp (PE.fz (pe_lst (sEs es c h))) fun σ H Q ⟨ρ, hh, re, rh, w⟩ => ?_
    simp only [W] at w
    exact liftA.bind (Ws_mono (fnW_mono P k) E es) re rh w fun ds h' vs H' s re' r rh' q => mkL_ok s rh' r q
  | .mt m o as, X, E, sc, sto, c, e, h => by
    simp only [chkE] at h
    split at h <;> first | cases h | skip
    rename_i f x apos es cpos
    simp only [Bool.and_eq_true] at h
    obtain ⟨⟨⟨⟨⟨⟨h1, h2⟩, h3⟩, h4⟩, h0⟩, h5⟩, h6⟩ := h
    have hp := of_decide_eq_true h1
    subst hp
    have hl : es.length < 20 := of_decide_eq_true h4
    by_cases hb : m = .bits
    · subst hb
      have he : es = [] := by simpa using h0
      subst he
      have ha : as = .nil := by
        cases as with
        | nil => rfl
        | cons _ _ => simp [chkEs] at h6
      subst ha
      refine PE.imp (pe_bits (sE o c h5) (plain_base h2) h3) fun σ H Q ⟨ρ, hh, re, rh, w⟩ => ?_
      simp only [W, Ws, mtW] at w
      refine liftE.bind (W_mono (fnW_mono P k) E o) re rh w fun d h' v H' s re' r rh' q => ?_
      obtain ⟨_, q⟩ := q
      split at q <;> first | exact q.elim | skip
      cases r.int_inv
      exact ⟨_, rfl, q _ _ s (.int _) rh'⟩
    · obtain ⟨id, sl, ty, ok⟩ := mt_meth X m hb
      cases es with
      | nil =>
        have ha : as = .nil := by
          cases as with
          | nil => rfl
          | cons _ _ => simp [chkEs] at h6
        subst ha
        refine PE.imp (pe_bm0 PySem.F.plainAttrs_list sl ty ok (sE o c h5) (plain_base h2) h3) fun σ H Q ⟨ρ, hh, re, rh, w⟩ => ?_
        simp only [W, Ws] at w
        refine liftE.bind (W_mono (fnW_mono P k) E o) re rh w fun d h' v H' s re' r rh' q => ?_
        exact ⟨mtAt_ty hb q.1 r rh', d, [], h', H, s, r, .nil, rh', q.2⟩
      | cons e es =>
        cases as with
        | nil => simp [chkEs] at h6
        | cons a as =>
          have h6' := h6
          simp only [chkEs, Bool.and_eq_true] at h6'
          refine PE.imp (pe_bm PySem.F.plainAttrs_list sl ty ok (sE o c h5) (sEs (.cons a as) c h6) (plain_base h2) (few_ok h6 hl _ _) h3 (star_cons (not_true h6'.1.1)) (chkEs_star h6'.2 _ _).1) fun σ H Q ⟨ρ, hh, re, rh, w⟩ => ?_
          simp only [W] at w
          refine liftE.bind (W_mono (fnW_mono P k) E o) re rh w fun d h' v H' s re' r rh' q => ?_
          refine ⟨mtAt_ty hb q.1 r rh', ?_⟩
          exact liftA.bind (Ws_mono (fnW_mono P k) E _) re' rh' q.2 fun ds h2 vs H2 s2 re2 r2 rh2 q2 => ⟨d, ds, h2, H, s.trans s2, r.mono s2, r2, rh2, q2⟩
  | .comp fz tg it own t a, X, E, sc, sto, c, e, h => by
    simp only [chkE] at h
    split at h <;> first | cases h | skip
    rename_i elt tgE iterE ifs n scope pos
    simp only [Bool.and_eq_true] at h
    obtain ⟨⟨⟨⟨⟨⟨⟨h1, h2⟩, h3⟩, h4⟩, h5⟩, h6⟩, h7⟩, h8⟩ := h
    have hp := of_decide_eq_true h1
    subst hp
    refine PE.imp (PE.fz (pe_lc (g := gT X.K tg) (te := liftE X.K (W P (fnW P k) noE a)) (tt := liftT X.K (To P (fnW P k) noE t)) c.calm c.nd (sI it c (tg := tgE) h3) (by rw [c.sc]; exact blkOk_by h2) (fun s H C cl fp => pg_ok (c.blk s H C cl fp) h5) (fun s H C cl fp => sTo t (c.blk s H C cl fp) h7) (fun s H C cl fp => sE a (c.blk s H C cl fp) h8) (fun x => fold_pure (not_true h4)))) fun σ H Q ⟨ρ, hh, re, rh, w⟩ => ?_
    simp only [W] at w
    exact comp_read (Wi_mono (fnW_mono P k) E it) (To_mono (fnW_mono P k) noE t) (W_mono (fnW_mono P k) noE a) h6 re rh w
  | .lrng fz a b, X, E, sc, sto, c, e, h => by
    exact absurd h (by simp [chkE])
  | .fz a, X, E, sc, sto, c, e, h => by
    simp only [chkE] at h
    refine PE.imp (PE.fz (sE a c h)) fun σ H Q ⟨ρ, hh, re, rh, w⟩ => ?_
    simp only [W] at w
    refine liftE.bind (W_mono (fnW_mono P k) E a) re rh w fun d h' v H' s re' r rh' q => ?_
    unfold fzW at q
    split at q
    · rename_i p
      split at q <;> first | exact q.elim | skip
      rename_i d' ed
      cases r.ref_inv
      obtain ⟨u, eu, mu, fr⟩ := rh'.freeze ed
      exact .inr ⟨p, u, rfl, eu, mu, fun od => q _ _ (s.trans (fr od).1) (fr od).2.1 (fr od).2.2⟩
    · exact .inl (q _ _ s r rh')
  | .dnew, X, E, sc, sto, c, e, h => by
    simp only [chkE] at h
    split at h <;> first | cases h | skip
    refine PE.imp pe_dnewT fun σ H Q ⟨ρ, hh, re, rh, w⟩ => ?_
    simp only [W] at w
    exact dnew_ok rh w
  | .d1 a b, X, E, sc, sto, c, e, h => by
    simp only [chkE] at h
    split at h <;> first | cases h | skip
    simp only [Bool.and_eq_true] at h
    refine PE.imp (pe_d1T (by have := c.hu; omega) (sE a c h.1) (sE b c h.2)) fun σ H Q ⟨ρ, hh, re, rh, w⟩ p n => ?_
    simp only [W] at w
    have s0 : Stab H (upd H p (.dT [])) := .new n
    refine liftE.bind (W_mono (fnW_mono P k) E a) (re.mono s0) (rh.put s0 trivial (.dT rfl .nil)) (w p (rh.no n)) fun d h' v H' s re' r rh' q => ?_
    refine liftE.bind (W_mono (fnW_mono P k) E b) re' rh' q fun d2 h2 v2 H2 s2 re2 r2 rh2 q2 => ?_
    obtain ⟨q3, q2⟩ := q2
    obtain ⟨kws, ek, rk⟩ := rh2.dt q3
    have : kws = [] := by have := rk.length; simpa using this.symm
    subst this
    split at q2 <;> first | exact q2.elim | skip
    rename_i ds
    split at q2 <;> first | exact q2.elim | skip
    rename_i y ey
    obtain ⟨bb, ys, rfl, hb, rb⟩ := (r.mono s2).tup_inv
    refine ⟨ek, y, bb, rfl, by rw [← keys_rp rb ey]; exact hb, ?_⟩
    have s3 : Stab H2 (upd H2 p (.dT [(y, v2)])) := .put0 (fun xs z => by rw [ek] at z; cases z) (fun o u z => by rw [ek] at z; cases z)
    exact q2 _ _ (((s0.trans s).trans s2).trans s3) (.ref p) (rh2.put s3 trivial (.dT rfl (.one r2)))
  | .dcopy a, X, E, sc, sto, c, e, h => by
    simp only [chkE] at h
    split at h <;> first | cases h | skip
    simp only [Bool.and_eq_true] at h
    obtain ⟨⟨⟨h1, h2⟩, h3⟩, h4⟩ := h
    have hp := of_decide_eq_true h1
    subst hp
    obtain ⟨g1, g2⟩ := c.fr h2
    refine PE.imp (pe_callAny (.inr ⟨_, rfl⟩) (dcopy_ok (by have := c.hu; omega)) g1 g2 (by decide +kernel) (pa_cons (sE a c h4) pa_nil (star_cons (not_true h3))) (by decide +kernel) (by decide +kernel) (star_cons (not_true h3)) rfl) fun σ H Q ⟨ρ, hh, re, rh, w⟩ => ?_
    simp only [W] at w
    refine liftE.bind (W_mono (fnW_mono P k) E a) re rh w fun d h' v H' s re' r rh' q => ?_
    exact ⟨v, d, h', H, rfl, s, r, rh', q⟩
  | .dget a b d, X, E, sc, sto, c, e, h => by
    simp only [chkE] at h
    split at h <;> first | cases h | skip
    simp only [Bool.and_eq_true] at h
    obtain ⟨⟨⟨⟨⟨⟨⟨h1, h2⟩, h3⟩, h4⟩, h5⟩, h6⟩, h7⟩, h8⟩ := h
    have hp := of_decide_eq_true h1
    subst hp
    refine PE.imp (pe_dget2 (by have := c.hu; omega) (sE a c h6) (sE b c h7) (sE d c h8) ⟨plain_base h2, ?_, h3, ?_⟩) fun σ H Q ⟨ρ, hh, re, rh, w⟩ => ?_
    · rw [star_cons (not_true h4), star_cons (not_true h5)]; rfl
    · rw [star_cons (not_true h4), star_cons (not_true h5)]; rfl
    · simp only [W] at w
      refine liftE.bind (W_mono (fnW_mono P k) E a) re rh w fun d1 h1 v1 H1 s1 re1 r1 rh1 q1 => ?_
      obtain ⟨⟨kvs, ek⟩, q1⟩ := q1
      have vx := RpV.of r1 rh1
      rw [ek] at vx
      obtain ⟨p, kws, rfl, hp, rp⟩ := vx.dt
      refine ⟨p, rfl, .inr ⟨kws, hp⟩, ?_⟩
      refine liftE.bind (W_mono (fnW_mono P k) E b) re1 rh1 q1 fun d2 h2 v2 H2 s2 re2 r2 rh2 q2 => ?_
      refine liftE.bind (W_mono (fnW_mono P k) E d) re2 rh2 q2 fun d3 h3 v3 H3 s3 re3 r3 rh3 q3 => ?_
      unfold dgetW at q3
      have vx3 := RpV.of (r1.mono (s2.trans s3)) rh3
      split at q3 <;> first | exact q3.elim | skip
      rename_i kvs3 ds ek3
      rw [ek3] at vx3
      obtain ⟨p3, kws3, e3, hp3, rp3⟩ := vx3.dt
      cases e3
      split at q3 <;> first | exact q3.elim | skip
      rename_i y ey
      obtain ⟨bb, ys, rfl, hb, rb⟩ := (r2.mono s3).tup_inv
      refine ⟨_, .inr ⟨kws3, y, bb, hp3, rfl, by rw [← keys_rp rb ey]; exact hb, rfl⟩, ?_⟩
      have st := (s1.trans s2).trans s3
      rcases rp3.val y with ⟨n1, n2⟩ | ⟨d', v', e1, e2, rv⟩
      · rw [n1] at q3; rw [n2]; exact q3 _ _ st r3 rh3
      · rw [e1] at q3; rw [e2]; exact q3 _ _ st rv rh3
  | .maxd a b, X, E, sc, sto, c, e, h => by
    simp only [chkE] at h
    split at h <;> first | cases h | skip
    rename_i x p f q pos
    simp only [Bool.and_eq_true] at h
    obtain ⟨⟨⟨⟨⟨h1, h2⟩, h3⟩, h4⟩, h5⟩, h6⟩ := h
    have hp := of_decide_eq_true h1
    subst hp
    obtain ⟨g1, g2⟩ := c.fr h2
    obtain ⟨qa, qv, qp⟩ := q
    have hq : qa = some ("default" : Str) := by
      cases qa with
      | none => simp [kwNames] at h3
      | some y =>
        simp only [kwNames, Bool.and_true] at h3
        rw [of_decide_eq_true h3]
    subst hq
    refine PE.imp (pe_callBK (maxd_ok c.calm) g1 g2 (by decide +kernel) (pa_cons (sE a c h5) pa_nil (star_cons (not_true h4))) (pk_cons (sE b c h6) pk_nil) (by decide +kernel) (by decide +kernel) (by rw [star_cons (not_true h4)]; rfl) (by rw [star_cons (not_true h4)]; rfl) rfl rfl rfl) fun σ H Q ⟨ρ, hh, re, rh, w⟩ => ?_
    simp only [W] at w
    refine liftE.bind (W_mono (fnW_mono P k) E a) re rh w fun d1 h1 v1 H1 s1 re1 r1 rh1 q1 => ?_
    refine liftE.bind (W_mono (fnW_mono P k) E b) re1 rh1 q1 fun d2 h2 v2 H2 s2 re2 r2 rh2 q2 => ?_
    exact ⟨_, d1, _, d2, h2, H, rfl, rfl, s1.trans s2, r1.mono s2, r2, rh2, q2⟩
  | .comp2 fz tg it own t tg1 it1 vs1 t1 a, X, E, sc, sto, c, e, h => by
    simp only [chkE] at h
    split at h <;> first | cases h | skip
    rename_i elt tgE iterE ifs n tgE1 iterE1 ifs1 n1 scope pos
    simp only [Bool.and_eq_true] at h
    obtain ⟨⟨⟨⟨⟨⟨⟨⟨⟨⟨⟨⟨⟨⟨h1, h1'⟩, h2⟩, h3⟩, h4⟩, h4'⟩, h5⟩, h6⟩, h7⟩, k3⟩, k5⟩, k6⟩, k0⟩, k7⟩, h8⟩ := h
    have hp := of_decide_eq_true h1
    have hp1 := of_decide_eq_true h1'
    subst hp hp1
    refine PE.imp (PE.fz (pe_lc2 (g := gT X.K tg) (g1 := gT X.K tg1) (te := liftE X.K (W P (fnW P k) noE a)) (tt := liftT X.K (To P (fnW P k) noE t)) (tt1 := liftT X.K (To P (fnW P k) noE t1)) (wi1 := liftI X.K (Wi P (fnW P k) noE it1)) c.calm c.nd (sI it c (tg := tgE) h3) (by rw [c.sc]; exact blkOk_by h2) (fun i hi => of_decide_eq_true (List.all_eq_true.mp k0 i hi))
      (fun s H C cl fp => pg_ok (c.blk s H C cl fp) h5) (fun s H C cl fp => sTo t (c.blk s H C cl fp) h7) (fun s H C cl fp => sI it1 (c.blk s H C cl fp) (tg := tgE1) k3) (fun s H C cl fp => pg_ok (c.blk s H C cl fp) k5) (fun s H C cl fp => sTo t1 (c.blk s H C cl fp) k7) (fun s H C cl fp => sE a (c.blk s H C cl fp) h8) (fun x => fold_pure (not_true h4)) (fun env x => fold_pure (not_true h4')))) fun σ H Q ⟨ρ, hh, re, rh, w⟩ => ?_
    simp only [W] at w
    exact comp2_read (Wi_mono (fnW_mono P k) E it) (To_mono (fnW_mono P k) noE t) (Wi_mono (fnW_mono P k) noE it1) (To_mono (fnW_mono P k) noE t1) (W_mono (fnW_mono P k) noE a) h6 k6 re rh w
theorem sEs : ∀ (ies : IEs) {X : Cx} {E : EK} {sc sto : Scope} (c : Ctx P k E sc sto X) {es : List Expr}, chkEs X.N P sc ies es = true → PA X es (liftA X.K (Ws P (fnW P k) E ies))
  | .nil, X, E, sc, sto, c, es, h => by
    simp only [chkEs, List.isEmpty_iff] at h
    subst h
    exact PA.imp pa_nil fun σ H Q ⟨ρ, hh, re, rh, w⟩ => by simp only [Ws] at w; exact w [] H (.refl _) .nil rh
  | .cons a as, X, E, sc, sto, c, es, h => by
    simp only [chkEs] at h
    split at h <;> first | cases h | skip
    simp only [Bool.and_eq_true] at h
    obtain ⟨⟨h1, h2⟩, h3⟩ := h
    refine PA.imp (pa_cons (sE a c h2) (sEs as c h3) (star_cons (not_true h1))) fun σ H Q ⟨ρ, hh, re, rh, w⟩ => ?_
    simp only [Ws] at w
    refine liftE.bind (W_mono (fnW_mono P k) E a) re rh w fun d h' v H' s re' r rh' q => ?_
    exact liftA.bind (Ws_mono (fnW_mono P k) E as) re' rh' q fun ds h2 vs H2 s2 re2 r2 rh2 q2 => q2 _ _ (s.trans s2) (.cons (r.mono s2) r2) rh2
theorem sKs : ∀ (ies : IEs) {X : Cx} {E : EK} {sc sto : Scope} (c : Ctx P k E sc sto X) {es : List Keyword}, chkKs X.N P sc ies es = true → PK X es (liftA X.K (Ws P (fnW P k) E ies))
  | .nil, X, E, sc, sto, c, es, h => by
    simp only [chkKs, List.isEmpty_iff] at h
    subst h
    exact ⟨fun pos pins s σ H Q I ⟨ρ, hh, re, rh, w⟩ => pk_nil.run pos pins s σ H Q I (by simp only [Ws] at w; exact w [] H (.refl _) .nil rh)⟩
  | .cons a as, X, E, sc, sto, c, es, h => by
    simp only [chkKs] at h
    split at h <;> first | cases h | skip
    rename_i q es
    simp only [Bool.and_eq_true] at h
    obtain ⟨h2, h3⟩ := h
    obtain ⟨qa, qv, qp⟩ := q
    refine ⟨fun pos pins s σ H Q I ⟨ρ, hh, re, rh, w⟩ => (pk_cons (sE a c h2) (sKs as c h3)).run pos pins s σ H Q I ?_⟩
    simp only [Ws] at w
    refine liftE.bind (W_mono (fnW_mono P k) E a) re rh w fun d h' v H' s re' r rh' q => ?_
    exact liftA.bind (Ws_mono (fnW_mono P k) E as) re' rh' q fun ds h2 vs H2 s2 re2 r2 rh2 q2 => q2 _ _ (s.trans s2) (.cons (r.mono s2) r2) rh2
theorem sO : ∀ (io : IO) {X : Cx} {E : EK} {sc sto : Scope} (c : Ctx P k E sc sto X) {o : Option Expr}, chkO X.N P sc io o = true → PO X o (fun σ H Q => ∃ ρ h, RelE X.K H ρ σ ∧ RelH X.K h H ∧ Wo P (fnW P k) E io ρ h fun l h' => ∀ H', Stab H H' → RelH X.K h' H' → Q l H')
  | .no, X, E, sc, sto, c, o, h => by
    simp only [chkO, Option.isNone_iff_eq_none] at h
    subst h
    refine PO.imp po_none fun σ H Q ⟨ρ, hh, re, rh, w⟩ => ?_
    simp only [Wo] at w
    exact w H (.refl _) rh
  | .yes a, X, E, sc, sto, c, o, h => by
    simp only [chkO] at h
    split at h <;> first | cases h | skip
    refine PO.imp (po_some (sE a c h)) fun σ H Q ⟨ρ, hh, re, rh, w⟩ => ?_
    simp only [Wo] at w
    refine liftE.bind (W_mono (fnW_mono P k) E a) re rh w fun d h' v H' s re' r rh' q => ?_
    split at q <;> first | exact q.elim | skip
    cases r.int_inv
    exact ⟨_, rfl, q _ s rh'⟩
theorem sT : ∀ (it : IT) {X : Cx} {E : EK} {sc sto : Scope} (c : Ctx P k E sc sto X) {e : Expr}, chkT X.N P sc it e = true → PT X e (liftT X.K (T P (fnW P k) E it))
  | .val a, X, E, sc, sto, c, e, h => by
    simp only [chkT, Bool.and_eq_true] at h
    refine PT.imp (tru_test (sE a c h.2) tru_tree (plain_test h.1)) fun σ H Q ⟨ρ, hh, re, rh, w⟩ => ?_
    simp only [T] at w
    refine liftE.bind (W_mono (fnW_mono P k) E a) re rh w fun d h' v H' s re' r rh' q => ?_
    refine ⟨vw h' d, RpV.of r rh', ?_⟩
    split at q <;> rename_i e1 <;> first | exact q.elim | skip
    · first | exact q _ s rh' | (rw [e1]; exact q _ s rh')
    · first | exact q _ s rh' | (rw [e1]; exact q _ s rh')
    · first | exact q _ s rh' | (rw [e1]; exact q _ s rh')
    · first | exact q _ s rh' | (rw [e1]; exact q _ s rh')
    · first | exact q _ s rh' | (rw [e1]; exact q _ s rh')
    · first | exact ⟨q.1, q.2 _ s rh'⟩ | (rw [e1]; exact ⟨q.1, q.2 _ s rh'⟩)
  | .not a, X, E, sc, sto, c, e, h => by
    simp only [chkT] at h
    split at h <;> first | cases h | skip
    refine PT.imp (pt_not (sT a c h)) fun σ H Q ⟨ρ, hh, re, rh, w⟩ => ?_
    simp only [T] at w
    exact liftT.bind (T_mono (fnW_mono P k) E a) re rh w fun b h' H' s re' rh' q => q _ s rh'
  | .and a b, X, E, sc, sto, c, e, h => by
    simp only [chkT] at h
    split at h <;> first | cases h | skip
    rename_i f g r pos
    simp only [Bool.and_eq_true] at h
    obtain ⟨h1, h2⟩ := h
    have hb : PW X (.BoolOp .And (g :: r) pos) (liftT X.K (T P (fnW P k) E b)) := by
      cases r with
      | nil => exact pw_and1 (sT b c h2)
      | cons _ _ => exact pw_of (sT b c h2)
    refine PT.imp (PW.pt (pw_and (sT a c h1) hb)) fun σ H Q ⟨ρ, hh, re, rh, w⟩ => ?_
    simp only [T] at w
    refine liftT.bind (T_mono (fnW_mono P k) E a) re rh w fun t h' H' s re' rh' q => ?_
    cases t with
    | true =>
      rw [if_pos rfl]
      exact liftT.bind (T_mono (fnW_mono P k) E b) re' rh' q fun t2 h2 H2 s2 re2 rh2 q2 => q2 _ (s.trans s2) rh2
    | false =>
      rw [if_neg Bool.false_ne_true]
      exact q _ s rh'
  | .or a b, X, E, sc, sto, c, e, h => by
    simp only [chkT] at h
    split at h <;> first | cases h | skip
    rename_i f g r pos
    simp only [Bool.and_eq_true] at h
    obtain ⟨h1, h2⟩ := h
    have hb : PW X (.BoolOp .Or (g :: r) pos) (liftT X.K (T P (fnW P k) E b)) := by
      cases r with
      | nil => exact pw_or1 (sT b c h2)
      | cons _ _ => exact pw_of (sT b c h2)
    refine PT.imp (PW.pt (pw_or (sT a c h1) hb)) fun σ H Q ⟨ρ, hh, re, rh, w⟩ => ?_
    simp only [T] at w
    refine liftT.bind (T_mono (fnW_mono P k) E a) re rh w fun t h' H' s re' rh' q => ?_
    cases t with
    | true =>
      rw [if_pos rfl]
      exact q _ s rh'
    | false =>
      rw [if_neg Bool.false_ne_true]
      exact liftT.bind (T_mono (fnW_mono P k) E b) re' rh' q fun t2 h2 H2 s2 re2 rh2 q2 => q2 _ (s.trans s2) rh2
  | .ite a b d, X, E, sc, sto, c, e, h => by simp [chkT] at h
  | .cmp o a b, X, E, sc, sto, c, e, h => by
    simp only [chkT] at h
    split at h <;> first | cases h | skip
    simp only [Bool.and_eq_true] at h
    obtain ⟨⟨⟨h1, h0⟩, h2⟩, h3⟩ := h
    have hp := of_decide_eq_true h1
    subst hp
    refine PT.imp (pt_cmpR (cmp_ok c.room o) (sE a c h2) (sE b c h3) (nomark2 (not_true h0))) fun σ H Q ⟨ρ, hh, re, rh, w⟩ => ?_
    simp only [T] at w
    refine liftE.bind (W_mono (fnW_mono P k) E a) re rh w fun d h' v H' s re' r rh' q => ?_
    refine liftE.bind (W_mono (fnW_mono P k) E b) re' rh' q fun d2 h2 v2 H2 s2 re2 r2 rh2 q2 => ?_
    split at q2 <;> first | exact q2.elim | skip
    rename_i t et
    exact ⟨_, _, t, RpV.of (r.mono s2) rh2, RpV.of r2 rh2, et, t, rfl, q2 _ (s.trans s2) rh2⟩
  | .chn o p a b d, X, E, sc, sto, c, e, h => by
    simp only [chkT] at h
    split at h <;> first | cases h | skip
    simp only [Bool.and_eq_true] at h
    obtain ⟨⟨⟨⟨⟨⟨h1, h1'⟩, h0⟩, h0'⟩, h2⟩, h3⟩, h4⟩ := h
    have hp := of_decide_eq_true h1
    have hp' := of_decide_eq_true h1'
    subst hp hp'
    refine PT.imp (pt_chain (cmp_ok c.room o) (cmp_ok c.room p) (sE a c h2) (sE b c h3) (sE d c h4) (last2 (not_true h0'))) fun σ H Q ⟨ρ, hh, re, rh, w⟩ => ?_
    simp only [T] at w
    refine liftE.bind (W_mono (fnW_mono P k) E a) re rh w fun d1 h' v H' s re' r rh' q => ?_
    refine liftE.bind (W_mono (fnW_mono P k) E b) re' rh' q fun d2 h2 v2 H2 s2 re2 r2 rh2 q2 => ?_
    split at q2
    · rename_i et
      refine ⟨_, _, true, RpV.of (r.mono s2) rh2, RpV.of r2 rh2, et, true, rfl, ?_⟩
      show liftE _ _ _ _ _
      refine liftE.bind (W_mono (fnW_mono P k) E d) re2 rh2 q2 fun d3 h3 v3 H3 s3 re3 r3 rh3 q3 => ?_
      split at q3 <;> first | exact q3.elim | skip
      rename_i t et'
      exact ⟨_, _, t, RpV.of (r2.mono s3) rh3, RpV.of r3 rh3, et', t, rfl, q3 _ ((s.trans s2).trans s3) rh3⟩
    · rename_i et
      exact ⟨_, _, false, RpV.of (r.mono s2) rh2, RpV.of r2 rh2, et, false, rfl, false, rfl, q2 _ (s.trans s2) rh2⟩
    · exact q2.elim
theorem sTo : ∀ (t : ITo) {X : Cx} {E : EK} {sc sto : Scope} (c : Ctx P k E sc sto X) {es : List Expr}, chkTo X.N P sc t es = true → PTs X es (liftT X.K (To P (fnW P k) E t))
  | .no, X, E, sc, sto, c, es, h => by
    simp only [chkTo, List.isEmpty_iff] at h
    subst h
    exact PTs.imp pts_nil fun σ H Q ⟨ρ, hh, re, rh, w⟩ => by simp only [To] at w; exact w H (.refl _) rh
  | .yes t, X, E, sc, sto, c, es, h => by
    simp only [chkTo] at h
    split at h <;> first | cases h | skip
    exact PTs.imp (pts_one (sT t c h)) fun σ H Q ⟨ρ, hh, re, rh, w⟩ => by simp only [To] at w; exact ⟨ρ, hh, re, rh, w⟩
theorem sI : ∀ (ii : IIt) {X : Cx} {E : EK} {sc sto : Scope} (c : Ctx P k E sc sto X) {e tg : Expr}, chkI X.N P sc ii e tg = true → PI X tg e (liftI X.K (Wi P (fnW P k) E ii))
  | .seq a, X, E, sc, sto, c, e, tg, h => by
    simp only [chkI] at h
    refine PI.imp (pi_any (sE a c h)) fun σ H R ⟨ρ, hh, re, rh, w⟩ => ?_
    simp only [Wi] at w
    refine liftE.bind (W_mono (fnW_mono P k) E a) re rh w fun d h' v H' s re' r rh' q => ?_
    obtain ⟨p, ds, g, rfl, z, wk⟩ := seq_at r rh' q
    refine ⟨p, rfl, ?_⟩
    rcases wk with ⟨ex, wk⟩ | ⟨ex, wk⟩
    · exact .inl ⟨ex, z _ _ s rh' (walks_list wk)⟩
    · exact .inr ⟨ex, z _ _ s rh' (walks_tup wk)⟩
  | .rng1 a, X, E, sc, sto, c, e, tg, h => by
    simp only [chkI] at h
    split at h <;> first | cases h | skip
    simp only [Bool.and_eq_true] at h
    obtain ⟨⟨⟨h1, h2⟩, h3⟩, h4⟩ := h
    have hp := of_decide_eq_true h1
    subst hp
    obtain ⟨g1, g2⟩ := c.fr h2
    have hst := star_cons (es := []) (env := X.env) (not_true h3)
    refine PI.imp (pi_range1 g1 g2 (pa_cons (sE a c h4) pa_nil hst) hst) fun σ H R ⟨ρ, hh, re, rh, w⟩ => ?_
    simp only [Wi] at w
    refine liftE.bind (W_mono (fnW_mono P k) E a) re rh w fun d h' v H' s re' r rh' q => ?_
    split at q <;> first | exact q.elim | skip
    rename_i j
    cases r.int_inv
    refine ⟨j, rfl, q.1.1, q.1.2, q.2 _ _ s rh' ?_⟩
    have e : rngD 0 j = (List.range j.toNat).map fun (i : Nat) => D.int (0 + (i : Int)) := by unfold rngD; rw [Int.sub_zero]
    rw [e]
    exact walks_range
  | .rng2 a b, X, E, sc, sto, c, e, tg, h => by
    simp only [chkI] at h
    split at h <;> first | cases h | skip
    simp only [Bool.and_eq_true] at h
    obtain ⟨⟨⟨⟨⟨h1, h2⟩, h3⟩, h4⟩, h5⟩, h6⟩ := h
    have hp := of_decide_eq_true h1
    subst hp
    obtain ⟨g1, g2⟩ := c.fr h2
    have hst2 := star_cons (es := []) (env := X.env) (not_true h4)
    have hst := fun es => star_cons (es := es) (env := X.env) (not_true h3)
    refine PI.imp (pi_range2 g1 g2 (pa_cons (sE a c h5) (pa_cons (sE b c h6) pa_nil hst2) (hst _)) (by rw [hst, hst2]; rfl) hst2) fun σ H R ⟨ρ, hh, re, rh, w⟩ => ?_
    simp only [Wi] at w
    refine liftE.bind (W_mono (fnW_mono P k) E a) re rh w fun d h' v H' s re' r rh' q => ?_
    refine liftE.bind (W_mono (fnW_mono P k) E b) re' rh' q fun d2 h2 v2 H2 s2 re2 r2 rh2 q2 => ?_
    split at q2 <;> first | exact q2.elim | skip
    rename_i i j
    cases r.int_inv; cases r2.int_inv
    exact ⟨i, j, rfl, ⟨q2.1.1, q2.1.2, q2.2.1.1, q2.2.1.2⟩, q2.2.2 _ _ (s.trans s2) rh2 walks_range⟩
  | .enum a, X, E, sc, sto, c, e, tg, h => by
    simp only [chkI] at h
    split at h <;> first | cases h | skip
    simp only [Bool.and_eq_true] at h
    obtain ⟨⟨⟨⟨h1, h2⟩, h0⟩, h3⟩, h4⟩ := h
    have hp := of_decide_eq_true h1
    subst hp
    obtain ⟨g1, g2⟩ := c.fr h2
    have hst := star_cons (es := []) (env := X.env) (not_true h3)
    cases tg with
    | Tuple es n p =>
      refine PI.imp (pi_enumAny g1 g2 (pa_cons (sE a c h4) pa_nil hst) hst) fun σ H R ⟨ρ, hh, re, rh, w⟩ => ?_
      simp only [Wi] at w
      refine liftE.bind (W_mono (fnW_mono P k) E a) re rh w fun d h' v H' s re' r rh' q => ?_
      obtain ⟨p, ds, g, rfl, z, wk⟩ := seq_at r rh' q
      refine ⟨p, rfl, ?_⟩
      rcases wk with ⟨ex, wk⟩ | ⟨ex, wk⟩
      · exact .inl ⟨ex, z _ _ s rh' (walks_enumL wk)⟩
      · exact .inr ⟨ex, z _ _ s rh' (walks_enumT wk)⟩
    | _ => cases h0
  | .zip a b, X, E, sc, sto, c, e, tg, h => by simp [chkI] at h
  | .rev a, X, E, sc, sto, c, e, tg, h => by simp [chkI] at h
  | .keys a, X, E, sc, sto, c, e, tg, h => by
    simp only [chkI] at h
    refine PI.imp (pi_keys (sE a c h)) fun σ H R ⟨ρ, hh, re, rh, w⟩ => ?_
    simp only [Wi] at w
    refine liftE.bind (W_mono (fnW_mono P k) E a) re rh w fun d h' v H' s re' r rh' q => ?_
    unfold keysW at q
    split at q <;> first | exact q.elim | skip
    cases r with
    | frz hf cc =>
      obtain ⟨kws, rfl, rp⟩ := cc.dt
      exact ⟨_, _, rfl, .inr ⟨kws, hf, q _ _ s rh' (walks_keys hf rp.1)⟩⟩
end
end
end G

end

section
set_option Elab.async false
set_option linter.all false
set_option maxRecDepth 100000
set_option maxHeartbeats 8000000
/-! G13: statements. -/
namespace G
open PySem PySem.Spec PyProof.Rows L2
section
variable {X : Cx}
theorem iop_ok (o : BOp) (h1 : o ≠ .mul) (h2 : o ≠ .pow) (h3 : o ≠ .shl) : OpR X (inplaceOp (opB o)) (fun x y H Q => ∃ i j h H₀, x = .int i ∧ y = .int j ∧ Stab H₀ H ∧ RelH X.K h H ∧ binW o (.int i) (.int j) h (liftK X.K H₀ Q)) := by
  cases o with
  | add => exact OpR.imp iop_add fun x y H Q ⟨i, j, h, H₀, e1, e2, st, rh, w⟩ => ⟨i, j, e1, e2, w _ _ st (.int _) rh⟩
  | sub => exact OpR.imp iop_sub fun x y H Q ⟨i, j, h, H₀, e1, e2, st, rh, w⟩ => ⟨i, j, e1, e2, w _ _ st (.int _) rh⟩
  | fdiv => exact OpR.imp iop_fdivW fun x y H Q ⟨i, j, h, H₀, e1, e2, st, rh, w⟩ => ⟨i, j, e1, e2, w.1, w.2 _ _ st (.int _) rh⟩
  | mod => exact OpR.imp iop_mod fun x y H Q ⟨i, j, h, H₀, e1, e2, st, rh, w⟩ => ⟨i, j, e1, e2, w.1, w.2 _ _ st (.int _) rh⟩
  | shr => exact OpR.imp iop_shr fun x y H Q ⟨i, j, h, H₀, e1, e2, st, rh, w⟩ => ⟨i, j, e1, e2, w.1, w.2 _ _ st (.int _) rh⟩
  | band => exact OpR.imp iop_and fun x y H Q ⟨i, j, h, H₀, e1, e2, st, rh, w⟩ => ⟨i, j, e1, e2, w _ _ st (.int _) rh⟩
  | bor => exact OpR.imp iop_or fun x y H Q ⟨i, j, h, H₀, e1, e2, st, rh, w⟩ => ⟨i, j, e1, e2, w _ _ st (.int _) rh⟩
  | bxor => exact OpR.imp iop_xor fun x y H Q ⟨i, j, h, H₀, e1, e2, st, rh, w⟩ => ⟨i, j, e1, e2, w _ _ st (.int _) rh⟩
  | mul => exact absurd rfl h1
  | pow => exact absurd rfl h2
  | shl => exact absurd rfl h3
end
def augOk (o : BOp) : Bool := decide (o ≠ .mul) && decide (o ≠ .pow) && decide (o ≠ .shl)
def isFn (sc : Scope) : Bool := decide (sc.kind = .function)
def locl (sc : Scope) (x : Str) : Bool := match sc.names.lookup x with
  | some .local => true
  | _ => false
/-- the name takes the new list at once -/
def swapC (sc : Scope) (x : Str) (p : Pos) : Expr → Bool
  | .ListComp _ _ scope pos => locl sc x && (p.line == pos.line) && !(scope.names.any fun (n, k) => n == x && (k == .local || k == .cell))
  | _ => false
def notComp : IE → Bool
  | .comp false _ _ _ _ _ => true
  | _ => false
def listOnly : Expr → Bool
  | .SetComp _ _ _ _ => false
  | .DictComp _ _ _ _ _ => false
  | _ => true
def isFzv : IS → Bool
  | .fzv _ => true
  | _ => false
def loclAll (sc : Scope) (l : Nat) : List Expr → Bool
  | [] => true
  | .Name x p :: es => locl sc x && (p.line == l) && loclAll sc l es
  | _ :: _ => false
def tupE : IE → Bool
  | .tup _ => true
  | _ => false
def chkAsgT (N : List Str) (P : Prog) (sc : Scope) (is : List Nat) (a : IE) (ts : List Expr) (e : Expr) : Bool := match e with
  | .Tuple vs _ _ => (match ts, vs with
    | [.Name x p, .Name y q], [f, g] => isFn sc && (!locl sc x || !locl sc y) || isFn sc && locl sc x && locl sc y && (q.line == p.line) && decide (x ≠ y) && !isStarred f && !isStarred g && ([f, g].all (foldedForSure 8) || !([f, g].all (constantsAlone 8)))
    | [.Name x p, .Name y q, .Name z r], [f, g, k] => isFn sc && (!locl sc x || !locl sc y || !locl sc z) || isFn sc && locl sc x && locl sc y && locl sc z && (q.line == p.line) && (r.line == p.line) && decide (x ≠ y) && decide (x ≠ z) && decide (y ≠ z) && !isStarred f && !isStarred g && !isStarred k && ([f, g, k].all (foldedForSure 8) || !([f, g, k].all (constantsAlone 8)))
    | _, _ => false) && tupE a
  | .List _ _ => false
  | e => !isCompE e
section
variable (N : List Str) (P : Prog) (sc : Scope)
mutual
def chkS : IS → Stmt → Bool
  | .asg i a, st => match st with
    | .Assign [.Name x p] e _ => nmAt N i x && stor sc x && isFn sc && (if swapC sc x p e then notComp a else true) && listOnly e && chkE N P sc a e
    | _ => false
  | .asgT is a, st => match st with
    | .Assign [.Tuple ts _ _] e _ => tgNames N sc is ts && chkAsgT N P sc is a ts e && chkE N P sc a e
    | _ => false
  | .sub o i a, st => match st with
    | .Assign [.Subscript f g _] e _ => !isSliceE g && chkE N P sc o f && chkE N P sc i g && chkE N P sc a e
    | _ => false
  | .aug i o a, st => match st with
    | .AugAssign (.Name x _) p e _ => nmAt N i x && stor sc x && decide (p = opB o) && augOk o && chkE N P sc a e
    | _ => false
  | .augS o i p a, st => match st with
    | .AugAssign (.Subscript f g _) q e _ => !isSliceE g && decide (q = opB p) && augOk p && chkE N P sc o f && chkE N P sc i g && chkE N P sc a e
    | _ => false
  | .ife c a b, st => match st with
    | .If e x y _ => chkT N P sc c e && chkSs a x && chkSs b y
    | _ => false
  | .fr tg it b, st => match st with
    | .For t e body [] _ => chkTg N sc tg t && chkI N P sc it e t && !isSetE e && chkSs b body
    | _ => false
  | .wh c b, st => match st with
    | .While e body [] _ => chkT N P sc c e && chkSs b body
    | _ => false
  | .ret a, st => match st with
    | .Return (some e) _ => chkE N P sc a e
    | _ => false
  | .retN, st => match st with
    | .Return none _ => true
    | _ => false
  | .ex a, st => match st with
    | .Expr e _ => !isCompE e && chkE N P sc a e
    | _ => false
  | .brk, st => match st with
    | .Break _ => true
    | _ => false
  | .cnt, st => match st with
    | .Continue _ => true
    | _ => false
  | .pass, st => match st with
    | .Pass _ => true
    | .Expr (.Constant (.str _) _ _) _ => true
    | _ => false
  | .fzv _, _ => false
def chkSs : ISs → List Stmt → Bool
  | .nil, sts => sts.isEmpty
  | .cons s ss, sts => if isFzv s then chkSs ss sts else match sts with
    | st :: sts => chkS s st && chkSs ss sts
    | [] => false
end
end
section
variable {P : Prog} {k : Nat} {E : EK} {sc : Scope} {X : Cx}
theorem locl_ok {x : Str} (h : locl sc x = true) : sc.names.lookup x = some .local := by
  unfold locl at h; split at h
  · assumption
  · cases h
theorem blockKind_fn {env : Env} (h : env.scope.kind = .function) : env.blockKind = .function := by unfold Env.blockKind; rw [h]; rfl
theorem sw_false {x : Str} {p : Pos} {e : Expr} {l : Nat} {env : Env} (hk : env.scope.kind = .function) (h : swapC env.scope x p e = false) (h1 : listOnly e = true) : swapsWith e (some (.Name x p)) l env = pure false := by
  cases e with
  | ListComp elt gs scope pos =>
    unfold swapC at h
    unfold swapsWith
    have hb := blockKind_fn hk
    have e2 : (env.kindOf x == some .local) = locl env.scope x := by
      unfold locl
      show (env.scope.names.lookup x == some .local) = _
      cases env.scope.names.lookup x with
      | none => rfl
      | some q => cases q <;> rfl
    simp only [hb, e2]
    have e3 : (ScopeKind.function == ScopeKind.function) = true := rfl
    rw [e3, Bool.true_and]
    show pure _ = _
    have e4 : (locl env.scope x && (p.line == (Expr.ListComp elt gs scope pos).pos.line) && !(scope.names.any fun (n, k) => n == x && (k == .local || k == .cell))) = false := h
    rw [e4]
  | SetComp _ _ _ _ => cases h1
  | DictComp _ _ _ _ _ => cases h1
  | _ => rfl
theorem sw_sub {o i : Expr} {p : Pos} {e : Expr} {l : Nat} {env : Env} : swapsWithSole [.Subscript o i p] e l env = pure false := by
  cases e <;> rfl
theorem sw_tup {ts : List Expr} {n : Nat} {p : Pos} {e : Expr} {l : Nat} {env : Env} : swapsWithSole [.Tuple ts n p] e l env = pure false := by
  cases e <;> rfl
theorem sw_none {e : Expr} {l : Nat} {env : Env} (h : isCompE e = false) : swapsWith e none l env = pure false := by
  cases e <;> first | rfl | cases h
theorem st_sub {o i : Expr} {p : Pos} {e : Expr} {env : Env} : swappedStores [.Subscript o i p] e env = pure none := by
  cases e <;> rfl
theorem st_tup {ts : List Expr} {n : Nat} {p : Pos} {e : Expr} {env : Env} (h : ∀ es k q, e ≠ .Tuple es k q) : swappedStores [.Tuple ts n p] e env = pure none := by
  cases e <;> first | rfl | exact absurd rfl (h _ _ _)
theorem not_star (e : Expr) : (match e with | .Starred .. => true | _ => false) = true → isStarred e = false → False := by
  intro q h
  split at q
  · cases h
  · cases q
theorem st_two {x y : Str} {p q tp vp : Pos} {f g : Expr} {n m : Nat} {env : Env} (hk : env.scope.kind = .function) (hx : env.scope.names.lookup x = some .local) (hy : env.scope.names.lookup y = some .local) (hl : (q.line == p.line) = true) (hxy : x ≠ y) (hf : isStarred f = false) (hg : isStarred g = false) :
    ([f, g].all (foldedForSure 8) = true → swappedStores [.Tuple [.Name x p, .Name y q] n tp] (.Tuple [f, g] m vp) env = pure none) ∧
    ([f, g].all (foldedForSure 8) = false → [f, g].all (constantsAlone 8) = false → swappedStores [.Tuple [.Name x p, .Name y q] n tp] (.Tuple [f, g] m vp) env = pure (some [x, y])) := by
  have hb := blockKind_fn hk
  have kx : env.kindOf x = some .local := hx
  have ky : env.kindOf y = some .local := hy
  have hl' : q.line = p.line := eq_of_beq hl
  have hxy2 : (x == y) = false := by simpa using hxy
  have hxy' : (y == x) = false := by simpa using (Ne.symm hxy)
  refine ⟨fun h => ?_, fun h h' => ?_⟩
  · have h1 : foldedForSure 8 f = true ∧ foldedForSure 8 g = true := by simpa using h
    unfold swappedStores
    simp [hb, kx, ky, hl', Expr.pos, List.eraseDups, List.eraseDupsBy, List.eraseDupsBy.loop, hxy', hxy2, h1.1, h1.2]
  · have h1 : foldedForSure 8 f = true → foldedForSure 8 g = false := by simpa using h
    have h2 : ¬ (constantsAlone 8 f = true ∧ constantsAlone 8 g = true) := by
      rintro ⟨a, b⟩
      simp [a, b] at h'
    unfold swappedStores
    simp [hb, kx, ky, hl', Expr.pos, List.eraseDups, List.eraseDupsBy, List.eraseDupsBy.loop, hxy', hxy2, h2]
    rw [if_neg (by rintro (q | q); exact not_star _ q hf; exact not_star _ q hg), if_neg (fun z => by rw [h1 z.1] at z; exact absurd z.2 (by decide))]
theorem locl_beq {env : Env} {x : Str} (h : locl env.scope x = false) : (env.kindOf x == some NameKind.local) = false := by
  have e : (env.scope.names.lookup x == some NameKind.local) = locl env.scope x := by
    unfold locl
    cases env.scope.names.lookup x with
    | none => rfl
    | some q => cases q <;> rfl
  exact e.trans h
theorem st_two_cell {x y : Str} {p q tp vp : Pos} {f g : Expr} {n m : Nat} {env : Env} (hk : env.scope.kind = .function) (h : locl env.scope x = false ∨ locl env.scope y = false) :
    swappedStores [.Tuple [.Name x p, .Name y q] n tp] (.Tuple [f, g] m vp) env = pure none := by
  have hb := blockKind_fn hk
  unfold swappedStores
  rcases h with h | h
  · have kx := locl_beq h
    cases ky : (env.kindOf y == some NameKind.local) <;> simp [hb, kx, ky, Expr.pos, List.filterMap_cons] <;> (repeat' split) <;> simp_all
  · have ky := locl_beq h
    cases kx : (env.kindOf x == some NameKind.local) <;> simp [hb, kx, ky, Expr.pos, List.filterMap_cons] <;> (repeat' split) <;> simp_all
theorem st_three_cell {x y z : Str} {p q r tp vp : Pos} {f g k : Expr} {n m : Nat} {env : Env} (hk : env.scope.kind = .function) (h : locl env.scope x = false ∨ locl env.scope y = false ∨ locl env.scope z = false) :
    swappedStores [.Tuple [.Name x p, .Name y q, .Name z r] n tp] (.Tuple [f, g, k] m vp) env = pure none := by
  have hb := blockKind_fn hk
  unfold swappedStores
  cases kx : (env.kindOf x == some NameKind.local) <;> cases ky : (env.kindOf y == some NameKind.local) <;> cases kz : (env.kindOf z == some NameKind.local) <;>
    first
    | (exfalso
       rcases h with h | h | h
       · rw [locl_beq h] at kx; cases kx
       · rw [locl_beq h] at ky; cases ky
       · rw [locl_beq h] at kz; cases kz)
    | (simp [hb, kx, ky, kz, Expr.pos, List.filterMap_cons] <;> (repeat' split) <;> simp_all)
theorem st_three {x y z : Str} {p q r tp vp : Pos} {f g k : Expr} {n m : Nat} {env : Env} (hk : env.scope.kind = .function) (hx : env.scope.names.lookup x = some .local) (hy : env.scope.names.lookup y = some .local) (hz : env.scope.names.lookup z = some .local) (hl : (q.line == p.line) = true) (hr : (r.line == p.line) = true) (hxy : x ≠ y) (hxz : x ≠ z) (hyz : y ≠ z) (hf : isStarred f = false) (hg : isStarred g = false) (hkk : isStarred k = false) :
    ([f, g, k].all (foldedForSure 8) = true → swappedStores [.Tuple [.Name x p, .Name y q, .Name z r] n tp] (.Tuple [f, g, k] m vp) env = pure none) ∧
    ([f, g, k].all (foldedForSure 8) = false → [f, g, k].all (constantsAlone 8) = false → swappedStores [.Tuple [.Name x p, .Name y q, .Name z r] n tp] (.Tuple [f, g, k] m vp) env = pure (some [x, y, z])) := by
  have hb := blockKind_fn hk
  have kx : env.kindOf x = some .local := hx
  have ky : env.kindOf y = some .local := hy
  have kz : env.kindOf z = some .local := hz
  have hl' : q.line = p.line := eq_of_beq hl
  have hr' : r.line = p.line := eq_of_beq hr
  have e1 : (x == y) = false := by simpa using hxy
  have e2 : (y == x) = false := by simpa using (Ne.symm hxy)
  have e3 : (x == z) = false := by simpa using hxz
  have e4 : (z == x) = false := by simpa using (Ne.symm hxz)
  have e5 : (y == z) = false := by simpa using hyz
  have e6 : (z == y) = false := by simpa using (Ne.symm hyz)
  refine ⟨fun h => ?_, fun h h' => ?_⟩
  · have h1 : foldedForSure 8 f = true ∧ foldedForSure 8 g = true ∧ foldedForSure 8 k = true := by simpa using h
    unfold swappedStores
    simp [hb, kx, ky, kz, hl', hr', Expr.pos, List.eraseDups, List.eraseDupsBy, List.eraseDupsBy.loop, e1, e2, e3, e4, e5, e6, h1.1, h1.2.1, h1.2.2]
  · have h1 : ¬ (foldedForSure 8 f = true ∧ foldedForSure 8 g = true ∧ foldedForSure 8 k = true) := by
      rintro ⟨a, b, c⟩
      simp [a, b, c] at h
    have h2 : ¬ (constantsAlone 8 f = true ∧ constantsAlone 8 g = true ∧ constantsAlone 8 k = true) := by
      rintro ⟨a, b, c⟩
      simp [a, b, c] at h'
    unfold swappedStores
    simp [hb, kx, ky, kz, hl', hr', Expr.pos, List.eraseDups, List.eraseDupsBy, List.eraseDupsBy.loop, e1, e2, e3, e4, e5, e6, h2]
    rw [if_neg (by rintro (q | q | q); exact not_star _ q hf; exact not_star _ q hg; exact not_star _ q hkk), if_neg h1]
theorem asg_sub {o i : Expr} {pos : Pos} {env : Env} (h : isSliceE i = false) : ∀ v, assign (.Subscript o i pos) env v = (do
      let ov ← holding [v] (eval o env)
      let iv ← holding [v, ov] (eval i env)
      standAt pos
      holding [v, ov, iv] (setItem ov iv v)
      release [v, ov, iv] []) := by
  intro v
  cases i <;> first | rfl | cases h
theorem aug_sub {i : Expr} (h : isSliceE i = false) : ∀ ov iv new, augStore i ov iv new = (do holding [new, ov, iv] (setItem ov iv new); release [new, ov, iv] []; pure .next) := by
  intro ov iv new
  cases i <;> first | rfl | cases h
theorem binW_int {o : BOp} {i : Int} {y : D} {h : AH} {Q : DK} (w : binW o (.int i) y h Q) : ∃ j, y = .int j := by
  unfold binW at w
  split at w <;> first | exact ⟨_, rfl⟩ | (rename_i q; cases q; done) | exact w.elim | (rename_i q _; cases q; done)
theorem augOk_ok {o : BOp} (h : augOk o = true) : o ≠ .mul ∧ o ≠ .pow ∧ o ≠ .shl := by
  unfold augOk at h
  simp only [Bool.and_eq_true, decide_eq_true_eq] at h
  exact ⟨h.1.1, h.1.2, h.2⟩
theorem PSs.lockT {sts : List Stmt} {t : TS} (h : PSs X sts t) : PSs X sts (fun D σ H => ∃ a u, H a = some u ∧ Mut (some u) ∧ ∀ od, t D σ (upd H a (.frz od u))) :=
  ⟨fun pins s σ H D I ⟨a, u, e, m, w⟩ => let ⟨od, J⟩ := I.lock e m; h.run pins s σ _ D J (w od)⟩
theorem nm_ne {N : List Str} {i j : Nat} {x y : Str} (hi : nmAt N i x = true) (hj : nmAt N j y = true) (h : x ≠ y) : i ≠ j := by
  rintro rfl
  have := nmAt_ok hi
  rw [nmAt_ok hj] at this
  exact h (Option.some.inj this).symm
theorem tup_ie {a : IE} (h : tupE a = true) : ∃ es, a = .tup es := by
  cases a <;> first | exact ⟨_, rfl⟩ | cases h
mutual
theorem sS : ∀ (s : IS) {X : Cx} (c : Ctx P k E sc sc X) {st : Stmt}, chkS X.N P sc s st = true → PS X st (liftS X.K (S P (fnW P k) E s))
  | .asg i a, X, c, st, h => by
    simp only [chkS] at h
    split at h <;> first | cases h | skip
    rename_i x p e pos
    simp only [Bool.and_eq_true] at h
    obtain ⟨⟨⟨⟨⟨h1, h2⟩, h3⟩, h4⟩, h5⟩, h6⟩ := h
    have hk : X.env.scope.kind = .function := by rw [c.sc]; exact of_decide_eq_true h3
    obtain ⟨l1, l2⟩ := c.sto x h2
    have fin : ∀ {te : TE}, (∀ σ H Q, liftE X.K (W P (fnW P k) E a) σ H Q → te σ H Q) → ∀ D σ H, liftS X.K (S P (fnW P k) E (.asg i a)) D σ H → tAsg te (gName i) D σ H := fun z D σ H ⟨ρ, hh, re, rh, w⟩ => by
      simp only [S] at w
      refine z _ _ _ (liftE.bind (W_mono (fnW_mono P k) E a) re rh w fun d h' v H' s re' r rh' q => ?_)
      exact q _ H' s (re'.set i r) rh'
    cases hs : swapC sc x p e with
    | false => exact PS.imp (ps_set c.nd (nmAt_ok h1) l1 (sE a c h6) (sw_false hk (by rw [c.sc]; exact hs) h5) l2) (fin fun _ _ _ z => z)
    | true =>
      rw [hs, if_pos rfl] at h4
      unfold notComp at h4
      split at h4 <;> first | cases h4 | skip
      rename_i tg it own t b
      simp only [chkE] at h6
      split at h6 <;> first | cases h6 | skip
      rename_i elt tgE iterE ifs n scope lp
      simp only [Bool.and_eq_true] at h6
      obtain ⟨⟨⟨⟨⟨⟨⟨g1, g2⟩, g3⟩, g4⟩, g5⟩, g6⟩, g7⟩, g8⟩ := h6
      have hp := of_decide_eq_true g1
      subst hp
      unfold swapC at hs
      simp only [Bool.and_eq_true] at hs
      have hl := locl_ok hs.1.1
      have sw : swapsWith (.ListComp elt [⟨tgE, iterE, ifs, 0⟩] scope lp) (some (.Name x p)) pos.line X.env = pure true := sw_true hk (by rw [c.sc]; exact hl) hs.1.2 (not_true hs.2)
      refine PS.imp (ps_setLc (g := gT X.K tg) (te := liftE X.K (W P (fnW P k) noE b)) (tt := liftT X.K (To P (fnW P k) noE t)) c.calm c.nd (nmAt_ok h1) (by rw [c.sc]; exact hl) sw (sI it c (tg := tgE) g3) (by rw [c.sc]; exact blkOk_by g2) (fun s H C cl fp => pg_ok (c.blk s H C cl fp) g5) (fun s H C cl fp => sTo t (c.blk s H C cl fp) g7) (fun s H C cl fp => sE b (c.blk s H C cl fp) g8) (fun x => fold_pure (not_true g4))) (fin fun σ H Q ⟨ρ, hh, re, rh, w⟩ => ?_)
      simp only [W] at w
      exact comp_noFz (Wi_mono (fnW_mono P k) E it) (To_mono (fnW_mono P k) noE t) (W_mono (fnW_mono P k) noE b) g6 re rh w
  | .asgT is a, X, c, st, h => by
    simp only [chkS] at h
    split at h <;> first | cases h | skip
    rename_i ts n tp e pos
    simp only [Bool.and_eq_true] at h
    obtain ⟨⟨h1, h2⟩, h3⟩ := h
    have gen : swappedStores [.Tuple ts n tp] e X.env = pure none → PS X (.Assign [.Tuple ts n tp] e pos) (liftS X.K (S P (fnW P k) E (.asgT is a))) := fun hw => by
      refine PS.imp (ps_asg (sE a c h3) (pg_ok c (tg := .tp is) h1) sw_tup hw) fun D σ H ⟨ρ, hh, re, rh, w⟩ => ?_
      simp only [S] at w
      refine liftE.bind (W_mono (fnW_mono P k) E a) re rh w fun d h' v H' s re' r rh' q => ?_
      exact gT_ok q r re' fun ρ' σ' re2 kk => kk _ _ s re2 rh'
    unfold chkAsgT at h2
    split at h2
    · rename_i vs m vp
      simp only [Bool.and_eq_true] at h2
      obtain ⟨h2, ht⟩ := h2
      obtain ⟨es, rfl⟩ := tup_ie ht
      split at h2
      · rename_i x p y q f g
        rcases Bool.or_eq_true_iff.mp h2 with h2 | h2
        · rw [Bool.and_eq_true, Bool.or_eq_true] at h2
          refine gen (st_two_cell (by rw [c.sc]; exact of_decide_eq_true h2.1) ?_)
          rw [c.sc]
          exact h2.2.imp not_true not_true
        simp only [Bool.and_eq_true] at h2
        obtain ⟨⟨⟨⟨⟨⟨⟨k1, k2⟩, k3⟩, k4⟩, k5⟩, k6⟩, k7⟩, k8⟩ := h2
        have hk : X.env.scope.kind = .function := by rw [c.sc]; exact of_decide_eq_true k1
        have hx : X.env.scope.names.lookup x = some .local := by rw [c.sc]; exact locl_ok k2
        have hy : X.env.scope.names.lookup y = some .local := by rw [c.sc]; exact locl_ok k3
        obtain ⟨z1, z2⟩ := st_two (tp := tp) (vp := vp) (n := n) (m := m) hk hx hy k4 (of_decide_eq_true k5) (not_true k6) (not_true k7)
        cases hf : [f, g].all (foldedForSure 8) with
        | true => exact gen (z1 hf)
        | false =>
          rw [hf, Bool.false_or] at k8
          match is, h1 with
          | [i, j], h1 =>
            simp only [tgNames, Bool.and_eq_true] at h1
            obtain ⟨⟨i1, _⟩, ⟨j1, _⟩, _⟩ := h1
            have h3' : chkEs X.N P sc es [f, g] = true := by simpa only [chkE] using h3
            refine PS.imp (ps_par c.calm c.nd (nmAt_ok i1) (nmAt_ok j1) (nm_ne i1 j1 (of_decide_eq_true k5)) hx hy (sEs es c h3') (z2 hf (not_true k8)) sw_tup) fun D σ H ⟨ρ, hh, re, rh, w⟩ => ?_
            simp only [S, W] at w
            refine liftA.bind (Ws_mono (fnW_mono P k) E es) re rh w fun ds h' vs H' s re' r rh' q => ?_
            obtain ⟨q0, q1, q2⟩ := q
            match ds, r, q1, q2 with
            | [d1, d2], .cons r1 (.cons r2 .nil), _, q2 => exact ⟨_, _, rfl, q2 _ _ s ((re'.set i r1).set j r2) rh'⟩
          | [], h1 => simp [tgNames] at h1
          | [_], h1 => simp [tgNames] at h1
          | _ :: _ :: _ :: _, h1 => simp [tgNames] at h1
      · rename_i x p y q z r f g e3
        rcases Bool.or_eq_true_iff.mp h2 with h2 | h2
        · rw [Bool.and_eq_true, Bool.or_eq_true, Bool.or_eq_true] at h2
          refine gen (st_three_cell (by rw [c.sc]; exact of_decide_eq_true h2.1) ?_)
          rw [c.sc]
          rcases h2.2 with (z | z) | z
          · exact .inl (not_true z)
          · exact .inr (.inl (not_true z))
          · exact .inr (.inr (not_true z))
        simp only [Bool.and_eq_true] at h2
        obtain ⟨⟨⟨⟨⟨⟨⟨⟨⟨⟨⟨⟨k1, k2⟩, k3⟩, k3'⟩, k4⟩, k4'⟩, k5⟩, k5'⟩, k5''⟩, k6⟩, k7⟩, k7'⟩, k8⟩ := h2
        have hk : X.env.scope.kind = .function := by rw [c.sc]; exact of_decide_eq_true k1
        have hx : X.env.scope.names.lookup x = some .local := by rw [c.sc]; exact locl_ok k2
        have hy : X.env.scope.names.lookup y = some .local := by rw [c.sc]; exact locl_ok k3
        have hz : X.env.scope.names.lookup z = some .local := by rw [c.sc]; exact locl_ok k3'
        obtain ⟨z1, z2⟩ := st_three (tp := tp) (vp := vp) (n := n) (m := m) hk hx hy hz k4 k4' (of_decide_eq_true k5) (of_decide_eq_true k5') (of_decide_eq_true k5'') (not_true k6) (not_true k7) (not_true k7')
        cases hf : [f, g, e3].all (foldedForSure 8) with
        | true => exact gen (z1 hf)
        | false =>
          rw [hf, Bool.false_or] at k8
          match is, h1 with
          | [i, j, l], h1 =>
            simp only [tgNames, Bool.and_eq_true] at h1
            obtain ⟨⟨i1, _⟩, ⟨j1, _⟩, ⟨l1, _⟩, _⟩ := h1
            have h3' : chkEs X.N P sc es [f, g, e3] = true := by simpa only [chkE] using h3
            refine PS.imp (ps_par3 c.calm c.nd (nmAt_ok i1) (nmAt_ok j1) (nmAt_ok l1) (nm_ne i1 j1 (of_decide_eq_true k5)) (nm_ne i1 l1 (of_decide_eq_true k5')) (nm_ne j1 l1 (of_decide_eq_true k5'')) hx hy hz (sEs es c h3') (z2 hf (not_true k8)) sw_tup) fun D σ H ⟨ρ, hh, re, rh, w⟩ => ?_
            simp only [S, W] at w
            refine liftA.bind (Ws_mono (fnW_mono P k) E es) re rh w fun ds h' vs H' s re' r rh' q => ?_
            obtain ⟨q0, q1, q2⟩ := q
            match ds, r, q1, q2 with
            | [d1, d2, d3], .cons r1 (.cons r2 (.cons r3 .nil)), _, q2 => exact ⟨_, _, _, rfl, q2 _ _ s (((re'.set i r1).set j r2).set l r3) rh'⟩
          | [], h1 => simp [tgNames] at h1
          | [_], h1 => simp [tgNames] at h1
          | [_, _], h1 => simp [tgNames] at h1
          | _ :: _ :: _ :: _ :: _, h1 => simp [tgNames] at h1
      · cases h2
    · cases h2
    · rename_i n1 n2
      exact gen (st_tup fun es k q e => n1 _ _ _ e)
  | .sub o i a, X, c, st, h => by
    simp only [chkS] at h
    split at h <;> first | cases h | skip
    rename_i f g sp e pos
    simp only [Bool.and_eq_true] at h
    obtain ⟨⟨⟨h1, h2⟩, h3⟩, h4⟩ := h
    refine PS.imp (ps_asg (sE a c h4) (pg_sub (sE o c h2) (sE i c h3) (set_ok (by have := c.hu; omega)) (asg_sub (not_true h1))) sw_sub st_sub) fun D σ H ⟨ρ, hh, re, rh, w⟩ => ?_
    simp only [S] at w
    refine liftE.bind (W_mono (fnW_mono P k) E a) re rh w fun d h' v H' s re' r rh' q => ?_
    refine liftE.bind (W_mono (fnW_mono P k) E o) re' rh' q fun d2 h2 v2 H2 s2 re2 r2 rh2 q2 => ?_
    refine liftE.bind (W_mono (fnW_mono P k) E i) re2 rh2 q2 fun d3 h3 v3 H3 s3 re3 r3 rh3 q3 => ?_
    exact ⟨d2, d3, d, h3, H, (s.trans s2).trans s3, r2.mono s3, r3, r.mono (s2.trans s3), rh3, setW_mono q3 fun h4 q4 H4 s4 rh4 => q4 _ _ s4 (re.mono s4) rh4⟩
  | .aug i o a, X, c, st, h => by
    simp only [chkS] at h
    split at h <;> first | cases h | skip
    rename_i x p op e pos
    simp only [Bool.and_eq_true] at h
    obtain ⟨⟨⟨⟨h1, h2⟩, h3⟩, h4⟩, h5⟩ := h
    have hp := of_decide_eq_true h3
    subst hp
    obtain ⟨l1, l2⟩ := c.sto x h2
    obtain ⟨o1, o2, o3⟩ := augOk_ok h4
    refine PS.imp (ps_aug c.nd (nmAt_ok h1) l1 (sE a c h5) (iop_ok o o1 o2 o3) l2) fun D σ H ⟨ρ, hh, re, rh, w⟩ => ?_
    simp only [S] at w
    split at w <;> first | exact w.elim | skip
    rename_i d0 ed
    obtain ⟨v0, ev, rv⟩ := re.get _ _ ed
    refine ⟨v0, ev, ?_⟩
    refine liftE.bind (W_mono (fnW_mono P k) E a) re rh w fun d h' v H' s re' r rh' q => ?_
    split at q <;> first | exact q.elim | skip
    rename_i n
    cases rv.int_inv
    obtain ⟨j, rfl⟩ := binW_int q
    cases r.int_inv
    exact ⟨_, _, h', H, rfl, rfl, s, rh', binW_mono q fun d2 h2 q2 v2 H2 s2 r2 rh2 => q2 _ _ s2 ((re.mono s2).set i r2) rh2⟩
  | .augS o i p a, X, c, st, h => by
    simp only [chkS] at h
    split at h <;> first | cases h | skip
    rename_i f g sp op e pos
    simp only [Bool.and_eq_true] at h
    obtain ⟨⟨⟨⟨⟨h1, h2⟩, h3⟩, h4⟩, h5⟩, h6⟩ := h
    have hp := of_decide_eq_true h2
    subst hp
    obtain ⟨o1, o2, o3⟩ := augOk_ok h3
    refine PS.imp (ps_augS (sE o c h4) (sE i c h5) (pget_list (by have := c.hu; omega)) (sE a c h6) (iop_ok p o1 o2 o3) (set_ok (by have := c.hu; omega)) (aug_sub (not_true h1))) fun D σ H ⟨ρ, hh, re, rh, w⟩ => ?_
    simp only [S] at w
    refine liftE.bind (W_mono (fnW_mono P k) E o) re rh w fun d h' v H' s re' r rh' q => ?_
    refine liftE.bind (W_mono (fnW_mono P k) E i) re' rh' q fun d2 h2 v2 H2 s2 re2 r2 rh2 q2 => ?_
    refine ⟨d, d2, h2, H2, .refl _, r.mono s2, r2, rh2, ixW_mono q2 fun d3 h3 q3 v3 H3 s3 r3 rh3 => ?_⟩
    refine liftE.bind (W_mono (fnW_mono P k) E a) (re2.mono s3) rh3 q3 fun d4 h4 v4 H4 s4 re4 r4 rh4 q4 => ?_
    split at q4 <;> first | exact q4.elim | skip
    cases r3.int_inv
    obtain ⟨j, rfl⟩ := binW_int q4
    cases r4.int_inv
    refine ⟨_, _, h4, H4, rfl, rfl, .refl _, rh4, binW_mono q4 fun d5 h5 q5 v5 H5 s5 r5 rh5 => ?_⟩
    exact ⟨d, d2, d5, h5, H, (((s.trans s2).trans s3).trans s4).trans s5, r.mono (((s2.trans s3).trans s4).trans s5), r2.mono ((s3.trans s4).trans s5), r5, rh5, setW_mono q5 fun h6 q6 H6 s6 rh6 => q6 _ _ s6 (re.mono s6) rh6⟩
  | .ife t a b, X, c, st, h => by
    simp only [chkS] at h
    split at h <;> first | cases h | skip
    simp only [Bool.and_eq_true] at h
    obtain ⟨⟨h1, h2⟩, h3⟩ := h
    refine PS.imp (ps_if (sT t c h1) (sSs a c h2) (sSs b c h3)) fun D σ H ⟨ρ, hh, re, rh, w⟩ => ?_
    simp only [S] at w
    refine liftT.bind (T_mono (fnW_mono P k) E t) re rh w fun bb h' H' s re' rh' q => ?_
    cases bb with
    | true =>
      rw [if_pos rfl]
      exact ⟨ρ, h', re', rh', Ss_mono (fnW_mono P k) E a _ _ _ _ q (liftEnds.stab s)⟩
    | false =>
      rw [if_neg Bool.false_ne_true]
      exact ⟨ρ, h', re', rh', Ss_mono (fnW_mono P k) E b _ _ _ _ q (liftEnds.stab s)⟩
  | .fr tg it b, X, c, st, h => by
    simp only [chkS] at h
    split at h <;> first | cases h | skip
    rename_i tgE e body pos
    simp only [Bool.and_eq_true] at h
    obtain ⟨⟨⟨h1, h2⟩, h3⟩, h4⟩ := h
    refine PS.imp (ps_for c.own c.calm (sI it c h2) (pg_ok c h1) (sSs b c h4) (fun x => fold_pure (not_true h3))) fun D σ H ⟨ρ, hh, re, rh, w⟩ => ?_
    simp only [S] at w
    refine ⟨ρ, hh, re, rh, Wi_mono (fnW_mono P k) E it _ _ _ _ w fun items g h1 q J H1 st rh1 wk => ?_⟩
    refine ⟨fun i m σ' H2 => m = items.length - i ∧ i ≤ items.length ∧ ∃ ρ' h2, Stab H1 H2 ∧ RelE X.K H2 ρ' σ' ∧ RelH X.K h2 H2 ∧ forW tg g (Ss P (fnW P k) E b) (liftEnds X.K H D) (items.drop i) ρ' h2, ⟨items.length, by simp, Nat.zero_le _, ρ, h1, .refl _, re.mono st, rh1, q⟩, ?_⟩
    rintro i m σ' H2 ⟨rfl, hi, ρ', h2, s2, re2, rh2, q⟩
    cases hd : items.drop i with
    | nil =>
      rw [hd] at q
      have hil : i = items.length := by
        have := congrArg List.length hd
        simp at this
        omega
      subst hil
      exact .inl ⟨wk.stop H2 h2 s2 rh2 q.1, q.2 _ _ (st.trans s2) re2 rh2⟩
    | cons x xs =>
      rw [hd] at q
      obtain ⟨q1, q2⟩ := q
      obtain ⟨hx, hd', hlt⟩ := drop_cons hd
      obtain ⟨go, yl⟩ := wk.go i x H2 h2 s2 rh2 q1 hx
      refine .inr ⟨go, fun σ3 H3 => ∃ ρ3 h3, Stab H1 H3 ∧ RelE X.K H3 ρ3 σ3 ∧ RelH X.K h3 H3 ∧ forW tg g (Ss P (fnW P k) E b) (liftEnds X.K H D) xs ρ3 h3, fun σ3 H3 ⟨ρ3, h3, a1, a2, a3, a4⟩ => ⟨items.length - (i + 1), by omega, rfl, hlt, ρ3, h3, a1, a2, a3, by rw [hd']; exact a4⟩, fun y H3 yy => ?_⟩
      obtain ⟨s3, rh3, ry⟩ := yl y H3 yy
      refine gT_ok q2 ry (re2.mono s3) fun ρ4 σ4 re4 kk => ⟨ρ4, h2, re4, rh3, Ss_mono (fnW_mono P k) E b _ _ _ _ kk ⟨?_, ?_, ?_, ?_⟩⟩
      · exact fun ρ5 h5 q5 σ5 H5 s5 re5 rh5 => ⟨ρ5, h5, (s2.trans s3).trans s5, re5, rh5, q5⟩
      · exact fun d5 h5 q5 v5 H5 s5 r5 rh5 => q5 _ _ (((st.trans s2).trans s3).trans s5) r5 rh5
      · exact fun ρ5 h5 q5 σ5 H5 s5 re5 rh5 => q5 _ _ (((st.trans s2).trans s3).trans s5) re5 rh5
      · exact fun ρ5 h5 q5 σ5 H5 s5 re5 rh5 => ⟨ρ5, h5, (s2.trans s3).trans s5, re5, rh5, q5⟩
  | .wh t b, X, c, st, h => by
    simp only [chkS] at h
    split at h <;> first | cases h | skip
    simp only [Bool.and_eq_true] at h
    obtain ⟨h1, h2⟩ := h
    refine PS.imp (ps_while c.own (sT t c h1) (sSs b c h2)) fun D σ H ⟨ρ, hh, re, rh, w⟩ => ?_
    simp only [S] at w
    obtain ⟨n, w⟩ := w
    refine ⟨fun m σ' H2 => ∃ ρ' h2, Stab H H2 ∧ RelE X.K H2 ρ' σ' ∧ RelH X.K h2 H2 ∧ whileW (T P (fnW P k) E t) (Ss P (fnW P k) E b) (liftEnds X.K H D) m ρ' h2, ⟨n, ρ, hh, .refl _, re, rh, w⟩, ?_⟩
    rintro m σ' H2 ⟨ρ', h2, s2, re2, rh2, q⟩
    cases m with
    | zero => exact q.elim
    | succ m =>
      simp only [whileW] at q
      refine liftT.bind (T_mono (fnW_mono P k) E t) re2 rh2 q fun bb h3 H3 s3 re3 rh3 q3 => ?_
      cases bb with
      | true =>
        rw [if_pos rfl]
        refine ⟨fun σ4 H4 => ∃ ρ4 h4, Stab H H4 ∧ RelE X.K H4 ρ4 σ4 ∧ RelH X.K h4 H4 ∧ whileW (T P (fnW P k) E t) (Ss P (fnW P k) E b) (liftEnds X.K H D) m ρ4 h4, fun σ4 H4 z => ⟨m, Nat.lt_succ_self _, z⟩, ρ', h3, re3, rh3, Ss_mono (fnW_mono P k) E b _ _ _ _ q3 ⟨?_, ?_, ?_, ?_⟩⟩
        · exact fun ρ5 h5 q5 σ5 H5 s5 re5 rh5 => ⟨ρ5, h5, (s2.trans s3).trans s5, re5, rh5, q5⟩
        · exact fun d5 h5 q5 v5 H5 s5 r5 rh5 => q5 _ _ ((s2.trans s3).trans s5) r5 rh5
        · exact fun ρ5 h5 q5 σ5 H5 s5 re5 rh5 => q5 _ _ ((s2.trans s3).trans s5) re5 rh5
        · exact fun ρ5 h5 q5 σ5 H5 s5 re5 rh5 => ⟨ρ5, h5, (s2.trans s3).trans s5, re5, rh5, q5⟩
      | false =>
        rw [if_neg Bool.false_ne_true]
        exact q3 _ _ (s2.trans s3) re3 rh3
  | .ret a, X, c, st, h => by
    simp only [chkS] at h
    split at h <;> first | cases h | skip
    refine PS.imp (ps_ret (sE a c h)) fun D σ H ⟨ρ, hh, re, rh, w⟩ => ?_
    simp only [S] at w
    refine liftE.bind (W_mono (fnW_mono P k) E a) re rh w fun d h' v H' s re' r rh' q => ?_
    obtain ⟨h2, sb, q⟩ := q
    exact q _ _ s r (rh'.sub sb)
  | .retN, X, c, st, h => by
    simp only [chkS] at h
    split at h <;> first | cases h | skip
    refine PS.imp ps_retN fun D σ H ⟨ρ, hh, re, rh, w⟩ => ?_
    simp only [S] at w
    obtain ⟨h2, sb, q⟩ := w
    exact q _ _ (.refl _) .non (rh.sub sb)
  | .ex a, X, c, st, h => by
    simp only [chkS] at h
    split at h <;> first | cases h | skip
    simp only [Bool.and_eq_true] at h
    refine PS.imp (ps_expr (sE a c h.2) (sw_none (not_true h.1))) fun D σ H ⟨ρ, hh, re, rh, w⟩ => ?_
    simp only [S] at w
    exact liftE.bind (W_mono (fnW_mono P k) E a) re rh w fun d h' v H' s re' r rh' q => q _ _ s re' rh'
  | .brk, X, c, st, h => by
    simp only [chkS] at h
    split at h <;> first | cases h | skip
    exact PS.imp ps_break fun D σ H ⟨ρ, hh, re, rh, w⟩ => by simp only [S] at w; exact w _ _ (.refl _) re rh
  | .cnt, X, c, st, h => by
    simp only [chkS] at h
    split at h <;> first | cases h | skip
    exact PS.imp ps_continue fun D σ H ⟨ρ, hh, re, rh, w⟩ => by simp only [S] at w; exact w _ _ (.refl _) re rh
  | .pass, X, c, st, h => by
    simp only [chkS] at h
    split at h <;> first | cases h | skip
    · exact PS.imp ps_pass fun D σ H ⟨ρ, hh, re, rh, w⟩ => by simp only [S] at w; exact w _ _ (.refl _) re rh
    · exact PS.imp ps_doc fun D σ H ⟨ρ, hh, re, rh, w⟩ => by simp only [S] at w; exact w _ _ (.refl _) re rh
  | .fzv _, X, c, st, h => by simp [chkS] at h
theorem sSs : ∀ (ss : ISs) {X : Cx} (c : Ctx P k E sc sc X) {sts : List Stmt}, chkSs X.N P sc ss sts = true → PSs X sts (liftS X.K (Ss P (fnW P k) E ss))
  | .nil, X, c, sts, h => by
    simp only [chkSs, List.isEmpty_iff] at h
    subst h
    exact PSs.imp pss_nil fun D σ H ⟨ρ, hh, re, rh, w⟩ => by simp only [Ss] at w; exact w _ _ (.refl _) re rh
  | .cons s ss, X, c, sts, h => by
    simp only [chkSs] at h
    cases hz : isFzv s with
    | true =>
      rw [hz, if_pos rfl] at h
      unfold isFzv at hz
      split at hz <;> first | cases hz | skip
      rename_i i
      refine PSs.imp (PSs.lockT (sSs ss c h)) fun D σ H ⟨ρ, hh, re, rh, w⟩ => ?_
      simp only [Ss, S] at w
      split at w <;> first | exact w.elim | skip
      rename_i a ea
      split at w <;> first | exact w.elim | skip
      rename_i d ed
      obtain ⟨v, ev, rv⟩ := re.get _ _ ea
      cases rv.ref_inv
      obtain ⟨u, eu, mu, fr⟩ := rh.freeze ed
      refine ⟨a, u, eu, mu, fun od => ?_⟩
      obtain ⟨f1, f2, f3⟩ := fr od
      have e2 : σ.set i (some (.ref a)) = σ := by
        obtain ⟨hlt, hg⟩ := List.getElem?_eq_some_iff.mp ev
        rw [← hg]; exact List.set_getElem_self hlt
      refine ⟨ρ.set i (some d), hdel hh a, ?_, f3, Ss_mono (fnW_mono P k) E ss _ _ _ _ w (liftEnds.stab f1)⟩
      have := (re.mono f1).set i f2
      rw [e2] at this
      exact this
    | false =>
      rw [hz, if_neg Bool.false_ne_true] at h
      split at h <;> first | cases h | skip
      simp only [Bool.and_eq_true] at h
      refine PSs.imp (pss_cons (sS s c h.1) (sSs ss c h.2)) fun D σ H ⟨ρ, hh, re, rh, w⟩ => ?_
      simp only [Ss] at w
      refine ⟨ρ, hh, re, rh, S_mono (fnW_mono P k) E s _ _ _ _ w ⟨?_, ?_, ?_, ?_⟩⟩
      · exact fun ρ5 h5 q5 σ5 H5 s5 re5 rh5 => ⟨ρ5, h5, re5, rh5, Ss_mono (fnW_mono P k) E ss _ _ _ _ q5 (liftEnds.stab s5)⟩
      · exact fun _ _ q => q
      · exact fun _ _ q => q
      · exact fun _ _ q => q
end
end
end G

end

section
set_option Elab.async false
set_option linter.all false
set_option maxRecDepth 100000
set_option maxHeartbeats 8000000
/-! G14: defs and the law. -/
namespace G
open PySem PySem.Spec PyProof.Rows L2
def locOk (sc : Scope) (x : Str) : Bool := match sc.names.lookup x with
  | some .local => true
  | some .cell => true
  | _ => false
theorem locOk_ok {sc : Scope} {x : Str} (this : locOk sc x = true) : sc.names.lookup x = some .local ∨ sc.names.lookup x = some .cell := by
  unfold locOk at this
  split at this
  · exact .inl (by assumption)
  · exact .inr (by assumption)
  · cases this
def noFree : List (Str × NameKind) → Bool
  | [] => true
  | (_, .free) :: _ => false
  | _ :: l => noFree l
theorem noFree_ok : ∀ {l : List (Str × NameKind)}, noFree l = true → ∀ y ∈ l, y.2 ≠ .free
  | [], _, y, h => nomatch h
  | (x, k) :: l, h, y, hy => by
    cases hk : k with
    | free => subst hk; simp [noFree] at h
    | _ =>
      subst hk
      have h' : noFree l = true := by simpa [noFree] using h
      rcases List.mem_cons.mp hy with rfl | z
      · simp
      · exact noFree_ok h' y z
def chkFn (P : Prog) (fd : FD) (d : He.DefD) : Bool :=
  decide (d.name = fd.name) && decide (d.at_ = (d.name, none)) && d.dfl.isEmpty && d.kwd.isEmpty && decide (fd.N.Nodup) && (fd.N.all fun x => !(x == ("__debug__" : Str)) && !(x == ("__classdict__" : Str))) && decide (d.scope.kind = .function) && !d.scope.isCoroutine && !d.scope.isGenerator &&
    decide (fd.np ≤ fd.N.length) && ((fd.N.take fd.np).all fun x => locOk d.scope x) && noFree d.scope.names && !(fd.name == ("__debug__" : Str)) && chkSs fd.N P d.scope fd.body d.body
abbrev bindEq (d : He.DefD) (args : Args) (r : List (Str × Value)) : Prop := ∀ (kV doc pm : Value) (an : Option Addr) (cdv ct : Value), bindArgs (PySem.W.fnOf d.name d.qual d.params d.body d.scope .none kV doc pm an cdv ct) args = pure r
/-- what the generator gives of each def -/
structure Good (P : Prog) (dd : List He.DefD) : Prop where
  len : dd.length = P.fns.length
  chk : ∀ (i : Nat) (fd : FD) (d : He.DefD), P.fns[i]? = some fd → dd[i]? = some d → chkFn P fd d = true
  bd : ∀ (i : Nat) (fd : FD) (d : He.DefD), P.fns[i]? = some fd → dd[i]? = some d → ∀ us : List Value, us.length = (fd.N.take fd.np).length → bindEq d ⟨us, []⟩ ((fd.N.take fd.np).zip us)
  kw : ∀ q ∈ P.kwc, ∀ (fd : FD) (d : He.DefD), P.fns[q.f]? = some fd → dd[q.f]? = some d → ∀ us ws : List Value, us.length = q.n → ws.length = q.ks.length → bindEq d ⟨us, q.ks.zip ws⟩ ((fd.N.take fd.np).zip (q.perm.filterMap fun i => (us ++ ws)[i]?))
structure Known (P : Prog) (dd : List He.DefD) (K : PySem.W.Frag) (mg : Str → Option Value) : Prop where
  fn : ∀ (i : Nat) (fd : FD) (d : He.DefD), P.fns[i]? = some fd → dd[i]? = some d → ∃ (f : Addr) (fdt : FuncData), FunD K d.name d.qual d.params d.body d.scope (d.dvs K) (d.kws K) f fdt ∧ mg fd.name = some (.ref f)
  free : ∀ x ∈ P.free, mg x = none
  glbs : ∀ q ∈ P.glbs, (q.1 == ("__debug__" : Str)) = false ∧ ∃ u v, mg q.1 = some u ∧ RelV v u ∧ ∀ H, Rp K H q.2 v
section
variable {P : Prog} {dd : List He.DefD} {prog : Program} {w : World} {K : PySem.W.Frag} {mg : Str → Option Value} {base : Heap}
theorem take_take {α : Type} (l : List α) {n : Nat} (h : n ≤ l.length) : l.take (l.take n).length = l.take n := by
  rw [List.length_take, Nat.min_eq_left h]
theorem bind_of {d : He.DefD} {f : Addr} {fdt : FuncData} (F : FunD K d.name d.qual d.params d.body d.scope [] [] f fdt) {args : Args} {r : List (Str × Value)} (h : bindEq d args r) (s : Shared) : BindsTo s fdt args r := by
  obtain ⟨oc, od, dV, kV, doc, pm, an, cdv, ct, osl, rfl, lk, hcd, hD, hK⟩ := F.ex
  rcases hD with ⟨_, rfl⟩ | ⟨e, _⟩
  · exact .of_eq (h kV doc pm an cdv ct)
  · exact absurd rfl e
theorem fn_in (S : Good P dd) (G : Known P dd K mg) : ∀ (k i : Nat) (fd : FD) (d : He.DefD) (f : Addr) (fdt : FuncData), P.fns[i]? = some fd → dd[i]? = some d → FunD K d.name d.qual d.params d.body d.scope (d.dvs K) (d.kws K) f fdt → mg fd.name = some (.ref f) → FnIn P k i fd prog w K mg base f fdt
  | k, i, fd, d, f, fdt, hi, hd, F, gm => by
    have chk := S.chk i fd _ hi hd
    have Bb := S.bd i fd _ hi hd
    have Bk := fun q hq (e : q.f = i) => S.kw q hq fd d (by rw [e]; exact hi) (by rw [e]; exact hd)
    unfold chkFn at chk
    simp only [Bool.and_eq_true] at chk
    obtain ⟨⟨⟨⟨⟨⟨⟨⟨⟨⟨⟨⟨⟨c1, c0⟩, c2⟩, c3⟩, c4⟩, c5⟩, c6⟩, c7⟩, c8⟩, c9⟩, c10⟩, c11⟩, c12⟩, c13⟩ := chk
    have np := of_decide_eq_true c9
    have e1 : d.dvs K = [] := by
      have : d.dfl = [] := by simpa using c2
      unfold He.DefD.dvs; rw [this]; rfl
    have e2 : d.kws K = [] := by
      have : d.kwd = [] := by simpa using c3
      unfold He.DefD.kws; rw [this]; rfl
    rw [e1, e2] at F
    refine ⟨not_true c12, gm, F.kp, fun s us _ hl => by rw [List.append_nil] at hl ⊢; exact bind_of F (Bb us hl) s, fun q hq e s us ws _ h1 h2 => bind_of F (Bk q hq e us ws h1 h2) s, ?_⟩
    cases k with
    | zero =>
      exact ⟨fun vs H Q E h => by
        obtain ⟨ds, h, E', _, _, _, z⟩ := h
        exact z.elim, fun A outer s H args us vs Q E _ _ _ _ h => by
        obtain ⟨ds, h, E', _, _, _, z⟩ := h
        exact z.elim⟩
    | succ k =>
      have ih : ∀ i fd, P.fns[i]? = some fd → ∃ f fdt, FnIn P k i fd prog w K mg base f fdt := fun i fd h => by
        have hlt : i < dd.length := by rw [S.len]; exact (List.getElem?_eq_some_iff.mp h).1
        have hd : dd[i]? = some dd[i] := List.getElem?_eq_getElem hlt
        obtain ⟨f, fdt, F, gm⟩ := G.fn i fd _ h hd
        exact ⟨f, fdt, fn_in S G k i fd _ f fdt h hd F gm⟩
      have hlen : (fd.N.take fd.np).length = fd.np := by rw [List.length_take, Nat.min_eq_left np]
      have fsc : FnScope fd.N (fd.N.take fd.np) d.scope := ⟨of_decide_eq_true c6, not_true c7, not_true c8, of_decide_eq_true c4, take_take _ np, fun x hx => locOk_ok (List.all_eq_true.mp c10 x hx), noFree_ok c11⟩
      refine FunD.ok F fsc (fun vs H Q E h => ?_) (fun cdv A outer s H vs Q E hr h => ?_)
      · obtain ⟨ds, h, E', ra, _, _, z⟩ := h
        unfold fnW at z
        rw [hi] at z
        rw [hlen, ← ra.length]; exact z.1
      · obtain ⟨ds, h, E', ra, rh, hE, z⟩ := h
        unfold fnW at z
        rw [hi] at z
        obtain ⟨z1, z2⟩ := z
        have c : Ctx P k E' d.scope d.scope (cxOf (CX prog w) prog w K mg base fd.N d.qual d.scope f cdv A outer s H E) := by
          refine ⟨of_decide_eq_true c4, fun x hx => ?_, rfl, fun x hx => ⟨stor_ok hx, .inl rfl⟩, rfl, hr, G.free, ih, G.glbs, passes_of rfl, ?_⟩
          · have := List.all_eq_true.mp c5 x hx
            rw [Bool.and_eq_true] at this
            exact ⟨not_true this.1, not_true this.2⟩
          · exact passes_call (takes_of rfl rfl rfl rfl) fun cls d _ H q => hE cls d H q
        refine ⟨_, sSs fd.body c c13, ⟨startD fd.N ds, h, RelE.start ra, rh, Ss_mono (fnW_mono P k) E' fd.body _ _ _ _ z2 ⟨?_, ?_, ?_, ?_⟩⟩⟩
        · exact fun ρ5 h5 ⟨h6, sb, q5⟩ σ5 H5 s5 re5 rh5 => q5 _ _ s5 .non (rh5.sub sb)
        · exact fun _ _ q => q
        · exact fun _ _ q => q.elim
        · exact fun _ _ q => q.elim
/-- the law's promise -/
theorem law_sp {iL k : Nat} (law : ∀ ns : List Int, ns.length ≤ 63 → fnW P k iL [.lst (ns.map .int)] (fun _ => none) (fun d _ => d = .bl true) noE) (H : Hp) (a : Addr) (ns : List Int) (hl : ns.length ≤ 63) (hR : Rp K H (.lst (ns.map .int)) (.ref a)) :
    spOf K (fnW P k iL) [.ref a] H (fun v _ => v = .bl true) fun _ _ _ => False := by
  refine ⟨[.lst (ns.map .int)], fun _ => none, noE, .cons hR .nil, (fun a d e => nomatch e : RelH K (fun _ => none) H), fun _ _ _ z => ?_, fnW_mono P k iL _ _ _ _ _ (law ns hl) ?_⟩
  · obtain ⟨C, fs, h', _, _, _, z⟩ := z
    exact z.elim
  · rintro d h rfl v H' st r rh
    exact r.bl_inv
end
/-! ### the head -/
def noL (K : PySem.W.Frag) : Bool := K.all fun p => !(p.2.cls == .type "list")
theorem noL_ok {K : PySem.W.Frag} (h : noL K = true) {a : Addr} {o : Obj} (e : K.lookup a = some o) : o.cls ≠ .type "list" := by
  have hm : (a, o) ∈ K := by
    induction K with
    | nil => cases e
    | cons p r ih =>
      rw [List.lookup_cons] at e
      split at e
      · rename_i q
        cases e
        rw [eq_of_beq q]
        exact List.mem_cons_self ..
      · exact List.mem_cons_of_mem _ (ih (List.all_eq_true.mpr fun x hx => List.all_eq_true.mp h x (List.mem_cons_of_mem _ hx)) e)
  have := List.all_eq_true.mp h _ hm
  intro z
  rw [z] at this
  simp at this
def dvOf : D → Option He.Dv
  | .int i => some (.int i)
  | .str x => some (.str x)
  | .bl b => some (.bl b)
  | .non => some .non
  | _ => none
def glbB (K : PySem.W.Frag) (q : Str × D) : Bool := !(q.1 == ("__debug__" : Str)) && match q.2 with
  | .int i => (He.Fa.int q.1 i).ok K
  | .str z => (He.Fa.str q.1 z).ok K
  | _ => false
theorem dv_rp {K : PySem.W.Frag} {H : Hp} : ∀ {ds : List D}, (ds.all fun d => (dvOf d).isSome) = true → RpAll K H ds ((ds.filterMap dvOf).map (He.Dv.v K))
  | [], _ => .nil
  | d :: ds, h => by
    rw [List.all_cons, Bool.and_eq_true] at h
    have ih := dv_rp (K := K) (H := H) h.2
    cases d with
    | int i => exact .cons (.int i) ih
    | str i => exact .cons (.str i) ih
    | bl i => exact .cons (.bl i) ih
    | non => exact .cons .non ih
    | _ => simp [dvOf] at h
theorem glb_ok {K : PySem.W.Frag} {h : Heap} {mg : Str → Option Value} (X : K.In h) (G : h.Ns mainGlobals mg) {q : Str × D} (c : glbB K q = true) : (q.1 == ("__debug__" : Str)) = false ∧ ∃ u v, mg q.1 = some u ∧ RelV v u ∧ ∀ H, Rp K H q.2 v := by
  unfold glbB at c
  rw [Bool.and_eq_true] at c
  obtain ⟨c1, c⟩ := c
  refine ⟨not_true c1, ?_⟩
  split at c
  · rename_i i e
    obtain ⟨t, z⟩ := He.int_ok X G c
    exact ⟨_, .int i, z, ⟨t, rfl⟩, fun H => by rw [e]; exact .int i⟩
  · rename_i x e
    obtain ⟨t, z⟩ := He.str_ok X G c
    exact ⟨_, .str x, z, ⟨t, rfl⟩, fun H => by rw [e]; exact .str x⟩
  · cases c
def exK (P : Prog) (K : PySem.W.Frag) : Bool := noL K && P.glbs.all fun q => glbB K q
def faOf (P : Prog) : List He.Fa := P.fns.map (fun d => .glo d.name) ++ P.free.map fun x => .free x
def obsE (n : Nat) (P : Prog) (dd : List He.DefD) (g : Addr → Option Obj) : He.AlD × Bool := (He.obsDG n (faOf P) dd g, exK P (He.frG g (He.asD g n)))
def hookE (n : Nat) (P : Prog) (dd : List He.DefD) : PySem.W.Hook where
  α := He.AlD × Bool
  obs := fun s => obsE n P dd s.heap.get?
  val := fun _ => (He.valD dd, true)
  says := fun _ h => ∃ K : PySem.W.Frag, K.In h ∧ He.SaysD (faOf P) dd K ∧ exK P K = true
  of := fun _ _ e => ⟨_, He.frG_in, congrArg (fun z : He.AlD × Bool => z.1) e, congrArg (fun z : He.AlD × Bool => z.2) e⟩
  keeps := fun _ _ _ ⟨K, hK, c⟩ k => ⟨K, PySem.W.Frag.In.keeps hK k, c⟩
theorem obsE_eq {n : Nat} {P : Prog} {dd : List He.DefD} {g : Addr → Option Obj} {s : Shared} (h : ∀ a, g a = s.heap.get? a) : obsE n P dd g = (hookE n P dd).obs s := by
  have e : g = s.heap.get? := funext h
  rw [e] <;> rfl
theorem facts {P : Prog} {dd : List He.DefD} {K : PySem.W.Frag} (c : He.SaysD (faOf P) dd K) {f : He.Fa} (h : f ∈ faOf P) : f.ok K = true := by
  obtain ⟨i, hi, e⟩ := List.mem_iff_getElem.mp h
  exact c.fact i (f := f) (by rw [List.getElem?_eq_getElem hi, e])
theorem known_of {P : Prog} {dd : List He.DefD} {K : PySem.W.Frag} {h : Heap} {mg : Str → Option Value} (S : Good P dd) (X : K.In h) (G : h.Ns mainGlobals mg) (c : He.SaysD (faOf P) dd K) (e : exK P K = true) : Known P dd K mg := by
  unfold exK at e
  rw [Bool.and_eq_true] at e
  refine ⟨fun i fd d hi hd => ?_, fun x hx => ?_, fun q hq => glb_ok X G (List.all_eq_true.mp e.2 q hq)⟩
  · obtain ⟨fdt, F⟩ := c.def_ i (d := d) hd
    have ch := S.chk i fd d hi hd
    unfold chkFn at ch
    simp only [Bool.and_eq_true] at ch
    have hn : d.name = fd.name := of_decide_eq_true ch.1.1.1.1.1.1.1.1.1.1.1.1.1
    have ha : d.at_ = (d.name, none) := of_decide_eq_true ch.1.1.1.1.1.1.1.1.1.1.1.1.2
    refine ⟨_, fdt, F, ?_⟩
    have := He.glo_ok X G (facts c (f := .glo fd.name) (List.mem_append_left _ (List.mem_map.mpr ⟨fd, List.mem_of_getElem? hi, rfl⟩)))
    rw [this, ha, hn]
    rfl
  · exact He.free_ok X G (facts c (f := .free x) (List.mem_append_right _ (List.mem_map.mpr ⟨x, hx, rfl⟩)))
theorem ints_rp {K : PySem.W.Frag} {H : Hp} : ∀ ns : List Int, RpAll K H (ns.map .int) (ns.map V.int)
  | [] => .nil
  | n :: ns => .cons (.int n) (ints_rp ns)
theorem walk_law {l : PySem.W.OpenLaw} {q : Program} {loose : List Str} {XP : (Str → Option Value) → Heap → Prop} {d : DefRec} {P : Prog} {dd : List He.DefD} {n k iL : Nat} {fL : FD} {dL : He.DefD} (S : Good P dd)
    (hn : l.most = some 63) (hdf : d.params.defaults = []) (hr : Room k callerA) (hL : P.fns[iL]? = some fL) (hdL : dd[iL]? = some dL) (hp : fL.N.take fL.np = [("script" : Str)]) (hnm : d.name = fL.name)
    (law : ∀ ns : List Int, ns.length ≤ 63 → fnW P k iL [.lst (ns.map .int)] (fun _ => none) (fun d _ => d = .bl true) noE) :
    PySem.W.WalkO q loose XP (hookE n P dd).says l.row.toRowW d [] (fun f vs => PySem.call f vs) := by
  refine Att.attach_call hn hdf fun w s₀ s₁ mg mb fa o pm cd doc a vs ns G Y ho hd hcd hmg hobj hints hlen hg => ?_
  obtain ⟨K, KX, c, e⟩ := Y
  have Kn : Known P dd K mg := known_of S KX G.T.g c e
  have hl2 : ns.length ≤ sizeLine := Nat.le_trans hlen (by rw [sizeLine_eq]; decide)
  obtain ⟨fdt, F⟩ := c.def_ iL (d := dL) hdL
  have ch := S.chk iL fL dL hL hdL
  unfold chkFn at ch
  simp only [Bool.and_eq_true] at ch
  have hn1 : dL.name = fL.name := of_decide_eq_true ch.1.1.1.1.1.1.1.1.1.1.1.1.1
  have ha1 : dL.at_ = (dL.name, none) := of_decide_eq_true ch.1.1.1.1.1.1.1.1.1.1.1.1.2
  have e1 : dL.dvs K = [] := by
    have : dL.dfl = [] := by simpa using ch.1.1.1.1.1.1.1.1.1.1.1.2
    unfold He.DefD.dvs; rw [this]; rfl
  have e2 : dL.kws K = [] := by
    have : dL.kwd = [] := by simpa using ch.1.1.1.1.1.1.1.1.1.1.2
    unfold He.DefD.kws; rw [this]; rfl
  rw [e1, e2] at F
  have hgm : mg fL.name = some (.ref (He.ga K fL.name)) := He.glo_ok KX G.T.g (facts c (f := .glo fL.name) (List.mem_append_left _ (List.mem_map.mpr ⟨fL, List.mem_of_getElem? hL, rfl⟩)))
  have hfa : fa = He.ga K fL.name := by
    have z := hmg
    rw [hnm, hgm] at z
    cases z; rfl
  have hb : ∀ (s : Shared) (u : Value), BindsTo s fdt ⟨[u], []⟩ [(("script" : Str), u)] := fun s u => by
    have := bind_of F (S.bd iL fL dL hL hdL [u] (by rw [hp]; rfl)) s
    rw [hp] at this
    exact this
  have eK : ∀ {a : Addr} {o : Obj}, K.lookup a = some o → o.cls ≠ .type "list" := fun q => noL_ok (by unfold exK at e; rw [Bool.and_eq_true] at e; exact e.1) q
  refine law_call (CX := CX l.prog w) (k := k) (x := "script") (sp := spOf K (fnW P k iL)) (fd := fdt) KX G.T.g G.T.b G.T.builtins G.T.nolimit hg hobj hints hl2 hr (fun base hK hN => ?_) hb (fun H hO hS => law_sp law H a ns hlen ?_) (fun H e s' z => ?_)
  · have F' : FunD K dL.name dL.qual dL.params dL.body dL.scope (dL.dvs K) (dL.kws K) (He.ga K fL.name) fdt := by
      rw [e1, e2]
      have e3 : He.fAd K dL.at_ = He.ga K fL.name := by rw [ha1, hn1]; rfl
      rw [← e3]; exact F
    have fin : FnIn P k iL fL l.prog w K mg base (He.ga K fL.name) fdt := fn_in S Kn k iL fL dL _ fdt hL hdL F' hgm
    rw [hfa]
    have := fin.ok
    rw [hp] at this
    exact this
  · rcases hS with hS | ⟨o, its, n, q, hc, _⟩
    · rcases hS with hS | ⟨o, hS⟩
      · rcases hO a with z | ⟨_, _, z⟩ <;> (rw [hS] at z; cases z)
      · exact .frz hS (.lst (ints_rp ns))
    · exact absurd hc (eK q)
  · obtain ⟨_, _, _, _, _, _, _, _, _, _, _, _, z⟩ := z
    exact z
end G

end

section
set_option Elab.async false
set_option linter.all false
set_option maxRecDepth 100000
set_option maxHeartbeats 4000000
/-! H1: reasoning with weakest preconditions over trees. -/
namespace G
open PySem PySem.Spec PyProof.Rows L2
theorem hdel_new {h : AH} {p : Addr} {d : D} (n : h p = none) : hdel (hup h p d) p = h := by
  funext b
  unfold hdel hup
  split
  · rename_i e; rw [e, n]
  · rfl
theorem hdel_new2 {h : AH} {p : Addr} {d e : D} (n : h p = none) : hdel (hup (hup h p d) p e) p = h := by rw [hup_hup, hdel_new n]
theorem vw_int (h : AH) (i : Int) : vw h (.int i) = .int i := rfl
theorem vw_tup (h : AH) (ds : List D) : vw h (.tup ds) = .tup ds := rfl
theorem vw_lst (h : AH) (ds : List D) : vw h (.lst ds) = .lst ds := rfl
theorem vw_bl (h : AH) (b : Bool) : vw h (.bl b) = .bl b := rfl
theorem vw_non (h : AH) : vw h .non = .non := rfl
theorem vw_str (h : AH) (x : Str) : vw h (.str x) = .str x := rfl
theorem vw_dT (h : AH) (kvs : List (List Key × D)) : vw h (.dT kvs) = .dT kvs := rfl
/-- a loop by its invariant -/
theorem forW_inv {tg : ITg} {g : AH → Prop} {b : WS} {Dn : EndsD} (mb : MonS b) (I : Nat → Env' → AH → Prop) : ∀ (items : List D) (j : Nat) (ρ : Env') (h : AH), I j ρ h →
    (∀ i x ρ h, items[i]? = some x → I (j + i) ρ h → g h ∧ tgW tg x ρ fun ρ1 => b ⟨I (j + i + 1), Dn.rt, Dn.nx, I (j + i + 1)⟩ ρ1 h) → (∀ ρ h, I (j + items.length) ρ h → g h ∧ Dn.nx ρ h) → forW tg g b Dn items ρ h
  | [], j, ρ, h, i0, _, e => e ρ h i0
  | x :: xs, j, ρ, h, i0, st, e => by
    obtain ⟨s1, s2⟩ := st 0 x ρ h rfl i0
    refine ⟨s1, tgW_mono s2 fun ρ1 z => mb _ _ _ _ z ?_⟩
    have more : ∀ ρ h, I (j + 1) ρ h → forW tg g b Dn xs ρ h := fun ρ h z => forW_inv mb I xs (j + 1) ρ h z
      (fun i x ρ h hx hi => by
        have e1 : j + 1 + i = j + (i + 1) := by omega
        rw [e1] at hi ⊢
        exact st (i + 1) x ρ h hx hi)
      (fun ρ h z => e ρ h (by rw [List.length_cons, ← Nat.add_assoc, Nat.add_right_comm]; exact z))
    exact ⟨fun ρ h z => more ρ h z, fun _ _ z => z, fun _ _ z => z, fun ρ h z => more ρ h z⟩
theorem for_ok {tg : ITg} {g : AH → Prop} {b : WS} {Dn : EndsD} (mb : MonS b) (I : Nat → Env' → AH → Prop) (items : List D) (ρ : Env') (h : AH) (h0 : I 0 ρ h)
    (st : ∀ i x ρ h, items[i]? = some x → I i ρ h → g h ∧ tgW tg x ρ fun ρ1 => b ⟨I (i + 1), Dn.rt, Dn.nx, I (i + 1)⟩ ρ1 h) (e : ∀ ρ h, I items.length ρ h → g h ∧ Dn.nx ρ h) : forW tg g b Dn items ρ h :=
  forW_inv mb I items 0 ρ h h0 (fun i x ρ h hx hi => by rw [Nat.zero_add] at hi ⊢; exact st i x ρ h hx hi) (fun ρ h z => e ρ h (by rw [Nat.zero_add] at z; exact z))
theorem compW_inv {tg : ITg} {g : AH → Prop} {c : WT} {e : WE} (mc : MonT c) (me : MonE e) {own : List Nat} {ρ : Env'} {p : Addr} {Q : List D → AH → Prop} (I : Nat → List D → AH → Prop) : ∀ (items : List D) (j : Nat) (acc : List D) (h : AH), I j acc h →
    (∀ i x acc h, items[i]? = some x → I (j + i) acc h → g h ∧ tgW tg x (wipeD ρ own) fun ρ1 => c ρ1 h fun b h1 => match b with
      | true => e ρ1 h1 fun d h2 => h2 p = some (.lst acc) ∧ acc.length < sizeLine ∧ I (j + i + 1) (acc ++ [d]) (hup h2 p (.lst (acc ++ [d])))
      | false => I (j + i + 1) acc h1) → (∀ acc h, I (j + items.length) acc h → g h ∧ h p = some (.lst acc) ∧ Q acc h) → compW tg g c e own ρ p Q items acc h
  | [], j, acc, h, i0, _, en => en acc h i0
  | x :: xs, j, acc, h, i0, st, en => by
    obtain ⟨s1, s2⟩ := st 0 x acc h rfl i0
    have more : ∀ acc h, I (j + 1) acc h → compW tg g c e own ρ p Q xs acc h := fun acc h z => compW_inv mc me I xs (j + 1) acc h z
      (fun i x acc h hx hi => by
        have e1 : j + 1 + i = j + (i + 1) := by omega
        rw [e1] at hi ⊢
        exact st (i + 1) x acc h hx hi)
      (fun acc h z => en acc h (by rw [List.length_cons, ← Nat.add_assoc, Nat.add_right_comm]; exact z))
    refine ⟨s1, tgW_mono s2 fun ρ1 z => mc _ _ _ _ z fun b h1 y => ?_⟩
    cases b with
    | true => exact me _ _ _ _ y fun d h2 u => ⟨u.1, u.2.1, more _ _ u.2.2⟩
    | false => exact more _ _ y
theorem comp2W_inv {tg tg1 : ITg} {g : AH → Prop} {c c1 : WT} {it1 : WI} {e : WE} (mc : MonT c) (mi : ∀ ρ h R R', it1 ρ h R → (∀ ds g h', R ds g h' → R' ds g h') → it1 ρ h R') (mc1 : MonT c1) (me : MonE e) {own vs1 : List Nat} {ρ : Env'} {p : Addr} {Q : List D → AH → Prop} (I : Nat → List D → AH → Prop) : ∀ (items : List D) (j : Nat) (acc : List D) (h : AH), I j acc h →
    (∀ i x acc h, items[i]? = some x → I (j + i) acc h → g h ∧ tgW tg x (wipeD ρ own) fun ρ1 => c ρ1 h fun b h1 => match b with
      | true => it1 ρ1 h1 fun items1 g1 h2 => compW tg1 g1 c1 e vs1 ρ1 p (I (j + i + 1)) items1 acc h2
      | false => I (j + i + 1) acc h1) → (∀ acc h, I (j + items.length) acc h → g h ∧ h p = some (.lst acc) ∧ Q acc h) → comp2W tg g c tg1 it1 c1 e own vs1 ρ p Q items acc h
  | [], j, acc, h, i0, _, en => en acc h i0
  | x :: xs, j, acc, h, i0, st, en => by
    obtain ⟨s1, s2⟩ := st 0 x acc h rfl i0
    have more : ∀ acc h, I (j + 1) acc h → comp2W tg g c tg1 it1 c1 e own vs1 ρ p Q xs acc h := fun acc h z => comp2W_inv mc mi mc1 me I xs (j + 1) acc h z
      (fun i x acc h hx hi => by
        have e1 : j + 1 + i = j + (i + 1) := by omega
        rw [e1] at hi ⊢
        exact st (i + 1) x acc h hx hi)
      (fun acc h z => en acc h (by rw [List.length_cons, ← Nat.add_assoc, Nat.add_right_comm]; exact z))
    refine ⟨s1, tgW_mono s2 fun ρ1 z => mc _ _ _ _ z fun b h1 y => ?_⟩
    cases b with
    | true => exact mi _ _ _ _ y fun its g1 h2 u => compW_mono mc1 me (fun acc h z => more acc h z) its acc h2 u
    | false => exact more _ _ y
/-- a comprehension without effects: what it makes -/
theorem comp_pure {tg : ITg} {g : AH → Prop} {c : WT} {e : WE} (mc : MonT c) (me : MonE e) {own : List Nat} {ρ : Env'} {h : AH} {p : Addr} {Q : DK} {items : List D} (pr : D → Bool) (f : D → D) (np : h p = none) (hg : ∀ acc, g (hup h p (.lst acc))) (hl : items.length ≤ sizeLine)
    (st : ∀ x ∈ items, ∀ acc (Q1 : DK) (Q0 : AH → Prop), (pr x = true → Q1 (f x) (hup h p (.lst acc))) → (pr x = false → Q0 (hup h p (.lst acc))) → tgW tg x (wipeD ρ own) fun ρ1 => c ρ1 (hup h p (.lst acc)) fun b h1 => match b with
      | true => e ρ1 h1 Q1
      | false => Q0 h1) (q : Q (.lst ((items.filter pr).map f)) h) : compW tg g c e own ρ p (compEnd true p Q) items [] (hup h p (.lst [])) := by
  refine compW_inv mc me (fun i acc h' => h' = hup h p (.lst acc) ∧ acc = ((items.take i).filter pr).map f ∧ acc.length ≤ i) items 0 [] _ ⟨rfl, rfl, Nat.le_refl _⟩ (fun i x acc h' hx hi => ?_) (fun acc h' hi => ?_)
  · obtain ⟨rfl, e1, e2⟩ := hi
    rw [Nat.zero_add] at e1 e2 ⊢
    have ht : items.take (i + 1) = items.take i ++ [x] := by rw [List.take_add_one, hx]; rfl
    refine ⟨hg _, ?_⟩
    refine tgW_mono (st x (List.mem_of_getElem? hx) acc (fun d h2 => d = f x ∧ h2 = hup h p (.lst acc) ∧ pr x = true) (fun h1 => h1 = hup h p (.lst acc) ∧ pr x = false) (fun q => ⟨rfl, rfl, q⟩) (fun q => ⟨rfl, q⟩)) fun ρ1 z => mc _ _ _ _ z fun b h1 y => ?_
    cases b with
    | true =>
      refine me _ _ _ _ y fun d h2 y => ?_
      obtain ⟨rfl, rfl, y⟩ := y
      have hlt : i < items.length := (List.getElem?_eq_some_iff.mp hx).1
      refine ⟨hup_same, by omega, by rw [hup_hup], ?_, by simp; omega⟩
      rw [ht, List.filter_append, List.map_append, ← e1]
      simp [y]
    | false =>
      obtain ⟨rfl, y⟩ := y
      refine ⟨rfl, ?_, by omega⟩
      rw [ht, List.filter_append, List.map_append, ← e1]
      simp [y]
  · obtain ⟨rfl, e1, e2⟩ := hi
    rw [Nat.zero_add, List.take_length] at e1
    subst e1
    refine ⟨hg _, hup_same, ?_⟩
    show Q _ (hdel _ p)
    rw [hdel_new np]
    exact q
/-- without a test -/
theorem comp_map {tg : ITg} {g : AH → Prop} {e : WE} (me : MonE e) {own : List Nat} {ρ : Env'} {h : AH} {p : Addr} {Q : DK} {items : List D} (f : D → D) (np : h p = none) (hg : ∀ acc, g (hup h p (.lst acc))) (hl : items.length ≤ sizeLine)
    (st : ∀ x ∈ items, ∀ acc (Q1 : DK), Q1 (f x) (hup h p (.lst acc)) → tgW tg x (wipeD ρ own) fun ρ1 => e ρ1 (hup h p (.lst acc)) Q1) (q : Q (.lst (items.map f)) h) {P : Prog} {Φ : Nat → Fn} : compW tg g (To P Φ noE .no) e own ρ p (compEnd true p Q) items [] (hup h p (.lst [])) := by
  refine comp_pure (c := To P Φ noE .no) (fun ρ h R R' hw k => by simp only [To] at hw ⊢; exact k _ _ hw) me (fun _ => true) f np hg hl (fun x hx acc Q1 Q0 a _ => ?_) (by rw [List.filter_eq_self.mpr fun _ _ => rfl]; exact q)
  refine tgW_mono (st x hx acc Q1 (a rfl)) fun ρ1 z => ?_
  simp only [To]
  exact z
end G

end

section
set_option Elab.async false
set_option linter.all false
set_option maxHeartbeats 1000000
/-! M37: polynomials as coefficient functions; no program in sight. -/
namespace K37
abbrev Cf := Nat → Nat → Int
abbrev Mp := List ((Nat × Nat) × Int)
def sumN : Nat → (Nat → Int) → Int
  | 0, _ => 0
  | n + 1, f => sumN n f + f n
theorem sumN_congr {n : Nat} {f g : Nat → Int} (h : ∀ i, i < n → f i = g i) : sumN n f = sumN n g := by
  induction n with
  | zero => rfl
  | succ n ih => simp only [sumN]; rw [ih fun i hi => h i (by omega), h n (by omega)]
theorem sumN_add (n : Nat) (f g : Nat → Int) : sumN n (fun i => f i + g i) = sumN n f + sumN n g := by
  induction n with
  | zero => rfl
  | succ n ih => simp only [sumN]; rw [ih]; omega
theorem sumN_zero (n : Nat) : sumN n (fun _ => 0) = 0 := by
  induction n with
  | zero => rfl
  | succ n ih => simp only [sumN]; rw [ih]; rfl
theorem sumN_mul (n : Nat) (a : Int) (f : Nat → Int) : sumN n (fun i => a * f i) = a * sumN n f := by
  induction n with
  | zero => simp [sumN]
  | succ n ih => simp only [sumN]; rw [ih, Int.mul_add]
theorem sumN_one {n k : Nat} {v : Int} (f : Nat → Int) (hk : k < n) (h : ∀ i, i < n → i ≠ k → f i = 0) (hv : f k = v) : sumN n f = v := by
  induction n with
  | zero => omega
  | succ n ih =>
    simp only [sumN]
    by_cases e : k = n
    · subst e
      rw [hv, sumN_congr (g := fun _ => 0) fun i hi => h i (by omega) (by omega), sumN_zero]; omega
    · rw [ih (by omega) fun i hi ne => h i (by omega) ne, h n (by omega) (Ne.symm e)]; omega
/-- the box sum -/
def bx (H W : Nat) (c f : Cf) : Int := sumN H fun i => sumN W fun j => c i j * f i j
def sm (m : Mp) (f : Cf) : Int := (m.map fun e => e.2 * f e.1.1 e.1.2).sum
def dl (a b : Nat) : Cf := fun i j => if i = a ∧ j = b then 1 else 0
def cf (m : Mp) : Cf := fun a b => sm m (dl a b)
theorem sm_nil (f : Cf) : sm [] f = 0 := rfl
theorem sm_cons (e : (Nat × Nat) × Int) (m : Mp) (f : Cf) : sm (e :: m) f = e.2 * f e.1.1 e.1.2 + sm m f := by simp [sm]
theorem sm_append (m n : Mp) (f : Cf) : sm (m ++ n) f = sm m f + sm n f := by simp [sm]
theorem cf_cons (e : (Nat × Nat) × Int) (m : Mp) (a b : Nat) : cf (e :: m) a b = (if e.1 = (a, b) then e.2 else 0) + cf m a b := by
  unfold cf
  rw [sm_cons]
  unfold dl
  by_cases h : e.1 = (a, b)
  · rw [if_pos h, if_pos ⟨by rw [h], by rw [h]⟩]; omega
  · rw [if_neg h, if_neg (fun q => h (Prod.ext q.1 q.2))]; omega
theorem cf_not {m : Mp} {a b : Nat} (h : (a, b) ∉ m.map (·.1)) : cf m a b = 0 := by
  induction m with
  | nil => rfl
  | cons e m ih =>
    rw [List.map_cons, List.mem_cons, not_or] at h
    rw [cf_cons, if_neg (Ne.symm h.1), ih h.2]; rfl
theorem cf_mem {m : Mp} (nd : (m.map (·.1)).Nodup) {e : (Nat × Nat) × Int} (h : e ∈ m) : cf m e.1.1 e.1.2 = e.2 := by
  induction m with
  | nil => cases h
  | cons x m ih =>
    rw [List.map_cons, List.nodup_cons] at nd
    rw [cf_cons]
    rcases List.mem_cons.mp h with rfl | h
    · rw [if_pos rfl, cf_not nd.1]; omega
    · rw [if_neg, ih nd.2 h]
      · omega
      · intro q
        exact nd.1 (by rw [q]; exact List.mem_map.mpr ⟨e, h, rfl⟩)
theorem bx_congr {H W : Nat} {c d f : Cf} (h : ∀ i j, i < H → j < W → c i j = d i j) : bx H W c f = bx H W d f :=
  sumN_congr fun i hi => sumN_congr fun j hj => by rw [h i j hi hj]
theorem bx_add (H W : Nat) (c d f : Cf) : bx H W (fun i j => c i j + d i j) f = bx H W c f + bx H W d f := by
  unfold bx
  rw [← sumN_add]
  exact sumN_congr fun i _ => by
    rw [← sumN_add]
    exact sumN_congr fun j _ => by rw [Int.add_mul]
theorem bx_zero (H W : Nat) (f : Cf) : bx H W (fun _ _ => 0) f = 0 := by
  unfold bx
  have : (fun i => sumN W fun j => (0 : Int) * f i j) = fun _ => 0 := by
    funext i
    have : (fun j => (0 : Int) * f i j) = fun _ => 0 := by funext j; simp
    rw [this, sumN_zero]
  rw [this, sumN_zero]
theorem bx_one {H W a b : Nat} (v : Int) (f : Cf) (ha : a < H) (hb : b < W) : bx H W (fun i j => if (a, b) = (i, j) then v else 0) f = v * f a b := by
  unfold bx
  refine sumN_one _ ha (fun i _ ne => ?_) (sumN_one _ hb (fun j _ ne => ?_) ?_)
  · have : (fun j => (if (a, b) = (i, j) then v else 0) * f i j) = fun _ => 0 := by
      funext j
      rw [if_neg fun q => ne (Prod.mk.inj q).1.symm]; simp
    rw [this, sumN_zero]
  · show (if (a, b) = (a, j) then v else 0) * f a j = 0
    rw [if_neg fun q => ne (Prod.mk.inj q).2.symm]; simp
  · show (if (a, b) = (a, b) then v else 0) * f a b = _
    rw [if_pos rfl]
def Sup (H W : Nat) (c : Cf) : Prop := ∀ i j, c i j ≠ 0 → i < H ∧ j < W
theorem transfer {H W : Nat} (f : Cf) : ∀ m : Mp, (m.map (·.1)).Nodup → Sup H W (cf m) → sm m f = bx H W (cf m) f
  | [], _, _ => by
    rw [sm_nil]
    exact (bx_zero H W f).symm
  | e :: m, nd, su => by
    rw [List.map_cons, List.nodup_cons] at nd
    have sm' : Sup H W (cf m) := fun i j h => by
      have hne : (i, j) ≠ e.1 := fun q => h (cf_not (by rw [q]; exact nd.1))
      refine su i j ?_
      rw [cf_cons, if_neg (Ne.symm hne)]
      simpa using h
    have ih := transfer f m nd.2 sm'
    rw [sm_cons, ih]
    have e1 : bx H W (cf (e :: m)) f = bx H W (fun i j => if (e.1.1, e.1.2) = (i, j) then e.2 else 0) f + bx H W (cf m) f := by
      rw [← bx_add]
      exact bx_congr fun i j _ _ => cf_cons e m i j
    rw [e1]
    by_cases h0 : e.2 = 0
    · rw [h0]
      have : (fun i j => if (e.1.1, e.1.2) = (i, j) then (0 : Int) else 0) = fun _ _ => 0 := by funext i j; split <;> rfl
      rw [this, bx_zero]; omega
    · have := su e.1.1 e.1.2 (by rw [cf_cons, if_pos rfl, cf_not nd.1]; simpa using h0)
      rw [bx_one _ _ this.1 this.2]
/-! ### the dict's ways -/
def get (m : Mp) (k : Nat × Nat) : Option Int := (m.find? fun e => decide (e.1 = k)).map (·.2)
def put (m : Mp) (k : Nat × Nat) (v : Int) : Mp := if (m.any fun e => decide (e.1 = k)) = true then m.map (fun e => if e.1 = k then (e.1, v) else e) else m ++ [(k, v)]
theorem get_cf {m : Mp} (nd : (m.map (·.1)).Nodup) (k : Nat × Nat) : (get m k).getD 0 = cf m k.1 k.2 := by
  unfold get
  cases h : m.find? fun e => decide (e.1 = k) with
  | none =>
    rw [List.find?_eq_none] at h
    rw [cf_not]
    · rfl
    · intro q
      obtain ⟨e, he, q⟩ := List.mem_map.mp q
      exact h e he (by simp [q])
  | some e =>
    have h1 := List.mem_of_find?_eq_some h
    have h2 : e.1 = k := by simpa using List.find?_some h
    subst h2
    rw [cf_mem nd h1]; rfl
theorem get_mem {m : Mp} (nd : (m.map (·.1)).Nodup) {e : (Nat × Nat) × Int} (h : e ∈ m) : get m e.1 = some e.2 := by
  unfold get
  cases q : m.find? fun x => decide (x.1 = e.1) with
  | none =>
    rw [List.find?_eq_none] at q
    exact absurd (by simp) (q e h)
  | some x =>
    have h1 := List.mem_of_find?_eq_some q
    have h2 : x.1 = e.1 := by simpa using List.find?_some q
    have e1 := cf_mem nd h1
    rw [h2, cf_mem nd h] at e1
    show some x.2 = some e.2
    rw [e1]
theorem keys_put (m : Mp) (k : Nat × Nat) (v : Int) : (put m k v).map (·.1) = if k ∈ m.map (·.1) then m.map (·.1) else m.map (·.1) ++ [k] := by
  have ha : (m.any fun e => decide (e.1 = k)) = true ↔ k ∈ m.map (·.1) := by
    rw [List.any_eq_true, List.mem_map]
    constructor
    · rintro ⟨e, h1, h2⟩; exact ⟨e, h1, by simpa using h2⟩
    · rintro ⟨e, h1, h2⟩; exact ⟨e, h1, by simpa using h2⟩
  unfold put
  by_cases h : k ∈ m.map (·.1)
  · rw [if_pos (ha.mpr h), if_pos h, List.map_map]
    exact List.map_congr_left fun e _ => by show (if e.1 = k then (e.1, v) else e).1 = e.1; split <;> rfl
  · rw [if_neg (fun q => h (ha.mp q)), if_neg h, List.map_append]; rfl
theorem nodup_put {m : Mp} (nd : (m.map (·.1)).Nodup) (k : Nat × Nat) (v : Int) : ((put m k v).map (·.1)).Nodup := by
  rw [keys_put]
  split
  · exact nd
  · rename_i h
    rw [List.nodup_append]
    exact ⟨nd, by simp, fun a ha b hb => by rw [List.mem_singleton.mp hb]; exact fun q => h (by rw [← q]; exact ha)⟩
theorem length_put (m : Mp) (k : Nat × Nat) (v : Int) : (put m k v).length ≤ m.length + 1 := by
  have := congrArg List.length (keys_put m k v)
  rw [List.length_map] at this
  rw [this]
  split <;> simp
theorem sm_put {m : Mp} (nd : (m.map (·.1)).Nodup) (k : Nat × Nat) (v : Int) (f : Cf) : sm (put m k (cf m k.1 k.2 + v)) f = sm m f + v * f k.1 k.2 := by
  unfold put
  split
  · rename_i h
    have : ∀ m : Mp, (m.map (·.1)).Nodup → k ∈ m.map (·.1) → ∀ x, sm (m.map fun e => if e.1 = k then (e.1, x) else e) f = sm m f + (x - cf m k.1 k.2) * f k.1 k.2 := by
      intro m
      induction m with
      | nil => intro _ h; cases h
      | cons e m ih =>
        intro nd h x
        rw [List.map_cons, List.nodup_cons] at nd
        rw [List.map_cons, sm_cons, sm_cons, cf_cons]
        by_cases he : e.1 = k
        · have hn : ∀ y ∈ m, y.1 ≠ k := fun y hy q => nd.1 (by rw [he, ← q]; exact List.mem_map.mpr ⟨y, hy, rfl⟩)
          have e1 : (m.map fun e => if e.1 = k then (e.1, x) else e) = m := by
            conv => rhs; rw [← List.map_id m]
            exact List.map_congr_left fun y hy => by rw [if_neg (hn y hy)]; rfl
          rw [e1, if_pos he, if_pos (show e.1 = (k.1, k.2) from he), cf_not (by rw [← he]; exact nd.1)]
          show x * f e.1.1 e.1.2 + sm m f = _
          rw [he, Int.add_zero, Int.sub_mul]; omega
        · rw [if_neg he, if_neg (show ¬ e.1 = (k.1, k.2) from he)]
          rw [List.map_cons, List.mem_cons] at h
          have := ih nd.2 (h.resolve_left (Ne.symm he)) x
          rw [this, Int.zero_add]; omega
    have hk : k ∈ m.map (·.1) := by
      obtain ⟨e, h1, h2⟩ := List.any_eq_true.mp h
      exact List.mem_map.mpr ⟨e, h1, by simpa using h2⟩
    rw [this m nd hk]
    have : cf m k.1 k.2 + v - cf m k.1 k.2 = v := by omega
    rw [this]
  · rename_i h
    have hk : k ∉ m.map (·.1) := fun q => by
      obtain ⟨e, h1, h2⟩ := List.mem_map.mp q
      exact h (List.any_eq_true.mpr ⟨e, h1, by simpa using h2⟩)
    rw [sm_append, sm_cons, sm_nil, cf_not (a := k.1) (b := k.2) hk]
    simp
theorem cf_put {m : Mp} (nd : (m.map (·.1)).Nodup) (k : Nat × Nat) (v : Int) (a b : Nat) : cf (put m k (cf m k.1 k.2 + v)) a b = cf m a b + v * dl a b k.1 k.2 := sm_put nd k v (dl a b)
/-! ### trimmed tables -/
def table (c : Cf) (H W : Nat) : List (List Int) := (List.range H).map fun i => (List.range W).map fun j => c i j
def Can (c : Cf) (t : List (List Int)) (H W : Nat) : Prop := t = table c H W ∧ Sup H W c ∧ (0 < H → ∃ j, c (H - 1) j ≠ 0) ∧ (0 < W → ∃ i, c i (W - 1) ≠ 0)
theorem Can.uniq {c : Cf} {t t' : List (List Int)} {H W H' W' : Nat} (a : Can c t H W) (b : Can c t' H' W') : t = t' := by
  obtain ⟨a1, a2, a3, a4⟩ := a
  obtain ⟨b1, b2, b3, b4⟩ := b
  have h1 : H ≤ H' := by
    rcases Nat.eq_zero_or_pos H with h | h
    · omega
    · obtain ⟨j, hj⟩ := a3 h
      have := (b2 _ _ hj).1; omega
  have h2 : H' ≤ H := by
    rcases Nat.eq_zero_or_pos H' with h | h
    · omega
    · obtain ⟨j, hj⟩ := b3 h
      have := (a2 _ _ hj).1; omega
  have h3 : W ≤ W' := by
    rcases Nat.eq_zero_or_pos W with h | h
    · omega
    · obtain ⟨j, hj⟩ := a4 h
      have := (b2 _ _ hj).2; omega
  have h4 : W' ≤ W := by
    rcases Nat.eq_zero_or_pos W' with h | h
    · omega
    · obtain ⟨j, hj⟩ := b4 h
      have := (a2 _ _ hj).2; omega
  have e1 : H = H' := by omega
  have e2 : W = W' := by omega
  rw [a1, b1, e1, e2]
theorem Can.zero {c : Cf} {t : List (List Int)} {H W : Nat} (a : Can c t H W) (h : H = 0) : W = 0 := by
  obtain ⟨_, a2, _, a4⟩ := a
  rcases Nat.eq_zero_or_pos W with w | w
  · exact w
  · obtain ⟨i, hi⟩ := a4 w
    have := (a2 _ _ hi).1; omega
end K37

end

section
set_option Elab.async false
set_option linter.all false
set_option maxHeartbeats 1000000
/-! M37b: what trimmed does to a table. -/
namespace K37
open G
def coefG (g : List (List Int)) : Cf := fun i j => ((g[i]?.getD [])[j]?).getD 0
def hiL : Nat → List (List Int) → List Int
  | _, [] => []
  | k, r :: g => if (r.any fun x => x != 0) = true then ((k : Int) + 1) :: hiL (k + 1) g else hiL (k + 1) g
def wiR : Nat → List Int → List Int
  | _, [] => []
  | k, x :: r => if (x != 0) = true then ((k : Int) + 1) :: wiR (k + 1) r else wiR (k + 1) r
def wiL (g : List (List Int)) : List Int := g.flatMap (wiR 0)
def mx0 : List Int → Int
  | [] => 0
  | n :: ns => maxI n ns
theorem mx0_spec (l : List Int) : (∀ x ∈ l, x ≤ mx0 l) ∧ (mx0 l ∈ l ∨ l = [] ∧ mx0 l = 0) := by
  cases l with
  | nil => exact ⟨(fun x h => by cases h), Or.inr ⟨rfl, rfl⟩⟩
  | cons n ns =>
    obtain ⟨a, b, c⟩ := maxI_le n ns
    refine ⟨fun x hx => ?_, .inl ?_⟩
    · rcases List.mem_cons.mp hx with rfl | hx
      · exact a
      · exact b x hx
    · show maxI n ns ∈ n :: ns
      rcases c with c | c
      · rw [c]; exact List.mem_cons_self ..
      · exact List.mem_cons_of_mem _ c
theorem mem_hiL {x : Int} : ∀ {k : Nat} {g : List (List Int)}, x ∈ hiL k g ↔ ∃ i r, g[i]? = some r ∧ (∃ j : Nat, (r[j]?).getD 0 ≠ 0) ∧ x = ((k + i + 1 : Nat) : Int)
  | k, [] => by simp [hiL]
  | k, r :: g => by
    have ih := mem_hiL (x := x) (k := k + 1) (g := g)
    have nz : (r.any fun x => x != 0) = true ↔ ∃ j : Nat, (r[j]?).getD 0 ≠ 0 := by
      rw [List.any_eq_true]
      constructor
      · rintro ⟨y, hy, h⟩
        obtain ⟨j, hj⟩ := List.mem_iff_getElem?.mp hy
        exact ⟨j, by rw [hj]; simpa using h⟩
      · rintro ⟨j, h⟩
        cases q : r[j]? with
        | none => rw [q] at h; exact absurd rfl h
        | some y => exact ⟨y, List.mem_of_getElem? q, by rw [q] at h; simpa using h⟩
    unfold hiL
    constructor
    · intro h
      have go : x ∈ hiL (k + 1) g → ∃ i r', (r :: g)[i]? = some r' ∧ (∃ j : Nat, (r'[j]?).getD 0 ≠ 0) ∧ x = ((k + i + 1 : Nat) : Int) := fun h => by
        obtain ⟨i, r', h1, h2, h3⟩ := ih.mp h
        exact ⟨i + 1, r', by simpa using h1, h2, by rw [h3]; congr 1; omega⟩
      split at h
      · rename_i q
        rcases List.mem_cons.mp h with rfl | h
        · exact ⟨0, r, rfl, nz.mp q, by simp⟩
        · exact go h
      · exact go h
    · rintro ⟨i, r', h1, h2, h3⟩
      cases i with
      | zero =>
        have : r' = r := by simpa using h1.symm
        subst this
        rw [if_pos (nz.mpr h2)]
        exact List.mem_cons.mpr (.inl (by rw [h3]; simp))
      | succ i =>
        have : x ∈ hiL (k + 1) g := ih.mpr ⟨i, r', by simpa using h1, h2, by rw [h3]; congr 1; omega⟩
        split
        · exact List.mem_cons_of_mem _ this
        · exact this
theorem mem_wiR {x : Int} : ∀ {k : Nat} {r : List Int}, x ∈ wiR k r ↔ ∃ j : Nat, (r[j]?).getD 0 ≠ 0 ∧ x = ((k + j + 1 : Nat) : Int)
  | k, [] => by simp [wiR]
  | k, y :: r => by
    have ih := mem_wiR (x := x) (k := k + 1) (r := r)
    unfold wiR
    have go : x ∈ wiR (k + 1) r ↔ ∃ j : Nat, ((y :: r)[j + 1]?).getD 0 ≠ 0 ∧ x = ((k + (j + 1) + 1 : Nat) : Int) := by
      rw [ih]
      constructor
      · rintro ⟨j, h1, h2⟩; exact ⟨j, by simpa using h1, by rw [h2]; congr 1; omega⟩
      · rintro ⟨j, h1, h2⟩; exact ⟨j, by simpa using h1, by rw [h2]; congr 1; omega⟩
    constructor
    · intro h
      split at h
      · rename_i q
        rcases List.mem_cons.mp h with rfl | h
        · exact ⟨0, by simpa using q, by simp⟩
        · obtain ⟨j, a, b⟩ := go.mp h
          exact ⟨j + 1, a, b⟩
      · obtain ⟨j, a, b⟩ := go.mp h
        exact ⟨j + 1, a, b⟩
    · rintro ⟨j, h1, h2⟩
      cases j with
      | zero =>
        rw [if_pos (by simpa using h1)]
        exact List.mem_cons.mpr (.inl (by rw [h2]; simp))
      | succ j =>
        have := go.mpr ⟨j, h1, h2⟩
        split
        · exact List.mem_cons_of_mem _ this
        · exact this
theorem coefG_at {g : List (List Int)} {i : Nat} {r : List Int} (h : g[i]? = some r) (j : Nat) : coefG g i j = (r[j]?).getD 0 := by unfold coefG; rw [h]; rfl
theorem coefG_ne {g : List (List Int)} {i j : Nat} (h : coefG g i j ≠ 0) : ∃ r, g[i]? = some r ∧ (r[j]?).getD 0 ≠ 0 := by
  unfold coefG at h
  cases q : g[i]? with
  | none => rw [q] at h; exact absurd (by simp) h
  | some r => exact ⟨r, rfl, by rw [q] at h; exact h⟩
def Rect (w : Nat) (g : List (List Int)) : Prop := ∀ r ∈ g, r.length = w
theorem trim_can {w : Nat} {g : List (List Int)} (re : Rect w g) : ∃ H W : Nat, mx0 (hiL 0 g) = H ∧ mx0 (wiL g) = W ∧ Can (coefG g) ((g.take H).map fun r => r.take W) H W := by
  obtain ⟨a1, a2⟩ := mx0_spec (hiL 0 g)
  obtain ⟨b1, b2⟩ := mx0_spec (wiL g)
  have hH : ∃ H : Nat, mx0 (hiL 0 g) = H ∧ H ≤ g.length ∧ (0 < H → ∃ j, coefG g (H - 1) j ≠ 0) := by
    rcases a2 with h | ⟨_, h⟩
    · obtain ⟨i, r, h1, ⟨j, hj⟩, h3⟩ := mem_hiL.mp h
      refine ⟨0 + i + 1, h3, by have := (List.getElem?_eq_some_iff.mp h1).1; omega, fun _ => ⟨j, ?_⟩⟩
      rw [show 0 + i + 1 - 1 = i by omega, coefG_at h1]; exact hj
    · exact ⟨0, h, Nat.zero_le _, fun h => absurd h (by omega)⟩
  have hW : ∃ W : Nat, mx0 (wiL g) = W ∧ W ≤ w ∧ (0 < W → ∃ i, coefG g i (W - 1) ≠ 0) ∨ (W = 0 ∧ mx0 (wiL g) = 0) := by
    rcases b2 with h | ⟨_, h⟩
    · obtain ⟨r, hr, hx⟩ := List.mem_flatMap.mp h
      obtain ⟨j, h1, h2⟩ := mem_wiR.mp hx
      obtain ⟨i, hi⟩ := List.mem_iff_getElem?.mp hr
      refine ⟨0 + j + 1, .inl ⟨h2, ?_, fun _ => ⟨i, ?_⟩⟩⟩
      · cases q : r[j]? with
        | none => rw [q] at h1; exact absurd rfl h1
        | some y =>
          have := (List.getElem?_eq_some_iff.mp q).1
          have := re r hr
          omega
      · rw [show 0 + j + 1 - 1 = j by omega, coefG_at hi]; exact h1
    · exact ⟨0, .inr ⟨rfl, h⟩⟩
  obtain ⟨H, eH, lH, nH⟩ := hH
  obtain ⟨W, hW⟩ := hW
  have eW : mx0 (wiL g) = W ∧ W ≤ w ∧ (0 < W → ∃ i, coefG g i (W - 1) ≠ 0) := by
    rcases hW with h | ⟨rfl, h⟩
    · exact h
    · exact ⟨h, Nat.zero_le _, fun h => absurd h (by omega)⟩
  obtain ⟨eW, lW, nW⟩ := eW
  refine ⟨H, W, eH, eW, ?_, ?_, nH, nW⟩
  · refine List.ext_getElem (by simp [table]; omega) fun i h1 h2 => ?_
    simp only [table, List.length_map, List.length_range] at h2
    have hi : i < g.length := by omega
    refine List.ext_getElem ?_ fun j h3 h4 => ?_
    · have := re _ (List.getElem_mem hi)
      simp [table]
      omega
    · simp only [table, List.getElem_map, List.length_map, List.length_range, List.getElem_range] at h4
      have hw := re _ (List.getElem_mem hi)
      have : coefG g i j = g[i][j]'(by omega) := by
        rw [coefG_at (List.getElem?_eq_getElem hi), List.getElem?_eq_getElem (by omega)]; rfl
      simp [table, this]
  · intro i j h
    obtain ⟨r, h1, h2⟩ := coefG_ne h
    have x1 := a1 _ (mem_hiL.mpr ⟨i, r, h1, ⟨j, h2⟩, rfl⟩)
    have x2 := b1 _ (List.mem_flatMap.mpr ⟨r, List.mem_of_getElem? h1, mem_wiR.mpr ⟨j, h2, rfl⟩⟩)
    rw [eH] at x1; rw [eW] at x2
    omega
theorem coef_table {c : Cf} {H W : Nat} (s : Sup H W c) (i j : Nat) : coefG (table c H W) i j = c i j := by
  unfold coefG table
  rw [List.getElem?_map]
  by_cases hi : i < H
  · by_cases hj : j < W
    · simp [hi, hj]
    · have : c i j = 0 := Decidable.byContradiction fun h => hj (s i j h).2
      simp [hi, hj, this]
  · have : c i j = 0 := Decidable.byContradiction fun h => hi (s i j h).1
    simp [hi, this]
end K37

end

section
set_option Elab.async false
set_option linter.all false
set_option maxRecDepth 100000
set_option maxHeartbeats 0
namespace K37
open PySem PySem.Spec PyProof.Rows L2 G
def noT : ITo := .no
abbrev top (i : Nat) : Stmt := PySem.Challenge.pw_spanbench_k37_polynomials.main.body.getD i (.Pass ⟨0, 0, 0, 0⟩)
/-- power(base, exponent) -/
def z0_1 : ISs := (.cons (.asg 2 (.bin .mul (.var 2) (.var 0))) .nil)
def b0 : ISs := (.cons (.asg 2 (.int 1)) (.cons (.fr (.nm 3) (.rng1 (.var 1)) z0_1) (.cons (.ret (.var 2)) .nil)))
def f0 : FD := ⟨"power", 2, ["base", "exponent", "found", "_"], b0⟩
def d0 : He.DefD := ⟨("power", none), "power", "power", defArgs (top 1), defBody (top 1), defScope (top 1), [], []⟩
/-- trimmed(rows) -/
def e1_1 : IE := (.cmp .ne (.var 5) (.int 0))
def t1_1 : ITo := (.yes (.val (.bi .any (.cons (.comp true (.nm 5) (.seq (.var 4)) [("item", 5)] noT e1_1) .nil))))
def e1_2 : IE := (.bin .add (.var 3) (.int 1))
def i1_1 : IIt := (.enum (.var 4))
def t1_2 : ITo := (.yes (.cmp .ne (.var 5) (.int 0)))
def e1_3 : IE := (.bin .add (.var 3) (.int 1))
def e1_4 : IE := (.bi .tuple (.cons (.sl true (.var 4) .no (.yes (.var 2))) .nil))
def b1 : ISs := (.cons (.asg 1 (.maxd (.comp true (.tp [3, 4]) (.enum (.var 0)) [("at", 3), ("row", 4)] t1_1 e1_2) (.int 0))) (.cons (.asg 2 (.maxd (.comp2 true (.nm 4) (.seq (.var 0)) [("row", 4), ("at", 3), ("item", 5)] noT (.tp [3, 5]) i1_1 [3, 5] t1_2 e1_3) (.int 0))) (.cons (.ret (.bi .tuple (.cons (.comp true (.nm 4) (.seq (.sl true (.var 0) .no (.yes (.var 1)))) [("row", 4)] noT e1_4) .nil))) .nil)))
def f1 : FD := ⟨"trimmed", 1, ["rows", "high", "wide", "at", "row", "item"], b1⟩
def d1 : He.DefD := ⟨("trimmed", none), "trimmed", "trimmed", defArgs (top 3), defBody (top 3), defScope (top 3), [], []⟩
/-- item_at(polynomial, i, j) -/
def b2 : ISs := (.cons (.ret (.ite (.and (.cmp .lt (.var 1) (.bi .len (.cons (.var 0) .nil))) (.cmp .lt (.var 2) (.bi .len (.cons (.ix (.var 0) (.var 1)) .nil)))) (.ix (.ix (.var 0) (.var 1)) (.var 2)) (.int 0))) .nil)
def f2 : FD := ⟨"item_at", 3, ["polynomial", "i", "j"], b2⟩
def d2 : He.DefD := ⟨("item_at", none), "item_at", "item_at", defArgs (top 4), defBody (top 4), defScope (top 4), [], []⟩
/-- width_of(polynomial) -/
def e3_1 : IE := (.bi .len (.cons (.var 1) .nil))
def b3 : ISs := (.cons (.ret (.maxd (.comp true (.nm 1) (.seq (.var 0)) [("row", 1)] noT e3_1) (.int 0))) .nil)
def f3 : FD := ⟨"width_of", 1, ["polynomial", "row"], b3⟩
def d3 : He.DefD := ⟨("width_of", none), "width_of", "width_of", defArgs (top 5), defBody (top 5), defScope (top 5), [], []⟩
/-- plus(one, other) -/
def e4_1 : IE := (.bin .add (.call 2 (.cons (.var 0) (.cons (.var 4) (.cons (.var 5) .nil)))) (.call 2 (.cons (.var 1) (.cons (.var 4) (.cons (.var 5) .nil)))))
def e4_2 : IE := (.comp true (.nm 5) (.rng1 (.var 3)) [("j", 5)] noT e4_1)
def b4 : ISs := (.cons (.asgT [2, 3] (.tup (.cons (.bi .max2 (.cons (.bi .len (.cons (.var 0) .nil)) (.cons (.bi .len (.cons (.var 1) .nil)) .nil))) (.cons (.bi .max2 (.cons (.call 3 (.cons (.var 0) .nil)) (.cons (.call 3 (.cons (.var 1) .nil)) .nil))) .nil)))) (.cons (.ret (.call 1 (.cons (.comp true (.nm 4) (.rng1 (.var 2)) [("i", 4)] noT e4_2) .nil))) .nil))
def f4 : FD := ⟨"plus", 2, ["one", "other", "high", "wide", "i", "j"], b4⟩
def d4 : He.DefD := ⟨("plus", none), "plus", "plus", defArgs (top 6), defBody (top 6), defScope (top 6), [], []⟩
/-- times(one, other) -/
def e5_1 : IE := (.rep false (.lst true (.cons (.int 0) .nil)) (.var 3))
def z5_1 : ISs := (.cons (.augS (.ix (.var 4) (.bin .add (.var 5) (.var 10))) (.bin .add (.var 7) (.var 12)) .add (.bin .mul (.var 8) (.var 13))) .nil)
def z5_2 : ISs := (.cons (.fr (.tp [12, 13]) (.enum (.var 11)) z5_1) .nil)
def z5_3 : ISs := (.cons (.fr (.tp [10, 11]) (.enum (.var 1)) z5_2) .nil)
def z5_4 : ISs := (.cons (.fr (.tp [7, 8]) (.enum (.var 6)) z5_3) .nil)
def b5 : ISs := (.cons (.asgT [2, 3] (.tup (.cons (.bin .add (.bi .len (.cons (.var 0) .nil)) (.bi .len (.cons (.var 1) .nil))) (.cons (.bin .add (.call 3 (.cons (.var 0) .nil)) (.call 3 (.cons (.var 1) .nil))) .nil)))) (.cons (.asg 4 (.comp false (.nm 9) (.rng1 (.var 2)) [("_", 9)] noT e5_1)) (.cons (.fr (.tp [5, 6]) (.enum (.var 0)) z5_4) (.cons (.ret (.call 1 (.cons (.var 4) .nil))) .nil))))
def f5 : FD := ⟨"times", 2, ["one", "other", "high", "wide", "rows", "i", "row", "j", "item", "_", "k", "more", "at", "factor"], b5⟩
def d5 : He.DefD := ⟨("times", none), "times", "times", defArgs (top 7), defBody (top 7), defScope (top 7), [], []⟩
/-- value_at(polynomial, x, y) -/
def i6_1 : IIt := (.enum (.var 4))
def e6_1 : IE := (.bin .mul (.bin .mul (.var 6) (.call 0 (.cons (.var 1) (.cons (.var 3) .nil)))) (.call 0 (.cons (.var 2) (.cons (.var 5) .nil))))
def b6 : ISs := (.cons (.ret (.bi .sum (.cons (.comp2 true (.tp [3, 4]) (.enum (.var 0)) [("i", 3), ("row", 4), ("j", 5), ("item", 6)] noT (.tp [5, 6]) i6_1 [5, 6] noT e6_1) .nil))) .nil)
def f6 : FD := ⟨"value_at", 3, ["polynomial", "x", "y", "i", "row", "j", "item"], b6⟩
def d6 : He.DefD := ⟨("value_at", none), "value_at", "value_at", defArgs (top 8), defBody (top 8), defScope (top 8), [], []⟩
/-- _law_cell(script, k) -/
def b7 : ISs := (.cons (.ret (.ite (.cmp .lt (.var 1) (.bi .len (.cons (.var 0) .nil))) (.ix (.var 0) (.var 1)) (.bin .add (.bin .mul (.int 6011) (.var 1)) (.bin .mod (.bi .int (.cons (.bi .sum (.cons (.sl true (.var 0) .no (.yes (.int 1))) .nil)) .nil)) (.int 1000033))))) .nil)
def f7 : FD := ⟨"_law_cell", 2, ["script", "k"], b7⟩
def d7 : He.DefD := ⟨("_law_cell", none), "_law_cell", "_law_cell", defArgs (top 10), defBody (top 10), defScope (top 10), [], []⟩
/-- _law_box(great) -/
def b8 : ISs := (.cons (.ret (.lst false (.cons (.bi .abs (.cons (.var 0) .nil)) (.cons (.cmp .ge (.bi .abs (.cons (.var 0) .nil)) (.bin .pow (.int 10) (.int 18))) (.cons (.bin .mod (.bi .int (.cons (.bi .abs (.cons (.var 0) .nil)) .nil)) (.int 2147483629)) (.cons (.int 0) .nil)))))) .nil)
def f8 : FD := ⟨"_law_box", 1, ["great"], b8⟩
def d8 : He.DefD := ⟨("_law_box", none), "_law_box", "_law_box", defArgs (top 11), defBody (top 11), defScope (top 11), [], []⟩
/-- _law_take(box, many) -/
def b9 : ISs := (.cons (.ife (.and (.val (.ix (.var 0) (.int 1))) (.cmp .gt (.ix (.var 0) (.int 0)) (.int 0))) (.cons (.asg 3 (.bin .mod (.bi .int (.cons (.ix (.var 0) (.int 0)) .nil)) (.var 1))) (.cons (.sub (.var 0) (.int 0) (.bin .fdiv (.ix (.var 0) (.int 0)) (.var 1))) (.cons (.ret (.var 3)) .nil))) .nil) (.cons (.sub (.var 0) (.int 3) (.bin .add (.ix (.var 0) (.int 3)) (.int 1))) (.cons (.asg 2 (.bin .mod (.bi .int (.cons (.bin .pow (.bin .add (.bin .add (.ix (.var 0) (.int 2)) (.bin .mul (.int 15486263) (.ix (.var 0) (.int 3)))) (.int 179425063)) (.int 5)) .nil)) (.int 2147483647))) (.cons (.ret (.bin .mod (.bi .int (.cons (.bin .fdiv (.bin .mod (.bi .int (.cons (.bin .pow (.bin .add (.bin .mul (.var 2) (.int 48271)) (.bin .mul (.int 104729) (.ix (.var 0) (.int 3)))) (.int 3)) .nil)) (.int 2147483587)) (.int 64)) .nil)) (.var 1))) .nil))))
def f9 : FD := ⟨"_law_take", 2, ["box", "many", "mixed", "digit"], b9⟩
def d9 : He.DefD := ⟨("_law_take", none), "_law_take", "_law_take", defArgs (top 12), defBody (top 12), defScope (top 12), [], []⟩
/-- _law_same(given, due) -/
def t10_1 : ITo := (.yes (.cmp .ne (.sl true (.var 0) (.yes (.var 2)) (.yes (.bin .add (.var 2) (.int 1)))) (.ix (.var 1) (.var 2))))
def e10_1 : IE := (.var 2)
def t10_2 : ITo := (.yes (.not (.val (.call 10 (.cons (.ix (.var 0) (.var 2)) (.cons (.ix (.var 1) (.var 2)) .nil))))))
def e10_2 : IE := (.var 2)
def b10 : ISs := (.cons (.ife (.or (.cmp .is (.var 1) .non) (.val (.isi (.var 1) .bool))) (.cons (.ret (.ite (.cmp .is (.var 1) .non) (.cmp .is (.var 0) .non) (.andv (.isi (.var 0) .bool) (.cmp .eq (.cmp .is (.var 0) (.bl true)) (.cmp .is (.var 1) (.bl true)))))) .nil) .nil) (.cons (.ife (.val (.isi (.var 1) .int)) (.cons (.ret (.andv (.isi (.var 0) .int) (.andv (.notv (.isi (.var 0) .bool)) (.cmp .eq (.bin .sub (.bi .int (.cons (.var 0) .nil)) (.var 1)) (.int 0))))) .nil) .nil) (.cons (.ife (.val (.isi (.var 1) .str)) (.cons (.ret (.andv (.isi (.var 0) .str) (.andv (.cmp .eq (.bi .len (.cons (.var 0) .nil)) (.bi .len (.cons (.var 1) .nil))) (.cmp .eq (.comp true (.nm 2) (.rng1 (.bi .len (.cons (.var 1) .nil))) [("k", 2)] t10_1 e10_1) (.lst true .nil))))) .nil) .nil) (.cons (.ife (.or (.cmp .ne (.isi (.var 0) .list) (.isi (.var 1) .list)) (.cmp .ne (.isi (.var 0) .tuple) (.isi (.var 1) .tuple))) (.cons (.ret (.bl false)) .nil) .nil) (.cons (.ret (.andv (.cmp .eq (.bi .len (.cons (.var 0) .nil)) (.bi .len (.cons (.var 1) .nil))) (.cmp .eq (.comp true (.nm 2) (.rng1 (.bi .len (.cons (.var 1) .nil))) [("k", 2)] t10_2 e10_2) (.lst true .nil)))) .nil)))))
def f10 : FD := ⟨"_law_same", 2, ["given", "due", "k"], b10⟩
def d10 : He.DefD := ⟨("_law_same", none), "_law_same", "_law_same", defArgs (top 13), defBody (top 13), defScope (top 13), [], []⟩
/-- _law_trimmed(counts) -/
def t11_1 : ITo := (.yes (.cmp .ne (.ix (.var 0) (.var 4)) (.int 0)))
def e11_1 : IE := (.var 4)
def e11_2 : IE := (.var 6)
def e11_3 : IE := (.var 5)
def e11_4 : IE := (.dget (.var 0) (.tup (.cons (.var 5) (.cons (.var 6) .nil))) (.int 0))
def e11_5 : IE := (.bi .tuple (.cons (.comp true (.nm 6) (.rng1 (.var 3)) [("j", 6)] noT e11_4) .nil))
def b11 : ISs := (.cons (.asg 1 (.comp false (.nm 4) (.keys (.var 0)) [("key", 4)] t11_1 e11_1)) (.cons (.fzv 1) (.cons (.ife (.cmp .eq (.var 1) (.lst true .nil)) (.cons (.ret (.tup .nil)) .nil) .nil) (.cons (.asgT [2, 3] (.tup (.cons (.bin .add (.bi .max1 (.cons (.comp true (.tp [5, 6]) (.seq (.var 1)) [("i", 5), ("j", 6)] noT e11_3) .nil)) (.int 1)) (.cons (.bin .add (.bi .max1 (.cons (.comp true (.tp [5, 6]) (.seq (.var 1)) [("i", 5), ("j", 6)] noT e11_2) .nil)) (.int 1)) .nil)))) (.cons (.ret (.bi .tuple (.cons (.comp true (.nm 5) (.rng1 (.var 2)) [("i", 5)] noT e11_5) .nil))) .nil)))))
def f11 : FD := ⟨"_law_trimmed", 1, ["counts", "ends", "high", "wide", "key", "i", "j"], b11⟩
def d11 : He.DefD := ⟨("_law_trimmed", none), "_law_trimmed", "_law_trimmed", defArgs (top 14), defBody (top 14), defScope (top 14), [], []⟩
/-- _law_number(box) -/
def b12 : ISs := (.cons (.asg 1 (.call 9 (.cons (.var 0) (.cons (.int 8) .nil)))) (.cons (.asg 2 (.ite (.cmp .lt (.var 1) (.int 6)) (.ix (.lst true (.cons (.int 0) (.cons (.int 1) (.cons (.int 2) (.cons (.int 3) (.cons (.int 7) .nil)))))) (.call 9 (.cons (.var 0) (.cons (.int 5) .nil)))) (.bin .add (.bin .pow (.int 10) (.int 29)) (.call 9 (.cons (.var 0) (.cons (.int 1000) .nil)))))) (.cons (.ret (.ite (.cmp .eq (.call 9 (.cons (.var 0) (.cons (.int 2) .nil))) (.int 0)) (.var 2) (.bin .sub (.int 0) (.var 2)))) .nil)))
def f12 : FD := ⟨"_law_number", 1, ["box", "way", "some"], b12⟩
def d12 : He.DefD := ⟨("_law_number", none), "_law_number", "_law_number", defArgs (top 15), defBody (top 15), defScope (top 15), [], []⟩
/-- _law_drawn(box, great) -/
def z13_1 : ISs := (.cons (.ife (.cmp .gt (.call 9 (.cons (.var 0) (.cons (.int 3) .nil))) (.int 0)) (.cons (.sub (.var 4) (.tup (.cons (.var 5) (.cons (.var 6) .nil))) (.call 12 (.cons (.var 0) .nil))) .nil) .nil) .nil)
def z13_2 : ISs := (.cons (.fr (.nm 6) (.rng1 (.var 3)) z13_1) .nil)
def b13 : ISs := (.cons (.asgT [2, 3] (.ite (.val (.var 1)) (.tup (.cons (.int 12) (.cons (.int 12) .nil))) (.ix (.lst true (.cons (.tup (.cons (.int 2) (.cons (.int 2) .nil))) (.cons (.tup (.cons (.int 3) (.cons (.int 1) .nil))) (.cons (.tup (.cons (.int 1) (.cons (.int 3) .nil))) (.cons (.tup (.cons (.int 12) (.cons (.int 2) .nil))) (.cons (.tup (.cons (.int 4) (.cons (.int 4) .nil))) (.cons (.tup (.cons (.int 0) (.cons (.int 2) .nil))) (.cons (.tup (.cons (.int 5) (.cons (.int 1) .nil))) (.cons (.tup (.cons (.int 2) (.cons (.int 12) .nil))) .nil))))))))) (.call 9 (.cons (.var 0) (.cons (.int 8) .nil)))))) (.cons (.asg 4 .dnew) (.cons (.fr (.nm 5) (.rng1 (.var 2)) z13_2) (.cons (.fzv 4) (.cons (.ret (.var 4)) .nil)))))
def f13 : FD := ⟨"_law_drawn", 2, ["box", "great", "high", "wide", "found", "i", "j"], b13⟩
def d13 : He.DefD := ⟨("_law_drawn", none), "_law_drawn", "_law_drawn", defArgs (top 16), defBody (top 16), defScope (top 16), [], []⟩
/-- _law_like(box, counts) -/
def e14_1 : IE := (.var 7)
def e14_2 : IE := (.var 6)
def z14_1 : ISs := (.cons (.asg 8 (.orv (.cmp .eq (.var 2) (.int 0)) (.orv (.andv (.cmp .eq (.var 2) (.int 1)) (.cmp .eq (.var 6) (.var 3))) (.orv (.andv (.cmp .eq (.var 2) (.int 2)) (.cmp .eq (.var 7) (.var 4))) (.andv (.cmp .eq (.var 2) (.int 3)) (.orv (.cmp .eq (.var 6) (.var 3)) (.cmp .eq (.var 7) (.var 4)))))))) (.cons (.sub (.var 5) (.tup (.cons (.var 6) (.cons (.var 7) .nil))) (.ite (.val (.var 8)) (.bin .sub (.int 0) (.ix (.var 1) (.tup (.cons (.var 6) (.cons (.var 7) .nil))))) (.call 12 (.cons (.var 0) .nil)))) .nil))
def b14 : ISs := (.cons (.asgT [2, 3, 4] (.tup (.cons (.call 9 (.cons (.var 0) (.cons (.int 5) .nil))) (.cons (.bi .max1 (.cons (.cat true (.comp true (.tp [6, 7]) (.keys (.var 1)) [("i", 6), ("j", 7)] noT e14_2) (.lst true (.cons (.int 0) .nil))) .nil)) (.cons (.bi .max1 (.cons (.cat true (.comp true (.tp [6, 7]) (.keys (.var 1)) [("i", 6), ("j", 7)] noT e14_1) (.lst true (.cons (.int 0) .nil))) .nil)) .nil))))) (.cons (.asg 5 .dnew) (.cons (.fr (.tp [6, 7]) (.keys (.var 1)) z14_1) (.cons (.fzv 5) (.cons (.ret (.var 5)) .nil)))))
def f14 : FD := ⟨"_law_like", 2, ["box", "counts", "way", "rows", "columns", "found", "i", "j", "gone"], b14⟩
def d14 : He.DefD := ⟨("_law_like", none), "_law_like", "_law_like", defArgs (top 17), defBody (top 17), defScope (top 17), [], []⟩
/-- _law_plus(one, other) -/
def z15_1 : ISs := (.cons (.sub (.var 2) (.var 3) (.bin .add (.dget (.var 2) (.var 3) (.int 0)) (.ix (.var 1) (.var 3)))) .nil)
def b15 : ISs := (.cons (.asg 2 (.dcopy (.var 0))) (.cons (.fr (.nm 3) (.keys (.var 1)) z15_1) (.cons (.fzv 2) (.cons (.ret (.var 2)) .nil))))
def f15 : FD := ⟨"_law_plus", 2, ["one", "other", "found", "key"], b15⟩
def d15 : He.DefD := ⟨("_law_plus", none), "_law_plus", "_law_plus", defArgs (top 18), defBody (top 18), defScope (top 18), [], []⟩
/-- _law_times(one, other) -/
def z16_1 : ISs := (.cons (.sub (.var 2) (.tup (.cons (.bin .add (.var 3) (.var 5)) (.cons (.bin .add (.var 4) (.var 6)) .nil))) (.bin .add (.dget (.var 2) (.tup (.cons (.bin .add (.var 3) (.var 5)) (.cons (.bin .add (.var 4) (.var 6)) .nil))) (.int 0)) (.bin .mul (.ix (.var 0) (.tup (.cons (.var 3) (.cons (.var 4) .nil)))) (.ix (.var 1) (.tup (.cons (.var 5) (.cons (.var 6) .nil))))))) .nil)
def z16_2 : ISs := (.cons (.fr (.tp [5, 6]) (.keys (.var 1)) z16_1) .nil)
def b16 : ISs := (.cons (.asg 2 .dnew) (.cons (.fr (.tp [3, 4]) (.keys (.var 0)) z16_2) (.cons (.fzv 2) (.cons (.ret (.var 2)) .nil))))
def f16 : FD := ⟨"_law_times", 2, ["one", "other", "found", "i", "j", "k", "n"], b16⟩
def d16 : He.DefD := ⟨("_law_times", none), "_law_times", "_law_times", defArgs (top 19), defBody (top 19), defScope (top 19), [], []⟩
/-- _law_power(x, n) -/
def z17_1 : ISs := (.cons (.asg 2 (.bin .mul (.var 2) (.var 0))) .nil)
def b17 : ISs := (.cons (.asg 2 (.int 1)) (.cons (.fr (.nm 3) (.rng1 (.var 1)) z17_1) (.cons (.ret (.var 2)) .nil)))
def f17 : FD := ⟨"_law_power", 2, ["x", "n", "found", "turn"], b17⟩
def d17 : He.DefD := ⟨("_law_power", none), "_law_power", "_law_power", defArgs (top 20), defBody (top 20), defScope (top 20), [], []⟩
/-- _law_value(counts, x, y) -/
def e18_1 : IE := (.bin .mul (.bin .mul (.ix (.var 0) (.tup (.cons (.var 3) (.cons (.var 4) .nil)))) (.call 17 (.cons (.var 1) (.cons (.var 3) .nil)))) (.call 17 (.cons (.var 2) (.cons (.var 4) .nil))))
def b18 : ISs := (.cons (.ret (.bi .sum (.cons (.comp true (.tp [3, 4]) (.keys (.var 0)) [("i", 3), ("j", 4)] noT e18_1) .nil))) .nil)
def f18 : FD := ⟨"_law_value", 3, ["counts", "x", "y", "i", "j"], b18⟩
def d18 : He.DefD := ⟨("_law_value", none), "_law_value", "_law_value", defArgs (top 21), defBody (top 21), defScope (top 21), [], []⟩
/-- _law_pair_right(box, one, other, by_name) -/
def z19_1 : ISs := (.cons (.ife (.not (.val (.call 10 (.cons (.ite (.val (.var 3)) (.callK 0 .nil (.cons (.var 5) (.cons (.var 4) .nil))) (.call 4 (.cons (.var 4) (.cons (.var 5) .nil)))) (.cons (.var 6) .nil))))) (.cons (.ret (.bl false)) .nil) .nil) (.cons (.ife (.not (.val (.call 10 (.cons (.ite (.val (.var 3)) (.callK 1 .nil (.cons (.var 5) (.cons (.var 4) .nil))) (.call 5 (.cons (.var 4) (.cons (.var 5) .nil)))) (.cons (.var 7) .nil))))) (.cons (.ret (.bl false)) .nil) .nil) (.cons (.ife (.or (.not (.val (.call 10 (.cons (.call 4 (.cons (.var 5) (.cons (.var 4) .nil))) (.cons (.var 6) .nil))))) (.not (.val (.call 10 (.cons (.call 5 (.cons (.var 5) (.cons (.var 4) .nil))) (.cons (.var 7) .nil)))))) (.cons (.ret (.bl false)) .nil) .nil) .nil)))
def e19_1 : IE := (.ite (.val (.var 3)) (.callK 2 .nil (.cons (.var 10) (.cons (.var 13) (.cons (.var 9) .nil)))) (.call 6 (.cons (.var 13) (.cons (.var 9) (.cons (.var 10) .nil)))))
def z19_2 : ISs := (.cons (.asgT [9, 10] (.tup (.cons (.bin .sub (.call 12 (.cons (.var 0) .nil)) (.var 8)) (.cons (.call 12 (.cons (.var 0) .nil)) .nil)))) (.cons (.asg 11 (.lst true (.cons (.call 18 (.cons (.var 1) (.cons (.var 9) (.cons (.var 10) .nil)))) (.cons (.call 18 (.cons (.var 2) (.cons (.var 9) (.cons (.var 10) .nil)))) .nil)))) (.cons (.asg 12 (.comp false (.nm 13) (.seq (.lst true (.cons (.var 4) (.cons (.var 5) (.cons (.var 6) .nil))))) [("some", 13)] noT e19_1)) (.cons (.fzv 12) (.cons (.ife (.not (.val (.call 10 (.cons (.var 12) (.cons (.cat true (.var 11) (.lst true (.cons (.bin .add (.ix (.var 11) (.int 0)) (.ix (.var 11) (.int 1))) .nil))) .nil))))) (.cons (.ret (.bl false)) .nil) .nil) .nil)))))
def b19 : ISs := (.cons (.asgT [4, 5] (.tup (.cons (.call 11 (.cons (.var 1) .nil)) (.cons (.call 11 (.cons (.var 2) .nil)) .nil)))) (.cons (.asgT [6, 7] (.tup (.cons (.call 11 (.cons (.call 15 (.cons (.var 1) (.cons (.var 2) .nil))) .nil)) (.cons (.call 11 (.cons (.call 16 (.cons (.var 1) (.cons (.var 2) .nil))) .nil)) .nil)))) (.cons (.fr (.nm 8) (.rng1 (.int 2)) z19_1) (.cons (.fr (.nm 8) (.rng1 (.int 3)) z19_2) (.cons (.ret (.bl true)) .nil)))))
def f19 : FD := ⟨"_law_pair_right", 4, ["box", "one", "other", "by_name", "first", "second", "due", "product", "turn", "x", "y", "dues", "told", "some"], b19⟩
def d19 : He.DefD := ⟨("_law_pair_right", none), "_law_pair_right", "_law_pair_right", defArgs (top 22), defBody (top 22), defScope (top 22), [], []⟩
/-- _law_cell_right(box) -/
def t20_1 : ITo := (.yes (.not (.val (.call 19 (.cons (.var 0) (.cons (.var 8) (.cons (.var 9) (.cons (.var 1) .nil))))))))
def e20_1 : IE := (.int 1)
def z20_1 : ISs := (.cons (.sub (.var 6) (.var 7) (.bin .sub (.int 0) (.ix (.var 3) (.var 7)))) .nil)
def b20 : ISs := (.cons (.asgT [1, 2] (.tup (.cons (.cmp .eq (.call 9 (.cons (.var 0) (.cons (.int 2) .nil))) (.int 1)) (.cons (.cmp .eq (.call 9 (.cons (.var 0) (.cons (.int 8) .nil))) (.int 7)) .nil)))) (.cons (.asg 3 (.call 13 (.cons (.var 0) (.cons (.var 2) .nil)))) (.cons (.asg 4 (.ite (.or (.val (.var 2)) (.cmp .eq (.call 9 (.cons (.var 0) (.cons (.int 2) .nil))) (.int 0))) (.call 13 (.cons (.var 0) (.cons (.bl false) .nil))) (.call 14 (.cons (.var 0) (.cons (.var 3) .nil))))) (.cons (.asg 5 (.lst true (.cons (.tup (.cons (.var 3) (.cons (.var 4) .nil))) (.cons (.tup (.cons (.fz .dnew) (.cons (.var 3) .nil))) (.cons (.tup (.cons (.var 3) (.cons (.fz (.d1 (.tup (.cons (.int 0) (.cons (.int 0) .nil))) (.int 1))) .nil))) (.cons (.tup (.cons (.fz (.d1 (.tup (.cons (.int 1) (.cons (.int 0) .nil))) (.int 1))) (.cons (.var 4) .nil))) (.cons (.tup (.cons (.fz (.d1 (.tup (.cons (.int 0) (.cons (.int 1) .nil))) (.bin .sub (.int 0) (.int 1)))) (.cons (.var 3) .nil))) (.cons (.tup (.cons (.var 4) (.cons (.var 4) .nil))) .nil)))))))) (.cons (.ife (.cmp .ne (.comp true (.tp [8, 9]) (.seq (.var 5)) [("first", 8), ("second", 9)] t20_1 e20_1) (.lst true .nil)) (.cons (.ret (.bl false)) .nil) .nil) (.cons (.asg 6 .dnew) (.cons (.fr (.nm 7) (.keys (.var 3)) z20_1) (.cons (.fzv 6) (.cons (.ife (.not (.val (.call 10 (.cons (.call 4 (.cons (.call 11 (.cons (.var 3) .nil)) (.cons (.call 11 (.cons (.var 6) .nil)) .nil))) (.cons (.tup .nil) .nil))))) (.cons (.ret (.bl false)) .nil) .nil) (.cons (.ret (.andv (.call 10 (.cons (.call 4 (.cons (.tup .nil) (.cons (.tup .nil) .nil))) (.cons (.tup .nil) .nil))) (.andv (.call 10 (.cons (.call 5 (.cons (.tup .nil) (.cons (.call 11 (.cons (.var 3) .nil)) .nil))) (.cons (.tup .nil) .nil))) (.call 10 (.cons (.call 6 (.cons (.tup .nil) (.cons (.int 3) (.cons (.int 4) .nil)))) (.cons (.int 0) .nil)))))) .nil))))))))))
def f20 : FD := ⟨"_law_cell_right", 1, ["box", "by_name", "great", "one", "other", "pairs", "turned", "key", "first", "second"], b20⟩
def d20 : He.DefD := ⟨("_law_cell_right", none), "_law_cell_right", "_law_cell_right", defArgs (top 23), defBody (top 23), defScope (top 23), [], []⟩
/-- law(script) -/
def z21_1 : ISs := (.cons (.ife (.not (.val (.call 20 (.cons (.call 8 (.cons (.call 7 (.cons (.var 0) (.cons (.var 1) .nil))) .nil)) .nil)))) (.cons (.ret (.bl false)) .nil) .nil) .nil)
def b21 : ISs := (.cons (.fr (.nm 1) (.rng1 (.bi .max2 (.cons (.int 2) (.cons (.bi .min2 (.cons (.int 4) (.cons (.bi .len (.cons (.var 0) .nil)) .nil))) .nil)))) z21_1) (.cons (.ret (.bl true)) .nil))
def f21 : FD := ⟨"law", 1, ["script", "k"], b21⟩
def d21 : He.DefD := ⟨("law", none), "law", "law", defArgs (top 24), defBody (top 24), defScope (top 24), [], []⟩
def P : Prog := { fns := [f0, f1, f2, f3, f4, f5, f6, f7, f8, f9, f10, f11, f12, f13, f14, f15, f16, f17, f18, f19, f20, f21], free := ["range", "max", "enumerate", "any", "tuple", "len", "sum", "int", "abs", "isinstance", "bool", "str", "list", "dict", "min"], glbs := [], kwc := [⟨4, 0, ["other", "one"], [1, 0]⟩, ⟨5, 0, ["other", "one"], [1, 0]⟩, ⟨6, 0, ["y", "polynomial", "x"], [1, 2, 0]⟩] }
def dd : List He.DefD := [d0, d1, d2, d3, d4, d5, d6, d7, d8, d9, d10, d11, d12, d13, d14, d15, d16, d17, d18, d19, d20, d21]
theorem bd0 : ∀ us : List Value, us.length = (f0.N.take f0.np).length → bindEq d0 ⟨us, []⟩ ((f0.N.take f0.np).zip us) := fun us hl => match us, hl with | [_, _], _ => fun _ _ _ _ _ _ => rfl
theorem bd1 : ∀ us : List Value, us.length = (f1.N.take f1.np).length → bindEq d1 ⟨us, []⟩ ((f1.N.take f1.np).zip us) := fun us hl => match us, hl with | [_], _ => fun _ _ _ _ _ _ => rfl
theorem bd2 : ∀ us : List Value, us.length = (f2.N.take f2.np).length → bindEq d2 ⟨us, []⟩ ((f2.N.take f2.np).zip us) := fun us hl => match us, hl with | [_, _, _], _ => fun _ _ _ _ _ _ => rfl
theorem bd3 : ∀ us : List Value, us.length = (f3.N.take f3.np).length → bindEq d3 ⟨us, []⟩ ((f3.N.take f3.np).zip us) := fun us hl => match us, hl with | [_], _ => fun _ _ _ _ _ _ => rfl
theorem bd4 : ∀ us : List Value, us.length = (f4.N.take f4.np).length → bindEq d4 ⟨us, []⟩ ((f4.N.take f4.np).zip us) := fun us hl => match us, hl with | [_, _], _ => fun _ _ _ _ _ _ => rfl
theorem bd5 : ∀ us : List Value, us.length = (f5.N.take f5.np).length → bindEq d5 ⟨us, []⟩ ((f5.N.take f5.np).zip us) := fun us hl => match us, hl with | [_, _], _ => fun _ _ _ _ _ _ => rfl
theorem bd6 : ∀ us : List Value, us.length = (f6.N.take f6.np).length → bindEq d6 ⟨us, []⟩ ((f6.N.take f6.np).zip us) := fun us hl => match us, hl with | [_, _, _], _ => fun _ _ _ _ _ _ => rfl
theorem bd7 : ∀ us : List Value, us.length = (f7.N.take f7.np).length → bindEq d7 ⟨us, []⟩ ((f7.N.take f7.np).zip us) := fun us hl => match us, hl with | [_, _], _ => fun _ _ _ _ _ _ => rfl
theorem bd8 : ∀ us : List Value, us.length = (f8.N.take f8.np).length → bindEq d8 ⟨us, []⟩ ((f8.N.take f8.np).zip us) := fun us hl => match us, hl with | [_], _ => fun _ _ _ _ _ _ => rfl
theorem bd9 : ∀ us : List Value, us.length = (f9.N.take f9.np).length → bindEq d9 ⟨us, []⟩ ((f9.N.take f9.np).zip us) := fun us hl => match us, hl with | [_, _], _ => fun _ _ _ _ _ _ => rfl
theorem bd10 : ∀ us : List Value, us.length = (f10.N.take f10.np).length → bindEq d10 ⟨us, []⟩ ((f10.N.take f10.np).zip us) := fun us hl => match us, hl with | [_, _], _ => fun _ _ _ _ _ _ => rfl
theorem bd11 : ∀ us : List Value, us.length = (f11.N.take f11.np).length → bindEq d11 ⟨us, []⟩ ((f11.N.take f11.np).zip us) := fun us hl => match us, hl with | [_], _ => fun _ _ _ _ _ _ => rfl
theorem bd12 : ∀ us : List Value, us.length = (f12.N.take f12.np).length → bindEq d12 ⟨us, []⟩ ((f12.N.take f12.np).zip us) := fun us hl => match us, hl with | [_], _ => fun _ _ _ _ _ _ => rfl
theorem bd13 : ∀ us : List Value, us.length = (f13.N.take f13.np).length → bindEq d13 ⟨us, []⟩ ((f13.N.take f13.np).zip us) := fun us hl => match us, hl with | [_, _], _ => fun _ _ _ _ _ _ => rfl
theorem bd14 : ∀ us : List Value, us.length = (f14.N.take f14.np).length → bindEq d14 ⟨us, []⟩ ((f14.N.take f14.np).zip us) := fun us hl => match us, hl with | [_, _], _ => fun _ _ _ _ _ _ => rfl
theorem bd15 : ∀ us : List Value, us.length = (f15.N.take f15.np).length → bindEq d15 ⟨us, []⟩ ((f15.N.take f15.np).zip us) := fun us hl => match us, hl with | [_, _], _ => fun _ _ _ _ _ _ => rfl
theorem bd16 : ∀ us : List Value, us.length = (f16.N.take f16.np).length → bindEq d16 ⟨us, []⟩ ((f16.N.take f16.np).zip us) := fun us hl => match us, hl with | [_, _], _ => fun _ _ _ _ _ _ => rfl
theorem bd17 : ∀ us : List Value, us.length = (f17.N.take f17.np).length → bindEq d17 ⟨us, []⟩ ((f17.N.take f17.np).zip us) := fun us hl => match us, hl with | [_, _], _ => fun _ _ _ _ _ _ => rfl
theorem bd18 : ∀ us : List Value, us.length = (f18.N.take f18.np).length → bindEq d18 ⟨us, []⟩ ((f18.N.take f18.np).zip us) := fun us hl => match us, hl with | [_, _, _], _ => fun _ _ _ _ _ _ => rfl
theorem bd19 : ∀ us : List Value, us.length = (f19.N.take f19.np).length → bindEq d19 ⟨us, []⟩ ((f19.N.take f19.np).zip us) := fun us hl => match us, hl with | [_, _, _, _], _ => fun _ _ _ _ _ _ => rfl
theorem bd20 : ∀ us : List Value, us.length = (f20.N.take f20.np).length → bindEq d20 ⟨us, []⟩ ((f20.N.take f20.np).zip us) := fun us hl => match us, hl with | [_], _ => fun _ _ _ _ _ _ => rfl
theorem bd21 : ∀ us : List Value, us.length = (f21.N.take f21.np).length → bindEq d21 ⟨us, []⟩ ((f21.N.take f21.np).zip us) := fun us hl => match us, hl with | [_], _ => fun _ _ _ _ _ _ => rfl
theorem kw0 : ∀ us ws : List Value, us.length = 0 → ws.length = 2 → bindEq d4 ⟨us, [("other" : Str), ("one" : Str)].zip ws⟩ ((f4.N.take f4.np).zip ([1, 0].filterMap fun i => (us ++ ws)[i]?)) := fun us ws hu hw => match us, hu, ws, hw with | [], _, [_, _], _ => fun _ _ _ _ _ _ => rfl
theorem kw1 : ∀ us ws : List Value, us.length = 0 → ws.length = 2 → bindEq d5 ⟨us, [("other" : Str), ("one" : Str)].zip ws⟩ ((f5.N.take f5.np).zip ([1, 0].filterMap fun i => (us ++ ws)[i]?)) := fun us ws hu hw => match us, hu, ws, hw with | [], _, [_, _], _ => fun _ _ _ _ _ _ => rfl
theorem kw2 : ∀ us ws : List Value, us.length = 0 → ws.length = 3 → bindEq d6 ⟨us, [("y" : Str), ("polynomial" : Str), ("x" : Str)].zip ws⟩ ((f6.N.take f6.np).zip ([1, 2, 0].filterMap fun i => (us ++ ws)[i]?)) := fun us ws hu hw => match us, hu, ws, hw with | [], _, [_, _, _], _ => fun _ _ _ _ _ _ => rfl
theorem chk_all : ((List.range 22).all fun i => match P.fns[i]?, dd[i]? with | some fd, some d => chkFn P fd d | _, _ => false) = true := by kernel_rfl
theorem good : Good P dd where
  len := rfl
  chk := fun i fd d hi hd => by
    have hlt : i < 22 := (List.getElem?_eq_some_iff.mp hi).1
    have := List.all_eq_true.mp chk_all i (List.mem_range.mpr hlt)
    rw [hi, hd] at this
    exact this
  bd := fun i fd d hi hd => by
    match i, hi, hd with
    | 0, hi, hd => cases (show some f0 = some fd from hi); cases (show some d0 = some d from hd); exact bd0
    | 1, hi, hd => cases (show some f1 = some fd from hi); cases (show some d1 = some d from hd); exact bd1
    | 2, hi, hd => cases (show some f2 = some fd from hi); cases (show some d2 = some d from hd); exact bd2
    | 3, hi, hd => cases (show some f3 = some fd from hi); cases (show some d3 = some d from hd); exact bd3
    | 4, hi, hd => cases (show some f4 = some fd from hi); cases (show some d4 = some d from hd); exact bd4
    | 5, hi, hd => cases (show some f5 = some fd from hi); cases (show some d5 = some d from hd); exact bd5
    | 6, hi, hd => cases (show some f6 = some fd from hi); cases (show some d6 = some d from hd); exact bd6
    | 7, hi, hd => cases (show some f7 = some fd from hi); cases (show some d7 = some d from hd); exact bd7
    | 8, hi, hd => cases (show some f8 = some fd from hi); cases (show some d8 = some d from hd); exact bd8
    | 9, hi, hd => cases (show some f9 = some fd from hi); cases (show some d9 = some d from hd); exact bd9
    | 10, hi, hd => cases (show some f10 = some fd from hi); cases (show some d10 = some d from hd); exact bd10
    | 11, hi, hd => cases (show some f11 = some fd from hi); cases (show some d11 = some d from hd); exact bd11
    | 12, hi, hd => cases (show some f12 = some fd from hi); cases (show some d12 = some d from hd); exact bd12
    | 13, hi, hd => cases (show some f13 = some fd from hi); cases (show some d13 = some d from hd); exact bd13
    | 14, hi, hd => cases (show some f14 = some fd from hi); cases (show some d14 = some d from hd); exact bd14
    | 15, hi, hd => cases (show some f15 = some fd from hi); cases (show some d15 = some d from hd); exact bd15
    | 16, hi, hd => cases (show some f16 = some fd from hi); cases (show some d16 = some d from hd); exact bd16
    | 17, hi, hd => cases (show some f17 = some fd from hi); cases (show some d17 = some d from hd); exact bd17
    | 18, hi, hd => cases (show some f18 = some fd from hi); cases (show some d18 = some d from hd); exact bd18
    | 19, hi, hd => cases (show some f19 = some fd from hi); cases (show some d19 = some d from hd); exact bd19
    | 20, hi, hd => cases (show some f20 = some fd from hi); cases (show some d20 = some d from hd); exact bd20
    | 21, hi, hd => cases (show some f21 = some fd from hi); cases (show some d21 = some d from hd); exact bd21
    | k + 22, hi, hd => cases (show none = some fd from hi)
  kw := fun q hq fd d hi hd => by
    simp only [P, List.mem_cons, List.not_mem_nil, or_false] at hq
    rcases hq with rfl | rfl | rfl
    · cases (show some f4 = some fd from hi); cases (show some d4 = some d from hd); exact kw0
    · cases (show some f5 = some fd from hi); cases (show some d5 = some d from hd); exact kw1
    · cases (show some f6 = some fd from hi); cases (show some d6 = some d from hd); exact kw2
end K37

end

section
set_option Elab.async false
set_option linter.all false
set_option maxRecDepth 100000
set_option maxHeartbeats 1000000
namespace K37
open PySem PySem.Spec PyProof.Rows L2 G
abbrev En (Q : DK) : EndsD := ⟨fun _ h' => ∃ h1, Sub h1 h' ∧ Q .non h1, Q, fun _ _ => False, fun _ _ => False⟩
theorem atI_nat {α : Type} (xs : List α) (i : Nat) : atI xs (i : Int) = xs[i]? := by
  unfold atI ixN
  rw [if_pos (by omega)]
  by_cases h : i < xs.length
  · rw [if_pos (by omega)]; simp
  · rw [if_neg (by omega)]; simp [List.getElem?_eq_none (Nat.le_of_not_lt h)]
theorem cut_take (xs : List D) (n : Nat) : G.cutD xs none (some (n : Int)) = xs.take n := by
  unfold G.cutD
  show (xs.drop (HT.sIx xs.length 0 none)).take (HT.sIx xs.length xs.length (some (n : Int)) - HT.sIx xs.length 0 none) = _
  rw [HT.sIx_nat, HT.sIx_none, List.drop_zero, Nat.sub_zero, ← List.take_eq_take_min]
theorem eq_int (a b : Int) : eqD (.int a) (.int b) = some (decide (a = b)) := by
  unfold eqD
  simp only [D.py]
  rw [if_pos ⟨by unfold SeqAt.shaped; rfl, by unfold SeqAt.shaped; rfl⟩]
  simp only [PyData.eqv]
  rfl
def TT (t : List (List Int)) : D := .tup (t.map fun r => .tup (r.map .int))
theorem power_ok (k : Nat) (b : Int) (e : Nat) (he : (e : Int) < 2 ^ 62) (hb : ∀ i < e, CMulX (b ^ i) b) {h : AH} {Q : DK} {E : EK} (q : Q (.int (b ^ e)) h) : fnW P (k + 1) 0 [.int b, .int e] h Q E := by
  refine ⟨rfl, ?_⟩
  show Ss P (fnW P k) E b0 (En Q) [some (.int b), some (.int (e : Int)), none, none] h
  unfold b0
  simp only [Ss, S, W, Ws, Wo, T, To, Wi, binW, biW, tgW, vw_int, vw_tup, vw_lst, vw_bl, vw_non, vw_str, vw_dT, setAll, List.getElem?_cons_zero, List.getElem?_cons_succ, List.set_cons_succ, List.set_cons_zero, wipeD, List.map_cons, List.map_nil, List.length_cons, List.length_nil]
  refine ⟨⟨by omega, he⟩, ?_⟩
  refine for_ok (Ss_mono (fnW_mono P k) E z0_1) (fun i ρ h' => h' = h ∧ ∃ o, ρ = [some (.int b), some (.int (e : Int)), some (.int (b ^ i)), o]) _ _ _ ?_ (fun i x ρ h' hx hi => ?_) (fun ρ h' hi => ?_)
  · exact ⟨rfl, none, by rw [Int.pow_zero]⟩
  · obtain ⟨rfl, o, rfl⟩ := hi
    have hlt : i < e := by have := (List.getElem?_eq_some_iff.mp hx).1; simpa [rngD] using this
    refine ⟨trivial, ?_⟩
    unfold z0_1
    simp only [Ss, S, W, Ws, Wo, T, To, Wi, binW, biW, tgW, vw_int, vw_tup, vw_lst, vw_bl, vw_non, vw_str, vw_dT, setAll, List.getElem?_cons_zero, List.getElem?_cons_succ, List.set_cons_succ, List.set_cons_zero, wipeD, List.map_cons, List.map_nil, List.length_cons, List.length_nil]
    exact ⟨hb i hlt, trivial, _, by rw [Int.pow_succ]⟩
  · obtain ⟨rfl, o, rfl⟩ := hi
    refine ⟨trivial, ?_⟩
    simp only [Ss, S, W, Ws, Wo, T, To, Wi, binW, biW, tgW, vw_int, vw_tup, vw_lst, vw_bl, vw_non, vw_str, vw_dT, setAll, List.getElem?_cons_zero, List.getElem?_cons_succ, List.set_cons_succ, List.set_cons_zero, wipeD, List.map_cons, List.map_nil, List.length_cons, List.length_nil]
    refine ⟨h', .refl _, ?_⟩
    have : (rngD 0 (e : Int)).length = e := by simp [rngD]
    rw [this]; exact q
theorem item_ok (k : Nat) (t : List (List Int)) (i j : Nat) {h : AH} {Q : DK} {E : EK} (q : Q (.int (coefG t i j)) h) : fnW P (k + 1) 2 [TT t, .int i, .int j] h Q E := by
  refine ⟨rfl, ?_⟩
  show Ss P (fnW P k) E b2 (En Q) [some (TT t), some (.int (i : Int)), some (.int (j : Int))] h
  unfold b2 TT
  simp only [Ss, S, W, Ws, Wo, T, To, Wi, binW, biW, tgW, vw_int, vw_tup, vw_lst, vw_bl, vw_non, vw_str, vw_dT, setAll, List.getElem?_cons_zero, List.getElem?_cons_succ, List.set_cons_succ, List.set_cons_zero, wipeD, List.map_cons, List.map_nil, List.length_cons, List.length_nil, cmpD, List.length_map, ixW, atI_nat]
  have q' : ∀ {z : Int}, z = coefG t i j → ∃ h2, Sub h2 h ∧ Q (.int z) h2 := fun e => ⟨h, .refl _, by rw [e]; exact q⟩
  by_cases hi : i < t.length
  · rw [decide_eq_true (show (i : Int) < (t.length : Int) by omega)]
    simp only [vw_tup, atI_nat, List.getElem?_map, List.getElem?_eq_getElem hi, Option.map_some, List.length_map]
    by_cases hj : j < (t[i]).length
    · rw [decide_eq_true (show (j : Int) < ((t[i]).length : Int) by omega)]
      simp only [vw_tup, atI_nat, List.getElem?_map, List.getElem?_eq_getElem hj, Option.map_some]
      exact q' (by rw [coefG_at (List.getElem?_eq_getElem hi), List.getElem?_eq_getElem hj]; rfl)
    · rw [decide_eq_false (show ¬ (j : Int) < ((t[i]).length : Int) by omega)]
      exact q' (by rw [coefG_at (List.getElem?_eq_getElem hi), List.getElem?_eq_none (by omega)]; rfl)
  · rw [decide_eq_false (show ¬ (i : Int) < (t.length : Int) by omega)]
    exact q' (by unfold coefG; rw [List.getElem?_eq_none (Nat.le_of_not_lt hi)]; rfl)
/-- rows as they are read -/
def RowsAt (h : AH) (d : D) (g : List (List Int)) : Prop := ∃ rs : List D, vw h d = .lst rs ∧ rs.map (vw h) = g.map fun r => D.lst (r.map .int)
theorem vw_sub {h h' : AH} {d : D} {ds : List D} (s : G.Sub h h') (e : vw h d = .lst ds) : vw h' d = .lst ds := by
  cases d <;> simp only [vw] at e ⊢ <;> try exact e
  rename_i a
  cases q : h a with
  | none => rw [q] at e; cases e
  | some x => rw [s _ _ q]; rw [q] at e; exact e
theorem seqW_vw {h h1 : AH} {d : D} {ds : List D} {k : List D → (AH → Prop) → Prop} (sb : G.Sub h h1) (e : vw h d = .lst ds) (q : ∀ g : AH → Prop, (∀ h', G.Sub h h' → g h') → k ds g) : seqW d h1 k := by
  cases d <;> simp only [vw] at e <;> try cases e
  · rename_i a
    unfold seqW
    cases q2 : h a with
    | none => rw [q2] at e; cases e
    | some x =>
      rw [q2] at e
      have e' : x = .lst ds := e
      subst e'
      show (match h1 a with
        | some (.lst ds) => k ds fun h' => h' a = some (.lst ds)
        | _ => False)
      rw [sb _ _ q2]
      exact q _ fun h' s => s _ _ q2
  · exact q _ fun _ _ => trivial
theorem sub_hup {h : AH} {p : Addr} {d : D} (n : h p = none) : G.Sub h (hup h p d) := Sub.hup n
theorem W_mono' (k : Nat) (E : EK) (e : IE) : MonE (W P (fnW P k) E e) := W_mono (fnW_mono P k) E e
theorem To_mono' (k : Nat) (E : EK) (e : ITo) : MonT (To P (fnW P k) E e) := To_mono (fnW_mono P k) E e
theorem hiL_eq {h : AH} : ∀ (rs : List D) (g : List (List Int)) (k : Nat), rs.map (vw h) = g.map (fun r => D.lst (r.map .int)) →
    ((pairs k rs).filter fun x => match x with
      | .tup [_, r] => (match vw h r with
        | .lst ds => ds.any fun y => match y with
          | .int z => z != 0
          | _ => false
        | _ => false)
      | _ => false).map (fun x => match x with
      | .tup [.int i, _] => D.int (i + 1)
      | _ => .non) = (hiL k g).map D.int
  | [], [], _, _ => rfl
  | r :: rs, [], _, e => by cases e
  | [], r :: g, _, e => by cases e
  | r :: rs, gr :: g, k, e => by
    rw [List.map_cons, List.map_cons] at e
    have e1 := (List.cons.inj e).1
    have ih := hiL_eq rs g (k + 1) (List.cons.inj e).2
    have nz : ((gr.map D.int).any fun y => match y with
          | .int z => z != 0
          | _ => false) = gr.any fun x => x != 0 := by rw [List.any_map]; rfl
    unfold pairs hiL
    rw [List.filter_cons]
    simp only [e1, nz]
    split
    · rw [List.map_cons, List.map_cons, ih]
    · exact ih
theorem wiR_eq : ∀ (r : List Int) (k : Nat), ((pairs k (r.map D.int)).filter fun x => match x with
      | .tup [_, .int z] => z != 0
      | _ => false).map (fun x => match x with
      | .tup [.int i, _] => D.int (i + 1)
      | _ => .non) = (wiR k r).map D.int
  | [], _ => rfl
  | x :: r, k => by
    have ih := wiR_eq r (k + 1)
    rw [List.map_cons]
    unfold pairs wiR
    rw [List.filter_cons]
    simp only []
    split
    · rw [List.map_cons, List.map_cons, ih]
    · exact ih
theorem mem_pairs {x : D} : ∀ {k : Nat} {rs : List D}, x ∈ pairs k rs → ∃ i r, x = .tup [.int (i : Nat), r] ∧ r ∈ rs ∧ k ≤ i ∧ rs[i - k]? = some r
  | _, [], h => nomatch h
  | k, r :: rs, h => by
    rcases List.mem_cons.mp h with rfl | h
    · exact ⟨k, r, rfl, List.mem_cons_self .., Nat.le_refl _, by rw [Nat.sub_self]; rfl⟩
    · obtain ⟨i, r', e, m, l, g⟩ := mem_pairs h
      exact ⟨i, r', e, List.mem_cons_of_mem _ m, by omega, by rw [show i - k = (i - (k + 1)) + 1 by omega]; exact g⟩
theorem rows_mem {h : AH} {rs : List D} {g : List (List Int)} (e : rs.map (vw h) = g.map fun r => D.lst (r.map .int)) {r : D} (hr : r ∈ rs) : ∃ gr ∈ g, vw h r = .lst (gr.map .int) := by
  have : vw h r ∈ rs.map (vw h) := List.mem_map.mpr ⟨r, hr, rfl⟩
  rw [e] at this
  obtain ⟨gr, h1, h2⟩ := List.mem_map.mp this
  exact ⟨gr, h1, h2.symm⟩
theorem bols_ne (l : List Int) : bolsOf (l.map fun z => D.bl (z != 0)) = some (l.map fun z => z != 0) := by
  have := bolsOf_map (l.map fun z => z != 0)
  rw [List.map_map] at this
  exact this
theorem ne_zero (z : Int) : (!decide (z = 0)) = (z != 0) := by
  by_cases h : z = 0 <;> simp [h]
abbrev nzRow (h : AH) : D → Bool := fun x => match x with
      | .tup [_, r] => (match vw h r with
        | .lst ds => ds.any fun y => match y with
          | .int z => z != 0
          | _ => false
        | _ => false)
      | _ => false
abbrev nxt : D → D := fun x => match x with
      | .tup [.int i, _] => D.int (i + 1)
      | _ => .non
theorem len_le {n : Nat} (h : n ≤ 1000000) : n ≤ sizeLine := by rw [sizeLine_eq]; omega
theorem maxd_int {ns : List Int} {h : AH} {Q : DK} (q : Q (.int (mx0 ns)) h) : maxdW (.lst (ns.map D.int)) (.int 0) h Q := by
  unfold maxdW
  simp only [vw, intsOf_map]
  cases ns <;> exact q
theorem wiR_snoc (x : Int) : ∀ (r : List Int) (k : Nat), wiR k (r ++ [x]) = wiR k r ++ if (x != 0) = true then [((k + r.length : Nat) : Int) + 1] else []
  | [], k => by simp only [List.nil_append, wiR]; split <;> simp
  | y :: r, k => by
    have ih := wiR_snoc x r (k + 1)
    rw [List.cons_append]
    unfold wiR
    rw [ih]
    have e : k + 1 + r.length = k + (y :: r).length := by rw [List.length_cons]; omega
    rw [e]
    split <;> rfl
theorem wiR_len : ∀ (r : List Int) (k : Nat), (wiR k r).length ≤ r.length
  | [], _ => Nat.le_refl _
  | y :: r, k => by
    have := wiR_len r (k + 1)
    unfold wiR
    split <;> simp <;> omega
theorem wiL_len {w : Nat} : ∀ {g : List (List Int)}, Rect w g → (wiL g).length ≤ g.length * w
  | [], _ => by simp [wiL]
  | r :: g, re => by
    have ih := wiL_len (g := g) fun x hx => re x (List.mem_cons_of_mem _ hx)
    have h1 := wiR_len r 0
    have h2 := re r (List.mem_cons_self ..)
    have : wiL (r :: g) = wiR 0 r ++ wiL g := rfl
    rw [this, List.length_append, List.length_cons, Nat.succ_mul]
    omega
theorem pairs_get' (rs : List D) (i : Nat) (x : D) (h : (pairs 0 rs)[i]? = some x) : ∃ r, rs[i]? = some r ∧ x = .tup [.int (i : Nat), r] := by
  have go : ∀ (rs : List D) (k i : Nat), (pairs k rs)[i]? = some x → ∃ r, rs[i]? = some r ∧ x = .tup [.int ((k + i : Nat) : Int), r] := by
    intro rs
    induction rs with
    | nil => intro k i h; simp [pairs] at h
    | cons r rs ih =>
      intro k i h
      cases i with
      | zero => exact ⟨r, rfl, by simpa [pairs] using h.symm⟩
      | succ i =>
        obtain ⟨r', e1, e2⟩ := ih (k + 1) i (by simpa [pairs] using h)
        exact ⟨r', by simpa using e1, by rw [e2]; congr 4; omega⟩
  obtain ⟨r, e1, e2⟩ := go rs 0 i h
  exact ⟨r, e1, by rw [e2, Nat.zero_add]⟩
theorem trimmed_ok (k : Nat) {h : AH} {d : D} {g : List (List Int)} {w : Nat} (ra : RowsAt h d g) (re : Rect w g) (gl : g.length ≤ 1000) (wl : w ≤ 1000) {Q : DK} {E : EK} (q : ∀ t H W, Can (coefG g) t H W → Q (TT t) h) : fnW P (k + 1) 1 [d] h Q E := by
  refine ⟨rfl, ?_⟩
  show Ss P (fnW P k) E b1 (En Q) [some d, none, none, none, none, none] h
  unfold b1
  obtain ⟨rs, e1, e2⟩ := ra
  have hrl : rs.length = g.length := by simpa using congrArg List.length e2
  obtain ⟨H, W0, eH, eW, can⟩ := trim_can re
  simp only [Ss, S, W, Ws, Wo, T, To, Wi, binW, biW, tgW, vw_int, vw_tup, vw_lst, vw_bl, vw_non, vw_str, vw_dT, setAll, List.getElem?_cons_zero, List.getElem?_cons_succ, List.set_cons_succ, List.set_cons_zero, wipeD, List.map_cons, List.map_nil, List.length_cons, List.length_nil]
  refine seqW_vw (Sub.refl h) e1 fun g1 hg1 p np => ?_
  refine comp_pure (To_mono' k noE t1_1) (W_mono' k noE e1_2) (nzRow h) nxt np (fun acc => hg1 _ (sub_hup np)) (len_le (by rw [G.pairs_len]; omega)) (fun x hx acc Q1 Q0 a b => ?_) ?_
  · obtain ⟨i, r, rfl, hr, _, _⟩ := mem_pairs hx
    obtain ⟨gr, hgr, er⟩ := rows_mem e2 hr
    refine ⟨rfl, ?_⟩
    unfold t1_1
    simp only [Ss, S, W, Ws, Wo, T, To, Wi, binW, biW, tgW, vw_int, vw_tup, vw_lst, vw_bl, vw_non, vw_str, vw_dT, setAll, List.getElem?_cons_zero, List.getElem?_cons_succ, List.set_cons_succ, List.set_cons_zero, wipeD, List.map_cons, List.map_nil, List.length_cons, List.length_nil]
    refine seqW_vw (sub_hup np) er fun g2 hg2 p2 np2 => ?_
    refine comp_map (W_mono' k noE e1_1) (fun y => match y with
      | .int z => D.bl (z != 0)
      | _ => .non) np2 (fun acc => hg2 _ ((sub_hup np).trans (sub_hup np2))) (len_le (by rw [List.length_map, re gr hgr]; omega)) (fun y hy acc2 Q2 a2 => ?_) ?_
    · obtain ⟨z, _, rfl⟩ := List.mem_map.mp hy
      unfold e1_1
      simp only [Ss, S, W, Ws, Wo, T, To, Wi, binW, biW, tgW, vw_int, vw_tup, vw_lst, vw_bl, vw_non, vw_str, vw_dT, setAll, List.getElem?_cons_zero, List.getElem?_cons_succ, List.set_cons_succ, List.set_cons_zero, wipeD, List.map_cons, List.map_nil, List.length_cons, List.length_nil, cmpD, eq_int, Option.map_some, ne_zero]
      exact a2
    · rw [List.map_map]
      have : (List.map ((fun y => match y with
        | D.int z => D.bl (z != 0)
        | _ => D.non) ∘ D.int) gr) = gr.map fun z => D.bl (z != 0) := rfl
      rw [this]
      simp only [vw_lst, bols_ne]
      have e3 : nzRow h (.tup [.int (i : Nat), r]) = (gr.map fun z => z != 0).any id := by
        unfold nzRow
        simp only [er, List.any_map]
        rfl
      cases hb : (gr.map fun z => z != 0).any id with
      | true => 
        unfold e1_2
        simp only [Ss, S, W, Ws, Wo, T, To, Wi, binW, biW, tgW, vw_int, vw_tup, vw_lst, vw_bl, vw_non, vw_str, vw_dT, setAll, List.getElem?_cons_zero, List.getElem?_cons_succ, List.set_cons_succ, List.set_cons_zero, wipeD, List.map_cons, List.map_nil, List.length_cons, List.length_nil]
        exact a (e3.trans hb)
      | false => exact b (e3.trans hb)
  · rw [hiL_eq rs g 0 e2]
    refine maxd_int ?_
    simp only [Ss, S, W, Ws, Wo, T, To, Wi, binW, biW, tgW, vw_int, vw_tup, vw_lst, vw_bl, vw_non, vw_str, vw_dT, setAll, List.getElem?_cons_zero, List.getElem?_cons_succ, List.set_cons_succ, List.set_cons_zero, wipeD, List.map_cons, List.map_nil, List.length_cons, List.length_nil]
    rw [eH]
    refine seqW_vw (Sub.refl h) e1 fun g3 hg3 p3 np3 => ?_
    refine comp2W_inv (To_mono' k noE noT) (Wi_mono (fnW_mono P k) noE i1_1) (To_mono' k noE t1_2) (W_mono' k noE e1_3) (fun i acc h' => h' = hup h p3 (.lst acc) ∧ acc = (wiL (g.take i)).map D.int) rs 0 [] _ ⟨rfl, rfl⟩ (fun i x acc h' hx hi => ?_) (fun acc h' hi => ?_)
    · obtain ⟨rfl, ea⟩ := hi
      rw [Nat.zero_add] at ea ⊢
      have hlt : i < g.length := by have := (List.getElem?_eq_some_iff.mp hx).1; omega
      obtain ⟨gr, hgr, er⟩ : ∃ gr, g[i]? = some gr ∧ vw h x = .lst (gr.map .int) := by
        have z : (rs.map (vw h))[i]? = some (vw h x) := by rw [List.getElem?_map, hx]; rfl
        rw [e2, List.getElem?_map, Option.map_eq_some_iff] at z
        obtain ⟨gr, a, b⟩ := z
        exact ⟨gr, a, b.symm⟩
      have hw := re gr (List.mem_of_getElem? hgr)
      have hfl : (wiL (g.take i)).length ≤ i * w := by
        have := wiL_len (g := g.take i) fun x hx => re x (List.mem_of_mem_take hx)
        rw [List.length_take, Nat.min_eq_left (by omega)] at this
        exact this
      have hb : i * w ≤ 999 * 1000 := Nat.mul_le_mul (by omega) wl
      refine ⟨hg3 _ (sub_hup np3), ?_⟩
      unfold noT i1_1
      simp only [Ss, S, W, Ws, Wo, T, To, Wi, binW, biW, tgW, vw_int, vw_tup, vw_lst, vw_bl, vw_non, vw_str, vw_dT, setAll, List.getElem?_cons_zero, List.getElem?_cons_succ, List.set_cons_succ, List.set_cons_zero, wipeD, List.map_cons, List.map_nil, List.length_cons, List.length_nil]
      refine seqW_vw (sub_hup np3) er fun g4 hg4 => ?_
      refine compW_inv (To_mono' k noE t1_2) (W_mono' k noE e1_3) (fun j acc h' => h' = hup h p3 (.lst acc) ∧ acc = (wiL (g.take i) ++ wiR 0 (gr.take j)).map D.int) _ 0 acc _ ⟨rfl, by rw [ea]; simp [wiR]⟩ (fun j y acc h' hy hj => ?_) (fun acc h' hj => ?_)
      · obtain ⟨rfl, ej⟩ := hj
        rw [Nat.zero_add] at ej ⊢
        obtain ⟨z, hz, rfl⟩ := pairs_get' _ _ _ hy
        rw [List.getElem?_map, Option.map_eq_some_iff] at hz
        obtain ⟨z, hz, rfl⟩ := hz
        have tk : gr.take (j + 1) = gr.take j ++ [z] := by rw [List.take_add_one, hz]; rfl
        have hjl : j < gr.length := (List.getElem?_eq_some_iff.mp hz).1
        have lj : (gr.take j).length = j := by rw [List.length_take]; omega
        have sn := wiR_snoc z (gr.take j) 0
        rw [lj, Nat.zero_add, ← tk] at sn
        have la : acc.length < sizeLine := by
          rw [ej, List.length_map, List.length_append, sizeLine_eq]
          have := wiR_len (gr.take j) 0
          omega
        refine ⟨hg4 _ (sub_hup np3), rfl, ?_⟩
        unfold t1_2
        simp only [Ss, S, W, Ws, Wo, T, To, Wi, binW, biW, tgW, vw_int, vw_tup, vw_lst, vw_bl, vw_non, vw_str, vw_dT, setAll, List.getElem?_cons_zero, List.getElem?_cons_succ, List.set_cons_succ, List.set_cons_zero, wipeD, List.map_cons, List.map_nil, List.length_cons, List.length_nil, cmpD, eq_int, Option.map_some, ne_zero]
        cases hz0 : (z != 0) with
        | true =>
          unfold e1_3
          simp only [Ss, S, W, Ws, Wo, T, To, Wi, binW, biW, tgW, vw_int, vw_tup, vw_lst, vw_bl, vw_non, vw_str, vw_dT, setAll, List.getElem?_cons_zero, List.getElem?_cons_succ, List.set_cons_succ, List.set_cons_zero, wipeD, List.map_cons, List.map_nil, List.length_cons, List.length_nil]
          refine ⟨hup_same, la, by rw [hup_hup], ?_⟩
          rw [sn, hz0, if_pos rfl, ← List.append_assoc, List.map_append, ← ej]; rfl
        | false => exact ⟨trivial, by rw [sn, hz0, if_neg Bool.false_ne_true, List.append_nil]; exact ej⟩
      · obtain ⟨rfl, ej⟩ := hj
        rw [Nat.zero_add, G.pairs_len, List.length_map, List.take_length] at ej
        refine ⟨hg4 _ (sub_hup np3), hup_same, rfl, ?_⟩
        have tk : g.take (i + 1) = g.take i ++ [gr] := by rw [List.take_add_one, hgr]; rfl
        rw [tk]
        unfold wiL
        rw [List.flatMap_append]
        simpa [wiL] using ej
    · obtain ⟨rfl, ea⟩ := hi
      rw [Nat.zero_add, hrl, List.take_length] at ea
      subst ea
      refine ⟨hg3 _ (sub_hup np3), hup_same, ?_⟩
      simp only [compEnd, hdel_new np3]
      refine maxd_int ?_
      simp only [Ss, S, W, Ws, Wo, T, To, Wi, binW, biW, tgW, vw_int, vw_tup, vw_lst, vw_bl, vw_non, vw_str, vw_dT, setAll, List.getElem?_cons_zero, List.getElem?_cons_succ, List.set_cons_succ, List.set_cons_zero, wipeD, List.map_cons, List.map_nil, List.length_cons, List.length_nil, slW, e1, mkL, cut_take]
      rw [eW]
      refine ⟨len_le (by rw [List.length_take]; omega), ?_⟩
      simp only [seqW]
      intro p5 np5
      refine comp_map (W_mono' k noE e1_4) (fun x => match vw h x with
        | .lst ds => D.tup (ds.take W0)
        | _ => .non) np5 (fun _ => trivial) (len_le (by rw [List.length_take]; omega)) (fun x hx acc Q1 a => ?_) ?_
      · obtain ⟨gr, hgr, er⟩ := rows_mem e2 (List.mem_of_mem_take hx)
        have hw := re gr hgr
        rw [er] at a
        unfold e1_4
        simp only [Ss, S, W, Ws, Wo, T, To, Wi, binW, biW, tgW, vw_int, vw_tup, vw_lst, vw_bl, vw_non, vw_str, vw_dT, setAll, List.getElem?_cons_zero, List.getElem?_cons_succ, List.set_cons_succ, List.set_cons_zero, wipeD, List.map_cons, List.map_nil, List.length_cons, List.length_nil, slW, vw_sub (sub_hup np5) er, mkL, cut_take]
        exact ⟨len_le (by rw [List.length_take, List.length_map]; omega), a⟩
      · simp only [Ss, S, W, Ws, Wo, T, To, Wi, binW, biW, tgW, vw_int, vw_tup, vw_lst, vw_bl, vw_non, vw_str, vw_dT, setAll, List.getElem?_cons_zero, List.getElem?_cons_succ, List.set_cons_succ, List.set_cons_zero, wipeD, List.map_cons, List.map_nil, List.length_cons, List.length_nil]
        refine ⟨h, Sub.refl h, ?_⟩
        have e5 : ((rs.take H).map fun x => match vw h x with
            | .lst ds => D.tup (ds.take W0)
            | _ => .non) = ((g.take H).map fun r => r.take W0).map fun r => D.tup (r.map .int) := by
          have z : (rs.take H).map (vw h) = (g.take H).map fun r => D.lst (r.map .int) := by
            rw [List.map_take, e2, List.map_take]
          have z2 := congrArg (List.map fun y => match y with
            | D.lst ds => D.tup (ds.take W0)
            | _ => D.non) z
          rw [List.map_map, List.map_map] at z2
          rw [List.map_map]
          refine (Eq.trans ?_ z2).trans ?_
          · rfl
          · exact List.map_congr_left fun r _ => by simp [List.map_take]
        rw [e5]
        exact q _ _ _ can
end K37

end

section
set_option Elab.async false
set_option linter.all false
set_option maxRecDepth 100000
set_option maxHeartbeats 1000000
namespace K37
open PySem PySem.Spec PyProof.Rows L2 G
theorem rngD0 (n : Nat) : rngD 0 (n : Int) = (List.range n).map fun i => D.int ((i : Nat) : Int) := by
  unfold rngD
  rw [Int.sub_zero, Int.toNat_natCast]
  exact List.map_congr_left fun i _ => by rw [Int.zero_add]
theorem table_len {c : Cf} {H W : Nat} : (table c H W).length = H := by simp [table]
theorem mx0_all {l : List Int} {W : Int} (h : ∀ x ∈ l, x = W) (ne : l ≠ [] ∨ W = 0) : mx0 l = W := by
  obtain ⟨_, b⟩ := mx0_spec l
  rcases b with b | ⟨b1, b2⟩
  · exact h _ b
  · rcases ne with ne | ne
    · exact absurd b1 ne
    · rw [b2, ne]
theorem width_ok (k : Nat) {c : Cf} {t : List (List Int)} {H w0 : Nat} (can : Can c t H w0) (hH : H ≤ 1000) {h : AH} {Q : DK} {E : EK} (q : Q (.int (w0 : Int)) h) : fnW P (k + 1) 3 [TT t] h Q E := by
  refine ⟨rfl, ?_⟩
  show Ss P (fnW P k) E b3 (En Q) [some (TT t), none] h
  have hl : t.length = H := by rw [can.1, table_len]
  have hr : ∀ r ∈ t, r.length = w0 := by
    intro r hr
    rw [can.1] at hr
    obtain ⟨i, _, rfl⟩ := List.mem_map.mp hr
    simp
  unfold b3 TT
  simp only [Ss, S, W, Ws, Wo, T, To, Wi, binW, biW, tgW, vw_int, vw_tup, vw_lst, vw_bl, vw_non, vw_str, vw_dT, setAll, List.getElem?_cons_zero, List.getElem?_cons_succ, List.set_cons_succ, List.set_cons_zero, wipeD, List.map_cons, List.map_nil, List.length_cons, List.length_nil, seqW]
  intro p np
  refine comp_map (W_mono' k noE e3_1) (fun x => match x with
    | .tup ds => D.int ((ds.length : Nat) : Int)
    | _ => .non) np (fun _ => trivial) (len_le (by rw [List.length_map]; omega)) (fun x hx acc Q1 a => ?_) ?_
  · obtain ⟨r, _, rfl⟩ := List.mem_map.mp hx
    unfold e3_1
    simp only [Ss, S, W, Ws, Wo, T, To, Wi, binW, biW, tgW, vw_int, vw_tup, vw_lst, vw_bl, vw_non, vw_str, vw_dT, setAll, List.getElem?_cons_zero, List.getElem?_cons_succ, List.set_cons_succ, List.set_cons_zero, wipeD, List.map_cons, List.map_nil, List.length_cons, List.length_nil]
    exact a
  · rw [List.map_map]
    have e : ((fun x => match x with
      | D.tup ds => D.int ((ds.length : Nat) : Int)
      | _ => D.non) ∘ fun r : List Int => D.tup (r.map D.int)) = D.int ∘ fun r : List Int => ((r.length : Nat) : Int) := by
      funext r
      simp
    rw [e, ← List.map_map]
    have hm : mx0 (t.map fun r : List Int => ((r.length : Nat) : Int)) = (w0 : Int) := by
      refine mx0_all (fun x hx => ?_) ?_
      · obtain ⟨r, hr', rfl⟩ := List.mem_map.mp hx
        rw [hr r hr']
      · by_cases h0 : H = 0
        · exact Or.inr (by rw [can.zero h0]; rfl)
        · refine Or.inl fun z => ?_
          have := congrArg List.length z
          rw [List.length_map, hl] at this
          exact h0 this
    refine maxd_int ?_
    rw [hm]
    exact ⟨h, Sub.refl h, q⟩
theorem max_nat (a b : Nat) : (if ((b : Nat) : Int) > (a : Int) then ((b : Nat) : Int) else (a : Int)) = ((max a b : Nat) : Int) := by
  split <;> omega
theorem coef_can {c : Cf} {t : List (List Int)} {H W : Nat} (can : Can c t H W) (i j : Nat) : coefG t i j = c i j := by rw [can.1, coef_table can.2.1]
theorem small_nat {n : Nat} (h : n ≤ 1000000) : Small (n : Int) := by
  have e : (2 : Int) ^ 62 = 4611686018427387904 := by decide
  unfold Small
  rw [e]
  omega
theorem plus_ok (k : Nat) {c1 c2 : Cf} {t1 t2 : List (List Int)} {H1 W1 H2 W2 : Nat} (k1 : Can c1 t1 H1 W1) (k2 : Can c2 t2 H2 W2) (b1 : H1 ≤ 1000 ∧ W1 ≤ 1000) (b2 : H2 ≤ 1000 ∧ W2 ≤ 1000) {h : AH} {Q : DK} {E : EK}
    (q : ∀ t H W, Can (fun i j => c1 i j + c2 i j) t H W → Q (TT t) h) : fnW P (k + 2) 4 [TT t1, TT t2] h Q E := by
  refine ⟨rfl, ?_⟩
  show Ss P (fnW P (k + 1)) E b4 (En Q) [some (TT t1), some (TT t2), none, none, none, none] h
  have l1 : t1.length = H1 := by rw [k1.1, table_len]
  have l2 : t2.length = H2 := by rw [k2.1, table_len]
  unfold b4
  simp only [Ss, S, W, Ws, Wo, T, To, Wi, binW, biW, tgW, vw_int, vw_tup, vw_lst, vw_bl, vw_non, vw_str, vw_dT, setAll, List.getElem?_cons_zero, List.getElem?_cons_succ, List.set_cons_succ, List.set_cons_zero, wipeD, List.map_cons, List.map_nil, List.length_cons, List.length_nil, max_nat]
  have tl : ∀ t : List (List Int), vw h (TT t) = .tup (t.map fun r => .tup (r.map .int)) := fun _ => rfl
  rw [tl, tl]
  simp only [Ss, S, W, Ws, Wo, T, To, Wi, binW, biW, tgW, vw_int, vw_tup, vw_lst, vw_bl, vw_non, vw_str, vw_dT, setAll, List.getElem?_cons_zero, List.getElem?_cons_succ, List.set_cons_succ, List.set_cons_zero, wipeD, List.map_cons, List.map_nil, List.length_cons, List.length_nil, max_nat, List.length_map, l1, l2]
  refine width_ok k k1 b1.1 ?_
  refine width_ok k k2 b2.1 ?_
  simp only [Ss, S, W, Ws, Wo, T, To, Wi, binW, biW, tgW, vw_int, vw_tup, vw_lst, vw_bl, vw_non, vw_str, vw_dT, setAll, List.getElem?_cons_zero, List.getElem?_cons_succ, List.set_cons_succ, List.set_cons_zero, wipeD, List.map_cons, List.map_nil, List.length_cons, List.length_nil, max_nat]
  refine ⟨by rw [sizeLine_eq]; decide, trivial, ?_⟩
  refine ⟨small_nat (by omega), ?_⟩
  intro p np
  rw [rngD0]
  refine comp_map (W_mono' (k + 1) noE e4_2) (fun x => match x with
    | .int i => D.lst ((List.range (max W1 W2)).map fun j => D.int (c1 i.toNat j + c2 i.toNat j))
    | _ => .non) np (fun _ => trivial) (len_le (by rw [List.length_map, List.length_range]; omega)) (fun x hx acc Q1 a => ?_) ?_
  · obtain ⟨i, _, rfl⟩ := List.mem_map.mp hx
    unfold e4_2
    simp only [Ss, S, W, Ws, Wo, T, To, Wi, binW, biW, tgW, vw_int, vw_tup, vw_lst, vw_bl, vw_non, vw_str, vw_dT, setAll, List.getElem?_cons_zero, List.getElem?_cons_succ, List.set_cons_succ, List.set_cons_zero, wipeD, List.map_cons, List.map_nil, List.length_cons, List.length_nil]
    refine ⟨small_nat (by omega), ?_⟩
    intro p2 np2
    rw [rngD0]
    refine comp_map (W_mono' (k + 1) noE e4_1) (fun x => match x with
      | .int j => D.int (c1 i j.toNat + c2 i j.toNat)
      | _ => .non) np2 (fun _ => trivial) (len_le (by rw [List.length_map, List.length_range]; omega)) (fun y hy acc2 Q2 a2 => ?_) ?_
    · obtain ⟨j, _, rfl⟩ := List.mem_map.mp hy
      unfold e4_1
      simp only [Ss, S, W, Ws, Wo, T, To, Wi, binW, biW, tgW, vw_int, vw_tup, vw_lst, vw_bl, vw_non, vw_str, vw_dT, setAll, List.getElem?_cons_zero, List.getElem?_cons_succ, List.set_cons_succ, List.set_cons_zero, wipeD, List.map_cons, List.map_nil, List.length_cons, List.length_nil]
      refine item_ok k t1 i j ?_
      refine item_ok k t2 i j ?_
      simp only [Ss, S, W, Ws, Wo, T, To, Wi, binW, biW, tgW, vw_int, vw_tup, vw_lst, vw_bl, vw_non, vw_str, vw_dT, setAll, List.getElem?_cons_zero, List.getElem?_cons_succ, List.set_cons_succ, List.set_cons_zero, wipeD, List.map_cons, List.map_nil, List.length_cons, List.length_nil]
      rw [coef_can k1, coef_can k2]
      simpa using a2
    · rw [List.map_map]
      simpa [Function.comp_def] using a
  · have e : ((List.range (max H1 H2)).map fun i => D.int ((i : Nat) : Int)).map (fun x => match x with
      | .int i => D.lst ((List.range (max W1 W2)).map fun j => D.int (c1 i.toNat j + c2 i.toNat j))
      | _ => .non) = (table (fun i j => c1 i j + c2 i j) (max H1 H2) (max W1 W2)).map fun r => D.lst (r.map .int) := by
      unfold table
      rw [List.map_map, List.map_map]
      refine List.map_congr_left fun i _ => ?_
      simp
    rw [e]
    have su : Sup (max H1 H2) (max W1 W2) (fun i j => c1 i j + c2 i j) := fun i j hne => by
      by_cases h1 : c1 i j = 0
      · by_cases h2 : c2 i j = 0
        · exact absurd (by show c1 i j + c2 i j = 0; omega) hne
        · have := k2.2.1 i j h2; omega
      · have := k1.2.1 i j h1; omega
    refine trimmed_ok k (g := table (fun i j => c1 i j + c2 i j) (max H1 H2) (max W1 W2)) (w := max W1 W2) ⟨_, rfl, ?_⟩ (fun r hr => ?_) (by rw [table_len]; omega) (by omega) (fun t Hx Wx can => ?_)
    · rw [List.map_map]; rfl
    · obtain ⟨i, _, rfl⟩ := List.mem_map.mp hr
      simp
    · have : coefG (table (fun i j => c1 i j + c2 i j) (max H1 H2) (max W1 W2)) = fun i j => c1 i j + c2 i j := by
        funext i j; exact coef_table su i j
      rw [this] at can
      exact ⟨h, Sub.refl h, q t Hx Wx can⟩
end K37

end

section
set_option Elab.async false
set_option linter.all false
set_option maxRecDepth 100000
set_option maxHeartbeats 1000000
namespace K37
open PySem PySem.Spec PyProof.Rows L2 G
def Bnd (n : Nat) (z : Int) : Prop := z.natAbs ≤ 2 ^ n
theorem Bnd.mono {n m : Nat} {z : Int} (h : Bnd n z) (l : n ≤ m) : Bnd m z := Nat.le_trans h (Nat.pow_le_pow_right (by decide) l)
theorem Bnd.mul {n m : Nat} {a b : Int} (x : Bnd n a) (y : Bnd m b) : Bnd (n + m) (a * b) := by
  unfold Bnd at *
  rw [Int.natAbs_mul, Nat.pow_add]
  exact Nat.mul_le_mul x y
theorem Bnd.pow {n : Nat} {a : Int} (x : Bnd n a) : ∀ i : Nat, Bnd (n * i) (a ^ i)
  | 0 => by unfold Bnd; simp
  | i + 1 => by
    rw [Int.pow_succ, Nat.mul_succ]
    exact (Bnd.pow x i).mul x
theorem Bnd.add {n : Nat} {a b : Int} (x : Bnd n a) (y : Bnd n b) : Bnd (n + 1) (a + b) := by
  unfold Bnd at *
  rw [Nat.pow_succ]
  have := Int.natAbs_add_le a b
  omega
theorem Bnd.neg {n : Nat} {a : Int} (x : Bnd n a) : Bnd n (0 - a) := by
  unfold Bnd at *
  rw [Int.zero_sub, Int.natAbs_neg]; exact x
theorem mulX {n m : Nat} {a b : Int} (x : Bnd n a) (y : Bnd m b) (l : n + m ≤ 1000000) : CMulX a b := by
  have f : ∀ {k : Nat} {z : Int}, Bnd k z → Builtin.Int.intBits z ≤ k + 1 := fun {k z} h => PyProof.Rows.intBits_le (Nat.lt_of_le_of_lt h (Nat.pow_lt_pow_right (by decide) (Nat.lt_succ_self k)))
  have h1 := f x
  have h2 := f y
  unfold CMulX
  omega
theorem ints_sum (l : List Int) (z : Int) : (l ++ [z]).sum = l.sum + z := by simp
theorem value_ok (k : Nat) {c : Cf} {t : List (List Int)} {H w0 : Nat} (can : Can c t H w0) (hb : H ≤ 100 ∧ w0 ≤ 100) {x y : Int} (bc : ∀ i j, Bnd 200 (c i j)) (bX : Bnd 120 x) (bY : Bnd 120 y) {h : AH} {Q : DK} {E : EK}
    (q : Q (.int (bx H w0 c fun i j => x ^ i * y ^ j)) h) : fnW P (k + 2) 6 [TT t, .int x, .int y] h Q E := by
  refine ⟨rfl, ?_⟩
  show Ss P (fnW P (k + 1)) E b6 (En Q) [some (TT t), some (.int x), some (.int y), none, none, none, none] h
  have hl : t.length = H := by rw [can.1, table_len]
  unfold b6 TT
  simp only [Ss, S, W, Ws, Wo, T, To, Wi, binW, biW, tgW, vw_int, vw_tup, vw_lst, vw_bl, vw_non, vw_str, vw_dT, setAll, List.getElem?_cons_zero, List.getElem?_cons_succ, List.set_cons_succ, List.set_cons_zero, wipeD, List.map_cons, List.map_nil, List.length_cons, List.length_nil, seqW]
  intro p np
  refine comp2W_inv (To_mono' (k + 1) noE noT) (Wi_mono (fnW_mono P (k + 1)) noE i6_1) (To_mono' (k + 1) noE noT) (W_mono' (k + 1) noE e6_1) (fun i acc h' => h' = hup h p (.lst acc) ∧ ∃ l : List Int, acc = l.map D.int ∧ l.length ≤ i * 100 ∧ l.sum = sumN i fun i => sumN w0 fun j => c i j * (x ^ i * y ^ j)) _ 0 [] _ ?_ (fun i e acc h' hx hi => ?_) (fun acc h' hi => ?_)
  · exact ⟨rfl, [], rfl, Nat.zero_le _, rfl⟩
  · obtain ⟨rfl, l, ea, ll, ls⟩ := hi
    rw [Nat.zero_add] at ll ls ⊢
    obtain ⟨r, hr, rfl⟩ := pairs_get' _ _ _ hx
    rw [List.getElem?_map, Option.map_eq_some_iff] at hr
    obtain ⟨r, hr, rfl⟩ := hr
    have hi : i < H := by have := (List.getElem?_eq_some_iff.mp hr).1; omega
    have er : r = (List.range w0).map fun j => c i j := by
      rw [can.1] at hr
      unfold table at hr
      rw [List.getElem?_map, List.getElem?_range hi] at hr
      exact (Option.some.inj hr).symm
    refine ⟨trivial, rfl, ?_⟩
    unfold noT i6_1
    simp only [Ss, S, W, Ws, Wo, T, To, Wi, binW, biW, tgW, vw_int, vw_tup, vw_lst, vw_bl, vw_non, vw_str, vw_dT, setAll, List.getElem?_cons_zero, List.getElem?_cons_succ, List.set_cons_succ, List.set_cons_zero, wipeD, List.map_cons, List.map_nil, List.length_cons, List.length_nil, seqW]
    refine compW_inv (To_mono' (k + 1) noE noT) (W_mono' (k + 1) noE e6_1) (fun j acc h' => h' = hup h p (.lst acc) ∧ ∃ l2 : List Int, acc = l2.map D.int ∧ l2.length ≤ i * 100 + j ∧ l2.sum = (sumN i fun i => sumN w0 fun j => c i j * (x ^ i * y ^ j)) + sumN j fun j => c i j * (x ^ i * y ^ j)) _ 0 acc _ ?_ (fun j e acc h' hy hj => ?_) (fun acc h' hj => ?_)
    · exact ⟨rfl, l, ea, by omega, by rw [ls]; show _ = _ + (0 : Int); omega⟩
    · obtain ⟨rfl, l2, ej, lj, sj⟩ := hj
      rw [Nat.zero_add] at lj sj ⊢
      obtain ⟨z, hz, rfl⟩ := pairs_get' _ _ _ hy
      rw [er, List.map_map, List.getElem?_map, Option.map_eq_some_iff] at hz
      obtain ⟨j', hj', rfl⟩ := hz
      have hjl : j < w0 := by have := (List.getElem?_eq_some_iff.mp hj').1; simpa using this
      rw [List.getElem?_range hjl] at hj'
      cases hj'
      have px := bX.pow i
      have py := bY.pow j
      have m1 := (bc i j).mul px
      have hi2 : 120 * i ≤ 12000 := by omega
      have hj2 : 120 * j ≤ 12000 := by omega
      refine ⟨trivial, rfl, ?_⟩
      unfold e6_1
      simp only [Ss, S, W, Ws, Wo, T, To, Wi, binW, biW, tgW, vw_int, vw_tup, vw_lst, vw_bl, vw_non, vw_str, vw_dT, setAll, List.getElem?_cons_zero, List.getElem?_cons_succ, List.set_cons_succ, List.set_cons_zero, wipeD, List.map_cons, List.map_nil, List.length_cons, List.length_nil, Function.comp]
      refine power_ok k x i ?_ (fun e he => mulX (bX.pow e) bX (by omega)) ?_
      · have : (2 : Int) ^ 62 = 4611686018427387904 := by decide
        omega
      simp only [Ss, S, W, Ws, Wo, T, To, Wi, binW, biW, tgW, vw_int, vw_tup, vw_lst, vw_bl, vw_non, vw_str, vw_dT, setAll, List.getElem?_cons_zero, List.getElem?_cons_succ, List.set_cons_succ, List.set_cons_zero, wipeD, List.map_cons, List.map_nil, List.length_cons, List.length_nil]
      refine ⟨mulX (bc i j) px (by omega), ?_⟩
      refine power_ok k y j ?_ (fun e he => mulX (bY.pow e) bY (by omega)) ?_
      · have : (2 : Int) ^ 62 = 4611686018427387904 := by decide
        omega
      simp only [Ss, S, W, Ws, Wo, T, To, Wi, binW, biW, tgW, vw_int, vw_tup, vw_lst, vw_bl, vw_non, vw_str, vw_dT, setAll, List.getElem?_cons_zero, List.getElem?_cons_succ, List.set_cons_succ, List.set_cons_zero, wipeD, List.map_cons, List.map_nil, List.length_cons, List.length_nil]
      refine ⟨mulX m1 py (by omega), hup_same, ?_, by rw [hup_hup], l2 ++ [c i j * x ^ i * y ^ j], ?_, ?_, ?_⟩
      · rw [ej, List.length_map, sizeLine_eq]
        have : i * 100 ≤ 10000 := by omega
        omega
      · rw [ej, List.map_append]; rfl
      · rw [List.length_append, List.length_singleton]; omega
      · rw [ints_sum, sj]
        simp only [sumN]
        rw [Int.mul_assoc, Int.add_assoc]
    · obtain ⟨rfl, l2, ej, lj, sj⟩ := hj
      rw [Nat.zero_add, G.pairs_len, List.length_map, er, List.length_map, List.length_range] at lj sj
      refine ⟨trivial, hup_same, rfl, l2, ej, ?_, ?_⟩
      · rw [Nat.succ_mul]; omega
      · rw [sj]; rfl
  · obtain ⟨rfl, l, ea, ll, ls⟩ := hi
    subst ea
    rw [Nat.zero_add, G.pairs_len, List.length_map, hl] at ls
    refine ⟨trivial, hup_same, ?_⟩
    simp only [compEnd, hdel_new np]
    simp only [Ss, S, W, Ws, Wo, T, To, Wi, binW, biW, tgW, vw_int, vw_tup, vw_lst, vw_bl, vw_non, vw_str, vw_dT, setAll, List.getElem?_cons_zero, List.getElem?_cons_succ, List.set_cons_succ, List.set_cons_zero, wipeD, List.map_cons, List.map_nil, List.length_cons, List.length_nil, intsOf_map]
    rw [ls]
    exact ⟨h, Sub.refl h, q⟩
end K37

end

section
set_option Elab.async false
set_option linter.all false
set_option maxRecDepth 100000
set_option maxHeartbeats 1000000
namespace K37
open PySem PySem.Spec PyProof.Rows L2 G
/-- a table of lists in the heap -/
def GS (h0 : AH) (po : Addr) (ps : List Addr) (ww : Nat) (γ : Cf) (h : AH) : Prop := h po = some (.lst (ps.map .ref)) ∧ ps.Nodup ∧ po ∉ ps ∧ (∀ i p, ps[i]? = some p → h p = some (.lst ((List.range ww).map fun j => .int (γ i j)))) ∧ G.Sub h0 h ∧ h0 po = none ∧ ∀ p ∈ ps, h0 p = none
def dlv (a' b' : Nat) (v : Int) : Cf := fun a b => if a' = a ∧ b' = b then v else 0
theorem GS.put {h0 h : AH} {po : Addr} {ps : List Addr} {ww : Nat} {γ : Cf} (g : GS h0 po ps ww γ h) {a b : Nat} {p : Addr} (hp : ps[a]? = some p) (v : Int) (hb : b < ww) :
    GS h0 po ps ww (fun x y => γ x y + dlv a b v x y) (hup h p (.lst (((List.range ww).map fun j => D.int (γ a j)).set b (.int (γ a b + v))))) := by
  obtain ⟨g1, g2, g3, g4, g5, g6, g7⟩ := g
  have hm : p ∈ ps := List.mem_of_getElem? hp
  refine ⟨?_, g2, g3, fun i p' hi => ?_, fun x d e => ?_, g6, g7⟩
  · rw [hup_ne fun e => g3 (by rw [e]; exact hm)]; exact g1
  · by_cases e : i = a
    · subst e
      rw [hp] at hi; cases hi
      rw [hup_same]
      congr 2
      refine List.ext_getElem (by simp) fun j h1 h2 => ?_
      simp only [List.length_set, List.length_map, List.length_range] at h1
      rw [List.getElem_set]
      simp only [List.getElem_map, List.getElem_range]
      split
      · rename_i e; subst e; simp [dlv]
      · rename_i e; simp [dlv, e]
    · have hne : p' ≠ p := fun q => by
        subst q
        exact e ((List.getElem?_inj (List.getElem?_eq_some_iff.mp hi).1 g2).mp (hi.trans hp.symm))
      rw [hup_ne hne, g4 i p' hi]
      congr 2
      refine List.map_congr_left fun j _ => ?_
      simp [dlv, Ne.symm e]
  · rw [hup_ne fun q => by rw [q, g7 p hm] at e; cases e]
    exact g5 x d e
theorem GS.congr {h0 h : AH} {po : Addr} {ps : List Addr} {ww : Nat} {γ γ' : Cf} (g : GS h0 po ps ww γ h) (e : ∀ a b, γ a b = γ' a b) : GS h0 po ps ww γ' h := by
  have : γ = γ' := funext fun a => funext fun b => e a b
  rw [← this]; exact g
section
variable {t1 t2 : List (List Int)} {hh ww : Nat} {po : Addr} {ps : List Addr} {h0 : AH} {c1 c2 : Cf} {k : Nat} {E : EK} {Dn : EndsD}
abbrev env (t1 t2 : List (List Int)) (hh ww : Nat) (po : Addr) (o5 o6 o7 o8 o9 oa ob oc od : Option D) : Env' := [some (TT t1), some (TT t2), some (.int (hh : Int)), some (.int (ww : Int)), some (.ref po), o5, o6, o7, o8, o9, oa, ob, oc, od]
theorem row_get {c : Cf} {w0 i : Nat} {l : Nat} {d : D} (h : (pairs 0 (((List.range w0).map fun j => c i j).map D.int))[l]? = some d) : l < w0 ∧ d = .tup [.int (l : Nat), .int (c i l)] := by
  obtain ⟨z, hz, rfl⟩ := pairs_get' _ _ _ h
  rw [List.map_map, List.getElem?_map, Option.map_eq_some_iff] at hz
  obtain ⟨j', hj', rfl⟩ := hz
  have hjl : l < w0 := by have := (List.getElem?_eq_some_iff.mp hj').1; simpa using this
  rw [List.getElem?_range hjl] at hj'
  cases hj'
  exact ⟨hjl, rfl⟩
theorem rows_get {c : Cf} {H w0 i : Nat} {d : D} (h : (pairs 0 ((table c H w0).map fun r => D.tup (r.map .int)))[i]? = some d) : i < H ∧ d = .tup [.int (i : Nat), .tup (((List.range w0).map fun j => c i j).map D.int)] := by
  obtain ⟨z, hz, rfl⟩ := pairs_get' _ _ _ h
  unfold table at hz
  rw [List.map_map, List.getElem?_map, Option.map_eq_some_iff] at hz
  obtain ⟨j', hj', rfl⟩ := hz
  have hjl : i < H := by have := (List.getElem?_eq_some_iff.mp hj').1; simpa using this
  rw [List.getElem?_range hjl] at hj'
  cases hj'
  exact ⟨hjl, rfl⟩
theorem lev4 {i j m w2 : Nat} {γ : Cf} {v : Int} {o6 o9 ob oc od : Option D} (hi : i + m < ps.length) (hw : ∀ l, l < w2 → j + l < ww) (bv : Bnd 200 v) (bc : ∀ l, Bnd 200 (c2 m l)) {h : AH} (g : GS h0 po ps ww γ h)
    (q : ∀ h' oc od, GS h0 po ps ww (fun a b => γ a b + sumN w2 fun l => dlv (i + m) (j + l) (v * c2 m l) a b) h' → Dn.nx (env t1 t2 hh ww po (some (.int (i : Int))) o6 (some (.int (j : Int))) (some (.int v)) o9 (some (.int (m : Int))) ob oc od) h') :
    forW (.tp [12, 13]) (fun _ => True) (Ss P (fnW P k) E z5_1) Dn (pairs 0 (((List.range w2).map fun l => c2 m l).map D.int)) (env t1 t2 hh ww po (some (.int (i : Int))) o6 (some (.int (j : Int))) (some (.int v)) o9 (some (.int (m : Int))) ob oc od) h := by
  refine for_ok (Ss_mono (fnW_mono P k) E z5_1) (fun l ρ h' => ∃ oc od, ρ = env t1 t2 hh ww po (some (.int (i : Int))) o6 (some (.int (j : Int))) (some (.int v)) o9 (some (.int (m : Int))) ob oc od ∧ GS h0 po ps ww (fun a b => γ a b + sumN l fun l => dlv (i + m) (j + l) (v * c2 m l) a b) h') _ _ _ ⟨oc, od, rfl, g.congr fun a b => by simp [sumN]⟩ (fun l x ρ h' hx hl => ?_) (fun ρ h' hl => ?_)
  · obtain ⟨oc', od', rfl, g'⟩ := hl
    obtain ⟨hl, rfl⟩ := row_get hx
    refine ⟨trivial, rfl, ?_⟩
    unfold z5_1
    obtain ⟨p, hp⟩ : ∃ p, ps[i + m]? = some p := ⟨_, List.getElem?_eq_getElem hi⟩
    have g1 := g'.1
    have gp := g'.2.2.2.1 _ _ hp
    have vo : vw h' (.ref po) = .lst (ps.map .ref) := by simp only [vw, g1]; rfl
    have vp : vw h' (.ref p) = .lst ((List.range ww).map fun j' => .int (γ (i + m) j' + sumN l fun l => dlv (i + m) (j + l) (v * c2 m l) (i + m) j')) := by simp only [vw, gp]; rfl
    have cast1 : (i : Int) + (m : Int) = ((i + m : Nat) : Int) := rfl
    have cast2 : (j : Int) + (l : Int) = ((j + l : Nat) : Int) := rfl
    have hjl := hw l hl
    simp only [Ss, S, W, Ws, Wo, T, To, Wi, binW, biW, tgW, vw_int, vw_tup, vw_lst, vw_bl, vw_non, vw_str, vw_dT, setAll, List.getElem?_cons_zero, List.getElem?_cons_succ, List.set_cons_succ, List.set_cons_zero, wipeD, List.map_cons, List.map_nil, List.length_cons, List.length_nil, ixW, vo, cast1, cast2, atI_nat, List.getElem?_map, hp, Option.map_some, vp, List.getElem?_range hjl, setW, gp]
    refine ⟨mulX bv (bc l) (by omega), ?_⟩
    have ix : ixN ((List.range ww).map fun j' => D.int (γ (i + m) j' + sumN l fun l => dlv (i + m) (j + l) (v * c2 m l) (i + m) j')).length ((j + l : Nat) : Int) = some (j + l) := by
      unfold ixN
      rw [if_pos (by omega), List.length_map, List.length_range, if_pos (by omega), Int.toNat_natCast]
    rw [ix]
    refine ⟨_, _, rfl, (g'.put hp (v * c2 m l) hjl).congr fun a b => ?_⟩
    simp only [sumN]
    omega
  · obtain ⟨oc', od', rfl, g'⟩ := hl
    rw [G.pairs_len, List.length_map, List.length_map, List.length_range] at g'
    exact ⟨trivial, q h' oc' od' g'⟩
abbrev q3 (c2 : Cf) (w2 : Nat) (i j : Nat) (v : Int) (a b : Nat) (m : Nat) : Int := sumN w2 fun l => dlv (i + m) (j + l) (v * c2 m l) a b
theorem lev3 {i j hB w2 : Nat} {γ : Cf} {v : Int} {o6 o9 oa ob oc od : Option D} (k2 : t2 = table c2 hB w2) (hi : i + hB ≤ ps.length) (hw : ∀ l, l < w2 → j + l < ww) (bv : Bnd 200 v) (bc : ∀ m l, Bnd 200 (c2 m l)) {h : AH} (g : GS h0 po ps ww γ h)
    (q : ∀ h' oa ob oc od, GS h0 po ps ww (fun a b => γ a b + sumN hB (q3 c2 w2 i j v a b)) h' → Dn.nx (env t1 t2 hh ww po (some (.int (i : Int))) o6 (some (.int (j : Int))) (some (.int v)) o9 oa ob oc od) h') :
    forW (.tp [10, 11]) (fun _ => True) (Ss P (fnW P k) E z5_2) Dn (pairs 0 (t2.map fun r => D.tup (r.map .int))) (env t1 t2 hh ww po (some (.int (i : Int))) o6 (some (.int (j : Int))) (some (.int v)) o9 oa ob oc od) h := by
  refine for_ok (Ss_mono (fnW_mono P k) E z5_2) (fun m ρ h' => ∃ oa ob oc od, ρ = env t1 t2 hh ww po (some (.int (i : Int))) o6 (some (.int (j : Int))) (some (.int v)) o9 oa ob oc od ∧ GS h0 po ps ww (fun a b => γ a b + sumN m (q3 c2 w2 i j v a b)) h') _ _ _ ⟨oa, ob, oc, od, rfl, g.congr fun a b => by simp [sumN]⟩ (fun m x ρ h' hx hl => ?_) (fun ρ h' hl => ?_)
  · obtain ⟨oa', ob', oc', od', rfl, g'⟩ := hl
    rw [k2] at hx
    obtain ⟨hm, rfl⟩ := rows_get hx
    refine ⟨trivial, rfl, ?_⟩
    unfold z5_2
    simp only [Ss, S, W, Ws, Wo, T, To, Wi, binW, biW, tgW, vw_int, vw_tup, vw_lst, vw_bl, vw_non, vw_str, vw_dT, setAll, List.getElem?_cons_zero, List.getElem?_cons_succ, List.set_cons_succ, List.set_cons_zero, wipeD, List.map_cons, List.map_nil, List.length_cons, List.length_nil, seqW]
    refine lev4 (by omega) hw bv (bc m) g' fun h2 oc2 od2 g2 => ?_
    exact ⟨_, _, _, _, rfl, g2.congr fun a b => by simp only [sumN]; exact Int.add_assoc _ _ _⟩
  · obtain ⟨oa', ob', oc', od', rfl, g'⟩ := hl
    rw [G.pairs_len, List.length_map, k2, table_len] at g'
    exact ⟨trivial, q h' oa' ob' oc' od' g'⟩
abbrev q2 (c1 c2 : Cf) (hB w2 : Nat) (i : Nat) (a b : Nat) (j : Nat) : Int := sumN hB (q3 c2 w2 i j (c1 i j) a b)
theorem lev2 {i w1 hB w2 : Nat} {γ : Cf} {o6 o7 o8 o9 oa ob oc od : Option D} (k2 : t2 = table c2 hB w2) (hi : i + hB ≤ ps.length) (hw : w1 + w2 ≤ ww) (bv : ∀ j, Bnd 200 (c1 i j)) (bc : ∀ m l, Bnd 200 (c2 m l)) {h : AH} (g : GS h0 po ps ww γ h)
    (q : ∀ h' o7 o8 oa ob oc od, GS h0 po ps ww (fun a b => γ a b + sumN w1 (q2 c1 c2 hB w2 i a b)) h' → Dn.nx (env t1 t2 hh ww po (some (.int (i : Int))) o6 o7 o8 o9 oa ob oc od) h') :
    forW (.tp [7, 8]) (fun _ => True) (Ss P (fnW P k) E z5_3) Dn (pairs 0 (((List.range w1).map fun j => c1 i j).map D.int)) (env t1 t2 hh ww po (some (.int (i : Int))) o6 o7 o8 o9 oa ob oc od) h := by
  refine for_ok (Ss_mono (fnW_mono P k) E z5_3) (fun j ρ h' => ∃ o7 o8 oa ob oc od, ρ = env t1 t2 hh ww po (some (.int (i : Int))) o6 o7 o8 o9 oa ob oc od ∧ GS h0 po ps ww (fun a b => γ a b + sumN j (q2 c1 c2 hB w2 i a b)) h') _ _ _ ⟨o7, o8, oa, ob, oc, od, rfl, g.congr fun a b => by simp [sumN]⟩ (fun j x ρ h' hx hl => ?_) (fun ρ h' hl => ?_)
  · obtain ⟨o7', o8', oa', ob', oc', od', rfl, g'⟩ := hl
    obtain ⟨hj, rfl⟩ := row_get hx
    refine ⟨trivial, rfl, ?_⟩
    unfold z5_3
    simp only [Ss, S, W, Ws, Wo, T, To, Wi, binW, biW, tgW, vw_int, vw_tup, vw_lst, vw_bl, vw_non, vw_str, vw_dT, setAll, List.getElem?_cons_zero, List.getElem?_cons_succ, List.set_cons_succ, List.set_cons_zero, wipeD, List.map_cons, List.map_nil, List.length_cons, List.length_nil, seqW, TT]
    refine lev3 k2 hi (fun l hl => by omega) (bv j) bc g' fun h2 oa2 ob2 oc2 od2 g2 => ?_
    exact ⟨_, _, _, _, _, _, rfl, g2.congr fun a b => by simp only [sumN]; exact Int.add_assoc _ _ _⟩
  · obtain ⟨o7', o8', oa', ob', oc', od', rfl, g'⟩ := hl
    rw [G.pairs_len, List.length_map, List.length_map, List.length_range] at g'
    exact ⟨trivial, q h' o7' o8' oa' ob' oc' od' g'⟩
abbrev q1 (c1 c2 : Cf) (w1 hB w2 : Nat) (a b : Nat) (i : Nat) : Int := sumN w1 (q2 c1 c2 hB w2 i a b)
theorem lev1 {hA w1 hB w2 : Nat} {γ : Cf} {o5 o6 o7 o8 o9 oa ob oc od : Option D} (k1 : t1 = table c1 hA w1) (k2 : t2 = table c2 hB w2) (hi : hA + hB ≤ ps.length) (hw : w1 + w2 ≤ ww) (bv : ∀ i j, Bnd 200 (c1 i j)) (bc : ∀ m l, Bnd 200 (c2 m l)) {h : AH} (g : GS h0 po ps ww γ h)
    (q : ∀ h' o5 o6 o7 o8 oa ob oc od, GS h0 po ps ww (fun a b => γ a b + sumN hA (q1 c1 c2 w1 hB w2 a b)) h' → Dn.nx (env t1 t2 hh ww po o5 o6 o7 o8 o9 oa ob oc od) h') :
    forW (.tp [5, 6]) (fun _ => True) (Ss P (fnW P k) E z5_4) Dn (pairs 0 (t1.map fun r => D.tup (r.map .int))) (env t1 t2 hh ww po o5 o6 o7 o8 o9 oa ob oc od) h := by
  refine for_ok (Ss_mono (fnW_mono P k) E z5_4) (fun i ρ h' => ∃ o5 o6 o7 o8 oa ob oc od, ρ = env t1 t2 hh ww po o5 o6 o7 o8 o9 oa ob oc od ∧ GS h0 po ps ww (fun a b => γ a b + sumN i (q1 c1 c2 w1 hB w2 a b)) h') _ _ _ ⟨o5, o6, o7, o8, oa, ob, oc, od, rfl, g.congr fun a b => by simp [sumN]⟩ (fun i x ρ h' hx hl => ?_) (fun ρ h' hl => ?_)
  · obtain ⟨o5', o6', o7', o8', oa', ob', oc', od', rfl, g'⟩ := hl
    rw [k1] at hx
    obtain ⟨hj, rfl⟩ := rows_get hx
    refine ⟨trivial, rfl, ?_⟩
    unfold z5_4
    simp only [Ss, S, W, Ws, Wo, T, To, Wi, binW, biW, tgW, vw_int, vw_tup, vw_lst, vw_bl, vw_non, vw_str, vw_dT, setAll, List.getElem?_cons_zero, List.getElem?_cons_succ, List.set_cons_succ, List.set_cons_zero, wipeD, List.map_cons, List.map_nil, List.length_cons, List.length_nil, seqW]
    refine lev2 k2 (by omega) hw (bv i) bc g' fun h2 o7 o8 oa2 ob2 oc2 od2 g2 => ?_
    exact ⟨_, _, _, _, _, _, _, _, rfl, g2.congr fun a b => by simp only [sumN]; exact Int.add_assoc _ _ _⟩
  · obtain ⟨o5', o6', o7', o8', oa', ob', oc', od', rfl, g'⟩ := hl
    rw [G.pairs_len, List.length_map, k1, table_len] at g'
    exact ⟨trivial, q h' o5' o6' o7' o8' oa' ob' oc' od' g'⟩
end
end K37

end

section
set_option Elab.async false
set_option linter.all false
set_option maxRecDepth 100000
set_option maxHeartbeats 1000000
namespace K37
open PySem PySem.Spec PyProof.Rows L2 G
theorem sumN_all0 {n : Nat} {f : Nat → Int} (h : ∀ i, i < n → f i = 0) : sumN n f = 0 := by
  rw [sumN_congr (g := fun _ => 0) h, sumN_zero]
def cnv (c1 c2 : Cf) (hA w1 hB w2 : Nat) : Cf := fun a b => sumN hA (q1 c1 c2 w1 hB w2 a b)
theorem cnv_sup (c1 c2 : Cf) (hA w1 hB w2 : Nat) : Sup (hA + hB) (w1 + w2) (cnv c1 c2 hA w1 hB w2) := fun a b hne => by
  refine Decidable.byContradiction fun hn => hne ?_
  refine sumN_all0 fun i hi => sumN_all0 fun j hj => sumN_all0 fun m hm => sumN_all0 fun l hl => ?_
  unfold dlv
  rw [if_neg fun q => hn ⟨by omega, by omega⟩]
theorem zeros (n : Nat) : (List.replicate n [D.int 0]).flatten = (List.range n).map fun _ => D.int 0 := by
  rw [List.flatten_replicate_singleton]
  refine List.ext_getElem (by simp) fun i h1 h2 => by simp
theorem times_ok (k : Nat) {c1 c2 : Cf} {t1 t2 : List (List Int)} {H1 W1 H2 W2 : Nat} (k1 : Can c1 t1 H1 W1) (k2 : Can c2 t2 H2 W2) (b1 : H1 ≤ 100 ∧ W1 ≤ 100) (b2 : H2 ≤ 100 ∧ W2 ≤ 100) (v1 : ∀ i j, Bnd 200 (c1 i j)) (v2 : ∀ i j, Bnd 200 (c2 i j)) {h : AH} {Q : DK} {E : EK}
    (q : ∀ t Hx Wx, Can (cnv c1 c2 H1 W1 H2 W2) t Hx Wx → Q (TT t) h) : fnW P (k + 2) 5 [TT t1, TT t2] h Q E := by
  refine ⟨rfl, ?_⟩
  show Ss P (fnW P (k + 1)) E b5 (En Q) [some (TT t1), some (TT t2), none, none, none, none, none, none, none, none, none, none, none, none] h
  have l1 : t1.length = H1 := by rw [k1.1, table_len]
  have l2 : t2.length = H2 := by rw [k2.1, table_len]
  have tl : ∀ t : List (List Int), vw h (TT t) = .tup (t.map fun r => .tup (r.map .int)) := fun _ => rfl
  have cast : ∀ a b : Nat, ((a : Int) + (b : Int)) = ((a + b : Nat) : Int) := fun _ _ => rfl
  unfold b5
  simp only [Ss, S, W, Ws, Wo, T, To, Wi, binW, biW, tgW, vw_int, vw_tup, vw_lst, vw_bl, vw_non, vw_str, vw_dT, setAll, List.getElem?_cons_zero, List.getElem?_cons_succ, List.set_cons_succ, List.set_cons_zero, wipeD, List.map_cons, List.map_nil, List.length_cons, List.length_nil, tl, List.length_map, l1, l2, cast]
  refine width_ok k k1 (by omega) ?_
  refine width_ok k k2 (by omega) ?_
  simp only [Ss, S, W, Ws, Wo, T, To, Wi, binW, biW, tgW, vw_int, vw_tup, vw_lst, vw_bl, vw_non, vw_str, vw_dT, setAll, List.getElem?_cons_zero, List.getElem?_cons_succ, List.set_cons_succ, List.set_cons_zero, wipeD, List.map_cons, List.map_nil, List.length_cons, List.length_nil, cast]
  refine ⟨by rw [sizeLine_eq]; decide, trivial, ?_⟩
  refine ⟨small_nat (by omega), ?_⟩
  intro po npo
  refine compW_inv (To_mono' (k + 1) noE noT) (W_mono' (k + 1) noE e5_1) (fun i acc h' => ∃ ps : List Addr, acc = ps.map .ref ∧ ps.length = i ∧ ps.Nodup ∧ po ∉ ps ∧ h' po = some (.lst acc) ∧ G.Sub h h' ∧ ∀ p ∈ ps, h' p = some (.lst ((List.range (W1 + W2)).map fun _ => .int 0)) ∧ h p = none) _ 0 [] _ ?_ (fun i x acc h' hx hi => ?_) (fun acc h' hi => ?_)
  · exact ⟨[], rfl, rfl, List.nodup_nil, by simp, hup_same, sub_hup npo, fun p hp => nomatch hp⟩
  · obtain ⟨ps, ea, lp, nd, npp, eh, sb, ez⟩ := hi
    rw [Nat.zero_add] at lp ⊢
    have hlt : i < H1 + H2 := by
      have := (List.getElem?_eq_some_iff.mp hx).1
      rw [rngD0, List.length_map, List.length_range] at this
      exact this
    refine ⟨trivial, ?_⟩
    unfold noT e5_1
    have e63 : (2 : Int) ^ 63 = 9223372036854775808 := by decide
    simp only [Ss, S, W, Ws, Wo, T, To, Wi, binW, biW, tgW, vw_int, vw_tup, vw_lst, vw_bl, vw_non, vw_str, vw_dT, setAll, List.getElem?_cons_zero, List.getElem?_cons_succ, List.set_cons_succ, List.set_cons_zero, wipeD, List.map_cons, List.map_nil, List.length_cons, List.length_nil, mkL, repW]
    refine ⟨by rw [sizeLine_eq]; decide, by rw [e63]; omega, by rw [e63]; omega, ?_, ?_⟩
    · rw [Int.toNat_natCast, zeros, List.length_map, List.length_range]
      exact len_le (by omega)
    intro p np
    have hne : po ≠ p := fun e => by rw [← e, eh] at np; cases np
    have hpn : p ∉ ps := fun hm => by rw [(ez p hm).1] at np; cases np
    have hp0 : h p = none := by
      cases z : h p with
      | none => rfl
      | some d => rw [sb p d z] at np; cases np
    rw [Int.toNat_natCast, zeros]
    refine ⟨by rw [hup_ne hne]; exact eh, by rw [ea, List.length_map, lp, sizeLine_eq]; omega, ps ++ [p], by rw [ea]; simp, by simp [lp], ?_, ?_, hup_same, ?_, ?_⟩
    · rw [List.nodup_append]
      exact ⟨nd, by simp, fun a ha b hb => by rw [List.mem_singleton.mp hb]; exact fun e => hpn (by rw [← e]; exact ha)⟩
    · simp [npp, hne]
    · intro a d e
      have h1 : a ≠ po := fun q => by rw [q, npo] at e; cases e
      have h2 : a ≠ p := fun q => by rw [q, hp0] at e; cases e
      rw [hup_ne h1, hup_ne h2]; exact sb a d e
    · intro a ha
      rcases List.mem_append.mp ha with ha | ha
      · have h1 : a ≠ po := fun q => npp (by rw [← q]; exact ha)
        have h2 : a ≠ p := fun q => hpn (by rw [← q]; exact ha)
        rw [hup_ne h1, hup_ne h2]; exact ez a ha
      · rw [List.mem_singleton.mp ha, hup_ne (Ne.symm hne), hup_same]
        exact ⟨rfl, hp0⟩
  · obtain ⟨ps, ea, lp, nd, npp, eh, sb, ez⟩ := hi
    rw [Nat.zero_add, rngD0, List.length_map, List.length_range] at lp
    refine ⟨trivial, eh, ?_⟩
    have g0 : GS h po ps (W1 + W2) (fun _ _ => 0) h' := ⟨by rw [eh, ea], nd, npp, fun i p hp => (ez p (List.mem_of_getElem? hp)).1, sb, npo, fun p hp => (ez p hp).2⟩
    simp only [compEnd]
    simp only [Ss, S, W, Ws, Wo, T, To, Wi, binW, biW, tgW, vw_int, vw_tup, vw_lst, vw_bl, vw_non, vw_str, vw_dT, setAll, List.getElem?_cons_zero, List.getElem?_cons_succ, List.set_cons_succ, List.set_cons_zero, wipeD, List.map_cons, List.map_nil, List.length_cons, List.length_nil, TT, seqW]
    refine lev1 k1.1 k2.1 (by omega) (Nat.le_refl _) v1 v2 g0 fun h2 o5 o6 o7 o8 oa ob oc od g2 => ?_
    simp only [Ss, S, W, Ws, Wo, T, To, Wi, binW, biW, tgW, vw_int, vw_tup, vw_lst, vw_bl, vw_non, vw_str, vw_dT, setAll, List.getElem?_cons_zero, List.getElem?_cons_succ, List.set_cons_succ, List.set_cons_zero, wipeD, List.map_cons, List.map_nil, List.length_cons, List.length_nil]
    have su := cnv_sup c1 c2 H1 W1 H2 W2
    have g3 : GS h po ps (W1 + W2) (cnv c1 c2 H1 W1 H2 W2) h2 := g2.congr fun a b => by rw [Int.zero_add]; rfl
    refine trimmed_ok k (g := table (cnv c1 c2 H1 W1 H2 W2) (H1 + H2) (W1 + W2)) (w := W1 + W2) ⟨ps.map .ref, by simp only [vw, g3.1]; rfl, ?_⟩ (fun r hr => ?_) (by rw [table_len]; omega) (by omega) (fun t Hx Wx can => ?_)
    · rw [List.map_map]
      unfold table
      rw [List.map_map]
      refine List.ext_getElem (by simp [lp]) fun i h1 h4 => ?_
      have hi : i < ps.length := by simpa using h1
      have := g3.2.2.2.1 i ps[i] (List.getElem?_eq_getElem hi)
      simp only [List.getElem_map, Function.comp, List.getElem_range, vw, this, List.map_map]
      rfl
    · obtain ⟨i, _, rfl⟩ := List.mem_map.mp hr
      simp
    · have : coefG (table (cnv c1 c2 H1 W1 H2 W2) (H1 + H2) (W1 + W2)) = cnv c1 c2 H1 W1 H2 W2 := by
        funext i j; exact coef_table su i j
      rw [this] at can
      exact ⟨h, g3.2.2.2.2.1, q t Hx Wx can⟩
end K37

end

section
set_option Elab.async false
set_option linter.all false
set_option maxRecDepth 100000
set_option maxHeartbeats 1000000
namespace K37
open PySem PySem.Spec PyProof.Rows L2 G
def kk (k : Nat × Nat) : List Key := [.inl (k.1 : Int), .inl (k.2 : Int)]
def kt (k : Nat × Nat) : D := .tup [.int (k.1 : Int), .int (k.2 : Int)]
abbrev ent (e : (Nat × Nat) × Int) : List Key × D := (kk e.1, .int e.2)
def DT (m : Mp) : D := .dT (m.map ent)
theorem kk_inj {a b : Nat × Nat} : kk a = kk b ↔ a = b := by
  constructor
  · intro h
    unfold kk at h
    simp only [List.cons.injEq, Sum.inl.injEq, and_true] at h
    exact Prod.ext (by omega) (by omega)
  · rintro rfl; rfl
theorem keysOf_kt (a b : Nat) : keysOf [D.int (a : Int), D.int (b : Int)] = some (kk (a, b)) := rfl
theorem valD_ents (m : Mp) (k : Nat × Nat) : valD (m.map ent) (kk k) = (get m k).map D.int := by
  unfold valD get
  rw [List.find?_map]
  have : ((fun kv : List Key × D => decide (kv.1 = kk k)) ∘ ent) = fun e : (Nat × Nat) × Int => decide (e.1 = k) := by
    funext e
    show decide (kk e.1 = kk k) = _
    simp only [kk_inj]
  rw [this]
  cases m.find? fun e => decide (e.1 = k) <;> rfl
theorem putD_ents (m : Mp) (k : Nat × Nat) (v : Int) : putD (m.map ent) (kk k) (.int v) = (put m k v).map ent := by
  unfold putD put
  have h1 : ((m.map ent).any fun kv => decide (kv.1 = kk k)) = m.any fun e => decide (e.1 = k) := by
    rw [List.any_map]
    congr 1
    funext e
    show decide (kk e.1 = kk k) = _
    simp only [kk_inj]
  rw [h1]
  split
  · rw [List.map_map, List.map_map]
    refine List.map_congr_left fun e _ => ?_
    show (if kk e.1 = kk k then (kk e.1, D.int v) else ent e) = ent (if e.1 = k then (e.1, v) else e)
    simp only [kk_inj]
    split <;> rfl
  · rw [List.map_append]; rfl
theorem keysW_dt (m : Mp) (k : List D → Prop) (q : k (m.map fun e => kt e.1)) : keysW (DT m) k := by
  unfold DT keysW
  show k ((m.map ent).map fun p => D.tup (p.1.map kD))
  rw [List.map_map]
  exact q
def ND (m : Mp) : Prop := (m.map (·.1)).Nodup
def KB (n : Nat) (m : Mp) : Prop := ∀ e ∈ m, e.1.1 < n ∧ e.1.2 < n
def VB (n : Nat) (m : Mp) : Prop := ∀ e ∈ m, Bnd n e.2
theorem cf_some {m : Mp} (nd : ND m) {a b : Nat} (h : cf m a b ≠ 0) : ∃ e ∈ m, e.1 = (a, b) ∧ e.2 = cf m a b := by
  by_cases hm : (a, b) ∈ m.map (·.1)
  · obtain ⟨e, he, e1⟩ := List.mem_map.mp hm
    refine ⟨e, he, e1, ?_⟩
    have := cf_mem nd he
    rw [e1] at this
    exact this.symm
  · exact absurd (cf_not hm) h
theorem cf_bnd {m : Mp} {n : Nat} (nd : ND m) (vb : VB n m) (a b : Nat) : Bnd n (cf m a b) := by
  by_cases h : cf m a b = 0
  · rw [h]; unfold Bnd; simp
  · obtain ⟨e, he, _, e2⟩ := cf_some nd h
    rw [← e2]; exact vb e he
theorem law_power_ok (k : Nat) (b : Int) (e : Nat) (he : (e : Int) < 2 ^ 62) (hb : ∀ i < e, CMulX (b ^ i) b) {h : AH} {Q : DK} {E : EK} (q : Q (.int (b ^ e)) h) : fnW P (k + 1) 17 [.int b, .int e] h Q E := by
  refine ⟨rfl, ?_⟩
  show Ss P (fnW P k) E b17 (En Q) [some (.int b), some (.int (e : Int)), none, none] h
  unfold b17
  simp only [Ss, S, W, Ws, Wo, T, To, Wi, binW, biW, tgW, vw_int, vw_tup, vw_lst, vw_bl, vw_non, vw_str, vw_dT, setAll, List.getElem?_cons_zero, List.getElem?_cons_succ, List.set_cons_succ, List.set_cons_zero, wipeD, List.map_cons, List.map_nil, List.length_cons, List.length_nil]
  refine ⟨⟨by omega, he⟩, ?_⟩
  refine for_ok (Ss_mono (fnW_mono P k) E z17_1) (fun i ρ h' => h' = h ∧ ∃ o, ρ = [some (.int b), some (.int (e : Int)), some (.int (b ^ i)), o]) _ _ _ ?_ (fun i x ρ h' hx hi => ?_) (fun ρ h' hi => ?_)
  · exact ⟨rfl, none, by rw [Int.pow_zero]⟩
  · obtain ⟨rfl, o, rfl⟩ := hi
    have hlt : i < e := by have := (List.getElem?_eq_some_iff.mp hx).1; simpa [rngD] using this
    refine ⟨trivial, ?_⟩
    unfold z17_1
    simp only [Ss, S, W, Ws, Wo, T, To, Wi, binW, biW, tgW, vw_int, vw_tup, vw_lst, vw_bl, vw_non, vw_str, vw_dT, setAll, List.getElem?_cons_zero, List.getElem?_cons_succ, List.set_cons_succ, List.set_cons_zero, wipeD, List.map_cons, List.map_nil, List.length_cons, List.length_nil]
    exact ⟨hb i hlt, trivial, _, by rw [Int.pow_succ]⟩
  · obtain ⟨rfl, o, rfl⟩ := hi
    refine ⟨trivial, ?_⟩
    simp only [Ss, S, W, Ws, Wo, T, To, Wi, binW, biW, tgW, vw_int, vw_tup, vw_lst, vw_bl, vw_non, vw_str, vw_dT, setAll, List.getElem?_cons_zero, List.getElem?_cons_succ, List.set_cons_succ, List.set_cons_zero, wipeD, List.map_cons, List.map_nil, List.length_cons, List.length_nil]
    refine ⟨h', .refl _, ?_⟩
    have : (rngD 0 (e : Int)).length = e := by simp [rngD]
    rw [this]; exact q
theorem law_value_ok (k : Nat) {m : Mp} (nd : ND m) (kb : KB 100 m) (vb : VB 200 m) (ml : m.length ≤ 100000) {x y : Int} (bX : Bnd 120 x) (bY : Bnd 120 y) {h : AH} {Q : DK} {E : EK}
    (q : Q (.int (sm m fun i j => x ^ i * y ^ j)) h) : fnW P (k + 2) 18 [DT m, .int x, .int y] h Q E := by
  refine ⟨rfl, ?_⟩
  show Ss P (fnW P (k + 1)) E b18 (En Q) [some (DT m), some (.int x), some (.int y), none, none] h
  unfold b18
  simp only [Ss, S, W, Ws, Wo, T, To, Wi, binW, biW, tgW, vw_int, vw_tup, vw_lst, vw_bl, vw_non, vw_str, vw_dT, setAll, List.getElem?_cons_zero, List.getElem?_cons_succ, List.set_cons_succ, List.set_cons_zero, wipeD, List.map_cons, List.map_nil, List.length_cons, List.length_nil]
  refine keysW_dt m _ ?_
  intro p np
  refine comp_map (W_mono' (k + 1) noE e18_1) (fun d => match d with
    | .tup [.int i, .int j] => D.int (cf m i.toNat j.toNat * x ^ i.toNat * y ^ j.toNat)
    | _ => .non) np (fun _ => trivial) (len_le (by rw [List.length_map]; omega)) (fun d hd acc Q1 a => ?_) ?_
  · obtain ⟨e, he, rfl⟩ := List.mem_map.mp hd
    obtain ⟨⟨i, j⟩, v⟩ := e
    have hv : cf m i j = v := cf_mem nd he
    have kb' := kb _ he
    have px := bX.pow i
    have py := bY.pow j
    have m1 := (vb _ he).mul px
    have hi2 : 120 * i ≤ 12000 := by have := kb'.1; simp only at this; omega
    have hj2 : 120 * j ≤ 12000 := by have := kb'.2; simp only at this; omega
    have hi3 : i < 100 := kb'.1
    have hj3 : j < 100 := kb'.2
    have h62 : (2 : Int) ^ 62 = 4611686018427387904 := by decide
    have a' : Q1 (.int (v * x ^ i * y ^ j)) (hup h p (.lst acc)) := by rw [← hv]; exact a
    refine ⟨rfl, ?_⟩
    unfold e18_1
    simp only [Ss, S, W, Ws, Wo, T, To, Wi, binW, biW, tgW, vw_int, vw_tup, vw_lst, vw_bl, vw_non, vw_str, vw_dT, setAll, List.getElem?_cons_zero, List.getElem?_cons_succ, List.set_cons_succ, List.set_cons_zero, wipeD, List.map_cons, List.map_nil, List.length_cons, List.length_nil, ixW, DT, keysOf_kt, valD_ents, get_mem nd he, Option.map_some]
    refine ⟨by rw [sizeLine_eq]; decide, ?_⟩
    refine law_power_ok k x i (by omega) (fun e he => mulX (bX.pow e) bX (by omega)) ?_
    simp only [Ss, S, W, Ws, Wo, T, To, Wi, binW, biW, tgW, vw_int, vw_tup, vw_lst, vw_bl, vw_non, vw_str, vw_dT, setAll, List.getElem?_cons_zero, List.getElem?_cons_succ, List.set_cons_succ, List.set_cons_zero, wipeD, List.map_cons, List.map_nil, List.length_cons, List.length_nil]
    refine ⟨mulX (vb _ he) px (by omega), ?_⟩
    refine law_power_ok k y j (by omega) (fun e he => mulX (bY.pow e) bY (by omega)) ?_
    simp only [Ss, S, W, Ws, Wo, T, To, Wi, binW, biW, tgW, vw_int, vw_tup, vw_lst, vw_bl, vw_non, vw_str, vw_dT, setAll, List.getElem?_cons_zero, List.getElem?_cons_succ, List.set_cons_succ, List.set_cons_zero, wipeD, List.map_cons, List.map_nil, List.length_cons, List.length_nil]
    exact ⟨mulX m1 py (by omega), a'⟩
  · rw [List.map_map]
    have e : m.map ((fun d => match d with
      | D.tup [.int i, .int j] => D.int (cf m i.toNat j.toNat * x ^ i.toNat * y ^ j.toNat)
      | _ => .non) ∘ fun e => kt e.1) = (m.map fun e => e.2 * (x ^ e.1.1 * y ^ e.1.2)).map D.int := by
      rw [List.map_map]
      refine List.map_congr_left fun e he => ?_
      show D.int (cf m e.1.1 e.1.2 * x ^ e.1.1 * y ^ e.1.2) = D.int (e.2 * (x ^ e.1.1 * y ^ e.1.2))
      rw [cf_mem nd he, Int.mul_assoc]
    rw [e]
    simp only [Ss, S, W, Ws, Wo, T, To, Wi, binW, biW, tgW, vw_int, vw_tup, vw_lst, vw_bl, vw_non, vw_str, vw_dT, setAll, List.getElem?_cons_zero, List.getElem?_cons_succ, List.set_cons_succ, List.set_cons_zero, wipeD, List.map_cons, List.map_nil, List.length_cons, List.length_nil, intsOf_map]
    exact ⟨h, Sub.refl h, q⟩
end K37

end

section
set_option Elab.async false
set_option linter.all false
set_option maxRecDepth 100000
set_option maxHeartbeats 1000000
namespace K37
open PySem PySem.Spec PyProof.Rows L2 G
theorem sm_take {m : Mp} {i : Nat} {e : (Nat × Nat) × Int} (h : m[i]? = some e) (f : Cf) : sm (m.take (i + 1)) f = sm (m.take i) f + e.2 * f e.1.1 e.1.2 := by
  rw [List.take_add_one, h, sm_append]
  show _ + sm [e] f = _
  rw [sm_cons, sm_nil, Int.add_zero]
theorem getD_cf {m : Mp} (nd : ND m) (k : Nat × Nat) : ((get m k).map D.int).getD (.int 0) = .int (cf m k.1 k.2) := by
  rw [← get_cf nd k]
  cases get m k <;> rfl
theorem KB.put {n : Nat} {m : Mp} (kb : KB n m) {k : Nat × Nat} (hk : k.1 < n ∧ k.2 < n) (v : Int) : KB n (put m k v) := fun e he => by
  have : e.1 ∈ (K37.put m k v).map (·.1) := List.mem_map.mpr ⟨e, he, rfl⟩
  rw [keys_put] at this
  have go : e.1 ∈ m.map (·.1) → e.1.1 < n ∧ e.1.2 < n := fun q => by
    obtain ⟨x, hx, q⟩ := List.mem_map.mp q
    rw [← q]; exact kb x hx
  split at this
  · exact go this
  · rcases List.mem_append.mp this with q | q
    · exact go q
    · rw [List.mem_singleton.mp q]; exact hk
theorem key_get {m : Mp} {i : Nat} {d : D} (h : (m.map fun e => kt e.1)[i]? = some d) : ∃ e, m[i]? = some e ∧ d = kt e.1 := by
  rw [List.getElem?_map, Option.map_eq_some_iff] at h
  obtain ⟨e, a, b⟩ := h
  exact ⟨e, a, b.symm⟩
theorem hup_dt {h : AH} {p : Addr} {m : Mp} : hup h p (.dT (m.map ent)) = hup h p (DT m) := rfl
theorem law_plus_ok (k : Nat) {m1 m2 : Mp} {n : Nat} (hn : ∀ w : World, ((m1.map ent).map fun p => hashK w p.1).Nodup) (n1 : ND m1) (n2 : ND m2) (kb1 : KB n m1) (kb2 : KB n m2) (l1 : m1.length ≤ 100000) (l2 : m2.length ≤ 100000) {h : AH} {Q : DK} {E : EK}
    (q : ∀ m, ND m → KB n m → m.length ≤ m1.length + m2.length → (∀ f, sm m f = sm m1 f + sm m2 f) → Q (DT m) h) : fnW P (k + 1) 15 [DT m1, DT m2] h Q E := by
  refine ⟨rfl, ?_⟩
  show Ss P (fnW P k) E b15 (En Q) [some (DT m1), some (DT m2), none, none] h
  unfold b15
  simp only [Ss, S, W, Ws, Wo, T, To, Wi, binW, biW, tgW, vw_int, vw_tup, vw_lst, vw_bl, vw_non, vw_str, vw_dT, setAll, List.getElem?_cons_zero, List.getElem?_cons_succ, List.set_cons_succ, List.set_cons_zero, wipeD, List.map_cons, List.map_nil, List.length_cons, List.length_nil, dcopyW]
  show (∀ w : World, ((m1.map ent).map fun p => hashK w p.1).Nodup) ∧ _
  refine ⟨hn, ?_⟩
  intro p np
  refine keysW_dt m2 _ ?_
  refine for_ok (Ss_mono (fnW_mono P k) E z15_1) (fun i ρ h' => ∃ o3 m, ρ = [some (DT m1), some (DT m2), some (.ref p), o3] ∧ h' p = some (DT m) ∧ (∀ a, a ≠ p → h' a = h a) ∧ ND m ∧ KB n m ∧ m.length ≤ m1.length + i ∧ ∀ f, sm m f = sm m1 f + sm (m2.take i) f) _ _ _ ?_ (fun i x ρ h' hx hi => ?_) (fun ρ h' hi => ?_)
  · exact ⟨none, m1, rfl, hup_same, fun a ha => hup_ne ha, n1, kb1, by omega, fun f => by simp [sm]⟩
  · obtain ⟨o3, m, rfl, hp, off, nd, kb, ml, sf⟩ := hi
    obtain ⟨e, he, rfl⟩ := key_get hx
    have hm := List.mem_of_getElem? he
    have hil : i < m2.length := (List.getElem?_eq_some_iff.mp he).1
    refine ⟨trivial, ?_⟩
    unfold z15_1
    have vp : vw h' (.ref p) = .dT (m.map ent) := by simp only [vw, hp]; rfl
    obtain ⟨⟨a, b⟩, v⟩ := e
    simp only [Ss, S, W, Ws, Wo, T, To, Wi, binW, biW, tgW, vw_int, vw_tup, vw_lst, vw_bl, vw_non, vw_str, vw_dT, setAll, List.getElem?_cons_zero, List.getElem?_cons_succ, List.set_cons_succ, List.set_cons_zero, wipeD, List.map_cons, List.map_nil, List.length_cons, List.length_nil, isDT, vp, kt, dgetW, keysOf_kt, valD_ents, getD_cf nd, ixW, DT, get_mem n2 hm, Option.map_some, setW, hp, putD_ents]
    refine ⟨⟨_, rfl⟩, by rw [List.length_map, sizeLine_eq]; omega, _, _, rfl, hup_same, fun x hx => by rw [hup_ne hx]; exact off x hx, nodup_put nd _ _, kb.put (kb2 _ hm) _, ?_, fun f => ?_⟩
    · have := length_put m (a, b) (cf m a b + v); omega
    · have s1 := sm_put nd (a, b) v f
      rw [s1, sm_take he, sf f]
      show sm m1 f + sm (m2.take i) f + v * f a b = sm m1 f + (sm (m2.take i) f + v * f a b)
      omega
  · obtain ⟨o3, m, rfl, hp, off, nd, kb, ml, sf⟩ := hi
    rw [List.length_map] at ml sf
    rw [List.take_length] at sf
    refine ⟨trivial, ?_⟩
    simp only [Ss, S, W, Ws, Wo, T, To, Wi, binW, biW, tgW, vw_int, vw_tup, vw_lst, vw_bl, vw_non, vw_str, vw_dT, setAll, List.getElem?_cons_zero, List.getElem?_cons_succ, List.set_cons_succ, List.set_cons_zero, wipeD, List.map_cons, List.map_nil, List.length_cons, List.length_nil, hp]
    refine ⟨h, fun a d e => ?_, q m nd kb ml sf⟩
    have ha : a ≠ p := fun q => by rw [q, np] at e; cases e
    rw [hdel_ne ha, off a ha]; exact e
def prow (e : (Nat × Nat) × Int) (m : Mp) : Mp := m.map fun x => ((e.1.1 + x.1.1, e.1.2 + x.1.2), e.2 * x.2)
def prd (m1 m2 : Mp) : Mp := m1.flatMap fun e => prow e m2
theorem law_times_ok (k : Nat) {m1 m2 : Mp} {n : Nat} (n1 : ND m1) (n2 : ND m2) (kb1 : KB n m1) (kb2 : KB n m2) (v1 : VB 200 m1) (v2 : VB 200 m2) (l1 : m1.length ≤ 1000) (l2 : m2.length ≤ 1000) {h : AH} {Q : DK} {E : EK}
    (q : ∀ m, ND m → KB (n + n) m → m.length ≤ 1000000 → (∀ f, sm m f = sm (prd m1 m2) f) → Q (DT m) h) : fnW P (k + 1) 16 [DT m1, DT m2] h Q E := by
  refine ⟨rfl, ?_⟩
  show Ss P (fnW P k) E b16 (En Q) [some (DT m1), some (DT m2), none, none, none, none, none] h
  unfold b16
  simp only [Ss, S, W, Ws, Wo, T, To, Wi, binW, biW, tgW, vw_int, vw_tup, vw_lst, vw_bl, vw_non, vw_str, vw_dT, setAll, List.getElem?_cons_zero, List.getElem?_cons_succ, List.set_cons_succ, List.set_cons_zero, wipeD, List.map_cons, List.map_nil, List.length_cons, List.length_nil]
  intro p np
  refine keysW_dt m1 _ ?_
  refine for_ok (Ss_mono (fnW_mono P k) E z16_2) (fun i ρ h' => ∃ o3 o4 o5 o6 m, ρ = [some (DT m1), some (DT m2), some (.ref p), o3, o4, o5, o6] ∧ h' p = some (DT m) ∧ (∀ a, a ≠ p → h' a = h a) ∧ ND m ∧ KB (n + n) m ∧ m.length ≤ i * 1000 ∧ ∀ f, sm m f = sm (prd (m1.take i) m2) f) _ _ _ ?_ (fun i x ρ h' hx hi => ?_) (fun ρ h' hi => ?_)
  · exact ⟨none, none, none, none, [], rfl, hup_same, fun a ha => hup_ne ha, List.nodup_nil, (fun e he => nomatch he), Nat.zero_le _, fun f => rfl⟩
  · obtain ⟨o3, o4, o5, o6, m, rfl, hp, off, nd, kb, ml, sf⟩ := hi
    obtain ⟨e, he, rfl⟩ := key_get hx
    have hm := List.mem_of_getElem? he
    have hil : i < m1.length := (List.getElem?_eq_some_iff.mp he).1
    obtain ⟨⟨a, b⟩, v⟩ := e
    refine ⟨trivial, rfl, ?_⟩
    unfold z16_2
    simp only [Ss, S, W, Ws, Wo, T, To, Wi, binW, biW, tgW, vw_int, vw_tup, vw_lst, vw_bl, vw_non, vw_str, vw_dT, setAll, List.getElem?_cons_zero, List.getElem?_cons_succ, List.set_cons_succ, List.set_cons_zero, wipeD, List.map_cons, List.map_nil, List.length_cons, List.length_nil]
    refine keysW_dt m2 _ ?_
    refine for_ok (Ss_mono (fnW_mono P k) E z16_1) (fun j ρ h' => ∃ o5 o6 m, ρ = [some (DT m1), some (DT m2), some (.ref p), some (.int (a : Int)), some (.int (b : Int)), o5, o6] ∧ h' p = some (DT m) ∧ (∀ a, a ≠ p → h' a = h a) ∧ ND m ∧ KB (n + n) m ∧ m.length ≤ i * 1000 + j ∧ ∀ f, sm m f = sm (prd (m1.take i) m2) f + sm (prow ((a, b), v) (m2.take j)) f) _ _ _ ?_ (fun j x ρ h' hy hj => ?_) (fun ρ h' hj => ?_)
    · exact ⟨o5, o6, m, rfl, hp, off, nd, kb, by omega, fun f => by rw [sf f]; show _ = _ + (0 : Int); omega⟩
    · obtain ⟨o5, o6, m, rfl, hp, off, nd, kb, ml, sf⟩ := hj
      obtain ⟨e2, he2, rfl⟩ := key_get hy
      have hm2 := List.mem_of_getElem? he2
      have hjl : j < m2.length := (List.getElem?_eq_some_iff.mp he2).1
      obtain ⟨⟨c, d⟩, u⟩ := e2
      refine ⟨trivial, rfl, ?_⟩
      unfold z16_1
      have vp : vw h' (.ref p) = .dT (m.map ent) := by simp only [vw, hp]; rfl
      have c1 : (a : Int) + (c : Int) = ((a + c : Nat) : Int) := rfl
      have c2 : (b : Int) + (d : Int) = ((b + d : Nat) : Int) := rfl
      simp only [Ss, S, W, Ws, Wo, T, To, Wi, binW, biW, tgW, vw_int, vw_tup, vw_lst, vw_bl, vw_non, vw_str, vw_dT, setAll, List.getElem?_cons_zero, List.getElem?_cons_succ, List.set_cons_succ, List.set_cons_zero, wipeD, List.map_cons, List.map_nil, List.length_cons, List.length_nil, isDT, vp, c1, c2, dgetW, keysOf_kt, valD_ents, getD_cf nd, ixW, DT, get_mem n1 hm, get_mem n2 hm2, Option.map_some, setW, hp, putD_ents]
      have z2 : 2 ≤ sizeLine := by rw [sizeLine_eq]; decide
      have il : i * 1000 ≤ 999000 := by omega
      refine ⟨⟨_, rfl⟩, z2, z2, z2, mulX (v1 _ hm) (v2 _ hm2) (by omega), z2, by rw [List.length_map, sizeLine_eq]; omega, _, _, _, rfl, hup_same, fun x hx => by rw [hup_ne hx]; exact off x hx, nodup_put nd _ _, kb.put ?_ _, ?_, fun f => ?_⟩
      · have x1 := kb1 _ hm
        have x2 := kb2 _ hm2
        simp only at x1 x2 ⊢
        omega
      · have := length_put m (a + c, b + d) (cf m (a + c) (b + d) + v * u); omega
      · have s1 := sm_put nd (a + c, b + d) (v * u) f
        rw [s1, sf f, List.take_add_one, he2]
        unfold prow
        rw [List.map_append, sm_append]
        show _ + _ + v * u * f (a + c) (b + d) = _ + (_ + sm [((a + c, b + d), v * u)] f)
        rw [sm_cons, sm_nil]
        dsimp only
        omega
    · obtain ⟨o5, o6, m, rfl, hp, off, nd, kb, ml, sf⟩ := hj
      rw [List.length_map] at ml sf
      rw [List.take_length] at sf
      refine ⟨trivial, ?_⟩
      simp only [Ss, S, W, Ws, Wo, T, To, Wi, binW, biW, tgW, vw_int, vw_tup, vw_lst, vw_bl, vw_non, vw_str, vw_dT, setAll, List.getElem?_cons_zero, List.getElem?_cons_succ, List.set_cons_succ, List.set_cons_zero, wipeD, List.map_cons, List.map_nil, List.length_cons, List.length_nil]
      refine ⟨_, _, _, _, m, rfl, hp, off, nd, kb, by rw [Nat.succ_mul]; omega, fun f => ?_⟩
      rw [sf f, List.take_add_one, he]
      unfold prd
      rw [List.flatMap_append, sm_append]
      simp
  · obtain ⟨o3, o4, o5, o6, m, rfl, hp, off, nd, kb, ml, sf⟩ := hi
    rw [List.length_map] at ml sf
    rw [List.take_length] at sf
    refine ⟨trivial, ?_⟩
    simp only [Ss, S, W, Ws, Wo, T, To, Wi, binW, biW, tgW, vw_int, vw_tup, vw_lst, vw_bl, vw_non, vw_str, vw_dT, setAll, List.getElem?_cons_zero, List.getElem?_cons_succ, List.set_cons_succ, List.set_cons_zero, wipeD, List.map_cons, List.map_nil, List.length_cons, List.length_nil, hp]
    refine ⟨h, fun a d e => ?_, q m nd kb (by omega) sf⟩
    have ha : a ≠ p := fun q => by rw [q, np] at e; cases e
    rw [hdel_ne ha, off a ha]; exact e
end K37

end

section
set_option Elab.async false
set_option linter.all false
set_option maxRecDepth 100000
set_option maxHeartbeats 1000000
namespace K37
open PySem PySem.Spec PyProof.Rows L2 G
theorem comp_keep {tg : ITg} {g : AH → Prop} {c : WT} {e : WE} (mc : MonT c) (me : MonE e) {own : List Nat} {ρ : Env'} {h : AH} {p : Addr} {Q : DK} {items : List D} (pr : D → Bool) (f : D → D) (hg : ∀ acc, g (hup h p (.lst acc))) (hl : items.length ≤ sizeLine)
    (st : ∀ x ∈ items, ∀ acc (Q1 : DK) (Q0 : AH → Prop), (pr x = true → Q1 (f x) (hup h p (.lst acc))) → (pr x = false → Q0 (hup h p (.lst acc))) → tgW tg x (wipeD ρ own) fun ρ1 => c ρ1 (hup h p (.lst acc)) fun b h1 => match b with
      | true => e ρ1 h1 Q1
      | false => Q0 h1) (q : Q (.ref p) (hup h p (.lst ((items.filter pr).map f)))) : compW tg g c e own ρ p (compEnd false p Q) items [] (hup h p (.lst [])) := by
  refine compW_inv mc me (fun i acc h' => h' = hup h p (.lst acc) ∧ acc = ((items.take i).filter pr).map f ∧ acc.length ≤ i) items 0 [] _ ⟨rfl, rfl, Nat.le_refl _⟩ (fun i x acc h' hx hi => ?_) (fun acc h' hi => ?_)
  · obtain ⟨rfl, e1, e2⟩ := hi
    rw [Nat.zero_add] at e1 e2 ⊢
    have ht : items.take (i + 1) = items.take i ++ [x] := by rw [List.take_add_one, hx]; rfl
    refine ⟨hg _, ?_⟩
    refine tgW_mono (st x (List.mem_of_getElem? hx) acc (fun d h2 => d = f x ∧ h2 = hup h p (.lst acc) ∧ pr x = true) (fun h1 => h1 = hup h p (.lst acc) ∧ pr x = false) (fun q => ⟨rfl, rfl, q⟩) (fun q => ⟨rfl, q⟩)) fun ρ1 z => mc _ _ _ _ z fun b h1 y => ?_
    cases b with
    | true =>
      refine me _ _ _ _ y fun d h2 y => ?_
      obtain ⟨rfl, rfl, y⟩ := y
      have hlt : i < items.length := (List.getElem?_eq_some_iff.mp hx).1
      refine ⟨hup_same, by omega, by rw [hup_hup], ?_, by simp; omega⟩
      rw [ht, List.filter_append, List.map_append, ← e1]
      simp [y]
    | false =>
      obtain ⟨rfl, y⟩ := y
      refine ⟨rfl, ?_, by omega⟩
      rw [ht, List.filter_append, List.map_append, ← e1]
      simp [y]
  · obtain ⟨rfl, e1, e2⟩ := hi
    rw [Nat.zero_add, List.take_length] at e1
    subst e1
    exact ⟨hg _, hup_same, q⟩
theorem py_keys (l : List (Nat × Nat)) : D.pyAll (l.map kt) = some (l.map fun k => PyData.tuple [.int (k.1 : Int), .int (k.2 : Int)]) := by
  induction l with
  | nil => rfl
  | cons k l ih =>
    rw [List.map_cons]
    simp only [D.pyAll, ih, kt, D.py, Option.map_some]
    rfl
theorem lay_keys (l : List (Nat × Nat)) : PyData.canLayAll0 (l.map fun k => PyData.tuple [.int (k.1 : Int), .int (k.2 : Int)]) = true := by
  induction l with
  | nil => rfl
  | cons k l ih => simp [PyData.canLayAll0, PyData.canLay0, ih]
theorem dep_keys (l : List (Nat × Nat)) : PyData.depthAll (l.map fun k => PyData.tuple [.int (k.1 : Int), .int (k.2 : Int)]) ≤ 2 := by
  induction l with
  | nil => simp [PyData.depthAll]
  | cons k l ih => simp [PyData.depthAll, PyData.depth]; omega
theorem eq_keys (l : List (Nat × Nat)) : eqD (.lst (l.map kt)) (.lst []) = some l.isEmpty := by
  unfold eqD
  simp only [D.py, py_keys, D.pyAll, Option.map_some]
  rw [if_pos]
  · cases l <;> rfl
  · refine ⟨?_, by unfold SeqAt.shaped; decide⟩
    unfold SeqAt.shaped
    have := dep_keys l
    simp [PyData.canLay0, lay_keys, PyData.depth]
    omega
/-- what stands at a nonzero key bounds the table -/
theorem ends_can {m : Mp} (nd : ND m) {n : Nat} (kb : KB n m) (ne : m.filter (fun e => e.2 != 0) ≠ []) : ∃ hh ww : Nat, mx0 ((m.filter fun e => e.2 != 0).map fun e => ((e.1.1 : Nat) : Int)) + 1 = (hh : Int) ∧ mx0 ((m.filter fun e => e.2 != 0).map fun e => ((e.1.2 : Nat) : Int)) + 1 = (ww : Int) ∧ hh ≤ n ∧ ww ≤ n ∧ Can (cf m) (table (cf m) hh ww) hh ww := by
  obtain ⟨a1, a2⟩ := mx0_spec ((m.filter fun e => e.2 != 0).map fun e => ((e.1.1 : Nat) : Int))
  obtain ⟨b1, b2⟩ := mx0_spec ((m.filter fun e => e.2 != 0).map fun e => ((e.1.2 : Nat) : Int))
  have a3 := a2.resolve_right fun q => ne (List.map_eq_nil_iff.mp q.1)
  have b3 := b2.resolve_right fun q => ne (List.map_eq_nil_iff.mp q.1)
  obtain ⟨e, he, ee⟩ := List.mem_map.mp a3
  obtain ⟨d, hd, de⟩ := List.mem_map.mp b3
  rw [List.mem_filter] at he hd
  refine ⟨e.1.1 + 1, d.1.2 + 1, by rw [← ee]; rfl, by rw [← de]; rfl, by have := (kb e he.1).1; omega, by have := (kb d hd.1).2; omega, rfl, fun i j h => ?_, fun _ => ⟨e.1.2, ?_⟩, fun _ => ⟨d.1.1, ?_⟩⟩
  · obtain ⟨x, hx, x1, x2⟩ := cf_some nd h
    have hm : x ∈ m.filter fun e => e.2 != 0 := List.mem_filter.mpr ⟨hx, by rw [x2]; simpa using h⟩
    have y1 := a1 _ (List.mem_map.mpr ⟨x, hm, rfl⟩)
    have y2 := b1 _ (List.mem_map.mpr ⟨x, hm, rfl⟩)
    rw [← ee] at y1
    rw [← de] at y2
    rw [x1] at y1 y2
    simp only at y1 y2
    omega
  · rw [Nat.add_sub_cancel, cf_mem nd he.1]; simpa using he.2
  · rw [Nat.add_sub_cancel, cf_mem nd hd.1]; simpa using hd.2
theorem filt_eq {m : Mp} (nd : ND m) : ((m.map fun e => kt e.1).filter fun d => match d with
      | .tup [.int i, .int j] => cf m i.toNat j.toNat != 0
      | _ => false) = (m.filter fun e => e.2 != 0).map fun e => kt e.1 := by
  rw [List.filter_map]
  congr 1
  refine List.filter_congr fun e he => ?_
  show (cf m e.1.1 e.1.2 != 0) = _
  rw [cf_mem nd he]
theorem max1_int {ns : List Int} {h : AH} {Q : DK} (ne : ns ≠ []) (q : Q (.int (mx0 ns)) h) : biW .max1 [.lst (ns.map D.int)] h Q := by
  simp only [biW, vw_lst, intsOf_map]
  cases ns with
  | nil => exact absurd rfl ne
  | cons n ns => exact q
theorem law_trimmed_ok (k : Nat) {m : Mp} {n : Nat} (nd : ND m) (kb : KB n m) (hn : n ≤ 1000) (ml : m.length ≤ 1000000) {h : AH} {Q : DK} {E : EK} (q : ∀ t hh ww, Can (cf m) t hh ww → hh ≤ n → ww ≤ n → Q (TT t) h) : fnW P (k + 1) 11 [DT m] h Q E := by
  refine ⟨rfl, ?_⟩
  show Ss P (fnW P k) E b11 (En Q) [some (DT m), none, none, none, none, none, none] h
  unfold b11
  simp only [Ss, S, W, Ws, Wo, T, To, Wi, binW, biW, tgW, vw_int, vw_tup, vw_lst, vw_bl, vw_non, vw_str, vw_dT, setAll, List.getElem?_cons_zero, List.getElem?_cons_succ, List.set_cons_succ, List.set_cons_zero, wipeD, List.map_cons, List.map_nil, List.length_cons, List.length_nil]
  refine keysW_dt m _ ?_
  intro p np
  refine comp_keep (To_mono' k noE t11_1) (W_mono' k noE e11_1) (fun d => match d with
      | .tup [.int i, .int j] => cf m i.toNat j.toNat != 0
      | _ => false) id (fun _ => trivial) (len_le (by rw [List.length_map]; omega)) (fun d hd acc Q1 Q0 a b => ?_) ?_
  · obtain ⟨e, he, rfl⟩ := List.mem_map.mp hd
    obtain ⟨⟨i, j⟩, v⟩ := e
    have hv : cf m i j = v := cf_mem nd he
    unfold t11_1
    simp only [Ss, S, W, Ws, Wo, T, To, Wi, binW, biW, tgW, vw_int, vw_tup, vw_lst, vw_bl, vw_non, vw_str, vw_dT, setAll, List.getElem?_cons_zero, List.getElem?_cons_succ, List.set_cons_succ, List.set_cons_zero, wipeD, List.map_cons, List.map_nil, List.length_cons, List.length_nil, kt, ixW, DT, keysOf_kt, valD_ents, get_mem nd he, Option.map_some, cmpD, eq_int, ne_zero]
    cases hz : (v != 0) with
    | true =>
      unfold e11_1
      simp only [Ss, S, W, Ws, Wo, T, To, Wi, binW, biW, tgW, vw_int, vw_tup, vw_lst, vw_bl, vw_non, vw_str, vw_dT, setAll, List.getElem?_cons_zero, List.getElem?_cons_succ, List.set_cons_succ, List.set_cons_zero, wipeD, List.map_cons, List.map_nil, List.length_cons, List.length_nil]
      exact a (by show (cf m i j != 0) = true; rw [hv]; exact hz)
    | false => exact b (by show (cf m i j != 0) = false; rw [hv]; exact hz)
  · rw [filt_eq nd, List.map_id]
    have hk : (m.filter fun e => e.2 != 0).map (fun e => kt e.1) = ((m.filter fun e => e.2 != 0).map (·.1)).map kt := by rw [List.map_map]; rfl
    rw [hk]
    have ll : (m.filter fun e => e.2 != 0).length ≤ m.length := List.length_filter_le _ _
    simp only [Ss, S, W, Ws, Wo, T, To, Wi, binW, biW, tgW, vw_int, vw_tup, vw_lst, vw_bl, vw_non, vw_str, vw_dT, setAll, List.getElem?_cons_zero, List.getElem?_cons_succ, List.set_cons_succ, List.set_cons_zero, wipeD, List.map_cons, List.map_nil, List.length_cons, List.length_nil, hup_same, hdel_new np, mkL, cmpD, eq_keys]
    refine ⟨Nat.zero_le _, ?_⟩
    by_cases ne : m.filter (fun e => e.2 != 0) = []
    · rw [ne]
      simp only [Ss, S, W, Ws, Wo, T, To, Wi, binW, biW, tgW, vw_int, vw_tup, vw_lst, vw_bl, vw_non, vw_str, vw_dT, setAll, List.getElem?_cons_zero, List.getElem?_cons_succ, List.set_cons_succ, List.set_cons_zero, wipeD, List.map_cons, List.map_nil, List.length_cons, List.length_nil, List.isEmpty_nil]
      refine ⟨Nat.zero_le _, h, Sub.refl h, ?_⟩
      refine q [] 0 0 ⟨rfl, fun i j hne => ?_, fun z => absurd z (by omega), fun z => absurd z (by omega)⟩ (Nat.zero_le _) (Nat.zero_le _)
      obtain ⟨x, hx, x1, x2⟩ := cf_some nd hne
      have hm : x ∈ m.filter fun e => e.2 != 0 := List.mem_filter.mpr ⟨hx, by rw [x2]; simpa using hne⟩
      rw [ne] at hm; cases hm
    · obtain ⟨hh, ww, e1, e2, lh, lw, can⟩ := ends_can nd kb ne
      have he : ((m.filter fun e => e.2 != 0).map (·.1)).isEmpty = false := by
        cases z : m.filter fun e => e.2 != 0 with
        | nil => exact absurd z ne
        | cons _ _ => rfl
      rw [he]
      simp only [Ss, S, W, Ws, Wo, T, To, Wi, binW, biW, tgW, vw_int, vw_tup, vw_lst, vw_bl, vw_non, vw_str, vw_dT, setAll, List.getElem?_cons_zero, List.getElem?_cons_succ, List.set_cons_succ, List.set_cons_zero, wipeD, List.map_cons, List.map_nil, List.length_cons, List.length_nil, seqW]
      intro p1 np1
      refine comp_map (W_mono' k noE e11_3) (fun d => match d with
        | .tup [x, _] => x
        | _ => .non) np1 (fun _ => trivial) (len_le (by rw [List.length_map, List.length_map]; omega)) (fun d hd acc Q1 a => ?_) ?_
      · obtain ⟨e, _, rfl⟩ := List.mem_map.mp hd
        unfold e11_3
        simp only [Ss, S, W, Ws, Wo, T, To, Wi, binW, biW, tgW, vw_int, vw_tup, vw_lst, vw_bl, vw_non, vw_str, vw_dT, setAll, List.getElem?_cons_zero, List.getElem?_cons_succ, List.set_cons_succ, List.set_cons_zero, wipeD, List.map_cons, List.map_nil, List.length_cons, List.length_nil, kt]
        exact ⟨trivial, a⟩
      have ne1 : (m.filter fun e => e.2 != 0).map (fun e => ((e.1.1 : Nat) : Int)) ≠ [] := fun z => ne (List.map_eq_nil_iff.mp z)
      have ne2 : (m.filter fun e => e.2 != 0).map (fun e => ((e.1.2 : Nat) : Int)) ≠ [] := fun z => ne (List.map_eq_nil_iff.mp z)
      have f1 : (((m.filter fun e => e.2 != 0).map (·.1)).map kt).map (fun d => match d with
        | D.tup [x, _] => x
        | _ => .non) = ((m.filter fun e => e.2 != 0).map fun e => ((e.1.1 : Nat) : Int)).map D.int := by
        rw [List.map_map, List.map_map, List.map_map]; rfl
      have f2 : (((m.filter fun e => e.2 != 0).map (·.1)).map kt).map (fun d => match d with
        | D.tup [_, x] => x
        | _ => .non) = ((m.filter fun e => e.2 != 0).map fun e => ((e.1.2 : Nat) : Int)).map D.int := by
        rw [List.map_map, List.map_map, List.map_map]; rfl
      obtain ⟨n0, ns0, x1⟩ := List.exists_cons_of_ne_nil ne1
      obtain ⟨n1, ns1, x2⟩ := List.exists_cons_of_ne_nil ne2
      rw [x1] at e1
      rw [x2] at e2
      have e1' : maxI n0 ns0 + 1 = (hh : Int) := e1
      have e2' : maxI n1 ns1 + 1 = (ww : Int) := e2
      rw [f1, x1]
      simp only [vw_lst, intsOf_map]
      intro p2 np2
      refine comp_map (W_mono' k noE e11_2) (fun d => match d with
        | .tup [_, x] => x
        | _ => .non) np2 (fun _ => trivial) (len_le (by rw [List.length_map, List.length_map]; omega)) (fun d hd acc Q1 a => ?_) ?_
      · obtain ⟨e, _, rfl⟩ := List.mem_map.mp hd
        unfold e11_2
        simp only [Ss, S, W, Ws, Wo, T, To, Wi, binW, biW, tgW, vw_int, vw_tup, vw_lst, vw_bl, vw_non, vw_str, vw_dT, setAll, List.getElem?_cons_zero, List.getElem?_cons_succ, List.set_cons_succ, List.set_cons_zero, wipeD, List.map_cons, List.map_nil, List.length_cons, List.length_nil, kt]
        exact ⟨trivial, a⟩
      rw [f2, x2]
      simp only [vw_lst, intsOf_map]
      rw [e1', e2']
      refine ⟨by rw [sizeLine_eq]; decide, trivial, ?_⟩
      refine ⟨small_nat (by omega), ?_⟩
      intro p3 np3
      rw [rngD0]
      refine comp_map (W_mono' k noE e11_5) (fun d => match d with
        | .int i => D.tup ((List.range ww).map fun j => D.int (cf m i.toNat j))
        | _ => .non) np3 (fun _ => trivial) (len_le (by rw [List.length_map, List.length_range]; omega)) (fun d hd acc Q1 a => ?_) ?_
      · obtain ⟨i, _, rfl⟩ := List.mem_map.mp hd
        unfold e11_5
        simp only [Ss, S, W, Ws, Wo, T, To, Wi, binW, biW, tgW, vw_int, vw_tup, vw_lst, vw_bl, vw_non, vw_str, vw_dT, setAll, List.getElem?_cons_zero, List.getElem?_cons_succ, List.set_cons_succ, List.set_cons_zero, wipeD, List.map_cons, List.map_nil, List.length_cons, List.length_nil]
        refine ⟨small_nat (by omega), ?_⟩
        intro p4 np4
        rw [rngD0]
        refine comp_map (W_mono' k noE e11_4) (fun d => match d with
          | .int j => D.int (cf m i j.toNat)
          | _ => .non) np4 (fun _ => trivial) (len_le (by rw [List.length_map, List.length_range]; omega)) (fun d hd acc2 Q2 a2 => ?_) ?_
        · obtain ⟨j, _, rfl⟩ := List.mem_map.mp hd
          unfold e11_4
          simp only [Ss, S, W, Ws, Wo, T, To, Wi, binW, biW, tgW, vw_int, vw_tup, vw_lst, vw_bl, vw_non, vw_str, vw_dT, setAll, List.getElem?_cons_zero, List.getElem?_cons_succ, List.set_cons_succ, List.set_cons_zero, wipeD, List.map_cons, List.map_nil, List.length_cons, List.length_nil, DT, isDT, dgetW, keysOf_kt, valD_ents, getD_cf nd]
          exact ⟨⟨_, rfl⟩, by rw [sizeLine_eq]; decide, a2⟩
        · rw [List.map_map]
          simp only [Ss, S, W, Ws, Wo, T, To, Wi, binW, biW, tgW, vw_int, vw_tup, vw_lst, vw_bl, vw_non, vw_str, vw_dT, setAll, List.getElem?_cons_zero, List.getElem?_cons_succ, List.set_cons_succ, List.set_cons_zero, wipeD, List.map_cons, List.map_nil, List.length_cons, List.length_nil]
          simpa [Function.comp_def] using a
      · have e9 : ((List.range hh).map fun i => D.int ((i : Nat) : Int)).map (fun d => match d with
          | .int i => D.tup ((List.range ww).map fun j => D.int (cf m i.toNat j))
          | _ => .non) = (table (cf m) hh ww).map fun r => D.tup (r.map .int) := by
          unfold table
          rw [List.map_map, List.map_map]
          refine List.map_congr_left fun i _ => ?_
          simp
        rw [e9]
        exact ⟨h, Sub.refl h, q _ hh ww can lh lw⟩
end K37

end

section
set_option Elab.async false
set_option linter.all false
set_option maxRecDepth 100000
set_option maxHeartbeats 1000000
namespace K37
open PySem PySem.Spec PyProof.Rows L2 G
def Sm : Nat → D → Prop
  | 0, d => ∃ z, d = .int z
  | n + 1, d => (∃ z, d = .int z) ∨ ∃ ds : List D, (d = .tup ds ∨ d = .lst ds) ∧ ds.length ≤ 1000 ∧ ∀ x ∈ ds, Sm n x
theorem eq_bl (a b : Bool) : eqD (.bl a) (.bl b) = some (a == b) := by
  unfold eqD
  simp only [D.py]
  rw [if_pos ⟨by unfold SeqAt.shaped; rfl, by unfold SeqAt.shaped; rfl⟩]
  rfl
theorem eq_nil : eqD (.lst []) (.lst []) = some true := eq_keys []
theorem isi_int (z : Int) (t : TyN) : isiD (.int z) t = some (TyN.int == t || (TyN.int == TyN.bool && t == TyN.int)) := rfl
theorem isi_tup (ds : List D) (t : TyN) : isiD (.tup ds) t = some (TyN.tuple == t || (TyN.tuple == TyN.bool && t == TyN.int)) := rfl
theorem isi_lst (ds : List D) (t : TyN) : isiD (.lst ds) t = some (TyN.list == t || (TyN.list == TyN.bool && t == TyN.int)) := rfl
theorem same_int (k : Nat) (z : Int) {h : AH} {Q : DK} {E : EK} (q : Q (.bl true) h) : fnW P (k + 1) 10 [.int z, .int z] h Q E := by
  refine ⟨rfl, ?_⟩
  show Ss P (fnW P k) E b10 (En Q) [some (.int z), some (.int z), none] h
  unfold b10
  simp only [Ss, S, W, Ws, Wo, T, To, Wi, binW, biW, tgW, vw_int, vw_tup, vw_lst, vw_bl, vw_non, vw_str, vw_dT, setAll, List.getElem?_cons_zero, List.getElem?_cons_succ, List.set_cons_succ, List.set_cons_zero, wipeD, List.map_cons, List.map_nil, List.length_cons, List.length_nil, cmpD, isD, isi_int]
  have e1 : (TyN.int == TyN.bool || (TyN.int == TyN.bool && TyN.bool == TyN.int)) = false := by decide
  have e2 : (TyN.int == TyN.int || (TyN.int == TyN.bool && TyN.int == TyN.int)) = true := by decide
  rw [e1, e2]
  simp only [Bool.not_false, eq_int, Int.sub_self, decide_true]
  exact ⟨h, Sub.refl h, q⟩
theorem same_seq (k : Nat) {d : D} {ds : List D} (hd : d = .tup ds ∨ d = .lst ds) (hl : ds.length ≤ 1000) (ih : ∀ x ∈ ds, ∀ (h : AH) (Q : DK) (E : EK), Q (.bl true) h → fnW P k 10 [x, x] h Q E) {h : AH} {Q : DK} {E : EK} (q : Q (.bl true) h) : fnW P (k + 1) 10 [d, d] h Q E := by
  have step : ∀ (d' : D), (∀ h', vw h' d' = d') → (d' = .tup ds ∨ d' = .lst ds) → ∀ (p : Addr) (np : h p = none) (Q9 : DK), Q9 (.lst []) h → compW (.nm 2) (fun _ => True) (To P (fnW P k) noE t10_2) (W P (fnW P k) noE e10_2) [2] [some d', some d', none] p (compEnd true p Q9) (rngD 0 (ds.length : Int)) [] (hup h p (.lst [])) := fun d' hv hd' p np Q9 q9 => by
    rw [rngD0]
    refine comp_pure (To_mono' k noE t10_2) (W_mono' k noE e10_2) (fun _ => false) id np (fun _ => trivial) (len_le (by rw [List.length_map, List.length_range]; omega)) (fun x hx acc Q1 Q0 a b => ?_) ?_
    · obtain ⟨i, hi, rfl⟩ := List.mem_map.mp hx
      have hi' : i < ds.length := by simpa using hi
      unfold t10_2
      simp only [Ss, S, W, Ws, Wo, T, To, Wi, binW, biW, tgW, vw_int, vw_tup, vw_lst, vw_bl, vw_non, vw_str, vw_dT, setAll, List.getElem?_cons_zero, List.getElem?_cons_succ, List.set_cons_succ, List.set_cons_zero, wipeD, List.map_cons, List.map_nil, List.length_cons, List.length_nil, ixW]
      rcases hd' with rfl | rfl
      · simp only [Ss, S, W, Ws, Wo, T, To, Wi, binW, biW, tgW, vw_int, vw_tup, vw_lst, vw_bl, vw_non, vw_str, vw_dT, setAll, List.getElem?_cons_zero, List.getElem?_cons_succ, List.set_cons_succ, List.set_cons_zero, wipeD, List.map_cons, List.map_nil, List.length_cons, List.length_nil, atI_nat, List.getElem?_eq_getElem hi']
        refine ih _ (List.getElem_mem hi') _ _ _ ?_
        simp only [Ss, S, W, Ws, Wo, T, To, Wi, binW, biW, tgW, vw_int, vw_tup, vw_lst, vw_bl, vw_non, vw_str, vw_dT, setAll, List.getElem?_cons_zero, List.getElem?_cons_succ, List.set_cons_succ, List.set_cons_zero, wipeD, List.map_cons, List.map_nil, List.length_cons, List.length_nil]
        exact b rfl
      · simp only [Ss, S, W, Ws, Wo, T, To, Wi, binW, biW, tgW, vw_int, vw_tup, vw_lst, vw_bl, vw_non, vw_str, vw_dT, setAll, List.getElem?_cons_zero, List.getElem?_cons_succ, List.set_cons_succ, List.set_cons_zero, wipeD, List.map_cons, List.map_nil, List.length_cons, List.length_nil, atI_nat, List.getElem?_eq_getElem hi']
        refine ih _ (List.getElem_mem hi') _ _ _ ?_
        simp only [Ss, S, W, Ws, Wo, T, To, Wi, binW, biW, tgW, vw_int, vw_tup, vw_lst, vw_bl, vw_non, vw_str, vw_dT, setAll, List.getElem?_cons_zero, List.getElem?_cons_succ, List.set_cons_succ, List.set_cons_zero, wipeD, List.map_cons, List.map_nil, List.length_cons, List.length_nil]
        exact b rfl
    · rw [List.filter_eq_nil_iff.mpr fun a _ => by simp]
      exact q9
  refine ⟨rfl, ?_⟩
  show Ss P (fnW P k) E b10 (En Q) [some d, some d, none] h
  unfold b10
  have f0 : ∀ t : TyN, (TyN.tuple == t || (TyN.tuple == TyN.bool && t == TyN.int)) = (TyN.tuple == t) := fun t => by cases t <;> decide
  have f1 : ∀ t : TyN, (TyN.list == t || (TyN.list == TyN.bool && t == TyN.int)) = (TyN.list == t) := fun t => by cases t <;> decide
  have t1 : (TyN.tuple == TyN.bool) = false := by decide
  have t2 : (TyN.tuple == TyN.int) = false := by decide
  have t3 : (TyN.tuple == TyN.str) = false := by decide
  have t4 : (TyN.tuple == TyN.list) = false := by decide
  have t5 : (TyN.tuple == TyN.tuple) = true := by decide
  have u1 : (TyN.list == TyN.bool) = false := by decide
  have u2 : (TyN.list == TyN.int) = false := by decide
  have u3 : (TyN.list == TyN.str) = false := by decide
  have u4 : (TyN.list == TyN.list) = true := by decide
  have u5 : (TyN.list == TyN.tuple) = false := by decide
  have z1 : (true == true) = true := rfl
  have z2 : (false == false) = true := rfl
  have sm : ∀ n : Nat, n ≤ 1000 → Small (n : Int) := fun n hn => small_nat (by omega)
  rcases hd with rfl | rfl
  · simp only [Ss, S, W, Ws, Wo, T, To, Wi, binW, biW, tgW, vw_int, vw_tup, vw_lst, vw_bl, vw_non, vw_str, vw_dT, setAll, List.getElem?_cons_zero, List.getElem?_cons_succ, List.set_cons_succ, List.set_cons_zero, wipeD, List.map_cons, List.map_nil, List.length_cons, List.length_nil, cmpD, isD, isi_tup, f0, t1, t2, t3, t4, t5, eq_bl, z1, z2, Option.map_some, Bool.not_true, eq_int, decide_true]
    refine ⟨sm _ hl, fun p np => step _ (fun _ => rfl) (.inl rfl) p np _ ?_⟩
    simp only [Ss, S, W, Ws, Wo, T, To, Wi, binW, biW, tgW, vw_int, vw_tup, vw_lst, vw_bl, vw_non, vw_str, vw_dT, setAll, List.getElem?_cons_zero, List.getElem?_cons_succ, List.set_cons_succ, List.set_cons_zero, wipeD, List.map_cons, List.map_nil, List.length_cons, List.length_nil, mkL, eq_nil]
    exact ⟨Nat.zero_le _, h, Sub.refl h, q⟩
  · simp only [Ss, S, W, Ws, Wo, T, To, Wi, binW, biW, tgW, vw_int, vw_tup, vw_lst, vw_bl, vw_non, vw_str, vw_dT, setAll, List.getElem?_cons_zero, List.getElem?_cons_succ, List.set_cons_succ, List.set_cons_zero, wipeD, List.map_cons, List.map_nil, List.length_cons, List.length_nil, cmpD, isD, isi_lst, f1, u1, u2, u3, u4, u5, eq_bl, z1, z2, Option.map_some, Bool.not_true, eq_int, decide_true]
    refine ⟨sm _ hl, fun p np => step _ (fun _ => rfl) (.inr rfl) p np _ ?_⟩
    simp only [Ss, S, W, Ws, Wo, T, To, Wi, binW, biW, tgW, vw_int, vw_tup, vw_lst, vw_bl, vw_non, vw_str, vw_dT, setAll, List.getElem?_cons_zero, List.getElem?_cons_succ, List.set_cons_succ, List.set_cons_zero, wipeD, List.map_cons, List.map_nil, List.length_cons, List.length_nil, mkL, eq_nil]
    exact ⟨Nat.zero_le _, h, Sub.refl h, q⟩
theorem same_ok : ∀ (n k : Nat) (d : D), Sm n d → ∀ (h : AH) (Q : DK) (E : EK), Q (.bl true) h → fnW P (k + n + 1) 10 [d, d] h Q E
  | 0, k, d, hd, h, Q, E, q => by
    obtain ⟨z, rfl⟩ := hd
    exact same_int _ z q
  | n + 1, k, d, hd, h, Q, E, q => by
    rcases hd with ⟨z, rfl⟩ | ⟨ds, hd, hl, hx⟩
    · exact same_int _ z q
    · exact same_seq (k + (n + 1)) hd hl (fun x hm h' Q' E' q' => same_ok n k x (hx x hm) h' Q' E' q') q
end K37

end

section
set_option Elab.async false
set_option linter.all false
set_option maxRecDepth 100000
set_option maxHeartbeats 1000000
namespace K37
open PySem PySem.Spec PyProof.Rows L2 G
def BoxAt (h : AH) (p : Addr) (n : Nat) : Prop := ∃ (g : Int) (b : Bool) (r c : Int), h p = some (.lst [.int g, .bl b, .int r, .int c]) ∧ 0 ≤ r ∧ r < 2147483629 ∧ 0 ≤ c ∧ c ≤ n
def Off (p : Addr) (h h' : AH) : Prop := ∀ a, a ≠ p → h' a = h a
theorem BoxAt.mono {h : AH} {p : Addr} {n m : Nat} (b : BoxAt h p n) (l : n ≤ m) : BoxAt h p m := by
  obtain ⟨g, b, r, c, e, h1, h2, h3, h4⟩ := b
  exact ⟨g, b, r, c, e, h1, h2, h3, by omega⟩
theorem Off.trans {p : Addr} {h h1 h2 : AH} (a : Off p h h1) (b : Off p h1 h2) : Off p h h2 := fun x hx => (b x hx).trans (a x hx)
theorem Off.refl (p : Addr) (h : AH) : Off p h h := fun _ _ => rfl
theorem ix_nat (n i : Nat) (h : i < n) : ixN n (i : Int) = some i := by
  unfold ixN
  rw [if_pos (by omega), if_pos (by omega), Int.toNat_natCast]
theorem cell_ok (k : Nat) (ns : List Int) (i : Nat) (hi : i ≤ 1000) {h : AH} {Q : DK} {E : EK} (q : ∀ z, Q (.int z) h) : fnW P (k + 1) 7 [.lst (ns.map .int), .int i] h Q E := by
  refine ⟨rfl, ?_⟩
  show Ss P (fnW P k) E b7 (En Q) [some (.lst (ns.map .int)), some (.int (i : Int))] h
  unfold b7
  simp only [Ss, S, W, Ws, Wo, T, To, Wi, binW, biW, tgW, vw_int, vw_tup, vw_lst, vw_bl, vw_non, vw_str, vw_dT, setAll, List.getElem?_cons_zero, List.getElem?_cons_succ, List.set_cons_succ, List.set_cons_zero, wipeD, List.map_cons, List.map_nil, List.length_cons, List.length_nil, cmpD, List.length_map, ixW, atI_nat]
  by_cases hl : i < ns.length
  · rw [decide_eq_true (show (i : Int) < (ns.length : Int) by omega)]
    simp only [List.getElem?_map, List.getElem?_eq_getElem hl, Option.map_some]
    exact ⟨h, Sub.refl h, q _⟩
  · rw [decide_eq_false (show ¬ (i : Int) < (ns.length : Int) by omega)]
    have e1 : G.cutD (ns.map D.int) none (some 1) = (ns.take 1).map D.int := by
      have := cut_take (ns.map D.int) 1
      rw [List.map_take]; exact this
    simp only [Ss, S, W, Ws, Wo, T, To, Wi, binW, biW, tgW, vw_int, vw_tup, vw_lst, vw_bl, vw_non, vw_str, vw_dT, setAll, List.getElem?_cons_zero, List.getElem?_cons_succ, List.set_cons_succ, List.set_cons_zero, wipeD, List.map_cons, List.map_nil, List.length_cons, List.length_nil, slW, mkL, e1, intsOf_map]
    refine ⟨mulX (n := 13) (m := 10) ?_ ?_ (by omega), len_le (by rw [List.length_map, List.length_take]; omega), by decide, h, Sub.refl h, q _⟩
    · unfold Bnd; decide
    · unfold Bnd; rw [Int.natAbs_natCast]; have : (2:Nat) ^ 10 = 1024 := by decide
      omega
theorem box_ok (k : Nat) (g : Int) {h : AH} {Q : DK} {E : EK} (q : ∀ p h', h p = none → BoxAt h' p 0 → Off p h h' → Q (.ref p) h') : fnW P (k + 1) 8 [.int g] h Q E := by
  refine ⟨rfl, ?_⟩
  show Ss P (fnW P k) E b8 (En Q) [some (.int g)] h
  unfold b8
  simp only [Ss, S, W, Ws, Wo, T, To, Wi, binW, biW, tgW, vw_int, vw_tup, vw_lst, vw_bl, vw_non, vw_str, vw_dT, setAll, List.getElem?_cons_zero, List.getElem?_cons_succ, List.set_cons_succ, List.set_cons_zero, wipeD, List.map_cons, List.map_nil, List.length_cons, List.length_nil, cmpD, mkL]
  refine ⟨⟨by decide, by decide, by decide⟩, by decide, by rw [sizeLine_eq]; decide, fun p np => ⟨_, Sub.refl _, q p _ np ?_ fun a ha => hup_ne ha⟩⟩
  refine ⟨_, _, _, _, hup_same, ?_, ?_, Int.le_refl 0, Int.le_refl 0⟩
  · exact Int.emod_nonneg _ (by decide)
  · exact Int.emod_lt_of_pos _ (by decide)
def tail9 : ISs := (.cons (.sub (.var 0) (.int 3) (.bin .add (.ix (.var 0) (.int 3)) (.int 1))) (.cons (.asg 2 (.bin .mod (.bi .int (.cons (.bin .pow (.bin .add (.bin .add (.ix (.var 0) (.int 2)) (.bin .mul (.int 15486263) (.ix (.var 0) (.int 3)))) (.int 179425063)) (.int 5)) .nil)) (.int 2147483647))) (.cons (.ret (.bin .mod (.bi .int (.cons (.bin .fdiv (.bin .mod (.bi .int (.cons (.bin .pow (.bin .add (.bin .mul (.var 2) (.int 48271)) (.bin .mul (.int 104729) (.ix (.var 0) (.int 3)))) (.int 3)) .nil)) (.int 2147483587)) (.int 64)) .nil)) (.var 1))) .nil)))
theorem b9_eq : b9 = .cons (.ife (.and (.val (.ix (.var 0) (.int 1))) (.cmp .gt (.ix (.var 0) (.int 0)) (.int 0))) (.cons (.asg 3 (.bin .mod (.bi .int (.cons (.ix (.var 0) (.int 0)) .nil)) (.var 1))) (.cons (.sub (.var 0) (.int 0) (.bin .fdiv (.ix (.var 0) (.int 0)) (.var 1))) (.cons (.ret (.var 3)) .nil))) .nil) tail9 := rfl
theorem take_ok (k : Nat) {p : Addr} {n many : Nat} (m0 : 0 < many) (m1 : many ≤ 1000000) (hn : n ≤ 10000000000) {h : AH} {Q : DK} {E : EK} (bx : BoxAt h p n) (q : ∀ d : Nat, d < many → ∀ h', BoxAt h' p (n + 1) → Off p h h' → Q (.int d) h') : fnW P (k + 1) 9 [.ref p, .int many] h Q E := by
  refine ⟨rfl, ?_⟩
  show Ss P (fnW P k) E b9 (En Q) [some (.ref p), some (.int (many : Int)), none, none] h
  obtain ⟨g, b, r, c, e, r0, r1, c0, c1⟩ := bx
  have vp : vw h (.ref p) = .lst [.int g, .bl b, .int r, .int c] := by simp only [vw, e]; rfl
  have a0 : ∀ x0 x1 x2 x3 : D, atI [x0, x1, x2, x3] (0 : Int) = some x0 := fun _ _ _ _ => rfl
  have a1 : ∀ x0 x1 x2 x3 : D, atI [x0, x1, x2, x3] (1 : Int) = some x1 := fun _ _ _ _ => rfl
  have a2 : ∀ x0 x1 x2 x3 : D, atI [x0, x1, x2, x3] (2 : Int) = some x2 := fun _ _ _ _ => rfl
  have a3 : ∀ x0 x1 x2 x3 : D, atI [x0, x1, x2, x3] (3 : Int) = some x3 := fun _ _ _ _ => rfl
  have i0 : ixN 4 (0 : Int) = some 0 := rfl
  have i3 : ixN 4 (3 : Int) = some 3 := rfl
  have mp : (0 : Int) < (many : Int) := by omega
  have fin : ∀ (z : Int) (h' : AH), BoxAt h' p (n + 1) → Off p h h' → ∃ h2, G.Sub h2 h' ∧ Q (.int (z % (many : Int))) h2 := fun z h' hb ho => by
    have z1 := Int.emod_nonneg z (Int.ne_of_gt mp)
    have z2 := Int.emod_lt_of_pos z mp
    obtain ⟨d, hd⟩ := Int.eq_ofNat_of_zero_le z1
    rw [hd] at z2 ⊢
    exact ⟨h', Sub.refl _, q d (by omega) h' hb ho⟩
  have last : Ss P (fnW P k) E tail9 (En Q) [some (.ref p), some (.int (many : Int)), none, none] h := by
    have vq : vw (hup h p (.lst [.int g, .bl b, .int r, .int (c + 1)])) (.ref p) = .lst [.int g, .bl b, .int r, .int (c + 1)] := by simp only [vw, hup_same]; rfl
    unfold tail9
    simp only [Ss, S, W, Ws, Wo, T, To, Wi, binW, biW, tgW, vw_int, vw_tup, vw_lst, vw_bl, vw_non, vw_str, vw_dT, setAll, List.getElem?_cons_zero, List.getElem?_cons_succ, List.set_cons_succ, List.set_cons_zero, wipeD, List.map_cons, List.map_nil, List.length_cons, List.length_nil, ixW, vp, a3, setW, e, i3, vq, a2]
    have bc : Bnd 40 (c + 1) := by
      unfold Bnd
      have : (2 : Nat) ^ 40 = 1099511627776 := by decide
      omega
    have m48 := Int.emod_nonneg ((r + 15486263 * (c + 1) + 179425063) ^ (5 : Int).toNat) (show (2147483647 : Int) ≠ 0 by decide)
    have m49 := Int.emod_lt_of_pos ((r + 15486263 * (c + 1) + 179425063) ^ (5 : Int).toNat) (show (0 : Int) < 2147483647 by decide)
    refine ⟨mulX (n := 24) (m := 40) (by unfold Bnd; decide) bc (by omega), ⟨by decide, by decide, ?_⟩, by decide, ?_⟩
    · have : (2 : Nat) ^ 64 = 18446744073709551616 := by decide
      omega
    · generalize (r + 15486263 * (c + 1) + 179425063) ^ (5 : Int).toNat % 2147483647 = mx at m48 m49
      refine ⟨mulX (n := 31) (m := 16) ?_ (by unfold Bnd; decide) (by omega), mulX (n := 17) (m := 40) (by unfold Bnd; decide) bc (by omega), ⟨by decide, by decide, ?_⟩, by decide, ⟨by decide, by decide⟩, mp, ?_⟩
      · unfold Bnd
        have : (2 : Nat) ^ 31 = 2147483648 := by decide
        omega
      · have : (2 : Nat) ^ 64 = 18446744073709551616 := by decide
        omega
      · exact fin _ _ ⟨g, b, r, c + 1, hup_same, r0, r1, by omega, by omega⟩ fun a ha => hup_ne ha
  rw [b9_eq]
  simp only [Ss, S, W, Ws, Wo, T, To, Wi, binW, biW, tgW, vw_int, vw_tup, vw_lst, vw_bl, vw_non, vw_str, vw_dT, setAll, List.getElem?_cons_zero, List.getElem?_cons_succ, List.set_cons_succ, List.set_cons_zero, wipeD, List.map_cons, List.map_nil, List.length_cons, List.length_nil, ixW, vp, a0, a1, cmpD]
  cases b with
  | false => exact last
  | true =>
    by_cases hg : (0 : Int) < g
    · simp only [decide_eq_true hg]
      simp only [Ss, S, W, Ws, Wo, T, To, Wi, binW, biW, tgW, vw_int, vw_tup, vw_lst, vw_bl, vw_non, vw_str, vw_dT, setAll, List.getElem?_cons_zero, List.getElem?_cons_succ, List.set_cons_succ, List.set_cons_zero, wipeD, List.map_cons, List.map_nil, List.length_cons, List.length_nil, ixW, vp, a0, setW, e, i0]
      refine ⟨mp, ⟨mp, ?_⟩, ?_⟩
      · rw [Int.natAbs_natCast]
        have : many.log2 ≤ many := Nat.log2_le_self many
        have h2 : many.log2 < 9000 := by
          refine Decidable.byContradiction fun z => ?_
          have h9 : 20 ≤ many.log2 := by omega
          have h8 : 2 ^ 20 ≤ many := by
            have := Nat.log2_self_le (show many ≠ 0 by omega)
            exact Nat.le_trans (Nat.pow_le_pow_right (by decide) h9) this
          have h7 : (2 : Nat) ^ 20 = 1048576 := by decide
          omega
        exact h2
      · exact fin _ _ ⟨_, true, r, c, hup_same, r0, r1, c0, by omega⟩ fun a ha => hup_ne ha
    · simp only [decide_eq_false hg]
      exact last
end K37

end

section
set_option Elab.async false
set_option linter.all false
set_option maxRecDepth 100000
set_option maxHeartbeats 1000000
namespace K37
open PySem PySem.Spec PyProof.Rows L2 G
theorem number_ok (k : Nat) {p : Addr} {n : Nat} (hn : n ≤ 1000000000) {h : AH} {Q : DK} {E : EK} (bx : BoxAt h p n) (q : ∀ z h', Bnd 100 z → BoxAt h' p (n + 3) → Off p h h' → Q (.int z) h') : fnW P (k + 2) 12 [.ref p] h Q E := by
  refine ⟨rfl, ?_⟩
  show Ss P (fnW P (k + 1)) E b12 (En Q) [some (.ref p), none, none] h
  have tk : ∀ (many : Nat), 0 < many → many ≤ 1000000 → ∀ {n : Nat} {h : AH} {Q : DK}, n ≤ 10000000000 → BoxAt h p n → (∀ d : Nat, d < many → ∀ h', BoxAt h' p (n + 1) → Off p h h' → Q (.int d) h') → fnW P (k + 1) 9 [.ref p, .int many] h Q E := fun many a b n h Q c d e => take_ok k a b c d e
  unfold b12
  simp only [Ss, S, W, Ws, Wo, T, To, Wi, binW, biW, tgW, vw_int, vw_tup, vw_lst, vw_bl, vw_non, vw_str, vw_dT, setAll, List.getElem?_cons_zero, List.getElem?_cons_succ, List.set_cons_succ, List.set_cons_zero, wipeD, List.map_cons, List.map_nil, List.length_cons, List.length_nil]
  refine tk 8 (by decide) (by decide) (by omega) bx fun w hw h1 b1 o1 => ?_
  simp only [Ss, S, W, Ws, Wo, T, To, Wi, binW, biW, tgW, vw_int, vw_tup, vw_lst, vw_bl, vw_non, vw_str, vw_dT, setAll, List.getElem?_cons_zero, List.getElem?_cons_succ, List.set_cons_succ, List.set_cons_zero, wipeD, List.map_cons, List.map_nil, List.length_cons, List.length_nil, cmpD]
  have fin : ∀ (z : Int) (h2 : AH), Bnd 100 z → BoxAt h2 p (n + 2) → Off p h h2 → fnW P (k + 1) 9 [.ref p, .int 2] h2 (fun x h1 => W P (fnW P (k + 1)) E (.int 0) [some (.ref p), some (.int (w : Int)), some (.int z)] h1 fun y h2 => match cmpD .eq (vw h2 x) (vw h2 y) with
      | some t => (match t with
        | true => W P (fnW P (k + 1)) E (.var 2) [some (.ref p), some (.int (w : Int)), some (.int z)] h2 fun d h1 => ∃ h2, G.Sub h2 h1 ∧ Q d h2
        | false => W P (fnW P (k + 1)) E (.bin .sub (.int 0) (.var 2)) [some (.ref p), some (.int (w : Int)), some (.int z)] h2 fun d h1 => ∃ h2, G.Sub h2 h1 ∧ Q d h2)
      | none => False) E := fun z h2 bz b2 o2 => by
    refine tk 2 (by decide) (by decide) (by omega) b2 fun v hv h3 b3 o3 => ?_
    simp only [Ss, S, W, Ws, Wo, T, To, Wi, binW, biW, tgW, vw_int, vw_tup, vw_lst, vw_bl, vw_non, vw_str, vw_dT, setAll, List.getElem?_cons_zero, List.getElem?_cons_succ, List.set_cons_succ, List.set_cons_zero, wipeD, List.map_cons, List.map_nil, List.length_cons, List.length_nil, cmpD, eq_int]
    cases decide ((v : Int) = 0) with
    | true =>
      exact ⟨h3, Sub.refl h3, q z h3 bz b3 (o2.trans o3)⟩
    | false =>
      exact ⟨h3, Sub.refl h3, q _ h3 bz.neg b3 (o2.trans o3)⟩
  have fin' : ∀ (z : Int) (h2 : AH), Bnd 100 z → BoxAt h2 p (n + 2) → Off p h h2 → fnW P (k + 1) 9 [.ref p, .int 2] h2 _ E := fun z h2 a b c => by
    have := fin z h2 a b c
    simp only [W, binW, cmpD, vw_int, List.getElem?_cons_succ, List.getElem?_cons_zero] at this
    exact this
  cases decide ((w : Int) < 6) with
  | true =>
    simp only [Ss, S, W, Ws, Wo, T, To, Wi, binW, biW, tgW, vw_int, vw_tup, vw_lst, vw_bl, vw_non, vw_str, vw_dT, setAll, List.getElem?_cons_zero, List.getElem?_cons_succ, List.set_cons_succ, List.set_cons_zero, wipeD, List.map_cons, List.map_nil, List.length_cons, List.length_nil, mkL]
    refine ⟨by rw [sizeLine_eq]; decide, ?_⟩
    refine tk 5 (by decide) (by decide) (by omega) b1 fun u hu h2 b2 o2 => ?_
    simp only [Ss, S, W, Ws, Wo, T, To, Wi, binW, biW, tgW, vw_int, vw_tup, vw_lst, vw_bl, vw_non, vw_str, vw_dT, setAll, List.getElem?_cons_zero, List.getElem?_cons_succ, List.set_cons_succ, List.set_cons_zero, wipeD, List.map_cons, List.map_nil, List.length_cons, List.length_nil, ixW, atI_nat]
    match u, hu with
    | 0, _ => exact fin' 0 h2 (by unfold Bnd; decide) b2 (o1.trans o2)
    | 1, _ => exact fin' 1 h2 (by unfold Bnd; decide) b2 (o1.trans o2)
    | 2, _ => exact fin' 2 h2 (by unfold Bnd; decide) b2 (o1.trans o2)
    | 3, _ => exact fin' 3 h2 (by unfold Bnd; decide) b2 (o1.trans o2)
    | 4, _ => exact fin' 7 h2 (by unfold Bnd; decide) b2 (o1.trans o2)
  | false =>
    simp only [Ss, S, W, Ws, Wo, T, To, Wi, binW, biW, tgW, vw_int, vw_tup, vw_lst, vw_bl, vw_non, vw_str, vw_dT, setAll, List.getElem?_cons_zero, List.getElem?_cons_succ, List.set_cons_succ, List.set_cons_zero, wipeD, List.map_cons, List.map_nil, List.length_cons, List.length_nil]
    refine ⟨⟨by decide, by decide, by decide⟩, ?_⟩
    refine tk 1000 (by decide) (by decide) (by omega) b1 fun u hu h2 b2 o2 => ?_
    simp only [Ss, S, W, Ws, Wo, T, To, Wi, binW, biW, tgW, vw_int, vw_tup, vw_lst, vw_bl, vw_non, vw_str, vw_dT, setAll, List.getElem?_cons_zero, List.getElem?_cons_succ, List.set_cons_succ, List.set_cons_zero, wipeD, List.map_cons, List.map_nil, List.length_cons, List.length_nil]
    refine fin' _ h2 ?_ b2 (o1.trans o2)
    unfold Bnd
    have e1 : (10 : Int) ^ (29 : Int).toNat = 100000000000000000000000000000 := by decide
    have e2 : (2 : Nat) ^ 100 = 1267650600228229401496703205376 := by decide
    rw [e1, e2]
    omega
end K37

end

section
set_option Elab.async false
set_option linter.all false
set_option maxRecDepth 100000
set_option maxHeartbeats 1000000
namespace K37
open PySem PySem.Spec PyProof.Rows L2 G
theorem VB.put {n : Nat} {m : Mp} (vb : VB n m) (k : Nat × Nat) {v : Int} (hv : Bnd n v) : VB n (put m k v) := fun e he => by
  unfold K37.put at he
  split at he
  · obtain ⟨x, hx, q⟩ := List.mem_map.mp he
    split at q
    · rw [← q]; exact hv
    · rw [← q]; exact vb x hx
  · rcases List.mem_append.mp he with he | he
    · exact vb e he
    · rw [List.mem_singleton.mp he]; exact hv
/-- the random dict -/
theorem drawn_ok (k : Nat) {p : Addr} {n : Nat} (hn : n ≤ 100000000) (gr : Bool) {h : AH} {Q : DK} {E : EK} (bx : BoxAt h p n)
    (q : ∀ m h', ND m → KB 12 m → VB 100 m → m.length ≤ 144 → BoxAt h' p (n + 600) → Off p h h' → Q (DT m) h') : fnW P (k + 3) 13 [.ref p, .bl gr] h Q E := by
  refine ⟨rfl, ?_⟩
  show Ss P (fnW P (k + 2)) E b13 (En Q) [some (.ref p), some (.bl gr), none, none, none, none, none] h
  have main : ∀ (a b : Nat) (h1 : AH), a ≤ 12 → b ≤ 12 → BoxAt h1 p (n + 1) → Off p h h1 → tgW (.tp [2, 3]) (.tup [.int (a : Int), .int (b : Int)]) [some (.ref p), some (.bl gr), none, none, none, none, none] fun ρ1 => Ss P (fnW P (k + 2)) E (.cons (.asg 4 .dnew) (.cons (.fr (.nm 5) (.rng1 (.var 2)) z13_2) (.cons (.fzv 4) (.cons (.ret (.var 4)) .nil)))) (En Q) ρ1 h1 := fun a b h1 ha hb b1 o1 => by
    refine ⟨rfl, ?_⟩
    simp only [Ss, S, W, Ws, Wo, T, To, Wi, binW, biW, tgW, vw_int, vw_tup, vw_lst, vw_bl, vw_non, vw_str, vw_dT, setAll, List.getElem?_cons_zero, List.getElem?_cons_succ, List.set_cons_succ, List.set_cons_zero, wipeD, List.map_cons, List.map_nil, List.length_cons, List.length_nil]
    intro qd nq
    have hpq : p ≠ qd := fun e => by
      obtain ⟨_, _, _, _, e1, _⟩ := b1
      rw [e, nq] at e1; cases e1
    refine ⟨small_nat (by omega), ?_⟩
    refine for_ok (Ss_mono (fnW_mono P (k + 2)) E z13_2) (fun i ρ h' => ∃ o5 o6 m, ρ = [some (.ref p), some (.bl gr), some (.int (a : Int)), some (.int (b : Int)), some (.ref qd), o5, o6] ∧ h' qd = some (DT m) ∧ BoxAt h' p (n + 1 + i * 48) ∧ (∀ x, x ≠ p → x ≠ qd → h' x = h1 x) ∧ ND m ∧ KB 12 m ∧ VB 100 m ∧ m.length ≤ i * 12) _ _ _ ?_ (fun i x ρ h' hx hi => ?_) (fun ρ h' hi => ?_)
    · refine ⟨none, none, [], rfl, hup_same, ?_, fun x _ hx => hup_ne hx, List.nodup_nil, (fun e he => nomatch he), (fun e he => nomatch he), Nat.zero_le _⟩
      obtain ⟨g, bb, r, c, e, r1⟩ := b1
      exact ⟨g, bb, r, c, by rw [hup_ne hpq]; exact e, by simpa using r1⟩
    · obtain ⟨o5, o6, m, rfl, hq, bi, off, nd, kb, vb, ml⟩ := hi
      have hia : i < a := by
        have := (List.getElem?_eq_some_iff.mp hx).1
        rw [rngD0, List.length_map, List.length_range] at this
        exact this
      have ex : x = .int (i : Int) := by
        rw [rngD0, List.getElem?_map, List.getElem?_range hia] at hx
        exact (Option.some.inj hx).symm
      subst ex
      refine ⟨trivial, ?_⟩
      unfold z13_2
      simp only [Ss, S, W, Ws, Wo, T, To, Wi, binW, biW, tgW, vw_int, vw_tup, vw_lst, vw_bl, vw_non, vw_str, vw_dT, setAll, List.getElem?_cons_zero, List.getElem?_cons_succ, List.set_cons_succ, List.set_cons_zero, wipeD, List.map_cons, List.map_nil, List.length_cons, List.length_nil]
      refine ⟨small_nat (by omega), ?_⟩
      refine for_ok (Ss_mono (fnW_mono P (k + 2)) E z13_1) (fun j ρ h' => ∃ o6 m, ρ = [some (.ref p), some (.bl gr), some (.int (a : Int)), some (.int (b : Int)), some (.ref qd), some (.int (i : Int)), o6] ∧ h' qd = some (DT m) ∧ BoxAt h' p (n + 1 + i * 48 + j * 4) ∧ (∀ x, x ≠ p → x ≠ qd → h' x = h1 x) ∧ ND m ∧ KB 12 m ∧ VB 100 m ∧ m.length ≤ i * 12 + j) _ _ _ ?_ (fun j x ρ h' hx hj => ?_) (fun ρ h' hj => ?_)
      · exact ⟨o6, m, rfl, hq, by simpa using bi, off, nd, kb, vb, by omega⟩
      · obtain ⟨o6, m, rfl, hq, bi, off, nd, kb, vb, ml⟩ := hj
        have hjb : j < b := by
          have := (List.getElem?_eq_some_iff.mp hx).1
          rw [rngD0, List.length_map, List.length_range] at this
          exact this
        have ex : x = .int (j : Int) := by
          rw [rngD0, List.getElem?_map, List.getElem?_range hjb] at hx
          exact (Option.some.inj hx).symm
        subst ex
        refine ⟨trivial, ?_⟩
        unfold z13_1
        simp only [Ss, S, W, Ws, Wo, T, To, Wi, binW, biW, tgW, vw_int, vw_tup, vw_lst, vw_bl, vw_non, vw_str, vw_dT, setAll, List.getElem?_cons_zero, List.getElem?_cons_succ, List.set_cons_succ, List.set_cons_zero, wipeD, List.map_cons, List.map_nil, List.length_cons, List.length_nil]
        refine take_ok (k + 1) (by decide) (by decide) (by omega) bi fun d hd h2 b2 o2 => ?_
        have hq2 : h2 qd = some (DT m) := by rw [o2 qd (Ne.symm hpq)]; exact hq
        have off2 : ∀ x, x ≠ p → x ≠ qd → h2 x = h1 x := fun x a b => by rw [o2 x a]; exact off x a b
        simp only [Ss, S, W, Ws, Wo, T, To, Wi, binW, biW, tgW, vw_int, vw_tup, vw_lst, vw_bl, vw_non, vw_str, vw_dT, setAll, List.getElem?_cons_zero, List.getElem?_cons_succ, List.set_cons_succ, List.set_cons_zero, wipeD, List.map_cons, List.map_nil, List.length_cons, List.length_nil, cmpD]
        cases decide ((0 : Int) < (d : Int)) with
        | false =>
          exact ⟨_, m, rfl, hq2, b2.mono (by omega), off2, nd, kb, vb, by omega⟩
        | true =>
          simp only [Ss, S, W, Ws, Wo, T, To, Wi, binW, biW, tgW, vw_int, vw_tup, vw_lst, vw_bl, vw_non, vw_str, vw_dT, setAll, List.getElem?_cons_zero, List.getElem?_cons_succ, List.set_cons_succ, List.set_cons_zero, wipeD, List.map_cons, List.map_nil, List.length_cons, List.length_nil]
          refine number_ok k (by omega) b2 fun z h3 bz b3 o3 => ?_
          have hq3 : h3 qd = some (DT m) := by rw [o3 qd (Ne.symm hpq)]; exact hq2
          simp only [Ss, S, W, Ws, Wo, T, To, Wi, binW, biW, tgW, vw_int, vw_tup, vw_lst, vw_bl, vw_non, vw_str, vw_dT, setAll, List.getElem?_cons_zero, List.getElem?_cons_succ, List.set_cons_succ, List.set_cons_zero, wipeD, List.map_cons, List.map_nil, List.length_cons, List.length_nil, setW, hq3, DT, keysOf_kt, putD_ents]
          refine ⟨by rw [sizeLine_eq]; decide, by rw [List.length_map, sizeLine_eq]; omega, _, _, rfl, hup_same, ?_, fun x a b => by rw [hup_ne b, o3 x a]; exact off2 x a b, nodup_put nd _ _, kb.put ⟨by show i < 12; omega, by show j < 12; omega⟩ _, vb.put _ bz, ?_⟩
          · obtain ⟨g, bb, r, c, e, r1, r2, r3, r4⟩ := b3
            exact ⟨g, bb, r, c, by rw [hup_ne hpq]; exact e, r1, r2, r3, by omega⟩
          · have := length_put m (i, j) z; omega
      · obtain ⟨o6, m, rfl, hq, bi, off, nd, kb, vb, ml⟩ := hj
        rw [rngD0, List.length_map, List.length_range] at bi ml
        refine ⟨trivial, ?_⟩
        simp only [Ss, S, W, Ws, Wo, T, To, Wi, binW, biW, tgW, vw_int, vw_tup, vw_lst, vw_bl, vw_non, vw_str, vw_dT, setAll, List.getElem?_cons_zero, List.getElem?_cons_succ, List.set_cons_succ, List.set_cons_zero, wipeD, List.map_cons, List.map_nil, List.length_cons, List.length_nil]
        exact ⟨_, _, m, rfl, hq, bi.mono (by rw [Nat.succ_mul]; omega), off, nd, kb, vb, by rw [Nat.succ_mul]; omega⟩
    · obtain ⟨o5, o6, m, rfl, hq, bi, off, nd, kb, vb, ml⟩ := hi
      rw [rngD0, List.length_map, List.length_range] at bi ml
      refine ⟨trivial, ?_⟩
      simp only [Ss, S, W, Ws, Wo, T, To, Wi, binW, biW, tgW, vw_int, vw_tup, vw_lst, vw_bl, vw_non, vw_str, vw_dT, setAll, List.getElem?_cons_zero, List.getElem?_cons_succ, List.set_cons_succ, List.set_cons_zero, wipeD, List.map_cons, List.map_nil, List.length_cons, List.length_nil, hq]
      have nqh : h qd = none := by rw [← o1 qd (Ne.symm hpq)]; exact nq
      have a48 : a * 48 ≤ 576 := by omega
      refine ⟨_, Sub.refl _, q m _ nd kb vb (by omega) ?_ fun x hx => ?_⟩
      · obtain ⟨g, bb, r, c, e, r1, r2, r3, r4⟩ := bi
        exact ⟨g, bb, r, c, by rw [hdel_ne hpq]; exact e, r1, r2, r3, by omega⟩
      · by_cases e : x = qd
        · subst e; rw [hdel_same, nqh]
        · rw [hdel_ne e, off x hx e, o1 x hx]
  have b13_eq : b13 = .cons (.asgT [2, 3] (.ite (.val (.var 1)) (.tup (.cons (.int 12) (.cons (.int 12) .nil))) (.ix (.lst true (.cons (.tup (.cons (.int 2) (.cons (.int 2) .nil))) (.cons (.tup (.cons (.int 3) (.cons (.int 1) .nil))) (.cons (.tup (.cons (.int 1) (.cons (.int 3) .nil))) (.cons (.tup (.cons (.int 12) (.cons (.int 2) .nil))) (.cons (.tup (.cons (.int 4) (.cons (.int 4) .nil))) (.cons (.tup (.cons (.int 0) (.cons (.int 2) .nil))) (.cons (.tup (.cons (.int 5) (.cons (.int 1) .nil))) (.cons (.tup (.cons (.int 2) (.cons (.int 12) .nil))) .nil))))))))) (.call 9 (.cons (.var 0) (.cons (.int 8) .nil)))))) (.cons (.asg 4 .dnew) (.cons (.fr (.nm 5) (.rng1 (.var 2)) z13_2) (.cons (.fzv 4) (.cons (.ret (.var 4)) .nil)))) := rfl
  rw [b13_eq]
  generalize (ISs.cons (.asg 4 .dnew) (.cons (.fr (.nm 5) (.rng1 (.var 2)) z13_2) (.cons (.fzv 4) (.cons (.ret (.var 4)) .nil)))) = tl at main
  have z2 : 0 + 1 + 1 ≤ sizeLine := by rw [sizeLine_eq]; decide
  simp only [Ss, S, W, Ws, T, vw_bl, List.getElem?_cons_zero, List.getElem?_cons_succ]
  cases gr with
  | true =>
    simp only [W, Ws, List.length_cons, List.length_nil]
    exact ⟨z2, main 12 12 h (by omega) (by omega) (bx.mono (by omega)) (Off.refl _ _)⟩
  | false =>
    simp only [W, Ws, List.length_cons, List.length_nil, mkL, List.getElem?_cons_zero]
    refine ⟨z2, z2, z2, z2, z2, z2, z2, z2, by rw [sizeLine_eq]; decide, ?_⟩
    refine take_ok (k + 1) (by decide) (by decide) (by omega) bx fun d hd h1 b1 o1 => ?_
    simp only [ixW, vw_lst, atI_nat]
    match d, hd with
    | 0, _ => exact main 2 2 h1 (by omega) (by omega) b1 o1
    | 1, _ => exact main 3 1 h1 (by omega) (by omega) b1 o1
    | 2, _ => exact main 1 3 h1 (by omega) (by omega) b1 o1
    | 3, _ => exact main 12 2 h1 (by omega) (by omega) b1 o1
    | 4, _ => exact main 4 4 h1 (by omega) (by omega) b1 o1
    | 5, _ => exact main 0 2 h1 (by omega) (by omega) b1 o1
    | 6, _ => exact main 5 1 h1 (by omega) (by omega) b1 o1
    | 7, _ => exact main 2 12 h1 (by omega) (by omega) b1 o1
end K37

end

section
set_option Elab.async false
set_option linter.all false
set_option maxRecDepth 100000
set_option maxHeartbeats 1000000
namespace K37
open PySem PySem.Spec PyProof.Rows L2 G
theorem max1_some {ns : List Int} (ne : ns ≠ []) : ∃ z, ∀ (h : AH) (Q : DK), Q (.int z) h → biW .max1 [.lst (ns.map D.int)] h Q := ⟨mx0 ns, fun h Q q => max1_int ne q⟩
theorem like_ok (k : Nat) {p : Addr} {n nk : Nat} (hn : n ≤ 100000000) {m1 : Mp} (n1 : ND m1) (kb1 : KB nk m1) (v1 : VB 100 m1) (l1 : m1.length ≤ 144) {h : AH} {Q : DK} {E : EK} (bx : BoxAt h p n)
    (q : ∀ m h', ND m → KB nk m → VB 100 m → m.length ≤ 144 → BoxAt h' p (n + 600) → Off p h h' → Q (DT m) h') : fnW P (k + 3) 14 [.ref p, DT m1] h Q E := by
  refine ⟨rfl, ?_⟩
  show Ss P (fnW P (k + 2)) E b14 (En Q) [some (.ref p), some (DT m1), none, none, none, none, none, none, none] h
  have z3 : 0 + 1 + 1 + 1 ≤ sizeLine := by rw [sizeLine_eq]; decide
  unfold b14
  simp only [Ss, S, W, Ws, Wo, T, To, Wi, binW, biW, tgW, vw_int, vw_tup, vw_lst, vw_bl, vw_non, vw_str, vw_dT, setAll, List.getElem?_cons_zero, List.getElem?_cons_succ, List.set_cons_succ, List.set_cons_zero, wipeD, List.map_cons, List.map_nil, List.length_cons, List.length_nil]
  refine take_ok (k + 1) (by decide) (by decide) (by omega) bx fun way hway h1 b1 o1 => ?_
  refine keysW_dt m1 _ ?_
  intro p1 np1
  refine comp_map (W_mono' (k + 2) noE e14_2) (fun d => match d with
    | .tup [x, _] => x
    | _ => .non) np1 (fun _ => trivial) (len_le (by rw [List.length_map]; omega)) (fun d hd acc Q1 a => ?_) ?_
  · obtain ⟨e, _, rfl⟩ := List.mem_map.mp hd
    unfold e14_2
    simp only [Ss, S, W, Ws, Wo, T, To, Wi, binW, biW, tgW, vw_int, vw_tup, vw_lst, vw_bl, vw_non, vw_str, vw_dT, setAll, List.getElem?_cons_zero, List.getElem?_cons_succ, List.set_cons_succ, List.set_cons_zero, wipeD, List.map_cons, List.map_nil, List.length_cons, List.length_nil, kt]
    exact ⟨trivial, a⟩
  have f1 : (m1.map fun e => kt e.1).map (fun d => match d with
    | D.tup [x, _] => x
    | _ => .non) = (m1.map fun e => ((e.1.1 : Nat) : Int)).map D.int := by rw [List.map_map, List.map_map]; rfl
  have f2 : (m1.map fun e => kt e.1).map (fun d => match d with
    | D.tup [_, x] => x
    | _ => .non) = (m1.map fun e => ((e.1.2 : Nat) : Int)).map D.int := by rw [List.map_map, List.map_map]; rfl
  have g0 : ∀ l : List Int, l.map D.int ++ [D.int 0] = (l ++ [0]).map D.int := fun l => by simp
  have ll : ∀ f : (Nat × Nat) × Int → Int, (m1.map f ++ [0]).length ≤ 145 := fun f => by simp; omega
  obtain ⟨n0, ns0, x1⟩ := List.exists_cons_of_ne_nil (show (m1.map fun e => ((e.1.1 : Nat) : Int)) ++ [0] ≠ [] by simp)
  obtain ⟨n2, ns2, x2⟩ := List.exists_cons_of_ne_nil (show (m1.map fun e => ((e.1.2 : Nat) : Int)) ++ [0] ≠ [] by simp)
  have y1 : (n0 :: ns0).length ≤ 145 := by rw [← x1]; exact ll _
  have y2 : (n2 :: ns2).length ≤ 145 := by rw [← x2]; exact ll _
  rw [f1]
  simp only [mkL, catW, vw_lst, g0, x1, intsOf_map, List.length_cons, List.length_nil]
  refine ⟨by rw [sizeLine_eq]; decide, len_le (by rw [List.length_map]; omega), ?_⟩
  refine keysW_dt m1 _ ?_
  intro p2 np2
  refine comp_map (W_mono' (k + 2) noE e14_1) (fun d => match d with
    | .tup [_, x] => x
    | _ => .non) np2 (fun _ => trivial) (len_le (by rw [List.length_map]; omega)) (fun d hd acc Q1 a => ?_) ?_
  · obtain ⟨e, _, rfl⟩ := List.mem_map.mp hd
    unfold e14_1
    simp only [Ss, S, W, Ws, Wo, T, To, Wi, binW, biW, tgW, vw_int, vw_tup, vw_lst, vw_bl, vw_non, vw_str, vw_dT, setAll, List.getElem?_cons_zero, List.getElem?_cons_succ, List.set_cons_succ, List.set_cons_zero, wipeD, List.map_cons, List.map_nil, List.length_cons, List.length_nil, kt]
    exact ⟨trivial, a⟩
  rw [f2]
  simp only [mkL, catW, vw_lst, g0, x2, intsOf_map, List.length_cons, List.length_nil]
  refine ⟨by rw [sizeLine_eq]; decide, len_le (by rw [List.length_map]; omega), ?_⟩
  generalize maxI n0 ns0 = rr
  generalize maxI n2 ns2 = cc
  refine ⟨z3, trivial, ?_⟩
  intro qd nq
  have hpq : p ≠ qd := fun e => by
    obtain ⟨_, _, _, _, e1, _⟩ := b1
    rw [e, nq] at e1; cases e1
  refine keysW_dt m1 _ ?_
  refine for_ok (Ss_mono (fnW_mono P (k + 2)) E z14_1) (fun i ρ h' => ∃ o6 o7 o8 m, ρ = [some (.ref p), some (DT m1), some (.int (way : Int)), some (.int rr), some (.int cc), some (.ref qd), o6, o7, o8] ∧ h' qd = some (DT m) ∧ BoxAt h' p (n + 1 + i * 3) ∧ (∀ x, x ≠ p → x ≠ qd → h' x = h1 x) ∧ ND m ∧ KB nk m ∧ VB 100 m ∧ m.length ≤ i) _ _ _ ?_ (fun i x ρ h' hx hi => ?_) (fun ρ h' hi => ?_)
  · refine ⟨none, none, none, [], rfl, hup_same, ?_, fun x _ hx => hup_ne hx, List.nodup_nil, (fun e he => nomatch he), (fun e he => nomatch he), Nat.zero_le _⟩
    obtain ⟨g, bb, r, c, e, r1⟩ := b1
    exact ⟨g, bb, r, c, by rw [hup_ne hpq]; exact e, by simpa using r1⟩
  · obtain ⟨o6, o7, o8, m, rfl, hq, bi, off, nd, kb, vb, ml⟩ := hi
    obtain ⟨e, he, rfl⟩ := key_get hx
    have hm := List.mem_of_getElem? he
    have hil : i < m1.length := (List.getElem?_eq_some_iff.mp he).1
    obtain ⟨⟨a, b⟩, v⟩ := e
    refine ⟨trivial, rfl, ?_⟩
    have z2 : 0 + 1 + 1 ≤ sizeLine := by rw [sizeLine_eq]; decide
    have main : ∀ g : Bool, S P (fnW P (k + 2)) E (.sub (.var 5) (.tup (.cons (.var 6) (.cons (.var 7) .nil))) (.ite (.val (.var 8)) (.bin .sub (.int 0) (.ix (.var 1) (.tup (.cons (.var 6) (.cons (.var 7) .nil))))) (.call 12 (.cons (.var 0) .nil)))) ⟨fun ρ h' => ∃ o6 o7 o8 m, ρ = [some (.ref p), some (DT m1), some (.int (way : Int)), some (.int rr), some (.int cc), some (.ref qd), o6, o7, o8] ∧ h' qd = some (DT m) ∧ BoxAt h' p (n + 1 + (i + 1) * 3) ∧ (∀ x, x ≠ p → x ≠ qd → h' x = h1 x) ∧ ND m ∧ KB nk m ∧ VB 100 m ∧ m.length ≤ i + 1, fun _ _ => False, fun _ _ => False, fun _ _ => False⟩ [some (.ref p), some (DT m1), some (.int (way : Int)), some (.int rr), some (.int cc), some (.ref qd), some (.int (a : Int)), some (.int (b : Int)), some (.bl g)] h' := fun g => by
      simp only [Ss, S, W, Ws, Wo, T, To, Wi, binW, biW, tgW, vw_int, vw_tup, vw_lst, vw_bl, vw_non, vw_str, vw_dT, setAll, List.getElem?_cons_zero, List.getElem?_cons_succ, List.set_cons_succ, List.set_cons_zero, wipeD, List.map_cons, List.map_nil, List.length_cons, List.length_nil]
      cases g with
      | true =>
        simp only [Ss, S, W, Ws, Wo, T, To, Wi, binW, biW, tgW, vw_int, vw_tup, vw_lst, vw_bl, vw_non, vw_str, vw_dT, setAll, List.getElem?_cons_zero, List.getElem?_cons_succ, List.set_cons_succ, List.set_cons_zero, wipeD, List.map_cons, List.map_nil, List.length_cons, List.length_nil, ixW, DT, keysOf_kt, valD_ents, get_mem n1 hm, Option.map_some, setW, hq, putD_ents]
        refine ⟨z2, z2, by rw [List.length_map, sizeLine_eq]; omega, _, _, _, _, rfl, hup_same, ?_, fun x a b => by rw [hup_ne b]; exact off x a b, nodup_put nd _ _, kb.put (kb1 _ hm) _, vb.put _ (v1 _ hm).neg, ?_⟩
        · obtain ⟨g, bb, r, c, e, r1, r2, r3, r4⟩ := bi
          exact ⟨g, bb, r, c, by rw [hup_ne hpq]; exact e, r1, r2, r3, by omega⟩
        · have := length_put m (a, b) (0 - v); omega
      | false =>
        refine number_ok k (by omega) bi fun z h3 bz b3 o3 => ?_
        have hq3 : h3 qd = some (DT m) := by rw [o3 qd (Ne.symm hpq)]; exact hq
        simp only [Ss, S, W, Ws, Wo, T, To, Wi, binW, biW, tgW, vw_int, vw_tup, vw_lst, vw_bl, vw_non, vw_str, vw_dT, setAll, List.getElem?_cons_zero, List.getElem?_cons_succ, List.set_cons_succ, List.set_cons_zero, wipeD, List.map_cons, List.map_nil, List.length_cons, List.length_nil, setW, hq3, DT, keysOf_kt, putD_ents]
        refine ⟨z2, by rw [List.length_map, sizeLine_eq]; omega, _, _, _, _, rfl, hup_same, ?_, fun x a b => by rw [hup_ne b, o3 x a]; exact off x a b, nodup_put nd _ _, kb.put (kb1 _ hm) _, vb.put _ bz, ?_⟩
        · obtain ⟨g, bb, r, c, e, r1, r2, r3, r4⟩ := b3
          exact ⟨g, bb, r, c, by rw [hup_ne hpq]; exact e, r1, r2, r3, by omega⟩
        · have := length_put m (a, b) z; omega
    unfold z14_1
    simp only [Ss, setAll, List.set_cons_succ, List.set_cons_zero]
    rw [S]
    have bd : ∀ (x y : Int) (ρ : Env') (h' : AH), (match cmpD .eq (vw h' (.int x)) (vw h' (.int y)) with
      | some t => some t
      | none => none) = some (decide (x = y)) := fun x y ρ h' => by simp only [cmpD, vw_int, eq_int]
    simp only [W, List.getElem?_cons_zero, List.getElem?_cons_succ, cmpD, vw_int, eq_int, kt]
    cases decide ((way : Int) = 0) <;> cases decide ((way : Int) = 1) <;> cases decide ((way : Int) = 2) <;> cases decide ((way : Int) = 3) <;> cases decide ((a : Int) = rr) <;> cases decide ((b : Int) = cc) <;>
      first
      | exact S_mono (fnW_mono P (k + 2)) E _ _ _ _ _ (main true) ⟨fun _ _ z => z, fun _ _ z => z.elim, fun _ _ z => z.elim, fun _ _ z => z.elim⟩
      | exact S_mono (fnW_mono P (k + 2)) E _ _ _ _ _ (main false) ⟨fun _ _ z => z, fun _ _ z => z.elim, fun _ _ z => z.elim, fun _ _ z => z.elim⟩
  · obtain ⟨o6, o7, o8, m, rfl, hq, bi, off, nd, kb, vb, ml⟩ := hi
    rw [List.length_map] at bi ml
    refine ⟨trivial, ?_⟩
    simp only [Ss, S, W, Ws, Wo, T, To, Wi, binW, biW, tgW, vw_int, vw_tup, vw_lst, vw_bl, vw_non, vw_str, vw_dT, setAll, List.getElem?_cons_zero, List.getElem?_cons_succ, List.set_cons_succ, List.set_cons_zero, wipeD, List.map_cons, List.map_nil, List.length_cons, List.length_nil, hq]
    have nqh : h qd = none := by rw [← o1 qd (Ne.symm hpq)]; exact nq
    refine ⟨_, Sub.refl _, q m _ nd kb vb (by omega) ?_ fun x hx => ?_⟩
    · obtain ⟨g, bb, r, c, e, r1, r2, r3, r4⟩ := bi
      exact ⟨g, bb, r, c, by rw [hdel_ne hpq]; exact e, r1, r2, r3, by omega⟩
    · by_cases e : x = qd
      · subst e; rw [hdel_same, nqh]
      · rw [hdel_ne e, off x hx e, o1 x hx]
end K37

end

section
set_option Elab.async false
set_option linter.all false
set_option maxRecDepth 100000
set_option maxHeartbeats 1000000
namespace K37
open PySem PySem.Spec PyProof.Rows L2 G
theorem sm_congr {m : Mp} {f g : Cf} (h : ∀ i j, f i j = g i j) : sm m f = sm m g := by
  have : f = g := funext fun i => funext fun j => h i j
  rw [this]
theorem sm_fadd (m : Mp) (f g : Cf) : sm m (fun i j => f i j + g i j) = sm m f + sm m g := by
  induction m with
  | nil => rfl
  | cons e m ih => rw [sm_cons, sm_cons, sm_cons, ih, Int.mul_add]; omega
theorem sm_fmul (m : Mp) (v : Int) (f : Cf) : sm m (fun i j => v * f i j) = v * sm m f := by
  induction m with
  | nil => simp [sm]
  | cons e m ih => rw [sm_cons, sm_cons, ih, Int.mul_add, Int.mul_left_comm]
theorem sm_zero (m : Mp) : sm m (fun _ _ => 0) = 0 := by
  induction m with
  | nil => rfl
  | cons e m ih => rw [sm_cons, ih]; simp
theorem sm_prow (e : (Nat × Nat) × Int) (m : Mp) (f : Cf) : sm (prow e m) f = e.2 * sm m fun k l => f (e.1.1 + k) (e.1.2 + l) := by
  induction m with
  | nil => simp [sm, prow]
  | cons x m ih =>
    have : prow e (x :: m) = ((e.1.1 + x.1.1, e.1.2 + x.1.2), e.2 * x.2) :: prow e m := rfl
    rw [this, sm_cons, ih, sm_cons, Int.mul_add, Int.mul_assoc]
theorem sm_prd (m1 m2 : Mp) (f : Cf) : sm (prd m1 m2) f = sm m1 fun i j => sm m2 fun k l => f (i + k) (j + l) := by
  induction m1 with
  | nil => rfl
  | cons e m ih =>
    have : prd (e :: m) m2 = prow e m2 ++ prd m m2 := rfl
    rw [this, sm_append, sm_prow, ih, sm_cons]
theorem sm_swap (m1 m2 : Mp) (g : Nat → Nat → Nat → Nat → Int) : (sm m1 fun i j => sm m2 fun k l => g i j k l) = sm m2 fun k l => sm m1 fun i j => g i j k l := by
  induction m1 with
  | nil => exact (sm_zero m2).symm
  | cons e m ih =>
    rw [sm_cons, ih, ← sm_fmul, ← sm_fadd]
    exact sm_congr fun k l => (sm_cons e m fun i j => g i j k l).symm
theorem sm_prd_comm (m1 m2 : Mp) (f : Cf) : sm (prd m1 m2) f = sm (prd m2 m1) f := by
  rw [sm_prd, sm_prd, sm_swap]
  exact sm_congr fun k l => sm_congr fun i j => by rw [Nat.add_comm i k, Nat.add_comm j l]
theorem cnv_prd {m1 m2 : Mp} {H1 W1 H2 W2 : Nat} (n1 : ND m1) (n2 : ND m2) (s1 : Sup H1 W1 (cf m1)) (s2 : Sup H2 W2 (cf m2)) (a b : Nat) : cnv (cf m1) (cf m2) H1 W1 H2 W2 a b = cf (prd m1 m2) a b := by
  show _ = sm (prd m1 m2) (dl a b)
  rw [sm_prd, transfer _ m1 n1 s1]
  unfold cnv bx
  refine sumN_congr fun i _ => sumN_congr fun j _ => ?_
  show q2 (cf m1) (cf m2) H2 W2 i a b j = cf m1 i j * sm m2 fun k l => dl a b (i + k) (j + l)
  rw [transfer _ m2 n2 s2]
  unfold bx
  rw [← sumN_mul]
  refine sumN_congr fun m _ => ?_
  show sumN W2 (fun l => dlv (i + m) (j + l) (cf m1 i j * cf m2 m l) a b) = _
  rw [← sumN_mul]
  refine sumN_congr fun l _ => ?_
  unfold dlv dl
  by_cases z : i + m = a ∧ j + l = b
  · rw [if_pos z]; simp only [if_pos z, Int.mul_one]
  · rw [if_neg z]; simp only [if_neg z, Int.mul_zero]
theorem inj_of_nodup {α : Type} {f : α → Int} : ∀ {l : List α}, (l.map f).Nodup → ∀ x ∈ l, ∀ y ∈ l, f x = f y → x = y
  | [], _, x, hx, _, _, _ => nomatch hx
  | a :: l, nd, x, hx, y, hy, e => by
    rw [List.map_cons, List.nodup_cons] at nd
    rcases List.mem_cons.mp hx with rfl | hx
    · rcases List.mem_cons.mp hy with rfl | hy
      · rfl
      · exact absurd (List.mem_map.mpr ⟨y, hy, e.symm⟩) nd.1
    · rcases List.mem_cons.mp hy with q | hy
      · exact absurd (show f a ∈ l.map f from List.mem_map.mpr ⟨x, hx, by rw [e, q]⟩) nd.1
      · exact inj_of_nodup nd.2 x hx y hy e
def grid12 : List (Nat × Nat) := (List.range 12).flatMap fun i => (List.range 12).map fun j => (i, j)
def hsh (k : Nat × Nat) : Int := reduceHash (Builtin.Tuple.tupleHashOf [hashInt (k.1 : Int), hashInt (k.2 : Int)])
theorem grid_nd : (grid12.map hsh).Nodup := by decide +kernel
theorem hash_nd {m : Mp} (nd : ND m) (kb : KB 12 m) (w : World) : ((m.map ent).map fun p => hashK w p.1).Nodup := by
  have e : (m.map ent).map (fun p => hashK w p.1) = (m.map (·.1)).map hsh := by
    rw [List.map_map, List.map_map]; rfl
  rw [e]
  have hm : ∀ k ∈ m.map (·.1), k ∈ grid12 := fun k hk => by
    obtain ⟨x, hx, rfl⟩ := List.mem_map.mp hk
    have := kb x hx
    exact List.mem_flatMap.mpr ⟨x.1.1, List.mem_range.mpr this.1, List.mem_map.mpr ⟨x.1.2, List.mem_range.mpr this.2, rfl⟩⟩
  have go : ∀ l : List (Nat × Nat), l.Nodup → (∀ k ∈ l, k ∈ grid12) → (l.map hsh).Nodup := by
    intro l
    induction l with
    | nil => intro _ _; exact List.nodup_nil
    | cons a l ih =>
      intro nd hm
      rw [List.nodup_cons] at nd
      rw [List.map_cons, List.nodup_cons]
      refine ⟨fun q => ?_, ih nd.2 fun k hk => hm k (List.mem_cons_of_mem _ hk)⟩
      obtain ⟨b, hb, eb⟩ := List.mem_map.mp q
      have := inj_of_nodup grid_nd b (hm b (List.mem_cons_of_mem _ hb)) a (hm a (List.mem_cons_self ..)) eb
      exact nd.1 (by rw [← this]; exact hb)
  exact go _ nd hm
end K37

end

section
set_option Elab.async false
set_option linter.all false
set_option maxRecDepth 100000
set_option maxHeartbeats 2000000
namespace K37
open PySem PySem.Spec PyProof.Rows L2 G
theorem Sm_TT {c : Cf} {t : List (List Int)} {hh ww : Nat} (can : Can c t hh ww) (h1 : hh ≤ 1000) (h2 : ww ≤ 1000) : Sm 2 (TT t) := by
  refine .inr ⟨_, .inl rfl, by rw [List.length_map, can.1, table_len]; exact h1, fun x hx => ?_⟩
  obtain ⟨r, hr, rfl⟩ := List.mem_map.mp hx
  refine .inr ⟨_, .inl rfl, ?_, fun y hy => ?_⟩
  · rw [can.1] at hr
    obtain ⟨i, _, rfl⟩ := List.mem_map.mp hr
    simpa using h2
  · obtain ⟨z, _, rfl⟩ := List.mem_map.mp hy
    exact ⟨z, rfl⟩
theorem Sm_ints (l : List Int) (h : l.length ≤ 1000) : Sm 2 (.lst (l.map D.int)) := by
  refine .inr ⟨_, .inr rfl, by rw [List.length_map]; exact h, fun y hy => ?_⟩
  obtain ⟨z, _, rfl⟩ := List.mem_map.mp hy
  exact .inl ⟨z, rfl⟩
theorem same2 (k : Nat) {d : D} (hd : Sm 2 d) {h : AH} {Q : DK} {E : EK} (q : Q (.bl true) h) : fnW P (k + 3) 10 [d, d] h Q E := same_ok 2 k d hd h Q E q
section
variable {p : Addr} {m1 m2 mp mt : Mp} {t1 t2 td tp : List (List Int)} {H1 W1 H2 W2 Hd Wd Hp Wp : Nat} {k : Nat} {E : EK} {Dn : EndsD}
abbrev envp (p : Addr) (m1 m2 : Mp) (by_ : Bool) (t1 t2 td tp : List (List Int)) (o8 o9 oa ob oc od : Option D) : Env' := [some (.ref p), some (DT m1), some (DT m2), some (.bl by_), some (TT t1), some (TT t2), some (TT td), some (TT tp), o8, o9, oa, ob, oc, od]
theorem turn1 {by_ : Bool} {o8 o9 oa ob oc od : Option D} (k1 : Can (cf m1) t1 H1 W1) (k2 : Can (cf m2) t2 H2 W2) (kd : Can (cf mp) td Hd Wd) (kp : Can (cf mt) tp Hp Wp) (n1 : ND m1) (n2 : ND m2) (v1 : VB 100 m1) (v2 : VB 100 m2)
    (b1 : H1 ≤ 100 ∧ W1 ≤ 100) (b2 : H2 ≤ 100 ∧ W2 ≤ 100) (bd : Hd ≤ 100 ∧ Wd ≤ 100) (bp : Hp ≤ 100 ∧ Wp ≤ 100) (sp : ∀ f, sm mp f = sm m1 f + sm m2 f) (st : ∀ f, sm mt f = sm (prd m1 m2) f) {h : AH} (q : Dn.nx (envp p m1 m2 by_ t1 t2 td tp o8 o9 oa ob oc od) h) :
    Ss P (fnW P (k + 3)) E z19_1 Dn (envp p m1 m2 by_ t1 t2 td tp o8 o9 oa ob oc od) h := by
  have e1 : (fun i j => cf m1 i j + cf m2 i j) = cf mp := funext fun i => funext fun j => (sp _).symm
  have e2 : (fun i j => cf m2 i j + cf m1 i j) = cf mp := funext fun i => funext fun j => by rw [← e1]; exact Int.add_comm _ _
  have e3 : cnv (cf m1) (cf m2) H1 W1 H2 W2 = cf mt := funext fun a => funext fun b => (cnv_prd n1 n2 k1.2.1 k2.2.1 a b).trans (st _).symm
  have e4 : cnv (cf m2) (cf m1) H2 W2 H1 W1 = cf mt := funext fun a => funext fun b => (cnv_prd n2 n1 k2.2.1 k1.2.1 a b).trans ((sm_prd_comm m2 m1 _).trans (st _).symm)
  have w1 : ∀ i j, Bnd 200 (cf m1 i j) := fun i j => (cf_bnd n1 v1 i j).mono (by omega)
  have w2 : ∀ i j, Bnd 200 (cf m2 i j) := fun i j => (cf_bnd n2 v2 i j).mono (by omega)
  have pl : ∀ (h : AH) (Q : DK) (E : EK), Q (TT td) h → fnW P (k + 3) 4 [TT t1, TT t2] h Q E := fun h Q E q => plus_ok (k + 1) k1 k2 (by omega) (by omega) fun t a b can => by
    rw [e1] at can; rw [can.uniq kd]; exact q
  have pl2 : ∀ (h : AH) (Q : DK) (E : EK), Q (TT td) h → fnW P (k + 3) 4 [TT t2, TT t1] h Q E := fun h Q E q => plus_ok (k + 1) k2 k1 (by omega) (by omega) fun t a b can => by
    rw [e2] at can; rw [can.uniq kd]; exact q
  have tm : ∀ (h : AH) (Q : DK) (E : EK), Q (TT tp) h → fnW P (k + 3) 5 [TT t1, TT t2] h Q E := fun h Q E q => times_ok (k + 1) k1 k2 b1 b2 w1 w2 fun t a b can => by
    rw [e3] at can; rw [can.uniq kp]; exact q
  have tm2 : ∀ (h : AH) (Q : DK) (E : EK), Q (TT tp) h → fnW P (k + 3) 5 [TT t2, TT t1] h Q E := fun h Q E q => times_ok (k + 1) k2 k1 b2 b1 w2 w1 fun t a b can => by
    rw [e4] at can; rw [can.uniq kp]; exact q
  have sd := Sm_TT kd (by omega) (by omega)
  have sq := Sm_TT kp (by omega) (by omega)
  have kw0 : P.kwc[0]? = some ⟨4, 0, ["other", "one"], [1, 0]⟩ := rfl
  have kw1 : P.kwc[1]? = some ⟨5, 0, ["other", "one"], [1, 0]⟩ := rfl
  have pm : ∀ x y : D, ([1, 0].filterMap fun i => ([] ++ [x, y])[i]?) = [y, x] := fun _ _ => rfl
  unfold z19_1
  simp only [Ss, S, W, Ws, Wo, T, To, Wi, binW, biW, tgW, vw_int, vw_tup, vw_lst, vw_bl, vw_non, vw_str, vw_dT, setAll, List.getElem?_cons_zero, List.getElem?_cons_succ, List.set_cons_succ, List.set_cons_zero, wipeD, List.map_cons, List.map_nil, List.length_cons, List.length_nil, kw0, kw1, pm]
  cases by_ with
  | true =>
    simp only [Ss, S, W, Ws, Wo, T, To, Wi, binW, biW, tgW, vw_int, vw_tup, vw_lst, vw_bl, vw_non, vw_str, vw_dT, setAll, List.getElem?_cons_zero, List.getElem?_cons_succ, List.set_cons_succ, List.set_cons_zero, wipeD, List.map_cons, List.map_nil, List.length_cons, List.length_nil, kw0, kw1, pm]
    refine pl h _ E (same2 k sd ?_)
    simp only [Ss, S, W, Ws, Wo, T, To, Wi, binW, biW, tgW, vw_int, vw_tup, vw_lst, vw_bl, vw_non, vw_str, vw_dT, setAll, List.getElem?_cons_zero, List.getElem?_cons_succ, List.set_cons_succ, List.set_cons_zero, wipeD, List.map_cons, List.map_nil, List.length_cons, List.length_nil, Bool.not_true]
    refine tm h _ E (same2 k sq ?_)
    simp only [Ss, S, W, Ws, Wo, T, To, Wi, binW, biW, tgW, vw_int, vw_tup, vw_lst, vw_bl, vw_non, vw_str, vw_dT, setAll, List.getElem?_cons_zero, List.getElem?_cons_succ, List.set_cons_succ, List.set_cons_zero, wipeD, List.map_cons, List.map_nil, List.length_cons, List.length_nil, Bool.not_true]
    refine pl2 h _ E (same2 k sd ?_)
    simp only [Ss, S, W, Ws, Wo, T, To, Wi, binW, biW, tgW, vw_int, vw_tup, vw_lst, vw_bl, vw_non, vw_str, vw_dT, setAll, List.getElem?_cons_zero, List.getElem?_cons_succ, List.set_cons_succ, List.set_cons_zero, wipeD, List.map_cons, List.map_nil, List.length_cons, List.length_nil, Bool.not_true]
    refine tm2 h _ E (same2 k sq ?_)
    simp only [Ss, S, W, Ws, Wo, T, To, Wi, binW, biW, tgW, vw_int, vw_tup, vw_lst, vw_bl, vw_non, vw_str, vw_dT, setAll, List.getElem?_cons_zero, List.getElem?_cons_succ, List.set_cons_succ, List.set_cons_zero, wipeD, List.map_cons, List.map_nil, List.length_cons, List.length_nil, Bool.not_true]
    exact q
  | false =>
    simp only [Ss, S, W, Ws, Wo, T, To, Wi, binW, biW, tgW, vw_int, vw_tup, vw_lst, vw_bl, vw_non, vw_str, vw_dT, setAll, List.getElem?_cons_zero, List.getElem?_cons_succ, List.set_cons_succ, List.set_cons_zero, wipeD, List.map_cons, List.map_nil, List.length_cons, List.length_nil]
    refine pl h _ E (same2 k sd ?_)
    simp only [Ss, S, W, Ws, Wo, T, To, Wi, binW, biW, tgW, vw_int, vw_tup, vw_lst, vw_bl, vw_non, vw_str, vw_dT, setAll, List.getElem?_cons_zero, List.getElem?_cons_succ, List.set_cons_succ, List.set_cons_zero, wipeD, List.map_cons, List.map_nil, List.length_cons, List.length_nil, Bool.not_true]
    refine tm h _ E (same2 k sq ?_)
    simp only [Ss, S, W, Ws, Wo, T, To, Wi, binW, biW, tgW, vw_int, vw_tup, vw_lst, vw_bl, vw_non, vw_str, vw_dT, setAll, List.getElem?_cons_zero, List.getElem?_cons_succ, List.set_cons_succ, List.set_cons_zero, wipeD, List.map_cons, List.map_nil, List.length_cons, List.length_nil, Bool.not_true]
    refine pl2 h _ E (same2 k sd ?_)
    simp only [Ss, S, W, Ws, Wo, T, To, Wi, binW, biW, tgW, vw_int, vw_tup, vw_lst, vw_bl, vw_non, vw_str, vw_dT, setAll, List.getElem?_cons_zero, List.getElem?_cons_succ, List.set_cons_succ, List.set_cons_zero, wipeD, List.map_cons, List.map_nil, List.length_cons, List.length_nil, Bool.not_true]
    refine tm2 h _ E (same2 k sq ?_)
    simp only [Ss, S, W, Ws, Wo, T, To, Wi, binW, biW, tgW, vw_int, vw_tup, vw_lst, vw_bl, vw_non, vw_str, vw_dT, setAll, List.getElem?_cons_zero, List.getElem?_cons_succ, List.set_cons_succ, List.set_cons_zero, wipeD, List.map_cons, List.map_nil, List.length_cons, List.length_nil, Bool.not_true]
    exact q
theorem bx_sm {m : Mp} (nd : ND m) {t : List (List Int)} {hh ww : Nat} (can : Can (cf m) t hh ww) (f : Cf) : bx hh ww (cf m) f = sm m f := (transfer f m nd can.2.1).symm
theorem turn2 {by_ : Bool} {tn : Nat} {o9 oa ob oc od : Option D} (k1 : Can (cf m1) t1 H1 W1) (k2 : Can (cf m2) t2 H2 W2) (kd : Can (cf mp) td Hd Wd) (n1 : ND m1) (n2 : ND m2) (np : ND mp) (kb1 : KB 100 m1) (kb2 : KB 100 m2) (v1 : VB 100 m1) (v2 : VB 100 m2) (l1 : m1.length ≤ 1000) (l2 : m2.length ≤ 1000)
    (b1 : H1 ≤ 100 ∧ W1 ≤ 100) (b2 : H2 ≤ 100 ∧ W2 ≤ 100) (bd : Hd ≤ 100 ∧ Wd ≤ 100) (sp : ∀ f, sm mp f = sm m1 f + sm m2 f) (ht : tn ≤ 2) {n : Nat} (hn : n ≤ 100000000) {h : AH} (bx0 : BoxAt h p n)
    (q : ∀ h' o9 oa ob oc od, BoxAt h' p (n + 6) → Off p h h' → Dn.nx (envp p m1 m2 by_ t1 t2 td tp (some (.int (tn : Int))) o9 oa ob oc od) h') :
    Ss P (fnW P (k + 3)) E z19_2 Dn (envp p m1 m2 by_ t1 t2 td tp (some (.int (tn : Int))) o9 oa ob oc od) h := by
  have w1 : ∀ i j, Bnd 200 (cf m1 i j) := fun i j => (cf_bnd n1 v1 i j).mono (by omega)
  have w2 : ∀ i j, Bnd 200 (cf m2 i j) := fun i j => (cf_bnd n2 v2 i j).mono (by omega)
  have wd : ∀ i j, Bnd 200 (cf mp i j) := fun i j => by
    have : cf mp i j = cf m1 i j + cf m2 i j := sp _
    rw [this]
    exact ((cf_bnd n1 v1 i j).add (cf_bnd n2 v2 i j)).mono (by omega)
  have z2 : 0 + 1 + 1 ≤ sizeLine := by rw [sizeLine_eq]; decide
  have z1 : 0 + 1 ≤ sizeLine := by rw [sizeLine_eq]; decide
  have z3 : 0 + 1 + 1 + 1 ≤ sizeLine := by rw [sizeLine_eq]; decide
  have kw2 : P.kwc[2]? = some ⟨6, 0, ["y", "polynomial", "x"], [1, 2, 0]⟩ := rfl
  have pm : ∀ x y z : D, ([1, 2, 0].filterMap fun i => ([] ++ [x, y, z])[i]?) = [y, z, x] := fun _ _ _ => rfl
  unfold z19_2
  simp only [Ss, S, W, Ws, Wo, T, To, Wi, binW, biW, tgW, vw_int, vw_tup, vw_lst, vw_bl, vw_non, vw_str, vw_dT, setAll, List.getElem?_cons_zero, List.getElem?_cons_succ, List.set_cons_succ, List.set_cons_zero, wipeD, List.map_cons, List.map_nil, List.length_cons, List.length_nil]
  refine number_ok (k + 1) (by omega) bx0 fun x0 h1 bz b1' o1 => ?_
  simp only [Ss, S, W, Ws, Wo, T, To, Wi, binW, biW, tgW, vw_int, vw_tup, vw_lst, vw_bl, vw_non, vw_str, vw_dT, setAll, List.getElem?_cons_zero, List.getElem?_cons_succ, List.set_cons_succ, List.set_cons_zero, wipeD, List.map_cons, List.map_nil, List.length_cons, List.length_nil]
  refine number_ok (k + 1) (by omega) b1' fun y h2 by' b2' o2 => ?_
  refine ⟨z2, trivial, ?_⟩
  have bX : Bnd 120 (x0 - (tn : Int)) := by
    unfold Bnd at *
    have : (2 : Nat) ^ 120 = 2 ^ 100 * 2 ^ 20 := by decide
    have : (2 : Nat) ^ 100 ≥ 3 := by decide
    have h20 : (2 : Nat) ^ 20 = 1048576 := by decide
    omega
  have bY : Bnd 120 y := by'.mono (by omega)
  generalize x0 - (tn : Int) = x at bX
  have u1 : VB 200 m1 := fun e he => (v1 e he).mono (by omega)
  have u2 : VB 200 m2 := fun e he => (v2 e he).mono (by omega)
  refine law_value_ok (k + 1) n1 kb1 u1 (by omega) bX bY ?_
  refine law_value_ok (k + 1) n2 kb2 u2 (by omega) bX bY ?_
  simp only [Ss, S, W, Ws, Wo, T, To, Wi, binW, biW, tgW, vw_int, vw_tup, vw_lst, vw_bl, vw_non, vw_str, vw_dT, setAll, List.getElem?_cons_zero, List.getElem?_cons_succ, List.set_cons_succ, List.set_cons_zero, wipeD, List.map_cons, List.map_nil, List.length_cons, List.length_nil, mkL, seqW]
  refine ⟨z2, z3, ?_⟩
  intro qd nq
  generalize hA : sm m1 (fun i j => x ^ i * y ^ j) = A
  generalize hB : sm m2 (fun i j => x ^ i * y ^ j) = B
  have val : ∀ {m : Mp} {t : List (List Int)} {hh ww : Nat} {C : Int}, ND m → Can (cf m) t hh ww → hh ≤ 100 ∧ ww ≤ 100 → (∀ i j, Bnd 200 (cf m i j)) → sm m (fun i j => x ^ i * y ^ j) = C → ∀ (h : AH) (Q : DK), Q (.int C) h →
      W P (fnW P (k + 3)) noE e19_1 [some (.ref p), some (DT m1), some (DT m2), some (.bl by_), some (TT t1), some (TT t2), some (TT td), some (TT tp), some (.int (tn : Int)), some (.int x), some (.int y), some (.lst [.int A, .int B]), oc, some (TT t)] h Q := fun {m t hh ww C} nd can hb hc e h Q qq => by
    unfold e19_1
    simp only [Ss, S, W, Ws, Wo, T, To, Wi, binW, biW, tgW, vw_int, vw_tup, vw_lst, vw_bl, vw_non, vw_str, vw_dT, setAll, List.getElem?_cons_zero, List.getElem?_cons_succ, List.set_cons_succ, List.set_cons_zero, wipeD, List.map_cons, List.map_nil, List.length_cons, List.length_nil]
    cases by_ with
    | true =>
      simp only [Ss, S, W, Ws, Wo, T, To, Wi, binW, biW, tgW, vw_int, vw_tup, vw_lst, vw_bl, vw_non, vw_str, vw_dT, setAll, List.getElem?_cons_zero, List.getElem?_cons_succ, List.set_cons_succ, List.set_cons_zero, wipeD, List.map_cons, List.map_nil, List.length_cons, List.length_nil, kw2, pm]
      refine value_ok (k + 1) can hb hc bX bY ?_
      rw [bx_sm nd can, e]; exact qq
    | false =>
      simp only [Ss, S, W, Ws, Wo, T, To, Wi, binW, biW, tgW, vw_int, vw_tup, vw_lst, vw_bl, vw_non, vw_str, vw_dT, setAll, List.getElem?_cons_zero, List.getElem?_cons_succ, List.set_cons_succ, List.set_cons_zero, wipeD, List.map_cons, List.map_nil, List.length_cons, List.length_nil]
      refine value_ok (k + 1) can hb hc bX bY ?_
      rw [bx_sm nd can, e]; exact qq
  have hp2 : ∀ h' : AH, h2 qd = none := fun _ => nq
  refine ⟨trivial, ?_⟩
  unfold noT
  simp only [tgW, To, wipeD, List.set_cons_succ, List.set_cons_zero]
  refine val n1 k1 b1 w1 hA _ _ ⟨hup_same, by rw [sizeLine_eq]; decide, ?_⟩
  refine ⟨trivial, ?_⟩
  simp only [tgW, To, wipeD, List.set_cons_succ, List.set_cons_zero]
  refine val n2 k2 b2 w2 hB _ _ ⟨hup_same, by rw [sizeLine_eq]; show 1 < 16777216; decide, ?_⟩
  refine ⟨trivial, ?_⟩
  simp only [tgW, To, wipeD, List.set_cons_succ, List.set_cons_zero]
  have hD : sm mp (fun i j => x ^ i * y ^ j) = A + B := by rw [sp, hA, hB]
  refine val np kd bd wd hD _ _ ⟨hup_same, by rw [sizeLine_eq]; show 2 < 16777216; decide, ?_⟩
  refine ⟨trivial, hup_same, ?_⟩
  simp only [compEnd, hup_hup]
  simp only [Ss, S, W, Ws, Wo, T, To, Wi, binW, biW, tgW, vw_int, vw_tup, vw_lst, vw_bl, vw_non, vw_str, vw_dT, setAll, List.getElem?_cons_zero, List.getElem?_cons_succ, List.set_cons_succ, List.set_cons_zero, wipeD, List.map_cons, List.map_nil, List.length_cons, List.length_nil, hup_same, hdel_new nq, catW, mkL, ixW]
  have a0 : ∀ x0 x1 : D, atI [x0, x1] (0 : Int) = some x0 := fun _ _ => rfl
  have a1 : ∀ x0 x1 : D, atI [x0, x1] (1 : Int) = some x1 := fun _ _ => rfl
  simp only [Ss, S, W, Ws, Wo, T, To, Wi, binW, biW, tgW, vw_int, vw_tup, vw_lst, vw_bl, vw_non, vw_str, vw_dT, setAll, List.getElem?_cons_zero, List.getElem?_cons_succ, List.set_cons_succ, List.set_cons_zero, wipeD, List.map_cons, List.map_nil, List.length_cons, List.length_nil, a0, a1]
  refine ⟨z1, z3, ?_⟩
  have se : (D.lst ([] ++ [D.int A] ++ [D.int B] ++ [D.int (A + B)])) = .lst ([A, B, A + B].map D.int) := rfl
  refine same2 k (Sm_ints [A, B, A + B] (by show 3 ≤ 1000; decide)) ?_
  simp only [Ss, S, W, Ws, Wo, T, To, Wi, binW, biW, tgW, vw_int, vw_tup, vw_lst, vw_bl, vw_non, vw_str, vw_dT, setAll, List.getElem?_cons_zero, List.getElem?_cons_succ, List.set_cons_succ, List.set_cons_zero, wipeD, List.map_cons, List.map_nil, List.length_cons, List.length_nil, Bool.not_true]
  exact q h2 _ _ _ _ _ b2' (o1.trans o2)
end
end K37

end

section
set_option Elab.async false
set_option linter.all false
set_option maxRecDepth 100000
set_option maxHeartbeats 2000000
namespace K37
open PySem PySem.Spec PyProof.Rows L2 G
def Gd (m : Mp) : Prop := ND m ∧ KB 12 m ∧ VB 100 m ∧ m.length ≤ 144
theorem pair_ok (k : Nat) {p : Addr} {n : Nat} (hn : n ≤ 10000000) {m1 m2 : Mp} (g1 : Gd m1) (g2 : Gd m2) (by_ : Bool) {h : AH} {Q : DK} {E : EK} (bx : BoxAt h p n) (q : ∀ h', BoxAt h' p (n + 20) → Off p h h' → Q (.bl true) h') :
    fnW P (k + 4) 19 [.ref p, DT m1, DT m2, .bl by_] h Q E := by
  obtain ⟨n1, kb1, v1, l1⟩ := g1
  obtain ⟨n2, kb2, v2, l2⟩ := g2
  refine ⟨rfl, ?_⟩
  show Ss P (fnW P (k + 3)) E b19 (En Q) [some (.ref p), some (DT m1), some (DT m2), some (.bl by_), none, none, none, none, none, none, none, none, none, none] h
  have z2 : 0 + 1 + 1 ≤ sizeLine := by rw [sizeLine_eq]; decide
  unfold b19
  simp only [Ss, S, W, Ws, Wo, T, To, Wi, binW, biW, tgW, vw_int, vw_tup, vw_lst, vw_bl, vw_non, vw_str, vw_dT, setAll, List.getElem?_cons_zero, List.getElem?_cons_succ, List.set_cons_succ, List.set_cons_zero, wipeD, List.map_cons, List.map_nil, List.length_cons, List.length_nil]
  refine law_trimmed_ok (k + 2) n1 kb1 (by omega) (by omega) fun t1 H1 W1 k1 a1 a2 => ?_
  refine law_trimmed_ok (k + 2) n2 kb2 (by omega) (by omega) fun t2 H2 W2 k2 c1 c2 => ?_
  refine ⟨z2, trivial, ?_⟩
  refine law_plus_ok (k + 2) (hash_nd n1 kb1) n1 n2 kb1 kb2 (by omega) (by omega) fun mp np kbp lp sp => ?_
  refine law_trimmed_ok (k + 2) np kbp (by omega) (by omega) fun td Hd Wd kd d1 d2 => ?_
  refine law_times_ok (k + 2) n1 n2 kb1 kb2 (fun e he => (v1 e he).mono (by omega)) (fun e he => (v2 e he).mono (by omega)) (by omega) (by omega) fun mt nt kbt lt st => ?_
  refine law_trimmed_ok (k + 2) nt kbt (by omega) (by omega) fun tp Hp Wp kp f1 f2 => ?_
  refine ⟨z2, trivial, small_nat (n := 2) (by omega), ?_⟩
  have r2 : rngD 0 2 = (List.range 2).map fun i => D.int ((i : Nat) : Int) := rngD0 2
  have r3 : rngD 0 3 = (List.range 3).map fun i => D.int ((i : Nat) : Int) := rngD0 3
  refine for_ok (Ss_mono (fnW_mono P (k + 3)) E z19_1) (fun i ρ h' => h' = h ∧ ∃ o8, ρ = envp p m1 m2 by_ t1 t2 td tp o8 none none none none none) _ _ _ ⟨rfl, none, rfl⟩ (fun i x ρ h' hx hi => ?_) (fun ρ h' hi => ?_)
  · obtain ⟨rfl, o8, rfl⟩ := hi
    refine ⟨trivial, ?_⟩
    exact turn1 k1 k2 kd kp n1 n2 v1 v2 (by omega) (by omega) (by omega) (by omega) sp st ⟨rfl, _, rfl⟩
  · obtain ⟨rfl, o8, rfl⟩ := hi
    refine ⟨trivial, ?_⟩
    simp only [Ss, S, W, Ws, Wo, T, To, Wi, binW, biW, tgW, vw_int, vw_tup, vw_lst, vw_bl, vw_non, vw_str, vw_dT, setAll, List.getElem?_cons_zero, List.getElem?_cons_succ, List.set_cons_succ, List.set_cons_zero, wipeD, List.map_cons, List.map_nil, List.length_cons, List.length_nil]
    refine ⟨small_nat (n := 3) (by omega), ?_⟩
    refine for_ok (Ss_mono (fnW_mono P (k + 3)) E z19_2) (fun i ρ h2 => BoxAt h2 p (n + 6 * i) ∧ Off p h' h2 ∧ ∃ o8 o9 oa ob oc od, ρ = envp p m1 m2 by_ t1 t2 td tp o8 o9 oa ob oc od) _ _ _ ⟨bx, Off.refl _ _, _, _, _, _, _, _, rfl⟩ (fun i x ρ h2 hx hi => ?_) (fun ρ h2 hi => ?_)
    · obtain ⟨bi, oi, o8, o9, oa, ob, oc, od, rfl⟩ := hi
      have hi3 : i < 3 := by
        have := (List.getElem?_eq_some_iff.mp hx).1
        rw [r3, List.length_map, List.length_range] at this
        exact this
      have ex : x = .int (i : Int) := by
        rw [r3, List.getElem?_map, List.getElem?_range hi3] at hx
        exact (Option.some.inj hx).symm
      subst ex
      refine ⟨trivial, ?_⟩
      refine turn2 k1 k2 kd n1 n2 np (fun e he => by have := kb1 e he; omega) (fun e he => by have := kb2 e he; omega) v1 v2 (by omega) (by omega) (by omega) (by omega) (by omega) sp (by omega) (by omega) bi fun h3 o9 oa ob oc od b3 o3 => ?_
      exact ⟨b3.mono (by omega), oi.trans o3, _, _, _, _, _, _, rfl⟩
    · obtain ⟨bi, oi, o8, o9, oa, ob, oc, od, rfl⟩ := hi
      rw [r3, List.length_map, List.length_range] at bi
      refine ⟨trivial, ?_⟩
      simp only [Ss, S, W, Ws, Wo, T, To, Wi, binW, biW, tgW, vw_int, vw_tup, vw_lst, vw_bl, vw_non, vw_str, vw_dT, setAll, List.getElem?_cons_zero, List.getElem?_cons_succ, List.set_cons_succ, List.set_cons_zero, wipeD, List.map_cons, List.map_nil, List.length_cons, List.length_nil]
      exact ⟨h2, Sub.refl _, q h2 (bi.mono (by omega)) oi⟩
end K37

end

section
set_option Elab.async false
set_option linter.all false
set_option maxRecDepth 100000
set_option maxHeartbeats 2000000
namespace K37
open PySem PySem.Spec PyProof.Rows L2 G
theorem can0 : Can (fun _ _ => 0) [] 0 0 := ⟨rfl, fun _ _ h => absurd rfl h, fun h => absurd h (by omega), fun h => absurd h (by omega)⟩
theorem Gd.one (a b : Nat) (v : Int) (ha : a < 12) (hb : b < 12) (hv : Bnd 100 v) : Gd [((a, b), v)] :=
  ⟨by unfold ND; simp, fun e he => by rw [List.mem_singleton.mp he]; exact ⟨ha, hb⟩, fun e he => by rw [List.mem_singleton.mp he]; exact hv, by show 1 ≤ 144; decide⟩
theorem Gd.nil : Gd [] := ⟨List.nodup_nil, (fun e he => nomatch he), (fun e he => nomatch he), Nat.zero_le _⟩
theorem cell_right_ok (k : Nat) {p : Addr} {n : Nat} (hn : n ≤ 1000000) {h : AH} {Q : DK} {E : EK} (bx : BoxAt h p n) (q : ∀ h', Q (.bl true) h') : fnW P (k + 5) 20 [.ref p] h Q E := by
  refine ⟨rfl, ?_⟩
  show Ss P (fnW P (k + 4)) E b20 (En Q) [some (.ref p), none, none, none, none, none, none, none, none, none] h
  have z2 : 0 + 1 + 1 ≤ sizeLine := by rw [sizeLine_eq]; decide
  unfold b20
  simp only [Ss, S, W, Ws, Wo, T, To, Wi, binW, biW, tgW, vw_int, vw_tup, vw_lst, vw_bl, vw_non, vw_str, vw_dT, setAll, List.getElem?_cons_zero, List.getElem?_cons_succ, List.set_cons_succ, List.set_cons_zero, wipeD, List.map_cons, List.map_nil, List.length_cons, List.length_nil]
  refine take_ok (k + 3) (by decide) (by decide) (by omega) bx fun d1 _ h1 b1 o1 => ?_
  simp only [Ss, S, W, Ws, Wo, T, To, Wi, binW, biW, tgW, vw_int, vw_tup, vw_lst, vw_bl, vw_non, vw_str, vw_dT, setAll, List.getElem?_cons_zero, List.getElem?_cons_succ, List.set_cons_succ, List.set_cons_zero, wipeD, List.map_cons, List.map_nil, List.length_cons, List.length_nil, cmpD, eq_int]
  refine take_ok (k + 3) (by decide) (by decide) (by omega) b1 fun d2 _ h2 b2 o2 => ?_
  simp only [Ss, S, W, Ws, Wo, T, To, Wi, binW, biW, tgW, vw_int, vw_tup, vw_lst, vw_bl, vw_non, vw_str, vw_dT, setAll, List.getElem?_cons_zero, List.getElem?_cons_succ, List.set_cons_succ, List.set_cons_zero, wipeD, List.map_cons, List.map_nil, List.length_cons, List.length_nil, cmpD, eq_int]
  refine ⟨z2, trivial, ?_⟩
  generalize decide ((d1 : Int) = 1) = by_
  generalize decide ((d2 : Int) = 7) = gr
  refine drawn_ok (k + 1) (by omega) gr b2 fun m1 h3 n1 kb1 v1 l1 b3 o3 => ?_
  have g1 : Gd m1 := ⟨n1, kb1, v1, l1⟩
  have main : ∀ (m2 : Mp) (h4 : AH), Gd m2 → BoxAt h4 p (n + 2000) → Ss P (fnW P (k + 4)) E (.cons (.asg 5 (.lst true (.cons (.tup (.cons (.var 3) (.cons (.var 4) .nil))) (.cons (.tup (.cons (.fz .dnew) (.cons (.var 3) .nil))) (.cons (.tup (.cons (.var 3) (.cons (.fz (.d1 (.tup (.cons (.int 0) (.cons (.int 0) .nil))) (.int 1))) .nil))) (.cons (.tup (.cons (.fz (.d1 (.tup (.cons (.int 1) (.cons (.int 0) .nil))) (.int 1))) (.cons (.var 4) .nil))) (.cons (.tup (.cons (.fz (.d1 (.tup (.cons (.int 0) (.cons (.int 1) .nil))) (.bin .sub (.int 0) (.int 1)))) (.cons (.var 3) .nil))) (.cons (.tup (.cons (.var 4) (.cons (.var 4) .nil))) .nil)))))))) (.cons (.ife (.cmp .ne (.comp true (.tp [8, 9]) (.seq (.var 5)) [("first", 8), ("second", 9)] t20_1 e20_1) (.lst true .nil)) (.cons (.ret (.bl false)) .nil) .nil) (.cons (.asg 6 .dnew) (.cons (.fr (.nm 7) (.keys (.var 3)) z20_1) (.cons (.fzv 6) (.cons (.ife (.not (.val (.call 10 (.cons (.call 4 (.cons (.call 11 (.cons (.var 3) .nil)) (.cons (.call 11 (.cons (.var 6) .nil)) .nil))) (.cons (.tup .nil) .nil))))) (.cons (.ret (.bl false)) .nil) .nil) (.cons (.ret (.andv (.call 10 (.cons (.call 4 (.cons (.tup .nil) (.cons (.tup .nil) .nil))) (.cons (.tup .nil) .nil))) (.andv (.call 10 (.cons (.call 5 (.cons (.tup .nil) (.cons (.call 11 (.cons (.var 3) .nil)) .nil))) (.cons (.tup .nil) .nil))) (.call 10 (.cons (.call 6 (.cons (.tup .nil) (.cons (.int 3) (.cons (.int 4) .nil)))) (.cons (.int 0) .nil)))))) .nil)))))))
      (En Q) [some (.ref p), some (.bl by_), some (.bl gr), some (DT m1), some (DT m2), none, none, none, none, none] h4 := fun m2 h4 g2 b4 => by
    simp only [Ss, S, W, Ws, Wo, T, To, Wi, binW, biW, tgW, vw_int, vw_tup, vw_lst, vw_bl, vw_non, vw_str, vw_dT, setAll, List.getElem?_cons_zero, List.getElem?_cons_succ, List.set_cons_succ, List.set_cons_zero, wipeD, List.map_cons, List.map_nil, List.length_cons, List.length_nil, mkL, fzW, hup_same]
    refine ⟨z2, fun pa na => ?_⟩
    rw [hdel_new na]
    refine ⟨z2, fun pb nb => ⟨z2, ?_⟩⟩
    simp only [Ss, S, W, Ws, Wo, T, To, Wi, binW, biW, tgW, vw_int, vw_tup, vw_lst, vw_bl, vw_non, vw_str, vw_dT, setAll, List.getElem?_cons_zero, List.getElem?_cons_succ, List.set_cons_succ, List.set_cons_zero, wipeD, List.map_cons, List.map_nil, List.length_cons, List.length_nil, d1W, hup_same, keysOf, keyOf]
    refine ⟨trivial, ?_⟩
    rw [hup_hup, hdel_new nb]
    refine ⟨z2, fun pc nc => ⟨z2, by first | trivial | exact hup_same, ?_⟩⟩
    rw [hup_hup, hdel_new nc]
    refine ⟨z2, fun pe ne => ⟨z2, by first | trivial | exact hup_same, ?_⟩⟩
    rw [hup_hup, hdel_new ne]
    refine ⟨z2, z2, by rw [sizeLine_eq]; decide, ?_⟩
    have hit : ∀ x ∈ [D.tup [DT m1, DT m2], D.tup [D.dT [], DT m1], D.tup [DT m1, D.dT [([Sum.inl 0, Sum.inl 0], D.int 1)]], D.tup [D.dT [([Sum.inl 1, Sum.inl 0], D.int 1)], DT m2], D.tup [D.dT [([Sum.inl 0, Sum.inl 1], D.int (0 - 1))], DT m1], D.tup [DT m2, DT m2]], ∃ ma mb, x = D.tup [DT ma, DT mb] ∧ Gd ma ∧ Gd mb := fun x hx => by
      simp only [List.mem_cons, List.not_mem_nil, or_false] at hx
      rcases hx with rfl | rfl | rfl | rfl | rfl | rfl
      · exact ⟨m1, m2, rfl, g1, g2⟩
      · exact ⟨[], m1, rfl, Gd.nil, g1⟩
      · exact ⟨m1, [((0, 0), 1)], rfl, g1, Gd.one 0 0 1 (by omega) (by omega) (by unfold Bnd; decide)⟩
      · exact ⟨[((1, 0), 1)], m2, rfl, Gd.one 1 0 1 (by omega) (by omega) (by unfold Bnd; decide), g2⟩
      · exact ⟨[((0, 1), 0 - 1)], m1, rfl, Gd.one 0 1 (0 - 1) (by omega) (by omega) (by unfold Bnd; decide), g1⟩
      · exact ⟨m2, m2, rfl, g2, g2⟩
    have hlen : [D.tup [DT m1, DT m2], D.tup [D.dT [], DT m1], D.tup [DT m1, D.dT [([Sum.inl 0, Sum.inl 0], D.int 1)]], D.tup [D.dT [([Sum.inl 1, Sum.inl 0], D.int 1)], DT m2], D.tup [D.dT [([Sum.inl 0, Sum.inl 1], D.int (0 - 1))], DT m1], D.tup [DT m2, DT m2]].length = 6 := rfl
    generalize [D.tup [DT m1, DT m2], D.tup [D.dT [], DT m1], D.tup [DT m1, D.dT [([Sum.inl 0, Sum.inl 0], D.int 1)]], D.tup [D.dT [([Sum.inl 1, Sum.inl 0], D.int 1)], DT m2], D.tup [D.dT [([Sum.inl 0, Sum.inl 1], D.int (0 - 1))], DT m1], D.tup [DT m2, DT m2]] = items at hit hlen
    simp only [seqW]
    intro pd nd
    have hpd : p ≠ pd := fun e => by
      obtain ⟨_, _, _, _, e1, _⟩ := b4
      rw [e, nd] at e1; cases e1
    refine compW_inv (To_mono' (k + 4) noE t20_1) (W_mono' (k + 4) noE e20_1) (fun i acc h' => acc = [] ∧ h' pd = some (.lst []) ∧ BoxAt h' p (n + 2000 + 20 * i)) items 0 [] _ ⟨rfl, hup_same, ?_⟩ (fun i x acc h' hx hi => ?_) (fun acc h' hi => ?_)
    · obtain ⟨g, bb, r, c, e, r1⟩ := b4
      exact ⟨g, bb, r, c, by rw [hup_ne hpd]; exact e, by simpa using r1⟩
    · obtain ⟨rfl, hp', bi⟩ := hi
      rw [Nat.zero_add] at bi ⊢
      obtain ⟨ma, mb, rfl, ga, gb⟩ := hit x (List.mem_of_getElem? hx)
      have hi6 : i < 6 := by have := (List.getElem?_eq_some_iff.mp hx).1; omega
      refine ⟨trivial, rfl, ?_⟩
      unfold t20_1
      simp only [Ss, S, W, Ws, Wo, T, To, Wi, binW, biW, tgW, vw_int, vw_tup, vw_lst, vw_bl, vw_non, vw_str, vw_dT, setAll, List.getElem?_cons_zero, List.getElem?_cons_succ, List.set_cons_succ, List.set_cons_zero, wipeD, List.map_cons, List.map_nil, List.length_cons, List.length_nil]
      refine pair_ok k (by omega) ga gb by_ bi fun h5 b5 o5 => ?_
      simp only [Ss, S, W, Ws, Wo, T, To, Wi, binW, biW, tgW, vw_int, vw_tup, vw_lst, vw_bl, vw_non, vw_str, vw_dT, setAll, List.getElem?_cons_zero, List.getElem?_cons_succ, List.set_cons_succ, List.set_cons_zero, wipeD, List.map_cons, List.map_nil, List.length_cons, List.length_nil, Bool.not_true]
      exact ⟨trivial, by rw [o5 pd (Ne.symm hpd)]; exact hp', b5.mono (by omega)⟩
    · obtain ⟨rfl, hp', bi⟩ := hi
      refine ⟨trivial, hp', ?_⟩
      simp only [compEnd]
      simp only [Ss, S, W, Ws, Wo, T, To, Wi, binW, biW, tgW, vw_int, vw_tup, vw_lst, vw_bl, vw_non, vw_str, vw_dT, setAll, List.getElem?_cons_zero, List.getElem?_cons_succ, List.set_cons_succ, List.set_cons_zero, wipeD, List.map_cons, List.map_nil, List.length_cons, List.length_nil, cmpD, eq_nil, Option.map_some, Bool.not_true]
      refine ⟨Nat.zero_le _, fun pt nt => ?_⟩
      refine keysW_dt m1 _ ?_
      refine for_ok (Ss_mono (fnW_mono P (k + 4)) E z20_1) (fun i ρ h' => ∃ o7 m, ρ = [some (.ref p), some (.bl by_), some (.bl gr), some (DT m1), some (DT m2), some (.lst items), some (.ref pt), o7, none, none] ∧ h' pt = some (DT m) ∧ ND m ∧ KB 12 m ∧ m.length ≤ i ∧ ∀ f, sm m f = - sm (m1.take i) f) _ _ _ ⟨none, [], rfl, hup_same, Gd.nil.1, Gd.nil.2.1, Nat.zero_le _, fun f => rfl⟩ (fun i x ρ h' hx hi => ?_) (fun ρ h' hi => ?_)
      · obtain ⟨o7, m, rfl, hq, ndm, kb, ml, sf⟩ := hi
        obtain ⟨e, he, rfl⟩ := key_get hx
        have hm := List.mem_of_getElem? he
        have hil : i < m1.length := (List.getElem?_eq_some_iff.mp he).1
        obtain ⟨⟨a, b⟩, v⟩ := e
        refine ⟨trivial, ?_⟩
        unfold z20_1
        simp only [Ss, S, W, Ws, Wo, T, To, Wi, binW, biW, tgW, vw_int, vw_tup, vw_lst, vw_bl, vw_non, vw_str, vw_dT, setAll, List.getElem?_cons_zero, List.getElem?_cons_succ, List.set_cons_succ, List.set_cons_zero, wipeD, List.map_cons, List.map_nil, List.length_cons, List.length_nil, kt, ixW, DT, keysOf_kt, valD_ents, get_mem n1 hm, Option.map_some, setW, hq, putD_ents]
        have fresh : cf (m1.take i) a b = 0 := cf_not fun z => by
          have sp : m1 = m1.take i ++ ((a, b), v) :: m1.drop (i + 1) := by
            have hg : m1[i] = ((a, b), v) := (List.getElem?_eq_some_iff.mp he).2
            rw [← hg]
            conv => lhs; rw [← List.take_append_drop i m1, List.drop_eq_getElem_cons hil]
          have n1' := n1
          unfold ND at n1'
          rw [sp, List.map_append, List.nodup_append] at n1'
          exact n1'.2.2 _ z _ (by simp) rfl
        have cm : cf m a b = 0 := by
          have : cf m a b = - cf (m1.take i) a b := sf _
          rw [this, fresh]; rfl
        refine ⟨by rw [List.length_map, sizeLine_eq]; omega, _, _, rfl, hup_same, nodup_put ndm _ _, kb.put (kb1 _ hm) _, by have := length_put m (a, b) (0 - v); omega, fun f => ?_⟩
        have s1 := sm_put ndm (a, b) (0 - v) f
        have e0 : cf m (a, b).1 (a, b).2 + (0 - v) = 0 - v := by show cf m a b + _ = _; rw [cm]; omega
        rw [e0] at s1
        rw [s1, sf f, sm_take he]
        show _ + (0 - v) * f a b = - (_ + v * f a b)
        rw [Int.sub_mul]
        omega
      · obtain ⟨o7, m, rfl, hq, ndm, kb, ml, sf⟩ := hi
        rw [List.length_map] at ml sf
        rw [List.take_length] at sf
        refine ⟨trivial, ?_⟩
        simp only [Ss, S, W, Ws, Wo, T, To, Wi, binW, biW, tgW, vw_int, vw_tup, vw_lst, vw_bl, vw_non, vw_str, vw_dT, setAll, List.getElem?_cons_zero, List.getElem?_cons_succ, List.set_cons_succ, List.set_cons_zero, wipeD, List.map_cons, List.map_nil, List.length_cons, List.length_nil, hq]
        refine law_trimmed_ok (k + 3) n1 kb1 (by omega) (by omega) fun t1 H1 W1 k1 a1 a2 => ?_
        refine law_trimmed_ok (k + 3) ndm kb (by omega) (by omega) fun t2 H2 W2 k2 c1 c2 => ?_
        refine plus_ok (k + 2) k1 k2 (by omega) (by omega) fun t Hx Wx can => ?_
        have ez : (fun i j => cf m1 i j + cf m i j) = fun _ _ => 0 := funext fun i => funext fun j => by
          have : cf m i j = - cf m1 i j := sf _
          rw [this]; omega
        rw [ez] at can
        have et := can.uniq can0
        subst et
        refine ⟨Nat.zero_le _, ?_⟩
        have s0 : Sm 2 (TT []) := Sm_TT can0 (by omega) (by omega)
        refine same2 (k + 1) s0 ?_
        simp only [Ss, S, W, Ws, Wo, T, To, Wi, binW, biW, tgW, vw_int, vw_tup, vw_lst, vw_bl, vw_non, vw_str, vw_dT, setAll, List.getElem?_cons_zero, List.getElem?_cons_succ, List.set_cons_succ, List.set_cons_zero, wipeD, List.map_cons, List.map_nil, List.length_cons, List.length_nil, Bool.not_true]
        refine ⟨Nat.zero_le _, Nat.zero_le _, ?_⟩
        refine plus_ok (k + 2) (t1 := []) (t2 := []) can0 can0 (by omega) (by omega) fun t Hx Wx can => ?_
        have et := can.uniq can0
        subst et
        refine ⟨Nat.zero_le _, ?_⟩
        refine same2 (k + 1) s0 ?_
        simp only [Ss, S, W, Ws, Wo, T, To, Wi, binW, biW, tgW, vw_int, vw_tup, vw_lst, vw_bl, vw_non, vw_str, vw_dT, setAll, List.getElem?_cons_zero, List.getElem?_cons_succ, List.set_cons_succ, List.set_cons_zero, wipeD, List.map_cons, List.map_nil, List.length_cons, List.length_nil]
        refine ⟨Nat.zero_le _, ?_⟩
        refine law_trimmed_ok (k + 3) n1 kb1 (by omega) (by omega) fun t1 H1 W1 k1 a1 a2 => ?_
        refine times_ok (k + 2) (t1 := []) can0 k1 (by omega) (by omega) (fun _ _ => by unfold Bnd; simp) (fun i j => (cf_bnd n1 v1 i j).mono (by omega)) fun t Hx Wx can => ?_
        have et := can.uniq can0
        subst et
        refine ⟨Nat.zero_le _, ?_⟩
        refine same2 (k + 1) s0 ?_
        simp only [Ss, S, W, Ws, Wo, T, To, Wi, binW, biW, tgW, vw_int, vw_tup, vw_lst, vw_bl, vw_non, vw_str, vw_dT, setAll, List.getElem?_cons_zero, List.getElem?_cons_succ, List.set_cons_succ, List.set_cons_zero, wipeD, List.map_cons, List.map_nil, List.length_cons, List.length_nil]
        refine ⟨Nat.zero_le _, ?_⟩
        refine value_ok (k + 2) (t := []) can0 (by omega) (fun _ _ => by unfold Bnd; simp) (by unfold Bnd; decide) (by unfold Bnd; decide) ?_
        refine same_int (k + 3) 0 ?_
        exact ⟨_, Sub.refl _, q _⟩
  cases gr with
  | true =>
    simp only [Ss, S, W, Ws, Wo, T, To, Wi, binW, biW, tgW, vw_int, vw_tup, vw_lst, vw_bl, vw_non, vw_str, vw_dT, setAll, List.getElem?_cons_zero, List.getElem?_cons_succ, List.set_cons_succ, List.set_cons_zero, wipeD, List.map_cons, List.map_nil, List.length_cons, List.length_nil]
    refine drawn_ok (k + 1) (by omega) false b3 fun m2 h4 n2 kb2 v2 l2 b4 o4 => ?_
    exact main m2 h4 ⟨n2, kb2, v2, l2⟩ (b4.mono (by omega))
  | false =>
    simp only [Ss, S, W, Ws, Wo, T, To, Wi, binW, biW, tgW, vw_int, vw_tup, vw_lst, vw_bl, vw_non, vw_str, vw_dT, setAll, List.getElem?_cons_zero, List.getElem?_cons_succ, List.set_cons_succ, List.set_cons_zero, wipeD, List.map_cons, List.map_nil, List.length_cons, List.length_nil]
    refine take_ok (k + 3) (by decide) (by decide) (by omega) b3 fun d3 _ h4 b4 o4 => ?_
    simp only [Ss, S, W, Ws, Wo, T, To, Wi, binW, biW, tgW, vw_int, vw_tup, vw_lst, vw_bl, vw_non, vw_str, vw_dT, setAll, List.getElem?_cons_zero, List.getElem?_cons_succ, List.set_cons_succ, List.set_cons_zero, wipeD, List.map_cons, List.map_nil, List.length_cons, List.length_nil, cmpD, eq_int]
    cases decide ((d3 : Int) = 0) with
    | true =>
      refine drawn_ok (k + 1) (by omega) false b4 fun m2 h5 n2 kb2 v2 l2 b5 o5 => ?_
      exact main m2 h5 ⟨n2, kb2, v2, l2⟩ (b5.mono (by omega))
    | false =>
      refine like_ok (k + 1) (by omega) n1 kb1 v1 l1 b4 fun m2 h5 n2 kb2 v2 l2 b5 o5 => ?_
      exact main m2 h5 ⟨n2, kb2, v2, l2⟩ (b5.mono (by omega))
end K37

end

section
set_option Elab.async false
set_option linter.all false
set_option maxRecDepth 100000
set_option maxHeartbeats 2000000
namespace K37
open PySem PySem.Spec PyProof.Rows L2 G
theorem min_nat (b : Nat) : (if ((b : Nat) : Int) < (4 : Int) then ((b : Nat) : Int) else 4) = ((min 4 b : Nat) : Int) := by split <;> omega
theorem max_two (b : Nat) : (if ((b : Nat) : Int) > (2 : Int) then ((b : Nat) : Int) else 2) = ((max 2 b : Nat) : Int) := by split <;> omega
theorem law_true (ns : List Int) (hl : ns.length ≤ 63) : fnW P 40 21 [.lst (ns.map .int)] (fun _ => none) (fun d _ => d = .bl true) noE := by
  refine ⟨rfl, ?_⟩
  show Ss P (fnW P 39) noE b21 (En fun d _ => d = .bl true) [some (.lst (ns.map .int)), none] _
  unfold b21
  simp only [Ss, S, W, Ws, Wo, T, To, Wi, binW, biW, tgW, vw_int, vw_tup, vw_lst, vw_bl, vw_non, vw_str, vw_dT, setAll, List.getElem?_cons_zero, List.getElem?_cons_succ, List.set_cons_succ, List.set_cons_zero, wipeD, List.map_cons, List.map_nil, List.length_cons, List.length_nil, List.length_map, min_nat, max_two]
  refine ⟨small_nat (by omega), ?_⟩
  refine for_ok (Ss_mono (fnW_mono P 39) noE z21_1) (fun i ρ h' => ∃ o, ρ = [some (.lst (ns.map .int)), o]) _ _ _ ⟨none, rfl⟩ (fun i x ρ h' hx hi => ?_) (fun ρ h' hi => ?_)
  · obtain ⟨o, rfl⟩ := hi
    have hi4 : i < max 2 (min 4 ns.length) := by
      have := (List.getElem?_eq_some_iff.mp hx).1
      rw [rngD0, List.length_map, List.length_range] at this
      exact this
    have ex : x = .int (i : Int) := by
      rw [rngD0, List.getElem?_map, List.getElem?_range hi4] at hx
      exact (Option.some.inj hx).symm
    subst ex
    refine ⟨trivial, ?_⟩
    unfold z21_1
    simp only [Ss, S, W, Ws, Wo, T, To, Wi, binW, biW, tgW, vw_int, vw_tup, vw_lst, vw_bl, vw_non, vw_str, vw_dT, setAll, List.getElem?_cons_zero, List.getElem?_cons_succ, List.set_cons_succ, List.set_cons_zero, wipeD, List.map_cons, List.map_nil, List.length_cons, List.length_nil]
    refine cell_ok 38 ns i (by omega) fun z => ?_
    refine box_ok 38 z fun p h1 np b1 o1 => ?_
    refine cell_right_ok 34 (n := 0) (by omega) b1 fun h2 => ?_
    simp only [Ss, S, W, Ws, Wo, T, To, Wi, binW, biW, tgW, vw_int, vw_tup, vw_lst, vw_bl, vw_non, vw_str, vw_dT, setAll, List.getElem?_cons_zero, List.getElem?_cons_succ, List.set_cons_succ, List.set_cons_zero, wipeD, List.map_cons, List.map_nil, List.length_cons, List.length_nil, Bool.not_true]
    exact ⟨_, rfl⟩
  · obtain ⟨o, rfl⟩ := hi
    refine ⟨trivial, ?_⟩
    simp only [Ss, S, W, Ws, Wo, T, To, Wi, binW, biW, tgW, vw_int, vw_tup, vw_lst, vw_bl, vw_non, vw_str, vw_dT, setAll, List.getElem?_cons_zero, List.getElem?_cons_succ, List.set_cons_succ, List.set_cons_zero, wipeD, List.map_cons, List.map_nil, List.length_cons, List.length_nil]
    exact ⟨h', Sub.refl _, trivial⟩
end K37

end

section
set_option Elab.async false
set_option linter.all false
set_option maxRecDepth 100000
set_option maxHeartbeats 0
namespace K37
open PySem PySem.Spec PyProof.Rows L2 G
abbrev R : PySem.W.OpenRow := PySem.W.OpenLaw.row PySem.Challenge.rw_spanbench_k37_polynomials
abbrev hk : PySem.W.Hook := hookE 4 P dd
def ob (s : PySem.W.SharedT) : He.AlD × Bool := obsE 4 P dd (HandSHeadRun.getT s)
theorem ob_eq (s : PySem.W.SharedT) : ob s = hk.obs s.abs := obsE_eq (HandSHeadRun.getT_eq s)
theorem run (w : World) : HandSHeadRun.RunEq R (PySem.W.view R.prog [24]) hk ob 4000 ["power", "trimmed", "item_at", "width_of", "plus", "times", "value_at", "_law_cell", "_law_box", "_law_take", "_law_same", "_law_trimmed", "_law_number", "_law_drawn", "_law_like", "_law_plus", "_law_times", "_law_power", "_law_value", "_law_pair_right", "_law_cell_right"] w := by
  intro os
  kernel_rfl
end K37
open PySem PySem.W PySem.Calls PyProof.Rows
theorem PySem.Challenge.cw_spanbench_k37_polynomials_holds : PySem.Challenge.rw_spanbench_k37_polynomials.Holds := by
  w_on; o_law
  refine HandSHeadRun.head_any (r := OpenLaw.row PySem.Challenge.rw_spanbench_k37_polynomials) (q := view (OpenLaw.row PySem.Challenge.rw_spanbench_k37_polynomials).prog [24]) (H := K37.hk) (ob := K37.ob) (M := 4000) (loose := ["power", "trimmed", "item_at", "width_of", "plus", "times", "value_at", "_law_cell", "_law_box", "_law_take", "_law_same", "_law_trimmed", "_law_number", "_law_drawn", "_law_like", "_law_plus", "_law_times", "_law_power", "_law_value", "_law_pair_right", "_law_cell_right"]) (d := HandSHeadRun.topDef (OpenLaw.row PySem.Challenge.rw_spanbench_k37_polynomials).prog 24) (kwd := []) K37.ob_eq
    (by kernel_rfl) (fun s => by kernel_rfl) K37.run (by kernel_rfl) (by kernel_rfl) (by kernel_rfl) (by rfl) (by first | assumption | decide +kernel) (by decide +kernel) ⟨rfl, rfl, rfl, rfl, rfl, by decide +kernel⟩ ?hw ?hc
  case hw => w_witness2
  case hc => exact G.walk_law (l := PySem.Challenge.rw_spanbench_k37_polynomials) (n := 4) (k := 40) (iL := 21) (fL := K37.f21) (dL := K37.d21) K37.good rfl (by kernel_rfl) ⟨rfl, by decide, by decide⟩ rfl rfl rfl (by kernel_rfl) K37.law_true

end
