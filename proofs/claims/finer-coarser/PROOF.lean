import PyProof.Rows.All
import Wide.All
import OpenK.AllK
import Wide.FinOn
import KE.KStateDown
import Lean
import HandS.Base
import HandS.Call
import HandS.Ends
import HandS.More
import HandS.Words
import HandS.WordsExc
import HandS.Defaults
import HandS.Head0
import HandS.Head1
import HandS.Head2
import HandS.HeadEnd
import HandS.HeadHook1
import HandS.HeadHook2
import PySem.Challenge.RW_keptnames_k80_whole_finer_and_coarser_ru
import KE.KDictKeyed
import KE.KDictPairs
import KE.KDictZip
import KE.KDictWalk
import KE.KDictCopyH
import KE.KSortTupG
import KE.DataMinMax
import HandS.ForMost
import HandS.SetKeys
import HandS.NoneIn
import HandS.Small
import HandS.Flow
import HandS.Style
import HandS.Conv
import HandS.DictComp
import HandS.TupLe
import HandS.Walk
import HandS.EndBits
set_option Elab.async false
set_option linter.all false
set_option maxRecDepth 100000
set_option maxHeartbeats 0
namespace Kn
open PySem PySem.Spec PyProof.Rows L2
/-! ### the text by places -/
def top (i : Nat) : Stmt :=
  PySem.Challenge.pw_keptnames_k80_whole_finer_and_coarser_ru.main.body.getD i (.Pass ⟨0, 0, 0, 0⟩)
/-- a def of the text as a datum for the head -/
def dd (i : Nat) (x : Str) (kw : List (Str × He.Dv) := []) : He.DefD :=
  ⟨(x, none), x, x, defArgs (top i), defBody (top i), defScope (top i), [], kw⟩
def fns : List He.DefD := [dd 1 "row_entries", dd 2 "best_moves", dd 3 "greatest_pairs", dd 5 "key_of", dd 6 "keyed_groups",
  dd 7 "group_items", dd 8 "is_finer", dd 10 "label_table", dd 11 "without", dd 12 "table_names", dd 13 "table_places",
  dd 14 "exact_table", dd 16 "best_carrying", dd 18 "places_of", dd 19 "labels_of", dd 20 "counting_pins", dd 21 "open_table",
  dd 22 "carry_over" [("pins", .non), ("homes", .non)], dd 24 "_law_stream", dd 25 "_law_draw", dd 26 "_law_choose",
  dd 27 "_law_shuffled", dd 28 "_law_word", dd 29 "_law_coarser", dd 30 "_law_heaviest", dd 31 "_law_table_of",
  dd 32 "_law_named", dd 33 "law"]
def fas : List He.Fa := [.glo "row_entries", .glo "best_moves", .glo "greatest_pairs", .glo "key_of", .glo "keyed_groups",
  .glo "group_items", .glo "is_finer", .glo "label_table", .glo "without", .glo "table_names", .glo "table_places",
  .glo "exact_table", .glo "best_carrying", .glo "places_of", .glo "labels_of", .glo "counting_pins", .glo "open_table",
  .glo "carry_over", .glo "_law_stream", .glo "_law_draw", .glo "_law_choose",
  .glo "_law_shuffled", .glo "_law_word", .glo "_law_coarser", .glo "_law_heaviest", .glo "_law_table_of",
  .glo "_law_named", .glo "law",
  .free "len", .free "range", .free "max", .free "min", .free "sorted", .free "tuple", .free "list", .free "dict",
  .free "enumerate", .free "all", .free "int"]
abbrev R : PySem.W.OpenRow := PySem.W.OpenLaw.row PySem.Challenge.rw_keptnames_k80_whole_finer_and_coarser_ru
abbrev hk : PySem.W.Hook := He.hookD 4 fas fns
def ob (s : PySem.W.SharedT) : He.AlD := He.obsDG 4 fas fns (HandSHeadRun.getT s)
theorem ob_eq (s : PySem.W.SharedT) : ob s = hk.obs s.abs := He.obsDG_eq (HandSHeadRun.getT_eq s)
def loose : List Str := ["row_entries", "best_moves", "greatest_pairs", "key_of", "keyed_groups", "group_items", "is_finer",
  "label_table", "without", "table_names", "table_places", "exact_table", "best_carrying", "places_of", "labels_of",
  "counting_pins", "open_table", "carry_over", "_law_stream", "_law_draw", "_law_choose", "_law_shuffled", "_law_word",
  "_law_coarser", "_law_heaviest", "_law_table_of", "_law_named"]
theorem run (w : World) : HandSHeadRun.RunEq R (PySem.W.view R.prog [33]) hk ob 4000 loose w := by
  intro os
  kernel_rfl
end Kn

set_option Elab.async false
set_option linter.all false
set_option maxRecDepth 100000
set_option maxHeartbeats 4000000
namespace Kn
abbrev St := L2.St
end Kn

set_option Elab.async false
set_option linter.all false
set_option maxRecDepth 100000
set_option maxHeartbeats 4000000
/-! Rules of this claim, first part: great powers, pop of None, setdefault with tuple keys. -/
namespace Kn
open PySem PySem.Spec PyProof.Rows L2
section
variable {X : Cx}
/-! ### n ** k of any size that the machine takes -/
def BigPow (i j : Int) : Prop := 0 ≤ j ∧ (Builtin.Int.intBits i : Int) * j ≤ 2 ^ 27
theorem op_powB : OpR X (binaryOp .Pow) (rI BigPow fun i j => .int (i ^ j.toNat)) :=
  opI fun _ _ _ _ _ _ _ c q => pow_int c.1 c.2 q

/-! ### d.pop(k, x) where k may be None -/
theorem nk_pairs {P : Program} {w : World} : ∀ {es : List DictEntry} {vs : List (Key × Value)}, Pairs (mixKind P w) es vs →
    Pairs (noneKind P w) es (vs.map fun q => ((some q.1 : Option Key), q.2))
  | _, _, .nil => .nil
  | _, _, .cons h e t => .cons h e (nk_pairs t)
theorem nk_dict {P : Program} {w : World} {h : Heap} {a : Addr} {vs : List (Key × Value)} (d : h.DictOf (mixKind P w) a vs) :
    h.DictOf (noneKind P w) a (vs.map fun q => ((some q.1 : Option Key), q.2)) := by
  obtain ⟨o, es, ep, ho, hx, hd, hk, hp, hn⟩ := d
  refine ⟨o, es, ep, ho, hx, hd, fun e he => ?_, nk_pairs hp, ?_⟩
  · obtain ⟨k, h1, h2⟩ := hk e he
    exact ⟨some k, h1, h2⟩
  · have e1 : ((vs.map fun q => ((some q.1 : Option Key), q.2)).map (·.1)) = (vs.map (·.1)).map some := by
      rw [List.map_map, List.map_map]
      rfl
    rw [e1]
    exact List.Pairwise.map _ (fun _ _ hab c => hab (Option.some.inj c)) hn
theorem nk_at {vs : List (Key × Value)} : valueAt (vs.map fun q => ((some q.1 : Option Key), q.2)) none = none := by
  unfold valueAt
  rw [Option.map_eq_none_iff, List.find?_eq_none]
  intro p hp
  obtain ⟨q, _, rfl⟩ := List.mem_map.mp hp
  simp
theorem d_popNone {pins : List (Addr × Obj)} {σ : St} {H : Hp} {s : Shared} {a : Addr} {kvs : List (Key × V)} {A : Around} {E : Value → Shared → Prop} {r : Value} {Q : Value → Shared → Prop}
    (I : Inv X pins σ H s) (e : H a = some (.dK kvs)) (h : ∀ s', Inv X pins σ H s' → Q r s') :
    wpAny (model X.prog X.w) A (call (.builtin "dict.pop") [.ref a, .none, r]) Q E s := by
  obtain ⟨_, lo, vs, _, dd⟩ := dk_of I.hok e
  have d2 := nk_dict dd
  exact call_meetsIn PySem.F.slot_dict_pop dd.typeIs PySem.F.entry_dict_pop (PySem.F.args_dict_pop_3 _ _ _)
    (meets_dict_pop_default (noneKind X.prog X.w) a (k := none) (key := .none) rfl lo rfl r) ⟨_, d2, nk_at, h _ (I.tok _)⟩
/-- d.pop(k, x): there, not there, or k is None -/
def tDPopN (td ty tx : TE) : TE := fun σ H Q => td σ H fun x H1 => ∃ a, x = .ref a ∧ IsD H1 a ∧ ty σ H1 fun y H2 => tx σ H2 fun z H3 => ∃ kvs, H3 a = some (.dK kvs) ∧
  ((∃ k, y = kV k ∧ (∀ v, valV kvs k = some v → Q v (upd H3 a (.dK (dropK kvs k)))) ∧ (valV kvs k = none → Q z H3)) ∨ (y = .non ∧ Q z H3))
variable {o e f : Expr} {apos cpos : Pos} {td ty tx : TE}
theorem pe_dpopN (ho : PE X o td) (he : PE X e ty) (hf : PE X f tx) (m : M2 X o "pop" apos e f cpos) :
    PE X (.Call (.Attribute o "pop" apos) [e, f] [] cpos) (tDPopN td ty tx) := by
  refine ⟨fun pins s σ H Q I h => wpAny_Call_method m.base m.few m.line PySem.F.plainAttrs_dict PySem.F.slot_dict_pop PySem.F.type_dict_pop ?_⟩
  refine thn (ho.run pins s σ H _ I h) fun u s1 ⟨x, H1, I1, rx, a, ex, d, q1⟩ => ?_
  subst ex
  obtain rfl : u = Value.ref a := rx
  obtain ⟨t1, t2, _⟩ := isD_at I1 d
  refine ⟨t1, t2, ?_⟩
  rw [m.trees]
  refine Calls.callWith_builtin rfl (Calls.evalArgs_plain (Calls.spliced_cons ?_))
  refine thn (he.run pins s1 σ H1 _ I1 q1) fun iv s2 ⟨y, H2, I2, ry, q2⟩ => Calls.spliced_cons ?_
  refine thn (hf.run pins s2 σ H2 _ I2 q2) fun fv s3 ⟨z, H3, I3, rz, kvs, ea, q3⟩ => Calls.spliced_nil ?_
  rcases q3 with ⟨k, ey, p1, p2⟩ | ⟨ey, p⟩
  · subst ey
    cases l : valV kvs k with
    | some v => exact d_pop I3 ea ry l (.inr ⟨fv, rfl⟩) fun w2 s4 I4 rw2 => ⟨v, _, I4, rw2, p1 v l⟩
    | none => exact d_popD I3 ea ry l fun s4 I4 => ⟨z, H3, I4, rz, p2 l⟩
  · subst ey
    obtain rfl : iv = Value.none := ry
    exact d_popNone I3 ea fun s4 I4 => ⟨z, H3, I4, rz, p⟩

/-! ### d.setdefault(t, x), t a tuple -/
theorem d_setdT {pins : List (Addr × Obj)} {σ : St} {H : Hp} {s : Shared} {a b : Addr} {kvs : List (List Key × V)} {k : List Key} {d : V} {A : Around} {E : Value → Shared → Prop} {r : Value} {Q : Value → Shared → Prop}
    (hu : A.units + 1 < cLine) (I : Inv X pins σ H s) (e : H a = some (.dT kvs)) (eb : H b = some (.tup (k.map kV))) (rd : RelV d r) (hl : kvs.length < sizeLine)
    (h1 : ∀ v, valV kvs k = some v → ∀ w' s', Inv X pins σ H s' → RelV v w' → Q w' s')
    (h2 : valV kvs k = none → ∀ s', Inv X pins σ (upd H a (.dT (putK kvs k d))) s' → Q r s') :
    wpAny (model X.prog X.w) A (call (.builtin "dict.setdefault") [.ref a, .ref b, r]) Q E s := by
  obtain ⟨_, lo, xs, rel, dd⟩ := dt_of I.hok e
  have hz : xs.length ≤ sizeLine := by
    rw [← Paired.length rel]
    omega
  refine call_setdefault_heap (hsz := hz) (tupleKind_room_in1 hu) (key_of I.hok eb) lo dd (fun p hp => ?_) fun hn h' dd' hs => ?_
  · have q := rel.val k
    rw [hp] at q
    cases c : valV kvs k with
    | none =>
      rw [c] at q
      exact (show False from q).elim
    | some v =>
      rw [c] at q
      exact h1 v c _ _ (I.tok _) q
  · have q := rel.val k
    rw [hn] at q
    cases c : valV kvs k with
    | some v =>
      rw [c] at q
      exact (show False from q).elim
    | none =>
      have hl2 : (putK kvs k d).length ≤ sizeLine := by
        have := length_putK kvs k d
        omega
      obtain ⟨ob, es, ep, g1, g2, g3, g4, _, g5⟩ := dd'
      refine h2 c _ (d_write I (by rw [e]; exact True.intro) hs ⟨ob, g1⟩ ⟨hl2, lo, _, (rel.put k eb rd).keeps fun c2 ys ec => ?_, ob, es, ep, g1, g2, g3, g4, g5⟩)
      rw [upd_ne (ne_of ec e (fun z => nomatch z))]
      exact ec
def tDSetdT (td ty tx : TE) : TE := fun σ H Q => td σ H fun x H1 => ∃ a, x = .ref a ∧ IsD H1 a ∧ ty σ H1 fun y H2 => tx σ H2 fun z H3 => ∃ kvs k b, H3 a = some (.dT kvs) ∧ y = .ref b ∧ H3 b = some (.tup (k.map kV)) ∧ kvs.length < sizeLine ∧
  (∀ v, valV kvs k = some v → Q v H3) ∧ (valV kvs k = none → Q z (upd H3 a (.dT (putK kvs k z))))
theorem pe_dsetdT (hu : X.A.units + 1 < cLine) (ho : PE X o td) (he : PE X e ty) (hf : PE X f tx) (m : M2 X o "setdefault" apos e f cpos) :
    PE X (.Call (.Attribute o "setdefault" apos) [e, f] [] cpos) (tDSetdT td ty tx) := by
  refine ⟨fun pins s σ H Q I h => wpAny_Call_method m.base m.few m.line PySem.F.plainAttrs_dict PySem.F.slot_dict_setdefault PySem.F.type_dict_setdefault ?_⟩
  refine thn (ho.run pins s σ H _ I h) fun u s1 ⟨x, H1, I1, rx, a, ex, d, q1⟩ => ?_
  subst ex
  obtain rfl : u = Value.ref a := rx
  obtain ⟨t1, t2, _⟩ := isD_at I1 d
  refine ⟨t1, t2, ?_⟩
  rw [m.trees]
  refine Calls.callWith_builtin rfl (Calls.evalArgs_plain (Calls.spliced_cons ?_))
  refine thn (he.run pins s1 σ H1 _ I1 q1) fun iv s2 ⟨y, H2, I2, ry, q2⟩ => Calls.spliced_cons ?_
  refine thn (hf.run pins s2 σ H2 _ I2 q2) fun fv s3 ⟨z, H3, I3, rz, kvs, k, b, ea, ey, eb, hl, p1, p2⟩ => Calls.spliced_nil ?_
  subst ey
  obtain rfl : iv = Value.ref b := ry
  exact d_setdT hu I3 ea eb rz hl (fun v hv w2 s4 I4 rw2 => ⟨v, H3, I4, rw2, p1 v hv⟩) fun hn s4 I4 => ⟨z, _, I4, rz, p2 hn⟩
end
end Kn

set_option Elab.async false
set_option linter.all false
set_option maxRecDepth 100000
set_option maxHeartbeats 4000000
/-! Rules, second part: tuple(list) with its object known, dict(tuple of pairs), list(d.values()), d.items() of tuple keys. -/
namespace Kn
open PySem PySem.Spec PyProof.Rows L2
/-- the tuple at a, its object known to have no dict of its own -/
def FrTup (H : Hp) (a : Addr) (xs : List V) : Prop := ∃ o : Obj, H a = some (.frz o (.tup xs)) ∧ o.dict = none
theorem FrTup.sq {K : PySem.W.Frag} {H : Hp} {a : Addr} {xs : List V} (f : FrTup H a xs) : SqT K H a xs := let ⟨o, e, _⟩ := f; .inl (.inr ⟨o, e⟩)
theorem FrTup.mono {H H' : Hp} {a : Addr} {xs : List V} (f : FrTup H a xs) (s : Same H H') : FrTup H' a xs := let ⟨o, e, d⟩ := f; ⟨o, s _ _ e, d⟩
section
variable {X : Cx}
theorem call_tupleF : CallR X (.type "tuple") (fun xs H Q => ∃ p ys, xs = [.ref p] ∧ SqL X.K H p ys ∧ ∀ l H', H l = none → (∀ b, b ≠ l → H' b = H b) → FrTup H' l ys → Q (.ref l) H') := by
  intro pins s σ H xs us Q I r h
  obtain ⟨p, ys, rfl, hq, q⟩ := h
  obtain ⟨u, rfl, rx⟩ := vals1 r
  cases rx
  obtain ⟨its, r2, pl, hz⟩ := I.list hq
  have hlen := r2.length
  refine call_tuple_list pl.isList (fun h' kp => ?_) (by simp only [List.size_toArray] <;> omega)
  have I1 : Inv X pins σ H { s with heap := h' } := I.kept (t' := s.toks) kp
  have fr := I1.hok.fresh (Nat.le_refl _)
  have new : ObjOk X.prog X.w (upd H h'.objs.size (.frz { cls := .type "tuple", data := .seq its.toArray } (.tup ys))) (h'.push { cls := .type "tuple", data := .seq its.toArray }) h'.objs.size
      (.frz { cls := .type "tuple", data := .seq its.toArray } (.tup ys)) := ⟨Heap.get?_push_size _ rfl, hz, its, r2, IsTup.new _ _⟩
  have I2 : Inv X pins σ (upd H h'.objs.size (.frz { cls := .type "tuple", data := .seq its.toArray } (.tup ys))) { s with heap := h'.push { cls := .type "tuple", data := .seq its.toArray } } :=
    I1.laid (t' := s.toks) (fun b o e => Heap.get?_push_of_some _ e) (Nat.le_refl _) new
  exact ⟨.ref h'.objs.size, _, I2, rfl, q _ _ fr (fun b hb => upd_ne hb) ⟨_, upd_same, rfl⟩⟩

/-- dict(t) of a tuple of pairs (key, value) -/
theorem cr_dictPT (hcalm : X.calm = true) : CallR X (.type "dict") (fun xs H Q => ∃ (a : Addr) (ps : List Addr) (kvs : List (Key × V)), xs = [.ref a] ∧ FrTup H a (ps.map V.ref) ∧ Paired (fun p kv => SqT X.K H p [kV kv.1, kv.2]) ps kvs ∧
    ∀ p, H p = none → Q (.ref p) (upd H p (.dK (mergeK [] kvs)))) := by
  intro pins s σ H xs us Q I r q
  obtain ⟨a, ps, kvs, rfl, ⟨o, ha, hdi⟩, hp, q⟩ := q
  obtain ⟨u, rfl, rx⟩ := vals1 r
  cases rx
  obtain ⟨ho, hz, its, rv, o2, ho2, hc, n, hdat⟩ := I.hok a _ ha
  rw [ho] at ho2
  cases ho2
  have ei := refs_at rv
  subst ei
  rw [List.length_map] at hz
  obtain ⟨prs, rel, hl, hpr⟩ := pairs_of I hp
  -- the pairs as values
  obtain ⟨vv, hvl, hvv⟩ : ∃ vv : List (Value × Value), vv.length = ps.length ∧ ∀ (j : Nat) (k v : Value), vv[j]? = some (k, v) → ∃ b q, ps[j]? = some b ∧ prs[j]? = some q ∧ v = q.2 ∧ keyIs q.1 k = true ∧ IsTup s.heap b #[k, v] := by
    have all : ∀ (ps : List Addr) (prs : List (Key × Value)), prs.length = ps.length → (∀ (j : Nat) (q : Key × Value), prs[j]? = some q → ∃ (b : Addr) (u : Value), ps[j]? = some b ∧ IsTup s.heap b #[u, q.2] ∧ keyIs q.1 u = true) →
        ∃ vv : List (Value × Value), vv.length = ps.length ∧ ∀ (j : Nat) (k v : Value), vv[j]? = some (k, v) → ∃ b q, ps[j]? = some b ∧ prs[j]? = some q ∧ v = q.2 ∧ keyIs q.1 k = true ∧ IsTup s.heap b #[k, v] := by
      intro ps
      induction ps with
      | nil => intro prs h1 h2; exact ⟨[], rfl, fun j k v e => by simp at e⟩
      | cons p ps ih =>
        intro prs h1 h2
        cases prs with
        | nil => simp at h1
        | cons q prs =>
          obtain ⟨vv, l1, l2⟩ := ih prs (by simpa using h1) fun j q' e => by
            obtain ⟨b, u, e1, e2, e3⟩ := h2 (j + 1) q' (by simpa using e)
            exact ⟨b, u, by simpa using e1, e2, e3⟩
          obtain ⟨b, u, e1, e2, e3⟩ := h2 0 q rfl
          refine ⟨(u, q.2) :: vv, by simp [l1], fun j k v e => ?_⟩
          cases j with
          | zero =>
            have e' : (u, q.2) = (k, v) := Option.some.inj e
            cases e'
            exact ⟨b, q, e1, rfl, rfl, e3, e2⟩
          | succ j =>
            obtain ⟨b', q', f1, f2, f3⟩ := l2 j k v (by simpa using e)
            exact ⟨b', q', by simpa using f1, by simpa using f2, f3⟩
    exact all ps prs hl hpr
  have P := PairArg.tuple (prog := X.prog) (w := X.w) a (ps.map Value.ref).toArray (fun j => ps.getD j 0) vv
  have ok : PlainSeq "tuple" s.heap a (ps.map Value.ref).toArray ∧ PairItems s.heap (ps.map Value.ref).toArray (fun j => ps.getD j 0) vv := by
    refine ⟨⟨o, n, ho, hc, hdi, hdat⟩, by simp [hvl], fun j k v e => ?_⟩
    obtain ⟨b, q', e1, _, _, _, e4⟩ := hvv j k v e
    have eb : ps.getD j 0 = b := by simp [e1]
    refine ⟨by simp [e1], ?_⟩
    show PairAt s.heap (ps.getD j 0) k v
    rw [eb]
    exact .inl e4
  refine PySem.call_dict_pairs (knd := mixKind X.prog X.w) (kvs := prs) P (I.ok.hd hcalm) ok ⟨by rw [hl, hvl], fun i key v e => ?_⟩ (by rw [hvl]; exact hz) fun h' tk hd' hk => ?_
  · obtain ⟨b, q', _, e2, e3, e4, _⟩ := hvv i key v e
    exact ⟨q'.1, by rw [e2, e3], e4⟩
  · have hm : (s.heap.objs.size == sysModules) = false := beq_eq_false_iff_ne.mpr (Nat.ne_of_gt I.big)
    have hlen : (mergeK [] kvs).length ≤ sizeLine := by
      have h1 := length_mergeK kvs []
      have h2 := rel.length
      rw [List.length_nil] at h1
      omega
    exact ⟨.ref s.heap.objs.size, upd H s.heap.objs.size (.dK (mergeK [] kvs)), I.laid (t' := tk) (fun b o e => hk b o (by simp) e) (Nat.le_refl _)
      (show ObjOk X.prog X.w _ _ _ (.dK (mergeK [] kvs)) from ⟨hlen, hm, merged [] prs, KV.merge rel .nil, hd'⟩), rfl, q _ (I.hok.fresh (Nat.le_refl _))⟩

/-- a dict with tuple keys as raw entries -/
theorem dT_raw {P : Program} {w : World} {H : Hp} {h : Heap} {a : Addr} {kvs : List (List Key × V)} (x : ObjOk P w H h a (.dT kvs)) :
    (a == sysModules) = false ∧ kvs.length ≤ sizeLine ∧ ∃ es ep, h.DictRaw a es ep ∧ es.size = kvs.length ∧
      ∀ (i : Nat) (hi : i < es.size) (k : List Key) (v : V), kvs[i]? = some (k, v) → ∃ q, es[i].key = .ref q ∧ H q = some (.tup (k.map kV)) ∧ RelV v es[i].val := by
  obtain ⟨z, lo, xs, pr, o, es, ep, ho, hx, hdt, he, _⟩ := x
  have l1 : es.size = xs.length := size_of_entries he
  have l2 : kvs.length = xs.length := Paired.length pr
  refine ⟨lo, z, es, ep, ⟨o, ho, hx, hdt⟩, by omega, fun i hi k v e => ?_⟩
  obtain ⟨b, hb, e1, e2, e3⟩ := L2.paired_get pr e
  have q := entry_at he i
  rw [hb, Array.getElem?_eq_getElem hi] at q
  have q' : es[i] = entryOfKey (tupleKind (mixKind P w)) b := Option.some.inj q
  exact ⟨b.2.1, by rw [q']; rfl, e2, by rw [q']; exact e3⟩
def tListValsT (te : TE) : TE := fun σ H Q => te σ H fun x H1 => ∃ d kvs, x = .ref d ∧ H1 d = some (.dT kvs) ∧ ∀ p, H1 p = none → Q (.ref p) (upd H1 p (.lst (kvs.map (·.2))))
theorem vals_ix : ∀ {xs : List V} {us : List Value}, us.length = xs.length → (∀ (j : Nat) (x : V) (u : Value), xs[j]? = some x → us[j]? = some u → RelV x u) → Vals xs us
  | [], [], _, _ => .nil
  | [], _ :: _, h, _ => by simp at h
  | _ :: _, [], h, _ => by simp at h
  | x :: xs, u :: us, h, f => .cons (f 0 x u rfl rfl) (vals_ix (by simpa using h) fun j y w e1 e2 => f (j + 1) y w (by simpa using e1) (by simpa using e2))
variable {e : Expr} {te : TE} {p apos cpos pos : Pos}
theorem pe_listValsT (hc : X.calm = true) (he : PE X e te) (hg : Gl X "list") (hm : X.mg "list" = none) (hv : bootBuiltins "list" = some (.type "list"))
    (hbase : attributeBase e "values" X.env (eval e X.env) = eval e X.env := by rfl) (hline : (apos.endLine == cpos.line) = true := by rfl)
    (hs : starEach [.Call (.Attribute e "values" apos) [] [] cpos] X.env = (false, eval (.Call (.Attribute e "values" apos) [] [] cpos) X.env) :: starEach [] X.env := by rfl) :
    PE X (.Call (.Name "list" p) [.Call (.Attribute e "values" apos) [] [] cpos] [] pos) (tListValsT te) := by
  refine ⟨fun pins s σ H Q I hq => wpAny_Call_Name_kw (ld_blt I hg hm hv (PyProof.Rows.callWith_type1 ?_ hs rfl))⟩
  rw [hs]
  show wpAny _ _ (spliced ((false, eval (.Call (.Attribute e "values" apos) [] [] cpos) X.env) :: backTo pos (starEach [] X.env))) _ _ s
  refine Calls.spliced_cons (wpAny_Call_method (T := "dict") (id := "dict.values") hbase rfl hline PySem.F.plainAttrs_dict PySem.F.slot_dict_values PySem.F.type_dict_values ?_)
  refine thn (he.run pins s σ H _ I hq) fun u s1 ⟨x, H1, I1, rx, d, kvs, ex, hd, q⟩ => ?_
  subst ex
  obtain rfl : u = Value.ref d := rx
  obtain ⟨lo, hz, es, ep, raw, hsz, ent⟩ := dT_raw (I1.hok d _ hd)
  have hnd : ∀ b, Value.ref d = .ref b → ∃ ob, s1.heap.get? b = some ob ∧ ob.dict = none := fun b eb => by
    cases eb
    obtain ⟨ob, g1, g2, _⟩ := raw
    exact ⟨ob, g1, g2.2.1⟩
  refine ⟨raw.typeIs, hnd, ?_⟩
  show wpAny _ _ (callWith cpos (.builtin "dict.values") [.ref d] [] []) _ X.xe s1
  refine method_meetsIn PySem.F.slot_dict_values PySem.F.entry_dict_values rfl (PySem.evalArgs_none ⟨rfl, raw.typeIs, PySem.F.args_dict_values_1 _, _, meets_dict_values_raw d lo, ⟨es, ep, raw⟩, Calls.spliced_nil ?_⟩)
  have I2 : Inv X pins σ H1 { s1 with heap := s1.heap.push { cls := .type "dict_values", data := .fields #[.ref d] } } := I1.kept (t' := s1.toks) fun b ob q => Heap.get?_push_of_some _ q
  have hview : (s1.heap.push { cls := .type "dict_values", data := .fields #[.ref d] }).IsValuesView s1.heap.objs.size d := ⟨_, Heap.get?_push_size _ rfl, rfl, rfl⟩
  have hraw2 : (s1.heap.push { cls := .type "dict_values", data := .fields #[.ref d] }).DictRaw d es ep := raw.at fun o e => Heap.get?_push_of_some _ e
  refine PySem.W.kdl_call (KdlSrc.rawValues (prog := X.prog) (w := X.w)) (I1.ok.hd hc) ⟨hview, hraw2⟩ (by omega) fun h' tk acc c' hk hD hacc => ?_
  have hvs : Vals (kvs.map (·.2)) acc.toList := by
    refine vals_ix (by rw [Array.length_toList, hacc.1, List.length_map, hsz]) fun j y u e1 e2 => ?_
    rw [List.getElem?_map] at e1
    cases ek : kvs[j]? with
    | none => rw [ek] at e1; cases e1
    | some kv =>
      rw [ek] at e1
      cases e1
      obtain ⟨hi, eu⟩ := hacc.2 j u (by rw [← Array.getElem?_toList]; exact e2)
      obtain ⟨_, _, _, rel⟩ := ent j hi kv.1 kv.2 ek
      rw [eu]
      exact rel
  refine ⟨.ref _, _, I2.laid (t' := tk) (o := .lst (kvs.map (·.2))) hk (Nat.le_refl _) ⟨by rw [List.length_map]; exact hz, acc.toList, c', hvs, by rw [Array.toArray_toList]; exact hD⟩, rfl, q _ (I2.hok.fresh (Nat.le_refl _))⟩

/-! ### for t, v in d.items(), d's keys tuples -/
def ItiT (d : Addr) (o : Obj) (kvs : List (List Key × V)) : It :=
  ⟨fun i H => H d = some (.frz o (.dT kvs)) ∧ i < kvs.length,
   fun i H x H' => ∃ T k v q, kvs[i]? = some (k, v) ∧ x = .ref T ∧ H T = none ∧ H q = some (.tup (k.map kV)) ∧ H' = upd H T (.tup [.ref q, v]),
   fun i H => H d = some (.frz o (.dT kvs)) ∧ kvs.length ≤ i⟩
theorem frz_raw {pins : List (Addr × Obj)} {σ : St} {H : Hp} {s : Shared} {d : Addr} {o : Obj} {kvs : List (List Key × V)} (I : Inv X pins σ H s) (h : H d = some (.frz o (.dT kvs))) :
    s.heap.get? d = some o ∧ ObjOk X.prog X.w H s.heap d (.dT kvs) := I.hok d _ h
theorem raw_of {P : Program} {w : World} {H : Hp} {h : Heap} {d : Addr} {o : Obj} {kvs : List (List Key × V)} {es : Array DictEntry} {ep : Nat} (hod : o.data = .dict es ep) (g : h.get? d = some o) (x : ObjOk P w H h d (.dT kvs)) :
    (d == sysModules) = false ∧ h.DictRaw d es ep ∧ es.size = kvs.length ∧
      ∀ (i : Nat) (hi : i < es.size) (k : List Key) (v : V), kvs[i]? = some (k, v) → ∃ q, es[i].key = .ref q ∧ H q = some (.tup (k.map kV)) ∧ RelV v es[i].val := by
  obtain ⟨lo, _, es2, ep2, raw, hsz, ent⟩ := dT_raw x
  obtain ⟨o2, g1, g2, g3⟩ := id raw
  rw [g] at g1
  cases g1
  rw [hod] at g3
  cases g3
  exact ⟨lo, raw, hsz, ent⟩
theorem turn_itemsT {P : Program} {w : World} {K : PySem.W.Frag} {d : Addr} {o : Obj} {es : Array DictEntry} {ep : Nat} {kvs : List (List Key × V)} {elts : List Expr} {kk : Nat} {tpos : Pos} (it : Addr) (hod : o.data = .dict es ep) :
    Turn P w K (.Tuple elts kk tpos) (ItiT d o kvs) [it] it (fun i h => ∃ ok ov, IsItemIter h it d i es.size ep ok ov) where
  mem := List.mem_singleton.mpr rfl
  obj := fun i h st b hb => by
    obtain ⟨ok, ov, e⟩ := st
    rw [List.mem_singleton.mp hb]
    exact ⟨_, e, fun v z => nomatch z⟩
  keep := fun i h h' st k => let ⟨ok, ov, e⟩ := st; ⟨ok, ov, k it (List.mem_singleton.mpr rfl) _ e⟩
  item := by
    intro X hP hw hK hc i pins s σ H E I hf st hg
    subst hP hw hK
    obtain ⟨hd, hi⟩ := hg
    obtain ⟨g, x⟩ := frz_raw I hd
    obtain ⟨lo, raw, hsz, ent⟩ := raw_of hod g x
    obtain ⟨⟨k, v⟩, hkv⟩ : ∃ p, kvs[i]? = some p := ⟨kvs[i], List.getElem?_eq_getElem hi⟩
    have hi2 : i < es.size := by omega
    obtain ⟨q, hkey, hq, rel⟩ := ent i hi2 k v hkv
    obtain ⟨ok, ov, he⟩ := st
    have hlt : it < s.heap.objs.size := Heap.lt_size he
    refine wpAny_pyNext_items_item_raw he raw hi2 fun h' ho hT hz hk => ?_
    refine ⟨_, rfl, wpAny_letOwnedTupleGo_items (s := { s with heap := h' }) ho fun h'' he' sb => ?_⟩
    have hT2 : h''.get? s.heap.objs.size = some { cls := .type "tuple", data := .seq #[es[i].key, es[i].val] } := (sb.2 _ (Nat.ne_of_gt hlt)).trans hT
    have new : ObjOk X.prog X.w (upd H s.heap.objs.size (.tup [.ref q, v])) h'' s.heap.objs.size (.tup [.ref q, v]) :=
      ⟨by show 2 ≤ sizeLine; decide, [es[i].key, es[i].val], .cons hkey (.cons rel .nil), ⟨_, hT2, rfl, _, rfl⟩⟩
    have I1 : Inv X pins σ (upd H s.heap.objs.size (.tup [.ref q, v])) { s with heap := h'' } :=
      I.turnedNew (t' := s.toks) (ch := [it]) (fun b ob hb e => (sb.2 b (fun z => hb (List.mem_singleton.mpr z))).trans (hk b ob (fun z => hb (List.mem_singleton.mpr z)) e)) hf (Nat.le_refl _) new
    refine ⟨.ref s.heap.objs.size, _, I1, rfl, ⟨_, k, v, q, hkv, rfl, I.hok.fresh (Nat.le_refl _), hq, rfl⟩, ⟨_, _, he'⟩, fun b hb => ?_⟩
    rw [List.mem_singleton.mp hb, upd_ne (Nat.ne_of_lt hlt)]
    exact (hf it (List.mem_singleton.mpr rfl)).1
  done := by
    intro X hP hw hK hc i pins s σ H E I hf st hg
    subst hP hw hK
    obtain ⟨hd, hi⟩ := hg
    obtain ⟨f0, f1, f2, f3, f4, f5⟩ := hf it (List.mem_singleton.mpr rfl)
    obtain ⟨g, x⟩ := frz_raw I hd
    obtain ⟨lo, raw, hsz, ent⟩ := raw_of hod g x
    obtain ⟨ok, ov, he⟩ := st
    exact wpAny_pyNext_items_end_raw (I.ok.hd hc) he raw (by omega) fun h' eb => ⟨rfl, I.turned (t' := s.toks) (fun b ob hb e => eb b ob hb e) f0 f1 f3 f4 f5⟩
  self := fun A i s Q E st h => let ⟨_, _, e⟩ := st; PySem.W.kcp_self e h
def iItemsT (td : TE) : TI := fun σ H R => td σ H fun x H1 => ∃ d o kvs, x = .ref d ∧ H1 d = some (.frz o (.dT kvs)) ∧ R (ItiT d o kvs) H1
theorem pi_itemsT {td : TE} {elts : List Expr} {kk : Nat} {tpos : Pos} (he : PE X e td) (hbase : attributeBase e "items" X.env (eval e X.env) = eval e X.env := by rfl) (hline : (apos.endLine == cpos.line) = true := by rfl) :
    PI X (.Tuple elts kk tpos) (.Call (.Attribute e "items" apos) [] [] cpos) (iItemsT td) := by
  refine ⟨fun pins s σ H R I h => wpAny_Call_method (T := "dict") (id := "dict.items") hbase rfl hline PySem.F.plainAttrs_dict PySem.F.slot_dict_items PySem.F.type_dict_items ?_⟩
  refine thn (he.run pins s σ H _ I h) fun u s1 ⟨x, H1, I1, rx, d, o, kvs, ex, hd, q⟩ => ?_
  subst ex
  obtain rfl : u = Value.ref d := rx
  obtain ⟨g, ob⟩ := frz_raw I1 hd
  obtain ⟨lo, hz, es, ep, raw, hsz, ent⟩ := dT_raw ob
  obtain ⟨o2, g1, g2, g3⟩ := id raw
  have eo : o2 = o := Option.some.inj (g1.symm.trans g)
  subst eo
  have hnd : ∀ b, Value.ref d = .ref b → ∃ ob, s1.heap.get? b = some ob ∧ ob.dict = none := fun b eb => by
    cases eb
    exact ⟨o2, g1, g2.2.1⟩
  refine ⟨raw.typeIs, hnd, ?_⟩
  have I2 : Inv X pins σ H1 { s1 with heap := s1.heap.push { cls := .type "dict_items", data := .fields #[.ref d] } } := I1.kept (t' := s1.toks) fun b ob q => Heap.get?_push_of_some _ q
  show wpAny _ _ (callWith cpos (.builtin "dict.items") [.ref d] [] []) _ X.xe s1
  refine method_meetsIn PySem.F.slot_dict_items PySem.F.entry_dict_items rfl (PySem.evalArgs_none ⟨rfl, raw.typeIs, PySem.F.args_dict_items_1 _, _, meets_dict_items_raw d lo, ⟨es, ep, raw⟩, ?_⟩)
  exact wpAny_pyIter_items_raw (d := d) ⟨_, Heap.get?_push_size _ rfl, rfl, rfl⟩ (raw.at fun o e => Heap.get?_push_of_some _ e) (pi_one (tk := s1.toks) I2 _ (turn_itemsT _ g3) ⟨.none, .none, Heap.get?_push_size _ rfl⟩ q)
end
end Kn

set_option Elab.async false
set_option linter.all false
set_option maxRecDepth 100000
set_option maxHeartbeats 4000000
/-! Rules, third part: dict comprehensions into any of the two kinds of dicts, with one clause or two. -/
namespace Kn
open PySem PySem.Spec PyProof.Rows L2
/-! ### the turns of two clauses -/
section
variable (kx vx tA iA tB iB : Expr) (fA fB : List Expr) (sc : Scope) (ps : Pos)
abbrev dc2 : Expr := .DictComp kx vx [⟨tA, iA, fA, 0⟩, ⟨tB, iB, fB, 0⟩] sc ps
theorem turnA_eq (it acc : Value) (env : Env) : compTurn (dc2 kx vx tA iA tB iB fA fB sc ps) 0 it acc env = (do
    standAt iA.pos
    match ← pyNext it with
    | none => pure (.done .next)
    | some u =>
      letOwnedTupleGo tA it u
      assign tA env u
      let mut go := true
      for c in fA do
        if go then go ← isTrue c env (eval c env)
      if go then
        let y ← eval iB env
        standAt iB.pos
        let y ← foldedSetIterable iB env y
        let _ ← runOwn (.compStart (dc2 kx vx tA iA tB iB fA fB sc ps) 1 (← holding [y] (pyIter y)) acc env) env
      again (.compLoop (dc2 kx vx tA iA tB iB fA fB sc ps) 0 it acc env)) := rfl
theorem turnB_eq (it : Value) (D : Addr) (env : Env) : compTurn (dc2 kx vx tA iA tB iB fA fB sc ps) 1 it (.ref D) env = (do
    standAt iB.pos
    match ← pyNext it with
    | none => pure (.done .next)
    | some u =>
      letOwnedTupleGo tB it u
      assign tB env u
      let mut go := true
      for c in fB do
        if go then go ← isTrue c env (eval c env)
      if go then
        (do
          let kv ← eval kx env
          let vv ← holding [kv] (eval vx env)
          standAt { kx.pos with endLine := vx.pos.endLine, endCol := vx.pos.endCol }
          holding [kv, vv] (dictSet D kv vv))
      again (.compLoop (dc2 kx vx tA iA tB iB fA fB sc ps) 1 it (.ref D) env)) := rfl
end
/-- the tests of a clause, as the turn runs them -/
abbrev testsRun (ifs : List Expr) (env : Env) : Sem Bool := forIn ifs true fun c r => if r = true then do let ok ← isTrue c env (eval c env); pure (ForInStep.yield ok) else pure (ForInStep.yield r)
section
variable {prog : Program} {w : World} {A : Around} {R : Result → Shared → Prop} {s : Shared} {kx vx tA iA tB iB : Expr} {fA fB : List Expr} {sc : Scope} {ps : Pos} {it : Value} {D : Addr} {env : Env}
theorem loopA_ok (hs : ∀ x, foldedSetIterable iB env x = pure x) (I : Nat → Shared → Prop)
    (turn : ∀ n s, I n s → wpAny (model prog w) A (pyNext it) (fun r s₁ => match r with
      | none => R (.ok .next) s₁
      | some u => wpAny (model prog w) A (letOwnedTupleGo tA it u) (fun _ s₂ => wpAny (model prog w) A (assign tA env u) (fun _ s₃ => wpAny (model prog w) A (testsRun fA env) (fun ok s₄ =>
          if ok = true then wpAny (model prog w) A (eval iB env) (fun x s₅ => wpAny (model prog w) A (pyIter x) (fun j s₆ =>
              codeAny (model prog w) A (.compStart (dc2 kx vx tA iA tB iB fA fB sc ps) 1 j (.ref D) env) (fun r s' => (∃ f, r = .ok f) ∧ ∃ m, m < n ∧ I m s') s₆) (fun _ _ => False) s₅) (fun _ _ => False) s₄
          else ∃ m, m < n ∧ I m s₄) (fun _ _ => False) s₃) (fun _ _ => False) s₂) (fun _ _ => False) s₁) (fun _ _ => False) s)
    (n : Nat) (h : I n s) : codeAny (model prog w) A (.compLoop (dc2 kx vx tA iA tB iB fA fB sc ps) 0 it (.ref D) env) R s := by
  have no : ∀ {α : Type} {t : Sem α} {Q : α → Shared → Prop} {E : Value → Shared → Prop} {s : Shared}, wpAny (model prog w) A t Q (fun _ _ => False) s → wpAny (model prog w) A t Q E s := fun h => wpAny_mono h (fun _ _ q => q) fun _ _ z => z.elim
  refine codeAny_loop rfl I (fun n s hI => ?_) n h
  show wpAny _ A ((compTurn (dc2 kx vx tA iA tB iB fA fB sc ps) 0 it (.ref D) env).onRaise (fun x => do noteFrame x env; theTreesLotGoes x)) _ _ s
  refine wpAny_noted ?_
  rw [turnA_eq]
  refine wpAny_bind (wpAny_standAt (wpAny_bind (no (thn (turn n s hI) fun r s1 h1 => ?_))))
  cases r with
  | none => exact wpAny_pure h1
  | some u =>
    refine wpAny_bind (no (thn h1 fun _ s2 h2 => wpAny_bind (no (thn h2 fun _ s3 h3 => wpAny_bind (no (thn h3 fun ok s4 h4 => ?_))))))
    cases ok with
    | false => exact wpAny_pure ⟨rfl, h4⟩
    | true =>
      refine wpAny_bind (no (thn h4 fun x s5 h5 => wpAny_bind (wpAny_standAt (wpAny_bind (wpAny_of_eq (hs x) (wpAny_bind (wpAny_holding (no (thn h5 fun j s6 h6 => ?_)))))))))
      refine wpAny_bind (wpAny_runOwn ?_)
      rw [Around.mark_none]
      refine codeAny_mono h6 fun r s' hr => ?_
      obtain ⟨⟨f, rfl⟩, hI2⟩ := hr
      first
        | exact wpAny_pure ⟨rfl, hI2⟩
        | exact wpAny_bind (wpAny_pure (wpAny_pure ⟨rfl, hI2⟩))
theorem loopB_ok (I : Nat → Shared → Prop)
    (turn : ∀ n s, I n s → wpAny (model prog w) A (pyNext it) (fun r s₁ => match r with
      | none => R (.ok .next) s₁
      | some u => wpAny (model prog w) A (letOwnedTupleGo tB it u) (fun _ s₂ => wpAny (model prog w) A (assign tB env u) (fun _ s₃ => wpAny (model prog w) A (testsRun fB env) (fun ok s₄ =>
          if ok = true then wpAny (model prog w) A (eval kx env) (fun kv s₅ => wpAny (model prog w) A (eval vx env) (fun vv s₆ =>
              wpAny (model prog w) A (dictSet D kv vv) (fun _ s' => ∃ m, m < n ∧ I m s') (fun _ _ => False) s₆) (fun _ _ => False) s₅) (fun _ _ => False) s₄
          else ∃ m, m < n ∧ I m s₄) (fun _ _ => False) s₃) (fun _ _ => False) s₂) (fun _ _ => False) s₁) (fun _ _ => False) s)
    (n : Nat) (h : I n s) : codeAny (model prog w) A (.compLoop (dc2 kx vx tA iA tB iB fA fB sc ps) 1 it (.ref D) env) R s := by
  have no : ∀ {α : Type} {t : Sem α} {Q : α → Shared → Prop} {E : Value → Shared → Prop} {s : Shared}, wpAny (model prog w) A t Q (fun _ _ => False) s → wpAny (model prog w) A t Q E s := fun h => wpAny_mono h (fun _ _ q => q) fun _ _ z => z.elim
  refine codeAny_loop rfl I (fun n s hI => ?_) n h
  show wpAny _ A ((compTurn (dc2 kx vx tA iA tB iB fA fB sc ps) 1 it (.ref D) env).onRaise (fun x => do noteFrame x env; theTreesLotGoes x)) _ _ s
  refine wpAny_noted ?_
  rw [turnB_eq]
  refine wpAny_bind (wpAny_standAt (wpAny_bind (no (thn (turn n s hI) fun r s1 h1 => ?_))))
  cases r with
  | none => exact wpAny_pure h1
  | some u =>
    refine wpAny_bind (no (thn h1 fun _ s2 h2 => wpAny_bind (no (thn h2 fun _ s3 h3 => wpAny_bind (no (thn h3 fun ok s4 h4 => ?_))))))
    cases ok with
    | false => exact wpAny_pure ⟨rfl, h4⟩
    | true =>
      refine wpAny_bind (wpAny_bind (no (thn h4 fun kv s5 h5 => wpAny_bind (wpAny_holding (no (thn h5 fun vv s6 h6 => wpAny_bind (wpAny_standAt (wpAny_holding (no (thn h6 fun _ s7 h7 => ?_))))))))))
      exact wpAny_pure ⟨rfl, h7⟩
theorem startB_ok (h0 : codeAny (model prog w) A (.compLoop (dc2 kx vx tA iA tB iB fA fB sc ps) 1 it (.ref D) env) R s)
    (h : wpAny (model prog w) A (pyIter it) (fun j s' => codeAny (model prog w) A (.compLoop (dc2 kx vx tA iA tB iB fA fB sc ps) 1 j (.ref D) env) R s') (notedBy (model prog w) A env fun x s' => R (.error x) s') s) :
    codeAny (model prog w) A (.compStart (dc2 kx vx tA iA tB iB fA fB sc ps) 1 it (.ref D) env) R s := by
  refine codeAny_of_tree ?_
  show wpAny _ _ ((compStart (dc2 kx vx tA iA tB iB fA fB sc ps) 1 it (.ref D) env).onRaise (fun x => do noteFrame x env; standAt theWindowsPlace)) _ _ s
  refine wpAny_notedAt ?_
  unfold compStart
  show wpAny _ _ (ask >>= _) _ _ s
  refine wpAny_bind (wpAny_askSetting (wpAny_ite ?_))
  split
  · first
      | exact wpAny_pure (And.intro rfl h0)
      | exact wpAny_bind (wpAny_pure (wpAny_pure (And.intro rfl h0)))
  · refine wpAny_bind (wpAny_rule ?_)
    first
      | exact wpAny_bind (wpAny_standAt (wpAny_bind (wpAny_mono h (fun _ _ q => wpAny_pure (And.intro rfl q)) fun _ _ x => x)))
      | (show wpAny _ _ (standAt iB.pos >>= _) _ _ s
         exact wpAny_bind (wpAny_standAt (wpAny_bind (wpAny_mono h (fun _ _ q => wpAny_pure (And.intro rfl q)) fun _ _ x => x))))
end
end Kn

set_option Elab.async false
set_option linter.all false
set_option maxRecDepth 100000
set_option maxHeartbeats 4000000
/-! Rules, fourth part: dict comprehensions as expressions. -/
namespace Kn
open PySem PySem.Spec PyProof.Rows L2
section
variable {X : Cx}
/-- a[y] = v, as a comprehension does it -/
theorem d_dictSetG {pins : List (Addr × Obj)} {σ : St} {H H' : Hp} {s : Shared} {E : Value → Shared → Prop} {a : Addr} {y v : V} {u r : Value} {Q : Unit → Shared → Prop} (hu : X.A.units < cLine) (I : Inv X pins σ H s) (g : DPut H a y v H')
    (ry : RelV y u) (rv : RelV v r) (h : ∀ s', Inv X pins σ H' s' → Q () s') : wpAny (model X.prog X.w) X.A (dictSet a u r) Q E s := by
  rcases g with ⟨kvs, k, e, ey, l, eH⟩ | ⟨kvs, k, b, e, ey, eb, l, eH⟩
  · subst ey eH
    exact d_dictSet I e l ry rv h
  · subst ey eH
    cases (show u = Value.ref b from ry)
    obtain ⟨z, lo, xs, rel, dd⟩ := dt_of I.hok e
    have hz : xs.length ≤ sizeLine := by
      rw [← Paired.length rel]
      exact z
    have hl : (putK kvs k v).length ≤ sizeLine := by
      have := length_putK kvs k v
      omega
    refine wpAny_dictSet_heap (hsz := hz) (knd := tupleKind (mixKind X.prog X.w)) hu (key_of I.hok eb) dd fun h' dd' hs => h _ ?_
    obtain ⟨q, es, ep, hq, h2, h3, h4, _, h5⟩ := dd'
    refine d_write I (by rw [e]; exact True.intro) hs ⟨q, hq⟩ ⟨hl, lo, _, (rel.put k eb rv).keeps fun c ys ec => ?_, q, es, ep, hq, h2, h3, h4, h5⟩
    rw [upd_ne (ne_of ec e (fun z => nomatch z))]
    exact ec
/-- the iterator's records in a block -/
theorem blk_fp {s0 : Shared} {H0 : Hp} {scope : Scope} {ce : Env} {fp : List Addr} {σ : St} {H : Hp} {s : Shared} (I : Inv (X.blk s0 H0 scope ce fp) [] σ H s) (hn : ∀ b ∈ fp, H b = none) :
    ∀ b ∈ fp, FpOk (X.blk s0 H0 scope ce fp) [] H b := fun b hb =>
  ⟨hn b hb, (I.ok.exf b hb).1, I.ok.exfs b hb, .inl hb, fun x c e => (I.ok.exf b hb).2 x c e, fun p hp => absurd (show p ∈ ([] : List (Addr × Obj)) ++ [] from hp) (by simp)⟩
theorem comp_open {pins : List (Addr × Obj)} {s : Shared} {σ : St} {H : Hp} {Q : VK} {kx vx tg iter : Expr} {ifs : List Expr} {rest : List Comprehension} {scope : Scope} {own : List (Str × Nat)} {pos : Pos} {wi : TI} {G : It → Addr → Hp → Prop} {o0 : HO}
    (h0 : o0 = .dK [] ∨ o0 = .dT []) (hN : X.N.Nodup) (I : Inv X pins σ H s) (hi : PI X tg iter wi) (ok : BlkOk X.N X.env.scope scope own) (hs : ∀ x, foldedSetIterable iter X.env x = pure x)
    (h : wi σ H fun J H1 => ∀ D, H1 D = none → G J D (upd H1 D o0))
    (loop : ∀ (s3 s4 : Shared) (H3 : Hp) (C : Addr) (cl : List (Str × Addr)) (fp : List Addr) (it D : Addr) (tn : Nat → Heap → Prop) (J : It) (R : Result → Shared → Prop),
      Turn X.prog X.w X.K tg J fp it tn → Inv (X.blk s3 H3 scope (compEnvC scope cl C X.env) fp) [] (wipe σ (own.map (·.2))) H3 s4 → tn 0 s4.heap → (∀ b ∈ fp, H3 b = none) → G J D H3 →
      (∀ H5 s6, Inv (X.blk s3 H3 scope (compEnvC scope cl C X.env) fp) [] (wipe σ (own.map (·.2))) H5 s6 → Q (.ref D) H5 → R (.ok .next) s6) →
      codeAny (model X.prog X.w) X.A (.compLoop (.DictComp kx vx (⟨tg, iter, ifs, 0⟩ :: rest) scope pos) 0 (.ref it) (.ref D) (compEnvC scope cl C X.env)) R s4) :
    wpAny (model X.prog X.w) X.A (eval (.DictComp kx vx (⟨tg, iter, ifs, 0⟩ :: rest) scope pos) X.env) (EP X pins σ Q) X.xe s := by
  rw [arm_eval_DictComp]
  have hfree : ∀ y ∈ scope.names, y.2 = .free → ∃ c, X.env.cells.lookup y.1 = some c := fun y hy e => (ok.free y hy e).elim (fun k => I.ok.has _ (.inl k)) fun k => I.ok.has _ (.inr k)
  refine wpAny_comprehension_free rfl hs (closure_ok hfree) ok.kind (fun y hy e => (ok.uniq y hy).trans (congrArg some e)) ?_
  refine thn (hi.run pins s σ H _ I h) fun xv s1 hx => thn hx fun itv s2 h2 => ?_
  obtain ⟨it, fp, tn, J, H2, rfl, I2, T, st2, f2, q⟩ := h2
  refine wpAny_newObj_type (newEnv_comp ?_)
  have hDn : H2 s2.heap.objs.size = none := I2.hok.fresh (Nat.le_refl _)
  have g0 := q _ hDn
  have new : ObjOk X.prog X.w (upd H2 s2.heap.objs.size o0) (s2.heap.push { cls := .type "dict", data := .dict #[] }) s2.heap.objs.size o0 := by
    rcases h0 with rfl | rfl
    · exact dk_empty s2.heap I2.big
    · exact dt_empty s2.heap I2.big
  have I3 : Inv X pins σ (upd H2 s2.heap.objs.size o0) { s2 with heap := s2.heap.push { cls := .type "dict", data := .dict #[] } } :=
    I2.laid (t' := s2.toks) (fun b o e => Heap.get?_push_of_some _ e) (Nat.le_refl _) new
  have low : ∀ b ∈ fp, b < s2.heap.objs.size := fun b hb => let ⟨o, e, _⟩ := T.obj _ _ st2 b hb; Heap.lt_size e
  have f3 : ∀ b ∈ fp, FpOk X pins (upd H2 s2.heap.objs.size o0) b ∧ b < (s2.heap.push { cls := .type "dict", data := .dict #[] }).objs.size := fun b hb =>
    ⟨⟨(upd_ne (Nat.ne_of_lt (low b hb))).trans (f2 b hb).1, (f2 b hb).2⟩, by rw [Heap.size_push]; exact Nat.lt_succ_of_lt (low b hb)⟩
  have I4 := block_start I3 ok hN f3
  generalize hs3 : ({ s2 with heap := s2.heap.push { cls := .type "dict", data := .dict #[] } } : Shared) = s3 at I3 I4 ⊢
  have hs3h : s3.heap = s2.heap.push { cls := .type "dict", data := .dict #[] } := by rw [← hs3]
  rw [← hs3h] at f3
  generalize hDD : s2.heap.objs.size = D at hDn g0 new I3 f3 I4 ⊢
  generalize hcl : cellsFrom (s3.heap.objs.size + 1) scope.names (cloFrom X.env.cells scope.names []) = cl at I4
  generalize hs4 : ({ s3 with heap := pushCells (s3.heap.push { cls := .type "dict", data := .dict #[] }) scope.names } : Shared) = s4 at I4
  have st4 : tn 0 s4.heap := T.keep _ _ _ st2 fun b _ o e => by
    rw [← hs4]
    refine pushCells_keeps _ _ _ _ (Heap.get?_push_of_some _ ?_)
    rw [hs3h]
    exact Heap.get?_push_of_some _ e
  have main : codeAny (model X.prog X.w) X.A (.compLoop (.DictComp kx vx (⟨tg, iter, ifs, 0⟩ :: rest) scope pos) 0 (.ref it) (.ref D) (compEnvC scope cl s3.heap.objs.size X.env))
      (compPost (model X.prog X.w) X.A X.xe none (EP X pins σ Q) (.ref D) s3.heap.objs.size) s4 := by
    refine loop s3 s4 (upd H2 D o0) s3.heap.objs.size cl fp it D tn J _ T I4 st4 (fun b hb => (f3 b hb).1.1) g0 fun H5 s6 I6 qq => ?_
    have I7 : Inv X pins σ H5 s6 := I3.call' (ch := fp) I6.os I6.base I6.hok I6.bare fun b hb => ⟨(f3 b hb).1.2.2.2.1, (f3 b hb).1.2.1, (f3 b hb).1.2.2.2.2.1, (f3 b hb).1.2.2.2.2.2⟩
    obtain ⟨m, hn, _⟩ := I6.loc
    obtain ⟨a0, a1, a2, a3, a4, a5⟩ := I3.fpOk (H' := H5) (Nat.le_refl _) I6.free
    exact ⟨m, hn, fun h'' sb => ⟨.ref D, H5, I7.turned (t' := s6.toks) (fun b o hb e => (sb.2 b hb).trans e) a0 a1 a3 a4 a5, rfl, qq⟩⟩
  have goal := codeAny_compStart_dict main (T.self X.A 0 _ _ _ st4 main)
  exact goal

/-! ### one clause -/
def gDg (g : TG) (tt : TT) (tk tv : TE) (vs : List Nat) (σ : St) (Q : VK) (J : It) (D : Addr) (H0 : Hp) : Prop := ∃ W : Nat → Nat → Hp → Prop, (∃ m, W 0 m H0) ∧ ∀ i m H, W i m H →
  (J.stop i H ∧ Q (.ref D) H) ∨ (J.go i H ∧ ∃ Nx : Hp → Prop, (∀ H', Nx H' → ∃ m', m' < m ∧ W (i + 1) m' H') ∧ ∀ x H', J.yld i H x H' → g x (wipe σ vs) H' fun σ2 H2 => wipe σ2 vs = wipe σ vs ∧ tt σ2 H2 fun b H3 =>
    if b = true then tk σ2 H3 fun y H4 => tv σ2 H4 fun z H5 => ∃ H6, DPut H5 D y z H6 ∧ Nx H6 else Nx H3)
def tDg (o0 : HO) (wi : TI) (g : TG) (tt : TT) (tk tv : TE) (vs : List Nat) : TE := fun σ H Q => wi σ H fun J H1 => ∀ D, H1 D = none → gDg g tt tk tv vs σ Q J D (upd H1 D o0)
abbrev InBlk (X : Cx) (scope : Scope) (P : Cx → Prop) : Prop := ∀ (s : Shared) (H : Hp) (C : Addr) (cl : List (Str × Addr)) (fp : List Addr), P (X.blk s H scope (compEnvC scope cl C X.env) fp)
theorem pe_dg {kx vx tg iter : Expr} {ifs : List Expr} {scope : Scope} {own : List (Str × Nat)} {pos : Pos} {wi : TI} {g : TG} {tt : TT} {tk tv : TE} {o0 : HO} (h0 : o0 = .dK [] ∨ o0 = .dT []) (hu : X.A.units < cLine) (hc : X.calm = true) (hN : X.N.Nodup) (hi : PI X tg iter wi)
    (ok : BlkOk X.N X.env.scope scope own) (hg : InBlk X scope fun Y => PG Y tg g) (ht : InBlk X scope fun Y => PTs Y ifs tt) (hk : InBlk X scope fun Y => PE Y kx tk) (hv : InBlk X scope fun Y => PE Y vx tv)
    (hs : ∀ x, foldedSetIterable iter X.env x = pure x := by intro _; rfl) : PE X (.DictComp kx vx [⟨tg, iter, ifs, 0⟩] scope pos) (tDg o0 wi g tt tk tv (own.map (·.2))) := by
  refine ⟨fun pins s σ H Q I h => comp_open (G := gDg g tt tk tv (own.map fun x : Str × Nat => x.2) σ Q) h0 hN I hi ok hs h ?_⟩
  intro s3 s4 H3 C cl fp it D tn J R T I4 st4 n4 ⟨W, ⟨m0, w0⟩, turn⟩ fin
  have pg := hg s3 H3 C cl fp
  have pt := ht s3 H3 C cl fp
  have pk := hk s3 H3 C cl fp
  have pv := hv s3 H3 C cl fp
  refine compLoop_anyD (fun n s' => ∃ i H', Inv (X.blk s3 H3 scope (compEnvC scope cl C X.env) fp) [] (wipe σ (own.map (·.2))) H' s' ∧ tn i s'.heap ∧ (∀ b ∈ fp, H' b = none) ∧ W i n H') ?_ m0 ⟨0, H3, I4, st4, n4, w0⟩
  rintro n s5 ⟨i, H5, I5, st5, n5, w5⟩
  rcases turn i n H5 w5 with ⟨stop, qq⟩ | ⟨go, Nx, hNx, step⟩
  · refine thnF (T.done (X.blk s3 H3 scope (compEnvC scope cl C X.env) fp) rfl rfl rfl hc i [] s5 _ H5 (fun _ _ => False) I5 (blk_fp I5 n5) st5 stop) fun r s6 ⟨hr, I6⟩ => ?_
    subst hr
    exact fin H5 s6 I6 qq
  · refine thnF (T.item (X.blk s3 H3 scope (compEnvC scope cl C X.env) fp) rfl rfl rfl hc i [] s5 _ H5 (fun _ _ => False) I5 (blk_fp I5 n5) st5 go) fun r s6 ⟨u, hr, h6⟩ => ?_
    subst hr
    refine thnF h6 fun _ s7 ⟨x, H7, I7, r7, y7, st7, n7⟩ => ?_
    have J7 := I7.pinned (blk_fp I7 n7) (T.obj _ _ st7)
    refine thnF (pg.run _ s7 _ H7 x u _ J7 r7 (step x H7 y7)) fun _ s8 ⟨σ8, H8, I8, hw8, q8⟩ => thnF (pt.run _ s8 σ8 H8 _ I8 q8) fun b s9 ⟨H9, I9, q9⟩ => ?_
    have next : ∀ {s' : Shared} {H' : Hp}, Inv (X.blk s3 H3 scope (compEnvC scope cl C X.env) fp) ([] ++ pinsAt fp s7.heap) σ8 H' s' → Nx H' →
        ∃ m, m < n ∧ ∃ i H', Inv (X.blk s3 H3 scope (compEnvC scope cl C X.env) fp) [] (wipe σ (own.map (·.2))) H' s' ∧ tn i s'.heap ∧ (∀ b ∈ fp, H' b = none) ∧ W i m H' := by
      intro s' H' I' nx
      obtain ⟨m', hm, w'⟩ := hNx H' nx
      have pinned : ∀ b ∈ fp, ∀ o, s7.heap.get? b = some o → s'.heap.get? b = some o ∧ H' b = none := fun b hb o e =>
        have z := I'.pin (b, o) (List.mem_append_right _ (List.mem_append_right _ (mem_pinsAt hb e)))
        ⟨z.1, z.2.1⟩
      have hl : (wipe σ (own.map (·.2))).length = σ8.length := by rw [← hw8, wipe_length]
      have weak : Inv (X.blk s3 H3 scope (compEnvC scope cl C X.env) fp) [] (wipe σ (own.map (·.2))) H' s' := (I'.unpinned (pins := [])).weak hl fun j v e => by
        rw [← hw8] at e
        exact (wipe_some e).1
      refine ⟨m', hm, i + 1, H', weak, T.keep _ _ _ st7 fun b hb o e => (pinned b hb o e).1, fun b hb => ?_, w'⟩
      obtain ⟨o, e, _⟩ := T.obj _ _ st7 b hb
      exact (pinned b hb o e).2
    cases b with
    | false =>
      simp only [Bool.false_eq_true, if_false] at q9 ⊢
      exact next I9 q9
    | true =>
      simp only [if_true] at q9 ⊢
      refine thnF (pk.run _ s9 σ8 H9 _ I9 q9) fun z1 s10 ⟨yk, H10, I10, r10, q10⟩ => thnF (pv.run _ s10 σ8 H10 _ I10 q10) fun z2 s11 ⟨yv, H11, I11, r11, H12, put, nx⟩ => ?_
      exact d_dictSetG (X := X.blk s3 H3 scope (compEnvC scope cl C X.env) fp) hu I11 put r10 r11 fun s12 I12 => next I12 nx

/-! ### two clauses -/
def gDg2 (g : TG) (tt : TT) (wi1 : TI) (g1 : TG) (tt1 : TT) (tk tv : TE) (vs vs1 : List Nat) (σ : St) (Q : VK) (J : It) (D : Addr) (H0 : Hp) : Prop := ∃ W : Nat → Nat → Hp → Prop, (∃ m, W 0 m H0) ∧ ∀ i m H, W i m H →
  (J.stop i H ∧ Q (.ref D) H) ∨ (J.go i H ∧ ∃ Nx : Hp → Prop, (∀ H', Nx H' → ∃ m', m' < m ∧ W (i + 1) m' H') ∧ ∀ x H', J.yld i H x H' → g x (wipe σ vs) H' fun σ2 H2 => wipe σ2 vs = wipe σ vs ∧ tt σ2 H2 fun b H3 =>
    if b = true then wi1 σ2 H3 fun J1 H4 => ∃ V1 : Nat → Nat → Hp → Prop, (∃ m, V1 0 m H4) ∧ ∀ j k H, V1 j k H →
      (J1.stop j H ∧ Nx H) ∨ (J1.go j H ∧ ∃ Ny : Hp → Prop, (∀ H', Ny H' → ∃ k', k' < k ∧ V1 (j + 1) k' H') ∧ ∀ x H', J1.yld j H x H' → g1 x (wipe σ2 vs1) H' fun σ3 H5 => wipe σ3 vs1 = wipe σ2 vs1 ∧ tt1 σ3 H5 fun b H6 =>
        if b = true then tk σ3 H6 fun y H7 => tv σ3 H7 fun z H8 => ∃ H9, DPut H8 D y z H9 ∧ Ny H9 else Ny H6)
    else Nx H3)
def tDg2 (o0 : HO) (wi : TI) (g : TG) (tt : TT) (wi1 : TI) (g1 : TG) (tt1 : TT) (tk tv : TE) (vs vs1 : List Nat) : TE := fun σ H Q => wi σ H fun J H1 => ∀ D, H1 D = none → gDg2 g tt wi1 g1 tt1 tk tv vs vs1 σ Q J D (upd H1 D o0)
theorem pe_dg2 {kx vx tA iA tB iB : Expr} {fA fB : List Expr} {scope : Scope} {own : List (Str × Nat)} {vs1 : List Nat} {pos : Pos} {wi wi1 : TI} {g g1 : TG} {tt tt1 : TT} {tk tv : TE} {o0 : HO} (h0 : o0 = .dK [] ∨ o0 = .dT []) (hu : X.A.units < cLine) (hc : X.calm = true) (hN : X.N.Nodup)
    (hi : PI X tA iA wi) (ok : BlkOk X.N X.env.scope scope own) (hv1 : ∀ i ∈ vs1, i ∈ own.map (·.2)) (hg : InBlk X scope fun Y => PG Y tA g) (ht : InBlk X scope fun Y => PTs Y fA tt) (hi1 : InBlk X scope fun Y => PI Y tB iB wi1)
    (hg1 : InBlk X scope fun Y => PG Y tB g1) (ht1 : InBlk X scope fun Y => PTs Y fB tt1) (hk : InBlk X scope fun Y => PE Y kx tk) (hv : InBlk X scope fun Y => PE Y vx tv)
    (hs : ∀ x, foldedSetIterable iA X.env x = pure x := by intro _; rfl) (hs1 : ∀ env x, foldedSetIterable iB env x = pure x := by intro _ _; rfl) :
    PE X (.DictComp kx vx [⟨tA, iA, fA, 0⟩, ⟨tB, iB, fB, 0⟩] scope pos) (tDg2 o0 wi g tt wi1 g1 tt1 tk tv (own.map (·.2)) vs1) := by
  refine ⟨fun pins s σ H Q I h => comp_open (G := gDg2 g tt wi1 g1 tt1 tk tv (own.map fun x : Str × Nat => x.2) vs1 σ Q) h0 hN I hi ok hs h ?_⟩
  intro s3 s4 H3 C cl fp it D tn J R T I4 st4 n4 ⟨W, ⟨m0, w0⟩, turn⟩ fin
  have pg := hg s3 H3 C cl fp
  have pt := ht s3 H3 C cl fp
  have pi1 := hi1 s3 H3 C cl fp
  have pg1 := hg1 s3 H3 C cl fp
  have pt1 := ht1 s3 H3 C cl fp
  have pk := hk s3 H3 C cl fp
  have pv := hv s3 H3 C cl fp
  have hs2 := hs1 (compEnvC scope cl C X.env)
  refine loopA_ok hs2 (fun n s' => ∃ i H', Inv (X.blk s3 H3 scope (compEnvC scope cl C X.env) fp) [] (wipe σ (own.map (·.2))) H' s' ∧ tn i s'.heap ∧ (∀ b ∈ fp, H' b = none) ∧ W i n H') ?_ m0 ⟨0, H3, I4, st4, n4, w0⟩
  rintro n s5 ⟨i, H5, I5, st5, n5, w5⟩
  rcases turn i n H5 w5 with ⟨stop, qq⟩ | ⟨go, Nx, hNx, step⟩
  · refine thnF (T.done (X.blk s3 H3 scope (compEnvC scope cl C X.env) fp) rfl rfl rfl hc i [] s5 _ H5 (fun _ _ => False) I5 (blk_fp I5 n5) st5 stop) fun r s6 ⟨hr, I6⟩ => ?_
    subst hr
    exact fin H5 s6 I6 qq
  · refine thnF (T.item (X.blk s3 H3 scope (compEnvC scope cl C X.env) fp) rfl rfl rfl hc i [] s5 _ H5 (fun _ _ => False) I5 (blk_fp I5 n5) st5 go) fun r s6 ⟨u, hr, h6⟩ => ?_
    subst hr
    refine thnF h6 fun _ s7 ⟨x, H7, I7, r7, y7, st7, n7⟩ => ?_
    have J7 := I7.pinned (blk_fp I7 n7) (T.obj _ _ st7)
    have pgr := pg.run _ s7 _ H7 x u _ J7 r7 (step x H7 y7)
    refine thnF pgr fun _ s8 ⟨σ8, H8, I8, hw8, q8⟩ => ?_
    have ptr := pt.run _ s8 σ8 H8 _ I8 q8
    refine thnF ptr fun b s9 ⟨H9, I9, q9⟩ => ?_
    -- the outer turn's end
    have next : ∀ {σ9 : St} {s' : Shared} {H' : Hp}, Inv (X.blk s3 H3 scope (compEnvC scope cl C X.env) fp) ([] ++ pinsAt fp s7.heap) σ9 H' s' → (wipe σ (own.map (·.2))).length = σ9.length → (∀ (j : Nat) v, (wipe σ (own.map (·.2)))[j]? = some (some v) → σ9[j]? = some (some v)) → Nx H' →
        ∃ m, m < n ∧ ∃ i H', Inv (X.blk s3 H3 scope (compEnvC scope cl C X.env) fp) [] (wipe σ (own.map (·.2))) H' s' ∧ tn i s'.heap ∧ (∀ b ∈ fp, H' b = none) ∧ W i m H' := by
      intro σ9 s' H' I' hl hw nx
      obtain ⟨m', hm, w'⟩ := hNx H' nx
      have pinned : ∀ b ∈ fp, ∀ o, s7.heap.get? b = some o → s'.heap.get? b = some o ∧ H' b = none := fun b hb o e =>
        have z := I'.pin (b, o) (List.mem_append_right _ (List.mem_append_right _ (mem_pinsAt hb e)))
        ⟨z.1, z.2.1⟩
      refine ⟨m', hm, i + 1, H', (I'.unpinned (pins := [])).weak hl hw, T.keep _ _ _ st7 fun b hb o e => (pinned b hb o e).1, fun b hb => ?_, w'⟩
      obtain ⟨o, e, _⟩ := T.obj _ _ st7 b hb
      exact (pinned b hb o e).2
    have hl8 : (wipe σ (own.map (·.2))).length = σ8.length := by rw [← hw8, wipe_length]
    have hk8 : ∀ (j : Nat) v, (wipe σ (own.map (·.2)))[j]? = some (some v) → σ8[j]? = some (some v) ∧ (wipe σ8 vs1)[j]? = some (some v) := fun j v e => by
      rw [← hw8] at e
      obtain ⟨e1, e2⟩ := wipe_some e
      exact ⟨e1, by rw [wipe_out fun z => e2 (hv1 j z)]; exact e1⟩
    cases b with
    | false =>
      simp only [Bool.false_eq_true, if_false] at q9 ⊢
      exact next I9 hl8 (fun j v e => (hk8 j v e).1) q9
    | true =>
      simp only [if_true] at q9 ⊢
      have pir := pi1.run _ s9 σ8 H9 _ I9 q9
      refine thnF pir fun xv s10 hx => thnF hx fun itv s11 h11 => ?_
      obtain ⟨it1, fp1, tn1, J1, H11, rfl, I11, T1, st11, f11, V1, ⟨m1, w1⟩, turn1⟩ := h11
      have stat : ∀ {H' : Hp}, (∀ b ∈ fp1, H' b = none) → ∀ b ∈ fp1, FpOk (X.blk s3 H3 scope (compEnvC scope cl C X.env) fp) ([] ++ pinsAt fp s7.heap) H' b := fun hn b hb => ⟨hn b hb, (f11 b hb).2⟩
      have inner : codeAny (model (X.blk s3 H3 scope (compEnvC scope cl C X.env) fp).prog (X.blk s3 H3 scope (compEnvC scope cl C X.env) fp).w) (X.blk s3 H3 scope (compEnvC scope cl C X.env) fp).A (.compLoop (dc2 kx vx tA iA tB iB fA fB scope pos) 1 (.ref it1) (.ref D) (X.blk s3 H3 scope (compEnvC scope cl C X.env) fp).env)
          (fun r s' => (∃ f, r = .ok f) ∧ ∃ m, m < n ∧ ∃ i H', Inv (X.blk s3 H3 scope (compEnvC scope cl C X.env) fp) [] (wipe σ (own.map (·.2))) H' s' ∧ tn i s'.heap ∧ (∀ b ∈ fp, H' b = none) ∧ W i m H') s11 := by
        refine loopB_ok (fun k s' => ∃ j H', Inv (X.blk s3 H3 scope (compEnvC scope cl C X.env) fp) ([] ++ pinsAt fp s7.heap) (wipe σ8 vs1) H' s' ∧ tn1 j s'.heap ∧ (∀ b ∈ fp1, H' b = none) ∧ V1 j k H') ?_ m1
          ⟨0, H11, I11.weak (wipe_length _ _) (fun j v e => (wipe_some e).1), st11, fun b hb => (f11 b hb).1, w1⟩
        rintro k s12 ⟨j, H12, I12, st12, n12, w12⟩
        rcases turn1 j k H12 w12 with ⟨stop1, nx1⟩ | ⟨go1, Ny, hNy, step1⟩
        · refine thnF (T1.done (X.blk s3 H3 scope (compEnvC scope cl C X.env) fp) rfl rfl rfl hc j _ s12 (wipe σ8 vs1) H12 (fun _ _ => False) I12 (stat n12) st12 stop1) fun r s13 ⟨hr, I13⟩ => ?_
          subst hr
          exact ⟨⟨_, rfl⟩, next I13 (hl8.trans (wipe_length σ8 vs1).symm) (fun j v e => (hk8 j v e).2) nx1⟩
        · refine thnF (T1.item (X.blk s3 H3 scope (compEnvC scope cl C X.env) fp) rfl rfl rfl hc j _ s12 (wipe σ8 vs1) H12 (fun _ _ => False) I12 (stat n12) st12 go1) fun r s13 ⟨u1, hr, h13⟩ => ?_
          subst hr
          refine thnF h13 fun _ s14 ⟨x1, H14, I14, r14, y14, st14, n14⟩ => ?_
          have J14 := I14.pinned (stat n14) (T1.obj _ _ st14)
          have pgr1 := pg1.run _ s14 (wipe σ8 vs1) H14 x1 u1 _ J14 r14 (step1 x1 H14 y14)
          refine thnF pgr1 fun _ s15 ⟨σ15, H15, I15, hw15, q15⟩ => ?_
          have ptr1 := pt1.run _ s15 σ15 H15 _ I15 q15
          refine thnF ptr1 fun b1 s16 ⟨H16, I16, q16⟩ => ?_
          have next1 : ∀ {s' : Shared} {H' : Hp}, Inv (X.blk s3 H3 scope (compEnvC scope cl C X.env) fp) (([] ++ pinsAt fp s7.heap) ++ pinsAt fp1 s14.heap) σ15 H' s' → Ny H' → ∃ m, m < k ∧ ∃ j H', Inv (X.blk s3 H3 scope (compEnvC scope cl C X.env) fp) ([] ++ pinsAt fp s7.heap) (wipe σ8 vs1) H' s' ∧ tn1 j s'.heap ∧ (∀ b ∈ fp1, H' b = none) ∧ V1 j m H' := by
            intro s' H' I' ny
            obtain ⟨m', hm, w'⟩ := hNy H' ny
            have pinned : ∀ b ∈ fp1, ∀ o, s14.heap.get? b = some o → s'.heap.get? b = some o ∧ H' b = none := fun b hb o e =>
              have z := I'.pin (b, o) (List.mem_append_right _ (List.mem_append_right _ (mem_pinsAt hb e)))
              ⟨z.1, z.2.1⟩
            refine ⟨m', hm, j + 1, H', I'.unpinned.weak (by rw [← hw15, wipe_length]) (fun j v e => by rw [← hw15] at e; exact (wipe_some e).1), T1.keep _ _ _ st14 fun b hb o e => (pinned b hb o e).1, fun b hb => ?_, w'⟩
            obtain ⟨o, e, _⟩ := T1.obj _ _ st14 b hb
            exact (pinned b hb o e).2
          cases b1 with
          | false =>
            simp only [Bool.false_eq_true, if_false] at q16 ⊢
            exact next1 I16 q16
          | true =>
            simp only [if_true] at q16 ⊢
            have pkr := pk.run _ s16 σ15 H16 _ I16 q16
            refine thnF pkr fun z1 s17 ⟨yk, H17, I17, r17, q17⟩ => ?_
            have pvr := pv.run _ s17 σ15 H17 _ I17 q17
            refine thnF pvr fun z2 s18 ⟨yv, H18, I18, r18, H19, put, ny⟩ => ?_
            exact d_dictSetG (X := (X.blk s3 H3 scope (compEnvC scope cl C X.env) fp)) hu I18 put r17 r18 fun s19 I19 => next1 I19 ny
      exact startB_ok inner (T1.self (X.blk s3 H3 scope (compEnvC scope cl C X.env) fp).A 0 _ _ _ st11 inner)
end
end Kn

set_option Elab.async false
set_option linter.all false
set_option maxRecDepth 100000
set_option maxHeartbeats 4000000
/-! Rules, fifth part: the display of two dicts in one. -/
namespace Kn
open PySem PySem.Spec PyProof.Rows L2
section
variable {prog : Program} {w : World} {A : Around} {E : Value → Shared → Prop} {s : Shared}
theorem dictPut_ok {d : Addr} {kvs : List (Key × Value)} {k : Key} {key v : Value} {Q : Unit → Shared → Prop} (hkey : (mixKind prog w).is k key = true) (hm : s.heap.DictOf (mixKind prog w) d kvs)
    (hQ : ∀ h', h'.DictOf (mixKind prog w) d (stored kvs k v) → Heap.SameBut d s.heap h' → Q () { s with heap := h' })
    (hsz : kvs.length ≤ sizeLine) :
    wpAny (model prog w) A (dictPut d ((mixKind prog w).hash k) key v) Q E s := by
  obtain ⟨o, es, ep, ho, hc, hd, hk, hp, hn⟩ := hm
  have hes : es.size ≤ sizeLine := by
    have e1 := hp.length
    have e2 : es.toList.length = es.size := by simp
    omega
  unfold dictPut
  refine wpAny_bind (wpAny_dictFind_of hkey ho hd hk ?_)
  have hidx : (es.findIdx? fun e => (mixKind prog w).is k e.key) = kvs.findIdx? fun kv => decide (kv.1 = k) := by
    rw [← hp.findIdx k]
    obtain ⟨l⟩ := es
    simp
  cases hi : es.findIdx? fun e => (mixKind prog w).is k e.key with
  | some i =>
    refine wpAny_updateDict ho hd (hQ _ ⟨_, _, ep, Heap.get?_update_self _ ho (Obj.isFreed_of_dict (Obj.data_mapDict hd _)),
      hc.mapDict _, Obj.data_mapDict hd _, hk.modify _ _, ?_, ?_⟩ (Heap.SameBut.update ..))
    · rw [stored, if_pos (any_of_findIdx_some (hidx ▸ hi))]
      have hl : (es.toList.findIdx? fun e => (mixKind prog w).is k e.key) = some i := by
        rw [← hi]
        obtain ⟨l⟩ := es
        simp
      have := hp.modify hn hl v
      obtain ⟨l⟩ := es
      simpa using this
    · rw [stored, if_pos (any_of_findIdx_some (hidx ▸ hi)), keys_map_store]
      exact hn
  | none =>
    have hnot : k ∉ kvs.map (·.1) := not_mem_of_findIdx_none (hidx ▸ hi)
    have hany : ¬ (kvs.any fun kv => decide (kv.1 = k)) = true := by
      rw [List.any_eq_true]
      rintro ⟨kv, hkv, he⟩
      exact hnot (List.mem_map.mpr ⟨kv, hkv, of_decide_eq_true he⟩)
    refine wpAny_updateDictKeys (hz := hes) ho hd (hQ _ ⟨_, _, ep + 1, Heap.get?_update_self _ ho (Obj.isFreed_of_dict (Obj.data_mapDictKeys hd _)),
      hc.mapDictKeys _, Obj.data_mapDictKeys hd _, hk.push hkey _, ?_, ?_⟩ (Heap.SameBut.update ..))
    · rw [stored, if_neg hany]
      have := hp.append hkey ((mixKind prog w).hash k) v
      obtain ⟨l⟩ := es
      simpa using this
    · rw [stored, if_neg hany, List.map_append, List.nodup_append]
      refine ⟨hn, by simp, ?_⟩
      intro a ha b hb
      simp only [List.map_cons, List.map_nil, List.mem_singleton] at hb
      subst hb
      exact fun e => hnot (e ▸ ha)
theorem keyIs_noref {k : Key} {v : Value} (h : keyIs k v = true) : ∀ a, v ≠ .ref a := fun a e => by
  subst e
  rcases keyIs_shape h with ⟨i, t, _, e⟩ | ⟨x, t, _, e⟩ <;> exact nomatch e
theorem mergeMapping_ok {d o : Addr} {kvs more : List (Key × Value)} {Q : Unit → Shared → Prop} (hdo : d ≠ o) (hoS : (o == sysModules) = false)
    (hd : s.heap.DictOf (mixKind prog w) d kvs) (ho : s.heap.DictOf (mixKind prog w) o more)
    (hQ : ∀ h', h'.DictOf (mixKind prog w) d (merged kvs more) → Heap.SameBut d s.heap h' → Q () { s with heap := h' })
    (hsz : kvs.length + more.length ≤ sizeLine) :
    wpAny (model prog w) A (mergeMapping d (.ref o) false) Q E s := by
  obtain ⟨od, esd, epd, hod, hcd, hdd, hkd, hpd, hnd⟩ := id hd
  obtain ⟨oo, eso, epo, hoo, hco, hdo', hko, hpo, hno⟩ := id ho
  have hlen : more.length = eso.size := by
    rw [← hpo.length]
    simp
  unfold mergeMapping
  refine wpAny_bind (wpAny_isInstance ho.typeIs PySem.isSubtype_dict_dict ?_)
  rw [if_pos rfl]
  refine wpAny_bind (wpAny_specialOf ho.typeIs PySem.F.slot_dict_iter.lookup ?_)
  refine wpAny_bind (wpAny_pure ?_)
  rw [beq_self_eq_true]
  dsimp only
  rw [hoS, if_neg Bool.false_ne_true]
  refine wpAny_bind (wpAny_dictEntries hod hdd ?_)
  have loop : wpAny (model prog w) A (do
      let l ← dictEntries o
      let size : Nat := l.size
      let epoch ← dictEpoch o
      forIn (List.range size) PUnit.unit fun i (_ : PUnit) => (do
          let l' ← dictEntries o
          match l'[i]? with
            | some e => do
              holding [e.key, e.val] (if false = true then do
                                  let __do_lift ← dictFind d e.key e.hash
                                  if __do_lift.isSome = true then do
                                      rule "dict.merge.duplicate-key"
                                      let __do_lift ← newExc (Value.type "KeyError") [e.key]
                                      raiseNew __do_lift
                                      dictPut d e.hash e.key e.val
                                    else dictPut d e.hash e.key e.val
                                else dictPut d e.hash e.key e.val)
              let ep' ← dictEpoch o
              if (ep' != epoch) = true then do
                  (unsupported "dict.changed-during-merge" : Sem PUnit)
                  pure (ForInStep.yield PUnit.unit)
                else pure (ForInStep.yield PUnit.unit)
            | _ => do
              (unsupported "dict.changed-during-merge" : Sem PUnit)
              pure (ForInStep.yield PUnit.unit) : Sem (ForInStep PUnit))
      pure ()) Q E s := by
    refine wpAny_bind (wpAny_dictEntries hoo hdo' ?_)
    refine wpAny_bind (wpAny_dictEpoch hoo hdo' ?_)
    refine wpAny_bind ?_
    refine wpAny_forIn_list _
      (fun rest _ s' => ∃ h' i, s' = { s with heap := h' } ∧ rest = (List.range eso.size).drop i ∧ i ≤ eso.size ∧ h'.DictOf (mixKind prog w) d (merged kvs (more.take i)) ∧ h'.get? o = some oo ∧ Heap.SameBut d s.heap h')
      _ ?_ ?_ _ _ ⟨s.heap, 0, rfl, by simp, Nat.zero_le _, by simpa [merged] using hd, hoo, Heap.SameBut.refl _ _⟩
    · rintro x rest b s' ⟨h', i, rfl, hr, hi, hd', hoo', hs'⟩
      have hlt : i < eso.size := by
        rcases Nat.lt_or_ge i eso.size with h | h
        · exact h
        · rw [List.drop_of_length_le (by simpa using h)] at hr
          exact nomatch hr
      have hlt' : i < (List.range eso.size).length := by simpa using hlt
      obtain ⟨rfl, hrest⟩ : x = i ∧ rest = (List.range eso.size).drop (i + 1) := by
        rw [List.drop_eq_getElem_cons hlt'] at hr
        injection hr with h1 h2
        rw [List.getElem_range] at h1
        exact ⟨h1, h2⟩
      refine wpAny_bind (wpAny_dictEntries hoo' hdo' ?_)
      rw [Array.getElem?_eq_getElem hlt]
      obtain ⟨kv, hkv⟩ : ∃ kv, more[x]? = some kv := ⟨more[x]'(by rw [hlen]; exact hlt), List.getElem?_eq_getElem _⟩
      obtain ⟨k, v⟩ := kv
      obtain ⟨hkey, hval⟩ := hpo.get? (e := eso[x]) (by simp [hlt]) hkv
      obtain ⟨k', hkey', hhash⟩ := hko eso[x] (Array.getElem_mem hlt)
      obtain rfl : k' = k := (mixKind prog w).inj _ _ _ hkey' hkey
      dsimp only
      rw [if_neg Bool.false_ne_true, hhash, hval]
      have hmx : (merged kvs (more.take x)).length ≤ sizeLine := by
        have e1 := merged_length_le kvs (more.take x)
        have e2 : (more.take x).length ≤ more.length := by
          rw [List.length_take]
          omega
        omega
      refine wpAny_bind (wpAny_holding (dictPut_ok (hsz := hmx) hkey hd' fun h'' hd'' hs'' => ?_))
      have hoo'' : h''.get? o = some oo := (hs''.2 o (Ne.symm hdo)).trans hoo'
      refine wpAny_bind (wpAny_dictEpoch hoo'' hdo' ?_)
      rw [if_neg (by simp)]
      exact wpAny_pure ⟨h'', x + 1, rfl, hrest, hlt, by rw [merged_take_succ kvs more x (k', v) hkv]; exact hd'', hoo'', hs'.trans hs''⟩
    · rintro b s' ⟨h', i, rfl, hr, hi, hd', hoo', hs'⟩
      have hin : i = eso.size := by
        have h1 := congrArg List.length hr
        simp at h1
        omega
      refine wpAny_pure (hQ h' ?_ hs')
      rw [hin, ← hlen, List.take_length] at hd'
      exact hd'
  by_cases hemp : esd.isEmpty = true
  · rw [if_pos hemp]
    refine wpAny_bind (wpAny_dictEntries hoo hdo' ?_)
    refine wpAny_bind (PySem.wpAny_forIn_array' _ (fun rest _ s' => s' = s ∧ ∀ e ∈ rest, ∀ a, e.key ≠ .ref a) _ ?_ ?_ _ _ ⟨rfl, fun e he a => ?_⟩)
    · rintro e rest b s' ⟨rfl, hall⟩
      have h1 := hall e List.mem_cons_self
      have h2 : ∀ x ∈ rest, ∀ a, x.key ≠ .ref a := fun x hx => hall x (List.mem_cons_of_mem _ hx)
      split
      · rename_i a e1
        exact absurd e1 (h1 a)
      · exact wpAny_pure ⟨rfl, h2⟩
    · rintro b s' ⟨rfl, _⟩
      exact loop
    · obtain ⟨k, hk, _⟩ := hko e (Array.mem_toList_iff.mp he)
      exact keyIs_noref hk a
  · rw [if_neg hemp]
    exact loop
end
section
variable {X : Cx} {a b : Expr} {ta tb : TE} {pos : Pos}
theorem merge_step {pins : List (Addr × Obj)} {σ : St} {H : Hp} {s : Shared} {D p : Addr} {ms ks : List (Key × V)} {E : Value → Shared → Prop} {Q : Unit → Shared → Prop} (I : Inv X pins σ H s) (hp : p ≠ D) (e : H p = some (.dK ks)) (eD : H D = some (.dK ms)) (hz : ms.length + ks.length ≤ sizeLine)
    (h : ∀ s', Inv X pins σ (upd H D (.dK (mergeK ms ks))) s' → Q () s') : wpAny (model X.prog X.w) X.A (mergeMapping D (.ref p) false) Q E s := by
  obtain ⟨_, lo, vs, rel, dd⟩ := dk_of I.hok e
  obtain ⟨_, loD, us, relD, ddD⟩ := dk_of I.hok eD
  have l1 := rel.length
  have l2 := relD.length
  have l3 := length_mergeK ks ms
  refine mergeMapping_ok (hsz := by omega) (Ne.symm hp) lo ddD dd fun h' dd' hs => h _ ?_
  obtain ⟨o, es, ep, g1, g2, g3, g4, g5⟩ := dd'
  exact d_write I (by rw [eD]; exact True.intro) hs ⟨o, g1⟩ (dk_new (by omega) loD (KV.merge rel relD) ⟨o, es, ep, g1, g2, g3, g4, g5⟩)
def tMerge2 (ta tb : TE) : TE := fun σ H Q => ∀ D, H D = none → ta σ (upd H D (.dK [])) fun x H1 => ∃ p ks, x = .ref p ∧ p ≠ D ∧ H1 p = some (.dK ks) ∧ H1 D = some (.dK []) ∧ ks.length ≤ sizeLine ∧
  tb σ (upd H1 D (.dK (mergeK [] ks))) fun y H2 => ∃ q ls ms, y = .ref q ∧ q ≠ D ∧ H2 q = some (.dK ls) ∧ H2 D = some (.dK ms) ∧ ms.length + ls.length ≤ sizeLine ∧ Q (.ref D) (upd H2 D (.dK (mergeK ms ls)))
theorem pe_merge2 (ha : PE X a ta) (hb : PE X b tb) : PE X (.Dict [none, none] [a, b] pos) (tMerge2 ta tb) := by
  refine ⟨fun pins s σ H Q I h => ?_⟩
  rw [arm_eval_Dict]
  refine wpAny_bind (wpAny_standAt ?_)
  have shape : (evalEachOpt [none, none] X.env).zip ((evalEach [a, b] X.env).map fun v => do let x ← v; standAt pos; pure x) =
    [(none, do let x ← eval a X.env; standAt pos; pure x), (none, do let x ← eval b X.env; standAt pos; pure x)] := rfl
  rw [shape]
  unfold dictDisplay
  have hDn : H s.heap.objs.size = none := I.hok.fresh (Nat.le_refl _)
  have I1 : Inv X pins σ (upd H s.heap.objs.size (.dK [])) { s with heap := s.heap.push { cls := .type "dict", data := .dict #[] } } :=
    I.laid (t' := s.toks) (fun b o e => Heap.get?_push_of_some _ e) (Nat.le_refl _) (dk_empty s.heap I.big)
  have q0 := h _ hDn
  dsimp only
  refine wpAny_bind ?_
  rw [List.forIn_cons]
  refine wpAny_bind ?_
  dsimp only
  rw [List.isEmpty_nil, if_pos rfl]
  refine wpAny_bind (wpAny_pure ?_)
  dsimp only
  refine wpAny_bind (wpAny_alloc ?_)
  refine wpAny_bind (wpAny_holding (wpAny_bind (thn (ha.run pins _ σ _ _ I1 q0) fun u s2 ⟨x, H2, I2, rx, p, ks, ex, hp, ep, eD, hz, q2⟩ => wpAny_bind (wpAny_standAt (wpAny_pure ?_)))))
  subst ex
  obtain rfl : u = Value.ref p := rx
  refine wpAny_bind (wpAny_onRaise (wpAny_tryCatch (wpAny_onRaise (wpAny_holding (merge_step I2 hp ep eD (by simpa using hz) fun s3 I3 => ?_)))))
  refine wpAny_pure ?_
  dsimp only
  rw [List.forIn_cons]
  refine wpAny_bind ?_
  dsimp only
  rw [List.isEmpty_nil, if_pos rfl]
  refine wpAny_bind (wpAny_pure ?_)
  dsimp only
  refine wpAny_bind (wpAny_pure ?_)
  refine wpAny_bind (wpAny_holding (wpAny_bind (thn (hb.run pins _ σ _ _ I3 q2) fun u s4 ⟨y, H4, I4, ry, q, ls, ms, ey, hq, eq, eD4, hz4, q4⟩ => wpAny_bind (wpAny_standAt (wpAny_pure ?_)))))
  subst ey
  obtain rfl : u = Value.ref q := ry
  refine wpAny_bind (wpAny_onRaise (wpAny_tryCatch (wpAny_onRaise (wpAny_holding (merge_step I4 hq eq eD4 hz4 fun s5 I5 => ?_)))))
  refine wpAny_pure ?_
  dsimp only
  rw [List.forIn_nil]
  refine wpAny_pure ?_
  dsimp only
  rw [List.isEmpty_nil, if_pos rfl]
  refine wpAny_bind (wpAny_pure ?_)
  exact wpAny_pure ⟨.ref s.heap.objs.size, _, I5, rfl, q4⟩
end
end Kn

set_option Elab.async false
set_option linter.all false
set_option maxRecDepth 100000
set_option maxHeartbeats 4000000
/-! Rules, sixth part: min of a list of pairs (int, key). -/
namespace Kn
open PySem PySem.Spec PyProof.Rows L2 PySem.W
/-- the order of keys of one kind -/
def kLt : Key → Key → Bool
  | .inl a, .inl b => decide (a < b)
  | .inr x, .inr y => decide (x.cps.toList < y.cps.toList)
  | _, _ => false
def kAl : Key → Key → Bool
  | .inl _, .inl _ => true
  | .inr _, .inr _ => true
  | _, _ => false
def eLt (x y : Int × Key) : Bool := decide (x.1 < y.1) || (decide (x.1 = y.1) && kLt x.2 y.2)
def kD : Key → PyData
  | .inl i => .int i
  | .inr x => .str x
def pD (z : Int × Key) : PyData := .tuple [.int z.1, kD z.2]
theorem kD_alike (a b : Key) : alike (kD a) (kD b) = kAl a b := by
  cases a <;> cases b <;> rfl
theorem kD_lt {a b : Key} (h : kAl a b = true) : dataLt (kD a) (kD b) = kLt a b := by
  cases a <;> cases b
  · exact dataLt_int _ _
  · exact nomatch h
  · exact nomatch h
  · exact dataLt_str _ _
theorem beq_eq_decide' {α : Type} [BEq α] [LawfulBEq α] [DecidableEq α] (a b : α) : (a == b) = decide (a = b) := by
  by_cases h : a = b
  · rw [decide_eq_true h]
    exact beq_iff_eq.mpr h
  · rw [decide_eq_false h]
    exact beq_eq_false_iff_ne.mpr h
theorem kD_eqv {a b : Key} : PyData.eqv (kD a) (kD b) = decide (a = b) := by
  cases a <;> cases b <;> simp [kD, PyData.eqv, beq_eq_decide']
theorem kLt_irr (a : Key) : kLt a a = false := by
  cases a with
  | inl a => simp [kLt]
  | inr a =>
    refine decide_eq_false fun h => ?_
    exact absurd h (List.lt_irrefl _)
theorem kLt_trans {a b c : Key} (h1 : kLt a b = true) (h2 : kLt b c = true) : kLt a c = true := by
  rcases a with a | a <;> rcases b with b | b <;> rcases c with c | c <;> first | exact absurd h1 Bool.false_ne_true | exact absurd h2 Bool.false_ne_true | skip
  · have e1 := of_decide_eq_true h1
    have e2 := of_decide_eq_true h2
    exact decide_eq_true (by omega)
  · have e1 := of_decide_eq_true h1
    have e2 := of_decide_eq_true h2
    exact decide_eq_true (List.lt_trans e1 e2)
theorem eLt_trans {a b c : Int × Key} (h1 : eLt a b = true) (h2 : eLt b c = true) : eLt a c = true := by
  simp only [eLt, Bool.or_eq_true, Bool.and_eq_true, decide_eq_true_eq] at *
  rcases h1 with h1 | ⟨e1, h1⟩ <;> rcases h2 with h2 | ⟨e2, h2⟩
  · exact .inl (by omega)
  · exact .inl (by omega)
  · exact .inl (by omega)
  · exact .inr ⟨by omega, kLt_trans h1 h2⟩
theorem eLt_irr (a : Int × Key) : eLt a a = false := by
  simp [eLt, kLt_irr]
theorem toks_key (a : Key) : ∃ t, keyToks (kD a) = [t] := by
  cases a with
  | inl i => exact ⟨.inl i, by simp [kD, keyToks]⟩
  | inr x => exact ⟨.inr x.cps.toList, by simp [kD, keyToks]⟩
theorem lex_irr0 : PyProof.Rows.lexLt itemOrd [Sum.inl 0] [Sum.inl 0] = false := by
  rw [lex_one]
  rfl
theorem pD_lt {x y : Int × Key} (h : kAl x.2 y.2 = true) : dataLt (pD x) (pD y) = eLt x y := by
  have al1 : alike (PyData.int x.1) (PyData.int y.1) = true := rfl
  have al2 : alike (kD x.2) (kD y.2) = true := (kD_alike _ _).trans h
  unfold pD eLt
  rw [dataLt_tuple]
  by_cases e : x.1 = y.1
  · have e1 : PyData.eqv (PyData.int x.1) (PyData.int y.1) = true := by simp [PyData.eqv, e]
    rw [dataLt_all_yes al1 e1]
    have l1 : decide (x.1 < y.1) = false := decide_eq_false (by omega)
    rw [l1, decide_eq_true e, Bool.false_or, Bool.true_and]
    by_cases e2 : x.2 = y.2
    · have e3 : PyData.eqv (kD x.2) (kD y.2) = true := by
        rw [kD_eqv]
        exact decide_eq_true e2
      rw [dataLt_all_yes al2 e3, e2, kLt_irr]
      simp only [keyToksAll]
      exact lex_irr0
    · have e3 : PyData.eqv (kD x.2) (kD y.2) = false := by
        rw [kD_eqv]
        exact decide_eq_false e2
      rw [dataLt_all_no al2 e3, kD_lt h]
  · have e1 : PyData.eqv (PyData.int x.1) (PyData.int y.1) = false := by simp [PyData.eqv, e]
    rw [dataLt_all_no al1 e1, dataLt_int, decide_eq_false e, Bool.false_and, Bool.or_false]
theorem argBest_min {α : Type} (f : α → α → Bool) (x : Nat → α) (tr : ∀ a b c, f a b = true → f b c = true → f a c = true) (ir : ∀ a, f a a = false) : ∀ k, argBest (fun i j => f (x i) (x j)) k ≤ k ∧ ∀ j, j ≤ k → f (x j) (x (argBest (fun i j => f (x i) (x j)) k)) = false
  | 0 => ⟨Nat.le_refl _, fun j hj => by
    obtain rfl : j = 0 := by omega
    exact ir _⟩
  | k + 1 => by
    obtain ⟨h1, h2⟩ := argBest_min f x tr ir k
    by_cases c : f (x (k + 1)) (x (argBest (fun i j => f (x i) (x j)) k)) = true
    · have e : argBest (fun i j => f (x i) (x j)) (k + 1) = k + 1 := by
        show (if f (x (k + 1)) (x (argBest (fun i j => f (x i) (x j)) k)) = true then k + 1 else _) = _
        rw [if_pos c]
      rw [e]
      refine ⟨Nat.le_refl _, fun j hj => ?_⟩
      by_cases hj2 : j = k + 1
      · rw [hj2]
        exact ir _
      · have h3 := h2 j (by omega)
        cases q : f (x j) (x (k + 1)) with
        | false => rfl
        | true =>
          rw [tr _ _ _ q c] at h3
          exact nomatch h3
    · have e : argBest (fun i j => f (x i) (x j)) (k + 1) = argBest (fun i j => f (x i) (x j)) k := by
        show (if f (x (k + 1)) (x (argBest (fun i j => f (x i) (x j)) k)) = true then k + 1 else _) = _
        rw [if_neg c]
      rw [e]
      refine ⟨by omega, fun j hj => ?_⟩
      by_cases hj2 : j = k + 1
      · rw [hj2]
        simpa using c
      · exact h2 j (by omega)
theorem argBest_congr (f g : Nat → Nat → Bool) : ∀ k, (∀ i, i ≤ k → ∀ j, j ≤ k → f i j = g i j) → argBest f k = argBest g k
  | 0, _ => rfl
  | k + 1, h => by
    have e := argBest_congr f g k fun i hi j hj => h i (by omega) j (by omega)
    have le : ∀ k, argBest g k ≤ k := fun k => by
      induction k with
      | zero => exact Nat.le_refl _
      | succ k ih =>
        show (if g (k + 1) (argBest g k) = true then k + 1 else argBest g k) ≤ k + 1
        split <;> omega
    have e2 := h (k + 1) (Nat.le_refl _) (argBest g k) (Nat.le_trans (le k) (Nat.le_succ k))
    show (if f (k + 1) (argBest f k) = true then k + 1 else argBest f k) = if g (k + 1) (argBest g k) = true then k + 1 else argBest g k
    rw [e, e2]
section
variable {X : Cx}
theorem dpAll_pairs {K : PySem.W.Frag} {H : Hp} : ∀ {ps : List (Addr × Int × Key)}, (∀ z ∈ ps, SqT K H z.1 [.int z.2.1, kV z.2.2]) → DpAll K H (ps.map fun z => V.ref z.1) (ps.map fun z => pD z.2)
  | [], _ => .nil
  | z :: ps, h => .cons (.tup (h z List.mem_cons_self) (.cons (.int _) (.cons (by
      cases z.2.2 with
      | inl i => exact .int i
      | inr x => exact .str x) .nil))) (dpAll_pairs fun y hy => h y (List.mem_cons_of_mem _ hy))
theorem depth_pairs : ∀ ps : List (Addr × Int × Key), PyData.depthAll (ps.map fun z => pD z.2) ≤ 4
  | [] => by simp [PyData.depthAll]
  | z :: ps => by
    have h := depth_pairs ps
    have h2 : (pD z.2).depth ≤ 4 := by
      unfold pD
      cases z.2.2 <;> simp [kD, PyData.depth, PyData.depthAll]
    simp only [List.map_cons, PyData.depthAll]
    omega
theorem call_minP (hc : X.calm = true) (hu : X.A.units + 8 < cLine) : CallR X (.builtin "min") (fun xs H Q => ∃ (p : Addr) (ps : List (Addr × Int × Key)), xs = [.ref p] ∧ SqL X.K H p (ps.map fun z => V.ref z.1) ∧ ps ≠ [] ∧ (∀ z ∈ ps, SqT X.K H z.1 [.int z.2.1, kV z.2.2]) ∧
    (∀ y ∈ ps, ∀ z ∈ ps, kAl y.2.2 z.2.2 = true) ∧ ∀ z ∈ ps, (∀ y ∈ ps, eLt y.2 z.2 = false) → Q (.ref z.1) H) := by
  intro pins s σ H xs us Q I r q
  obtain ⟨p, ps, rfl, hl, hne, ht, hal, q⟩ := q
  obtain ⟨u, rfl, rx⟩ := vals1 r
  cases rx
  obtain ⟨its, rv, pl, hz⟩ := I.list hl
  obtain ⟨as, hr⟩ := Dp.readsAll I _ _ _ (dpAll_pairs ht) rv
  have hlen := rv.length
  rw [List.length_map] at hlen
  have halike : AlikeAll (ps.map fun z => pD z.2) := by
    refine ⟨fun x hx y hy => ?_, fun x hx => ?_⟩
    · obtain ⟨a, ha, rfl⟩ := List.mem_map.mp hx
      obtain ⟨b, hb, rfl⟩ := List.mem_map.mp hy
      have e := hal a ha b hb
      simp only [pD, alike, alikeAll, kD_alike, e, Bool.and_true]
    · obtain ⟨a, ha, rfl⟩ := List.mem_map.mp hx
      exact fun z => nomatch z
  have hdep := depth_pairs ps
  have hpos : 0 < ps.length := List.length_pos_iff.mpr hne
  refine call_min_walkH (iter_listW (A := X.A.in1) (I.ok.hd hc) pl.isList fun s₂ e W st hfp hw hk => ?_)
  refine ⟨_, _, _, _, _, _, _, s.heap, _, rfl, W, st, hfp, by simp; omega, hw, hk, cmpIn_lt (A := X.A.in1) (by simpa using hr) halike (by show X.A.units + 1 + _ < _; omega), fun v s' hP m => ?_⟩
  obtain ⟨h', tk, rfl, hk'⟩ := moved_old e rfl m
  have e1 : its.toArray.size - 1 = ps.length - 1 := by
    simp [hlen]
  rw [e1] at hP
  obtain ⟨x, hx⟩ : ∃ x : Nat → Int × Key, ∀ n (h : n < ps.length), x n = ps[n].2 := ⟨fun n => if h : n < ps.length then ps[n].2 else (0, .inl 0), fun n h => dif_pos h⟩
  have cg : ∀ i, i ≤ ps.length - 1 → ∀ j, j ≤ ps.length - 1 → dataLt ((ps.map fun z => pD z.2).getD i .none) ((ps.map fun z => pD z.2).getD j .none) = eLt (x i) (x j) := by
    intro i hi j hj
    have hi' : i < ps.length := by omega
    have hj' : j < ps.length := by omega
    rw [hx i hi', hx j hj']
    have e2 : ∀ n (h : n < ps.length), (ps.map fun z => pD z.2).getD n .none = pD ps[n].2 := fun n h => by simp [List.getD_eq_getElem?_getD, List.getElem?_eq_getElem h]
    rw [e2 i hi', e2 j hj']
    exact pD_lt (hal _ (List.getElem_mem _) _ (List.getElem_mem _))
  have e3 := argBest_congr _ (fun i j => eLt (x i) (x j)) (ps.length - 1) cg
  rw [e3] at hP
  obtain ⟨b1, b2⟩ := argBest_min eLt x (fun _ _ _ => eLt_trans) eLt_irr (ps.length - 1)
  generalize argBest (fun i j => eLt (x i) (x j)) (ps.length - 1) = m0 at hP b1 b2
  have hm : m0 < ps.length := by omega
  have hv : (ps.map fun z => V.ref z.1)[m0]? = some (.ref ps[m0].1) := by simp [List.getElem?_eq_getElem hm]
  obtain ⟨u, hu1, hu2⟩ := rv.get hv
  have hP' : its[m0]? = some v := by simpa using hP
  rw [hP'] at hu1
  cases hu1
  refine ⟨.ref ps[m0].1, H, I.kept (t' := tk) hk', hu2, q _ (List.getElem_mem hm) fun y hy => ?_⟩
  obtain ⟨n, hn, rfl⟩ := List.mem_iff_getElem.mp hy
  have h3 := b2 n (by omega)
  rw [hx n hn, hx m0 hm] at h3
  exact h3
end
end Kn

set_option Elab.async false
set_option linter.all false
set_option maxRecDepth 100000
set_option maxHeartbeats 4000000
/-! Rules, seventh part: sorted(d), d with tuple keys, and lists of such. -/
namespace Kn
open PySem PySem.Spec PyProof.Rows L2 PySem.W
theorem perm_map {α β : Type} (f : α → β) : ∀ {l m : List β}, l.Perm m → ∀ zs : List α, m = zs.map f → ∃ ys : List α, ys.Perm zs ∧ l = ys.map f := by
  intro l m h
  induction h with
  | nil =>
    intro zs e
    cases zs with
    | nil => exact ⟨[], .refl _, rfl⟩
    | cons z zs => exact nomatch e
  | cons x _ ih =>
    intro zs e
    cases zs with
    | nil => exact nomatch e
    | cons z zs =>
      rw [List.map_cons] at e
      injection e with e1 e2
      obtain ⟨ys, p, q⟩ := ih zs e2
      exact ⟨z :: ys, p.cons z, by rw [List.map_cons, e1, q]⟩
  | swap x y l =>
    intro zs e
    cases zs with
    | nil => exact nomatch e
    | cons z zs =>
      cases zs with
      | nil => exact nomatch e
      | cons z2 zs =>
        rw [List.map_cons, List.map_cons] at e
        injection e with e1 e2
        injection e2 with e2 e3
        exact ⟨z2 :: z :: zs, .swap _ _ _, by rw [List.map_cons, List.map_cons, e1, e2, e3]⟩
  | trans _ _ ih1 ih2 =>
    intro zs e
    obtain ⟨ys, p, q⟩ := ih2 zs e
    obtain ⟨xs, p2, q2⟩ := ih1 ys q
    exact ⟨xs, p2.trans p, q2⟩
def isTx : Key → Bool
  | .inl _ => false
  | .inr _ => true
/-- the keys' places are of one kind each -/
def ShapeOk (shape : Nat → Bool) (k : List Key) : Prop := ∀ (i : Nat) (x : Key), k[i]? = some x → isTx x = shape i
theorem tupItems_ok {shape : Nat → Bool} : ∀ (k : List Key) (us : List Value) (i : Nat), Vals (k.map kV) us → (∀ (j : Nat) (x : Key), k[j]? = some x → isTx x = shape (i + j)) → ∃ l, tupItems shape i us = some l
  | [], _, _, r, _ => by
    cases r
    exact ⟨[], rfl⟩
  | x :: k, _, i, r, h => by
    cases r with
    | cons r1 r2 =>
      obtain ⟨l, e⟩ := tupItems_ok k _ (i + 1) r2 fun j y hy => by
        have := h (j + 1) y (by simpa using hy)
        rw [this]
        exact congrArg shape (by omega)
      have h0 := h 0 x rfl
      rw [Nat.add_zero] at h0
      cases x with
      | inl n =>
        obtain ⟨t, rfl⟩ := r1
        refine ⟨.inl n :: l, ?_⟩
        show (if shape i = true then none else (tupItems shape (i + 1) _).map (Sum.inl n :: ·)) = _
        rw [← h0, if_neg (by intro z; exact nomatch z), e]
        rfl
      | inr y =>
        obtain ⟨t, rfl⟩ := r1
        refine ⟨.inr y.cps.toList :: l, ?_⟩
        show (if shape i = true then (tupItems shape (i + 1) _).map (Sum.inr y.cps.toList :: ·) else none) = _
        rw [← h0, if_pos (show isTx (Sum.inr y) = true from rfl), e]
        rfl
section
variable {X : Cx}
theorem tup_obj {P : Program} {w : World} {H : Hp} {h : Heap} {b : Addr} {xs : List V} (ok : HOk P w H h) (e : H b = some (.tup xs)) : ∃ (o : Obj) (its : List Value) (n : Nat), h.get? b = some o ∧ o.cls = .type "tuple" ∧ o.data = .seq its.toArray n ∧ Vals xs its := by
  obtain ⟨_, its, r, o, h1, h2, n, h3⟩ := (show ObjOk P w H h b (.tup xs) from ok b _ e)
  exact ⟨o, its, n, h1, h2, h3, r⟩
theorem tupKeyC_of {P : Program} {w : World} {H : Hp} {h : Heap} {b : Addr} {k : List Key} {shape : Nat → Bool} (ok : HOk P w H h) (e : H b = some (.tup (k.map kV))) (sh : ShapeOk shape k) : ∃ l, G.tupKeyC h shape (.ref b) = some l := by
  obtain ⟨o, its, n, h1, h2, h3, r⟩ := tup_obj ok e
  obtain ⟨l, hl⟩ := tupItems_ok (shape := shape) k its 0 r fun j x hx => by rw [Nat.zero_add]; exact sh j x hx
  refine ⟨l, ?_⟩
  unfold G.tupKeyC
  have c1 : G.isTupObj h (.ref b) = true := by
    simp only [G.isTupObj, h1, h2]
    rfl
  rw [if_pos c1]
  simp only [tupKey, h1, h3]
  exact hl
theorem tupsOf_of {P : Program} {w : World} {H : Hp} {h : Heap} {shape : Nat → Bool} (ok : HOk P w H h) : ∀ zs : List (List Key × Addr), (∀ z ∈ zs, H z.2 = some (.tup (z.1.map kV)) ∧ ShapeOk shape z.1 ∧ z.1 ≠ []) → ∃ fs, TupsOf h shape (zs.map fun z => Value.ref z.2) fs
  | [], _ => ⟨[], .nil⟩
  | z :: zs, hz => by
    obtain ⟨fs, r⟩ := tupsOf_of ok zs fun y hy => hz y (List.mem_cons_of_mem _ hy)
    obtain ⟨e, sh, ne⟩ := hz z List.mem_cons_self
    obtain ⟨o, its, n, h1, h2, h3, rv⟩ := tup_obj ok e
    obtain ⟨k, b⟩ := z
    cases k with
    | nil => exact absurd rfl ne
    | cons x k =>
      cases rv with
      | @cons _ u _ us r1 r2 =>
        have s0 := sh 0 x rfl
        refine ⟨u :: fs, .cons ⟨b, o, _, n, rfl, h1, h2, h3, rfl, fun f => ?_, fun t => ?_⟩ r⟩
        · rw [f] at s0
          cases x with
          | inl i =>
            obtain ⟨t, rfl⟩ := r1
            exact ⟨i, t, rfl⟩
          | inr y => exact nomatch s0
        · rw [t] at s0
          cases x with
          | inl i => exact nomatch s0
          | inr y =>
            obtain ⟨t, rfl⟩ := r1
            exact ⟨y, t, rfl⟩
theorem sorted_vals {vs : List Value} {st' : SortSt} (p : (arrOf st').Perm (pairsOf vs)) : ((arrOf st').map (·.2)).toList.Perm vs := by
  have h := Array.perm_iff_toList_perm.mp p
  rw [pairsOf_toList] at h
  have h2 := h.map (·.2)
  rw [Array.toList_map]
  refine h2.trans ?_
  rw [List.map_snd_zip (Nat.le_refl _)]
theorem call_sortedDT (hcalm : X.calm = true) : CallR X (.builtin "sorted") (fun xs H Q => ∃ (a : Addr) (kvs : List (List Key × V)) (shape : Nat → Bool), xs = [.ref a] ∧ Rd H a (.dT kvs) ∧ (∀ z ∈ kvs, ShapeOk shape z.1) ∧ (kvs.length ≤ 1 ∨ ∀ z ∈ kvs, z.1 ≠ []) ∧
    ∀ (ys : List (List Key × Addr)) (p : Addr), (ys.map (·.1)).Perm (kvs.map (·.1)) → (∀ z ∈ ys, H z.2 = some (.tup (z.1.map kV))) → H p = none → Q (.ref p) (upd H p (.lst (ys.map fun z => V.ref z.2)))) := by
  intro pins s σ H xs us Q I r q
  obtain ⟨a, kvs, shape, rfl, hd, hsh, hne, q⟩ := q
  obtain ⟨u, rfl, rx⟩ := vals1 r
  cases rx
  obtain ⟨lo, hz, es, ep, ⟨o, ho, hx, hdat⟩, hsz, hat⟩ := dT_raw (hd.ok I.hok)
  have h16 : es.size ≤ sizeLine := by omega
  refine Calls.call_function_entry PyProof.Rows.kind_sorted PyProof.Rows.plain_sorted PyProof.Rows.entry_sorted (PyProof.Rows.args_sorted1 _) ?_
  unfold Builtin.«sorted»
  refine wpAny_bind (m := checkCount "sorted" 1 1 _) (wpAny_pure ?_)
  refine wpAny_bind (PySem.W.kdu_collect (A := X.A.in1) (kdl_raw lo hx hdat) (I.ok.hd hcalm) ho h16 fun h' tk acc hk hacc => ?_)
  have I1 : Inv X pins σ H { s with heap := h', toks := tk } := I.kept hk
  -- the keys with their addresses
  have hb : ∀ (i : Nat) (hi : i < kvs.length), ∃ b : Addr, acc[i]? = some (.ref b) ∧ H b = some (.tup (kvs[i].1.map kV)) := fun i hi => by
    have hi2 : i < es.size := by omega
    obtain ⟨b, e1, e2, _⟩ := hat i hi2 kvs[i].1 kvs[i].2 (List.getElem?_eq_getElem hi)
    have hi3 : i < acc.size := by rw [hacc.1]; exact hi2
    obtain ⟨en, e3, e4⟩ := hacc.2 i acc[i] (Array.getElem?_eq_getElem hi3)
    rw [Array.getElem?_eq_getElem hi2] at e3
    cases e3
    exact ⟨b, by rw [Array.getElem?_eq_getElem hi3, e4, e1], e2⟩
  obtain ⟨zs, hz1, hz2, hz3⟩ : ∃ zs : List (List Key × Addr), zs.map (·.1) = kvs.map (·.1) ∧ acc.toList = zs.map (fun z => Value.ref z.2) ∧ ∀ z ∈ zs, H z.2 = some (.tup (z.1.map kV)) := by
    have hal : acc.toList.length = kvs.length := by rw [Array.length_toList, hacc.1, hsz]
    have gen : ∀ (kvs : List (List Key × V)) (l : List Value), l.length = kvs.length → (∀ (i : Nat) (hi : i < kvs.length), ∃ b : Addr, l[i]? = some (.ref b) ∧ H b = some (.tup (kvs[i].1.map kV))) →
        ∃ zs : List (List Key × Addr), zs.map (·.1) = kvs.map (·.1) ∧ l = zs.map (fun z => Value.ref z.2) ∧ ∀ z ∈ zs, H z.2 = some (.tup (z.1.map kV)) := by
      intro kvs
      induction kvs with
      | nil =>
        intro l hl _
        exact ⟨[], rfl, List.eq_nil_of_length_eq_zero hl, fun z hz => nomatch hz⟩
      | cons p kvs ih =>
        intro l hl h
        cases l with
        | nil => exact nomatch hl
        | cons v l =>
          obtain ⟨zs, a1, a2, a3⟩ := ih l (by simpa using hl) fun i hi => by
            obtain ⟨b, e1, e2⟩ := h (i + 1) (by simpa using hi)
            exact ⟨b, by simpa using e1, by simpa using e2⟩
          obtain ⟨b, e1, e2⟩ := h 0 (by simp)
          have e1' : v = .ref b := by simpa using e1
          refine ⟨(p.1, b) :: zs, by simp [a1], by simp [a2, e1'], fun z hz => ?_⟩
          rcases List.mem_cons.mp hz with rfl | hz
          · exact e2
          · exact a3 z hz
    exact gen kvs acc.toList hal fun i hi => by
      obtain ⟨b, e1, e2⟩ := hb i hi
      exact ⟨b, by rw [Array.getElem?_toList]; exact e1, e2⟩
  have hkeys : ∀ z ∈ zs, ∃ y ∈ kvs, y.1 = z.1 := fun z hz => by
    have : z.1 ∈ zs.map (·.1) := List.mem_map.mpr ⟨z, hz, rfl⟩
    rw [hz1] at this
    obtain ⟨y, hy, e⟩ := List.mem_map.mp this
    exact ⟨y, hy, e⟩
  have hlen : zs.length = kvs.length := by
    have := congrArg List.length hz1
    simpa using this
  have hal : acc.toList.length = kvs.length := by rw [hz2, List.length_map, hlen]
  rw [hz2]
  rw [hz2, List.length_map] at hal
  refine wpAny_bind (wpAny_newList ?_ (by simp; omega))
  have hoL : (h'.push (seqObj "list" (zs.map fun z => Value.ref z.2).toArray 0)).get? h'.objs.size = some (seqObj "list" (zs.map fun z => Value.ref z.2).toArray 0) := Heap.get?_push_size _ rfl
  show wpAny _ _ _ _ _ { s with heap := h'.push (seqObj "list" (zs.map fun z => Value.ref z.2).toArray 0), toks := tk }
  have ok2 : HOk X.prog X.w H (h'.push (seqObj "list" (zs.map fun z => Value.ref z.2).toArray 0)) := I1.hok.kept fun b u e => Heap.get?_push_of_some _ e
  have hk1 : ∀ v, v ∈ (zs.map fun z => Value.ref z.2) → ∃ l, G.tupKeyC (h'.push (seqObj "list" (zs.map fun z => Value.ref z.2).toArray 0)) shape v = some l := fun v hv => by
    obtain ⟨z, hz, rfl⟩ := List.mem_map.mp hv
    obtain ⟨y, hy, e⟩ := hkeys z hz
    exact tupKeyC_of ok2 (hz3 z hz) (by rw [← e]; exact hsh y hy)
  have k6 := G.keeps_sort6 (vs := zs.map fun z => Value.ref z.2) hoL
  have fin : ∀ st' : SortSt, (arrOf st').Perm (pairsOf (zs.map fun z => Value.ref z.2)) → EP X pins σ Q (.ref h'.objs.size) { s with heap := sortedHeap (h'.push (seqObj "list" (zs.map fun z => Value.ref z.2).toArray 0)) h'.objs.size (zs.map fun z => Value.ref z.2) ((arrOf st').map (·.2)), toks := tk } := by
    intro st' hp
    obtain ⟨ys, p1, p2⟩ := perm_map (fun z : List Key × Addr => Value.ref z.2) (sorted_vals hp) zs rfl
    obtain ⟨e', he'⟩ := PyProof.Rows.sortedHeap_at (vs := zs.map fun z => Value.ref z.2) (out := (arrOf st').map (·.2)) hoL
    have hl2 : (ys.map fun z => V.ref z.2).length ≤ sizeLine := by
      rw [List.length_map, p1.length_eq]
      omega
    have rv : Vals (ys.map fun z => V.ref z.2) ((arrOf st').map (·.2)).toList := by
      rw [p2]
      have gen : ∀ l : List (List Key × Addr), Vals (l.map fun z => V.ref z.2) (l.map fun z => Value.ref z.2) := fun l => by
        induction l with
        | nil => exact .nil
        | cons z l ih => exact .cons rfl ih
      exact gen ys
    refine ⟨.ref h'.objs.size, upd H h'.objs.size (.lst (ys.map fun z => V.ref z.2)), I1.laid (t' := tk) (fun b u e => ?_) (Nat.le_refl _)
      (show ObjOk X.prog X.w _ _ _ (.lst (ys.map fun z => V.ref z.2)) from ⟨hl2, ((arrOf st').map (·.2)).toList, e', rv, by rw [Array.toArray_toList]; exact he'⟩), rfl, q ys _ ?_ (fun z hz => hz3 z (p1.mem_iff.mp hz)) (I1.hok.fresh (Nat.le_refl _))⟩
    · have hb : b < h'.objs.size := Heap.lt_size e
      rw [PyProof.Rows.sortedHeap_old (Nat.ne_of_lt hb) (by rw [size_push']; exact Nat.lt_succ_of_lt hb)]
      exact Heap.get?_push_of_some _ e
    · rw [← hz1]
      exact p1.map _
  refine wpAny_bind (wpAny_holding (wpAny_call_entry PyProof.Rows.slot_list_sort ⟨_, hoL, rfl⟩ PyProof.Rows.entry_list_sort
    (G.list_sort_treeG (s := { s with heap := h'.push (seqObj "list" (zs.map fun z => Value.ref z.2).toArray 0), toks := tk }) (κ := G.tupKindC (h'.push (seqObj "list" (zs.map fun z => Value.ref z.2).toArray 0)) shape) (kd := tuples' true) hoL (G.tupKeys hk1) (G.tupC_ltAt true k6) (fun h2 R hq => ?_) (by simp; omega)
      fun st' hp _ _ => ⟨_, rfl, wpAny_pure ⟨_, rfl, fin st' hp⟩⟩) (PyProof.Rows.args_list_sort _)))
  have hn1 : ∀ z ∈ kvs, z.1 ≠ [] := by
    rcases hne with h | h
    · rw [List.length_map] at h2
      omega
    · exact h
  obtain ⟨fs, ht⟩ := tupsOf_of (shape := shape) ok2 zs fun z hz => by
    obtain ⟨y, hy, e⟩ := hkeys z hz
    exact ⟨hz3 z hz, by rw [← e]; exact hsh y hy, by rw [← e]; exact hn1 y hy⟩
  exact tup_kind (by rw [G.TupsOf.length ht]; omega) (G.TupsOf.keep k6 ht) hq
end
end Kn

set_option Elab.async false
set_option linter.all false
set_option maxRecDepth 100000
set_option maxHeartbeats 4000000
/-! Tools of the walks. -/
namespace Kn
open PySem PySem.Spec PyProof.Rows L2
abbrev FnP (K : PySem.W.Frag) (x : Str) (st : Stmt) (f : Addr) (fd : FuncData) : Prop := FunD K x x (defArgs st) (defBody st) (defScope st) [] [] f fd
theorem same_upd {H : Hp} {p : Addr} {o : HO} (h : H p = none) : Same H (upd H p o) := fun b x e => by
  rw [upd_ne (ne_of_none e h)]
  exact e
theorem same_lock {H H' : Hp} {d : Addr} {u x : HO} (h : H d = some u) (s : Same (upd H d x) H') : Same H (upd H' d u) := fun b o e => by
  by_cases hb : b = d
  · subst hb
    rw [h] at e
    cases e
    exact upd_same
  · rw [upd_ne hb]
    exact s b o (by rw [upd_ne hb]; exact e)
/-- all but the thing at l stands -/
def SameX (l : Addr) (H H' : Hp) : Prop := ∀ b o, b ≠ l → H b = some o → H' b = some o
theorem SameX.refl (l : Addr) (H : Hp) : SameX l H H := fun _ _ _ e => e
theorem SameX.trans {l : Addr} {H H1 H2 : Hp} (a : SameX l H H1) (b : SameX l H1 H2) : SameX l H H2 := fun c o n e => b c o n (a c o n e)
theorem SameX.of {l : Addr} {H H' : Hp} (s : Same H H') : SameX l H H' := fun b o _ e => s b o e
theorem SameX.upd (l : Addr) (H : Hp) (o : HO) : SameX l H (upd H l o) := fun b x n e => by rw [upd_ne n]; exact e
theorem SameX.ins {l p : Addr} {H H' : Hp} {o : HO} (s : SameX l H H') (n : H' p = none) : SameX l H (L2.upd H' p o) := s.trans (SameX.of (same_upd n))
theorem SameX.free {l D : Addr} {H H' : Hp} (s : SameX l H H') (hd : D ≠ l) (n : H' D = none) : H D = none := by
  cases e : H D with
  | none => rfl
  | some o => exact absurd (s D o hd e) (by rw [n]; intro z; exact nomatch z)
theorem SameX.seq {K : PySem.W.Frag} {H H' : Hp} {l a : Addr} {xs : List V} (e : SameX l H H') (hl : a ≠ l) (h : SqL K H a xs) : SqL K H' a xs := by
  rcases h with (h | ⟨o, h⟩) | h
  · exact .inl (.inl (e _ _ hl h))
  · exact .inl (.inr ⟨o, e _ _ hl h⟩)
  · exact .inr h
theorem SameX.seqT {K : PySem.W.Frag} {H H' : Hp} {l a : Addr} {xs : List V} (e : SameX l H H') (hl : a ≠ l) (h : SqT K H a xs) : SqT K H' a xs := by
  rcases h with (h | ⟨o, h⟩) | h
  · exact .inl (.inl (e _ _ hl h))
  · exact .inl (.inr ⟨o, e _ _ hl h⟩)
  · exact .inr h
theorem same_seqT {K : PySem.W.Frag} {H H' : Hp} {a : Addr} {xs : List V} (e : Same H H') (h : SqT K H a xs) : SqT K H' a xs := by
  rcases h with (h | ⟨o, h⟩) | h
  · exact .inl (.inl (e _ _ h))
  · exact .inl (.inr ⟨o, e _ _ h⟩)
  · exact .inr h
/-- a loop by its turns: a body in any shape -/
theorem walk_w {J : It} {n : Nat} {G : Hp → Prop} {Y : Nat → Hp → V → Hp → Prop} (w : Walk J n G Y) {H0 : Hp} {B : (Hp → Prop) → V → Hp → Prop} {Fin : Hp → Prop} (Pv : Nat → Hp → Prop) (h0 : Pv 0 H0) (hG : ∀ i H, i ≤ n → Pv i H → G H)
    (hs : ∀ i x H H', i < n → Pv i H → Y i H x H' → B (Pv (i + 1)) x H') (hd : ∀ H, Pv n H → Fin H) :
    ∃ W : Nat → Nat → Hp → Prop, (∃ m, W 0 m H0) ∧ ∀ i m H, W i m H → (J.stop i H ∧ Fin H) ∨ (J.go i H ∧ ∃ Nx : Hp → Prop, (∀ H', Nx H' → ∃ m', m' < m ∧ W (i + 1) m' H') ∧ ∀ x H', J.yld i H x H' → B Nx x H') := by
  refine ⟨fun i m H => m = n - i ∧ i ≤ n ∧ Pv i H, ⟨n, by simp, Nat.zero_le _, h0⟩, ?_⟩
  rintro i m H ⟨rfl, hi, p⟩
  have q := hG i H hi p
  by_cases hlt : i < n
  · exact .inr ⟨w.goes i H hlt q, Pv (i + 1), fun H' p' => ⟨n - (i + 1), by omega, rfl, hlt, p'⟩, fun x H' y => hs i x H H' hlt p (w.yields i H x H' hlt q y)⟩
  · have e : i = n := by omega
    subst e
    exact .inl ⟨w.stops H q, hd H p⟩
theorem dg_it {J : It} {n : Nat} {G : Hp → Prop} {Y : Nat → Hp → V → Hp → Prop} (w : Walk J n G Y) {g : TG} {tt : TT} {tk tv : TE} {vs : List Nat} {σ : St} {Q : VK} {D : Addr} {H0 : Hp} (Pv : Nat → Hp → Prop) (h0 : Pv 0 H0) (hG : ∀ i H, i ≤ n → Pv i H → G H)
    (hs : ∀ i x H H', i < n → Pv i H → Y i H x H' → g x (wipe σ vs) H' fun σ2 H2 => wipe σ2 vs = wipe σ vs ∧ tt σ2 H2 fun b H3 =>
      if b = true then tk σ2 H3 fun y H4 => tv σ2 H4 fun z H5 => ∃ H6, DPut H5 D y z H6 ∧ Pv (i + 1) H6 else Pv (i + 1) H3) (hd : ∀ H, Pv n H → Q (.ref D) H) : gDg g tt tk tv vs σ Q J D H0 :=
  walk_w w Pv h0 hG hs hd
/-! ### assoc lists of any value -/
section
variable {κ α : Type} [DecidableEq κ]
def look (kvs : List (κ × α)) (k : κ) : Option α := (kvs.find? fun e => decide (e.1 = k)).map (·.2)
def put (kvs : List (κ × α)) (k : κ) (v : α) : List (κ × α) := if (kvs.any fun e => decide (e.1 = k)) = true then kvs.map (fun e => if e.1 = k then (e.1, v) else e) else kvs ++ [(k, v)]
theorem look_nil {k : κ} : look ([] : List (κ × α)) k = none := rfl
theorem look_cons {p : κ × α} {r : List (κ × α)} {k : κ} : look (p :: r) k = if p.1 = k then some p.2 else look r k := by
  unfold look
  by_cases h : p.1 = k
  · rw [List.find?_cons_of_pos (by simpa using h), if_pos h]
    rfl
  · rw [List.find?_cons_of_neg (by simpa using h), if_neg h]
theorem look_any (k : κ) : ∀ kvs : List (κ × α), (kvs.any fun e => decide (e.1 = k)) = (look kvs k).isSome
  | [] => rfl
  | p :: r => by
    rw [List.any_cons, look_cons, look_any k r]
    by_cases h : p.1 = k
    · simp [h]
    · simp [h]
theorem look_map (k j : κ) (y : α) : ∀ kvs : List (κ × α), look (kvs.map fun e => if e.1 = k then (e.1, y) else e) j = (look kvs j).map fun x => if j = k then y else x
  | [] => rfl
  | p :: r => by
    rw [List.map_cons, look_cons, look_cons, look_map k j y r]
    by_cases h : p.1 = k
    · rw [if_pos h]
      by_cases h2 : p.1 = j
      · have h3 : j = k := h2.symm.trans h
        simp [h2, h3]
      · simp only [h2, if_false]
    · rw [if_neg h]
      by_cases h2 : p.1 = j
      · have h3 : ¬ j = k := fun z => h (h2.trans z)
        simp [h2, h3]
      · simp only [h2, if_false]
theorem look_snoc (k j : κ) (y : α) : ∀ kvs : List (κ × α), look kvs k = none → look (kvs ++ [(k, y)]) j = if j = k then some y else look kvs j
  | [], _ => by
    rw [List.nil_append, look_cons, look_nil]
    by_cases h : j = k
    · rw [if_pos h.symm, if_pos h]
    · rw [if_neg (Ne.symm h), if_neg h]
  | p :: r, hk => by
    rw [look_cons] at hk
    rw [List.cons_append, look_cons, look_cons]
    by_cases h : p.1 = k
    · rw [if_pos h] at hk
      exact nomatch hk
    · rw [if_neg h] at hk
      rw [look_snoc k j y r hk]
      by_cases h2 : p.1 = j
      · have h3 : ¬ j = k := fun z => h (h2.trans z)
        simp [h2, h3]
      · simp only [h2, if_false]
theorem look_put (kvs : List (κ × α)) (k j : κ) (y : α) : look (put kvs k y) j = if j = k then some y else look kvs j := by
  unfold put
  rw [look_any]
  cases h : look kvs k with
  | none => exact look_snoc k j y kvs h
  | some x =>
    rw [Option.isSome_some, if_pos rfl, look_map]
    by_cases h2 : j = k
    · rw [h2, h, if_pos rfl]
      simp
    · rw [if_neg h2]
      simp [h2]
theorem look_in {kvs : List (κ × α)} {k : κ} {v : α} (h : look kvs k = some v) : (k, v) ∈ kvs := by
  unfold look at h
  rw [Option.map_eq_some_iff] at h
  obtain ⟨e, h1, h2⟩ := h
  have h3 := List.find?_some h1
  have h4 := List.mem_of_find?_eq_some h1
  have h5 : e.1 = k := by simpa using h3
  rw [← h5, ← h2]
  exact h4
theorem look_key {kvs : List (κ × α)} {k : κ} {v : α} (h : look kvs k = some v) : k ∈ kvs.map (·.1) := List.mem_map.mpr ⟨_, look_in h, rfl⟩
theorem look_none {kvs : List (κ × α)} {k : κ} : look kvs k = none ↔ k ∉ kvs.map (·.1) := by
  unfold look
  rw [Option.map_eq_none_iff, List.find?_eq_none]
  constructor
  · intro h hm
    obtain ⟨e, he, rfl⟩ := List.mem_map.mp hm
    simpa using h e he
  · intro h e he
    have : e.1 ≠ k := fun z => h (List.mem_map.mpr ⟨e, he, z⟩)
    simpa using this
theorem look_mem {kvs : List (κ × α)} (hn : (kvs.map (·.1)).Nodup) {k : κ} {v : α} (h : (k, v) ∈ kvs) : look kvs k = some v := by
  induction kvs with
  | nil => exact nomatch h
  | cons p r ih =>
    rw [look_cons]
    rw [List.map_cons, List.nodup_cons] at hn
    rcases List.mem_cons.mp h with e | e
    · rw [← e, if_pos rfl]
    · have hne : ¬ p.1 = k := fun z => hn.1 (List.mem_map.mpr ⟨(k, v), e, z.symm⟩)
      rw [if_neg hne]
      exact ih hn.2 e
theorem put_keys (kvs : List (κ × α)) (k : κ) (v : α) : (put kvs k v).map (·.1) = if k ∈ kvs.map (·.1) then kvs.map (·.1) else kvs.map (·.1) ++ [k] := by
  unfold put
  rw [look_any]
  cases h : look kvs k with
  | none =>
    rw [if_neg (look_none.mp h), Option.isSome_none, if_neg Bool.false_ne_true, List.map_append]
    rfl
  | some x =>
    rw [if_pos (look_key h), Option.isSome_some, if_pos rfl, List.map_map]
    refine List.map_congr_left fun e _ => ?_
    show (if e.1 = k then (e.1, v) else e).1 = e.1
    split <;> rfl
theorem put_nodup {kvs : List (κ × α)} (k : κ) (v : α) (hn : (kvs.map (·.1)).Nodup) : ((put kvs k v).map (·.1)).Nodup := by
  rw [put_keys]
  split
  · exact hn
  · rename_i h
    rw [List.nodup_append]
    refine ⟨hn, by simp, fun a ha b hb => ?_⟩
    rw [List.mem_singleton] at hb
    rintro rfl
    exact h (hb ▸ ha)
theorem put_mem {kvs : List (κ × α)} {k : κ} {v : α} {j : κ} (h : j ∈ (put kvs k v).map (·.1)) : j = k ∨ j ∈ kvs.map (·.1) := by
  rw [put_keys] at h
  split at h
  · exact .inr h
  · rcases List.mem_append.mp h with h | h
    · exact .inr h
    · exact .inl (List.mem_singleton.mp h)
theorem len_sub {l m : List κ} (hn : l.Nodup) (h : ∀ x ∈ l, x ∈ m) : l.length ≤ m.length := by
  induction l generalizing m with
  | nil => exact Nat.zero_le _
  | cons x l ih =>
    rw [List.nodup_cons] at hn
    have hx := h x List.mem_cons_self
    have h1 := ih (m := m.erase x) hn.2 fun y hy => by
      have hne : y ≠ x := fun z => hn.1 (z ▸ hy)
      exact (List.mem_erase_of_ne hne).mpr (h y (List.mem_cons_of_mem _ hy))
    have h2 := List.length_erase_of_mem hx
    have h3 := List.length_pos_of_mem hx
    rw [List.length_cons]
    omega
/-- the same, encoded -/
theorem valV_enc {κ' : Type} [DecidableEq κ'] (f : κ → κ') (g : α → V) (hf : ∀ a b, f a = f b → a = b) (k : κ) : ∀ kvs : List (κ × α), valV (kvs.map fun e => (f e.1, g e.2)) (f k) = (look kvs k).map g
  | [] => rfl
  | p :: r => by
    rw [List.map_cons, look_cons]
    by_cases h : p.1 = k
    · rw [if_pos h, valV_pos (by rw [h])]
      rfl
    · rw [if_neg h, valV_neg (fun z => h (hf _ _ z)), valV_enc f g hf k r]
theorem valV_enc_none {κ' : Type} [DecidableEq κ'] (f : κ → κ') (g : α → V) (k' : κ') (hf : ∀ a, f a ≠ k') : ∀ kvs : List (κ × α), valV (kvs.map fun e => (f e.1, g e.2)) k' = none
  | [] => rfl
  | p :: r => by
    rw [List.map_cons, valV_neg (hf _), valV_enc_none f g k' hf r]
theorem putK_enc {κ' : Type} [DecidableEq κ'] (f : κ → κ') (g : α → V) (hf : ∀ a b, f a = f b → a = b) (kvs : List (κ × α)) (k : κ) (v : α) : putK (kvs.map fun e => (f e.1, g e.2)) (f k) (g v) = (put kvs k v).map fun e => (f e.1, g e.2) := by
  unfold putK put
  rw [valV_any, look_any, valV_enc f g hf]
  cases h : look kvs k with
  | none => simp
  | some x =>
    simp only [Option.map_some, Option.isSome_some, if_true, List.map_map]
    refine List.map_congr_left fun e _ => ?_
    show (if f e.1 = f k then (f e.1, g v) else (f e.1, g e.2)) = (f (if e.1 = k then (e.1, v) else e).1, g (if e.1 = k then (e.1, v) else e).2)
    by_cases h2 : e.1 = k
    · rw [if_pos h2, if_pos (by rw [h2])]
    · rw [if_neg h2, if_neg fun z => h2 (hf _ _ z)]
end
/-! ### rules that name the fragment -/
section
variable {X : Cx} {K : PySem.W.Frag}
theorem ixT (h : X.K = K := by rfl) : IxR X (rIxT K) := by
  subst h
  exact ix_tup
theorem ixL (h : X.K = K := by rfl) : IxR X (rIxL K) := by
  subst h
  exact ix_list
theorem ixQ (h : X.K = K := by rfl) : IxR X (rIx K) := by
  subst h
  exact ix_seq
theorem opNotIn (h : X.K = K := by rfl) : OpR X (compareOp .NotIn) (rIn K true) := by
  subst h
  exact op_notIn_seq
theorem piList {tg l : Expr} {tl : TE} (hl : PE X l tl) (h : X.K = K := by rfl) : PI X tg l (iList K tl) := by
  subst h
  exact pi_list hl
theorem piTup {tg l : Expr} {tl : TE} (hl : PE X l tl) (h : X.K = K := by rfl) : PI X tg l (iTup K tl) := by
  subst h
  exact pi_tup hl
theorem pgTup {pos : Pos} {es : List Expr} {k : Nat} {t : TGs} {n : Nat} (hc : X.calm = true) (hp : PGs X es t) (hn : (assignEach es X.env).length = n := by rfl) (hst : (assignEach es X.env).findIdx? (·.1) = none := by rfl) (h : X.K = K := by rfl) : PG X (.Tuple es k pos) (gTup K n t) := by
  subst h
  exact pg_tup hc hp hn hst
end
theorem small64 {n : Nat} (h : n < 64) : n < sizeLine := small1000 (by omega)
end Kn

set_option Elab.async false
set_option linter.all false
set_option maxRecDepth 100000
set_option maxHeartbeats 4000000
/-! Level 1: _law_stream, _law_draw. -/
namespace Kn
open PySem PySem.Spec PyProof.Rows L2
section
variable {P : Program} {w : World} {K : PySem.W.Frag} {mg : Str → Option Value} {base : Heap} {f : Addr} {fd : FuncData}
/-! ### draws -/
abbrev nDraw : List Str := ["_law_stream_here", "_law_size", "_law_found"]
theorem scDraw : FnScope nDraw ["_law_stream_here", "_law_size"] (defScope (top 25)) := ⟨rfl, rfl, rfl, by decide +kernel, rfl, by decide +kernel, by decide +kernel⟩
def StrAt (H : Hp) (s : Addr) : Prop := ∃ a b : Int, H s = some (.lst [.int a, .int b])
def spDraw : Sp := fun vs H Q _ => ∃ (s : Addr) (n : Int), vs = [.ref s, .int n] ∧ StrAt H s ∧ 0 < n ∧ n < 1073741824 ∧ ∀ v a b : Int, 0 ≤ v → v < n → Q (.int v) (upd H s (.lst [.int a, .int b]))
theorem upd_self {H : Hp} {s : Addr} {o : HO} (h : H s = some o) : upd H s o = H := by
  funext b
  by_cases e : b = s
  · rw [e, upd_same, h]
  · rw [upd_ne e]
theorem ok_draw (F : FnP K "_law_draw" (top 25) f fd) : FnOk P w K mg base CX0 1 f fd ["_law_stream_here", "_law_size"] spDraw := by
  refine F.ok scDraw (fun vs H Q E h => ?_) (fun cdv A outer s H vs Q E hr h => ?_)
  · obtain ⟨s, n, rfl, _⟩ := h
    rfl
  · obtain ⟨s, n, rfl, ⟨a, b, hs⟩, h0, h1, q⟩ := h
    refine ⟨_, PSs.nox (pss_cons (ps_if (pt_cmpR op_ge (pe_ix ix_list (pv 0) pe_int (fun _ _ => rfl)) (pv 1) (nomark _))
        (pss_cons (ps_set (i := 2) scDraw.nd rfl (Or.inl rfl) (pe_op op_mod (pe_ix ix_list (pv 0) pe_int (fun _ _ => rfl)) (pv 1)))
          (pss_cons (ps_asg (pe_op op_fdiv (pe_ix ix_list (pv 0) pe_int (fun _ _ => rfl)) (pv 1)) (pg_sub (pv 0) pe_int set_list))
            (pss_one (ps_ret (pv 2))))) pss_nil)
      (pss_cons (ps_asg (pe_op op_mod (pe_op op_add (pe_op op_mul (pe_ix ix_list (pv 0) pe_int (fun _ _ => rfl)) pe_int) pe_int) pe_int) (pg_sub (pv 0) pe_int set_list))
        (pss_one (ps_ret (pe_op op_mod (pe_op op_fdiv (pe_op op_mod (pe_op op_pow (pe_op op_mod (pe_op op_pow (pe_ix ix_list (pv 0) pe_int (fun _ _ => rfl)) pe_int) pe_int) pe_int) pe_int) pe_int) (pv 1)))))), ?_⟩
    have at0 : ∀ x y : Int, atI [V.int x, V.int y] 0 = some (.int x) := fun _ _ => rfl
    have at1 : ∀ x y : Int, atI [V.int x, V.int y] 1 = some (.int y) := fun _ _ => rfl
    refine ⟨_, rfl, _, _, _, _, rfl, rfl, SqL.of hs, at0 a b, _, rfl, _, _, rfl, rfl, _, rfl, ?_⟩
    refine ite2 (fun _ => ?_) (fun _ => ?_)
    · -- digits left
      refine ⟨_, rfl, _, _, _, _, rfl, rfl, SqL.of hs, at0 a b, _, rfl, _, _, rfl, rfl, h0, ?_⟩
      refine ⟨_, rfl, _, _, _, _, rfl, rfl, SqL.of hs, at0 a b, _, rfl, _, _, rfl, rfl, ⟨h0, h1⟩, ?_⟩
      refine ⟨_, rfl, s, _, 0, 0, rfl, rfl, hs, rfl, ?_⟩
      exact ⟨_, rfl, q _ _ _ (Int.emod_nonneg _ (by omega)) (Int.emod_lt_of_pos _ h0)⟩
    · refine ⟨_, rfl, _, _, _, _, rfl, rfl, SqL.of hs, at1 a b, _, _, rfl, rfl, .inr ⟨by decide, by decide⟩, _, _, rfl, rfl, _, _, rfl, rfl, (show (0 : Int) < 2147483647 by decide), ?_⟩
      refine ⟨_, rfl, s, _, 1, 1, rfl, rfl, hs, rfl, ?_⟩
      have m1 : ∀ z : Int, 0 ≤ z % 2147483647 ∧ z % 2147483647 < 2147483647 := fun z => ⟨Int.emod_nonneg _ (by decide), Int.emod_lt_of_pos _ (by decide)⟩
      have m2 : ∀ z : Int, 0 ≤ z % 2147483629 ∧ z % 2147483629 < 2147483629 := fun z => ⟨Int.emod_nonneg _ (by decide), Int.emod_lt_of_pos _ (by decide)⟩
      refine ⟨_, rfl, _, _, _, _, rfl, rfl, SqL.of upd_same, rfl, _, _, rfl, rfl, ⟨by decide, by decide, ?_⟩, _, _, rfl, rfl, (show (0 : Int) < 2147483629 by decide), _, _, rfl, rfl, ⟨by decide, by decide, ?_⟩, _, _, rfl, rfl, (show (0 : Int) < 1000000007 by decide), _, _, rfl, rfl, ⟨by decide, by decide⟩, ?_⟩
      · have := m1 (b * 48271 + 12345)
        omega
      · have := m2 (((b * 48271 + 12345) % 2147483647) ^ (3 : Int).toNat)
        omega
      · exact ⟨_, rfl, _, _, rfl, rfl, h0, q _ _ _ (Int.emod_nonneg _ (by omega)) (Int.emod_lt_of_pos _ h0)⟩
/-! ### the stream -/
abbrev nStream : List Str := ["_law_script", "_law_start", "_law_seed", "_law_entry", "_law_digits"]
theorem scStream : FnScope nStream ["_law_script", "_law_start"] (defScope (top 24)) := ⟨rfl, rfl, rfl, by decide +kernel, rfl, by decide +kernel, by decide +kernel⟩
def spStream (K : PySem.W.Frag) : Sp := fun vs H Q _ => ∃ (l : Addr) (ns : List Int) (k : Nat), vs = [.ref l, .int (k : Nat)] ∧ SqL K H l (ns.map V.int) ∧ k ≤ 3 ∧ (∀ z ∈ ns, Builtin.Int.intBits z ≤ 1048576) ∧
  ∀ (s : Addr) (a b : Int), H s = none → Q (.ref s) (upd H s (.lst [.int a, .int b]))
theorem ok_stream (F : FnP K "_law_stream" (top 24) f fd) (gL : mg "len" = none) : FnOk P w K mg base CX0 1 f fd ["_law_script", "_law_start"] (spStream K) := by
  refine F.ok scStream (fun vs H Q E h => ?_) (fun cdv A outer s H vs Q E hr h => ?_)
  · obtain ⟨l, ns, k, rfl, _⟩ := h
    rfl
  · obtain ⟨l, ns, k, rfl, hl, hk, hb, q⟩ := h
    refine ⟨_, PSs.nox (pss_cons (ps_set (i := 2) scStream.nd rfl (Or.inl rfl) (pe_op op_add pe_int (pv 1)))
      (pss_cons (ps_for PassesOwn.never rfl (pi_list (pv 0)) (pg_name (i := 3) scStream.nd rfl (Or.inl rfl))
        (pss_one (ps_set (i := 2) scStream.nd rfl (Or.inl rfl) (pe_op op_add (pe_op op_mod (pe_op op_powB (pe_op op_add (pe_op op_mul (pv 2) pe_int) (pv 3)) pe_int) pe_int) pe_int))))
      (pss_cons (ps_set (i := 4) scStream.nd rfl (Or.inl rfl) pe_int)
      (pss_cons (ps_if (PW.pt (pw_and (pt_cmpR op_lt (pv 1) (pe_callB call_len_seq (by rfl) gL boot_len (pa_cons (pv 0) pa_nil)) (nomark _))
          (pw_and1 (pt_cmpR op_ge (pe_ix ix_list (pv 0) (pv 1) (fun _ _ => rfl)) (pe_op op_pow pe_int pe_int) (nomark _)))))
        (pss_one (ps_set (i := 4) scStream.nd rfl (Or.inl rfl) (pe_op op_sub (pe_ix ix_list (pv 0) (pv 1) (fun _ _ => rfl)) (pe_op op_pow pe_int pe_int)))) pss_nil)
      (pss_one (ps_ret (pe_lst (pa_cons (pv 4) (pa_cons (pv 2) pa_nil))))))))), ?_⟩
    refine ⟨_, rfl, _, _, rfl, rfl, ?_⟩
    refine ⟨_, rfl, l, rfl, ⟨_, hl⟩, ?_⟩
    refine for_list (xs := ns.map V.int) (fun _ σ H' => ∃ (z : Int) (y : Option V), σ = [some (.ref l), some (.int (k : Nat)), some (.int z), y, none] ∧ H' = H ∧ z.natAbs < 2 ^ 40) ⟨_, _, rfl, rfl, by omega⟩ (fun i σ H' _ h => ?_) (fun i x σ H' hx h => ?_) (fun σ H' h => ?_)
    · obtain ⟨z, y, rfl, rfl, _⟩ := h
      exact hl
    · obtain ⟨z, y, rfl, rfl, hz⟩ := h
      rw [List.getElem?_map, Option.map_eq_some_iff] at hx
      obtain ⟨n, hn, rfl⟩ := hx
      have hbn := hb n (List.mem_of_getElem? hn)
      have hbz : Builtin.Int.intBits (z * 40127) ≤ 64 := by
        refine PySem.intBits_le_iff.mpr ?_
        rw [Int.natAbs_mul, show Int.natAbs 40127 = 40127 from rfl]
        omega
      have hbs : Builtin.Int.intBits (z * 40127 + n) ≤ 1048577 := Nat.le_trans (PySem.intBits_add_le hbz hbn) (by decide)
      refine ⟨_, rfl, _, _, rfl, rfl, .inr ⟨by decide, by decide⟩, _, rfl, _, _, rfl, rfl, _, _, rfl, rfl, ⟨by decide, by omega⟩, _, _, rfl, rfl, (show (0 : Int) < 2147483629 by decide), _, _, rfl, rfl, ?_⟩
      refine ⟨_, _, rfl, rfl, ?_⟩
      have h1 := Int.emod_nonneg ((z * 40127 + n) ^ (3 : Int).toNat) (show (2147483629 : Int) ≠ 0 by decide)
      have h2 := Int.emod_lt_of_pos ((z * 40127 + n) ^ (3 : Int).toNat) (show (0 : Int) < 2147483629 by decide)
      generalize (z * 40127 + n) ^ (3 : Int).toNat % 2147483629 = r at h1 h2
      omega
    · obtain ⟨z, y, rfl, rfl, _⟩ := h
      refine ⟨_, rfl, _, rfl, _, _, rfl, .inl hl, _, _, rfl, rfl, _, rfl, ?_⟩
      refine ite2 (fun hlt => ?_) (fun hlt => ?_)
      · have hk2 : k < ns.length := by
          simpa using hlt
        have ha : atI (ns.map V.int) ((k : Nat) : Int) = some (V.int ns[k]) := atI_nat (by simp [List.getElem?_eq_getElem hk2])
        refine ⟨_, rfl, _, rfl, _, _, _, _, rfl, rfl, hl, ha, _, _, rfl, rfl, ⟨by decide, by decide, by decide⟩, _, _, rfl, rfl, _, rfl, ?_⟩
        refine ite2 (fun _ => ?_) (fun _ => ?_)
        · refine ⟨_, rfl, _, rfl, _, _, _, _, rfl, rfl, hl, ha, _, _, rfl, rfl, ⟨by decide, by decide, by decide⟩, _, _, rfl, rfl, ?_⟩
          exact ⟨_, rfl, _, rfl, (show 2 ≤ sizeLine by decide), fun s hs => q s _ _ hs⟩
        · exact ⟨_, rfl, _, rfl, (show 2 ≤ sizeLine by decide), fun s hs => q s _ _ hs⟩
      · exact ⟨_, rfl, _, rfl, (show 2 ≤ sizeLine by decide), fun s hs => q s _ _ hs⟩
end
end Kn

set_option Elab.async false
set_option linter.all false
set_option maxRecDepth 100000
set_option maxHeartbeats 4000000
/-! _law_choose, _law_shuffled, _law_word. -/
namespace Kn
open PySem PySem.Spec PyProof.Rows L2
theorem erase_map {α β : Type} (g : α → β) : ∀ (l : List α) (k : Nat), (l.map g).eraseIdx k = (l.eraseIdx k).map g
  | [], _ => rfl
  | x :: l, 0 => rfl
  | x :: l, k + 1 => by
    show g x :: (l.map g).eraseIdx k = g x :: (l.eraseIdx k).map g
    rw [erase_map g l k]
theorem erase_perm {α : Type} : ∀ (l : List α) (k : Nat) (h : k < l.length), (l[k] :: l.eraseIdx k).Perm l
  | x :: l, 0, _ => .refl _
  | x :: l, k + 1, h => by
    have hk : k < l.length := by simpa using h
    have ih := erase_perm l k hk
    show (l[k] :: x :: l.eraseIdx k).Perm (x :: l)
    exact (List.Perm.swap x l[k] _).trans (ih.cons x)
section
variable {P : Program} {w : World} {K : PySem.W.Frag} {mg : Str → Option Value} {base : Heap} {f fD fC : Addr} {fd fdD fdC : FuncData}
abbrev stV (a b : Int) : HO := .lst [.int a, .int b]
theorem strAt_upd {H : Hp} {s : Addr} {a b : Int} : StrAt (upd H s (stV a b)) s := ⟨a, b, upd_same⟩
theorem StrAt.keep {H H' : Hp} {s : Addr} (h : StrAt H s) (e : Same H H') : StrAt H' s := let ⟨a, b, q⟩ := h; ⟨a, b, e _ _ q⟩
theorem bindsDraw (F : FnP K "_law_draw" (top 25) f fd) : Binds K fd ["_law_stream_here", "_law_size"] [] := FunD.bindsN F fun _ _ _ _ _ _ us hl => match us, hl with | [_, _], _ => rfl
/-! ### choices -/
abbrev nChoose : List Str := ["_law_stream_here", "_law_rows"]
theorem scChoose : FnScope nChoose ["_law_stream_here", "_law_rows"] (defScope (top 26)) := ⟨rfl, rfl, rfl, by decide +kernel, rfl, by decide +kernel, by decide +kernel⟩
def spChoose (K : PySem.W.Frag) : Sp := fun vs H Q _ => ∃ (s : Addr) (x : V), vs = [.ref s, x] ∧ StrAt H s ∧
  ((∃ (l : Addr) (xs : List V), x = .ref l ∧ l ≠ s ∧ SqL K H l xs ∧ 0 < xs.length ∧ xs.length < 1000 ∧ ∀ v a b, v ∈ xs → Q v (upd H s (stV a b))) ∨
   (∃ z : Str, x = .str z ∧ 0 < z.length ∧ z.length < 1000 ∧ ∀ (c : Nat) (a b : Int), c ∈ z.cps.toList → Q (.str ⟨#[c]⟩) (upd H s (stV a b))))
theorem ok_choose (F : FnP K "_law_choose" (top 26) f fd) (FD : FnP K "_law_draw" (top 25) fD fdD) (gD : mg "_law_draw" = some (.ref fD)) (gL : mg "len" = none) : FnOk P w K mg base CX0 2 f fd ["_law_stream_here", "_law_rows"] (spChoose K) := by
  have GD : FnOk P w K mg base CX0 1 fD fdD ["_law_stream_here", "_law_size"] spDraw := ok_draw FD
  refine F.ok scChoose (fun vs H Q E h => ?_) (fun cdv A outer s H vs Q E hr h => ?_)
  · obtain ⟨s, x, rfl, _⟩ := h
    rfl
  · obtain ⟨s, x, rfl, hs, h⟩ := h
    refine ⟨_, PSs.nox (pss_one (ps_ret (pe_ix ix_seq (pv 1) (pe_call GD hr (by rfl) gD FD.kp (bindsDraw FD) .nil pass0 (pa_cons (pv 0) (pa_cons (pe_callB call_len (by rfl) gL boot_len (pa_cons (pv 1) pa_nil)) pa_nil))) (fun _ _ => rfl)))), ?_⟩
    have hne : sizeLine = sizeLine := rfl
    rcases h with ⟨l, xs, rfl, hls, hl, h0, h1, q⟩ | ⟨z, rfl, h0, h1, q⟩
    · refine ⟨_, rfl, _, rfl, _, rfl, _, _, rfl, .inl ⟨_, hl, rfl⟩, _, _, rfl, hs, by omega, by omega, fun v a b hv0 hv1 => ?_⟩
      obtain ⟨k, rfl⟩ := Int.eq_ofNat_of_zero_le hv0
      have hk : k < xs.length := by omega
      have hx : SameX s H (upd H s (stV a b)) := SameX.upd s H _
      exact .inl ⟨l, xs, _, _, rfl, rfl, hx.seq hls hl, atI_nat (List.getElem?_eq_getElem hk), q _ _ _ (List.getElem_mem _)⟩
    · refine ⟨_, rfl, _, rfl, _, rfl, _, _, rfl, ⟨Nat.le_of_lt (small1000 (by omega)), rfl⟩, _, _, rfl, hs, by omega, by omega, fun v a b hv0 hv1 => ?_⟩
      obtain ⟨k, rfl⟩ := Int.eq_ofNat_of_zero_le hv0
      have hk : k < z.cps.toList.length := by
        have h2 : k < z.length := by omega
        rw [Array.length_toList]
        exact h2
      exact .inr (.inr ⟨z, _, _, rfl, rfl, Nat.le_of_lt (small1000 (by omega)), atI_nat (List.getElem?_eq_getElem hk), q _ _ _ (List.getElem_mem _)⟩)
theorem bindsChoose (F : FnP K "_law_choose" (top 26) f fd) : Binds K fd ["_law_stream_here", "_law_rows"] [] := FunD.bindsN F fun _ _ _ _ _ _ us hl => match us, hl with | [_, _], _ => rfl
/-! ### rules and shuffles -/
abbrev nShuf : List Str := ["_law_stream_here", "_law_rows", "_law_left", "_law_found"]
theorem scShuf : FnScope nShuf ["_law_stream_here", "_law_rows"] (defScope (top 27)) := ⟨rfl, rfl, rfl, by decide +kernel, rfl, by decide +kernel, by decide +kernel⟩
abbrev Pr : Type := Addr × Int × Int
def PairsAt (H : Hp) (ps : List Pr) : Prop := ∀ z ∈ ps, H z.1 = some (.tup [.int z.2.1, .int z.2.2])
def RuleAt (H : Hp) (t : Addr) (ps : List Pr) : Prop := FrTup H t (ps.map fun z => V.ref z.1) ∧ PairsAt H ps
theorem PairsAt.keep {H H' : Hp} {ps : List Pr} {s : Addr} (h : PairsAt H ps) (hs : StrAt H s) (e : SameX s H H') : PairsAt H' ps := fun z hz => by
  refine e _ _ (fun c => ?_) (h z hz)
  obtain ⟨a, b, hs⟩ := hs
  have := h z hz
  rw [c, hs] at this
  exact nomatch this
theorem PairsAt.mono {H H' : Hp} {ps : List Pr} (h : PairsAt H ps) (e : Same H H') : PairsAt H' ps := fun z hz => e _ _ (h z hz)
theorem RuleAt.keep {H H' : Hp} {t : Addr} {ps : List Pr} {s : Addr} (h : RuleAt H t ps) (hs : StrAt H s) (e : SameX s H H') : RuleAt H' t ps := by
  refine ⟨?_, h.2.keep hs e⟩
  obtain ⟨o, q, d⟩ := h.1
  refine ⟨o, e _ _ (fun c => ?_) q, d⟩
  obtain ⟨a, b, hs⟩ := hs
  rw [c, hs] at q
  exact nomatch q
theorem dpPairs {H : Hp} : ∀ {ps : List Pr}, PairsAt H ps → DpAll K H (ps.map fun z => V.ref z.1) (ps.map fun z => PyData.tuple [.int z.2.1, .int z.2.2])
  | [], _ => .nil
  | z :: ps, h => .cons (.tup (SqT.of (h z List.mem_cons_self)) (.cons (.int _) (.cons (.int _) .nil))) (dpPairs fun y hy => h y (List.mem_cons_of_mem _ hy))
theorem canPairs : ∀ ps : List Pr, PyData.canLayAll0 (ps.map fun z => PyData.tuple [.int z.2.1, .int z.2.2]) = true
  | [] => rfl
  | z :: ps => by
    rw [List.map_cons]
    simp only [PyData.canLayAll0, PyData.canLay0, canPairs ps, Bool.and_true]
theorem depthPairs : ∀ ps : List Pr, PyData.depthAll (ps.map fun z => PyData.tuple [.int z.2.1, .int z.2.2]) ≤ 4
  | [] => by simp [PyData.depthAll]
  | z :: ps => by
    have h := depthPairs ps
    simp only [List.map_cons, PyData.depthAll, PyData.depth]
    omega
theorem shapedPairs (ps : List Pr) : SeqAt.shaped (.list (ps.map fun z => PyData.tuple [.int z.2.1, .int z.2.2])) = true := by
  unfold SeqAt.shaped
  have h := depthPairs ps
  have h2 : (PyData.list (ps.map fun z => PyData.tuple [.int z.2.1, .int z.2.2])).depth ≤ 64 := by
    simp only [PyData.depth]
    omega
  have h3 : (PyData.list (ps.map fun z => PyData.tuple [.int z.2.1, .int z.2.2])).canLay0 = true := by
    simp only [PyData.canLay0, canPairs]
  rw [h3, decide_eq_true h2]
  rfl
def spShuf (K : PySem.W.Frag) : Sp := fun vs H Q _ => ∃ (s t : Addr) (ps : List Pr), vs = [.ref s, .ref t] ∧ StrAt H s ∧ RuleAt H t ps ∧ ps.length ≤ 10 ∧
  ∀ (l : Addr) (ys : List Pr) (H' : Hp), H l = none → ys.Perm ps → SameX s H H' → StrAt H' s → H' l = some (.lst (ys.map fun z => V.ref z.1)) → Q (.ref l) H'
theorem ok_shuf (F : FnP K "_law_shuffled" (top 27) f fd) (FD : FnP K "_law_draw" (top 25) fD fdD) (gD : mg "_law_draw" = some (.ref fD)) (gL : mg "len" = none) (gS : mg "list" = none) : FnOk P w K mg base CX0 2 f fd ["_law_stream_here", "_law_rows"] (spShuf K) := by
  have GD : FnOk P w K mg base CX0 1 fD fdD ["_law_stream_here", "_law_size"] spDraw := ok_draw FD
  refine F.ok scShuf (fun vs H Q E h => ?_) (fun cdv A outer s H vs Q E hr h => ?_)
  · obtain ⟨s, t, ps, rfl, _⟩ := h
    rfl
  · obtain ⟨s, t, ps, rfl, hs, hr2, hlen, q⟩ := h
    refine ⟨_, PSs.nox (pss_cons (ps_par (i := 2) (j := 3) rfl scShuf.nd rfl rfl (by decide) rfl rfl (pa_cons (pe_callTy call_list_of (by rfl) gS rfl (pa_cons (pv 1) pa_nil)) (pa_cons (pe_lst pa_nil) pa_nil)) (by rfl))
      (pss_cons (ps_while PassesOwn.never (pt_cmpR (op_neD hr.units) (pv 2) (pe_lst pa_nil) (nomark _))
        (pss_one (ps_expr (pe_bm PySem.F.plainAttrs_list PySem.F.slot_list_append PySem.F.type_list_append mt_append (pv 3)
          (pa_cons (pe_bm PySem.F.plainAttrs_list PySem.F.slot_list_pop PySem.F.type_list_pop mt_popAt (pv 2)
            (pa_cons (pe_call GD hr (by rfl) gD FD.kp (bindsDraw FD) .nil pass0 (pa_cons (pv 0) (pa_cons (pe_callB call_len (by rfl) gL boot_len (pa_cons (pv 2) pa_nil)) pa_nil))) pa_nil)) pa_nil)))))
      (pss_one (ps_ret (pv 3))))), ?_⟩
    have rt : SqT K H t (ps.map fun z => V.ref z.1) := hr2.1.sq
    refine ⟨_, rfl, t, _, rfl, .inr rt, fun left nl => ⟨Nat.zero_le _, fun found nf => ⟨_, _, rfl, ?_⟩⟩⟩
    have nls : left ≠ s := fun c => by
      obtain ⟨a, b, hs⟩ := hs
      rw [c, hs] at nl
      exact nomatch nl
    have nfl : found ≠ left := fun c => by
      rw [c, upd_same] at nf
      exact nomatch nf
    have nf0 : H found = none := by
      rw [upd_ne nfl] at nf
      exact nf
    have nfs : found ≠ s := fun c => by
      obtain ⟨a, b, hs⟩ := hs
      rw [c, hs] at nf0
      exact nomatch nf0
    refine ⟨fun m σ H' => σ = [some (.ref s), some (.ref t), some (.ref left), some (.ref found)] ∧ ∃ rem done : List Pr, rem.length = m ∧ H' left = some (.lst (rem.map fun z => V.ref z.1)) ∧ H' found = some (.lst (done.map fun z => V.ref z.1)) ∧
      (done ++ rem).Perm ps ∧ SameX s H H' ∧ StrAt H' s, ⟨ps.length, rfl, ps, [], rfl, ?_, upd_same, .refl _, ?_, ?_⟩, ?_⟩
    · rw [upd_ne (Ne.symm nfl), upd_same]
    · exact SameX.of ((same_upd nl).trans (same_upd nf))
    · exact hs.keep ((same_upd nl).trans (same_upd nf))
    · rintro m σ H1 ⟨rfl, rem, done, hm, eL, eF, hp, sx, hs1⟩
      refine ⟨_, rfl, Nat.zero_le _, fun e ne => ?_⟩
      have s1 : Same H1 (upd H1 e (.lst [])) := same_upd ne
      have pa : PairsAt (upd H1 e (.lst [])) rem := fun z hz => s1 _ _ ((hr2.2.keep hs sx) z (hp.mem_iff.mp (List.mem_append_right _ hz)))
      refine ⟨_, .list [], .lst (SqL.of (s1 _ _ eL)) (dpPairs pa), .lst (SqL.of upd_same) .nil, shapedPairs rem, rfl, _, rfl, ?_⟩
      cases rem with
      | nil =>
        refine iteF ?_
        refine ⟨_, rfl, q found done _ nf0 ?_ (sx.trans (SameX.of s1)) (hs1.keep s1) (s1 _ _ eF)⟩
        rw [List.append_nil] at hp
        exact hp
      | cons z0 rest =>
        refine iteT ?_
        have hlr : (z0 :: rest).length ≤ 10 := by
          have := hp.length_eq
          rw [List.length_append] at this
          omega
        have eL1 := s1 _ _ eL
        have eF1 := s1 _ _ eF
        have hs2 := hs1.keep s1
        refine ⟨fun σ' H' => σ' = [some (.ref s), some (.ref t), some (.ref left), some (.ref found)] ∧ ∃ rem' done' : List Pr, rem'.length + 1 = m ∧ H' left = some (.lst (rem'.map fun z => V.ref z.1)) ∧ H' found = some (.lst (done'.map fun z => V.ref z.1)) ∧
          (done' ++ rem').Perm ps ∧ SameX s H H' ∧ StrAt H' s, ?_, ?_⟩
        · rintro σ' H' ⟨rfl, rem', done', a1, a2⟩
          exact ⟨m - 1, by omega, rfl, rem', done', by omega, a2⟩
        · refine ⟨_, rfl, .inl ⟨rfl, _, SqL.of eF1⟩, _, rfl, .inl ⟨rfl, _, SqL.of eL1⟩, _, rfl, _, rfl, _, _, rfl, .inl ⟨_, SqL.of eL1, rfl⟩, ?_⟩
          refine ⟨s, _, rfl, hs2, by rw [List.length_map, List.length_cons]; omega, by rw [List.length_map]; omega, fun v a b v0 v1 => ?_⟩
          obtain ⟨k, rfl⟩ := Int.eq_ofNat_of_zero_le v0
          rw [List.length_map] at v1
          have hk : k < (z0 :: rest).length := by omega
          have eL2 : (upd (upd H1 e (.lst [])) s (stV a b)) left = some (.lst ((z0 :: rest).map fun z => V.ref z.1)) := by
            rw [upd_ne nls]
            exact eL1
          have eF2 : (upd (upd H1 e (.lst [])) s (stV a b)) found = some (.lst (done.map fun z => V.ref z.1)) := by
            rw [upd_ne nfs]
            exact eF1
          have hix : ixN ((z0 :: rest).map fun z => V.ref z.1).length ((k : Nat) : Int) = some k := by
            unfold ixN
            rw [if_pos (by omega), if_pos (by rw [List.length_map]; omega)]
            rfl
          refine ⟨left, _, _, k, _, rfl, rfl, eL2, by omega, by omega, (ixN_seq hix).1, by rw [List.getElem?_map, List.getElem?_eq_getElem hk]; rfl, ?_⟩
          refine ⟨found, done.map fun z => V.ref z.1, _, rfl, rfl, ?_, ?_, ?_⟩
          · exact (upd_ne nfl).trans eF2
          · rw [List.length_map]
            have := hp.length_eq
            rw [List.length_append] at this
            exact small1000 (by omega)
          · refine ⟨rfl, (z0 :: rest).eraseIdx k, done ++ [(z0 :: rest)[k]], ?_, ?_, ?_, ?_, ?_, ?_⟩
            · rw [List.length_eraseIdx_of_lt hk]
              omega
            · rw [upd_ne (Ne.symm nfl), upd_same, erase_map]
            · rw [upd_same, List.map_append]
              rfl
            · refine List.Perm.trans ?_ hp
              rw [List.append_assoc]
              exact (erase_perm _ k hk).append_left done
            · intro c o hc e1
              have h2 := sx c o hc e1
              have c1 : c ≠ found := ne_of_none e1 nf0
              have c2 : c ≠ left := ne_of_none e1 nl
              rw [upd_ne c1, upd_ne c2, upd_ne hc]
              exact s1 _ _ h2
            · exact ⟨a, b, by rw [upd_ne (Ne.symm nfs), upd_ne (Ne.symm nls), upd_same]⟩
end
end Kn

set_option Elab.async false
set_option linter.all false
set_option maxRecDepth 100000
set_option maxHeartbeats 4000000
/-! _law_word, _law_coarser, _law_named. -/
namespace Kn
open PySem PySem.Spec PyProof.Rows L2
section
variable {P : Program} {w : World} {K : PySem.W.Frag} {mg : Str → Option Value} {base : Heap} {f fD fC fS fW : Addr} {fd fdD fdC fdS fdW : FuncData}
/-! ### words -/
abbrev nWord : List Str := ["_law_stream_here", "_law_letters", "_law_size", "_law_turn"]
theorem scWord : FnScope nWord ["_law_stream_here"] (defScope (top 28)) := ⟨rfl, rfl, rfl, by decide +kernel, rfl, by decide +kernel, by decide +kernel⟩
def okS (x : Str) : Prop := ∀ c ∈ x.cps.toList, c < 1114112
def spWord : Sp := fun vs H Q _ => ∃ s : Addr, vs = [.ref s] ∧ StrAt H s ∧ ∀ (x : Str) (H' : Hp), okS x → SameX s H H' → StrAt H' s → Q (.str x) H'
theorem join_ok : ∀ ys : List Str, (∀ y ∈ ys, okS y) → okS (Str.join Str.empty ys)
  | [], _ => fun c hc => nomatch hc
  | [y], h => h y List.mem_cons_self
  | x :: z :: r, h => fun c hc => by
    have hc' : c ∈ (x ++ Str.empty ++ Str.join Str.empty (z :: r)).cps.toList := hc
    rw [Str.cps_append, Array.toList_append, Str.cps_append, Array.toList_append] at hc'
    rcases List.mem_append.mp hc' with hc' | hc'
    · rcases List.mem_append.mp hc' with hc' | hc'
      · exact h x List.mem_cons_self c hc'
      · exact nomatch hc'
    · exact join_ok (z :: r) (fun y hy => h y (List.mem_cons_of_mem _ hy)) c hc'
theorem ok_word (F : FnP K "_law_word" (top 28) f fd) (FD : FnP K "_law_draw" (top 25) fD fdD) (FC : FnP K "_law_choose" (top 26) fC fdC) (gD : mg "_law_draw" = some (.ref fD)) (gC : mg "_law_choose" = some (.ref fC)) (gL : mg "len" = none) (gR : mg "range" = none) : FnOk P w K mg base CX0 3 f fd ["_law_stream_here"] spWord := by
  have GC : FnOk P w K mg base CX0 2 fC fdC ["_law_stream_here", "_law_rows"] (spChoose K) := ok_choose FC FD gD gL
  refine F.ok scWord (fun vs H Q E h => ?_) (fun cdv A outer s H vs Q E hr h => ?_)
  · obtain ⟨s, rfl, _⟩ := h
    rfl
  · obtain ⟨s, rfl, hs, q⟩ := h
    refine ⟨_, PSs.nox (pss_cons (ps_set (i := 1) scWord.nd rfl (Or.inr rfl) pe_str)
      (pss_cons (ps_set (i := 2) scWord.nd rfl (Or.inl rfl) (pe_call GC hr (by rfl) gC FC.kp (bindsChoose FC) .nil pass0 (pa_cons (pv 0) (pa_cons (pe_lst (pa_cons pe_int (pa_cons pe_int (pa_cons pe_int (pa_cons pe_int (pa_cons pe_int (pa_cons pe_int pa_nil))))))) pa_nil))))
      (pss_one (ps_ret (pe_join pe_str (pe_lc (own := [("_law_turn", 3)]) (g := gName 3) (tt := tYes) rfl scWord.nd (pi_range1 (by rfl) gR (pa_cons (pv 2) pa_nil)) (blkOk_by (N := nWord) (sc := defScope (top 28)) (by decide +kernel))
        (fun _ _ _ _ _ => pg_name (i := 3) scWord.nd rfl (Or.inl rfl)) (fun _ _ _ _ _ => pts_nil) (fun _ _ _ _ _ => pe_call GC hr (by rfl) gC FC.kp (bindsChoose FC) .nil pass0 (pa_cons (pv 0) (pa_cons (pv 1) pa_nil))))))))), ?_⟩
    refine ⟨_, rfl, (show 6 ≤ sizeLine by decide), fun l nl => ⟨s, _, rfl, hs.keep (same_upd nl), .inl ⟨l, _, rfl, ?_, SqL.of upd_same, (show 0 < 6 by decide), (show 6 < 1000 by decide), fun v a b hv => ?_⟩⟩⟩
    · obtain ⟨a, b, hs⟩ := hs
      exact Ne.symm (ne_of_none hs nl)
    · obtain ⟨i, rfl, i0, i1⟩ : ∃ i : Int, v = .int i ∧ 0 ≤ i ∧ i ≤ 12 := by
        simp only [List.mem_cons, List.not_mem_nil, or_false] at hv
        rcases hv with rfl | rfl | rfl | rfl | rfl | rfl <;> exact ⟨_, rfl, by decide, by decide⟩
      generalize hH1 : upd (upd H l (.lst [.int 1, .int 1, .int 2, .int 3, .int 8, .int 12])) s (stV a b) = H1
      have sx1 : SameX s H H1 := by
        rw [← hH1]
        exact (SameX.of (same_upd nl)).trans (SameX.upd s _ _)
      have hs1 : StrAt H1 s := by
        rw [← hH1]
        exact strAt_upd
      refine ⟨⟨_, rfl⟩, _, rfl, i, rfl, by omega, by omega, fun D nD => ?_⟩
      have nDs : D ≠ s := by
        obtain ⟨a, b, hs⟩ := hs1
        exact Ne.symm (ne_of_none hs nD)
      refine lc_range (n := i.toNat) (fun k H' => ∃ acc : List Str, H' D = some (.lst (acc.map V.str)) ∧ acc.length = k ∧ (∀ y ∈ acc, okS y ∧ y.length = 1) ∧ SameX s H H' ∧ StrAt H' s)
        ⟨[], upd_same, rfl, (fun y hy => nomatch hy), sx1.ins nD, hs1.keep (same_upd nD)⟩ (fun k H' hk h => ?_) (fun H' h => ?_)
      · obtain ⟨acc, eD, el, ha, sx, hs2⟩ := h
        refine ⟨rfl, _, rfl, _, rfl, s, _, rfl, hs2, .inr ⟨_, rfl, by decide, by decide, fun c a b hc => ?_⟩⟩
        have eD2 : (upd H' s (stV a b)) D = some (.lst (acc.map V.str)) := by
          rw [upd_ne nDs]
          exact eD
        refine ⟨_, eD2, by rw [List.length_map]; exact small1000 (by omega), acc ++ [⟨#[c]⟩], ?_, ?_, fun y hy => ?_, ?_, ?_⟩
        · rw [upd_same, List.map_append]
          rfl
        · rw [List.length_append, el]
          rfl
        · rcases List.mem_append.mp hy with hy | hy
          · exact ha y hy
          · rw [List.mem_singleton.mp hy]
            refine ⟨fun d hd => ?_, rfl⟩
            have hd' : d = c := by simpa using hd
            have all : ∀ c ∈ (("abcdefghijklmnopqrstuvwxyz" : Str)).cps.toList, c < 1114112 := by decide
            exact hd' ▸ all c hc
        · intro b o hb e
          have n2 : b ≠ D := ne_of_none e (sx1.free nDs nD)
          rw [upd_ne n2, upd_ne hb]
          exact sx b o hb e
        · exact ⟨a, b, by rw [upd_ne (Ne.symm nDs), upd_same]⟩
      · obtain ⟨acc, eD, el, ha, sx, hs2⟩ := h
        refine ⟨Str.empty, D, acc, rfl, rfl, .inl (SqL.of eD), ?_, q _ _ ?_ sx hs2⟩
        · have hsum : (acc.map (·.length)).sum ≤ acc.length := by
            have gen : ∀ acc : List Str, (∀ y ∈ acc, okS y ∧ y.length = 1) → (acc.map (·.length)).sum = acc.length := fun acc => by
              induction acc with
              | nil => intro _; rfl
              | cons y acc ih =>
                intro h
                rw [List.map_cons, List.sum_cons, ih fun z hz => h z (List.mem_cons_of_mem _ hz), (h y List.mem_cons_self).2, List.length_cons]
                omega
            exact Nat.le_of_eq (gen acc ha)
          have h0 : Str.empty.length = 0 := rfl
          rw [h0]
          omega
        · rw [TL.join_eq]
          exact join_ok acc fun y hy => (ha y hy).1
end
end Kn

set_option Elab.async false
set_option linter.all false
set_option maxRecDepth 100000
set_option maxHeartbeats 4000000
/-! _law_coarser, _law_named. -/
namespace Kn
open PySem PySem.Spec PyProof.Rows L2
section
variable {P : Program} {w : World} {K : PySem.W.Frag} {mg : Str → Option Value} {base : Heap} {f fD fC fS fW : Addr} {fd fdD fdC fdS fdW : FuncData}
abbrev nCoa : List Str := ["_law_stream_here", "_law_sorting", "_law_found", "_law_column", "_law_step"]
theorem scCoa : FnScope nCoa ["_law_stream_here", "_law_sorting"] (defScope (top 29)) := ⟨rfl, rfl, rfl, by decide +kernel, rfl, by decide +kernel, by decide +kernel⟩
/-- each part of the one rule is a part of the other, its step some times as great -/
def Coarser (ps qs : List Pr) : Prop := ∀ q ∈ qs, ∃ z ∈ ps, ∃ k : Int, 1 ≤ k ∧ k ≤ 3 ∧ q.2.1 = z.2.1 ∧ q.2.2 = z.2.2 * k
def spCoa (K : PySem.W.Frag) : Sp := fun vs H Q _ => ∃ (s t : Addr) (ps : List Pr), vs = [.ref s, .ref t] ∧ StrAt H s ∧ RuleAt H t ps ∧ ps.length ≤ 3 ∧ (∀ z ∈ ps, 0 < z.2.2 ∧ z.2.2 ≤ 2) ∧
  ∀ (l : Addr) (qs : List Pr) (H' : Hp), H l = none → Coarser ps qs → qs.length ≤ 3 → SameX s H H' → StrAt H' s → RuleAt H' l qs → Q (.ref l) H'
theorem ne_str {H : Hp} {s a : Addr} {o : HO} (hs : StrAt H s) (h : H a = some o) (hn : ∀ xs, o ≠ .lst xs) : a ≠ s := fun c => by
  obtain ⟨x, y, hs⟩ := hs
  rw [c, hs] at h
  exact hn _ (Option.some.inj h).symm
theorem ne_strN {H : Hp} {s a : Addr} (hs : StrAt H s) (h : H a = none) : a ≠ s := fun c => by
  obtain ⟨x, y, hs⟩ := hs
  rw [c, hs] at h
  exact nomatch h
theorem bindsShuf (F : FnP K "_law_shuffled" (top 27) f fd) : Binds K fd ["_law_stream_here", "_law_rows"] [] := FunD.bindsN F fun _ _ _ _ _ _ us hl => match us, hl with | [_, _], _ => rfl
theorem ok_coa (F : FnP K "_law_coarser" (top 29) f fd) (FD : FnP K "_law_draw" (top 25) fD fdD) (FC : FnP K "_law_choose" (top 26) fC fdC) (FS : FnP K "_law_shuffled" (top 27) fS fdS) (gD : mg "_law_draw" = some (.ref fD)) (gC : mg "_law_choose" = some (.ref fC)) (gS : mg "_law_shuffled" = some (.ref fS))
    (gL : mg "len" = none) (gLi : mg "list" = none) (gT : mg "tuple" = none) : FnOk P w K mg base CX0 3 f fd ["_law_stream_here", "_law_sorting"] (spCoa K) := by
  have GD : FnOk P w K mg base CX0 1 fD fdD ["_law_stream_here", "_law_size"] spDraw := ok_draw FD
  have GC : FnOk P w K mg base CX0 2 fC fdC ["_law_stream_here", "_law_rows"] (spChoose K) := ok_choose FC FD gD gL
  have GS : FnOk P w K mg base CX0 2 fS fdS ["_law_stream_here", "_law_rows"] (spShuf K) := ok_shuf FS FD gD gL gLi
  refine F.ok scCoa (fun vs H Q E h => ?_) (fun cdv A outer s H vs Q E hr h => ?_)
  · obtain ⟨s, t, ps, rfl, _⟩ := h
    rfl
  · obtain ⟨s, t, ps, rfl, hs, hru, hlen, hst, q⟩ := h
    refine ⟨_, PSs.nox (pss_cons (ps_set (i := 2) scCoa.nd rfl (Or.inl rfl) (pe_lst pa_nil))
      (pss_cons (ps_for PassesOwn.never rfl (pi_list (pe_call GS hr (by rfl) gS FS.kp (bindsShuf FS) .nil pass0 (pa_cons (pv 0) (pa_cons (pv 1) pa_nil))))
          (pg_tup rfl (pgs_cons (pg_name (i := 3) scCoa.nd rfl (.inl rfl)) (pgs_cons (pg_name (i := 4) scCoa.nd rfl (.inl rfl)) pgs_nil)))
        (pss_one (ps_if (pt_cmpR op_gt (pe_call GD (hr.mono (by decide)) (by rfl) gD FD.kp (bindsDraw FD) .nil pass0 (pa_cons (pv 0) (pa_cons pe_int pa_nil))) pe_int (nomark _))
          (pss_one (ps_expr (pe_bm PySem.F.plainAttrs_list PySem.F.slot_list_append PySem.F.type_list_append mt_append (pv 2)
            (pa_cons (pe_tup (pa_cons (pv 3) (pa_cons (pe_op op_mul (pv 4) (pe_call GC hr (by rfl) gC FC.kp (bindsChoose FC) .nil pass0 (pa_cons (pv 0) (pa_cons (pe_lst (pa_cons pe_int (pa_cons pe_int (pa_cons pe_int pa_nil)))) pa_nil)))) pa_nil))) pa_nil)))) pss_nil)))
      (pss_one (ps_ret (pe_callTy call_tupleF (by rfl) gT rfl (pa_cons (pv 2) pa_nil)))))), ?_⟩
    refine ⟨Nat.zero_le _, fun fo nf => ?_⟩
    have s1 : Same H (upd H fo (.lst [])) := same_upd nf
    have hs1 := hs.keep s1
    refine ⟨_, rfl, _, rfl, s, t, ps, rfl, hs1, hru.keep hs (SameX.of s1), by omega, fun l ys H1 nl hp sx1 hs2 el => ⟨l, rfl, ⟨_, SqL.of el⟩, ?_⟩⟩
    have nfs : fo ≠ s := ne_strN hs nf
    have nlf : l ≠ fo := fun c => by
      rw [c, upd_same] at nl
      exact nomatch nl
    have nl0 : H l = none := by
      rw [upd_ne nlf] at nl
      exact nl
    have nls : l ≠ s := ne_strN hs nl0
    have sxH : SameX s H H1 := (SameX.of s1).trans sx1
    have ef1 : H1 fo = some (.lst []) := sx1 _ _ nfs upd_same
    refine for_list (xs := ys.map fun z => V.ref z.1) (fun i σ H' => ∃ (y3 y4 : Option V) (qs : List Pr), σ = [some (.ref s), some (.ref t), some (.ref fo), y3, y4] ∧ SameX s H H' ∧ StrAt H' s ∧ H' l = some (.lst (ys.map fun z => V.ref z.1)) ∧
      H' fo = some (.lst (qs.map fun z => V.ref z.1)) ∧ PairsAt H' qs ∧ PairsAt H' ys ∧ Coarser ps qs ∧ qs.length ≤ i)
      ⟨none, none, [], rfl, sxH, hs2, el, ef1, (fun z hz => nomatch hz), fun z hz => (hru.2.keep hs sxH) z (hp.mem_iff.mp hz), (fun z hz => nomatch hz), Nat.zero_le _⟩
      (fun i σ H' _ h => ?_) (fun i x σ H' hx h => ?_) (fun σ H' h => ?_)
    · obtain ⟨y3, y4, qs, rfl, sx, hs3, eL, _⟩ := h
      exact SqL.of eL
    · obtain ⟨y3, y4, qs, rfl, sx, hs3, eL, eF, pq, py, co, hq⟩ := h
      rw [List.getElem?_map, Option.map_eq_some_iff] at hx
      obtain ⟨z, hz, rfl⟩ := hx
      have hzm := List.mem_of_getElem? hz
      have hzp := hp.mem_iff.mp hzm
      have hi : i < ys.length := (List.getElem?_eq_some_iff.mp hz).1
      have hi3 : i < 3 := by
        have := hp.length_eq
        omega
      refine ⟨z.1, _, rfl, SqT.of (py z hzm), rfl, _, _, rfl, _, _, rfl, rfl, ?_⟩
      refine ⟨_, rfl, s, _, rfl, hs3, by decide, by decide, fun v a b v0 v1 => ⟨_, _, rfl, rfl, _, rfl, ?_⟩⟩
      have sx4 : SameX s H' (upd H' s (stV a b)) := SameX.upd s _ _
      have eF4 := sx4 _ _ nfs eF
      have eL4 := sx4 _ _ nls eL
      have hs4 : StrAt (upd H' s (stV a b)) s := strAt_upd
      refine ite2 (fun _ => ?_) (fun _ => ?_)
      · refine ⟨_, rfl, .inl ⟨rfl, _, SqL.of eF4⟩, _, rfl, _, rfl, _, rfl, (show 3 ≤ sizeLine by decide), fun c nc => ⟨s, _, rfl, hs4.keep (same_upd nc), .inl ⟨c, _, rfl, ne_strN hs4 nc, SqL.of upd_same, (show 0 < 3 by decide), (show 3 < 1000 by decide), fun v a2 b2 hv => ?_⟩⟩⟩
        obtain ⟨k, rfl, k0, k1⟩ : ∃ k : Int, v = .int k ∧ 1 ≤ k ∧ k ≤ 3 := by
          simp only [List.mem_cons, List.not_mem_nil, or_false] at hv
          rcases hv with rfl | rfl | rfl <;> exact ⟨_, rfl, by decide, by decide⟩
        obtain ⟨z0, z1⟩ := hst z hzp
        refine ⟨_, _, rfl, rfl, .inl ⟨by omega, by omega⟩, (show 2 ≤ sizeLine by decide), fun T nT => ?_⟩
        generalize hH5 : upd (upd (upd H' s (stV a b)) c (.lst [.int 1, .int 2, .int 3])) s (stV a2 b2) = H5 at nT
        have sx5 : SameX s H' H5 := by
          rw [← hH5]
          exact (sx4.ins nc).trans (SameX.upd s _ _)
        have hs5 : StrAt H5 s := by
          rw [← hH5]
          exact strAt_upd
        have sT : Same H5 (upd H5 T (.tup [.int z.2.1, .int (z.2.2 * k)])) := same_upd nT
        have eF5 := sT _ _ (sx5 _ _ nfs eF)
        have eL5 := sT _ _ (sx5 _ _ nls eL)
        have nTf : T ≠ fo := Ne.symm (ne_of_none (sx5 _ _ nfs eF) nT)
        have pq5 := (pq.keep hs3 sx5).mono sT
        have py5 := (py.keep hs3 sx5).mono sT
        have up : ∀ (rs : List Pr), PairsAt (upd H5 T (.tup [.int z.2.1, .int (z.2.2 * k)])) rs → PairsAt (upd (upd H5 T (.tup [.int z.2.1, .int (z.2.2 * k)])) fo (.lst (qs.map (fun z => V.ref z.1) ++ [.ref T]))) rs := fun rs hrs y hy => by
          have e1 := hrs y hy
          rw [upd_ne (ne_of e1 eF5 (by intro z; exact nomatch z))]
          exact e1
        refine ⟨fo, qs.map fun z => V.ref z.1, _, rfl, rfl, eF5, by rw [List.length_map]; exact small1000 (by omega), some (.int z.2.1), some (.int z.2.2), qs ++ [(T, z.2.1, z.2.2 * k)], rfl, ?_, ?_, ?_, ?_, ?_, ?_, ?_, ?_⟩
        · intro b' o hb e
          have n1 : b' ≠ fo := ne_of_none e nf
          rw [upd_ne n1]
          exact sT _ _ (sx5 _ _ hb (sx _ _ hb e))
        · obtain ⟨x1, x2, e1⟩ := hs5.keep sT
          exact ⟨x1, x2, by rw [upd_ne (Ne.symm nfs)]; exact e1⟩
        · rw [upd_ne nlf]
          exact eL5
        · rw [upd_same, List.map_append]
          rfl
        · intro y hy
          rcases List.mem_append.mp hy with hy | hy
          · exact up qs pq5 y hy
          · rw [List.mem_singleton.mp hy]
            show (upd (upd H5 T (.tup [.int z.2.1, .int (z.2.2 * k)])) fo _) T = _
            rw [upd_ne nTf, upd_same]
        · exact up ys py5
        · intro y hy
          rcases List.mem_append.mp hy with hy | hy
          · exact co y hy
          · rw [List.mem_singleton.mp hy]
            exact ⟨z, hzp, k, k0, k1, rfl, rfl⟩
        · rw [List.length_append]
          show qs.length + 1 ≤ i + 1
          omega
      · exact ⟨some (.int z.2.1), some (.int z.2.2), qs, rfl, sx.trans sx4, hs4, eL4, eF4, pq.keep hs3 sx4, py.keep hs3 sx4, co, by omega⟩
    · obtain ⟨y3, y4, qs, rfl, sx, hs3, eL, eF, pq, py, co, hq⟩ := h
      refine ⟨_, rfl, fo, _, rfl, SqL.of eF, fun T H2 nT he fr => ?_⟩
      have sm : Same H' H2 := fun b o e => by
        rw [he b (ne_of_none e nT)]
        exact e
      have nTs : T ≠ s := ne_strN hs3 nT
      refine q T qs H2 (sx.free nTs nT) co ?_ (sx.trans (SameX.of sm)) (hs3.keep sm) ⟨fr, pq.mono sm⟩
      have := hp.length_eq
      rw [List.length_map] at hq
      omega
end
end Kn

set_option Elab.async false
set_option linter.all false
set_option maxRecDepth 100000
set_option maxHeartbeats 4000000
/-! _law_named. -/
namespace Kn
open PySem PySem.Spec PyProof.Rows L2
section
variable {P : Program} {w : World} {K : PySem.W.Frag} {mg : Str → Option Value} {base : Heap} {f fD fC fS fW : Addr} {fd fdD fdC fdS fdW : FuncData}
def encN (nm : List (Str × Int)) : List (Key × V) := nm.map fun e => ((Sum.inr e.1 : Key), V.int e.2)
theorem inr_inj (a b : Str) (h : (Sum.inr a : Key) = Sum.inr b) : a = b := Sum.inr.inj h
theorem inl_inj (a b : Int) (h : (Sum.inl a : Key) = Sum.inl b) : a = b := Sum.inl.inj h
theorem encN_val (nm : List (Str × Int)) (k : Str) : valV (encN nm) (.inr k) = (look nm k).map V.int := valV_enc (fun a : Str => (Sum.inr a : Key)) V.int inr_inj k nm
theorem encN_put (nm : List (Str × Int)) (k : Str) (v : Int) : putK (encN nm) (.inr k) (.int v) = encN (put nm k v) := putK_enc (fun a : Str => (Sum.inr a : Key)) V.int inr_inj nm k v
theorem encN_len (nm : List (Str × Int)) : (encN nm).length = nm.length := List.length_map ..
structure NamesOk (nm : List (Str × Int)) (n : Nat) : Prop where
  nd : (nm.map (·.1)).Nodup
  inj : (nm.map (·.2)).Nodup
  ok : ∀ e ∈ nm, okS e.1 ∧ 0 ≤ e.2 ∧ e.2 < (n : Int)
abbrev nNam : List Str := ["_law_stream_here", "_law_groups", "_law_found", "_law_spot", "_law_word_here"]
theorem scNam : FnScope nNam ["_law_stream_here", "_law_groups"] (defScope (top 32)) := ⟨rfl, rfl, rfl, by decide +kernel, rfl, by decide +kernel, by decide +kernel⟩
def spNam (K : PySem.W.Frag) : Sp := fun vs H Q _ => ∃ (s g : Addr) (xs : List V), vs = [.ref s, .ref g] ∧ StrAt H s ∧ g ≠ s ∧ SqL K H g xs ∧ xs.length ≤ 12 ∧
  ∀ (p : Addr) (nm : List (Str × Int)) (H' : Hp), H p = none → NamesOk nm xs.length → SameX s H H' → StrAt H' s → H' p = some (.dK (encN nm)) → Q (.ref p) H'
theorem bindsWord (F : FnP K "_law_word" (top 28) f fd) : Binds K fd ["_law_stream_here"] [] := FunD.bindsN F fun _ _ _ _ _ _ us hl => match us, hl with | [_], _ => rfl
theorem ok_nam (F : FnP K "_law_named" (top 32) f fd) (FD : FnP K "_law_draw" (top 25) fD fdD) (FC : FnP K "_law_choose" (top 26) fC fdC) (FW : FnP K "_law_word" (top 28) fW fdW) (gD : mg "_law_draw" = some (.ref fD)) (gC : mg "_law_choose" = some (.ref fC)) (gW : mg "_law_word" = some (.ref fW))
    (gL : mg "len" = none) (gR : mg "range" = none) : FnOk P w K mg base CX0 4 f fd ["_law_stream_here", "_law_groups"] (spNam K) := by
  have GD : FnOk P w K mg base CX0 1 fD fdD ["_law_stream_here", "_law_size"] spDraw := ok_draw FD
  have GW : FnOk P w K mg base CX0 3 fW fdW ["_law_stream_here"] spWord := ok_word FW FD FC gD gC gL gR
  refine F.ok scNam (fun vs H Q E h => ?_) (fun cdv A outer s H vs Q E hr h => ?_)
  · obtain ⟨s, g, xs, rfl, _⟩ := h
    rfl
  · obtain ⟨s, g, xs, rfl, hs, hgs, hg, hlen, q⟩ := h
    refine ⟨_, PSs.nox (pss_cons (ps_set (i := 2) scNam.nd rfl (Or.inl rfl) pe_dnewK)
      (pss_cons (ps_for PassesOwn.never rfl (pi_range1 (by rfl) gR (pa_cons (pe_callB call_len (by rfl) gL boot_len (pa_cons (pv 1) pa_nil)) pa_nil)) (pg_name (i := 3) scNam.nd rfl (Or.inl rfl))
        (pss_cons (ps_set (i := 4) scNam.nd rfl (Or.inl rfl) (pe_call GW hr (by rfl) gW FW.kp (bindsWord FW) .nil pass0 (pa_cons (pv 0) pa_nil)))
          (pss_one (ps_if (PW.pt (pw_and (pt_cmpR op_gt (pe_call GD (hr.mono (by decide)) (by rfl) gD FD.kp (bindsDraw FD) .nil pass0 (pa_cons (pv 0) (pa_cons pe_int pa_nil))) pe_int (nomark _))
              (pw_and1 (pt_cmp (pc_dnotin (hu_of hr) (pv 4) (pv 2))))))
            (pss_one (ps_dput (hu_of hr) (pv 2) (pv 4) (pv 3) rfl)) pss_nil))))
      (pss_one (ps_ret (pv 2))))), ?_⟩
    intro fo nf
    have s1 : Same H (upd H fo (.dK [])) := same_upd nf
    refine ⟨_, rfl, _, _, rfl, .inl ⟨_, s1.seq hg, rfl⟩, _, rfl, by omega, by omega, ?_⟩
    have nfs : fo ≠ s := ne_strN hs nf
    have et : ((xs.length : Int)).toNat = xs.length := by omega
    rw [et]
    refine for_range (lo := 0) (n := xs.length) (fun i σ H' => ∃ (y3 y4 : Option V) (nm : List (Str × Int)), σ = [some (.ref s), some (.ref g), some (.ref fo), y3, y4] ∧ SameX s H H' ∧ StrAt H' s ∧ H' fo = some (.dK (encN nm)) ∧ NamesOk nm i ∧ nm.length ≤ i)
      ⟨none, none, [], rfl, SameX.of s1, hs.keep s1, upd_same, ⟨List.nodup_nil, List.nodup_nil, (fun e he => nomatch he)⟩, Nat.zero_le _⟩ (fun i σ H' hi h => ?_) (fun σ H' h => ?_)
    · obtain ⟨y3, y4, nm, rfl, sx, hs1, eF, ok, hl⟩ := h
      refine ⟨_, rfl, s, rfl, hs1, fun x H1 hx sx1 hs2 => ?_⟩
      have eF1 := sx1 _ _ nfs eF
      have oks : ∀ k, NamesOk nm k → NamesOk nm (k + 1) := fun k h => ⟨h.nd, h.inj, fun e he => ⟨(h.ok e he).1, (h.ok e he).2.1, by have := (h.ok e he).2.2; omega⟩⟩
      refine ⟨_, rfl, s, 4, rfl, hs2, by decide, by decide, fun v a b v0 v1 => ⟨_, _, rfl, rfl, _, rfl, ?_⟩⟩
      have sx2 : SameX s H1 (upd H1 s (stV a b)) := SameX.upd s _ _
      have eF2 := sx2 _ _ nfs eF1
      have sx3 := (sx.trans sx1).trans sx2
      have hs3 : StrAt (upd H1 s (stV a b)) s := strAt_upd
      refine ite2 (fun _ => ?_) (fun _ => ?_)
      · refine ⟨_, rfl, _, rfl, fo, _, rfl, DGet.k (k := Sum.inr x) eF2, _, rfl, ?_⟩
        rw [encN_val]
        cases hlk : look nm x with
        | some y => exact ⟨_, _, nm, rfl, sx3, hs3, eF2, oks i ok, by omega⟩
        | none =>
          refine ⟨_, rfl, _, rfl, _, rfl, fo, _, rfl, DPut.k (k := Sum.inr x) eF2 (by rw [encN_len]; exact small1000 (by omega)), ?_⟩
          refine ⟨_, _, put nm x (0 + (i : Int)), rfl, ?_, ?_, ?_, ?_, ?_⟩
          · intro b' o hb e
            rw [upd_ne (ne_of_none e nf)]
            exact sx3 _ _ hb e
          · obtain ⟨x1, x2, e⟩ := hs3
            exact ⟨x1, x2, by rw [upd_ne (Ne.symm nfs)]; exact e⟩
          · rw [upd_same, encN_put]
          · have hk := look_none.mp hlk
            have e1 : put nm x (0 + (i : Int)) = nm ++ [(x, 0 + (i : Int))] := by
              unfold put
              rw [look_any, hlk]
              rfl
            refine ⟨put_nodup _ _ ok.nd, ?_, fun e he => ?_⟩
            · rw [e1, List.map_append, List.nodup_append]
              refine ⟨ok.inj, by simp, fun a ha b hb => ?_⟩
              obtain ⟨e, he, rfl⟩ := List.mem_map.mp ha
              have hb' : b = 0 + (i : Int) := by simpa using hb
              have := (ok.ok e he).2.2
              omega
            · rw [e1] at he
              rcases List.mem_append.mp he with he | he
              · exact (oks i ok).ok e he
              · rw [List.mem_singleton.mp he]
                exact ⟨hx, by show (0 : Int) ≤ 0 + i; omega, by show (0 : Int) + i < ((i + 1 : Nat) : Int); omega⟩
          · have e1 : put nm x (0 + (i : Int)) = nm ++ [(x, 0 + (i : Int))] := by
              unfold put
              rw [look_any, hlk]
              rfl
            rw [e1, List.length_append]
            show nm.length + 1 ≤ i + 1
            omega
      · exact ⟨_, _, nm, rfl, sx3, hs3, eF2, oks i ok, by omega⟩
    · obtain ⟨y3, y4, nm, rfl, sx, hs1, eF, ok, hl⟩ := h
      exact ⟨_, rfl, q fo nm H' nf ok sx hs1 eF⟩
end
end Kn

set_option Elab.async false
set_option linter.all false
set_option maxRecDepth 100000
set_option maxHeartbeats 4000000
/-! key_of. -/
namespace Kn
open PySem PySem.Spec PyProof.Rows L2
section
variable {P : Program} {w : World} {K : PySem.W.Frag} {mg : Str → Option Value} {base : Heap} {f fK fG : Addr} {fd fdK fdG : FuncData}
abbrev nKey : List Str := ["rule", "fields", "column", "step"]
theorem scKey : FnScope nKey ["rule", "fields"] (defScope (top 5)) := ⟨rfl, rfl, rfl, by decide +kernel, rfl, by decide +kernel, by decide +kernel⟩
/-- the key of fields by a rule -/
def keyV (ps : List Pr) (xs : List Int) : List Int := ps.map fun z => xs.getD (z.2.1 - 1).toNat 0 / z.2.2
def RuleFits (ps : List Pr) (n : Nat) : Prop := ∀ z ∈ ps, 1 ≤ z.2.1 ∧ z.2.1 ≤ (n : Int) ∧ 0 < z.2.2 ∧ z.2.2 < 1000
def spKey (K : PySem.W.Frag) : Sp := fun vs H Q _ => ∃ (t fl : Addr) (ps : List Pr) (xs : List Int), vs = [.ref t, .ref fl] ∧ SqT K H t (ps.map fun z => V.ref z.1) ∧ PairsAt H ps ∧ ps.length ≤ 10 ∧ SqT K H fl (xs.map V.int) ∧ RuleFits ps xs.length ∧
  ∀ (p : Addr) (H' : Hp), H p = none → Same H H' → H' p = some (.tup ((keyV ps xs).map V.int)) → Q (.ref p) H'
theorem ok_key (F : FnP K "key_of" (top 5) f fd) (gT : mg "tuple" = none) : FnOk P w K mg base CX0 1 f fd ["rule", "fields"] (spKey K) := by
  refine F.ok scKey (fun vs H Q E h => ?_) (fun cdv A outer s H vs Q E hr h => ?_)
  · obtain ⟨t, fl, ps, xs, rfl, _⟩ := h
    rfl
  · obtain ⟨t, fl, ps, xs, rfl, ht, hp, hlen, hf, hfit, q⟩ := h
    refine ⟨_, PSs.nox (pss_one (ps_ret (pe_callTy call_tuple_of (by rfl) gT rfl (pa_cons
      (pe_lc (own := [("column", 2), ("step", 3)]) (tt := tYes) (g := gTup K 2 (gCons (gName 2) (gCons (gName 3) gNil))) rfl scKey.nd (pi_tup (pv 0)) (blkOk_by (N := nKey) (sc := defScope (top 5)) (by decide +kernel))
        (fun _ _ _ _ _ => pgTup rfl (pgs_cons (pg_name (i := 2) scKey.nd rfl (.inl rfl)) (pgs_cons (pg_name (i := 3) scKey.nd rfl (.inl rfl)) pgs_nil)))
        (fun _ _ _ _ _ => pts_nil) (fun _ _ _ _ _ => pe_op op_fdiv (pe_ix (ixT (K := K)) (pv 1) (pe_op op_sub (pv 2) pe_int) (fun _ _ => rfl)) (pv 3))) pa_nil)))), ?_⟩
    refine ⟨_, rfl, t, rfl, ⟨_, ht⟩, fun D nD => ?_⟩
    refine lc_tup (xs := ps.map fun z => V.ref z.1) (fun i H' => H' = upd H D (.lst (((keyV ps xs).take i).map V.int))) rfl (fun i H' _ h => ?_) (fun i x H' hx h => ?_) (fun H' h => ?_)
    · rw [h]
      exact same_seqT (same_upd nD) ht
    · subst h
      rw [List.getElem?_map, Option.map_eq_some_iff] at hx
      obtain ⟨z, hz, rfl⟩ := hx
      have hzm := List.mem_of_getElem? hz
      obtain ⟨f1, f2, f3, f4⟩ := hfit z hzm
      have hi : i < ps.length := (List.getElem?_eq_some_iff.mp hz).1
      have sD : Same H (upd H D (.lst (((keyV ps xs).take i).map V.int))) := same_upd nD
      obtain ⟨c, hc⟩ := Int.eq_ofNat_of_zero_le (show 0 ≤ z.2.1 - 1 by omega)
      have hc2 : c < xs.length := by omega
      refine ⟨z.1, _, rfl, SqT.of (sD _ _ (hp z hzm)), rfl, _, _, rfl, _, _, rfl, rfl, ?_⟩
      refine ⟨rfl, _, rfl, _, rfl, _, _, rfl, rfl, fl, xs.map V.int, _, .int xs[c], rfl, rfl, same_seqT sD hf, ?_, _, rfl, _, _, rfl, rfl, ⟨f3, by omega⟩, ?_⟩
      · rw [hc]
        exact atI_nat (by simp [List.getElem?_eq_getElem hc2])
      · refine ⟨_, upd_same, by rw [List.length_map]; exact small1000 (by rw [List.length_take]; omega), ?_⟩
        have e1 : (keyV ps xs)[i]? = some (xs[c] / z.2.2) := by
          unfold keyV
          rw [List.getElem?_map, hz]
          show some (xs.getD (z.2.1 - 1).toNat 0 / z.2.2) = _
          rw [hc, Int.toNat_natCast, List.getD_eq_getElem?_getD, List.getElem?_eq_getElem hc2]
          rfl
        funext b
        by_cases hb : b = D
        · rw [hb, upd_same, upd_same, List.take_add_one, e1, List.map_append]
          rfl
        · rw [upd_ne hb, upd_ne hb, upd_ne hb]
    · subst h
      have e2 : (keyV ps xs).take (ps.map fun z => V.ref z.1).length = keyV ps xs := List.take_of_length_le (by unfold keyV; rw [List.length_map, List.length_map]; exact Nat.le_refl _)
      rw [e2]
      refine ⟨D, _, rfl, .inl ⟨SqL.of upd_same, fun l nl => ?_⟩⟩
      have nl0 : H l = none := by
        rw [upd_ne (fun c => by rw [c, upd_same] at nl; exact nomatch nl)] at nl
        exact nl
      exact q l _ nl0 ((same_upd nD).trans (same_upd nl)) upd_same
end
end Kn

set_option Elab.async false
set_option linter.all false
set_option maxRecDepth 100000
set_option maxHeartbeats 4000000
/-! keyed_groups, group_items. -/
namespace Kn
open PySem PySem.Spec PyProof.Rows L2
section
variable {P : Program} {w : World} {K : PySem.W.Frag} {mg : Str → Option Value} {base : Heap} {f fK fG : Addr} {fd fdK fdG : FuncData}
/-- an item: id, weight, fields -/
abbrev Item : Type := Int × Int × List Int
def ItemAt (H : Hp) (it : Item) (kv : Key × V) : Prop := kv.1 = .inl it.1 ∧ ∃ a fa, kv.2 = .ref a ∧ H a = some (.tup [.int it.2.1, .ref fa]) ∧ H fa = some (.tup (it.2.2.map V.int))
def ItemsAt (H : Hp) (d : Addr) (its : List Item) : Prop := ∃ kvs, H d = some (.dK kvs) ∧ Paired (ItemAt H) its kvs
theorem ItemAt.mono {H H' : Hp} {it : Item} {kv : Key × V} (h : ItemAt H it kv) (s : Same H H') : ItemAt H' it kv := by
  obtain ⟨e, a, fa, e2, h1, h2⟩ := h
  exact ⟨e, a, fa, e2, s _ _ h1, s _ _ h2⟩
theorem ItemsAt.mono {H H' : Hp} {d : Addr} {its : List Item} (h : ItemsAt H d its) (s : Same H H') : ItemsAt H' d its := by
  obtain ⟨kvs, e, r⟩ := h
  exact ⟨kvs, s _ _ e, L2.Paired.mapP r fun _ _ x => x.mono s⟩
def idsOf (its : List Item) : List Int := its.map (·.1)
def fieldsOf (its : List Item) (id : Int) : List Int := ((look its id).map (·.2)).getD []
theorem items_keys {H : Hp} : ∀ {its : List Item} {kvs : List (Key × V)}, Paired (ItemAt H) its kvs → kvs.map (·.1) = (idsOf its).map Sum.inl
  | _, _, .nil => rfl
  | _, _, .cons h t => by
    rw [List.map_cons, h.1, items_keys t]
    rfl
theorem items_val {H : Hp} {id : Int} : ∀ {its : List Item} {kvs : List (Key × V)}, Paired (ItemAt H) its kvs → id ∈ idsOf its → ∃ a fa wt, valV kvs (.inl id) = some (.ref a) ∧ H a = some (.tup [.int wt, .ref fa]) ∧ H fa = some (.tup ((fieldsOf its id).map V.int))
  | _, _, .nil, h => nomatch h
  | it :: its, kv :: kvs, .cons h t, hm => by
    obtain ⟨e, a, fa, e2, h1, h2⟩ := h
    by_cases c : it.1 = id
    · refine ⟨a, fa, it.2.1, ?_, h1, ?_⟩
      · rw [valV_pos (by rw [e, c]), e2]
      · have e3 : fieldsOf (it :: its) id = it.2.2 := by
          unfold fieldsOf
          rw [look_cons, if_pos c]
          rfl
        rw [e3]
        exact h2
    · have hm2 : id ∈ idsOf its := by
        rcases List.mem_cons.mp hm with z | z
        · exact absurd z.symm c
        · exact z
      obtain ⟨a, fa, wt, g1, g2, g3⟩ := items_val t hm2
      refine ⟨a, fa, wt, ?_, g2, ?_⟩
      · rw [valV_neg (by rw [e]; exact fun z => c (inl_inj _ _ z))]
        exact g1
      · have e3 : fieldsOf (it :: its) id = fieldsOf its id := by
          unfold fieldsOf
          rw [look_cons, if_neg c]
        rw [e3]
        exact g3
abbrev KL : Type := List (List Int × Addr)
def encL (kl : KL) : List (List Key × V) := kl.map fun e => (e.1.map Sum.inl, V.ref e.2)
theorem kInl_inj (a b : List Int) (h : a.map (Sum.inl : Int → Key) = b.map Sum.inl) : a = b := by
  induction a generalizing b with
  | nil => cases b with
    | nil => rfl
    | cons y b => exact nomatch h
  | cons x a ih => cases b with
    | nil => exact nomatch h
    | cons y b =>
      rw [List.map_cons, List.map_cons] at h
      injection h with h1 h2
      rw [inl_inj _ _ h1, ih b h2]
theorem encL_val (kl : KL) (k : List Int) : valV (encL kl) (k.map Sum.inl) = (look kl k).map V.ref := valV_enc (fun a : List Int => a.map (Sum.inl : Int → Key)) V.ref kInl_inj k kl
theorem encL_put (kl : KL) (k : List Int) (v : Addr) : putK (encL kl) (k.map Sum.inl) (.ref v) = encL (put kl k v) := putK_enc (fun a : List Int => a.map (Sum.inl : Int → Key)) V.ref kInl_inj kl k v
theorem encL_len (kl : KL) : (encL kl).length = kl.length := List.length_map ..
theorem ints_kV (xs : List Int) : xs.map V.int = (xs.map (Sum.inl : Int → Key)).map kV := by
  rw [List.map_map]
  rfl
/-- the ids of one key -/
def ofKey (key : Int → List Int) (ys : List Int) (k : List Int) : List Int := ys.filter fun id => decide (key id = k)
theorem ofKey_step (key : Int → List Int) {ys : List Int} {i : Nat} {id : Int} (h : ys[i]? = some id) (k : List Int) : ofKey key (ys.take (i + 1)) k = ofKey key (ys.take i) k ++ (if key id = k then [id] else []) := by
  unfold ofKey
  rw [List.take_add_one, h, List.filter_append]
  congr 1
  show List.filter _ [id] = _
  by_cases c : key id = k
  · rw [if_pos c, List.filter_cons_of_pos (by simpa using c)]
    rfl
  · rw [if_neg c, List.filter_cons_of_neg (by simpa using c)]
    rfl
theorem snd_inj {α β : Type} {l : List (α × β)} (h : (l.map (·.2)).Nodup) {x y : α × β} (hx : x ∈ l) (hy : y ∈ l) (e : x.2 = y.2) : x = y := by
  induction l with
  | nil => exact nomatch hx
  | cons z l ih =>
    rw [List.map_cons, List.nodup_cons] at h
    rcases List.mem_cons.mp hx with hx | hx <;> rcases List.mem_cons.mp hy with hy | hy
    · rw [hx, hy]
    · exact absurd (List.mem_map.mpr ⟨y, hy, by rw [← e, hx]⟩) h.1
    · exact absurd (List.mem_map.mpr ⟨x, hx, by rw [e, hy]⟩) h.1
    · exact ih h.2 hx hy
structure KInv (H : Hp) (key : Int → List Int) (yt : List Int) (kl : KL) (fo l : Addr) (H' : Hp) : Prop where
  nd : (kl.map (·.1)).Nodup
  ad : (kl.map (·.2)).Nodup
  at_ : ∀ e ∈ kl, H e.2 = none ∧ e.2 ≠ fo ∧ e.2 ≠ l ∧ H' e.2 = some (.lst ((ofKey key yt e.1).map V.int))
  has : ∀ id ∈ yt, key id ∈ kl.map (·.1)
  of : ∀ e ∈ kl, ∃ id ∈ yt, key id = e.1
theorem put_new {κ α : Type} [DecidableEq κ] {kl : List (κ × α)} {k : κ} (z : α) (h : look kl k = none) : put kl k z = kl ++ [(k, z)] := by
  unfold put
  rw [look_any, h]
  rfl
abbrev nKg : List Str := ["rule", "items", "found", "row_id", "key"]
theorem scKg : FnScope nKg ["rule", "items"] (defScope (top 6)) := ⟨rfl, rfl, rfl, by decide +kernel, rfl, by decide +kernel, by decide +kernel⟩
theorem bindsKey (F : FnP K "key_of" (top 5) f fd) : Binds K fd ["rule", "fields"] [] := FunD.bindsN F fun _ _ _ _ _ _ us hl => match us, hl with | [_, _], _ => rfl
def spKg (K : PySem.W.Frag) : Sp := fun vs H Q _ => ∃ (t d : Addr) (ps : List Pr) (its : List Item), vs = [.ref t, .ref d] ∧ SqT K H t (ps.map fun z => V.ref z.1) ∧ PairsAt H ps ∧ ps.length ≤ 10 ∧ ItemsAt H d its ∧ (idsOf its).Nodup ∧ its.length ≤ 12 ∧
  (∀ id ∈ idsOf its, RuleFits ps (fieldsOf its id).length) ∧
  ∀ (p : Addr) (kl : KL) (ys : List Int) (H' : Hp), H p = none → Same H H' → ys.Perm (idsOf its) → (kl.map (·.1)).Nodup → (∀ id ∈ ys, keyV ps (fieldsOf its id) ∈ kl.map (·.1)) → (∀ e ∈ kl, ∃ id ∈ ys, keyV ps (fieldsOf its id) = e.1) →
    H' p = some (.dT (encL kl)) → (∀ e ∈ kl, H' e.2 = some (.tup ((ofKey (fun id => keyV ps (fieldsOf its id)) ys e.1).map V.int))) → kl.length ≤ 12 → Q (.ref p) H'
theorem ok_kg (F : FnP K "keyed_groups" (top 6) f fd) (FK : FnP K "key_of" (top 5) fK fdK) (gK : mg "key_of" = some (.ref fK)) (gT : mg "tuple" = none) (gS : mg "sorted" = none) : FnOk P w K mg base CX0 2 f fd ["rule", "items"] (spKg K) := by
  have GK : FnOk P w K mg base CX0 1 fK fdK ["rule", "fields"] (spKey K) := ok_key FK gT
  refine F.ok scKg (fun vs H Q E h => ?_) (fun cdv A outer s H vs Q E hr h => ?_)
  · obtain ⟨t, d, ps, its, rfl, _⟩ := h
    rfl
  · obtain ⟨t, d, ps, its, rfl, ht, hp, hlen, hit, hnd, hl12, hfit, q⟩ := h
    refine ⟨_, PSs.nox (pss_cons (ps_set (i := 2) scKg.nd rfl (Or.inr rfl) pe_dnewT)
      (pss_cons (ps_for PassesOwn.never rfl (pi_list (pe_callB (call_sortedDI rfl) (by rfl) gS rfl (pa_cons (pv 1) pa_nil))) (pg_name (i := 3) scKg.nd rfl (Or.inl rfl))
        (pss_one (ps_expr (pe_bm PySem.F.plainAttrs_list PySem.F.slot_list_append PySem.F.type_list_append mt_append
          (pe_dsetdT (hu_of hr) (pv 2) (pe_call GK hr (by rfl) gK FK.kp (bindsKey FK) .nil pass0 (pa_cons (pv 0) (pa_cons (pe_ix ix_tup (pe_dget (hu_of hr) (pv 1) (pv 3) (fun _ _ => rfl)) pe_int (fun _ _ => rfl)) pa_nil))) (pe_lst pa_nil) ⟨by rfl, by rfl, by rfl, by rfl⟩)
          (pa_cons (pv 3) pa_nil)))))
      (pss_one (ps_ret (pe_dg (own := [("key", 4)]) (g := gName 4) (tt := tYes) (tv := tCB (fun xs H Q => ∃ p ys, xs = [.ref p] ∧ ((SqL K H p ys ∧ ∀ l, H l = none → Q (.ref l) (upd H l (.tup ys))) ∨ (SqT K H p ys ∧ Q (.ref p) H))) (tCons (tDGet (tVar 2) (tVar 4)) tNil)) (o0 := .dT []) (.inr rfl) hr.units0 rfl scKg.nd
        (pi_list (pe_callB (call_sortedDT rfl) (by rfl) gS rfl (pa_cons (pv 2) pa_nil))) (blkOk_by (N := nKg) (sc := defScope (top 6)) (by decide +kernel))
        (fun _ _ _ _ _ => pg_name (i := 4) scKg.nd rfl (Or.inl rfl)) (fun _ _ _ _ _ => pts_nil) (fun _ _ _ _ _ => pv 4)
        (fun _ _ _ _ _ => pe_callTy call_tuple_of (by rfl) gT rfl (pa_cons (pe_dget (hu_of hr) (pv 2) (pv 4) (fun _ _ => rfl)) pa_nil))))))), ?_⟩
    generalize hkey : (fun id => keyV ps (fieldsOf its id)) = key
    have hkey' : ∀ id, keyV ps (fieldsOf its id) = key id := fun id => congrFun hkey id
    intro fo nf
    have s1 : Same H (upd H fo (.dT [])) := same_upd nf
    obtain ⟨kvs, ed, rel⟩ := id hit
    have hks := items_keys rel
    refine ⟨_, rfl, d, kvs, idsOf its, rfl, .inl (s1 _ _ ed), hks, by unfold idsOf; rw [List.length_map]; omega, fun ys l hperm _ nl => ⟨l, rfl, ⟨_, SqL.of upd_same⟩, ?_⟩⟩
    have nlf : l ≠ fo := fun c => by
      rw [c, upd_same] at nl
      exact nomatch nl
    have nl0 : H l = none := by
      rw [upd_ne nlf] at nl
      exact nl
    have s2 : Same H (upd (upd H fo (.dT [])) l (.lst (ys.map V.int))) := s1.trans (same_upd nl)
    have hyl : ys.length ≤ 12 := by
      have := hperm.length_eq
      unfold idsOf at this
      rw [List.length_map] at this
      omega
    refine for_list (xs := ys.map V.int) (fun i σ H' => ∃ (y3 : Option V) (kl : KL), σ = [some (.ref t), some (.ref d), some (.ref fo), y3, none] ∧ Same H H' ∧ H' l = some (.lst (ys.map V.int)) ∧ H' fo = some (.dT (encL kl)) ∧ KInv H key (ys.take i) kl fo l H' ∧ kl.length ≤ i)
      ⟨none, [], rfl, s2, upd_same, by rw [upd_ne (Ne.symm nlf), upd_same]; rfl, ⟨List.nodup_nil, List.nodup_nil, (fun e he => nomatch he), (fun e he => nomatch he), (fun e he => nomatch he)⟩, Nat.zero_le _⟩
      (fun i σ H' _ h => ?_) (fun i x σ H' hx h => ?_) (fun σ H' h => ?_)
    · obtain ⟨y3, kl, rfl, sm, eL, _⟩ := h
      exact SqL.of eL
    · obtain ⟨y3, kl, rfl, sm, eL, eF, kinv, hkl⟩ := h
      rw [List.getElem?_map, Option.map_eq_some_iff] at hx
      obtain ⟨id, hid, rfl⟩ := hx
      have hidm := hperm.mem_iff.mp (List.mem_of_getElem? hid)
      have hi : i < ys.length := (List.getElem?_eq_some_iff.mp hid).1
      obtain ⟨a, fa, wt, v1, v2, v3⟩ := items_val rel hidm
      have ed' := sm _ _ ed
      refine ⟨_, rfl, fo, rfl, .inr ⟨_, .inl eF⟩, _, rfl, _, rfl, _, rfl, d, _, rfl, .inl ⟨kvs, .inl id, .inl ed', rfl, v1.symm⟩, _, _, _, _, rfl, rfl, SqT.of (sm _ _ v2), rfl, ?_⟩
      refine ⟨t, fa, ps, fieldsOf its id, rfl, same_seqT sm ht, hp.mono sm, hlen, SqT.of (sm _ _ v3), hfit id hidm, fun b H2 nb sm2 eb => ⟨Nat.zero_le _, fun z nz => ?_⟩⟩
      rw [hkey', ints_kV] at eb
      have sm3 : Same H2 (upd H2 z (.lst [])) := same_upd nz
      have sm03 := (sm.trans sm2).trans sm3
      have eF3 := sm3 _ _ (sm2 _ _ eF)
      have eL3 := sm3 _ _ (sm2 _ _ eL)
      have nzf : z ≠ fo := Ne.symm (ne_of_none (sm2 _ _ eF) nz)
      have nzl : z ≠ l := Ne.symm (ne_of_none (sm2 _ _ eL) nz)
      have nz0 : H z = none := (sm.trans sm2).free nz
      have nfo : ∀ b o, H b = some o → b ≠ fo := fun b o e => ne_of_none e nf
      refine ⟨encL kl, (key id).map Sum.inl, b, eF3, rfl, sm3 _ _ eb, by rw [encL_len]; exact small1000 (by omega), fun v hv => ?_, fun hv => ?_⟩
      · -- the key is there
        rw [encL_val, Option.map_eq_some_iff] at hv
        obtain ⟨la, hla, rfl⟩ := hv
        have hm := look_in hla
        obtain ⟨c1, c2, c3, c4⟩ := kinv.at_ _ hm
        have c5 := sm3 _ _ (sm2 _ _ c4)
        refine ⟨.inl ⟨rfl, _, SqL.of c5⟩, _, rfl, la, _, _, rfl, rfl, c5, by rw [List.length_map]; exact small1000 (Nat.le_trans (List.length_filter_le _ _) (by rw [List.length_take]; omega)), ?_⟩
        refine ⟨_, kl, rfl, ?_, ?_, ?_, ⟨kinv.nd, kinv.ad, fun e he => ?_, fun id2 h2 => ?_, fun e he => ?_⟩, by omega⟩
        · intro b' o e
          rw [upd_ne (ne_of_none e c1)]
          exact sm03 _ _ e
        · rw [upd_ne (Ne.symm c3)]
          exact eL3
        · rw [upd_ne (Ne.symm c2)]
          exact eF3
        · obtain ⟨d1, d2, d3, d4⟩ := kinv.at_ e he
          refine ⟨d1, d2, d3, ?_⟩
          rw [ofKey_step key hid]
          by_cases ce : e.2 = la
          · have e1 := snd_inj kinv.ad he hm ce
            subst e1
            rw [upd_same, if_pos rfl, List.map_append]
            rfl
          · have ce2 : ¬ key id = e.1 := fun c => by
              have h1 := look_mem kinv.nd (k := e.1) (v := e.2) he
              rw [← c, hla] at h1
              exact ce (Option.some.inj h1).symm
            rw [upd_ne ce, if_neg ce2, List.append_nil]
            exact sm3 _ _ (sm2 _ _ d4)
        · rw [List.take_add_one, hid] at h2
          rcases List.mem_append.mp h2 with h2 | h2
          · exact kinv.has id2 h2
          · have : id2 = id := by simpa using h2
            rw [this]
            exact look_key hla
        · obtain ⟨id2, h2, h3⟩ := kinv.of e he
          exact ⟨id2, by rw [List.take_add_one]; exact List.mem_append_left _ h2, h3⟩
      · -- a new key
        rw [encL_val, Option.map_eq_none_iff] at hv
        rw [encL_put, put_new z hv]
        have eZ : (upd (upd H2 z (.lst [])) fo (.dT (encL (kl ++ [(key id, z)])))) z = some (.lst []) := by
          rw [upd_ne nzf, upd_same]
        refine ⟨.inl ⟨rfl, _, SqL.of eZ⟩, _, rfl, z, _, _, rfl, rfl, eZ, small1000 (Nat.zero_le _), ?_⟩
        have hnil : ofKey key (ys.take i) (key id) = [] := by
          unfold ofKey
          rw [List.filter_eq_nil_iff]
          intro id2 h2 c
          have c' : key id2 = key id := by simpa using c
          exact (look_none.mp hv) (c' ▸ kinv.has id2 h2)
        have nez : ∀ e ∈ kl, e.2 ≠ z := fun e he => ne_of_none (sm2 _ _ (kinv.at_ e he).2.2.2) nz
        refine ⟨_, kl ++ [(key id, z)], rfl, ?_, ?_, ?_, ⟨?_, ?_, fun e he => ?_, fun id2 h2 => ?_, fun e he => ?_⟩, by rw [List.length_append]; show kl.length + 1 ≤ i + 1; omega⟩
        · intro b' o e
          rw [upd_ne (ne_of_none e nz0), upd_ne (nfo _ _ e)]
          exact sm03 _ _ e
        · rw [upd_ne (Ne.symm nzl), upd_ne nlf]
          exact eL3
        · rw [upd_ne (Ne.symm nzf), upd_same]
        · rw [List.map_append, List.nodup_append]
          refine ⟨kinv.nd, by simp, fun a ha b' hb => ?_⟩
          have hb' : b' = key id := by simpa using hb
          rw [hb']
          exact fun c => (look_none.mp hv) (c ▸ ha)
        · rw [List.map_append, List.nodup_append]
          refine ⟨kinv.ad, by simp, fun a ha b' hb => ?_⟩
          have hb' : b' = z := by simpa using hb
          obtain ⟨e, he, rfl⟩ := List.mem_map.mp ha
          rw [hb']
          exact nez e he
        · rcases List.mem_append.mp he with he | he
          · obtain ⟨d1, d2, d3, d4⟩ := kinv.at_ e he
            refine ⟨d1, d2, d3, ?_⟩
            have ce2 : ¬ key id = e.1 := fun c => (look_none.mp hv) (c ▸ List.mem_map.mpr ⟨e, he, rfl⟩)
            rw [upd_ne (nez e he), upd_ne d2, ofKey_step key hid, if_neg ce2, List.append_nil]
            exact sm3 _ _ (sm2 _ _ d4)
          · rw [List.mem_singleton.mp he]
            refine ⟨nz0, nzf, nzl, ?_⟩
            show (upd _ z _) z = _
            rw [upd_same, ofKey_step key hid, hnil, if_pos rfl]
            rfl
        · rw [List.take_add_one, hid] at h2
          rw [List.map_append]
          rcases List.mem_append.mp h2 with h2 | h2
          · exact List.mem_append_left _ (kinv.has id2 h2)
          · have : id2 = id := by simpa using h2
            rw [this]
            exact List.mem_append_right _ (by simp)
        · rcases List.mem_append.mp he with he | he
          · obtain ⟨id2, h2, h3⟩ := kinv.of e he
            exact ⟨id2, by rw [List.take_add_one]; exact List.mem_append_left _ h2, h3⟩
          · rw [List.mem_singleton.mp he]
            exact ⟨id, by rw [List.take_add_one, hid]; exact List.mem_append_right _ (by simp), rfl⟩
    · obtain ⟨y3, kl, rfl, sm, eL, eF, kinv, hkl⟩ := h
      rw [List.length_map, List.take_length] at kinv
      rw [List.length_map] at hkl
      have shp : ∀ z ∈ encL kl, ShapeOk (fun _ => false) z.1 := fun z hz j x hx => by
        obtain ⟨e, _, rfl⟩ := List.mem_map.mp hz
        have hx' : (e.1.map (Sum.inl : Int → Key))[j]? = some x := hx
        rw [List.getElem?_map, Option.map_eq_some_iff] at hx'
        obtain ⟨n, _, rfl⟩ := hx'
        rfl
      have hkeyl : ∀ e ∈ kl, e.1.length = ps.length := fun e he => by
        obtain ⟨id2, _, h3⟩ := kinv.of e he
        rw [← h3, ← hkey']
        exact List.length_map ..
      have hne : (encL kl).length ≤ 1 ∨ ∀ z ∈ encL kl, z.1 ≠ [] := by
        by_cases c : ps.length = 0
        · left
          rw [encL_len]
          match kl, kinv.nd, hkeyl with
          | [], _, _ => exact Nat.zero_le _
          | [_], _, _ => exact Nat.le_refl _
          | e1 :: e2 :: r, hnd, hk =>
            have k1 : e1.1 = [] := List.eq_nil_of_length_eq_zero ((hk e1 (by simp)).trans c)
            have k2 : e2.1 = [] := List.eq_nil_of_length_eq_zero ((hk e2 (by simp)).trans c)
            rw [List.map_cons, List.map_cons, List.nodup_cons] at hnd
            exact absurd (by rw [k1, k2]; exact List.mem_cons_self) hnd.1
        · right
          intro z hz
          obtain ⟨e, he, rfl⟩ := List.mem_map.mp hz
          intro z2
          have z3 : e.1.map (Sum.inl : Int → Key) = [] := z2
          have := hkeyl e he
          rw [List.map_eq_nil_iff] at z3
          rw [z3] at this
          exact c this.symm
      refine ⟨_, rfl, fo, encL kl, fun _ => false, rfl, .inl eF, shp, hne, fun zs p hz hza np => ⟨p, rfl, ⟨_, SqL.of upd_same⟩, fun D nD => ?_⟩⟩
      obtain ⟨ls, hls, ezs⟩ := perm_map (fun e : List Int × Addr => e.1.map (Sum.inl : Int → Key)) hz kl (by unfold encL; rw [List.map_map]; rfl)
      have npf : p ≠ fo := Ne.symm (ne_of_none eF np)
      have sp1 : Same H' (upd H' p (.lst (zs.map fun z => V.ref z.2))) := same_upd np
      have nD0 : H' D = none := sp1.free nD
      have nDf : D ≠ fo := Ne.symm (ne_of_none eF nD0)
      have nDp : D ≠ p := fun c => by
        rw [c, upd_same] at nD
        exact nomatch nD
      have hzl : zs.length = ls.length := by
        have := congrArg List.length ezs
        simpa using this
      have hll : ls.length ≤ 12 := by
        rw [hls.length_eq]
        omega
      refine dg_it (walk_list (K := K) (a := p) (xs := zs.map fun z => V.ref z.2)) (fun i Hc => ∃ kr : KL, kr.map (·.1) = (ls.take i).map (·.1) ∧ Hc D = some (.dT (encL kr)) ∧ Same H' Hc ∧ Hc p = some (.lst (zs.map fun z => V.ref z.2)) ∧
        ∀ e ∈ kr, Hc e.2 = some (.tup ((ofKey key ys e.1).map V.int))) ⟨[], rfl, upd_same, sp1.trans (same_upd nD), by rw [upd_ne (Ne.symm nDp), upd_same], fun e he => nomatch he⟩ (fun i Hc _ h => ?_) (fun i x Hc Hc' hi h hy => ?_) (fun Hc h => ?_)
      · obtain ⟨kr, _, _, _, eP, _⟩ := h
        exact SqL.of eP
      · obtain ⟨kr, ek, eD, smc, eP, ht2⟩ := h
        obtain ⟨rfl, hx⟩ := hy
        rw [List.length_map] at hi
        rw [List.getElem?_map, List.getElem?_eq_getElem hi] at hx
        have hx' : x = .ref zs[i].2 := (Option.some.inj hx).symm
        subst hx'
        have hi2 : i < ls.length := by omega
        have ekz : zs[i].1 = ls[i].1.map Sum.inl := by
          have h1 : (zs.map (·.1))[i]? = (ls.map fun e : List Int × Addr => e.1.map (Sum.inl : Int → Key))[i]? := by rw [ezs]
          rw [List.getElem?_map, List.getElem?_map, List.getElem?_eq_getElem hi, List.getElem?_eq_getElem hi2] at h1
          exact Option.some.inj h1
        have hlm : ls[i] ∈ kl := hls.mem_iff.mp (List.getElem_mem hi2)
        have eb := smc _ _ (hza _ (List.getElem_mem hi))
        rw [ekz] at eb
        obtain ⟨_, _, _, c4⟩ := kinv.at_ _ hlm
        have c5 := smc _ _ c4
        refine ⟨rfl, _, rfl, _, rfl, _, rfl, fo, .ref ls[i].2, rfl, .inr ⟨encL kl, _, _, .inl (smc _ _ eF), rfl, eb, ?_⟩, ls[i].2, _, rfl, .inl ⟨SqL.of c5, fun T nT => ?_⟩⟩
        · rw [encL_val, look_mem kinv.nd (k := ls[i].1) (v := ls[i].2) hlm]
          rfl
        · have nTD : T ≠ D := Ne.symm (ne_of_none eD nT)
          have sT : Same Hc' (upd Hc' T (.tup ((ofKey key ys ls[i].1).map V.int))) := same_upd nT
          have hkr : kr.length ≤ 12 := by
            have := congrArg List.length ek
            rw [List.length_map, List.length_map, List.length_take] at this
            omega
          refine ⟨_, DPut.t (sT _ _ eD) (sT _ _ eb) (by rw [encL_len]; exact small1000 (by omega)), kr ++ [(ls[i].1, T)], ?_, ?_, ?_, ?_, ?_⟩
          · rw [List.take_add_one, List.getElem?_eq_getElem hi2, List.map_append, List.map_append, ek]
            rfl
          · have hnew : look kr ls[i].1 = none := by
              rw [look_none, ek]
              intro hm
              obtain ⟨e, he, e2⟩ := List.mem_map.mp hm
              obtain ⟨j, hj, e3⟩ := List.mem_take_iff_getElem.mp he
              have hnd : (ls.map (·.1)).Nodup := (hls.map (·.1)).nodup_iff.mpr kinv.nd
              have hj2 : j < ls.length := by omega
              have h3 : (ls.map (·.1))[j]? = some ls[i].1 := by
                rw [List.getElem?_map, List.getElem?_eq_getElem hj2, e3]
                exact congrArg some e2
              have h4 : (ls.map (·.1))[i]? = some ls[i].1 := by
                rw [List.getElem?_map, List.getElem?_eq_getElem hi2]
                rfl
              have := L2.nd_ix hnd h3 h4
              omega
            rw [upd_same, encL_put, put_new T hnew]
          · intro b o e
            rw [upd_ne (ne_of_none e nD0)]
            exact sT _ _ (smc _ _ e)
          · rw [upd_ne (Ne.symm nDp)]
            exact sT _ _ eP
          · intro e he
            rcases List.mem_append.mp he with he | he
            · have h1 := sT _ _ (ht2 e he)
              rw [upd_ne (ne_of h1 (sT _ _ eD) (by intro z; exact nomatch z))]
              exact h1
            · rw [List.mem_singleton.mp he]
              show (upd (upd Hc' T _) D _) T = _
              rw [upd_ne nTD, upd_same]
      · obtain ⟨kr, ek, eD, smc, eP, ht2⟩ := h
        rw [List.length_map, hzl, List.take_length] at ek
        have hpk : (kr.map (·.1)).Perm (kl.map (·.1)) := by
          rw [ek]
          exact hls.map _
        have hq := q D kr ys Hc (sm.free nD0) (sm.trans smc) hperm (hpk.nodup_iff.mpr kinv.nd) ?_ ?_ eD ?_ ?_
        · exact hq
        · intro id2 h2
          rw [hkey']
          exact hpk.mem_iff.mpr (kinv.has id2 h2)
        · intro e he
          obtain ⟨e2, he2, e3⟩ := List.mem_map.mp (hpk.mem_iff.mp (List.mem_map.mpr ⟨e, he, rfl⟩))
          obtain ⟨id2, h2, h3⟩ := kinv.of e2 he2
          exact ⟨id2, h2, by rw [hkey', h3, e3]⟩
        · intro e he
          rw [hkey]
          exact ht2 e he
        · have := hpk.length_eq
          rw [List.length_map, List.length_map] at this
          omega
end
end Kn

set_option Elab.async false
set_option linter.all false
set_option maxRecDepth 100000
set_option maxHeartbeats 4000000
/-! group_items, is_finer. -/
namespace Kn
open PySem PySem.Spec PyProof.Rows L2
section
variable {P : Program} {w : World} {K : PySem.W.Frag} {mg : Str → Option Value} {base : Heap} {f fK fG : Addr} {fd fdK fdG : FuncData}
/-! ### groups -/
def GrpAt (H : Hp) (a : Addr) (g : List Int) : Prop := H a = some (.tup (g.map V.int))
def GrpsAt (K : PySem.W.Frag) (H : Hp) (L : Addr) (gs : List (List Int)) : Prop := ∃ as : List Addr, SqL K H L (as.map V.ref) ∧ Paired (GrpAt H) as gs
theorem GrpsAt.mono {H H' : Hp} {L : Addr} {gs : List (List Int)} (h : GrpsAt K H L gs) (s : Same H H') : GrpsAt K H' L gs := by
  obtain ⟨as, e, r⟩ := h
  exact ⟨as, s.seq e, L2.Paired.mapP r fun a g x => s _ _ x⟩
theorem GrpsAt.keepX {H H' : Hp} {L : Addr} {gs : List (List Int)} {s : Addr} (h : GrpsAt K H L gs) (hs : StrAt H s) (hL : L ≠ s) (sx : SameX s H H') : GrpsAt K H' L gs := by
  obtain ⟨as, e, r⟩ := h
  exact ⟨as, sx.seq hL e, L2.Paired.mapP r fun a g x => sx _ _ (ne_str hs x fun xs => (fun z => nomatch z)) x⟩
structure GroupsOk (ids : List Int) (key : Int → List Int) (gs : List (List Int)) : Prop where
  ne : ∀ g ∈ gs, g ≠ []
  nd : gs.flatten.Nodup
  mem : ∀ id, id ∈ gs.flatten ↔ id ∈ ids
  same : ∀ g ∈ gs, ∀ a ∈ g, ∀ b ∈ g, key a = key b
  all : ∀ g ∈ gs, ∀ a ∈ g, ∀ b ∈ ids, key a = key b → b ∈ g
theorem groups_of {ids ys : List Int} {key : Int → List Int} : ∀ {kl : KL}, ys.Perm ids → ids.Nodup → (kl.map (·.1)).Nodup → (∀ id ∈ ys, key id ∈ kl.map (·.1)) → (∀ e ∈ kl, ∃ id ∈ ys, key id = e.1) → GroupsOk ids key (kl.map fun e => ofKey key ys e.1) := by
  intro kl hp hn hk h1 h2
  have mem : ∀ (k : List Int) (id : Int), id ∈ ofKey key ys k ↔ id ∈ ys ∧ key id = k := fun k id => by
    unfold ofKey
    rw [List.mem_filter]
    simp
  refine ⟨fun g hg => ?_, ?_, fun id => ?_, fun g hg a ha b hb => ?_, fun g hg a ha b hb e => ?_⟩
  · obtain ⟨e, he, rfl⟩ := List.mem_map.mp hg
    obtain ⟨id, h3, h4⟩ := h2 e he
    intro z
    have := (mem e.1 id).mpr ⟨h3, h4⟩
    rw [z] at this
    exact nomatch this
  · have hyn : ys.Nodup := hp.nodup_iff.mpr hn
    clear h1 h2
    induction kl with
    | nil => exact List.nodup_nil
    | cons e kl ih =>
      rw [List.map_cons, List.nodup_cons] at hk
      rw [List.map_cons, List.flatten_cons, List.nodup_append]
      refine ⟨hyn.sublist List.filter_sublist, ih hk.2, fun a ha b hb c => ?_⟩
      subst c
      obtain ⟨g, hg, hag⟩ := List.mem_flatten.mp hb
      obtain ⟨e2, he2, rfl⟩ := List.mem_map.mp hg
      have k1 := ((mem _ _).mp ha).2
      have k2 := ((mem _ _).mp hag).2
      exact hk.1 (List.mem_map.mpr ⟨e2, he2, by rw [← k1, ← k2]⟩)
  · rw [List.mem_flatten, ← hp.mem_iff]
    constructor
    · rintro ⟨g, hg, hid⟩
      obtain ⟨e, he, rfl⟩ := List.mem_map.mp hg
      exact ((mem _ _).mp hid).1
    · intro hid
      obtain ⟨e, he, e2⟩ := List.mem_map.mp (h1 id hid)
      exact ⟨_, List.mem_map.mpr ⟨e, he, rfl⟩, (mem _ _).mpr ⟨hid, e2.symm⟩⟩
  · obtain ⟨e, he, rfl⟩ := List.mem_map.mp hg
    rw [((mem _ _).mp ha).2, ((mem _ _).mp hb).2]
  · obtain ⟨e2, he, rfl⟩ := List.mem_map.mp hg
    exact (mem _ _).mpr ⟨hp.mem_iff.mpr hb, by rw [← e, ((mem _ _).mp ha).2]⟩
abbrev nGi : List Str := ["rule", "items"]
theorem scGi : FnScope nGi ["rule", "items"] (defScope (top 7)) := ⟨rfl, rfl, rfl, by decide +kernel, rfl, by decide +kernel, by decide +kernel⟩
theorem bindsKg (F : FnP K "keyed_groups" (top 6) f fd) : Binds K fd ["rule", "items"] [] := FunD.bindsN F fun _ _ _ _ _ _ us hl => match us, hl with | [_, _], _ => rfl
def spGi (K : PySem.W.Frag) : Sp := fun vs H Q _ => ∃ (t d : Addr) (ps : List Pr) (its : List Item), vs = [.ref t, .ref d] ∧ SqT K H t (ps.map fun z => V.ref z.1) ∧ PairsAt H ps ∧ ps.length ≤ 10 ∧ ItemsAt H d its ∧ (idsOf its).Nodup ∧ its.length ≤ 12 ∧
  (∀ id ∈ idsOf its, RuleFits ps (fieldsOf its id).length) ∧
  ∀ (L : Addr) (gs : List (List Int)) (H' : Hp), H L = none → Same H H' → GrpsAt K H' L gs → GroupsOk (idsOf its) (fun id => keyV ps (fieldsOf its id)) gs → gs.length ≤ 12 → Q (.ref L) H'
theorem ok_gi (F : FnP K "group_items" (top 7) f fd) (FG : FnP K "keyed_groups" (top 6) fG fdG) (FK : FnP K "key_of" (top 5) fK fdK) (gG : mg "keyed_groups" = some (.ref fG)) (gK : mg "key_of" = some (.ref fK)) (gT : mg "tuple" = none) (gS : mg "sorted" = none) (gL : mg "list" = none) :
    FnOk P w K mg base CX0 3 f fd ["rule", "items"] (spGi K) := by
  have GG : FnOk P w K mg base CX0 2 fG fdG ["rule", "items"] (spKg K) := ok_kg FG FK gK gT gS
  refine F.ok scGi (fun vs H Q E h => ?_) (fun cdv A outer s H vs Q E hr h => ?_)
  · obtain ⟨t, d, ps, its, rfl, _⟩ := h
    rfl
  · obtain ⟨t, d, ps, its, rfl, ht, hp, hlen, hit, hnd, hl12, hfit, q⟩ := h
    refine ⟨_, PSs.nox (pss_one (ps_ret (pe_listValsT rfl (pe_call GG hr (by rfl) gG FG.kp (bindsKg FG) .nil pass0 (pa_cons (pv 0) (pa_cons (pv 1) pa_nil))) (by rfl) gL rfl))), ?_⟩
    refine ⟨_, rfl, _, rfl, t, d, ps, its, rfl, ht, hp, hlen, hit, hnd, hl12, hfit, fun p kl ys H' np sm hperm knd h1 h2 eK hT hkl => ⟨p, encL kl, rfl, eK, fun L nL => ?_⟩⟩
    have eL : (encL kl).map (·.2) = (kl.map (·.2)).map V.ref := by
      unfold encL
      rw [List.map_map, List.map_map]
      rfl
    refine q L (kl.map fun e => ofKey (fun id => keyV ps (fieldsOf its id)) ys e.1) _ (sm.free nL) (sm.trans (same_upd nL)) ⟨kl.map (·.2), ?_, ?_⟩ (groups_of hperm hnd knd h1 h2) (by rw [List.length_map]; exact hkl)
    · rw [eL]
      exact SqL.of upd_same
    · have gen : ∀ r : KL, (∀ e ∈ r, e ∈ kl) → Paired (GrpAt (upd H' L (.lst ((encL kl).map (·.2))))) (r.map (·.2)) (r.map fun e => ofKey (fun id => keyV ps (fieldsOf its id)) ys e.1) := fun r => by
        induction r with
        | nil => intro _; exact .nil
        | cons e r ih =>
          intro h
          refine .cons ?_ (ih fun y hy => h y (List.mem_cons_of_mem _ hy))
          exact same_upd nL _ _ (hT e (h e List.mem_cons_self))
      exact gen kl fun e he => he
/-! ### finer rules -/
abbrev nFin : List Str := ["rule", "other", "steps", "column", "step"]
theorem scFin : FnScope nFin ["rule", "other"] (defScope (top 8)) := ⟨rfl, rfl, rfl, by decide +kernel, rfl, by decide +kernel, by decide +kernel⟩
theorem mergeK_nd : ∀ (kvs acc : List (Key × V)), ((acc ++ kvs).map (·.1)).Nodup → mergeK acc kvs = acc ++ kvs
  | [], acc, _ => by
    rw [List.append_nil]
    rfl
  | e :: kvs, acc, h => by
    have hn : valV acc e.1 = none := by
      cases c : valV acc e.1 with
      | none => rfl
      | some v =>
        have := valV_in c
        rw [List.map_append, List.nodup_append] at h
        exact absurd rfl (h.2.2 e.1 this e.1 (by simp))
    show mergeK (putK acc e.1 e.2) kvs = _
    rw [putK_new _ hn, mergeK_nd kvs _ (by rw [List.append_assoc]; exact h), List.append_assoc]
    rfl
def encR (ps : List Pr) : List (Key × V) := ps.map fun z => ((Sum.inl z.2.1 : Key), V.int z.2.2)
theorem encR_val : ∀ {ps : List Pr} {z : Pr}, (ps.map (·.2.1)).Nodup → z ∈ ps → valV (encR ps) (.inl z.2.1) = some (.int z.2.2)
  | p :: ps, z, h, hz => by
    rw [List.map_cons, List.nodup_cons] at h
    unfold encR
    rw [List.map_cons]
    rcases List.mem_cons.mp hz with e | e
    · rw [valV_pos (by rw [e]), e]
    · have hne : ¬ (Sum.inl p.2.1 : Key) = Sum.inl z.2.1 := fun c => h.1 (by rw [inl_inj _ _ c]; exact List.mem_map.mpr ⟨z, e, rfl⟩)
      rw [valV_neg hne]
      exact encR_val h.2 e
def spFin (K : PySem.W.Frag) : Sp := fun vs H Q _ => ∃ (t u : Addr) (ps qs : List Pr), vs = [.ref t, .ref u] ∧ RuleAt H t ps ∧ RuleAt H u qs ∧ (ps.map (·.2.1)).Nodup ∧ Coarser ps qs ∧ (∀ z ∈ ps, 0 < z.2.2) ∧ qs.length ≤ 3 ∧ ∀ H' : Hp, Same H H' → Q (.bl true) H'
theorem ok_fin (F : FnP K "is_finer" (top 8) f fd) (gD : mg "dict" = none) (gA : mg "all" = none) : FnOk P w K mg base CX0 1 f fd ["rule", "other"] (spFin K) := by
  refine F.ok scFin (fun vs H Q E h => ?_) (fun cdv A outer s H vs Q E hr h => ?_)
  · obtain ⟨t, u, ps, qs, rfl, _⟩ := h
    rfl
  · obtain ⟨t, u, ps, qs, rfl, hp, hq, hnd, hco, hst, hl, q⟩ := h
    refine ⟨_, PSs.nox (pss_cons (ps_set (i := 2) scFin.nd rfl (Or.inr rfl) (pe_callTy (cr_dictPT rfl) (by rfl) gD rfl (pa_cons (pv 0) pa_nil)))
      (pss_one (ps_ret (pe_callB (cr_all rfl) (by rfl) gA rfl (pa_cons
        (pe_lc (own := [("column", 3), ("step", 4)]) (tt := tYes) (g := gTup K 2 (gCons (gName 3) (gCons (gName 4) gNil))) rfl scFin.nd (pi_tup (pv 1)) (blkOk_by (N := nFin) (sc := defScope (top 8)) (by decide +kernel))
          (fun _ _ _ _ _ => pgTup rfl (pgs_cons (pg_name (i := 3) scFin.nd rfl (.inl rfl)) (pgs_cons (pg_name (i := 4) scFin.nd rfl (.inl rfl)) pgs_nil)))
          (fun _ _ _ _ _ => pts_nil) (fun _ _ _ _ _ => pe_and (pe_cmp (pc_din (hu_of hr) (pv 3) (pv 2))) (pe_one (pe_cmpR op_eq (pe_op op_mod (pv 4) (pe_dget (hu_of hr) (pv 2) (pv 3) (fun _ _ => rfl))) pe_int (nomark _))))) pa_nil))))), ?_⟩
    have pairs : ∀ r : List Pr, PairsAt H r → Paired (fun p (kv : Key × V) => SqT K H p [kV kv.1, kv.2]) (r.map (·.1)) (encR r) := fun r => by
      induction r with
      | nil => intro _; exact .nil
      | cons z r ih =>
        intro h
        exact .cons (SqT.of (h z List.mem_cons_self)) (ih fun y hy => h y (List.mem_cons_of_mem _ hy))
    have hkn : ((encR ps).map (·.1)).Nodup := by
      have e : (encR ps).map (·.1) = (ps.map (·.2.1)).map Sum.inl := by
        unfold encR
        rw [List.map_map, List.map_map]
        rfl
      rw [e]
      exact List.Pairwise.map _ (fun a b h c => h (inl_inj _ _ c)) hnd
    refine ⟨_, rfl, t, ps.map fun z : Pr => z.1, encR ps, rfl, by rw [List.map_map]; exact hp.1, pairs ps hp.2, fun d nd => ?_⟩
    rw [mergeK_nd (encR ps) [] hkn, List.nil_append]
    have s1 : Same H (upd H d (.dK (encR ps))) := same_upd nd
    refine ⟨_, rfl, u, rfl, ⟨_, same_seqT s1 hq.1.sq⟩, fun D nD => ?_⟩
    have nDd : D ≠ d := fun c => by
      rw [c, upd_same] at nD
      exact nomatch nD
    refine lc_tup (xs := qs.map fun z => V.ref z.1) (fun i H' => ∃ bs : List Bool, H' D = some (.lst (bs.map V.bl)) ∧ bs.length = i ∧ bs.all id = true ∧ Same H H' ∧ H' d = some (.dK (encR ps))) ⟨[], upd_same, rfl, rfl, s1.trans (same_upd nD), by rw [upd_ne (Ne.symm nDd), upd_same]⟩ (fun i H' _ h => ?_) (fun i x H' hx h => ?_) (fun H' h => ?_)
    · obtain ⟨bs, _, _, _, sm, _⟩ := h
      exact same_seqT sm hq.1.sq
    · obtain ⟨bs, eD, hbl, hba, sm, ed⟩ := h
      rw [List.getElem?_map, Option.map_eq_some_iff] at hx
      obtain ⟨z, hz, rfl⟩ := hx
      have hzm := List.mem_of_getElem? hz
      have hi : i < qs.length := (List.getElem?_eq_some_iff.mp hz).1
      obtain ⟨y, hy, k, k0, k1, e1, e2⟩ := hco z hzm
      have hv := encR_val hnd hy
      have hy0 := hst y hy
      refine ⟨z.1, _, rfl, SqT.of (sm _ _ (hq.2 z hzm)), rfl, _, _, rfl, _, _, rfl, rfl, ?_⟩
      refine ⟨rfl, _, rfl, _, rfl, d, _, rfl, DGet.k (k := Sum.inl z.2.1) ed, ?_⟩
      rw [e1, hv]
      refine ⟨_, rfl, ?_⟩
      refine iteT ?_
      refine ⟨_, rfl, _, rfl, _, rfl, d, .int y.2.2, rfl, .inl ⟨encR ps, .inl y.2.1, .inl ed, rfl, hv.symm⟩, _, _, rfl, rfl, hy0, rfl, ?_⟩
      have e3 : z.2.2 % y.2.2 = 0 := by
        rw [e2]
        exact Int.mul_emod_right _ _
      refine ⟨_, eD, by rw [List.length_map]; exact small1000 (by omega), bs ++ [true], ?_, by rw [List.length_append, hbl]; rfl, by rw [List.all_append, hba]; rfl, ?_, ?_⟩
      · have e4 : (fun i j : Int => V.int (i % j)) z.2.2 y.2.2 = V.int 0 := congrArg V.int e3
        rw [e4, upd_same, List.map_append]
        rfl
      · intro b o e
        have : H b = some o := e
        have nb : b ≠ D := fun c => by
          have h1 := s1.free nD
          rw [← c, this] at h1
          exact nomatch h1
        rw [upd_ne nb]
        exact sm _ _ e
      · rw [upd_ne (Ne.symm nDd)]
        exact ed
    · obtain ⟨bs, eD, hbl, hba, sm, ed⟩ := h
      refine ⟨D, bs, rfl, SqL.of eD, ?_⟩
      rw [hba]
      exact q H' sm
end
end Kn

set_option Elab.async false
set_option linter.all false
set_option maxRecDepth 100000
set_option maxHeartbeats 4000000
/-! label_table, _law_table_of. -/
namespace Kn
open PySem PySem.Spec PyProof.Rows L2
section
variable {P : Program} {w : World} {K : PySem.W.Frag} {mg : Str → Option Value} {base : Heap} {f fK fG : Addr} {fd fdK fdG : FuncData}
def LabAt (H : Hp) (d : Addr) (L : Int → Option Str) : Prop := ∃ kvs, H d = some (.dK kvs) ∧ ∀ i : Int, valV kvs (.inl i) = (L i).map V.str
def WgtAt (H : Hp) (d : Addr) (Wt : Int → Int) (ids : List Int) : Prop := ∃ kvs, H d = some (.dK kvs) ∧ ∀ i ∈ ids, valV kvs (.inl i) = some (.int (Wt i))
theorem LabAt.mono {H H' : Hp} {d : Addr} {L : Int → Option Str} (h : LabAt H d L) (s : Same H H') : LabAt H' d L := let ⟨k, e, r⟩ := h; ⟨k, s _ _ e, r⟩
theorem WgtAt.mono {H H' : Hp} {d : Addr} {Wt : Int → Int} {ids : List Int} (h : WgtAt H d Wt ids) (s : Same H H') : WgtAt H' d Wt ids := let ⟨k, e, r⟩ := h; ⟨k, s _ _ e, r⟩
abbrev Tab : Type := List ((Str × Int) × Int)
def tK (k : Str × Int) : List Key := [.inr k.1, .inl k.2]
def encT (tb : Tab) : List (List Key × V) := tb.map fun e => (tK e.1, V.int e.2)
theorem tK_inj (a b : Str × Int) (h : tK a = tK b) : a = b := by
  unfold tK at h
  injection h with h1 h2
  injection h2 with h3 _
  exact Prod.ext (inr_inj _ _ h1) (inl_inj _ _ h3)
theorem encT_val (tb : Tab) (k : Str × Int) : valV (encT tb) (tK k) = (look tb k).map V.int := valV_enc tK V.int tK_inj k tb
theorem encT_put (tb : Tab) (k : Str × Int) (v : Int) : putK (encT tb) (tK k) (.int v) = encT (put tb k v) := putK_enc tK V.int tK_inj tb k v
theorem encT_len (tb : Tab) : (encT tb).length = tb.length := List.length_map ..
/-- place and id of all things in the first n groups -/
def evs (gs : List (List Int)) (n : Nat) : List (Int × Int) := ((List.range n).map fun p => (gs.getD p []).map fun id => ((p : Int), id)).flatten
theorem evs_succ (gs : List (List Int)) (n : Nat) : evs gs (n + 1) = evs gs n ++ (gs.getD n []).map fun id => ((n : Int), id) := by
  unfold evs
  rw [List.range_succ, List.map_append, List.flatten_append]
  simp
def lstep (L : Int → Option Str) (Wt : Int → Int) (tb : Tab) (e : Int × Int) : Tab := match L e.2 with
  | none => tb
  | some n => put tb (n, e.1) ((look tb (n, e.1)).getD 0 + Wt e.2)
def ltab (L : Int → Option Str) (Wt : Int → Int) (ev : List (Int × Int)) : Tab := ev.foldl (lstep L Wt) []
theorem ltab_snoc (L : Int → Option Str) (Wt : Int → Int) (ev : List (Int × Int)) (e : Int × Int) : ltab L Wt (ev ++ [e]) = lstep L Wt (ltab L Wt ev) e := by
  unfold ltab
  rw [List.foldl_append]
  rfl
theorem put_len {κ α : Type} [DecidableEq κ] (kvs : List (κ × α)) (k : κ) (v : α) : (put kvs k v).length ≤ kvs.length + 1 := by
  unfold put
  split
  · rw [List.length_map]
    omega
  · rw [List.length_append]
    exact Nat.le_refl _
theorem ltab_len (L : Int → Option Str) (Wt : Int → Int) (ev : List (Int × Int)) : (ltab L Wt ev).length ≤ ev.length := by
  have gen : ∀ (ev : List (Int × Int)) (acc : Tab), (ev.foldl (lstep L Wt) acc).length ≤ acc.length + ev.length := fun ev => by
    induction ev with
    | nil => intro acc; exact Nat.le_refl _
    | cons e ev ih =>
      intro acc
      have h1 := ih (lstep L Wt acc e)
      have h2 : (lstep L Wt acc e).length ≤ acc.length + 1 := by
        unfold lstep
        split
        · omega
        · exact put_len _ _ _
      rw [List.foldl_cons, List.length_cons]
      omega
  have := gen ev []
  rw [List.length_nil, Nat.zero_add] at this
  exact this
theorem evs_len (gs : List (List Int)) : ∀ n, n ≤ gs.length → (evs gs n).length + (gs.drop n).flatten.length = gs.flatten.length
  | 0, _ => by
    simp [evs]
  | n + 1, h => by
    have ih := evs_len gs n (by omega)
    have hn : n < gs.length := by omega
    rw [List.drop_eq_getElem_cons hn, List.flatten_cons, List.length_append] at ih
    rw [evs_succ, List.length_append, List.length_map, List.getD_eq_getElem?_getD, List.getElem?_eq_getElem hn]
    show _ + gs[n].length + _ = _
    omega
theorem paired_len {α β : Type} {G : α → β → Prop} {l : List α} {m : List β} (h : Paired G l m) : l.length = m.length := Paired.length h
abbrev nLt : List Str := ["labels", "groups", "weights", "found", "place", "group", "row_id", "key"]
theorem scLt : FnScope nLt ["labels", "groups", "weights"] (defScope (top 10)) := ⟨rfl, rfl, rfl, by decide +kernel, rfl, by decide +kernel, by decide +kernel⟩
def spLt (K : PySem.W.Frag) : Sp := fun vs H Q _ => ∃ (ld g wd : Addr) (L : Int → Option Str) (Wt : Int → Int) (gs : List (List Int)), vs = [.ref ld, .ref g, .ref wd] ∧ LabAt H ld L ∧ GrpsAt K H g gs ∧ WgtAt H wd Wt gs.flatten ∧ gs.flatten.length ≤ 12 ∧
  ∀ (p : Addr) (H' : Hp), H p = none → Same H H' → H' p = some (.dT (encT (ltab L Wt (evs gs gs.length)))) → Q (.ref p) H'
theorem ok_lt (F : FnP K "label_table" (top 10) f fd) (gE : mg "enumerate" = none) : FnOk P w K mg base CX0 1 f fd ["labels", "groups", "weights"] (spLt K) := by
  refine F.ok scLt (fun vs H Q E h => ?_) (fun cdv A outer s H vs Q E hr h => ?_)
  · obtain ⟨ld, g, wd, L, Wt, gs, rfl, _⟩ := h
    rfl
  · obtain ⟨ld, g, wd, L, Wt, gs, rfl, hL, hG, hW, hlen, q⟩ := h
    refine ⟨_, PSs.nox (pss_cons (ps_set (i := 3) scLt.nd rfl (Or.inl rfl) pe_dnewT)
      (pss_cons (ps_for PassesOwn.never rfl (pi_enum (by rfl) gE (pa_cons (pv 1) pa_nil)) (pg_tup rfl (pgs_cons (pg_name (i := 4) scLt.nd rfl (.inl rfl)) (pgs_cons (pg_name (i := 5) scLt.nd rfl (.inl rfl)) pgs_nil)))
        (pss_one (ps_for PassesOwn.never rfl (pi_tup (pv 5)) (pg_name (i := 6) scLt.nd rfl (.inl rfl))
          (pss_one (ps_if (pt_cmp (pc_din (hu_of hr) (pv 6) (pv 0)))
            (pss_cons (ps_set (i := 7) scLt.nd rfl (Or.inl rfl) (pe_tup (pa_cons (pe_dget (hu_of hr) (pv 0) (pv 6) (fun _ _ => rfl)) (pa_cons (pv 4) pa_nil))))
              (pss_one (ps_dput (hu_of hr) (pv 3) (pv 7) (pe_op op_add (pe_dget2 (hu_of hr) (pv 3) (pv 7) pe_int ⟨by rfl, by rfl, by rfl, by rfl⟩) (pe_dget (hu_of hr) (pv 2) (pv 6) (fun _ _ => rfl))) rfl))) pss_nil)))))
      (pss_one (ps_ret (pv 3))))), ?_⟩
    intro fo nf
    have s1 : Same H (upd H fo (.dT [])) := same_upd nf
    obtain ⟨as, ea, ra⟩ := id hG
    have hal := paired_len ra
    obtain ⟨lk, el, hlk⟩ := id hL
    obtain ⟨wk, ew, hwk⟩ := id hW
    refine ⟨_, rfl, g, _, rfl, s1.seq ea, ?_⟩
    refine for_it (walk_enum (K := K) (a := g) (xs := as.map V.ref)) (fun i σ H' => ∃ y4 y5 y6 y7 : Option V, σ = [some (.ref ld), some (.ref g), some (.ref wd), some (.ref fo), y4, y5, y6, y7] ∧ Same H H' ∧ H' fo = some (.dT (encT (ltab L Wt (evs gs i)))))
      ⟨none, none, none, none, rfl, s1, upd_same⟩ (fun i σ H' _ h => ?_) (fun i x σ H' H2 hi h hy => ?_) (fun σ H' h => ?_)
    · obtain ⟨y4, y5, y6, y7, rfl, sm, eF⟩ := h
      exact sm.seq ea
    · obtain ⟨y4, y5, y6, y7, rfl, sm, eF⟩ := h
      obtain ⟨T, x1, x2, rfl, nT, rfl, g1, g2⟩ := hy
      cases Option.some.inj g1
      rw [List.length_map] at hi
      have hi2 : i < gs.length := by omega
      replace g2 : (as.map V.ref)[i]? = some x2 := g2
      rw [List.getElem?_map, List.getElem?_eq_getElem hi] at g2
      have g2' : x2 = .ref as[i] := (Option.some.inj g2).symm
      subst g2'
      have hga : H as[i] = some (.tup (gs[i].map V.int)) := by
        obtain ⟨b, hb, hg⟩ := L2.paired_get ra (List.getElem?_eq_getElem hi)
        rw [List.getElem?_eq_getElem hi2] at hb
        cases hb
        exact hg
      have sT : Same H' (upd H' T (.tup [.int (i : Nat), .ref as[i]])) := same_upd nT
      have smT := sm.trans sT
      refine ⟨T, _, rfl, SqT.of upd_same, rfl, _, _, rfl, _, _, rfl, rfl, ?_⟩
      refine ⟨_, rfl, as[i], rfl, ⟨_, SqT.of (smT _ _ hga)⟩, ?_⟩
      refine for_it (walk_tup (K := K) (a := as[i]) (xs := gs[i].map V.int)) (fun j σ H2 => ∃ y6 y7 : Option V, σ = [some (.ref ld), some (.ref g), some (.ref wd), some (.ref fo), some (.int (i : Nat)), some (.ref as[i]), y6, y7] ∧ Same H H2 ∧ H2 fo = some (.dT (encT (ltab L Wt (evs gs i ++ (gs[i].take j).map fun id => ((i : Int), id))))))
        ⟨y6, y7, rfl, smT, ?_⟩ (fun j σ H2 _ h => ?_) (fun j x σ H2 H3 hj h hy => ?_) (fun σ H2 h => ?_)
      · rw [List.take_zero, List.map_nil, List.append_nil]
        exact sT _ _ eF
      · obtain ⟨z6, z7, rfl, sm2, _⟩ := h
        exact SqT.of (sm2 _ _ hga)
      · obtain ⟨z6, z7, rfl, sm2, eF2⟩ := h
        obtain ⟨rfl, hx⟩ := hy
        rw [List.length_map] at hj
        rw [List.getElem?_map, List.getElem?_eq_getElem hj] at hx
        have hx' : x = .int gs[i][j] := (Option.some.inj hx).symm
        subst hx'
        generalize hid : gs[i][j] = id
        have hidm : id ∈ gs.flatten := List.mem_flatten.mpr ⟨gs[i], List.getElem_mem hi2, by rw [← hid]; exact List.getElem_mem hj⟩
        have estep : (gs[i].take (j + 1)).map (fun id => ((i : Int), id)) = (gs[i].take j).map (fun id => ((i : Int), id)) ++ [((i : Int), id)] := by
          rw [List.take_add_one, List.getElem?_eq_getElem hj, List.map_append, hid]
          rfl
        have elen : (evs gs i ++ (gs[i].take j).map fun id => ((i : Int), id)).length ≤ 12 := by
          have h1 := evs_len gs i (by omega)
          rw [List.drop_eq_getElem_cons hi2, List.flatten_cons, List.length_append] at h1
          rw [List.length_append, List.length_map, List.length_take]
          omega
        rw [estep, ← List.append_assoc, ltab_snoc]
        have tl := ltab_len L Wt (evs gs i ++ (gs[i].take j).map fun id => ((i : Int), id))
        generalize evs gs i ++ (gs[i].take j).map (fun id => ((i : Int), id)) = ev at eF2 elen tl ⊢
        refine ⟨_, rfl, _, rfl, ld, _, rfl, DGet.k (k := Sum.inl id) (sm2 _ _ el), _, rfl, ?_⟩
        rw [hlk id]
        cases hLi : L id with
        | none =>
          refine iteF ?_
          refine ⟨_, _, rfl, sm2, ?_⟩
          unfold lstep
          rw [hLi]
          exact eF2
        | some n =>
          refine iteT ?_
          refine ⟨_, rfl, _, rfl, ld, .str n, rfl, .inl ⟨lk, .inl id, .inl (sm2 _ _ el), rfl, by rw [hlk id, hLi]; rfl⟩, _, rfl, (show 2 ≤ sizeLine by decide), fun T2 nT2 => ?_⟩
          have s3 : Same H3 (upd H3 T2 (.tup [.str n, .int (i : Nat)])) := same_upd nT2
          have eF3 := s3 _ _ eF2
          have eT : (upd H3 T2 (.tup [.str n, .int (i : Nat)])) T2 = some (.tup ((tK (n, (i : Int))).map kV)) := upd_same
          refine ⟨_, rfl, fo, rfl, .inr ⟨_, .inl eF3⟩, _, rfl, _, DGet.t eF3 eT, ?_⟩
          rw [encT_val]
          refine ⟨_, rfl, _, rfl, wd, .int (Wt id), rfl, .inl ⟨wk, .inl id, .inl (s3 _ _ (sm2 _ _ ew)), rfl, (hwk id hidm).symm⟩, (look (ltab L Wt ev) (n, (i : Int))).getD 0, Wt id, ?_, rfl, ?_⟩
          · cases look (ltab L Wt ev) (n, (i : Int)) <;> rfl
          · refine ⟨_, rfl, _, rfl, fo, _, rfl, DPut.t eF3 eT (by rw [encT_len]; exact small1000 (by omega)), ?_⟩
            refine ⟨_, _, rfl, ?_, ?_⟩
            · intro b o e
              rw [upd_ne (ne_of_none e nf)]
              exact s3 _ _ (sm2 _ _ e)
            · unfold lstep
              rw [upd_same, hLi]
              exact congrArg (fun z => some (HO.dT z)) (encT_put _ _ _)
      · obtain ⟨z6, z7, rfl, sm2, eF2⟩ := h
        refine ⟨_, _, _, _, rfl, sm2, ?_⟩
        rw [evs_succ, List.getD_eq_getElem?_getD, List.getElem?_eq_getElem hi2]
        rw [List.length_map, List.take_length] at eF2
        exact eF2
    · obtain ⟨y4, y5, y6, y7, rfl, sm, eF⟩ := h
      rw [List.length_map, hal] at eF
      exact ⟨_, rfl, q fo H' nf sm eF⟩
end
end Kn

set_option Elab.async false
set_option linter.all false
set_option maxRecDepth 100000
set_option maxHeartbeats 4000000
/-! _law_table_of (printed by mk_d2.py). -/
namespace Kn
open PySem PySem.Spec PyProof.Rows L2
section
variable {P : Program} {w : World} {K : PySem.W.Frag} {mg : Str → Option Value} {base : Heap} {f fK fG : Addr} {fd fdK fdG : FuncData}
abbrev nTo : List Str := ["_law_labels", "_law_groups", "_law_weights", "_law_found", "_law_spot", "_law_group", "_law_row"]
theorem scTo : FnScope nTo ["_law_labels", "_law_groups", "_law_weights"] (defScope (top 31)) := ⟨rfl, rfl, rfl, by decide +kernel, rfl, by decide +kernel, by decide +kernel⟩
theorem ok_to (F : FnP K "_law_table_of" (top 31) f fd) (gE : mg "enumerate" = none) : FnOk P w K mg base CX0 1 f fd ["_law_labels", "_law_groups", "_law_weights"] (spLt K) := by
  refine F.ok scTo (fun vs H Q E h => ?_) (fun cdv A outer s H vs Q E hr h => ?_)
  · obtain ⟨ld, g, wd, L, Wt, gs, rfl, _⟩ := h
    rfl
  · obtain ⟨ld, g, wd, L, Wt, gs, rfl, hL, hG, hW, hlen, q⟩ := h
    refine ⟨_, PSs.nox (pss_cons (ps_set (i := 3) scTo.nd rfl (Or.inl rfl) pe_dnewT)
      (pss_cons (ps_for PassesOwn.never rfl (pi_enum (by rfl) gE (pa_cons (pv 1) pa_nil)) (pg_tup rfl (pgs_cons (pg_name (i := 4) scTo.nd rfl (.inl rfl)) (pgs_cons (pg_name (i := 5) scTo.nd rfl (.inl rfl)) pgs_nil)))
        (pss_one (ps_for PassesOwn.never rfl (pi_tup (pv 5)) (pg_name (i := 6) scTo.nd rfl (.inl rfl))
          (pss_one (ps_if (pt_cmp (pc_din (hu_of hr) (pv 6) (pv 0)))
            (pss_one (ps_dput (hu_of hr) (pv 3) (pe_tup (pa_cons (pe_dget (hu_of hr) (pv 0) (pv 6) (fun _ _ => rfl)) (pa_cons (pv 4) pa_nil))) (pe_op op_add (pe_dget2 (hu_of hr) (pv 3) (pe_tup (pa_cons (pe_dget (hu_of hr) (pv 0) (pv 6) (fun _ _ => rfl)) (pa_cons (pv 4) pa_nil))) pe_int ⟨by rfl, by rfl, by rfl, by rfl⟩) (pe_dget (hu_of hr) (pv 2) (pv 6) (fun _ _ => rfl))) rfl)) pss_nil)))))
      (pss_one (ps_ret (pv 3))))), ?_⟩
    intro fo nf
    have s1 : Same H (upd H fo (.dT [])) := same_upd nf
    obtain ⟨as, ea, ra⟩ := id hG
    have hal := paired_len ra
    obtain ⟨lk, el, hlk⟩ := id hL
    obtain ⟨wk, ew, hwk⟩ := id hW
    refine ⟨_, rfl, g, _, rfl, s1.seq ea, ?_⟩
    refine for_it (walk_enum (K := K) (a := g) (xs := as.map V.ref)) (fun i σ H' => ∃ y4 y5 y6 : Option V, σ = [some (.ref ld), some (.ref g), some (.ref wd), some (.ref fo), y4, y5, y6] ∧ Same H H' ∧ H' fo = some (.dT (encT (ltab L Wt (evs gs i)))))
      ⟨none, none, none, rfl, s1, upd_same⟩ (fun i σ H' _ h => ?_) (fun i x σ H' H2 hi h hy => ?_) (fun σ H' h => ?_)
    · obtain ⟨y4, y5, y6, rfl, sm, eF⟩ := h
      exact sm.seq ea
    · obtain ⟨y4, y5, y6, rfl, sm, eF⟩ := h
      obtain ⟨T, x1, x2, rfl, nT, rfl, g1, g2⟩ := hy
      cases Option.some.inj g1
      rw [List.length_map] at hi
      have hi2 : i < gs.length := by omega
      replace g2 : (as.map V.ref)[i]? = some x2 := g2
      rw [List.getElem?_map, List.getElem?_eq_getElem hi] at g2
      have g2' : x2 = .ref as[i] := (Option.some.inj g2).symm
      subst g2'
      have hga : H as[i] = some (.tup (gs[i].map V.int)) := by
        obtain ⟨b, hb, hg⟩ := L2.paired_get ra (List.getElem?_eq_getElem hi)
        rw [List.getElem?_eq_getElem hi2] at hb
        cases hb
        exact hg
      have sT : Same H' (upd H' T (.tup [.int (i : Nat), .ref as[i]])) := same_upd nT
      have smT := sm.trans sT
      refine ⟨T, _, rfl, SqT.of upd_same, rfl, _, _, rfl, _, _, rfl, rfl, ?_⟩
      refine ⟨_, rfl, as[i], rfl, ⟨_, SqT.of (smT _ _ hga)⟩, ?_⟩
      refine for_it (walk_tup (K := K) (a := as[i]) (xs := gs[i].map V.int)) (fun j σ H2 => ∃ y6 : Option V, σ = [some (.ref ld), some (.ref g), some (.ref wd), some (.ref fo), some (.int (i : Nat)), some (.ref as[i]), y6] ∧ Same H H2 ∧ H2 fo = some (.dT (encT (ltab L Wt (evs gs i ++ (gs[i].take j).map fun id => ((i : Int), id))))))
        ⟨y6, rfl, smT, ?_⟩ (fun j σ H2 _ h => ?_) (fun j x σ H2 H3 hj h hy => ?_) (fun σ H2 h => ?_)
      · rw [List.take_zero, List.map_nil, List.append_nil]
        exact sT _ _ eF
      · obtain ⟨z6, rfl, sm2, _⟩ := h
        exact SqT.of (sm2 _ _ hga)
      · obtain ⟨z6, rfl, sm2, eF2⟩ := h
        obtain ⟨rfl, hx⟩ := hy
        rw [List.length_map] at hj
        rw [List.getElem?_map, List.getElem?_eq_getElem hj] at hx
        have hx' : x = .int gs[i][j] := (Option.some.inj hx).symm
        subst hx'
        generalize hid : gs[i][j] = id
        have hidm : id ∈ gs.flatten := List.mem_flatten.mpr ⟨gs[i], List.getElem_mem hi2, by rw [← hid]; exact List.getElem_mem hj⟩
        have estep : (gs[i].take (j + 1)).map (fun id => ((i : Int), id)) = (gs[i].take j).map (fun id => ((i : Int), id)) ++ [((i : Int), id)] := by
          rw [List.take_add_one, List.getElem?_eq_getElem hj, List.map_append, hid]
          rfl
        have elen : (evs gs i ++ (gs[i].take j).map fun id => ((i : Int), id)).length ≤ 12 := by
          have h1 := evs_len gs i (by omega)
          rw [List.drop_eq_getElem_cons hi2, List.flatten_cons, List.length_append] at h1
          rw [List.length_append, List.length_map, List.length_take]
          omega
        rw [estep, ← List.append_assoc, ltab_snoc]
        have tl := ltab_len L Wt (evs gs i ++ (gs[i].take j).map fun id => ((i : Int), id))
        generalize evs gs i ++ (gs[i].take j).map (fun id => ((i : Int), id)) = ev at eF2 elen tl ⊢
        refine ⟨_, rfl, _, rfl, ld, _, rfl, DGet.k (k := Sum.inl id) (sm2 _ _ el), _, rfl, ?_⟩
        rw [hlk id]
        cases hLi : L id with
        | none =>
          refine iteF ?_
          refine ⟨_, rfl, sm2, ?_⟩
          unfold lstep
          rw [hLi]
          exact eF2
        | some n =>
          refine iteT ?_
          refine ⟨_, rfl, fo, rfl, .inr ⟨_, .inl eF2⟩, ?_⟩
          refine ⟨_, rfl, _, rfl, ld, .str n, rfl, .inl ⟨lk, .inl id, .inl (sm2 _ _ el), rfl, by rw [hlk id, hLi]; rfl⟩, _, rfl, (show 2 ≤ sizeLine by decide), fun T2 nT2 => ?_⟩
          have s3 : Same H3 (upd H3 T2 (.tup [.str n, .int (i : Nat)])) := same_upd nT2
          have eF3 := s3 _ _ eF2
          have eT : (upd H3 T2 (.tup [.str n, .int (i : Nat)])) T2 = some (.tup ((tK (n, (i : Int))).map kV)) := upd_same
          refine ⟨_, DGet.t eF3 eT, ?_⟩
          rw [encT_val]
          refine ⟨_, rfl, _, rfl, wd, .int (Wt id), rfl, .inl ⟨wk, .inl id, .inl (s3 _ _ (sm2 _ _ ew)), rfl, (hwk id hidm).symm⟩, (look (ltab L Wt ev) (n, (i : Int))).getD 0, Wt id, ?_, rfl, ?_⟩
          · cases look (ltab L Wt ev) (n, (i : Int)) <;> rfl
          · refine ⟨_, rfl, ?_⟩
            refine ⟨_, rfl, _, rfl, ld, .str n, rfl, .inl ⟨lk, .inl id, .inl (s3 _ _ (sm2 _ _ el)), rfl, by rw [hlk id, hLi]; rfl⟩, _, rfl, (show 2 ≤ sizeLine by decide), fun T3 nT3 => ?_⟩
            have s4 : Same (upd H3 T2 (.tup [.str n, .int (i : Nat)])) (upd (upd H3 T2 (.tup [.str n, .int (i : Nat)])) T3 (.tup [.str n, .int (i : Nat)])) := same_upd nT3
            have eT3 : (upd (upd H3 T2 (.tup [.str n, .int (i : Nat)])) T3 (.tup [.str n, .int (i : Nat)])) T3 = some (.tup ((tK (n, (i : Int))).map kV)) := upd_same
            refine ⟨fo, _, rfl, DPut.t (s4 _ _ eF3) eT3 (by rw [encT_len]; exact small1000 (by omega)), ?_⟩
            refine ⟨_, rfl, ?_, ?_⟩
            · intro b o e
              rw [upd_ne (ne_of_none e nf)]
              exact s4 _ _ (s3 _ _ (sm2 _ _ e))
            · unfold lstep
              rw [upd_same, hLi]
              exact congrArg (fun z => some (HO.dT z)) (encT_put _ _ _)
      · obtain ⟨z6, rfl, sm2, eF2⟩ := h
        refine ⟨_, _, _, rfl, sm2, ?_⟩
        rw [evs_succ, List.getD_eq_getElem?_getD, List.getElem?_eq_getElem hi2]
        rw [List.length_map, List.take_length] at eF2
        exact eF2
    · obtain ⟨y4, y5, y6, rfl, sm, eF⟩ := h
      rw [List.length_map, hal] at eF
      exact ⟨_, rfl, q fo H' nf sm eF⟩
end
end Kn

set_option Elab.async false
set_option linter.all false
set_option maxRecDepth 100000
set_option maxHeartbeats 4000000
/-! table_names, table_places, without. -/
namespace Kn
open PySem PySem.Spec PyProof.Rows L2
section
variable {P : Program} {w : World} {K : PySem.W.Frag} {mg : Str → Option Value} {base : Heap} {f fK fG : Addr} {fd fdK fdG : FuncData}
def encB (f : Str → Key) (nl : List (Str × Bool)) : List (Key × V) := nl.map fun e => (f e.1, V.bl e.2)
theorem encT_at {tb : Tab} {i : Nat} {k : List Key} {v : V} (h : (encT tb)[i]? = some (k, v)) : ∃ e, tb[i]? = some e ∧ k = tK e.1 ∧ v = .int e.2 := by
  unfold encT at h
  rw [List.getElem?_map, Option.map_eq_some_iff] at h
  obtain ⟨e, h1, h2⟩ := h
  injection h2 with h3 h4
  exact ⟨e, h1, h3.symm, h4.symm⟩
abbrev nTn : List Str := ["table", "name", "place"]
theorem scTn : FnScope nTn ["table"] (defScope (top 12)) := ⟨rfl, rfl, rfl, by decide +kernel, rfl, by decide +kernel, by decide +kernel⟩
theorem scTp : FnScope nTn ["table"] (defScope (top 13)) := ⟨rfl, rfl, rfl, by decide +kernel, rfl, by decide +kernel, by decide +kernel⟩
theorem tup2 (k : Str × Int) : (tK k).map kV = [.str k.1, .int k.2] := rfl
def spTn : Sp := fun vs H Q _ => ∃ (d : Addr) (tb : Tab), vs = [.ref d] ∧ H d = some (.dT (encT tb)) ∧ tb.length ≤ 12 ∧
  ∀ (p : Addr) (ys : List Str) (H' : Hp), H p = none → Same H H' → ys.Nodup → (∀ x, x ∈ ys ↔ ∃ e ∈ tb, e.1.1 = x) → sortedS ys = true → H' p = some (.lst (ys.map V.str)) → Q (.ref p) H'
theorem ok_tn (F : FnP K "table_names" (top 12) f fd) (gS : mg "sorted" = none) : FnOk P w K mg base CX0 1 f fd ["table"] spTn := by
  refine F.ok scTn (fun vs H Q E h => ?_) (fun cdv A outer s H vs Q E hr h => ?_)
  · obtain ⟨d, tb, rfl, _⟩ := h
    rfl
  · obtain ⟨d, tb, rfl, ed, hlen, q⟩ := h
    refine ⟨_, PSs.nox (pss_one (ps_ret (pe_callB (call_sortedD rfl) (by rfl) gS rfl (pa_cons (pe_lock
      (pe_dg (own := [("name", 1), ("place", 2)]) (g := gTup K 2 (gCons (gName 1) (gCons (gName 2) gNil))) (tt := tYes) (o0 := .dK []) (.inl rfl) hr.units0 rfl scTn.nd (pi_keys (pv 0)) (blkOk_by (N := nTn) (sc := defScope (top 12)) (by decide +kernel))
        (fun _ _ _ _ _ => pgTup rfl (pgs_cons (pg_name (i := 1) scTn.nd rfl (.inl rfl)) (pgs_cons (pg_name (i := 2) scTn.nd rfl (.inl rfl)) pgs_nil)))
        (fun _ _ _ _ _ => pts_nil) (fun _ _ _ _ _ => pv 1) (fun _ _ _ _ _ => pe_bl))) pa_nil)))), ?_⟩
    refine ⟨d, _, ed, True.intro, fun od => ?_⟩
    refine ⟨_, rfl, d, od, rfl, .inr ⟨_, upd_same, fun D nD => ?_⟩⟩
    generalize hH1 : upd H d (.frz od (.dT (encT tb))) = H1 at nD
    have ed1 : H1 d = some (.frz od (.dT (encT tb))) := by rw [← hH1]; exact upd_same
    refine dg_it walk_keysT (fun i Hc => ∃ nl : List (Str × Bool), Hc D = some (.dK (nl.map fun e => ((Sum.inr e.1 : Key), V.bl e.2))) ∧ Same H1 Hc ∧ (nl.map (·.1)).Nodup ∧ (∀ x, x ∈ nl.map (·.1) ↔ ∃ e ∈ tb.take i, e.1.1 = x) ∧ nl.length ≤ i)
      ⟨[], upd_same, same_upd nD, List.nodup_nil, (fun x => ⟨(fun h => nomatch h), (fun ⟨e, he, _⟩ => nomatch he)⟩), Nat.zero_le _⟩ (fun i Hc _ h => ?_) (fun i x Hc Hc' hi h hy => ?_) (fun Hc h => ?_)
    · obtain ⟨nl, _, sm, _⟩ := h
      exact sm _ _ ed1
    · obtain ⟨nl, eD, sm, nd, hm, hl⟩ := h
      obtain ⟨rfl, k, v, b, hk, rfl, eb⟩ := hy
      obtain ⟨e, he, rfl, rfl⟩ := encT_at hk
      rw [tup2] at eb
      rw [encT_len] at hi
      refine ⟨b, _, rfl, SqT.of eb, rfl, _, _, rfl, _, _, rfl, rfl, rfl, _, rfl, _, DPut.k (k := Sum.inr e.1.1) eD (by rw [List.length_map]; exact small1000 (by omega)), ?_⟩
      refine ⟨put nl e.1.1 true, ?_, ?_, put_nodup _ _ nd, fun x => ?_, Nat.le_trans (put_len _ _ _) (by omega)⟩
      · rw [upd_same]
        exact congrArg (fun z => some (HO.dK z)) (putK_enc (fun a : Str => (Sum.inr a : Key)) V.bl inr_inj nl e.1.1 true)
      · intro c o ec
        rw [upd_ne (ne_of_none ec nD)]
        exact sm _ _ ec
      · rw [put_keys, List.take_add_one, he]
        constructor
        · intro hx
          have hx2 : x = e.1.1 ∨ x ∈ nl.map (·.1) := put_mem (v := true) (by rw [put_keys]; exact hx)
          rcases hx2 with rfl | hx2
          · exact ⟨e, List.mem_append_right _ (by simp), rfl⟩
          · obtain ⟨e2, h2, h3⟩ := (hm x).mp hx2
            exact ⟨e2, List.mem_append_left _ h2, h3⟩
        · rintro ⟨e2, h2, rfl⟩
          rcases List.mem_append.mp h2 with h2 | h2
          · have := (hm e2.1.1).mpr ⟨e2, h2, rfl⟩
            split
            · exact this
            · exact List.mem_append_left _ this
          · have e3 : e2 = e := by simpa using h2
            rw [e3]
            split
            · assumption
            · exact List.mem_append_right _ (by simp)
    · obtain ⟨nl, eD, sm, nd, hm, hl⟩ := h
      rw [encT_len] at hl hm
      rw [List.take_length] at hm
      have nDd : D ≠ d := Ne.symm (ne_of_none ed1 nD)
      refine ⟨sm _ _ ed1, D, _, nl.map (·.1), rfl, .inl (by rw [upd_ne nDd]; exact eD), by rw [List.map_map, List.map_map]; rfl, by rw [List.length_map]; omega, fun ys p hp hs np => ?_⟩
      have smH : Same H (upd Hc d (.dT (encT tb))) := same_lock ed (x := .frz od (.dT (encT tb))) (by rw [hH1]; exact sm)
      exact q p ys _ (smH.free np) (smH.trans (same_upd np)) (hp.nodup_iff.mpr nd) (fun x => (hp.mem_iff).trans (hm x)) hs upd_same
def spTp : Sp := fun vs H Q _ => ∃ (d : Addr) (tb : Tab), vs = [.ref d] ∧ H d = some (.dT (encT tb)) ∧ tb.length ≤ 12 ∧
  ∀ (p : Addr) (ys : List Int) (H' : Hp), H p = none → Same H H' → ys.Nodup → (∀ x, x ∈ ys ↔ ∃ e ∈ tb, e.1.2 = x) → ys.Pairwise (· ≤ ·) → H' p = some (.lst (ys.map V.int)) → Q (.ref p) H'
theorem ok_tp (F : FnP K "table_places" (top 13) f fd) (gS : mg "sorted" = none) : FnOk P w K mg base CX0 1 f fd ["table"] spTp := by
  refine F.ok scTp (fun vs H Q E h => ?_) (fun cdv A outer s H vs Q E hr h => ?_)
  · obtain ⟨d, tb, rfl, _⟩ := h
    rfl
  · obtain ⟨d, tb, rfl, ed, hlen, q⟩ := h
    refine ⟨_, PSs.nox (pss_one (ps_ret (pe_callB (call_sortedDI rfl) (by rfl) gS rfl (pa_cons (pe_lock
      (pe_dg (own := [("name", 1), ("place", 2)]) (g := gTup K 2 (gCons (gName 1) (gCons (gName 2) gNil))) (tt := tYes) (o0 := .dK []) (.inl rfl) hr.units0 rfl scTp.nd (pi_keys (pv 0)) (blkOk_by (N := nTn) (sc := defScope (top 13)) (by decide +kernel))
        (fun _ _ _ _ _ => pgTup rfl (pgs_cons (pg_name (i := 1) scTp.nd rfl (.inl rfl)) (pgs_cons (pg_name (i := 2) scTp.nd rfl (.inl rfl)) pgs_nil)))
        (fun _ _ _ _ _ => pts_nil) (fun _ _ _ _ _ => pv 2) (fun _ _ _ _ _ => pe_bl))) pa_nil)))), ?_⟩
    refine ⟨d, _, ed, True.intro, fun od => ?_⟩
    refine ⟨_, rfl, d, od, rfl, .inr ⟨_, upd_same, fun D nD => ?_⟩⟩
    generalize hH1 : upd H d (.frz od (.dT (encT tb))) = H1 at nD
    have ed1 : H1 d = some (.frz od (.dT (encT tb))) := by rw [← hH1]; exact upd_same
    refine dg_it walk_keysT (fun i Hc => ∃ nl : List (Int × Bool), Hc D = some (.dK (nl.map fun e => ((Sum.inl e.1 : Key), V.bl e.2))) ∧ Same H1 Hc ∧ (nl.map (·.1)).Nodup ∧ (∀ x, x ∈ nl.map (·.1) ↔ ∃ e ∈ tb.take i, e.1.2 = x) ∧ nl.length ≤ i)
      ⟨[], upd_same, same_upd nD, List.nodup_nil, (fun x => ⟨(fun h => nomatch h), (fun ⟨e, he, _⟩ => nomatch he)⟩), Nat.zero_le _⟩ (fun i Hc _ h => ?_) (fun i x Hc Hc' hi h hy => ?_) (fun Hc h => ?_)
    · obtain ⟨nl, _, sm, _⟩ := h
      exact sm _ _ ed1
    · obtain ⟨nl, eD, sm, nd, hm, hl⟩ := h
      obtain ⟨rfl, k, v, b, hk, rfl, eb⟩ := hy
      obtain ⟨e, he, rfl, rfl⟩ := encT_at hk
      rw [tup2] at eb
      rw [encT_len] at hi
      refine ⟨b, _, rfl, SqT.of eb, rfl, _, _, rfl, _, _, rfl, rfl, rfl, _, rfl, _, DPut.k (k := Sum.inl e.1.2) eD (by rw [List.length_map]; exact small1000 (by omega)), ?_⟩
      refine ⟨put nl e.1.2 true, ?_, ?_, put_nodup _ _ nd, fun x => ?_, Nat.le_trans (put_len _ _ _) (by omega)⟩
      · rw [upd_same]
        exact congrArg (fun z => some (HO.dK z)) (putK_enc (fun a : Int => (Sum.inl a : Key)) V.bl inl_inj nl e.1.2 true)
      · intro c o ec
        rw [upd_ne (ne_of_none ec nD)]
        exact sm _ _ ec
      · rw [put_keys, List.take_add_one, he]
        constructor
        · intro hx
          have hx2 : x = e.1.2 ∨ x ∈ nl.map (·.1) := put_mem (v := true) (by rw [put_keys]; exact hx)
          rcases hx2 with rfl | hx2
          · exact ⟨e, List.mem_append_right _ (by simp), rfl⟩
          · obtain ⟨e2, h2, h3⟩ := (hm x).mp hx2
            exact ⟨e2, List.mem_append_left _ h2, h3⟩
        · rintro ⟨e2, h2, rfl⟩
          rcases List.mem_append.mp h2 with h2 | h2
          · have := (hm e2.1.2).mpr ⟨e2, h2, rfl⟩
            split
            · exact this
            · exact List.mem_append_left _ this
          · have e3 : e2 = e := by simpa using h2
            rw [e3]
            split
            · assumption
            · exact List.mem_append_right _ (by simp)
    · obtain ⟨nl, eD, sm, nd, hm, hl⟩ := h
      rw [encT_len] at hl hm
      rw [List.take_length] at hm
      have nDd : D ≠ d := Ne.symm (ne_of_none ed1 nD)
      refine ⟨sm _ _ ed1, D, _, nl.map (·.1), rfl, .inl (by rw [upd_ne nDd]; exact eD), by rw [List.map_map, List.map_map]; rfl, by rw [List.length_map]; omega, fun ys p hp hs np => ?_⟩
      have smH : Same H (upd Hc d (.dT (encT tb))) := same_lock ed (x := .frz od (.dT (encT tb))) (by rw [hH1]; exact sm)
      exact q p ys _ (smH.free np) (smH.trans (same_upd np)) (hp.nodup_iff.mpr nd) (fun x => (hp.mem_iff).trans (hm x)) hs upd_same
/-! ### without -/
abbrev nWo : List Str := ["table", "names", "places", "key"]
theorem scWo : FnScope nWo ["table", "names", "places"] (defScope (top 11)) := ⟨rfl, rfl, rfl, by decide +kernel, rfl, by decide +kernel, by decide +kernel⟩
def spWo (K : PySem.W.Frag) : Sp := fun vs H Q _ => ∃ (d a b : Addr) (tb : Tab), vs = [.ref d, .ref a, .ref b] ∧ H d = some (.dT (encT tb)) ∧ SqL K H a [] ∧ SqL K H b [] ∧ (tb.map (·.1)).Nodup ∧ tb.length ≤ 12 ∧
  ∀ (p : Addr) (H' : Hp), H p = none → Same H H' → H' p = some (.dT (encT tb)) → Q (.ref p) H'
theorem take_put {tb : Tab} (hn : (tb.map (·.1)).Nodup) {i : Nat} {e : (Str × Int) × Int} (h : tb[i]? = some e) : put (tb.take i) e.1 e.2 = tb.take (i + 1) := by
  have hi : i < tb.length := (List.getElem?_eq_some_iff.mp h).1
  have hnew : look (tb.take i) e.1 = none := by
    rw [look_none]
    intro hm
    obtain ⟨e2, he2, h2⟩ := List.mem_map.mp hm
    obtain ⟨j, hj, h3⟩ := List.mem_take_iff_getElem.mp he2
    have hj2 : j < tb.length := by omega
    have h4 : (tb.map (·.1))[j]? = some e.1 := by
      rw [List.getElem?_map, List.getElem?_eq_getElem hj2, h3]
      exact congrArg some h2
    have h5 : (tb.map (·.1))[i]? = some e.1 := by
      rw [List.getElem?_map, h]
      rfl
    have := L2.nd_ix hn h4 h5
    omega
  rw [put_new _ hnew, List.take_add_one, h]
  rfl
theorem ok_wo (F : FunD K "without" "without" (defArgs (top 11)) (defBody (top 11)) (defScope (top 11)) [] [] f fd) : FnOk P w K mg base CX0 1 f fd ["table", "names", "places"] (spWo K) := by
  refine F.ok scWo (fun vs H Q E h => ?_) (fun cdv A outer s H vs Q E hr h => ?_)
  · obtain ⟨d, a, b, tb, rfl, _⟩ := h
    rfl
  · obtain ⟨d, a, b, tb, rfl, ed, ha, hb, hn, hlen, q⟩ := h
    refine ⟨_, PSs.nox (pss_one (ps_ret (pe_lock
      (pe_dg (own := [("key", 3)]) (g := gName 3) (o0 := .dT []) (.inr rfl) hr.units0 rfl scWo.nd (pi_keys (pv 0)) (blkOk_by (N := nWo) (sc := defScope (top 11)) (by decide +kernel))
        (fun _ _ _ _ _ => pg_name (i := 3) scWo.nd rfl (.inl rfl))
        (fun _ _ _ _ _ => pts_one (PW.pt (pw_and (pt_cmpR (opNotIn (K := K)) (pe_ix (ixT (K := K)) (pv 3) pe_int (fun _ _ => rfl)) (pv 1) (by rfl)) (pw_and1 (pt_cmpR (opNotIn (K := K)) (pe_ix (ixT (K := K)) (pv 3) pe_int (fun _ _ => rfl)) (pv 2) (by rfl))))))
        (fun _ _ _ _ _ => pv 3) (fun _ _ _ _ _ => pe_dget (hu_of hr) (pv 0) (pv 3) (fun _ _ => rfl)))))), ?_⟩
    refine ⟨d, _, ed, True.intro, fun od => ?_⟩
    refine ⟨_, rfl, d, od, rfl, .inr ⟨_, upd_same, fun D nD => ?_⟩⟩
    generalize hH1 : upd H d (.frz od (.dT (encT tb))) = H1 at nD
    have ed1 : H1 d = some (.frz od (.dT (encT tb))) := by rw [← hH1]; exact upd_same
    have keep : ∀ {c : Addr} {o : HO}, c ≠ d → H c = some o → H1 c = some o := fun {c o} hc e => by
      rw [← hH1, upd_ne hc]
      exact e
    have seq1 : ∀ {c : Addr}, SqL K H c [] → SqL K H1 c [] := fun {c} h => by
      rcases h with (h | ⟨o, h⟩) | h
      · exact .inl (.inl (keep (ne_of h ed (by intro z; exact nomatch z)) h))
      · exact .inl (.inr ⟨o, keep (ne_of h ed (by intro z; exact nomatch z)) h⟩)
      · exact .inr h
    have ha1 := seq1 ha
    have hb1 := seq1 hb
    have nDd : D ≠ d := Ne.symm (ne_of_none ed1 nD)
    refine dg_it walk_keysT (fun i Hc => Hc D = some (.dT (encT (tb.take i))) ∧ Same H1 Hc) ⟨upd_same, same_upd nD⟩ (fun i Hc _ h => ?_) (fun i x Hc Hc' hi h hy => ?_) (fun Hc h => ?_)
    · exact h.2 _ _ ed1
    · obtain ⟨eD, sm⟩ := h
      obtain ⟨rfl, k, v, c, hk, rfl, eb⟩ := hy
      obtain ⟨e, he, rfl, rfl⟩ := encT_at hk
      rw [encT_len] at hi
      have eb2 := eb
      rw [tup2] at eb2
      refine ⟨rfl, _, rfl, c, _, _, _, rfl, rfl, SqT.of eb2, rfl, _, rfl, a, [], rfl, .inl (sm.seq ha1), rfl, rfl, _, rfl, ?_⟩
      refine iteT ?_
      refine ⟨_, rfl, c, _, _, _, rfl, rfl, SqT.of eb2, rfl, _, rfl, b, [], rfl, .inl (sm.seq hb1), rfl, rfl, _, rfl, ?_⟩
      refine iteT ?_
      refine ⟨_, rfl, _, rfl, _, rfl, d, .int e.2, rfl, .inr ⟨encT tb, tK e.1, c, .inr ⟨od, sm _ _ ed1⟩, rfl, eb, ?_⟩, ?_⟩
      · rw [encT_val, look_mem hn (k := e.1) (v := e.2) (List.mem_of_getElem? he)]
        rfl
      · refine ⟨_, DPut.t eD eb (by rw [encT_len, List.length_take]; exact small1000 (by omega)), ?_, ?_⟩
        · rw [upd_same]
          exact congrArg (fun z => some (HO.dT z)) ((encT_put _ _ _).trans (congrArg encT (take_put hn he)))
        · intro c o ec
          rw [upd_ne (ne_of_none ec nD)]
          exact sm _ _ ec
    · obtain ⟨eD, sm⟩ := h
      rw [encT_len, List.take_length] at eD
      have smH : Same H (upd Hc d (.dT (encT tb))) := same_lock ed (x := .frz od (.dT (encT tb))) (by rw [hH1]; exact sm)
      have nD0 : H D = none := by
        rw [← hH1, upd_ne nDd] at nD
        exact nD
      exact ⟨sm _ _ ed1, q D _ nD0 smH (by rw [upd_ne nDd]; exact eD)⟩
end
end Kn

set_option Elab.async false
set_option linter.all false
set_option maxRecDepth 100000
set_option maxHeartbeats 4000000
/-! places_of, labels_of. -/
namespace Kn
open PySem PySem.Spec PyProof.Rows L2
section
theorem dg2_it {J : It} {n : Nat} {G : Hp → Prop} {Y : Nat → Hp → V → Hp → Prop} (w : Walk J n G Y) {g : TG} {tt : TT} {wi1 : TI} {g1 : TG} {tt1 : TT} {tk tv : TE} {vs vs1 : List Nat} {σ : St} {Q : VK} {D : Addr} {H0 : Hp} (Pv : Nat → Hp → Prop) (h0 : Pv 0 H0) (hG : ∀ i H, i ≤ n → Pv i H → G H)
    (hs : ∀ i x H H', i < n → Pv i H → Y i H x H' → g x (wipe σ vs) H' fun σ2 H2 => wipe σ2 vs = wipe σ vs ∧ tt σ2 H2 fun b H3 =>
      if b = true then wi1 σ2 H3 fun J1 H4 => ∃ V1 : Nat → Nat → Hp → Prop, (∃ m, V1 0 m H4) ∧ ∀ j k H, V1 j k H →
        (J1.stop j H ∧ Pv (i + 1) H) ∨ (J1.go j H ∧ ∃ Ny : Hp → Prop, (∀ H', Ny H' → ∃ k', k' < k ∧ V1 (j + 1) k' H') ∧ ∀ x H', J1.yld j H x H' → g1 x (wipe σ2 vs1) H' fun σ3 H5 => wipe σ3 vs1 = wipe σ2 vs1 ∧ tt1 σ3 H5 fun b H6 =>
          if b = true then tk σ3 H6 fun y H7 => tv σ3 H7 fun z H8 => ∃ H9, DPut H8 D y z H9 ∧ Ny H9 else Ny H6)
      else Pv (i + 1) H3) (hd : ∀ H, Pv n H → Q (.ref D) H) : gDg2 g tt wi1 g1 tt1 tk tv vs vs1 σ Q J D H0 := walk_w w Pv h0 hG hs hd
variable {P : Program} {w : World} {K : PySem.W.Frag} {mg : Str → Option Value} {base : Heap} {f fK fG : Addr} {fd fdK fdG : FuncData}
abbrev nPl : List Str := ["groups", "place", "group", "row_id"]
theorem scPl : FnScope nPl ["groups"] (defScope (top 18)) := ⟨rfl, rfl, rfl, by decide +kernel, rfl, by decide +kernel, by decide +kernel⟩
def spPl (K : PySem.W.Frag) : Sp := fun vs H Q _ => ∃ (g : Addr) (gs : List (List Int)), vs = [.ref g] ∧ GrpsAt K H g gs ∧ gs.flatten.length ≤ 12 ∧ ∀ (p : Addr) (H' : Hp), H p = none → Same H H' → (∃ kvs, H' p = some (.dK kvs)) → Q (.ref p) H'
theorem evs_pref (gs : List (List Int)) {i j : Nat} (hi : i < gs.length) (hj : j ≤ gs[i].length) : (evs gs i).length + j ≤ gs.flatten.length := by
  have h1 := evs_len gs i (by omega)
  rw [List.drop_eq_getElem_cons hi, List.flatten_cons, List.length_append] at h1
  omega
theorem ok_pl (F : FnP K "places_of" (top 18) f fd) (gE : mg "enumerate" = none) : FnOk P w K mg base CX0 1 f fd ["groups"] (spPl K) := by
  refine F.ok scPl (fun vs H Q E h => ?_) (fun cdv A outer s H vs Q E hr h => ?_)
  · obtain ⟨g, gs, rfl, _⟩ := h
    rfl
  · obtain ⟨g, gs, rfl, hG, hlen, q⟩ := h
    refine ⟨_, PSs.nox (pss_one (ps_ret (pe_dg2 (own := [("place", 1), ("group", 2), ("row_id", 3)]) (vs1 := [3]) (g := gTup K 2 (gCons (gName 1) (gCons (gName 2) gNil))) (g1 := gName 3) (tt := tYes) (tt1 := tYes) (wi1 := iTup K (tVar 2)) (o0 := .dK []) (.inl rfl) hr.units0 rfl scPl.nd
      (pi_enum (by rfl) gE (pa_cons (pv 0) pa_nil)) (blkOk_by (N := nPl) (sc := defScope (top 18)) (by decide +kernel)) (by decide)
      (fun _ _ _ _ _ => pgTup rfl (pgs_cons (pg_name (i := 1) scPl.nd rfl (.inl rfl)) (pgs_cons (pg_name (i := 2) scPl.nd rfl (.inl rfl)) pgs_nil)))
      (fun _ _ _ _ _ => pts_nil) (fun _ _ _ _ _ => piTup (pv 2)) (fun _ _ _ _ _ => pg_name (i := 3) scPl.nd rfl (.inl rfl)) (fun _ _ _ _ _ => pts_nil) (fun _ _ _ _ _ => pv 3) (fun _ _ _ _ _ => pv 1)))), ?_⟩
    obtain ⟨as, ea, ra⟩ := id hG
    have hal := paired_len ra
    refine ⟨_, rfl, g, _, rfl, ea, fun D nD => ?_⟩
    refine dg2_it (walk_enum (K := K) (a := g) (xs := as.map V.ref)) (fun i Hc => Same H Hc ∧ ∃ kvs, Hc D = some (.dK kvs) ∧ kvs.length ≤ (evs gs i).length) ⟨same_upd nD, [], upd_same, Nat.zero_le _⟩ (fun i Hc _ h => ?_) (fun i x Hc H2 hi h hy => ?_) (fun Hc h => ?_)
    · exact h.1.seq ea
    · obtain ⟨sm, kvs, eD, hl⟩ := h
      obtain ⟨T, x1, x2, rfl, nT, rfl, g1, g2⟩ := hy
      cases Option.some.inj g1
      rw [List.length_map] at hi
      have hi2 : i < gs.length := by omega
      replace g2 : (as.map V.ref)[i]? = some x2 := g2
      rw [List.getElem?_map, List.getElem?_eq_getElem hi] at g2
      have g2' : x2 = .ref as[i] := (Option.some.inj g2).symm
      subst g2'
      have hga : H as[i] = some (.tup (gs[i].map V.int)) := by
        obtain ⟨b, hb, hg⟩ := L2.paired_get ra (List.getElem?_eq_getElem hi)
        rw [List.getElem?_eq_getElem hi2] at hb
        cases hb
        exact hg
      have sT : Same Hc (upd Hc T (.tup [.int (i : Nat), .ref as[i]])) := same_upd nT
      have smT := sm.trans sT
      refine ⟨T, _, rfl, SqT.of upd_same, rfl, _, _, rfl, _, _, rfl, rfl, rfl, ?_⟩
      refine ⟨_, rfl, as[i], rfl, ⟨_, SqT.of (smT _ _ hga)⟩, ?_⟩
      refine walk_w (walk_tup (K := K) (a := as[i]) (xs := gs[i].map V.int)) (fun j H2 => Same H H2 ∧ ∃ kvs, H2 D = some (.dK kvs) ∧ kvs.length ≤ (evs gs i).length + j) ⟨smT, kvs, sT _ _ eD, hl⟩ (fun j H2 _ h => ?_) (fun j x H2 H3 hj h hy => ?_) (fun H2 h => ?_)
      · exact SqT.of (h.1 _ _ hga)
      · obtain ⟨sm2, ks2, eD2, hl2⟩ := h
        obtain ⟨rfl, hx⟩ := hy
        rw [List.length_map] at hj
        rw [List.getElem?_map, List.getElem?_eq_getElem hj] at hx
        have hx' : x = .int gs[i][j] := (Option.some.inj hx).symm
        subst hx'
        have hb := evs_pref gs hi2 (Nat.le_of_lt hj)
        refine ⟨rfl, _, rfl, _, rfl, _, DPut.k (k := Sum.inl gs[i][j]) eD2 (small1000 (by omega)), ?_, _, upd_same, ?_⟩
        · intro b o e
          rw [upd_ne (ne_of_none e nD)]
          exact sm2 _ _ e
        · have := length_putK ks2 (Sum.inl gs[i][j]) (.int (i : Nat))
          omega
      · obtain ⟨sm2, ks2, eD2, hl2⟩ := h
        refine ⟨sm2, ks2, eD2, ?_⟩
        rw [evs_succ, List.length_append, List.getD_eq_getElem?_getD, List.getElem?_eq_getElem hi2]
        rw [List.length_map] at hl2 ⊢
        exact hl2
    · obtain ⟨sm, kvs, eD, _⟩ := h
      exact q D Hc nD sm ⟨kvs, eD⟩
/-! ### labels -/
/-- id and name of all things in the named groups -/
def lev (gs : List (List Int)) (nm : List (Str × Int)) : List (Int × Str) := (nm.map fun e => (gs.getD e.2.toNat []).map fun id => (id, e.1)).flatten
theorem lev_snoc (gs : List (List Int)) (nm : List (Str × Int)) (e : Str × Int) : lev gs (nm ++ [e]) = lev gs nm ++ (gs.getD e.2.toNat []).map fun id => (id, e.1) := by
  unfold lev
  rw [List.map_append, List.flatten_append]
  simp
def encI (l : List (Int × Str)) : List (Key × V) := l.map fun e => ((Sum.inl e.1 : Key), V.str e.2)
theorem encI_val (l : List (Int × Str)) (k : Int) : valV (encI l) (.inl k) = (look l k).map V.str := valV_enc (fun a : Int => (Sum.inl a : Key)) V.str inl_inj k l
theorem encI_put (l : List (Int × Str)) (k : Int) (v : Str) : putK (encI l) (.inl k) (.str v) = encI (put l k v) := putK_enc (fun a : Int => (Sum.inl a : Key)) V.str inl_inj l k v
abbrev nLo : List Str := ["groups", "names", "name", "place", "row_id"]
theorem scLo : FnScope nLo ["groups", "names"] (defScope (top 19)) := ⟨rfl, rfl, rfl, by decide +kernel, rfl, by decide +kernel, by decide +kernel⟩
def spLo (K : PySem.W.Frag) : Sp := fun vs H Q _ => ∃ (g d : Addr) (gs : List (List Int)) (nm : List (Str × Int)), vs = [.ref g, .ref d] ∧ GrpsAt K H g gs ∧ H d = some (.dK (encN nm)) ∧ (∀ e ∈ nm, 0 ≤ e.2 ∧ e.2 < (gs.length : Int)) ∧ ((lev gs nm).map (·.1)).Nodup ∧ (lev gs nm).length ≤ 12 ∧
  ∀ (p : Addr) (H' : Hp), H p = none → Same H H' → LabAt H' p (look (lev gs nm)) → Q (.ref p) H'
theorem lev_pre (gs : List (List Int)) (nm : List (Str × Int)) (i : Nat) : ∃ r, lev gs nm = lev gs (nm.take i) ++ r := by
  refine ⟨lev gs (nm.drop i), ?_⟩
  unfold lev
  rw [← List.flatten_append, ← List.map_append, List.take_append_drop]
theorem ok_lo (F : FnP K "labels_of" (top 19) f fd) : FnOk P w K mg base CX0 1 f fd ["groups", "names"] (spLo K) := by
  refine F.ok scLo (fun vs H Q E h => ?_) (fun cdv A outer s H vs Q E hr h => ?_)
  · obtain ⟨g, d, gs, nm, rfl, _⟩ := h
    rfl
  · obtain ⟨g, d, gs, nm, rfl, hG, ed, hpl, hnd, hlen, q⟩ := h
    refine ⟨_, PSs.nox (pss_one (ps_ret (pe_lock (pe_dg2 (own := [("name", 2), ("place", 3), ("row_id", 4)]) (vs1 := [4]) (g := gTup K 2 (gCons (gName 2) (gCons (gName 3) gNil))) (g1 := gName 4) (tt := tYes) (tt1 := tYes) (wi1 := iTup K (tOp (rIxL K) (tVar 0) (tVar 3))) (o0 := .dK []) (.inl rfl) hr.units0 rfl scLo.nd
      (pi_items (pv 1)) (blkOk_by (N := nLo) (sc := defScope (top 19)) (by decide +kernel)) (by decide)
      (fun _ _ _ _ _ => pgTup rfl (pgs_cons (pg_name (i := 2) scLo.nd rfl (.inl rfl)) (pgs_cons (pg_name (i := 3) scLo.nd rfl (.inl rfl)) pgs_nil)))
      (fun _ _ _ _ _ => pts_nil) (fun _ _ _ _ _ => piTup (pe_ix (ixL (K := K)) (pv 0) (pv 3) (fun _ _ => rfl))) (fun _ _ _ _ _ => pg_name (i := 4) scLo.nd rfl (.inl rfl)) (fun _ _ _ _ _ => pts_nil) (fun _ _ _ _ _ => pv 4) (fun _ _ _ _ _ => pv 2))))), ?_⟩
    obtain ⟨as, ea, ra⟩ := id hG
    have hal := paired_len ra
    refine ⟨d, _, ed, True.intro, fun od => ?_⟩
    refine ⟨_, rfl, d, od, _, rfl, upd_same, fun D nD => ?_⟩
    generalize hH1 : upd H d (.frz od (.dK (encN nm))) = H1 at nD
    have ed1 : H1 d = some (.frz od (.dK (encN nm))) := by rw [← hH1]; exact upd_same
    have keep : ∀ {c : Addr} {o : HO}, c ≠ d → H c = some o → H1 c = some o := fun {c o} hc e => by
      rw [← hH1, upd_ne hc]
      exact e
    have ea1 : SqL K H1 g (as.map V.ref) := by
      rcases ea with (h | ⟨o, h⟩) | h
      · exact .inl (.inl (keep (ne_of h ed (by intro z; exact nomatch z)) h))
      · exact .inl (.inr ⟨o, keep (ne_of h ed (by intro z; exact nomatch z)) h⟩)
      · exact .inr h
    have nDd : D ≠ d := Ne.symm (ne_of_none ed1 nD)
    have nD0 : H D = none := by
      rw [← hH1, upd_ne nDd] at nD
      exact nD
    refine dg2_it (walk_items (d := d) (o := od) (kvs := encN nm)) (fun i Hc => Same H1 Hc ∧ Hc D = some (.dK (encI (lev gs (nm.take i))))) ⟨same_upd nD, upd_same⟩ (fun i Hc _ h => ?_) (fun i x Hc H2 hi h hy => ?_) (fun Hc h => ?_)
    · exact h.1 _ _ ed1
    · obtain ⟨sm, eD⟩ := h
      obtain ⟨T, x1, x2, rfl, nT, rfl, g1, g2⟩ := hy
      rw [encN_len] at hi
      have hv : (encN nm)[i]? = some (Sum.inr nm[i].1, V.int nm[i].2) := by
        unfold encN
        rw [List.getElem?_map, List.getElem?_eq_getElem hi]
        rfl
      replace g1 : (encN nm)[i]?.map (fun kv => kV kv.1) = some x1 := g1
      replace g2 : (encN nm)[i]?.map Prod.snd = some x2 := g2
      rw [hv] at g1 g2
      have g1' : x1 = .str nm[i].1 := (Option.some.inj g1).symm
      have g2' : x2 = .int nm[i].2 := (Option.some.inj g2).symm
      subst g1' g2'
      generalize hnp : nm[i] = np at *
      have hnpm : np ∈ nm := by rw [← hnp]; exact List.getElem_mem hi
      obtain ⟨p0, p1⟩ := hpl np hnpm
      obtain ⟨c, hc⟩ := Int.eq_ofNat_of_zero_le p0
      have hc2 : c < gs.length := by omega
      have hc3 : c < as.length := by omega
      have hga : H as[c] = some (.tup (gs[c].map V.int)) := by
        obtain ⟨b, hb, hg⟩ := L2.paired_get ra (List.getElem?_eq_getElem hc3)
        rw [List.getElem?_eq_getElem hc2] at hb
        cases hb
        exact hg
      have hga1 : H1 as[c] = some (.tup (gs[c].map V.int)) := keep (ne_of hga ed (by intro z; exact nomatch z)) hga
      have sT : Same Hc (upd Hc T (.tup [.str np.1, .int np.2])) := same_upd nT
      have smT := sm.trans sT
      refine ⟨T, _, rfl, SqT.of upd_same, rfl, _, _, rfl, _, _, rfl, rfl, rfl, ?_⟩
      have egs : gs.getD np.2.toNat [] = gs[c] := by
        rw [hc, Int.toNat_natCast, List.getD_eq_getElem?_getD, List.getElem?_eq_getElem hc2]
        rfl
      have etk : lev gs (nm.take (i + 1)) = lev gs (nm.take i) ++ gs[c].map fun id => (id, np.1) := by
        rw [List.take_add_one, List.getElem?_eq_getElem hi, hnp]
        exact (lev_snoc gs _ np).trans (by rw [egs])
      refine ⟨_, rfl, _, rfl, g, _, _, .ref as[c], rfl, rfl, smT.seq ea1, ?_, as[c], rfl, ⟨_, SqT.of (smT _ _ hga1)⟩, ?_⟩
      · rw [hc]
        exact atI_nat (by rw [List.getElem?_map, List.getElem?_eq_getElem hc3]; rfl)
      refine walk_w (walk_tup (K := K) (a := as[c]) (xs := gs[c].map V.int)) (fun j H2 => Same H1 H2 ∧ H2 D = some (.dK (encI (lev gs (nm.take i) ++ (gs[c].take j).map fun id => (id, np.1))))) ⟨smT, by rw [List.take_zero, List.map_nil, List.append_nil]; exact sT _ _ eD⟩ (fun j H2 _ h => ?_) (fun j x H2 H3 hj h hy => ?_) (fun H2 h => ?_)
      · exact SqT.of (h.1 _ _ hga1)
      · obtain ⟨sm2, eD2⟩ := h
        obtain ⟨rfl, hx⟩ := hy
        rw [List.length_map] at hj
        rw [List.getElem?_map, List.getElem?_eq_getElem hj] at hx
        have hx' : x = .int gs[c][j] := (Option.some.inj hx).symm
        subst hx'
        have estep : (gs[c].take (j + 1)).map (fun id => (id, np.1)) = (gs[c].take j).map (fun id => (id, np.1)) ++ [(gs[c][j], np.1)] := by
          rw [List.take_add_one, List.getElem?_eq_getElem hj, List.map_append]
          rfl
        -- the new id is not there yet
        obtain ⟨r, hr2⟩ := lev_pre gs nm (i + 1)
        have e3 : gs[c].map (fun id => (id, np.1)) = (gs[c].take (j + 1)).map (fun id => (id, np.1)) ++ (gs[c].drop (j + 1)).map (fun id => (id, np.1)) := by
          rw [← List.map_append, List.take_append_drop]
        obtain ⟨B, e4⟩ : ∃ B, lev gs nm = (lev gs (nm.take i) ++ (gs[c].take j).map fun id => (id, np.1)) ++ (gs[c][j], np.1) :: B := by
          refine ⟨(gs[c].drop (j + 1)).map (fun id => (id, np.1)) ++ r, ?_⟩
          rw [hr2, etk, e3, estep]
          simp only [List.append_assoc, List.cons_append, List.nil_append]
        have hll := hlen
        have hnd2 := hnd
        rw [e4] at hll hnd2
        rw [List.length_append, List.length_cons] at hll
        have hnew : look (lev gs (nm.take i) ++ (gs[c].take j).map fun id => (id, np.1)) gs[c][j] = none := by
          rw [look_none]
          intro hm
          rw [List.map_append, List.nodup_append] at hnd2
          exact hnd2.2.2 _ hm _ (by simp) rfl
        refine ⟨rfl, _, rfl, _, rfl, _, DPut.k (k := Sum.inl gs[c][j]) eD2 ?_, ?_, ?_⟩
        · unfold encI
          rw [List.length_map]
          exact small1000 (by omega)
        · intro b o e
          rw [upd_ne (ne_of_none e nD)]
          exact sm2 _ _ e
        · rw [upd_same, encI_put, put_new _ hnew, estep, List.append_assoc]
      · obtain ⟨sm2, eD2⟩ := h
        rw [List.length_map, List.take_length] at eD2
        exact ⟨sm2, by rw [etk]; exact eD2⟩
    · obtain ⟨sm, eD⟩ := h
      rw [encN_len, List.take_length] at eD
      have smH : Same H (upd Hc d (.dK (encN nm))) := same_lock ed (x := .frz od (.dK (encN nm))) (by rw [hH1]; exact sm)
      exact ⟨sm _ _ ed1, q D _ nD0 smH ⟨_, by rw [upd_ne nDd]; exact eD, fun i => encI_val _ i⟩⟩
end
end Kn

set_option Elab.async false
set_option linter.all false
set_option maxRecDepth 100000
set_option maxHeartbeats 4000000
/-! counting_pins, open_table. -/
namespace Kn
open PySem PySem.Spec PyProof.Rows L2
section
variable {P : Program} {w : World} {K : PySem.W.Frag} {mg : Str → Option Value} {base : Heap} {f fP fT fW : Addr} {fd fdP fdT fdW : FuncData}
theorem bindsPl (F : FnP K "places_of" (top 18) f fd) : Binds K fd ["groups"] [] := FunD.bindsN F fun _ _ _ _ _ _ us hl => match us, hl with | [_], _ => rfl
theorem bindsLt (F : FnP K "label_table" (top 10) f fd) : Binds K fd ["labels", "groups", "weights"] [] := FunD.bindsN F fun _ _ _ _ _ _ us hl => match us, hl with | [_, _, _], _ => rfl
/-- a call with keywords that gives all parameters -/
theorem kbn_all {x qual : Str} {params : Arguments} {body : List Stmt} {scope : Scope} {ps : List Str} (F : FunD K x qual params body scope [] [] f fd) (n : Nat) (ks : List Str)
    (h : ∀ (kV doc pm : Value) (an : Option Addr) (cdv ct : Value) (us ws : List Value), us.length = n → ws.length = ks.length → bindArgs (PySem.W.fnOf x qual params body scope .none kV doc pm an cdv ct) ⟨us, ks.zip ws⟩ = pure (ps.zip (us ++ ws))) :
    KBn K fd ps n ks (fun us ws => us ++ ws) (fun vs zs => vs ++ zs) := by
  obtain ⟨oc, od, dV, kV, doc, pm, an, cdv, ct, osl, rfl, lk, hcd, hD, hK⟩ := F.ex
  rcases hD with ⟨_, rfl⟩ | ⟨e, _⟩
  · exact ⟨fun s us ws _ h1 h2 => .of_eq (h kV doc pm an cdv ct us ws h1 h2), fun r1 r2 => Vals.append r1 r2⟩
  · exact absurd rfl e
theorem kbWo (F : FnP K "without" (top 11) f fd) : KBn K fd ["table", "names", "places"] 1 ["names", "places"] (fun us ws => us ++ ws) (fun vs zs => vs ++ zs) :=
  kbn_all F 1 ["names", "places"] fun _ _ _ _ _ _ us ws h1 h2 => match us, ws, h1, h2 with | [_], [_, _], _, _ => rfl
abbrev nCp : List Str := ["groups", "pins", "places", "found", "taken", "name", "place"]
theorem scCp : FnScope nCp ["groups", "pins"] (defScope (top 20)) := ⟨rfl, rfl, rfl, by decide +kernel, rfl, by decide +kernel, by decide +kernel⟩
def spCp (K : PySem.W.Frag) : Sp := fun vs H Q _ => ∃ (g d : Addr) (gs : List (List Int)), vs = [.ref g, .ref d] ∧ GrpsAt K H g gs ∧ gs.flatten.length ≤ 12 ∧ H d = some (.dK []) ∧ ∀ (p : Addr) (H' : Hp), H p = none → Same H H' → H' p = some (.dK []) → Q (.ref p) H'
theorem ok_cp (F : FnP K "counting_pins" (top 20) f fd) (FP : FnP K "places_of" (top 18) fP fdP) (gP : mg "places_of" = some (.ref fP)) (gE : mg "enumerate" = none) (gS : mg "sorted" = none) : FnOk P w K mg base CX0 2 f fd ["groups", "pins"] (spCp K) := by
  have GP : FnOk P w K mg base CX0 1 fP fdP ["groups"] (spPl K) := ok_pl FP gE
  refine F.ok scCp (fun vs H Q E h => ?_) (fun cdv A outer s H vs Q E hr h => ?_)
  · obtain ⟨g, d, gs, rfl, _⟩ := h
    rfl
  · obtain ⟨g, d, gs, rfl, hG, hlen, ed, q⟩ := h
    refine ⟨_, PSs.nox (pss_cons (ps_set (i := 2) scCp.nd rfl (Or.inl rfl) (pe_call GP hr (by rfl) gP FP.kp (bindsPl FP) .nil pass0 (pa_cons (pv 0) pa_nil)))
      (pss_cons (ps_set (i := 3) scCp.nd rfl (Or.inl rfl) pe_dnewK)
      (pss_cons (ps_set (i := 4) scCp.nd rfl (Or.inl rfl) pe_dnewK)
      (pss_cons (ps_for PassesOwn.never rfl (pi_list (pe_callB (call_sortedD rfl) (by rfl) gS rfl (pa_cons (pv 1) pa_nil))) (pg_name (i := 5) scCp.nd rfl (Or.inl rfl)) pss_never)
      (pss_one (ps_ret (pv 3))))))), ?_⟩
    refine ⟨_, rfl, g, gs, rfl, hG, hlen, fun p1 H1 n1 s1 ⟨k1, e1⟩ p2 n2 p3 n3 => ?_⟩
    have s2 : Same H (upd H1 p2 (.dK [])) := s1.trans (same_upd n2)
    have s3 : Same H (upd (upd H1 p2 (.dK [])) p3 (.dK [])) := s2.trans (same_upd n3)
    refine ⟨_, rfl, d, [], [], rfl, .inl (s3 _ _ ed), rfl, by decide, fun ys l hp _ nl => ⟨l, rfl, ⟨_, SqL.of upd_same⟩, ?_⟩⟩
    have ey : ys = [] := hp.eq_nil
    subst ey
    have s4 : Same H (upd (upd (upd H1 p2 (.dK [])) p3 (.dK [])) l (.lst [])) := s3.trans (same_upd nl)
    refine for_list (xs := []) (fun i σ H' => σ = [some (.ref g), some (.ref d), some (.ref p1), some (.ref p2), some (.ref p3), none, none] ∧ H' = upd (upd (upd H1 p2 (.dK [])) p3 (.dK [])) l (.lst [])) ⟨rfl, rfl⟩ (fun i σ H' _ h => ?_) (fun i x σ H' hx h => nomatch hx) (fun σ H' h => ?_)
    · rw [h.2]
      exact SqL.of upd_same
    · obtain ⟨rfl, rfl⟩ := h
      refine ⟨_, rfl, q p2 _ (s1.free n2) s4 ?_⟩
      have e2 : (upd H1 p2 (.dK [])) p2 = some (.dK []) := upd_same
      exact same_upd nl _ _ (same_upd n3 _ _ e2)
/-! ### open_table -/
abbrev nOt : List Str := ["labels", "groups", "weights", "pins", "places", "pinned", "row_id"]
theorem scOt : FnScope nOt ["labels", "groups", "weights", "pins"] (defScope (top 21)) := ⟨rfl, rfl, rfl, by decide +kernel, rfl, by decide +kernel, by decide +kernel⟩
def spOt (K : PySem.W.Frag) : Sp := fun vs H Q _ => ∃ (ld g wd d : Addr) (L : Int → Option Str) (Wt : Int → Int) (gs : List (List Int)), vs = [.ref ld, .ref g, .ref wd, .ref d] ∧ LabAt H ld L ∧ GrpsAt K H g gs ∧ WgtAt H wd Wt gs.flatten ∧ gs.flatten.length ≤ 12 ∧ H d = some (.dK []) ∧
  ((ltab L Wt (evs gs gs.length)).map (·.1)).Nodup ∧ ∀ (p : Addr) (H' : Hp), H p = none → Same H H' → H' p = some (.dT (encT (ltab L Wt (evs gs gs.length)))) → Q (.ref p) H'
theorem ok_ot (F : FnP K "open_table" (top 21) f fd) (FP : FnP K "places_of" (top 18) fP fdP) (FT : FnP K "label_table" (top 10) fT fdT) (FW : FnP K "without" (top 11) fW fdW) (gP : mg "places_of" = some (.ref fP)) (gT : mg "label_table" = some (.ref fT)) (gW : mg "without" = some (.ref fW)) (gE : mg "enumerate" = none) (gL : mg "list" = none) :
    FnOk P w K mg base CX0 2 f fd ["labels", "groups", "weights", "pins"] (spOt K) := by
  have GP : FnOk P w K mg base CX0 1 fP fdP ["groups"] (spPl K) := ok_pl FP gE
  have GT : FnOk P w K mg base CX0 1 fT fdT ["labels", "groups", "weights"] (spLt K) := ok_lt FT gE
  have GW : FnOk P w K mg base CX0 1 fW fdW ["table", "names", "places"] (spWo K) := ok_wo FW
  refine F.ok scOt (fun vs H Q E h => ?_) (fun cdv A outer s H vs Q E hr h => ?_)
  · obtain ⟨ld, g, wd, d, L, Wt, gs, rfl, _⟩ := h
    rfl
  · obtain ⟨ld, g, wd, d, L, Wt, gs, rfl, hL, hG, hW, hlen, ed, hnd, q⟩ := h
    refine ⟨_, PSs.nox (pss_cons (ps_set (i := 4) scOt.nd rfl (Or.inr rfl) (pe_call GP hr (by rfl) gP FP.kp (bindsPl FP) .nil pass0 (pa_cons (pv 1) pa_nil)))
      (pss_cons (ps_lock (ps_setLc (i := 5) (own := [("row_id", 6)]) (g := gName 6) (tt := tYes) (te := tDGet (tVar 4) (tVar 6)) rfl scOt.nd rfl rfl (sw_true rfl rfl rfl (by decide +kernel)) (pi_values (pv 3)) (blkOk_by (N := nOt) (sc := defScope (top 21)) (by decide +kernel))
        (fun _ _ _ _ _ => pg_name (i := 6) scOt.nd rfl (Or.inl rfl)) (fun _ _ _ _ _ => pts_nil) (fun _ _ _ _ _ => pe_dget (hu_of hr) (pv 4) (pv 6) (fun _ _ => rfl))))
      (pss_one (ps_ret (pe_callN GW hr (by rfl) gW FW.kp (kbWo FW) pass0 (pa_cons (pe_call GT hr (by rfl) gT FT.kp (bindsLt FT) .nil pass0 (pa_cons (pv 0) (pa_cons (pv 1) (pa_cons (pv 2) pa_nil)))) pa_nil)
        (pk_cons (pe_callTy (call_list_dK rfl) (by rfl) gL rfl (pa_cons (pv 3) pa_nil)) (pk_cons (pv 5) pk_nil))))))), ?_⟩
    refine ⟨_, rfl, g, gs, rfl, hG, hlen, fun p1 H1 n1 s1 ⟨k1, e1⟩ => ?_⟩
    refine ⟨d, _, s1 _ _ ed, True.intro, fun od => ?_⟩
    refine ⟨_, rfl, d, od, [], rfl, upd_same, fun D nD => ?_⟩
    refine lc_it walk_values (fun i Hc => Hc = upd (upd H1 d (.frz od (.dK []))) D (.lst [])) rfl (fun i Hc _ h => ?_) (fun i x Hc Hc' hi _ _ => absurd hi (Nat.not_lt_zero i)) (fun Hc h => ?_)
    · rw [h]
      exact same_upd nD _ _ upd_same
    · subst h
      have e1d := s1 _ _ ed
      have nDd : D ≠ d := fun c => by
        rw [c, upd_same] at nD
        exact nomatch nD
      refine ⟨same_upd nD _ _ upd_same, ?_⟩
      generalize hH2 : upd (upd (upd H1 d (.frz od (.dK []))) D (.lst [])) d (.dK []) = H2
      have s2 : Same H H2 := by
        rw [← hH2]
        exact s1.trans (same_lock e1d (x := .frz od (.dK [])) (same_upd nD))
      have eD : H2 D = some (.lst []) := by
        rw [← hH2, upd_ne nDd, upd_same]
      refine ⟨_, rfl, _, rfl, _, rfl, ld, g, wd, L, Wt, gs, rfl, hL.mono s2, hG.mono s2, hW.mono s2, hlen, fun t H3 nt s3 et => ?_⟩
      refine ⟨_, rfl, d, [], rfl, s3 _ _ (s2 _ _ ed), fun lp nlp => ?_⟩
      have s4 : Same H3 (upd H3 lp (.lst [])) := same_upd nlp
      refine ⟨_, rfl, rfl, rfl, t, lp, D, ltab L Wt (evs gs gs.length), rfl, s4 _ _ et, SqL.of upd_same, SqL.of (s4 _ _ (s3 _ _ eD)), hnd, ?_, fun p H' np sp ep => q p H' (((s2.trans s3).trans s4).free np) (((s2.trans s3).trans s4).trans sp) ep⟩
      have h1 := ltab_len L Wt (evs gs gs.length)
      have h2 := evs_len gs gs.length (Nat.le_refl _)
      omega
end
end Kn

set_option Elab.async false
set_option linter.all false
set_option maxRecDepth 100000
set_option maxHeartbeats 4000000
/-! exact_table. -/
namespace Kn
open PySem PySem.Spec PyProof.Rows L2
section
theorem walk_itemsT {d : Addr} {o : Obj} {kvs : List (List Key × V)} : Walk (ItiT d o kvs) kvs.length (fun H => H d = some (.frz o (.dT kvs)))
    (fun i H x H' => ∃ T k v q, kvs[i]? = some (k, v) ∧ x = .ref T ∧ H T = none ∧ H q = some (.tup (k.map kV)) ∧ H' = upd H T (.tup [.ref q, v])) :=
  ⟨fun i H hi h => ⟨h, hi⟩, fun H h => ⟨h, Nat.le_refl _⟩, fun i H x H' _ _ y => y⟩
/-- the place of x in l -/
def ixOf {α : Type} [DecidableEq α] (l : List α) (x : α) : Nat := l.findIdx fun y => decide (y = x)
theorem ixOf_lt {α : Type} [DecidableEq α] {l : List α} {x : α} (h : x ∈ l) : ixOf l x < l.length := List.findIdx_lt_length_of_exists ⟨x, h, by simp⟩
theorem ixOf_at {α : Type} [DecidableEq α] {l : List α} {x : α} (h : x ∈ l) : l[ixOf l x]? = some x := by
  have h1 := ixOf_lt h
  have h2 := List.findIdx_getElem (w := h1)
  rw [List.getElem?_eq_getElem h1]
  exact congrArg some (of_decide_eq_true h2)
theorem ixOf_before {α : Type} [DecidableEq α] {l : List α} {x : α} {m : Nat} {z : α} (h : m < ixOf l x) (hz : l[m]? = some z) : z ≠ x := by
  have h2 := List.not_of_lt_findIdx h
  have hm := (List.getElem?_eq_some_iff.mp hz)
  obtain ⟨h3, h4⟩ := hm
  rw [h4] at h2
  exact of_decide_eq_false (by simpa using h2)
/-- the exact weight -/
def xw (ns : List Str) (pls : List Int) (e : (Str × Int) × Int) : Int :=
  (((e.2 * ((ns.length : Int) + 1) + 1) * ((ns.length : Int) + 1) + 0) * ((pls.length : Int) + 1) ^ ns.length) + ((pls.length : Int) - (ixOf pls e.1.2 : Nat)) * ((pls.length : Int) + 1) ^ (ns.length - 1 - ixOf ns e.1.1)
def xtab (ns : List Str) (pls : List Int) (tb : Tab) : Tab := tb.map fun e => (e.1, xw ns pls e)
def pws (m n : Nat) : List V := (List.range n).map fun k => V.int (((m : Int) + 1) ^ k)
theorem pws_succ (m n : Nat) : pws m (n + 1) = pws m n ++ [V.int (((m : Int) + 1) ^ n)] := by
  unfold pws
  rw [List.range_succ, List.map_append]
  rfl
theorem pws_at {m n k : Nat} (h : k < n) : (pws m n)[k]? = some (V.int (((m : Int) + 1) ^ k)) := by
  unfold pws
  rw [List.getElem?_map, List.getElem?_range h]
  rfl
theorem pws_len (m n : Nat) : (pws m n).length = n := by
  unfold pws
  rw [List.length_map, List.length_range]
variable {P : Program} {w : World} {K : PySem.W.Frag} {mg : Str → Option Value} {base : Heap} {f fN fP : Addr} {fd fdN fdP : FuncData}
theorem bindsTn (F : FnP K "table_names" (top 12) f fd) : Binds K fd ["table"] [] := FunD.bindsN F fun _ _ _ _ _ _ us hl => match us, hl with | [_], _ => rfl
theorem bindsTp (F : FnP K "table_places" (top 13) f fd) : Binds K fd ["table"] [] := FunD.bindsN F fun _ _ _ _ _ _ us hl => match us, hl with | [_], _ => rfl
abbrev nEx : List Str := ["table", "homes", "names", "places", "powers", "name", "found", "key", "weight", "place", "is_home", "digit", "rank"]
theorem scEx : FnScope nEx ["table", "homes"] (defScope (top 14)) := ⟨rfl, rfl, rfl, by decide +kernel, rfl, by decide +kernel, by decide +kernel⟩
structure NamesOf (tb : Tab) (ns : List Str) (pls : List Int) : Prop where
  nn : ns.Nodup
  pn : pls.Nodup
  nm : ∀ x, x ∈ ns ↔ ∃ e ∈ tb, e.1.1 = x
  pm : ∀ x, x ∈ pls ↔ ∃ e ∈ tb, e.1.2 = x
  so : sortedS ns = true
  po : pls.Pairwise (· ≤ ·)
def spEx : Sp := fun vs H Q _ => ∃ (d : Addr) (tb : Tab), vs = [.ref d, .non] ∧ H d = some (.dT (encT tb)) ∧ (tb.map (·.1)).Nodup ∧ tb.length ≤ 12 ∧ (∀ e ∈ tb, 0 < e.2 ∧ e.2 < 1000000) ∧
  ∀ (p : Addr) (ns : List Str) (pls : List Int) (H' : Hp), H p = none → Same H H' → NamesOf tb ns pls → H' p = some (.dT (encT (xtab ns pls tb))) → Q (.ref p) H'
theorem ok_ex (F : FnP K "exact_table" (top 14) f fd) (FN : FnP K "table_names" (top 12) fN fdN) (FP : FnP K "table_places" (top 13) fP fdP) (gN : mg "table_names" = some (.ref fN)) (gP : mg "table_places" = some (.ref fP)) (gS : mg "sorted" = none) (gL : mg "len" = none) (gI : mg "int" = none) :
    FnOk P w K mg base CX0 2 f fd ["table", "homes"] spEx := by
  have GN : FnOk P w K mg base CX0 1 fN fdN ["table"] spTn := ok_tn FN gS
  have GP : FnOk P w K mg base CX0 1 fP fdP ["table"] spTp := ok_tp FP gS
  refine F.ok scEx (fun vs H Q E h => ?_) (fun cdv A outer s H vs Q E hr h => ?_)
  · obtain ⟨d, tb, rfl, _⟩ := h
    rfl
  · obtain ⟨d, tb, rfl, ed, hnd, hlen, hwt, q⟩ := h
    refine ⟨_, PSs.nox (pss_cons (ps_par (i := 2) (j := 3) rfl scEx.nd rfl rfl (by decide) rfl rfl (pa_cons (pe_call GN hr (by rfl) gN FN.kp (bindsTn FN) .nil pass0 (pa_cons (pv 0) pa_nil)) (pa_cons (pe_call GP hr (by rfl) gP FP.kp (bindsTp FP) .nil pass0 (pa_cons (pv 0) pa_nil)) pa_nil)) (by rfl))
      (pss_cons (ps_set (i := 4) scEx.nd rfl (Or.inl rfl) (pe_lst (pa_cons pe_int pa_nil)))
      (pss_cons (ps_for PassesOwn.never rfl (pi_list (pv 2)) (pg_name (i := 5) scEx.nd rfl (Or.inl rfl))
        (pss_one (ps_expr (pe_bm PySem.F.plainAttrs_list PySem.F.slot_list_append PySem.F.type_list_append mt_append (pv 4) (pa_cons (pe_op op_mul (pe_ix ix_list (pv 4) (pe_un un_neg pe_int) (fun _ _ => rfl)) (pe_op op_add (pe_callB call_len_seq (by rfl) gL boot_len (pa_cons (pv 3) pa_nil)) pe_int)) pa_nil)))))
      (pss_cons (ps_set (i := 6) scEx.nd rfl (Or.inl rfl) pe_dnewT)
      (pss_cons (ps_lock (ps_for PassesOwn.never rfl (pi_itemsT (pv 0)) (pg_tup rfl (pgs_cons (pg_name (i := 7) scEx.nd rfl (.inl rfl)) (pgs_cons (pg_name (i := 8) scEx.nd rfl (.inl rfl)) pgs_nil)))
        (pss_cons (ps_asg (pv 7) (pg_tup rfl (pgs_cons (pg_name (i := 5) scEx.nd rfl (.inl rfl)) (pgs_cons (pg_name (i := 9) scEx.nd rfl (.inl rfl)) pgs_nil))))
        (pss_cons (ps_set (i := 10) scEx.nd rfl (Or.inl rfl) (pe_and (pe_cmp (pc_notN (pv 1))) (pe_and (pe_cmp (pc_din (hu_of hr) (pv 5) (pv 1))) (pe_one (pe_cmpR op_eq (pe_dget (hu_of hr) (pv 1) (pv 5) (fun _ _ => rfl)) (pv 9) (nomark _))))))
        (pss_cons (ps_set (i := 11) scEx.nd rfl (Or.inl rfl) (pe_op op_mul (pe_op op_sub (pe_callB call_len_seq (by rfl) gL boot_len (pa_cons (pv 3) pa_nil)) (pe_bm PySem.F.plainAttrs_list PySem.F.slot_list_index PySem.F.type_list_index mt_index (pv 3) (pa_cons (pv 9) pa_nil)))
            (pe_ix ix_list (pv 4) (pe_op op_sub (pe_op op_sub (pe_callB call_len_seq (by rfl) gL boot_len (pa_cons (pv 2) pa_nil)) pe_int) (pe_bm PySem.F.plainAttrs_list PySem.F.slot_list_index PySem.F.type_list_index mt_index (pv 2) (pa_cons (pv 5) pa_nil))) (fun _ _ => rfl))))
        (pss_cons (ps_set (i := 12) scEx.nd rfl (Or.inl rfl) (pe_op op_add (pe_op op_mul (pe_op op_add (pe_op op_mul (pv 8) (pe_op op_add (pe_callB call_len_seq (by rfl) gL boot_len (pa_cons (pv 2) pa_nil)) pe_int)) pe_int) (pe_op op_add (pe_callB call_len_seq (by rfl) gL boot_len (pa_cons (pv 2) pa_nil)) pe_int))
            (pe_callTy call_int1 (by rfl) gI rfl (pa_cons (pv 10) pa_nil))))
        (pss_one (ps_dput (hu_of hr) (pv 6) (pv 7) (pe_op op_add (pe_op op_mul (pv 12) (pe_ix ix_list (pv 4) (pe_callB call_len_seq (by rfl) gL boot_len (pa_cons (pv 2) pa_nil)) (fun _ _ => rfl))) (pv 11)) rfl))))))))
      (pss_one (ps_ret (pv 6)))))))), ?_⟩
    refine ⟨_, rfl, d, tb, rfl, ed, hlen, fun np ns H1 nnp s1 nn nm so enp => ⟨_, rfl, d, tb, rfl, s1 _ _ ed, hlen, fun pp pls H2 npp s2 pn pm po epp => ⟨_, _, rfl, ?_⟩⟩⟩
    have nml : ns.length ≤ 12 := by
      refine Nat.le_trans (len_sub nn (m := tb.map fun e => e.1.1) fun x hx => ?_) (by rw [List.length_map]; exact hlen)
      obtain ⟨e, he, rfl⟩ := (nm x).mp hx
      exact List.mem_map.mpr ⟨e, he, rfl⟩
    have pml : pls.length ≤ 12 := by
      refine Nat.le_trans (len_sub pn (m := tb.map fun e => e.1.2) fun x hx => ?_) (by rw [List.length_map]; exact hlen)
      obtain ⟨e, he, rfl⟩ := (pm x).mp hx
      exact List.mem_map.mpr ⟨e, he, rfl⟩
    have enp2 := s2 _ _ enp
    refine ⟨(show 1 ≤ sizeLine by decide), fun pw npw => ?_⟩
    refine ⟨_, rfl, np, rfl, ⟨_, SqL.of (same_upd npw _ _ enp2)⟩, ?_⟩
    refine for_list (xs := ns.map V.str) (fun i σ H' => ∃ y5 : Option V, σ = [some (.ref d), some .non, some (.ref np), some (.ref pp), some (.ref pw), y5, none, none, none, none, none, none, none] ∧ H' = upd H2 pw (.lst (pws pls.length (i + 1))))
      ⟨none, rfl, rfl⟩ (fun i σ H' _ h => ?_) (fun i x σ H' hx h => ?_) (fun σ H' h => ?_)
    · obtain ⟨y5, rfl, rfl⟩ := h
      exact SqL.of (same_upd npw _ _ enp2)
    · obtain ⟨y5, rfl, rfl⟩ := h
      have hi : i < ns.length := by
        have := (List.getElem?_eq_some_iff.mp hx).1
        simpa using this
      have eW : (upd H2 pw (.lst (pws pls.length (i + 1)))) pw = some (.lst (pws pls.length (i + 1))) := upd_same
      have eP := same_upd (o := .lst (pws pls.length (i + 1))) npw _ _ epp
      refine ⟨_, rfl, .inl ⟨rfl, _, SqL.of eW⟩, _, rfl, _, rfl, pw, _, _, .int (((pls.length : Int) + 1) ^ i), rfl, rfl, SqL.of eW, ?_, _, rfl, pp, _, rfl, .inl (SqL.of eP), _, _, rfl, rfl, _, _, rfl, rfl, .inr ⟨?_, ?_⟩, pw, _, _, rfl, rfl, eW, ?_, _, rfl, ?_⟩
      · rw [pws_succ]
        exact atI_last _ _
      · rw [List.length_map]
        omega
      · rw [List.length_map]
        omega
      · rw [pws_len]
        exact small1000 (by omega)
      · rw [List.length_map, pws_succ pls.length (i + 1), Int.pow_succ]
        funext b
        by_cases hb : b = pw
        · rw [hb, upd_same, upd_same]
        · rw [upd_ne hb, upd_ne hb, upd_ne hb]
    · obtain ⟨y5, rfl, rfl⟩ := h
      rw [List.length_map]
      generalize hH3 : upd H2 pw (.lst (pws pls.length (ns.length + 1))) = H3
      have s3 : Same H H3 := by
        rw [← hH3]
        exact (s1.trans s2).trans (same_upd npw)
      have eW3 : H3 pw = some (.lst (pws pls.length (ns.length + 1))) := by rw [← hH3]; exact upd_same
      have eP3 : H3 pp = some (.lst (pls.map V.int)) := by rw [← hH3]; exact same_upd npw _ _ epp
      have eN3 : H3 np = some (.lst (ns.map V.str)) := by rw [← hH3]; exact same_upd npw _ _ enp2
      intro fo nfo
      have s4 : Same H3 (upd H3 fo (.dT [])) := same_upd nfo
      have ed3 := s3 _ _ ed
      refine ⟨d, _, s4 _ _ ed3, True.intro, fun od => ?_⟩
      refine ⟨_, rfl, d, od, encT tb, rfl, upd_same, ?_⟩
      have nfd : fo ≠ d := Ne.symm (ne_of_none ed3 nfo)
      generalize hH5 : upd (upd H3 fo (.dT [])) d (.frz od (.dT (encT tb))) = H5
      have ed5 : H5 d = some (.frz od (.dT (encT tb))) := by rw [← hH5]; exact upd_same
      have eF5 : H5 fo = some (.dT []) := by rw [← hH5, upd_ne nfd, upd_same]
      have keep : ∀ {c : Addr} {o : HO}, c ≠ d → H3 c = some o → H5 c = some o := fun {c o} hc e => by
        rw [← hH5, upd_ne hc]
        exact s4 _ _ e
      have eW5 := keep (ne_of eW3 ed3 (by intro z; exact nomatch z)) eW3
      have eP5 := keep (ne_of eP3 ed3 (by intro z; exact nomatch z)) eP3
      have eN5 := keep (ne_of eN3 ed3 (by intro z; exact nomatch z)) eN3
      have fal : (ns.map V.str).all flatV = true := List.all_eq_true.mpr fun x hx => by
        obtain ⟨y, _, rfl⟩ := List.mem_map.mp hx
        rfl
      have fap : (pls.map V.int).all flatV = true := List.all_eq_true.mpr fun x hx => by
        obtain ⟨y, _, rfl⟩ := List.mem_map.mp hx
        rfl
      have nfo5 : ∀ b o, H5 b = some o → b ≠ fo → True := fun _ _ _ _ => True.intro
      refine for_it walk_itemsT (fun i σ H' => ∃ y5 y7 y8 y9 y10 y11 y12 : Option V, σ = [some (.ref d), some .non, some (.ref np), some (.ref pp), some (.ref pw), y5, some (.ref fo), y7, y8, y9, y10, y11, y12] ∧ (∀ b o, b ≠ fo → H5 b = some o → H' b = some o) ∧ H' fo = some (.dT (encT ((xtab ns pls tb).take i))))
        ⟨_, _, _, _, _, _, _, rfl, fun _ _ _ e => e, eF5⟩ (fun i σ H' _ h => ?_) (fun i x σ H' H6 hi h hy => ?_) (fun σ H' h => ?_)
      · obtain ⟨y5, y7, y8, y9, y10, y11, y12, rfl, sm, _⟩ := h
        exact sm _ _ (Ne.symm nfd) ed5
      · obtain ⟨y5, y7, y8, y9, y10, y11, y12, rfl, sm, eF⟩ := h
        obtain ⟨T, k, v, c, hk, rfl, nT, ec, rfl⟩ := hy
        obtain ⟨e, he, rfl, rfl⟩ := encT_at hk
        have hem := List.mem_of_getElem? he
        obtain ⟨w0, w1⟩ := hwt e hem
        rw [encT_len] at hi
        have hnm : e.1.1 ∈ ns := (nm _).mpr ⟨e, hem, rfl⟩
        have hpm : e.1.2 ∈ pls := (pm _).mpr ⟨e, hem, rfl⟩
        have sT : Same H' (upd H' T (.tup [.ref c, .int e.2])) := same_upd nT
        generalize hH6 : upd H' T (.tup [.ref c, .int e.2]) = H6 at sT
        have eT : H6 T = some (.tup [.ref c, .int e.2]) := by rw [← hH6]; exact upd_same
        have ec6 := sT _ _ ec
        have ec7 := ec6
        rw [tup2] at ec7
        have eF6 := sT _ _ eF
        have nwf : pw ≠ fo := ne_of_none eW3 nfo
        have npf : pp ≠ fo := ne_of_none eP3 nfo
        have nnf : np ≠ fo := ne_of_none eN3 nfo
        have eW6 := sT _ _ (sm _ _ nwf eW5)
        have eP6 := sT _ _ (sm _ _ npf eP5)
        have eN6 := sT _ _ (sm _ _ nnf eN5)
        have i1 := ixOf_lt hnm
        have i2 := ixOf_lt hpm
        have eqs : eqV (.str e.1.1) (.str e.1.1) = true := beq_self_eq_true e.1.1
        have eqi : eqV (.int e.1.2) (.int e.1.2) = true := beq_self_eq_true e.1.2
        refine ⟨T, _, rfl, SqT.of eT, rfl, _, _, rfl, _, _, rfl, rfl, ?_⟩
        refine ⟨_, rfl, c, _, rfl, SqT.of ec7, rfl, _, _, rfl, _, _, rfl, rfl, ?_⟩
        -- is_home
        refine ⟨_, rfl, false, rfl, ?_⟩
        refine iteF ?_
        -- digit
        refine ⟨_, rfl, pp, _, rfl, .inl (SqL.of eP6), _, rfl, .inl ⟨rfl, _, SqL.of eP6⟩, _, rfl, pp, _, _, ixOf pls e.1.2, .int e.1.2, rfl, rfl, SqL.of eP6, rfl, fap, ?_, eqi, ?_, _, _, rfl, rfl, ?_⟩
        · rw [List.getElem?_map, ixOf_at hpm]
          rfl
        · intro m z' hm hz
          rw [List.getElem?_map, Option.map_eq_some_iff] at hz
          obtain ⟨z, hz, rfl⟩ := hz
          exact beq_eq_false_iff_ne.mpr (ixOf_before hm hz)
        refine ⟨_, rfl, _, rfl, np, _, rfl, .inl (SqL.of eN6), _, _, rfl, rfl, _, rfl, .inl ⟨rfl, _, SqL.of eN6⟩, _, rfl, np, _, _, ixOf ns e.1.1, .str e.1.1, rfl, rfl, SqL.of eN6, rfl, fal, ?_, eqs, ?_, _, _, rfl, rfl, ?_⟩
        · rw [List.getElem?_map, ixOf_at hnm]
          rfl
        · intro m z' hm hz
          rw [List.getElem?_map, Option.map_eq_some_iff] at hz
          obtain ⟨z, hz, rfl⟩ := hz
          exact beq_eq_false_iff_ne.mpr (ixOf_before hm hz)
        rw [List.length_map, List.length_map]
        have eix : (ns.length : Int) - 1 - ((ixOf ns e.1.1 : Nat) : Int) = ((ns.length - 1 - ixOf ns e.1.1 : Nat) : Int) := by omega
        refine ⟨pw, _, _, .int (((pls.length : Int) + 1) ^ (ns.length - 1 - ixOf ns e.1.1)), rfl, rfl, SqL.of eW6, ?_, _, _, rfl, rfl, .inl ⟨by omega, by omega⟩, ?_⟩
        · rw [eix]
          exact atI_nat (pws_at (by omega))
        -- rank
        refine ⟨_, rfl, _, rfl, np, _, rfl, .inl (SqL.of eN6), _, _, rfl, rfl, _, _, rfl, rfl, .inr ⟨?_, ?_⟩, _, _, rfl, rfl, _, rfl, np, _, rfl, .inl (SqL.of eN6), _, _, rfl, rfl, _, _, rfl, rfl, .inr ⟨?_, ?_⟩, ?_⟩
        · rw [List.length_map]
          omega
        · rw [List.length_map]
          omega
        · rw [List.length_map]
          omega
        · rw [List.length_map]
          omega
        rw [List.length_map]
        refine ⟨_, rfl, .inr ⟨false, rfl, _, _, rfl, rfl, ?_⟩⟩
        -- found[key] = ..
        have hrk : -(2 ^ 64) < (e.2 * ((ns.length : Int) + 1) + 1) * ((ns.length : Int) + 1) + 0 ∧ (e.2 * ((ns.length : Int) + 1) + 1) * ((ns.length : Int) + 1) + 0 < 2 ^ 64 := by
          have a1 : e.2 * ((ns.length : Int) + 1) ≤ 1000000 * 13 := Int.mul_le_mul (by omega) (by omega) (by omega) (by omega)
          have a0 : 0 ≤ e.2 * ((ns.length : Int) + 1) := Int.mul_nonneg (by omega) (by omega)
          have b1 : (e.2 * ((ns.length : Int) + 1) + 1) * ((ns.length : Int) + 1) ≤ (1000000 * 13 + 1) * 13 := Int.mul_le_mul (by omega) (by omega) (by omega) (by omega)
          have b0 : 0 ≤ (e.2 * ((ns.length : Int) + 1) + 1) * ((ns.length : Int) + 1) := Int.mul_nonneg (by omega) (by omega)
          omega
        refine ⟨_, rfl, _, rfl, _, rfl, np, _, rfl, .inl (SqL.of eN6), pw, _, _, .int (((pls.length : Int) + 1) ^ ns.length), rfl, rfl, SqL.of eW6, ?_, _, _, rfl, rfl, .inl hrk, _, rfl, _, _, rfl, rfl, _, rfl, _, rfl, fo, _, rfl, DPut.t eF6 ec6 ?_, ?_⟩
        · rw [List.length_map]
          exact atI_nat (pws_at (by omega))
        · rw [encT_len, List.length_take]
          exact small1000 (by omega)
        · refine ⟨_, _, _, _, _, _, _, rfl, ?_, ?_⟩
          · intro b o hb eb
            rw [upd_ne hb]
            exact sT _ _ (sm _ _ hb eb)
          · have hx : (xtab ns pls tb)[i]? = some (e.1, xw ns pls e) := by
              unfold xtab
              rw [List.getElem?_map, he]
              rfl
            have hkn : ((xtab ns pls tb).map (·.1)).Nodup := by
              unfold xtab
              rw [List.map_map]
              exact hnd
            rw [upd_same]
            exact congrArg (fun z => some (HO.dT z)) ((encT_put _ _ _).trans (congrArg encT (take_put hkn hx)))
      · obtain ⟨y5, y7, y8, y9, y10, y11, y12, rfl, sm, eF⟩ := h
        rw [encT_len] at eF
        have hxl : (xtab ns pls tb).take tb.length = xtab ns pls tb := List.take_of_length_le (by unfold xtab; rw [List.length_map]; exact Nat.le_refl _)
        rw [hxl] at eF
        refine ⟨sm _ _ (Ne.symm nfd) ed5, _, rfl, q fo ns pls _ (s3.free nfo) ?_ ⟨nn, pn, nm, pm, so, po⟩ (by rw [upd_ne nfd]; exact eF)⟩
        intro b o e
        by_cases hb : b = d
        · subst hb
          rw [ed] at e
          cases e
          exact upd_same
        · rw [upd_ne hb]
          refine sm _ _ (ne_of_none (s3 _ _ e) nfo) (keep hb (s3 _ _ e))
end
end Kn

set_option Elab.async false
set_option linter.all false
set_option maxRecDepth 100000
set_option maxHeartbeats 4000000
/-! row_entries. -/
namespace Kn
open PySem PySem.Spec PyProof.Rows L2
section
variable {P : Program} {w : World} {K : PySem.W.Frag} {mg : Str → Option Value} {base : Heap} {f fN fP : Addr} {fd fdN fdP : FuncData}
/-- a row: name, the dict's place, its columns and weights -/
abbrev Row : Type := Str × Addr × List (Int × Int)
def encC (cs : List (Int × Int)) : List (Key × V) := cs.map fun c => ((Sum.inl c.1 : Key), V.int c.2)
def encW (rws : List Row) : List (Key × V) := rws.map fun r => ((Sum.inr r.1 : Key), V.ref r.2.1)
theorem encC_val (cs : List (Int × Int)) (k : Int) : valV (encC cs) (.inl k) = (look cs k).map V.int := valV_enc (fun a : Int => (Sum.inl a : Key)) V.int inl_inj k cs
theorem encC_put (cs : List (Int × Int)) (k v : Int) : putK (encC cs) (.inl k) (.int v) = encC (put cs k v) := putK_enc (fun a : Int => (Sum.inl a : Key)) V.int inl_inj cs k v
theorem encC_len (cs : List (Int × Int)) : (encC cs).length = cs.length := List.length_map ..
theorem encW_val (rws : List Row) (n : Str) : valV (encW rws) (.inr n) = (look rws n).map fun x => V.ref x.1 := valV_enc (fun a : Str => (Sum.inr a : Key)) (fun x : Addr × List (Int × Int) => V.ref x.1) inr_inj n rws
theorem encW_put (rws : List Row) (n : Str) (x : Addr × List (Int × Int)) : putK (encW rws) (.inr n) (.ref x.1) = encW (put rws n x) := putK_enc (fun a : Str => (Sum.inr a : Key)) (fun x : Addr × List (Int × Int) => V.ref x.1) inr_inj rws n x
theorem encW_len (rws : List Row) : (encW rws).length = rws.length := List.length_map ..
/-- rows of the entries et -/
structure RowsOk (et : Tab) (rws : List Row) : Prop where
  nd : (rws.map (·.1)).Nodup
  ad : (rws.map fun r => r.2.1).Nodup
  cn : ∀ r ∈ rws, (r.2.2.map (·.1)).Nodup
  ne : ∀ r ∈ rws, r.2.2 ≠ []
  mem : ∀ n p wt, ((n, p), wt) ∈ et ↔ ∃ r ∈ rws, r.1 = n ∧ (p, wt) ∈ r.2.2
abbrev nRe : List Str := ["entries", "found", "key"]
theorem scRe : FnScope nRe ["entries"] (defScope (top 1)) := ⟨rfl, rfl, rfl, by decide +kernel, rfl, by decide +kernel, by decide +kernel⟩
def spRe : Sp := fun vs H Q _ => ∃ (d : Addr) (ex : Tab), vs = [.ref d] ∧ H d = some (.dT (encT ex)) ∧ (ex.map (·.1)).Nodup ∧ ex.length ≤ 12 ∧
  ∀ (p : Addr) (rws : List Row) (H' : Hp), H p = none → Same H H' → RowsOk ex rws → rws.length ≤ 12 → (∀ r ∈ rws, H r.2.1 = none ∧ r.2.1 ≠ p ∧ r.2.2.length ≤ 12 ∧ H' r.2.1 = some (.dK (encC r.2.2))) → H' p = some (.dK (encW rws)) → Q (.ref p) H'
def addC (rws : List Row) (n : Str) (c : Int × Int) : List Row := rws.map fun r => if r.1 = n then (r.1, r.2.1, r.2.2 ++ [c]) else r
theorem addC_names (rws : List Row) (n : Str) (c : Int × Int) : (addC rws n c).map (·.1) = rws.map (·.1) := by
  unfold addC
  rw [List.map_map]
  refine List.map_congr_left fun r _ => ?_
  show (if r.1 = n then (r.1, r.2.1, r.2.2 ++ [c]) else r).1 = r.1
  split <;> rfl
theorem addC_addrs (rws : List Row) (n : Str) (c : Int × Int) : (addC rws n c).map (fun r => r.2.1) = rws.map fun r => r.2.1 := by
  unfold addC
  rw [List.map_map]
  refine List.map_congr_left fun r _ => ?_
  show (if r.1 = n then (r.1, r.2.1, r.2.2 ++ [c]) else r).2.1 = r.2.1
  split <;> rfl
theorem addC_enc (rws : List Row) (n : Str) (c : Int × Int) : encW (addC rws n c) = encW rws := by
  unfold encW addC
  rw [List.map_map]
  refine List.map_congr_left fun r _ => ?_
  show ((Sum.inr (if r.1 = n then (r.1, r.2.1, r.2.2 ++ [c]) else r).1 : Key), V.ref (if r.1 = n then (r.1, r.2.1, r.2.2 ++ [c]) else r).2.1) = _
  split <;> rfl
theorem fst_inj {α β : Type} {l : List (α × β)} (h : (l.map (·.1)).Nodup) {x y : α × β} (hx : x ∈ l) (hy : y ∈ l) (e : x.1 = y.1) : x = y := by
  induction l with
  | nil => exact nomatch hx
  | cons z l ih =>
    rw [List.map_cons, List.nodup_cons] at h
    rcases List.mem_cons.mp hx with hx | hx <;> rcases List.mem_cons.mp hy with hy | hy
    · rw [hx, hy]
    · exact absurd (List.mem_map.mpr ⟨y, hy, by rw [← e, hx]⟩) h.1
    · exact absurd (List.mem_map.mpr ⟨x, hx, by rw [e, hy]⟩) h.1
    · exact ih h.2 hx hy
theorem map_inj {α β : Type} {g : α → β} {l : List α} (h : (l.map g).Nodup) {x y : α} (hx : x ∈ l) (hy : y ∈ l) (e : g x = g y) : x = y := by
  induction l with
  | nil => exact nomatch hx
  | cons z l ih =>
    rw [List.map_cons, List.nodup_cons] at h
    rcases List.mem_cons.mp hx with hx | hx <;> rcases List.mem_cons.mp hy with hy | hy
    · rw [hx, hy]
    · exact absurd (List.mem_map.mpr ⟨y, hy, by rw [← e, hx]⟩) h.1
    · exact absurd (List.mem_map.mpr ⟨x, hx, by rw [e, hy]⟩) h.1
    · exact ih h.2 hx hy
/-- the rows so far, in a heap -/
structure RInv (H : Hp) (et : Tab) (fo l : Addr) (rws : List Row) (H' : Hp) : Prop where
  nd : (rws.map (·.1)).Nodup
  ad : (rws.map fun r => r.2.1).Nodup
  cn : ∀ r ∈ rws, (r.2.2.map (·.1)).Nodup
  mem : ∀ n p wt, ((n, p), wt) ∈ et ↔ ∃ r ∈ rws, r.1 = n ∧ (p, wt) ∈ r.2.2
  at_ : ∀ r ∈ rws, H r.2.1 = none ∧ r.2.1 ≠ fo ∧ r.2.1 ≠ l ∧ r.2.2.length ≤ et.length ∧ H' r.2.1 = some (.dK (encC r.2.2))
theorem shapeT (k : Str × Int) : ShapeOk (fun i => i == 0) (tK k) := fun i x h => by
  match i with
  | 0 =>
    have e : Sum.inr k.1 = x := by simpa [tK] using h
    rw [← e]
    rfl
  | 1 =>
    have e : Sum.inl k.2 = x := by simpa [tK] using h
    rw [← e]
    rfl
  | i + 2 => exact nomatch h
theorem ok_re (F : FnP K "row_entries" (top 1) f fd) (gS : mg "sorted" = none) : FnOk P w K mg base CX0 1 f fd ["entries"] spRe := by
  refine F.ok scRe (fun vs H Q E h => ?_) (fun cdv A outer s H vs Q E hr h => ?_)
  · obtain ⟨d, ex, rfl, _⟩ := h
    rfl
  · obtain ⟨d, ex, rfl, ed, hnd, hlen, q⟩ := h
    refine ⟨_, PSs.nox (pss_cons (ps_set (i := 1) scRe.nd rfl (Or.inl rfl) pe_dnewK)
      (pss_cons (ps_for PassesOwn.never rfl (pi_list (pe_callB (call_sortedDT rfl) (by rfl) gS rfl (pa_cons (pv 0) pa_nil))) (pg_name (i := 2) scRe.nd rfl (Or.inl rfl))
        (pss_cons (ps_expr (pe_dsetd (pv 1) (pe_ix ix_tup (pv 2) pe_int (fun _ _ => rfl)) pe_dnewK ⟨by rfl, by rfl, by rfl, by rfl⟩))
        (pss_one (ps_dput (hu_of hr) (pe_dget (hu_of hr) (pv 1) (pe_ix ix_tup (pv 2) pe_int (fun _ _ => rfl)) (fun _ _ => rfl)) (pe_ix ix_tup (pv 2) pe_int (fun _ _ => rfl)) (pe_dget (hu_of hr) (pv 0) (pv 2) (fun _ _ => rfl)) rfl))))
      (pss_one (ps_ret (pv 1))))), ?_⟩
    intro fo nf
    have s1 : Same H (upd H fo (.dK [])) := same_upd nf
    have shp : ∀ z ∈ encT ex, ShapeOk (fun i => i == 0) z.1 := fun z hz => by
      obtain ⟨e, _, rfl⟩ := List.mem_map.mp hz
      exact shapeT e.1
    have hne : ∀ z ∈ encT ex, z.1 ≠ [] := fun z hz => by
      obtain ⟨e, _, rfl⟩ := List.mem_map.mp hz
      exact fun z => nomatch z
    refine ⟨_, rfl, d, encT ex, fun i => i == 0, rfl, .inl (s1 _ _ ed), shp, .inr hne, fun zs l hz hza nl => ⟨l, rfl, ⟨_, SqL.of upd_same⟩, ?_⟩⟩
    obtain ⟨ls, hls, ezs⟩ := perm_map (fun e : (Str × Int) × Int => tK e.1) hz ex (by unfold encT; rw [List.map_map]; rfl)
    have hzl : zs.length = ls.length := by
      have := congrArg List.length ezs
      simpa using this
    have hll : ls.length ≤ 12 := by
      rw [hls.length_eq]
      omega
    have lnd : (ls.map (·.1)).Nodup := (hls.map (·.1)).nodup_iff.mpr hnd
    have nlf : l ≠ fo := fun c => by
      rw [c, upd_same] at nl
      exact nomatch nl
    have nl0 : H l = none := by
      rw [upd_ne nlf] at nl
      exact nl
    have s2 : Same (upd H fo (.dK [])) (upd (upd H fo (.dK [])) l (.lst (zs.map fun z => V.ref z.2))) := same_upd nl
    refine for_list (xs := zs.map fun z => V.ref z.2) (fun i σ H' => ∃ (y2 : Option V) (rws : List Row), σ = [some (.ref d), some (.ref fo), y2] ∧ Same H H' ∧ H' l = some (.lst (zs.map fun z => V.ref z.2)) ∧ (∀ z ∈ zs, H' z.2 = some (.tup (z.1.map kV))) ∧ H' fo = some (.dK (encW rws)) ∧ RInv H (ls.take i) fo l rws H' ∧ rws.length ≤ i ∧ ∀ r ∈ rws, r.2.2 ≠ [])
      ⟨none, [], rfl, s1.trans s2, upd_same, fun z hz => s2 _ _ (hza z hz), by rw [upd_ne (Ne.symm nlf), upd_same]; rfl, ⟨List.nodup_nil, List.nodup_nil, (fun r hr => nomatch hr), (fun n p wt => ⟨(fun h => nomatch h), fun ⟨r, hr, _⟩ => nomatch hr⟩), (fun r hr => nomatch hr)⟩, Nat.zero_le _, (fun r hr => nomatch hr)⟩
      (fun i σ H' _ h => ?_) (fun i x σ H' hx h => ?_) (fun σ H' h => ?_)
    · obtain ⟨y2, rws, rfl, sm, eL, _⟩ := h
      exact SqL.of eL
    · obtain ⟨y2, rws, rfl, sm, eL, hzT, eF, inv, hrl, hre⟩ := h
      have hi : i < zs.length := by
        have := (List.getElem?_eq_some_iff.mp hx).1
        simpa using this
      rw [List.getElem?_map, List.getElem?_eq_getElem hi] at hx
      have hx' : x = .ref zs[i].2 := (Option.some.inj hx).symm
      subst hx'
      have hi2 : i < ls.length := by omega
      have ekz : zs[i].1 = tK ls[i].1 := by
        have h1 : (zs.map (·.1))[i]? = (ls.map fun e : (Str × Int) × Int => tK e.1)[i]? := by rw [ezs]
        rw [List.getElem?_map, List.getElem?_map, List.getElem?_eq_getElem hi, List.getElem?_eq_getElem hi2] at h1
        exact Option.some.inj h1
      have etk : ls.take (i + 1) = ls.take i ++ [ls[i]] := by
        rw [List.take_add_one, List.getElem?_eq_getElem hi2]
        rfl
      have hex : ls[i] ∈ ex := hls.mem_iff.mp (List.getElem_mem hi2)
      have ekey := hzT _ (List.getElem_mem hi)
      rw [ekz] at ekey
      generalize hk : zs[i].2 = ka at ekey
      generalize hee : ls[i] = e at *
      have ekey2 := ekey
      rw [tup2] at ekey2
      -- the key is new
      have hkn : ∀ wt, (e.1, wt) ∉ ls.take i := fun wt hm => by
        obtain ⟨j, hj, h3⟩ := List.mem_take_iff_getElem.mp hm
        have hj2 : j < ls.length := by omega
        have h4 : (ls.map (·.1))[j]? = some e.1 := by rw [List.getElem?_map, List.getElem?_eq_getElem hj2, h3]; rfl
        have h5 : (ls.map (·.1))[i]? = some e.1 := by rw [List.getElem?_map, List.getElem?_eq_getElem hi2, hee]; rfl
        have := L2.nd_ix lnd h4 h5
        omega
      -- the second statement
      have stB : ∀ (rws1 : List Row) (H3 : Hp), Same H H3 → H3 l = some (.lst (zs.map fun z => V.ref z.2)) → (∀ z ∈ zs, H3 z.2 = some (.tup (z.1.map kV))) → H3 fo = some (.dK (encW rws1)) → RInv H (ls.take i) fo l rws1 H3 → rws1.length ≤ i + 1 → (∀ r ∈ rws1, r.1 = e.1.1 ∨ r.2.2 ≠ []) → ∀ r ∈ rws1, r.1 = e.1.1 →
          look r.2.2 e.1.2 = none ∧ r.2.2.length ≤ i ∧ ∃ (y2 : Option V) (rws : List Row), [some (V.ref d), some (V.ref fo), some (V.ref ka)] = [some (.ref d), some (.ref fo), y2] ∧ Same H (upd H3 r.2.1 (.dK (encC (r.2.2 ++ [(e.1.2, e.2)])))) ∧
            (upd H3 r.2.1 (.dK (encC (r.2.2 ++ [(e.1.2, e.2)])))) l = some (.lst (zs.map fun z => V.ref z.2)) ∧ (∀ z ∈ zs, (upd H3 r.2.1 (.dK (encC (r.2.2 ++ [(e.1.2, e.2)])))) z.2 = some (.tup (z.1.map kV))) ∧ (upd H3 r.2.1 (.dK (encC (r.2.2 ++ [(e.1.2, e.2)])))) fo = some (.dK (encW rws)) ∧
            RInv H (ls.take (i + 1)) fo l rws (upd H3 r.2.1 (.dK (encC (r.2.2 ++ [(e.1.2, e.2)])))) ∧ rws.length ≤ i + 1 ∧ ∀ r ∈ rws, r.2.2 ≠ [] := by
        intro rws1 H3 sm3 eL3 hzT3 eF3 inv3 hl3 hne3 r hr hrn
        obtain ⟨a1, a2, a3, a4, a5⟩ := inv3.at_ r hr
        have hnew : look r.2.2 e.1.2 = none := by
          rw [look_none]
          intro hm
          obtain ⟨c, hc, hc2⟩ := List.mem_map.mp hm
          refine hkn c.2 ((inv3.mem e.1.1 e.1.2 c.2).mpr ⟨r, hr, hrn, ?_⟩)
          rw [← hc2]
          exact hc
        have hun : ∀ r2 ∈ rws1, r2.1 = e.1.1 → r2 = r := fun r2 h2 h3 => fst_inj inv3.nd h2 hr (h3.trans hrn.symm)
        have hil : (ls.take i).length ≤ i := by rw [List.length_take]; omega
        refine ⟨hnew, by omega, some (.ref ka), addC rws1 e.1.1 (e.1.2, e.2), rfl, ?_, ?_, ?_, ?_, ⟨?_, ?_, ?_, ?_, ?_⟩, ?_, ?_⟩
        · intro b o eb
          rw [upd_ne (ne_of_none eb a1)]
          exact sm3 _ _ eb
        · rw [upd_ne (Ne.symm a3)]
          exact eL3
        · intro z hz
          have := hzT3 z hz
          rw [upd_ne (ne_of this a5 (by intro z; exact nomatch z))]
          exact this
        · rw [upd_ne (Ne.symm a2), addC_enc]
          exact eF3
        · rw [addC_names]
          exact inv3.nd
        · rw [addC_addrs]
          exact inv3.ad
        · intro r2 h2
          obtain ⟨r3, h3, rfl⟩ := List.mem_map.mp h2
          by_cases c : r3.1 = e.1.1
          · rw [if_pos c]
            have := hun r3 h3 c
            subst this
            show ((r3.2.2 ++ [(e.1.2, e.2)]).map (·.1)).Nodup
            rw [List.map_append, List.nodup_append]
            refine ⟨inv3.cn r3 h3, by simp, fun x hx y hy => ?_⟩
            have hy' : y = e.1.2 := by simpa using hy
            rw [hy']
            exact fun z => (look_none.mp hnew) (z ▸ hx)
          · rw [if_neg c]
            exact inv3.cn r3 h3
        · intro n p wt
          rw [etk, List.mem_append, List.mem_singleton]
          constructor
          · rintro (h | h)
            · obtain ⟨r2, h2, h3, h4⟩ := (inv3.mem n p wt).mp h
              refine ⟨_, List.mem_map.mpr ⟨r2, h2, rfl⟩, ?_, ?_⟩
              · split <;> exact h3
              · split
                · exact List.mem_append_left _ h4
                · exact h4
            · refine ⟨_, List.mem_map.mpr ⟨r, hr, rfl⟩, ?_, ?_⟩
              · rw [if_pos hrn]
                show r.1 = n
                rw [hrn, ← h]
              · rw [if_pos hrn, ← h]
                exact List.mem_append_right _ (by simp)
          · rintro ⟨r2, h2, h3, h4⟩
            obtain ⟨r3, hr3, rfl⟩ := List.mem_map.mp h2
            by_cases c : r3.1 = e.1.1
            · rw [if_pos c] at h3 h4
              rcases List.mem_append.mp h4 with h4 | h4
              · exact .inl ((inv3.mem n p wt).mpr ⟨r3, hr3, h3, h4⟩)
              · right
                have h5 := List.mem_singleton.mp h4
                have h6 : n = e.1.1 := h3.symm.trans c
                injection h5 with h7 h8
                rw [h6, h7, h8]
            · rw [if_neg c] at h3 h4
              exact .inl ((inv3.mem n p wt).mpr ⟨r3, hr3, h3, h4⟩)
        · intro r2 h2
          obtain ⟨r3, h3, rfl⟩ := List.mem_map.mp h2
          obtain ⟨b1, b2, b3, b4, b5⟩ := inv3.at_ r3 h3
          have el : (ls.take (i + 1)).length = (ls.take i).length + 1 := by rw [etk, List.length_append]; rfl
          by_cases c : r3.1 = e.1.1
          · rw [if_pos c]
            have := hun r3 h3 c
            subst this
            refine ⟨b1, b2, b3, ?_, upd_same⟩
            rw [el, List.length_append]
            exact Nat.succ_le_succ b4
          · rw [if_neg c]
            have hna : r3.2.1 ≠ r.2.1 := fun z => c (by rw [map_inj inv3.ad h3 hr z]; exact hrn)
            refine ⟨b1, b2, b3, by omega, ?_⟩
            rw [upd_ne hna]
            exact b5
        · have := congrArg List.length (addC_names rws1 e.1.1 (e.1.2, e.2))
          rw [List.length_map, List.length_map] at this
          omega
        · intro r2 h2
          obtain ⟨r3, h3, rfl⟩ := List.mem_map.mp h2
          by_cases c : r3.1 = e.1.1
          · rw [if_pos c]
            exact List.append_ne_nil_of_right_ne_nil _ (by simp)
          · rw [if_neg c]
            rcases hne3 r3 h3 with h | h
            · exact absurd h c
            · exact h
      -- reading the second statement
      have rd : ∀ (rws1 : List Row) (H3 : Hp), Same H H3 → H3 l = some (.lst (zs.map fun z => V.ref z.2)) → (∀ z ∈ zs, H3 z.2 = some (.tup (z.1.map kV))) → H3 fo = some (.dK (encW rws1)) → RInv H (ls.take i) fo l rws1 H3 → rws1.length ≤ i + 1 → (∀ r ∈ rws1, r.1 = e.1.1 ∨ r.2.2 ≠ []) → ∀ r ∈ rws1, r.1 = e.1.1 →
          sDPut (tDGet (tVar 1) (tOp (rIxT K) (tVar 2) (tC (.int 0)))) (tOp (rIxT K) (tVar 2) (tC (.int 1))) (tDGet (tVar 0) (tVar 2)) { nx := fun σ H' => ∃ (y2 : Option V) (rws : List Row), σ = [some (.ref d), some (.ref fo), y2] ∧ Same H H' ∧ H' l = some (.lst (zs.map fun z => V.ref z.2)) ∧ (∀ z ∈ zs, H' z.2 = some (.tup (z.1.map kV))) ∧ H' fo = some (.dK (encW rws)) ∧ RInv H (ls.take (i + 1)) fo l rws H' ∧ rws.length ≤ i + 1 ∧ ∀ r ∈ rws, r.2.2 ≠ [], rt := Q } [some (.ref d), some (.ref fo), some (.ref ka)] H3 := by
        intro rws1 H3 sm3 eL3 hzT3 eF3 inv3 hl3 hne3 r hr hrn
        obtain ⟨b1, b2, b3⟩ := stB rws1 H3 sm3 eL3 hzT3 eF3 inv3 hl3 hne3 r hr hrn
        have ek3 : H3 ka = some (.tup ((tK e.1).map kV)) := by
          have := hzT3 _ (List.getElem_mem hi)
          rw [ekz, hk] at this
          exact this
        have ek4 := ek3
        rw [tup2] at ek4
        obtain ⟨a1, a2, a3, a4, a5⟩ := inv3.at_ r hr
        refine ⟨_, rfl, _, rfl, d, .int e.2, rfl, .inr ⟨encT ex, tK e.1, ka, .inl (sm3 _ _ ed), rfl, ek3, ?_⟩, ?_⟩
        · rw [encT_val, look_mem hnd (k := e.1) (v := e.2) hex]
          rfl
        refine ⟨_, rfl, _, rfl, ka, _, _, _, rfl, rfl, SqT.of ek4, rfl, fo, .ref r.2.1, rfl, .inl ⟨encW rws1, .inr e.1.1, .inl eF3, rfl, ?_⟩, ?_⟩
        · rw [encW_val, ← hrn, look_mem inv3.nd (k := r.1) (v := r.2) hr]
          rfl
        refine ⟨_, rfl, ka, _, _, _, rfl, rfl, SqT.of ek4, rfl, r.2.1, _, rfl, DPut.k (k := Sum.inl e.1.2) a5 (by rw [encC_len]; exact small1000 (by omega)), ?_⟩
        rw [encC_put, put_new _ b1]
        exact b3
      -- the first statement
      refine ⟨_, rfl, fo, rfl, .inl ⟨_, .inl eF⟩, _, rfl, ka, _, _, _, rfl, rfl, SqT.of ekey2, rfl, fun z nz => ?_⟩
      have sz : Same H' (upd H' z (.dK [])) := same_upd nz
      have nz0 : H z = none := sm.free nz
      have inv2 : ∀ o, RInv H (ls.take i) fo l rws (upd H' z o) := fun o => ⟨inv.nd, inv.ad, inv.cn, inv.mem, fun r hr => by
        obtain ⟨a1, a2, a3, a4, a5⟩ := inv.at_ r hr
        exact ⟨a1, a2, a3, a4, by rw [upd_ne (ne_of_none a5 nz)]; exact a5⟩⟩
      refine ⟨encW rws, .inr e.1.1, sz _ _ eF, rfl, by rw [encW_len]; exact small1000 (by omega), fun v hv => ?_, fun hv => ?_⟩
      · rw [encW_val, Option.map_eq_some_iff] at hv
        obtain ⟨x, hx, rfl⟩ := hv
        exact rd rws _ (sm.trans sz) (sz _ _ eL) (fun z hz => sz _ _ (hzT z hz)) (sz _ _ eF) (inv2 _) (by omega) (fun r hr => .inr (hre r hr)) (e.1.1, x) (look_in hx) rfl
      · rw [encW_val, Option.map_eq_none_iff] at hv
        have epu : putK (encW rws) (.inr e.1.1) (.ref z) = encW (rws ++ [(e.1.1, z, [])]) := by
          have := encW_put rws e.1.1 (z, [])
          rw [put_new _ hv] at this
          exact this
        rw [epu]
        have nzf : z ≠ fo := Ne.symm (ne_of_none eF nz)
        have nzl : z ≠ l := Ne.symm (ne_of_none eL nz)
        have sm4 : Same H (upd (upd H' z (.dK [])) fo (.dK (encW (rws ++ [(e.1.1, z, [])])))) := fun b o eb => by
          rw [upd_ne (ne_of_none eb nf)]
          exact sz _ _ (sm _ _ eb)
        refine rd (rws ++ [(e.1.1, z, [])]) _ sm4 (by rw [upd_ne nlf]; exact sz _ _ eL) (fun z2 hz2 => ?_) upd_same ⟨?_, ?_, ?_, ?_, ?_⟩ (by rw [List.length_append]; show rws.length + 1 ≤ i + 1; omega) (fun r hr => ?_) (e.1.1, z, []) (by simp) rfl
        · have := sz _ _ (hzT z2 hz2)
          rw [upd_ne (ne_of this (sz _ _ eF) (by intro z; exact nomatch z))]
          exact this
        · rw [List.map_append, List.nodup_append]
          refine ⟨inv.nd, by simp, fun x hx y hy => ?_⟩
          have hy' : y = e.1.1 := by simpa using hy
          rw [hy']
          exact fun c => (look_none.mp hv) (c ▸ hx)
        · rw [List.map_append, List.nodup_append]
          refine ⟨inv.ad, by simp, fun x hx y hy => ?_⟩
          have hy' : y = z := by simpa using hy
          obtain ⟨r, hr, rfl⟩ := List.mem_map.mp hx
          rw [hy']
          exact ne_of_none (inv.at_ r hr).2.2.2.2 nz
        · intro r hr
          rcases List.mem_append.mp hr with hr | hr
          · exact inv.cn r hr
          · rw [List.mem_singleton.mp hr]
            exact List.nodup_nil
        · intro n p wt
          rw [inv.mem]
          constructor
          · rintro ⟨r, hr, h1, h2⟩
            exact ⟨r, List.mem_append_left _ hr, h1, h2⟩
          · rintro ⟨r, hr, h1, h2⟩
            rcases List.mem_append.mp hr with hr | hr
            · exact ⟨r, hr, h1, h2⟩
            · rw [List.mem_singleton.mp hr] at h2
              exact nomatch h2
        · intro r hr
          rcases List.mem_append.mp hr with hr | hr
          · obtain ⟨a1, a2, a3, a4, a5⟩ := inv.at_ r hr
            refine ⟨a1, a2, a3, a4, ?_⟩
            rw [upd_ne a2]
            exact sz _ _ a5
          · rw [List.mem_singleton.mp hr]
            refine ⟨nz0, nzf, nzl, Nat.zero_le _, ?_⟩
            show (upd (upd H' z (.dK [])) fo _) z = _
            rw [upd_ne nzf, upd_same]
            rfl
        · rcases List.mem_append.mp hr with hr | hr
          · exact .inr (hre r hr)
          · rw [List.mem_singleton.mp hr]
            exact .inl rfl
    · obtain ⟨y2, rws, rfl, sm, eL, hzT, eF, inv, hrl, hre⟩ := h
      rw [List.length_map, hzl] at inv hrl
      rw [List.take_length] at inv
      refine ⟨_, rfl, q fo rws H' nf sm ⟨inv.nd, inv.ad, inv.cn, hre, fun n p wt => (hls.mem_iff.symm).trans (inv.mem n p wt)⟩ (by omega) (fun r hr => ?_) eF⟩
      obtain ⟨a1, a2, a3, a4, a5⟩ := inv.at_ r hr
      exact ⟨a1, a2, by omega, a5⟩
end
end Kn

set_option Elab.async false
set_option linter.all false
set_option maxRecDepth 100000
set_option maxHeartbeats 4000000
/-! x = {k: v for ..} of a local name; the mirror of best_moves. -/
namespace Kn
open PySem PySem.Spec PyProof.Rows L2
section
variable {X : Cx}
theorem sw_trueD {kx vx : Expr} {gs : List Comprehension} {scope : Scope} {pos py : Pos} {y : Str} {l : Nat} {env : Env} (hk : env.scope.kind = .function) (hy : env.scope.names.lookup y = some .local) (hl : (py.line == pos.line) = true)
    (hn : (scope.names.any fun (n, k) => n == y && (k == .local || k == .cell)) = false) (hb : env.blockKind = .function) : swapsWith (.DictComp kx vx gs scope pos) (some (.Name y py)) l env = pure true := by
  unfold swapsWith
  show (pure (env.blockKind == .function && env.kindOf y == some .local && py.line == pos.line && !(scope.names.any fun (n, k) => n == y && (k == .local || k == .cell))) : Sem Bool) = pure true
  have h1 : env.kindOf y = some .local := hy
  rw [hl, hn, hb, h1]
  rfl
theorem ps_setDc {i : Nat} {y : Str} {py : Pos} {kx vx tg iter : Expr} {ifs : List Expr} {scope : Scope} {own : List (Str × Nat)} {pos spos : Pos} {wi : TI} {g : TG} {tt : TT} {tk tv : TE} (hc : X.calm = true) (hN : X.N.Nodup) (hy : X.N[i]? = some y) (hyl : X.env.scope.names.lookup y = some .local)
    (hsw : swapsWith (.DictComp kx vx [⟨tg, iter, ifs, 0⟩] scope pos) (some (.Name y py)) spos.line X.env = pure true) (hi : PI X tg iter wi) (ok : BlkOk X.N X.env.scope scope own)
    (hg : InBlk X scope fun Y => PG Y tg g) (ht : InBlk X scope fun Y => PTs Y ifs tt) (hk : InBlk X scope fun Y => PE Y kx tk) (hv : InBlk X scope fun Y => PE Y vx tv) (hs : ∀ x, foldedSetIterable iter X.env x = pure x := by intro _; rfl) :
    PS X (.Assign [.Name y py] (.DictComp kx vx [⟨tg, iter, ifs, 0⟩] scope pos) spos) (tAsg (tDc wi g tt tk tv (own.map (·.2))) (gName i)) := by
  refine ⟨fun pins s σ H D I h => ?_⟩
  rw [exec_Assign_Name_used _ _ _ _ hsw]
  refine wpAny_bind (wpAny_standAt (wpAny_bind ?_))
  show wpAny _ X.A (do let _ ← comprehension (.DictComp kx vx [⟨tg, iter, ifs, 0⟩] scope pos) scope X.env (firstIterPos [⟨tg, iter, ifs, 0⟩] pos) newDict false (eval iter X.env) (some (assign (.Name y py) X.env))) _ _ s
  have h2 : tDc wi g tt tk tv (own.map (·.2)) σ H (fun x H1 => gName i x σ H1 D.nx) := h
  refine wpAny_bind (thn (dc_core (Qf := fun _ s' => SP X pins D .next s') hc hN I hi ok hg ht hk hv hs h2 fun L C s' m H' I' q hn f => ?_) fun _ s' hq => wpAny_pure (wpAny_pure hq))
  show wpAny _ _ (assign (.Name y py) X.env (.ref L)) _ _ _
  refine wpAny_assign_Name (store_ok2 (v := V.ref L) I' hN hy (.inl hyl) rfl (fun s2 I2 ⟨a, sb, ha⟩ => ?_) (.inr hyl))
  obtain ⟨f0, f1, f2, f3, f4, f5⟩ := f
  have haC : C ≠ a := by
    rcases ha with z | z
    · rw [z]
      exact f1
    · exact fun e => f4 y a z e.symm
  exact ⟨m, hn.sameBut sb haC, fun h3 sb3 => ⟨_, H', I2.turned (t' := s2.toks) (fun b o hb e => (sb3.2 b hb).trans e) f0 f1 f3 f4 f5, q⟩⟩
end
/-! ### the mirror -/
/-- weight of a name's column -/
def wOf (rws : List Row) (n : Str) (c : Int) : Int := (((look rws n).map (·.2)).bind fun cs => look cs c).getD 0
/-- what a row gains by a column -/
def eff (ow : List (Int × Str)) (rws : List Row) (n : Str) (c wt : Int) : Option Int := match look ow c with
  | none => some wt
  | some o => if o = n then none else some (wt - wOf rws o c)
def mstep (ow : List (Int × Str)) (rws : List Row) (n : Str) (a : Int × Option Int) (c : Int × Int) : Int × Option Int := match eff ow rws n c.1 c.2 with
  | none => a
  | some g => if a.1 < g then (g, some c.1) else a
def pfold (ow : List (Int × Str)) (rws : List Row) (n : Str) (cs : List (Int × Int)) : Int × Option Int := cs.foldl (mstep ow rws n) (0, none)
theorem mstep_mono (ow : List (Int × Str)) (rws : List Row) (n : Str) (a : Int × Option Int) (c : Int × Int) : a.1 ≤ (mstep ow rws n a c).1 := by
  unfold mstep
  split
  · exact Int.le_refl _
  · split
    · rename_i h
      exact Int.le_of_lt h
    · exact Int.le_refl _
theorem fold_mono (ow : List (Int × Str)) (rws : List Row) (n : Str) : ∀ (cs : List (Int × Int)) (a : Int × Option Int), a.1 ≤ (cs.foldl (mstep ow rws n) a).1
  | [], _ => Int.le_refl _
  | c :: cs, a => Int.le_trans (mstep_mono ow rws n a c) (fold_mono ow rws n cs _)
theorem fold_ge (ow : List (Int × Str)) (rws : List Row) (n : Str) : ∀ (cs : List (Int × Int)) (a : Int × Option Int) (c : Int × Int) (g : Int), c ∈ cs → eff ow rws n c.1 c.2 = some g → g ≤ (cs.foldl (mstep ow rws n) a).1
  | [], _, _, _, h, _ => nomatch h
  | d :: cs, a, c, g, h, e => by
    rw [List.foldl_cons]
    rcases List.mem_cons.mp h with rfl | h
    · refine Int.le_trans ?_ (fold_mono ow rws n cs _)
      unfold mstep
      rw [e]
      show g ≤ (if a.1 < g then (g, some c.1) else a).1
      split
      · exact Int.le_refl _
      · rename_i h2
        exact Int.not_lt.mp h2
    · exact fold_ge ow rws n cs _ c g h e
/-- a second walk changes nothing -/
theorem mstep_fix (ow : List (Int × Str)) (rws : List Row) (n : Str) (cs : List (Int × Int)) (c : Int × Int) (h : c ∈ cs) : mstep ow rws n (pfold ow rws n cs) c = pfold ow rws n cs := by
  cases e : eff ow rws n c.1 c.2 with
  | none =>
    unfold mstep
    rw [e]
  | some g =>
    have h2 := fold_ge ow rws n cs (0, none) c g h e
    unfold mstep
    rw [e]
    exact if_neg (Int.not_lt.mpr h2)
/-- a row whose columns are all its own gains nothing -/
theorem pfold_idle (ow : List (Int × Str)) (rws : List Row) (n : Str) (cs : List (Int × Int)) (h : ∀ c ∈ cs, look ow c.1 = some n) : pfold ow rws n cs = (0, none) := by
  unfold pfold
  induction cs with
  | nil => rfl
  | cons c cs ih =>
    have e : eff ow rws n c.1 c.2 = none := by
      unfold eff
      rw [h c List.mem_cons_self]
      exact if_pos rfl
    have e2 : mstep ow rws n (0, none) c = (0, none) := by
      unfold mstep
      rw [e]
    rw [List.foldl_cons, e2]
    exact ih fun d hd => h d (List.mem_cons_of_mem _ hd)
/-- what best_moves may take for granted -/
structure BmOk (rws : List Row) (pr : List (Str × Int)) (ow : List (Int × Str)) : Prop where
  nd : (rws.map (·.1)).Nodup
  cn : ∀ r ∈ rws, (r.2.2.map (·.1)).Nodup
  inv : ∀ n c, look pr n = some c ↔ look ow c = some n
  own : ∀ c o, look ow c = some o → ∃ r ∈ rws, r.1 = o ∧ ∃ wt, (c, wt) ∈ r.2.2
  star : ∀ r ∈ rws, ∀ c ∈ r.2.2, ∀ o, look ow c.1 = some o → o ≠ r.1 → ∀ r2 ∈ rws, r2.1 = o → ∀ c2 ∈ r2.2.2, look ow c2.1 = some o
end Kn

set_option Elab.async false
set_option linter.all false
set_option maxRecDepth 100000
set_option maxHeartbeats 4000000
/-! best_moves: the innermost body. -/
namespace Kn
open PySem PySem.Spec PyProof.Rows L2
section
/-- gains and moves show the state st -/
structure GM (rws : List Row) (st : Str → Int × Option Int) (gd mv : List (Str × Int)) : Prop where
  g : ∀ r ∈ rws, look gd r.1 = some (st r.1).1
  m : ∀ r ∈ rws, look mv r.1 = (st r.1).2
  gn : (gd.map (·.1)).Nodup
  mn : (mv.map (·.1)).Nodup
  gs : ∀ n ∈ gd.map (·.1), n ∈ rws.map (·.1)
  ms : ∀ n ∈ mv.map (·.1), n ∈ rws.map (·.1)
def setS (st : Str → Int × Option Int) (n : Str) (a : Int × Option Int) : Str → Int × Option Int := fun k => if k = n then a else st k
theorem GM.put {rws : List Row} {st : Str → Int × Option Int} {gd mv : List (Str × Int)} (h : GM rws st gd mv) {r : Row} (hr : r ∈ rws) (g c : Int) : GM rws (setS st r.1 (g, some c)) (Kn.put gd r.1 g) (Kn.put mv r.1 c) := by
  have hm : r.1 ∈ rws.map (·.1) := List.mem_map.mpr ⟨r, hr, rfl⟩
  refine ⟨fun r2 h2 => ?_, fun r2 h2 => ?_, put_nodup _ _ h.gn, put_nodup _ _ h.mn, fun n hn => ?_, fun n hn => ?_⟩
  · rw [look_put]
    unfold setS
    split
    · rfl
    · exact h.g r2 h2
  · rw [look_put]
    unfold setS
    split
    · rfl
    · exact h.m r2 h2
  · rcases put_mem hn with z | z
    · rw [z]
      exact hm
    · exact h.gs n z
  · rcases put_mem hn with z | z
    · rw [z]
      exact hm
    · exact h.ms n z
theorem setS_same {st : Str → Int × Option Int} {n : Str} : setS st n (st n) = st := by
  funext k
  unfold setS
  split
  · rename_i h
    rw [h]
  · rfl
theorem GM.glen {rws : List Row} {st : Str → Int × Option Int} {gd mv : List (Str × Int)} (h : GM rws st gd mv) : gd.length ≤ rws.length := by
  have := len_sub h.gn h.gs
  rw [List.length_map, List.length_map] at this
  exact this
theorem GM.mlen {rws : List Row} {st : Str → Int × Option Int} {gd mv : List (Str × Int)} (h : GM rws st gd mv) : mv.length ≤ rws.length := by
  have := len_sub h.mn h.ms
  rw [List.length_map, List.length_map] at this
  exact this
variable {K : PySem.W.Frag}
abbrev rGt : R2 := rI0 fun i j => .bl (decide (j < i))
def tIf2 (K : PySem.W.Frag) : TS := tIfS (tAnd (tTest (tOp rGt (tVar 10) (tDGet (tVar 3) (tVar 6)))) (tTest (tOp rNe (tDGet1 (tVar 1) (tVar 6)) (tVar 8))))
  (tSeq (tAsg (tTup (tCons (tVar 10) (tCons (tVar 8) tNil))) (gTup K 2 (gCons (gSub (tVar 3) (tVar 6) rSetD) (gCons (gSub (tVar 4) (tVar 6) rSetD) gNil)))) (tAsg (tC (.bl true)) (gName 5))) tNext
def tBody (K : PySem.W.Frag) : TS := tSeq (tAsg (tVar 9) (gName 10)) (tSeq (tIfS (tB (tDIn (tVar 8) (tVar 2)))
  (tSeq (tAsg (tDGet (tVar 2) (tVar 8)) (gName 11)) (tAug 10 (tOp (rI0 fun i j => .int (i - j)) (tDGet (tVar 3) (tVar 11)) (tDGet (tDGet (tVar 0) (tVar 11)) (tVar 8))) (ipI fun i j => i + j))) tNext) (tIf2 K))
structure BmHeap (H : Hp) (rd pd od : Addr) (rws : List Row) (pr : List (Str × Int)) (ow : List (Int × Str)) : Prop where
  r : Rd H rd (.dK (encW rws))
  c : ∀ r ∈ rws, Rd H r.2.1 (.dK (encC r.2.2))
  p : Rd H pd (.dK (encN pr))
  o : Rd H od (.dK (encI ow))
theorem wOf_at {rws : List Row} {r : Row} {c wt : Int} (hn : (rws.map (·.1)).Nodup) (hc : (r.2.2.map (·.1)).Nodup) (hr : r ∈ rws) (h : (c, wt) ∈ r.2.2) : wOf rws r.1 c = wt := by
  unfold wOf
  rw [look_mem hn (k := r.1) (v := r.2) hr]
  show ((look r.2.2 c).getD 0) = wt
  rw [look_mem hc h]
  rfl
theorem bm_body {D : Ends} {H : Hp} {rd pd od gA mA ra : Addr} {rws : List Row} {pr : List (Str × Int)} {ow : List (Int × Str)} {st : Str → Int × Option Int} {gd mv : List (Str × Int)} {r : Row} {c wt : Int} {ch : Bool} {y10 y11 : Option V}
    (ok : BmOk rws pr ow) (hh : BmHeap H rd pd od rws pr ow) (eg : H gA = some (.dK (encN gd))) (em : H mA = some (.dK (encN mv))) (hgm : gA ≠ mA) (gm : GM rws st gd mv) (hr : r ∈ rws) (hc : (c, wt) ∈ r.2.2) (hl : rws.length ≤ 12)
    (idle : ∀ o, look ow c = some o → o ≠ r.1 → (st o).1 = 0)
    (q : ∀ (H' : Hp) (b : Bool) (z10 z11 : Option V) (gd' mv' : List (Str × Int)), (∀ x o, x ≠ gA → x ≠ mA → H x = some o → H' x = some o) → H' gA = some (.dK (encN gd')) → H' mA = some (.dK (encN mv')) →
      GM rws (setS st r.1 (mstep ow rws r.1 (st r.1) (c, wt))) gd' mv' → (b = ch ∨ (b = true ∧ mstep ow rws r.1 (st r.1) (c, wt) ≠ st r.1)) →
      D.nx [some (.ref rd), some (.ref pd), some (.ref od), some (.ref gA), some (.ref mA), some (.bl b), some (.str r.1), some (.ref ra), some (.int c), some (.int wt), z10, z11] H') :
    tBody K D [some (.ref rd), some (.ref pd), some (.ref od), some (.ref gA), some (.ref mA), some (.bl ch), some (.str r.1), some (.ref ra), some (.int c), some (.int wt), y10, y11] H := by
  have gr : DGet H gA (.str r.1) (some (.int (st r.1).1)) := .inl ⟨encN gd, .inr r.1, .inl eg, rfl, by rw [encN_val, gm.g r hr]; rfl⟩
  -- the second if, the gain known
  have cont : ∀ (G : Int) (z11 : Option V), (eff ow rws r.1 c wt = some G ∨ (eff ow rws r.1 c wt = none ∧ G = (st r.1).1)) →
      tIf2 K D [some (.ref rd), some (.ref pd), some (.ref od), some (.ref gA), some (.ref mA), some (.bl ch), some (.str r.1), some (.ref ra), some (.int c), some (.int wt), some (.int G), z11] H := by
    intro G z11 hG
    have stay : mstep ow rws r.1 (st r.1) (c, wt) = st r.1 → D.nx [some (.ref rd), some (.ref pd), some (.ref od), some (.ref gA), some (.ref mA), some (.bl ch), some (.str r.1), some (.ref ra), some (.int c), some (.int wt), some (.int G), z11] H := fun e => by
      refine q H ch _ _ gd mv (fun _ _ _ _ e => e) eg em ?_ (.inl rfl)
      rw [e, setS_same]
      exact gm
    refine ⟨_, rfl, _, rfl, _, rfl, gA, _, rfl, gr, _, _, rfl, rfl, _, rfl, ?_⟩
    refine ite2 (fun hlt => ?_) (fun hlt => ?_)
    · have hlt' : (st r.1).1 < G := of_decide_eq_true hlt
      rcases hG with hG | ⟨_, hG⟩
      · have hmo : mstep ow rws r.1 (st r.1) (c, wt) = (G, some c) := by
          unfold mstep
          rw [hG]
          exact if_pos hlt'
        have hpr : look pr r.1 ≠ some c := fun z => by
          have h2 := (ok.inv r.1 c).mp z
          unfold eff at hG
          rw [h2] at hG
          simp at hG
        refine ⟨_, rfl, pd, rfl, .inl ⟨_, hh.p⟩, _, rfl, (look pr r.1).map V.int, .inl ⟨encN pr, .inr r.1, hh.p, rfl, (encN_val _ _).symm⟩, _, rfl, ?_, _, rfl, ?_⟩
        · cases look pr r.1 <;> rfl
        · have hd : decide (((look pr r.1).map V.int).getD .non = V.int c) = false := by
            refine decide_eq_false fun z => ?_
            cases e : look pr r.1 with
            | none =>
              rw [e] at z
              exact nomatch z
            | some c2 =>
              rw [e] at z
              injection z with z
              exact hpr (by rw [e, z])
          rw [hd]
          refine iteT ?_
          refine ⟨_, rfl, _, rfl, (show 2 ≤ sizeLine by decide), fun T nT => ?_⟩
          have s1 : Same H (upd H T (.tup [.int G, .int c])) := same_upd nT
          refine ⟨T, _, rfl, SqT.of upd_same, rfl, _, _, rfl, ?_⟩
          have l1 := gm.glen
          have l2 := gm.mlen
          refine ⟨_, rfl, _, rfl, gA, _, rfl, DPut.k (k := Sum.inr r.1) (s1 _ _ eg) (by rw [encN_len]; exact small1000 (by omega)), _, _, rfl, ?_⟩
          have em2 : (upd (upd H T (.tup [.int G, .int c])) gA (.dK (putK (encN gd) (Sum.inr r.1) (.int G)))) mA = some (.dK (encN mv)) := by
            rw [upd_ne (Ne.symm hgm)]
            exact s1 _ _ em
          refine ⟨_, rfl, _, rfl, mA, _, rfl, DPut.k (k := Sum.inr r.1) em2 (by rw [encN_len]; exact small1000 (by omega)), rfl, ?_⟩
          refine q _ true _ _ (put gd r.1 G) (put mv r.1 c) (fun x o h1 h2 e => ?_) ?_ ?_ ?_ (.inr ⟨rfl, ?_⟩)
          · rw [upd_ne h2, upd_ne h1]
            exact s1 _ _ e
          · rw [upd_ne hgm, upd_same, encN_put]
          · rw [upd_same, encN_put]
          · rw [hmo]
            exact gm.put hr G c
          · rw [hmo]
            intro z
            rw [← z] at hlt'
            exact Int.lt_irrefl _ hlt'
      · omega
    · refine iteF ?_
      refine stay ?_
      rcases hG with hG | ⟨hG, _⟩
      · unfold mstep
        rw [hG]
        exact if_neg fun z => hlt (decide_eq_true z)
      · unfold mstep
        rw [hG]
  refine ⟨_, rfl, ?_⟩
  refine ⟨_, rfl, _, rfl, od, _, rfl, .inl ⟨encI ow, .inl c, hh.o, rfl, (encI_val _ _).symm⟩, _, rfl, ?_⟩
  cases hlo : look ow c with
  | none =>
    refine iteF ?_
    refine cont wt _ (.inl ?_)
    unfold eff
    rw [hlo]
  | some o =>
    refine iteT ?_
    obtain ⟨r2, hr2, hro, w2, hw2⟩ := ok.own c o hlo
    have g2 : DGet H gA (.str o) (some (.int (st o).1)) := .inl ⟨encN gd, .inr o, .inl eg, rfl, by rw [encN_val, ← hro, gm.g r2 hr2]; rfl⟩
    have g3 : DGet H rd (.str o) (some (.ref r2.2.1)) := .inl ⟨encW rws, .inr o, hh.r, rfl, by rw [encW_val, ← hro, look_mem ok.nd (k := r2.1) (v := r2.2) hr2]; rfl⟩
    have g4 : DGet H r2.2.1 (.int c) (some (.int w2)) := .inl ⟨encC r2.2.2, .inl c, hh.c r2 hr2, rfl, by rw [encC_val, look_mem (ok.cn r2 hr2) hw2]; rfl⟩
    refine ⟨_, rfl, _, rfl, od, .str o, rfl, .inl ⟨encI ow, .inl c, hh.o, rfl, by rw [encI_val, hlo]; rfl⟩, _, rfl, ?_⟩
    refine ⟨_, rfl, _, rfl, gA, _, rfl, g2, _, rfl, _, rfl, rd, _, rfl, g3, _, rfl, r2.2.1, _, rfl, g4, _, _, rfl, rfl, _, _, rfl, rfl, ?_⟩
    refine cont _ _ ?_
    by_cases ho : o = r.1
    · right
      refine ⟨by unfold eff; rw [hlo]; exact if_pos ho, ?_⟩
      have e1 : r2 = r := fst_inj ok.nd hr2 hr (hro.trans ho)
      have e2 : w2 = wt := by
        have h1 := look_mem (ok.cn r2 hr2) hw2
        rw [e1, look_mem (ok.cn r hr) hc] at h1
        exact (Option.some.inj h1).symm
      rw [ho, e2]
      show wt + ((st r.1).1 - wt) = (st r.1).1
      omega
    · left
      unfold eff
      rw [hlo]
      show (if o = r.1 then none else some (wt - wOf rws o c)) = _
      rw [if_neg ho, idle o hlo ho, ← hro, wOf_at ok.nd (ok.cn r2 hr2) hr2 hw2]
      show some (wt - w2) = some (wt + (0 - w2))
      congr 1
      omega
end
end Kn

set_option Elab.async false
set_option linter.all false
set_option maxRecDepth 100000
set_option maxHeartbeats 4000000
/-! best_moves. -/
namespace Kn
open PySem PySem.Spec PyProof.Rows L2
section
def colsOf (rws : List Row) (n : Str) : List (Int × Int) := ((look rws n).map (·.2)).getD []
def finS (ow : List (Int × Str)) (rws : List Row) (n : Str) : Int × Option Int := pfold ow rws n (colsOf rws n)
theorem colsOf_at {rws : List Row} {r : Row} (hn : (rws.map (·.1)).Nodup) (hr : r ∈ rws) : colsOf rws r.1 = r.2.2 := by
  unfold colsOf
  rw [look_mem hn (k := r.1) (v := r.2) hr]
  rfl
/-- the state of a pass ahead of row i -/
def stP (ow : List (Int × Str)) (rws : List Row) (fin : Bool) (i : Nat) (n : Str) : Int × Option Int := if fin = true ∨ n ∈ (rws.take i).map (·.1) then finS ow rws n else (0, none)
/-- .. within row r ahead of column j -/
def stI (ow : List (Int × Str)) (rws : List Row) (fin : Bool) (i : Nat) (r : Row) (j : Nat) (n : Str) : Int × Option Int := if n = r.1 then (if fin = true then finS ow rws n else pfold ow rws n (r.2.2.take j)) else stP ow rws fin i n
theorem GM.congr {rws : List Row} {st st' : Str → Int × Option Int} {gd mv : List (Str × Int)} (h : GM rws st gd mv) (e : ∀ r ∈ rws, st r.1 = st' r.1) : GM rws st' gd mv :=
  ⟨fun r hr => by rw [← e r hr]; exact h.g r hr, fun r hr => by rw [← e r hr]; exact h.m r hr, h.gn, h.mn, h.gs, h.ms⟩
theorem names_take {rws : List Row} (hn : (rws.map (·.1)).Nodup) {i : Nat} {r : Row} (h : rws[i]? = some r) : r.1 ∉ (rws.take i).map (·.1) := by
  intro hm
  obtain ⟨r2, h2, h3⟩ := List.mem_map.mp hm
  obtain ⟨j, hj, h4⟩ := List.mem_take_iff_getElem.mp h2
  have hi : i < rws.length := (List.getElem?_eq_some_iff.mp h).1
  have hj2 : j < rws.length := by omega
  have h5 : (rws.map (·.1))[j]? = some r.1 := by
    rw [List.getElem?_map, List.getElem?_eq_getElem hj2, h4]
    exact congrArg some h3
  have h6 : (rws.map (·.1))[i]? = some r.1 := by
    rw [List.getElem?_map, h]
    rfl
  have := L2.nd_ix hn h5 h6
  omega
variable {ow : List (Int × Str)} {rws : List Row}
theorem stI_start (hn : (rws.map (·.1)).Nodup) {i : Nat} {r : Row} (h : rws[i]? = some r) (fin : Bool) (n : Str) : stP ow rws fin i n = stI ow rws fin i r 0 n := by
  unfold stI
  by_cases c : n = r.1
  · rw [if_pos c]
    unfold stP
    cases fin with
    | true => simp
    | false =>
      have hm := names_take hn h
      rw [if_neg (by rw [c]; simp; simpa using hm)]
      rfl
  · rw [if_neg c]
theorem stI_step (hn : (rws.map (·.1)).Nodup) {i j : Nat} {r : Row} (hr : r ∈ rws) {c : Int × Int} (hc : r.2.2[j]? = some c) (fin : Bool) (n : Str) :
    setS (stI ow rws fin i r j) r.1 (mstep ow rws r.1 (stI ow rws fin i r j r.1) c) n = stI ow rws fin i r (j + 1) n := by
  unfold setS
  by_cases e : n = r.1
  · subst e
    rw [if_pos rfl]
    unfold stI
    rw [if_pos rfl, if_pos rfl]
    cases fin with
    | true =>
      rw [if_pos rfl, if_pos rfl]
      unfold finS
      rw [colsOf_at hn hr]
      exact mstep_fix _ _ _ _ _ (List.mem_of_getElem? hc)
    | false =>
      rw [if_neg Bool.false_ne_true, if_neg Bool.false_ne_true]
      unfold pfold
      rw [List.take_add_one, hc, List.foldl_append]
      rfl
  · rw [if_neg e]
    unfold stI
    rw [if_neg e, if_neg e]
theorem stI_end (hn : (rws.map (·.1)).Nodup) {i : Nat} {r : Row} (h : rws[i]? = some r) (fin : Bool) (n : Str) : stI ow rws fin i r r.2.2.length n = stP ow rws fin (i + 1) n := by
  have hr := List.mem_of_getElem? h
  have et : (rws.take (i + 1)).map (·.1) = (rws.take i).map (·.1) ++ [r.1] := by
    rw [List.take_add_one, h, List.map_append]
    rfl
  unfold stI
  by_cases e : n = r.1
  · subst e
    rw [if_pos rfl]
    have hd : stP ow rws fin (i + 1) r.1 = finS ow rws r.1 := if_pos (.inr (by rw [et]; exact List.mem_append_right _ (by simp)))
    rw [hd]
    cases fin with
    | true => rfl
    | false =>
      rw [if_neg Bool.false_ne_true, List.take_length]
      unfold finS
      rw [colsOf_at hn hr]
  · rw [if_neg e]
    unfold stP
    have : (n ∈ (rws.take (i + 1)).map (·.1)) ↔ n ∈ (rws.take i).map (·.1) := by
      rw [et, List.mem_append, List.mem_singleton]
      exact ⟨fun h => h.elim id fun z => absurd z e, .inl⟩
    simp only [this]
theorem stI_idle {pr : List (Str × Int)} (ok : BmOk rws pr ow) {i j : Nat} {r : Row} (hr : r ∈ rws) {c : Int × Int} (hc : c ∈ r.2.2) (fin : Bool) (o : Str) (ho : look ow c.1 = some o) (hne : o ≠ r.1) : (stI ow rws fin i r j o).1 = 0 := by
  obtain ⟨r2, h2, e2, _⟩ := ok.own c.1 o ho
  have hidle : finS ow rws o = (0, none) := by
    unfold finS
    rw [← e2, colsOf_at ok.nd h2]
    exact pfold_idle _ _ _ _ fun c2 hc2 => by rw [e2]; exact ok.star r hr c hc o ho hne r2 h2 e2 c2 hc2
  unfold stI
  rw [if_neg hne]
  unfold stP
  split
  · rw [hidle]
  · rfl
theorem stP_done (fin : Bool) (r : Row) (hr : r ∈ rws) : stP ow rws fin rws.length r.1 = finS ow rws r.1 := by
  unfold stP
  rw [List.take_length, if_pos (.inr (List.mem_map.mpr ⟨r, hr, rfl⟩))]
theorem stP_zero (n : Str) : stP ow rws false 0 n = (0, none) := by
  unfold stP
  rw [if_neg (by simp)]
variable {P : Program} {w : World} {K : PySem.W.Frag} {mg : Str → Option Value} {base : Heap} {f fN fP : Addr} {fd fdN fdP : FuncData}
abbrev nBm : List Str := ["rows", "pairs", "owners", "gains", "moves", "is_changed", "row", "entries", "column", "weight", "gain", "other"]
theorem scBm : FnScope nBm ["rows", "pairs", "owners"] (defScope (top 2)) := ⟨rfl, rfl, rfl, by decide +kernel, rfl, by decide +kernel, by decide +kernel⟩
def spBm : Sp := fun vs H Q _ => ∃ (rd pd od : Addr) (rws : List Row) (pr : List (Str × Int)) (ow : List (Int × Str)), vs = [.ref rd, .ref pd, .ref od] ∧ BmOk rws pr ow ∧ H rd = some (.dK (encW rws)) ∧ (∀ r ∈ rws, H r.2.1 = some (.dK (encC r.2.2)) ∧ r.2.1 ≠ rd ∧ r.2.1 ≠ pd ∧ r.2.1 ≠ od) ∧ rd ≠ pd ∧ rd ≠ od ∧
  H pd = some (.dK (encN pr)) ∧ H od = some (.dK (encI ow)) ∧ rws.length ≤ 12 ∧
  ∀ (p : Addr) (mv : List (Str × Int)) (H' : Hp), H p = none → Same H H' → H' p = some (.dK (encN mv)) → (∀ r ∈ rws, look mv r.1 = (pfold ow rws r.1 r.2.2).2) → (∀ n ∈ mv.map (·.1), n ∈ rws.map (·.1)) → Q (.ref p) H'
theorem ok_bm (F : FnP K "best_moves" (top 2) f fd) : FnOk P w K mg base CX0 1 f fd ["rows", "pairs", "owners"] spBm := by
  refine F.ok scBm (fun vs H Q E h => ?_) (fun cdv A outer s H vs Q E hr h => ?_)
  · obtain ⟨rd, pd, od, rws, pr, ow, rfl, _⟩ := h
    rfl
  · obtain ⟨rd, pd, od, rws, pr, ow, rfl, ok, er, ec, nrp, nro, ep, eo, hlen, q⟩ := h
    refine ⟨_, PSs.nox (pss_cons (ps_lock (ps_setDc (i := 3) (own := [("row", 6)]) (g := gName 6) (tt := tYes) rfl scBm.nd rfl rfl (sw_trueD rfl rfl rfl (by decide +kernel) rfl) (pi_keys (pv 0)) (blkOk_by (N := nBm) (sc := defScope (top 2)) (by decide +kernel))
          (fun _ _ _ _ _ => pg_name (i := 6) scBm.nd rfl (Or.inl rfl)) (fun _ _ _ _ _ => pts_nil) (fun _ _ _ _ _ => pv 6) (fun _ _ _ _ _ => pe_int)))
      (pss_cons (ps_set (i := 4) scBm.nd rfl (Or.inl rfl) pe_dnewK)
      (pss_cons (ps_set (i := 5) scBm.nd rfl (Or.inl rfl) pe_bl)
      (pss_cons (ps_while PassesOwn.never (pt_val (pv 5))
        (pss_cons (ps_set (i := 5) scBm.nd rfl (Or.inl rfl) pe_bl)
        (pss_one (ps_lock (ps_for PassesOwn.never rfl (pi_items (pv 0)) (pg_tup rfl (pgs_cons (pg_name (i := 6) scBm.nd rfl (.inl rfl)) (pgs_cons (pg_name (i := 7) scBm.nd rfl (.inl rfl)) pgs_nil)))
          (pss_one (ps_lock (ps_for PassesOwn.never rfl (pi_items (pv 7)) (pg_tup rfl (pgs_cons (pg_name (i := 8) scBm.nd rfl (.inl rfl)) (pgs_cons (pg_name (i := 9) scBm.nd rfl (.inl rfl)) pgs_nil)))
            (pss_cons (ps_set (i := 10) scBm.nd rfl (Or.inl rfl) (pv 9))
            (pss_cons (ps_if (pt_cmp (pc_din (hu_of hr) (pv 8) (pv 2)))
              (pss_cons (ps_set (i := 11) scBm.nd rfl (Or.inl rfl) (pe_dget (hu_of hr) (pv 2) (pv 8) (fun _ _ => rfl)))
                (pss_one (ps_aug (i := 10) scBm.nd rfl (Or.inl rfl) (pe_op op_sub (pe_dget (hu_of hr) (pv 3) (pv 11) (fun _ _ => rfl)) (pe_dget (hu_of hr) (pe_dget (hu_of hr) (pv 0) (pv 11) (fun _ _ => rfl)) (pv 8) (fun _ _ => rfl))) ip_add))) pss_nil)
            (pss_one (ps_if (PW.pt (pw_and (pt_cmpR op_gt (pv 10) (pe_dget (hu_of hr) (pv 3) (pv 6) (fun _ _ => rfl)) (nomark _)) (pw_and1 (pt_cmpR op_ne (pe_dget1 (hu_of hr) (pv 1) (pv 6) ⟨by rfl, by rfl, by rfl, by rfl⟩) (pv 8) (nomark _)))))
              (pss_cons (ps_asg (pe_tup (pa_cons (pv 10) (pa_cons (pv 8) pa_nil))) (pg_tup rfl (pgs_cons (pg_sub (pv 3) (pv 6) (set_dict (hu_of hr))) (pgs_cons (pg_sub (pv 4) (pv 6) (set_dict (hu_of hr))) pgs_nil))))
                (pss_one (ps_set (i := 5) scBm.nd rfl (Or.inl rfl) pe_bl))) pss_nil)))))))))))) 
      (pss_one (ps_ret (pv 4))))))), ?_⟩
    have kp : ∀ {H' : Hp} {x : Addr} {o : HO}, (∀ x o, x ≠ rd → H x = some o → H' x = some o) → x ≠ rd → H x = some o → H' x = some o := fun h hx e => h _ _ hx e
    -- gains
    refine ⟨rd, _, er, True.intro, fun od1 => ?_⟩
    refine ⟨_, rfl, rd, od1, rfl, .inl ⟨_, upd_same, fun gA nG => ?_⟩⟩
    have er1 : (upd H rd (.frz od1 (.dK (encW rws)))) rd = some (.frz od1 (.dK (encW rws))) := upd_same
    have nGr : gA ≠ rd := Ne.symm (ne_of_none er1 nG)
    have nG0 : H gA = none := by
      rw [upd_ne nGr] at nG
      exact nG
    refine walk_w (walk_keys (d := rd) (o := od1) (kvs := encW rws)) (fun i Hc => Same (upd H rd (.frz od1 (.dK (encW rws)))) Hc ∧ ∃ gd : List (Str × Int), Hc gA = some (.dK (encN gd)) ∧ gd.map (·.1) = (rws.take i).map (·.1) ∧ ∀ n ∈ gd.map (·.1), look gd n = some 0) ⟨same_upd nG, [], upd_same, rfl, fun n hn => nomatch hn⟩ (fun i Hc _ h => h.1 _ _ er1) (fun i x Hc Hc' hi h hy => ?_) (fun Hc h => ?_)
    · obtain ⟨sm, gd, eG, ek, hv⟩ := h
      obtain ⟨rfl, k, v, hk, rfl⟩ := hy
      rw [encW_len] at hi
      unfold encW at hk
      rw [List.getElem?_map, List.getElem?_eq_getElem hi] at hk
      injection hk with hk
      injection hk with hk1 hk2
      subst hk1
      have hgl : gd.length ≤ 12 := by
        have := congrArg List.length ek
        rw [List.length_map, List.length_map, List.length_take] at this
        omega
      have hnew : look gd rws[i].1 = none := by
        rw [look_none, ek]
        exact names_take ok.nd (List.getElem?_eq_getElem hi)
      refine ⟨rfl, _, rfl, encN gd, .inr rws[i].1, rfl, eG, by rw [encN_len]; exact small1000 (by omega), ?_, put gd rws[i].1 0, ?_, ?_, ?_⟩
      · intro x o e
        rw [upd_ne (ne_of_none e nG)]
        exact sm _ _ e
      · rw [upd_same, encN_put]
      · rw [put_new _ hnew, List.map_append, ek, List.take_add_one, List.getElem?_eq_getElem hi, List.map_append]
        rfl
      · intro n hn
        rw [look_put]
        split
        · rfl
        · rename_i hne
          rcases put_mem hn with z | z
          · exact absurd z hne
          · exact hv n z
    · obtain ⟨sm, gd, eG, ek, hv⟩ := h
      rw [encW_len, List.take_length] at ek
      refine ⟨sm _ _ er1, ?_⟩
      have s1 : Same H (upd Hc rd (.dK (encW rws))) := same_lock er sm
      have eG1 : (upd Hc rd (.dK (encW rws))) gA = some (.dK (encN gd)) := by rw [upd_ne nGr]; exact eG
      generalize hH1 : upd Hc rd (.dK (encW rws)) = H1 at s1 eG1
      -- moves
      intro mA nM
      have nM0 : H mA = none := s1.free nM
      have nMg : mA ≠ gA := Ne.symm (ne_of_none eG1 nM)
      have nMr : mA ≠ rd := Ne.symm (ne_of_none er nM0)
      have gm0 : GM rws (fun _ => (0, none)) gd [] := by
        refine ⟨fun r hr => ?_, fun r hr => rfl, by rw [ek]; exact ok.nd, List.nodup_nil, fun n hn => by rw [← ek]; exact hn, fun n hn => nomatch hn⟩
        exact hv r.1 (by rw [ek]; exact List.mem_map.mpr ⟨r, hr, rfl⟩)
      refine ⟨fun m σ H' => ∃ (fin b : Bool) (gd mv : List (Str × Int)) (y6 y7 y8 y9 y10 y11 : Option V), σ = [some (.ref rd), some (.ref pd), some (.ref od), some (.ref gA), some (.ref mA), some (.bl b), y6, y7, y8, y9, y10, y11] ∧ Same H H' ∧ H' gA = some (.dK (encN gd)) ∧ H' mA = some (.dK (encN mv)) ∧
          GM rws (stP ow rws fin 0) gd mv ∧ ((fin = false ∧ b = true ∧ m = 2) ∨ (fin = true ∧ m = 1) ∨ (fin = true ∧ b = false ∧ m = 0)),
        ⟨2, false, true, gd, [], _, _, _, _, _, _, rfl, s1.trans (same_upd nM), by rw [upd_ne (Ne.symm nMg)]; exact eG1, upd_same, gm0.congr fun r _ => (stP_zero r.1).symm, .inl ⟨rfl, rfl, rfl⟩⟩, ?_⟩
      rintro m σ H' ⟨fin, b, gd, mv, y6, y7, y8, y9, y10, y11, rfl, sm, eg, em, gm, hph⟩
      refine ⟨_, rfl, b, rfl, ?_⟩
      cases b with
      | false =>
        refine iteF ?_
        have hfin : fin = true := by
          rcases hph with ⟨_, h, _⟩ | ⟨h, _⟩ | ⟨h, _⟩
          · exact nomatch h
          · exact h
          · exact h
        subst hfin
        refine ⟨_, rfl, q mA mv H' nM0 sm em (fun r hr => ?_) gm.ms⟩
        rw [gm.m r hr]
        show (finS ow rws r.1).2 = _
        unfold finS
        rw [colsOf_at ok.nd hr]
      | true =>
        refine iteT ?_
        refine ⟨fun σ' H2 => ∃ (b : Bool) (gd mv : List (Str × Int)) (y6 y7 y8 y9 y10 y11 : Option V), σ' = [some (.ref rd), some (.ref pd), some (.ref od), some (.ref gA), some (.ref mA), some (.bl b), y6, y7, y8, y9, y10, y11] ∧ Same H H2 ∧ H2 gA = some (.dK (encN gd)) ∧ H2 mA = some (.dK (encN mv)) ∧
          GM rws (stP ow rws true 0) gd mv ∧ (fin = true → b = false), ?_, ?_⟩
        · rintro σ' H2 ⟨b, gd, mv, z6, z7, z8, z9, z10, z11, rfl, a1, a2, a3, a4, a5⟩
          rcases hph with ⟨h1, _, h3⟩ | ⟨h1, h3⟩ | ⟨_, h2, _⟩
          · exact ⟨1, by omega, true, b, gd, mv, _, _, _, _, _, _, rfl, a1, a2, a3, a4, .inr (.inl ⟨rfl, rfl⟩)⟩
          · have hb := a5 h1
            subst hb
            exact ⟨0, by omega, true, false, gd, mv, _, _, _, _, _, _, rfl, a1, a2, a3, a4, .inr (.inr ⟨rfl, rfl, rfl⟩)⟩
          · exact nomatch h2
        -- a pass
        have er' := sm _ _ er
        refine ⟨rd, _, er', True.intro, fun o2 => ?_⟩
        refine ⟨_, rfl, rd, o2, _, rfl, upd_same, ?_⟩
        have nGr' : gA ≠ rd := nGr
        refine for_it (walk_items (d := rd) (o := o2) (kvs := encW rws)) (fun i σ H2 => ∃ (b : Bool) (gd mv : List (Str × Int)) (y6 y7 y8 y9 y10 y11 : Option V), σ = [some (.ref rd), some (.ref pd), some (.ref od), some (.ref gA), some (.ref mA), some (.bl b), y6, y7, y8, y9, y10, y11] ∧ SameX rd H H2 ∧ H2 rd = some (.frz o2 (.dK (encW rws))) ∧ H2 gA = some (.dK (encN gd)) ∧ H2 mA = some (.dK (encN mv)) ∧
            GM rws (stP ow rws fin i) gd mv ∧ (fin = true → b = false))
          ⟨false, gd, mv, _, _, _, _, _, _, rfl, fun x o hx e => by rw [upd_ne hx]; exact sm _ _ e, upd_same, by rw [upd_ne nGr]; exact eg, by rw [upd_ne nMr]; exact em, gm, fun _ => rfl⟩ (fun i σ H2 _ h => ?_) (fun i x σ H2 H3 hi h hy => ?_) (fun σ H2 h => ?_)
        · obtain ⟨b, gd, mv, z6, z7, z8, z9, z10, z11, rfl, _, e, _⟩ := h
          exact e
        · obtain ⟨b, gd, mv, z6, z7, z8, z9, z10, z11, rfl, sx, er2, eg2, em2, gm2, hb2⟩ := h
          obtain ⟨T, x1, x2, rfl, nT, rfl, g1, g2⟩ := hy
          rw [encW_len] at hi
          have hv : (encW rws)[i]? = some (Sum.inr rws[i].1, V.ref rws[i].2.1) := by
            unfold encW
            rw [List.getElem?_map, List.getElem?_eq_getElem hi]
            rfl
          replace g1 : (encW rws)[i]?.map (fun kv => kV kv.1) = some x1 := g1
          replace g2 : (encW rws)[i]?.map Prod.snd = some x2 := g2
          rw [hv] at g1 g2
          have g1' : x1 = .str rws[i].1 := (Option.some.inj g1).symm
          have g2' : x2 = .ref rws[i].2.1 := (Option.some.inj g2).symm
          subst g1' g2'
          have hri : rws[i]? = some rws[i] := List.getElem?_eq_getElem hi
          generalize hrr : rws[i] = r at *
          have hrm : r ∈ rws := by rw [← hrr]; exact List.getElem_mem hi
          obtain ⟨ea, n1, n2, n3⟩ := ec r hrm
          have sT : Same H2 (upd H2 T (.tup [.str r.1, .ref r.2.1])) := same_upd nT
          generalize hH3 : upd H2 T (.tup [.str r.1, .ref r.2.1]) = H3 at sT
          have eT : H3 T = some (.tup [.str r.1, .ref r.2.1]) := by rw [← hH3]; exact upd_same
          refine ⟨T, _, rfl, SqT.of eT, rfl, _, _, rfl, _, _, rfl, rfl, ?_⟩
          have ea3 := sT _ _ (sx _ _ n1 ea)
          refine ⟨r.2.1, _, ea3, True.intro, fun o3 => ?_⟩
          refine ⟨_, rfl, r.2.1, o3, _, rfl, upd_same, ?_⟩
          have er3 := sT _ _ er2
          have eg3 := sT _ _ eg2
          have em3 := sT _ _ em2
          have nag : r.2.1 ≠ gA := ne_of_none ea nG0
          have nam : r.2.1 ≠ mA := ne_of_none ea nM0
          refine for_it (walk_items (d := r.2.1) (o := o3) (kvs := encC r.2.2)) (fun j σ H4 => ∃ (b : Bool) (gd mv : List (Str × Int)) (y8 y9 y10 y11 : Option V), σ = [some (.ref rd), some (.ref pd), some (.ref od), some (.ref gA), some (.ref mA), some (.bl b), some (.str r.1), some (.ref r.2.1), y8, y9, y10, y11] ∧ (∀ x o, x ≠ rd → x ≠ r.2.1 → H x = some o → H4 x = some o) ∧ H4 rd = some (.frz o2 (.dK (encW rws))) ∧ H4 r.2.1 = some (.frz o3 (.dK (encC r.2.2))) ∧
              H4 gA = some (.dK (encN gd)) ∧ H4 mA = some (.dK (encN mv)) ∧ GM rws (stI ow rws fin i r j) gd mv ∧ (fin = true → b = false))
            ⟨b, gd, mv, _, _, _, _, rfl, fun x o h1 h2 e => by rw [upd_ne h2]; exact sT _ _ (sx _ _ h1 e), by rw [upd_ne (Ne.symm n1)]; exact er3, upd_same, by rw [upd_ne (Ne.symm nag)]; exact eg3, by rw [upd_ne (Ne.symm nam)]; exact em3, gm2.congr fun r2 _ => stI_start ok.nd hri fin r2.1, hb2⟩
            (fun j σ H4 _ h => ?_) (fun j x σ H4 H5 hj h hy => ?_) (fun σ H4 h => ?_)
          · obtain ⟨b, gd, mv, z8, z9, z10, z11, rfl, _, _, e, _⟩ := h
            exact e
          · obtain ⟨b, gd, mv, z8, z9, z10, z11, rfl, sx4, er4, ea4, eg4, em4, gm4, hb4⟩ := h
            obtain ⟨T2, x1, x2, rfl, nT2, rfl, g1, g2⟩ := hy
            rw [encC_len] at hj
            have hv : (encC r.2.2)[j]? = some (Sum.inl r.2.2[j].1, V.int r.2.2[j].2) := by
              unfold encC
              rw [List.getElem?_map, List.getElem?_eq_getElem hj]
              rfl
            replace g1 : (encC r.2.2)[j]?.map (fun kv => kV kv.1) = some x1 := g1
            replace g2 : (encC r.2.2)[j]?.map Prod.snd = some x2 := g2
            rw [hv] at g1 g2
            have g1' : x1 = .int r.2.2[j].1 := (Option.some.inj g1).symm
            have g2' : x2 = .int r.2.2[j].2 := (Option.some.inj g2).symm
            subst g1' g2'
            have hcj : r.2.2[j]? = some r.2.2[j] := List.getElem?_eq_getElem hj
            generalize hcc : r.2.2[j] = c at *
            have hcm : c ∈ r.2.2 := by rw [← hcc]; exact List.getElem_mem hj
            have sT2 : Same H4 (upd H4 T2 (.tup [.int c.1, .int c.2])) := same_upd nT2
            generalize hH5 : upd H4 T2 (.tup [.int c.1, .int c.2]) = H5 at sT2
            have eT2 : H5 T2 = some (.tup [.int c.1, .int c.2]) := by rw [← hH5]; exact upd_same
            refine ⟨T2, _, rfl, SqT.of eT2, rfl, _, _, rfl, _, _, rfl, rfl, ?_⟩
            have bh : BmHeap H5 rd pd od rws pr ow := by
              refine ⟨.inr ⟨_, sT2 _ _ er4⟩, fun r2 h2 => ?_, .inl (sT2 _ _ (sx4 _ _ (Ne.symm nrp) (Ne.symm n2) ep)), .inl (sT2 _ _ (sx4 _ _ (Ne.symm nro) (Ne.symm n3) eo))⟩
              obtain ⟨e2, m1, m2, m3⟩ := ec r2 h2
              by_cases z : r2.2.1 = r.2.1
              · have e3 := e2
                rw [z, ea] at e3
                have e4 : encC r.2.2 = encC r2.2.2 := HO.dK.inj (Option.some.inj e3)
                right
                rw [z, ← e4]
                exact ⟨_, sT2 _ _ ea4⟩
              · exact .inl (sT2 _ _ (sx4 _ _ m1 z e2))
            refine bm_body (c := c.1) (wt := c.2) ok bh (sT2 _ _ eg4) (sT2 _ _ em4) (Ne.symm nMg) gm4 hrm hcm hlen (fun o ho hne => stI_idle ok hrm hcm fin o ho hne) fun H6 b6 w10 w11 gd6 mv6 k1 k2 k3 k4 k5 => ?_
            refine ⟨b6, gd6, mv6, _, _, _, _, rfl, fun x o h1 h2 e => k1 _ _ (ne_of_none e nG0) (ne_of_none e nM0) (sT2 _ _ (sx4 _ _ h1 h2 e)), k1 _ _ (Ne.symm nGr) (Ne.symm nMr) (sT2 _ _ er4), k1 _ _ nag nam (sT2 _ _ ea4), k2, k3, k4.congr fun r2 _ => stI_step ok.nd hrm hcj fin r2.1, fun hf => ?_⟩
            subst hf
            rcases k5 with k5 | ⟨_, k5⟩
            · rw [k5]
              exact hb4 rfl
            · refine absurd ?_ k5
              have e1 : stI ow rws true i r j r.1 = pfold ow rws r.1 r.2.2 := by
                unfold stI
                rw [if_pos rfl, if_pos rfl]
                unfold finS
                rw [colsOf_at ok.nd hrm]
              rw [e1]
              exact mstep_fix _ _ _ _ _ hcm
          · obtain ⟨b, gd, mv, z8, z9, z10, z11, rfl, sx4, er4, ea4, eg4, em4, gm4, hb4⟩ := h
            rw [encC_len] at gm4
            refine ⟨ea4, b, gd, mv, _, _, _, _, _, _, rfl, fun x o h1 e => ?_, by rw [upd_ne (Ne.symm n1)]; exact er4, by rw [upd_ne (Ne.symm nag)]; exact eg4, by rw [upd_ne (Ne.symm nam)]; exact em4, gm4.congr fun r2 _ => stI_end ok.nd hri fin r2.1, hb4⟩
            by_cases z : x = r.2.1
            · subst z
              rw [ea] at e
              cases e
              exact upd_same
            · rw [upd_ne z]
              exact sx4 _ _ h1 z e
        · obtain ⟨b, gd, mv, z6, z7, z8, z9, z10, z11, rfl, sx, er2, eg2, em2, gm2, hb2⟩ := h
          rw [encW_len] at gm2
          refine ⟨er2, b, gd, mv, _, _, _, _, _, _, rfl, fun x o e => ?_, by rw [upd_ne nGr]; exact eg2, by rw [upd_ne nMr]; exact em2, gm2.congr fun r2 h2 => ?_, hb2⟩
          · by_cases z : x = rd
            · subst z
              rw [er] at e
              cases e
              exact upd_same
            · rw [upd_ne z]
              exact sx _ _ z e
          · rw [stP_done fin r2 h2]
            rfl
end
end Kn

set_option Elab.async false
set_option linter.all false
set_option maxRecDepth 100000
set_option maxHeartbeats 4000000
/-! greatest_pairs: the mirror. -/
namespace Kn
open PySem PySem.Spec PyProof.Rows L2
section
def drp {κ α : Type} [DecidableEq κ] (kvs : List (κ × α)) (k : κ) : List (κ × α) := kvs.filter fun e => decide (e.1 ≠ k)
theorem look_drp {κ α : Type} [DecidableEq κ] (k j : κ) : ∀ kvs : List (κ × α), look (drp kvs k) j = if j = k then none else look kvs j
  | [] => by
    rw [show drp ([] : List (κ × α)) k = [] from rfl, look_nil]
    split <;> rfl
  | p :: r => by
    have ih := look_drp k j r
    unfold drp at ih ⊢
    by_cases h : p.1 = k
    · rw [List.filter_cons_of_neg (by simpa using h), ih, look_cons]
      by_cases c : j = k
      · rw [if_pos c, if_pos c]
      · rw [if_neg c, if_neg c, if_neg fun z => c (z.symm.trans h)]
    · rw [List.filter_cons_of_pos (by simpa using h), look_cons, look_cons, ih]
      by_cases c : p.1 = j
      · rw [if_pos c, if_pos c, if_neg fun z => h (c.trans z)]
      · rw [if_neg c, if_neg c]
theorem drp_nodup {κ α : Type} [DecidableEq κ] {kvs : List (κ × α)} (k : κ) (h : (kvs.map (·.1)).Nodup) : ((drp kvs k).map (·.1)).Nodup := by
  unfold drp
  exact h.sublist (List.filter_sublist.map _)
theorem drp_len {κ α : Type} [DecidableEq κ] (kvs : List (κ × α)) (k : κ) : (drp kvs k).length ≤ kvs.length := List.length_filter_le _ _
theorem encN_drp (nm : List (Str × Int)) (k : Str) : dropK (encN nm) (.inr k) = encN (drp nm k) := by
  unfold dropK encN drp
  rw [List.filter_map]
  congr 1
  refine List.filter_congr fun e _ => ?_
  show decide ((Sum.inr e.1 : Key) ≠ Sum.inr k) = decide (e.1 ≠ k)
  by_cases h : e.1 = k
  · rw [h]
    simp
  · rw [decide_eq_true h]
    exact decide_eq_true fun z => h (inr_inj _ _ z)
/-- two rows that share a column have no other -/
def Star (rws : List Row) : Prop := ∀ r ∈ rws, ∀ r2 ∈ rws, ∀ c ∈ r.2.2, ∀ c' ∈ r.2.2, ∀ c2 ∈ r2.2.2, c2.1 = c.1 → c'.1 = c.1 ∨ r2.1 = r.1
structure GInv (rws : List Row) (pr : List (Str × Int)) (ow : List (Int × Str)) : Prop where
  inv : ∀ n c, look pr n = some c ↔ look ow c = some n
  mem : ∀ n c, look pr n = some c → ∃ r ∈ rws, r.1 = n ∧ ∃ wt, (c, wt) ∈ r.2.2
  dom : ∀ r ∈ rws, ∀ c ∈ r.2.2, (∃ r2 ∈ rws, look ow c.1 = some r2.1 ∧ ∃ w2, (c.1, w2) ∈ r2.2.2 ∧ c.2 ≤ w2) ∨ ∃ c', look pr r.1 = some c'.1 ∧ c' ∈ r.2.2 ∧ c.2 ≤ c'.2
variable {rws : List Row} {pr : List (Str × Int)} {ow : List (Int × Str)}
theorem GInv.bm {rws0 : List Row} (g : GInv rws pr ow) {r0 : Row} (hn : ((rws ++ [r0]).map (·.1)).Nodup) (hc : ∀ r ∈ rws ++ [r0], (r.2.2.map (·.1)).Nodup) (st : Star (rws ++ [r0])) : BmOk (rws ++ [r0]) pr ow := by
  refine ⟨hn, hc, g.inv, fun c o h => ?_, fun r hr c hcr o ho hne r2 h2 e2 c2 hc2 => ?_⟩
  · obtain ⟨r, hr, e, wt, hw⟩ := g.mem o c ((g.inv o c).mpr h)
    exact ⟨r, List.mem_append_left _ hr, e, wt, hw⟩
  · obtain ⟨r3, h3, e3, wt, hw⟩ := g.mem o c.1 ((g.inv o c.1).mpr ho)
    have : r3 = r2 := fst_inj hn (List.mem_append_left _ h3) h2 (e3.trans e2.symm)
    subst this
    rcases st r3 h2 r hr (c.1, wt) hw c2 hc2 c hcr rfl with z | z
    · rw [z]
      exact ho
    · exact absurd (z.trans e3) (Ne.symm hne)
/-- no column of the new row is owned: it takes its best -/
theorem pfold_free {n : Str} {rws' : List Row} : ∀ (cs : List (Int × Int)) (a : Int × Option Int), (∀ c ∈ cs, look ow c.1 = none) →
    (cs.foldl (mstep ow rws' n) a = a ∧ (∀ c ∈ cs, c.2 ≤ a.1)) ∨ ∃ c ∈ cs, cs.foldl (mstep ow rws' n) a = (c.2, some c.1) ∧ a.1 < c.2 ∧ ∀ d ∈ cs, d.2 ≤ c.2
  | [], a, _ => .inl ⟨rfl, fun c hc => nomatch hc⟩
  | c :: cs, a, h => by
    have hc := h c List.mem_cons_self
    have e : mstep ow rws' n a c = if a.1 < c.2 then (c.2, some c.1) else a := by
      unfold mstep eff
      rw [hc]
    rw [List.foldl_cons, e]
    have ih := fun a => pfold_free (n := n) (rws' := rws') cs a fun d hd => h d (List.mem_cons_of_mem _ hd)
    by_cases lt : a.1 < c.2
    · rw [if_pos lt]
      rcases ih (c.2, some c.1) with ⟨h1, h2⟩ | ⟨d, hd, h1, h2, h3⟩
      · refine .inr ⟨c, List.mem_cons_self, h1, lt, fun d hd => ?_⟩
        rcases List.mem_cons.mp hd with rfl | hd
        · exact Int.le_refl _
        · exact h2 d hd
      · refine .inr ⟨d, List.mem_cons_of_mem _ hd, h1, Int.lt_trans lt h2, fun x hx => ?_⟩
        rcases List.mem_cons.mp hx with rfl | hx
        · exact Int.le_of_lt h2
        · exact h3 x hx
    · rw [if_neg lt]
      rcases ih a with ⟨h1, h2⟩ | ⟨d, hd, h1, h2, h3⟩
      · refine .inl ⟨h1, fun d hd => ?_⟩
        rcases List.mem_cons.mp hd with rfl | hd
        · exact Int.not_lt.mp lt
        · exact h2 d hd
      · refine .inr ⟨d, List.mem_cons_of_mem _ hd, h1, h2, fun x hx => ?_⟩
        rcases List.mem_cons.mp hx with rfl | hx
        · exact Int.le_trans (Int.not_lt.mp lt) (Int.le_of_lt h2)
        · exact h3 x hx
/-- what becomes of a new row -/
inductive Goes (rws : List Row) (r0 : Row) (pr : List (Str × Int)) (ow : List (Int × Str)) : Prop
  | free (c : Int × Int) (hc : c ∈ r0.2.2) (hm : (pfold ow (rws ++ [r0]) r0.1 r0.2.2).2 = some c.1) (ho : look ow c.1 = none) (g : GInv (rws ++ [r0]) (put pr r0.1 c.1) (put ow c.1 r0.1))
  | stays (hm : (pfold ow (rws ++ [r0]) r0.1 r0.2.2).2 = none) (g : GInv (rws ++ [r0]) pr ow)
  | takes (c : Int × Int) (r2 : Row) (h2 : r2 ∈ rws) (hm : (pfold ow (rws ++ [r0]) r0.1 r0.2.2).2 = some c.1) (ho : look ow c.1 = some r2.1) (hi : (pfold ow (rws ++ [r0]) r2.1 r2.2.2).2 = none)
      (g : GInv (rws ++ [r0]) (drp (put pr r0.1 c.1) r2.1) (put ow c.1 r0.1))
theorem GInv.goes (g : GInv rws pr ow) {r0 : Row} (hn : ((rws ++ [r0]).map (·.1)).Nodup) (hc : ∀ r ∈ rws ++ [r0], (r.2.2.map (·.1)).Nodup) (hne : r0.2.2 ≠ []) (hp : ∀ r ∈ rws ++ [r0], ∀ c ∈ r.2.2, 0 < c.2) (st : Star (rws ++ [r0])) :
    Goes rws r0 pr ow ∧ look pr r0.1 = none := by
  have h0 : r0 ∈ rws ++ [r0] := List.mem_append_right _ (by simp)
  have hin : ∀ r, r ∈ rws → r ∈ rws ++ [r0] := fun r h => List.mem_append_left _ h
  have n0 : r0.1 ∉ rws.map (·.1) := by
    rw [List.map_append, List.nodup_append] at hn
    exact fun h => hn.2.2 _ h _ (by simp) rfl
  have hne0 : ∀ r ∈ rws, r.1 ≠ r0.1 := fun r hr z => n0 (z ▸ List.mem_map.mpr ⟨r, hr, rfl⟩)
  have pr0 : look pr r0.1 = none := by
    cases e : look pr r0.1 with
    | none => rfl
    | some c =>
      obtain ⟨r, hr, e2, _⟩ := g.mem _ _ e
      exact absurd e2 (hne0 r hr)
  have ow0 : ∀ c, look ow c ≠ some r0.1 := fun c z => by
    rw [(g.inv _ _).mpr z] at pr0
    exact nomatch pr0
  refine ⟨?_, pr0⟩
  by_cases hfree : ∀ c ∈ r0.2.2, look ow c.1 = none
  · -- free
    rcases pfold_free (n := r0.1) (rws' := rws ++ [r0]) r0.2.2 (0, none) hfree with ⟨_, h2⟩ | ⟨c, hcm, h1, h2, h3⟩
    · obtain ⟨c, cs, e⟩ := List.exists_cons_of_ne_nil hne
      have hcm : c ∈ r0.2.2 := by rw [e]; exact List.mem_cons_self
      have := h2 c hcm
      have := hp r0 h0 c hcm
      omega
    · refine .free c hcm (by unfold pfold; rw [h1]) (hfree c hcm) ⟨fun n k => ?_, fun n k h => ?_, fun r hr d hd => ?_⟩
      · rw [look_put, look_put]
        by_cases e1 : n = r0.1
        · subst e1
          rw [if_pos rfl]
          by_cases e2 : k = c.1
          · rw [if_pos e2, e2]
            simp
          · rw [if_neg e2]
            exact ⟨fun z => absurd (Option.some.inj z).symm e2, fun z => absurd z (ow0 k)⟩
        · rw [if_neg e1]
          by_cases e2 : k = c.1
          · rw [if_pos e2]
            refine ⟨fun z => ?_, fun z => absurd (Option.some.inj z).symm e1⟩
            have := (g.inv n k).mp z
            rw [e2, hfree c hcm] at this
            exact nomatch this
          · rw [if_neg e2]
            exact g.inv n k
      · rw [look_put] at h
        by_cases e1 : n = r0.1
        · rw [if_pos e1] at h
          exact ⟨r0, h0, e1.symm, c.2, by rw [← Option.some.inj h]; exact hcm⟩
        · rw [if_neg e1] at h
          obtain ⟨r, hr, e⟩ := g.mem n k h
          exact ⟨r, hin r hr, e⟩
      · rcases List.mem_append.mp hr with hr | hr
        · rcases g.dom r hr d hd with ⟨r2, h2, h4, h5⟩ | ⟨c', h4, h5⟩
          · refine .inl ⟨r2, hin r2 h2, ?_, h5⟩
            rw [look_put, if_neg fun z => by rw [z, hfree c hcm] at h4; exact nomatch h4]
            exact h4
          · refine .inr ⟨c', ?_, h5⟩
            rw [look_put, if_neg (hne0 r hr)]
            exact h4
        · have e := List.mem_singleton.mp hr
          subst e
          exact .inr ⟨c, by rw [look_put, if_pos rfl], hcm, h3 d hd⟩
  · -- an owned column: the row has no other
    obtain ⟨c, hcm, hco⟩ : ∃ c ∈ r0.2.2, look ow c.1 ≠ none := Classical.byContradiction fun z => hfree fun c hc => Classical.byContradiction fun y => z ⟨c, hc, y⟩
    obtain ⟨o, ho⟩ := Option.ne_none_iff_exists'.mp hco
    obtain ⟨r2, h2, e2, w2, hw2⟩ := g.mem o c.1 ((g.inv o c.1).mpr ho)
    subst e2
    have one : ∀ d ∈ r0.2.2, d = c := fun d hd => by
      rcases st r0 h0 r2 (hin r2 h2) c hcm d hd (c.1, w2) hw2 rfl with z | z
      · exact fst_inj (hc r0 h0) hd hcm z
      · exact absurd z (hne0 r2 h2)
    have one2 : ∀ d ∈ r2.2.2, d = (c.1, w2) := fun d hd => by
      rcases st r2 (hin r2 h2) r0 h0 (c.1, w2) hw2 d hd c hcm rfl with z | z
      · exact fst_inj (hc r2 (hin r2 h2)) hd hw2 z
      · exact absurd z.symm (hne0 r2 h2)
    have esing : r0.2.2 = [c] := by
      match h : r0.2.2, hne, hc r0 h0, one with
      | [d], _, _, h5 => rw [h5 d (by simp)]
      | d :: d2 :: t, _, h4, h5 =>
        have a1 := h5 d (by simp)
        have a2 := h5 d2 (by simp)
        rw [a1, a2, List.map_cons, List.map_cons, List.nodup_cons] at h4
        exact absurd List.mem_cons_self h4.1
    have ew : wOf (rws ++ [r0]) r2.1 c.1 = w2 := wOf_at hn (hc r2 (hin r2 h2)) (hin r2 h2) hw2
    have ef : pfold ow (rws ++ [r0]) r0.1 r0.2.2 = if 0 < c.2 - w2 then (c.2 - w2, some c.1) else (0, none) := by
      rw [esing]
      show mstep ow (rws ++ [r0]) r0.1 (0, none) c = _
      unfold mstep eff
      rw [ho]
      show (match (if r2.1 = r0.1 then none else some (c.2 - wOf (rws ++ [r0]) r2.1 c.1)) with | none => ((0 : Int), (none : Option Int)) | some g => if (0 : Int) < g then (g, some c.1) else (0, none)) = _
      rw [if_neg (hne0 r2 h2), ew]
    by_cases lt : 0 < c.2 - w2
    · refine .takes c r2 h2 (by rw [ef, if_pos lt]) ho ?_ ⟨fun n k => ?_, fun n k h => ?_, fun r hr d hd => ?_⟩
      · rw [pfold_idle _ _ _ _ fun d hd => by rw [one2 d hd]; exact ho]
      · rw [look_drp, look_put, look_put]
        by_cases e1 : n = r2.1
        · rw [if_pos e1, e1]
          by_cases e2 : k = c.1
          · rw [if_pos e2]
            exact ⟨fun z => (nomatch z), fun z => absurd (Option.some.inj z).symm (hne0 r2 h2)⟩
          · rw [if_neg e2]
            refine ⟨fun z => (nomatch z), fun z => ?_⟩
            have a1 := (g.inv r2.1 k).mpr z
            have a2 := (g.inv r2.1 c.1).mpr ho
            rw [a1] at a2
            exact absurd (Option.some.inj a2) e2
        · rw [if_neg e1]
          by_cases e3 : n = r0.1
          · subst e3
            rw [if_pos rfl]
            by_cases e2 : k = c.1
            · rw [if_pos e2, e2]
              simp
            · rw [if_neg e2]
              exact ⟨fun z => absurd (Option.some.inj z).symm e2, fun z => absurd z (ow0 k)⟩
          · rw [if_neg e3]
            by_cases e2 : k = c.1
            · rw [if_pos e2]
              refine ⟨fun z => ?_, fun z => absurd (Option.some.inj z).symm e3⟩
              have := (g.inv n k).mp z
              rw [e2, ho] at this
              exact absurd (Option.some.inj this).symm e1
            · rw [if_neg e2]
              exact g.inv n k
      · rw [look_drp, look_put] at h
        by_cases e1 : n = r2.1
        · rw [if_pos e1] at h
          exact nomatch h
        · rw [if_neg e1] at h
          by_cases e3 : n = r0.1
          · rw [if_pos e3] at h
            exact ⟨r0, h0, e3.symm, c.2, by rw [← Option.some.inj h]; exact hcm⟩
          · rw [if_neg e3] at h
            obtain ⟨r, hr, e⟩ := g.mem n k h
            exact ⟨r, hin r hr, e⟩
      · have new : ∀ d : Int × Int, d.1 = c.1 → d.2 ≤ c.2 → ∃ r2 ∈ rws ++ [r0], look (put ow c.1 r0.1) d.1 = some r2.1 ∧ ∃ w2, (d.1, w2) ∈ r2.2.2 ∧ d.2 ≤ w2 := fun d e1 e2 => ⟨r0, h0, by rw [look_put, if_pos e1], c.2, by rw [e1]; exact hcm, e2⟩
        rcases List.mem_append.mp hr with hr | hr
        · rcases g.dom r hr d hd with ⟨r3, h3, h4, w3, h5, h6⟩ | ⟨c', h4, h5, h6⟩
          · by_cases e1 : d.1 = c.1
            · rw [e1, ho] at h4
              have e4 : r3 = r2 := fst_inj hn (hin r3 h3) (hin r2 h2) (Option.some.inj h4).symm
              rw [e4] at h5
              have e5 := one2 _ h5
              injection e5 with _ e6
              exact .inl (new d e1 (by omega))
            · refine .inl ⟨r3, hin r3 h3, ?_, w3, h5, h6⟩
              rw [look_put, if_neg e1]
              exact h4
          · by_cases e1 : r.1 = r2.1
            · have e4 : r = r2 := fst_inj hn (hin r hr) (hin r2 h2) e1
              rw [e4] at hd
              have e5 := one2 d hd
              rw [e5]
              exact .inl (new (c.1, w2) rfl (show w2 ≤ c.2 by omega))
            · refine .inr ⟨c', ?_, h5, h6⟩
              rw [look_drp, if_neg e1, look_put, if_neg (hne0 r hr)]
              exact h4
        · have e := List.mem_singleton.mp hr
          rw [e] at hd
          rw [one d hd]
          exact .inl (new c rfl (Int.le_refl _))
    · refine .stays (by rw [ef, if_neg lt]) ⟨g.inv, fun n k h => ?_, fun r hr d hd => ?_⟩
      · obtain ⟨r, hr, e⟩ := g.mem n k h
        exact ⟨r, hin r hr, e⟩
      · rcases List.mem_append.mp hr with hr | hr
        · rcases g.dom r hr d hd with ⟨r3, h3, h4⟩ | h4
          · exact .inl ⟨r3, hin r3 h3, h4⟩
          · exact .inr h4
        · have e := List.mem_singleton.mp hr
          rw [e] at hd
          rw [one d hd]
          exact .inl ⟨r2, hin r2 h2, ho, w2, hw2, by omega⟩
end
end Kn

set_option Elab.async false
set_option linter.all false
set_option maxRecDepth 100000
set_option maxHeartbeats 4000000
/-! greatest_pairs. -/
namespace Kn
open PySem PySem.Spec PyProof.Rows L2
section
variable {P : Program} {w : World} {K : PySem.W.Frag} {mg : Str → Option Value} {base : Heap} {f fR fM : Addr} {fd fdR fdM : FuncData}
/-- two entries of one place or one name -/
def StarT (ex : Tab) : Prop := ∀ n p p' n' w1 w2 w3, ((n, p), w1) ∈ ex → ((n, p'), w2) ∈ ex → ((n', p), w3) ∈ ex → p' = p ∨ n' = n
structure GPairs (ex : Tab) (pr : List (Str × Int)) : Prop where
  nd : (pr.map (·.1)).Nodup
  inj : ∀ n n' c, look pr n = some c → look pr n' = some c → n = n'
  mem : ∀ n c, look pr n = some c → ∃ wt, ((n, c), wt) ∈ ex
  dom : ∀ n c wt, ((n, c), wt) ∈ ex → (∃ o w2, look pr o = some c ∧ ((o, c), w2) ∈ ex ∧ wt ≤ w2) ∨ ∃ c' w', look pr n = some c' ∧ ((n, c'), w') ∈ ex ∧ wt ≤ w'
theorem star_rows {ex : Tab} {rws : List Row} (ok : RowsOk ex rws) (st : StarT ex) : Star rws := fun r hr r2 h2 c hc c' hc' c2 hc2 e => by
  have h1 := (ok.mem r.1 c.1 c.2).mpr ⟨r, hr, rfl, hc⟩
  have h3 := (ok.mem r.1 c'.1 c'.2).mpr ⟨r, hr, rfl, hc'⟩
  have h4 := (ok.mem r2.1 c2.1 c2.2).mpr ⟨r2, h2, rfl, hc2⟩
  rw [e] at h4
  exact st r.1 c.1 c'.1 r2.1 _ _ _ h1 h3 h4
theorem gpairs_of {ex : Tab} {rws : List Row} {pr : List (Str × Int)} {ow : List (Int × Str)} (ok : RowsOk ex rws) (g : GInv rws pr ow) (nd : (pr.map (·.1)).Nodup) : GPairs ex pr := by
  refine ⟨nd, fun n n' c h1 h2 => ?_, fun n c h => ?_, fun n c wt h => ?_⟩
  · have a1 := (g.inv n c).mp h1
    have a2 := (g.inv n' c).mp h2
    rw [a1] at a2
    exact Option.some.inj a2
  · obtain ⟨r, hr, e, wt, hw⟩ := g.mem n c h
    exact ⟨wt, (ok.mem n c wt).mpr ⟨r, hr, e, hw⟩⟩
  · obtain ⟨r, hr, e, hw⟩ := (ok.mem n c wt).mp h
    rcases g.dom r hr (c, wt) hw with ⟨r2, h2, h3, w2, h4, h5⟩ | ⟨c', h3, h4, h5⟩
    · exact .inl ⟨r2.1, w2, (g.inv r2.1 c).mpr h3, (ok.mem r2.1 c w2).mpr ⟨r2, h2, rfl, h4⟩, h5⟩
    · exact .inr ⟨c'.1, c'.2, by rw [← e]; exact h3, (ok.mem n c'.1 c'.2).mpr ⟨r, hr, e, h4⟩, h5⟩
def tWB (K : PySem.W.Frag) : TS := tSeq (tAsg (tDGet (tVar 7) (tVar 8)) (gName 9)) (tSeq (tAsg (tDGet1 (tVar 4) (tVar 9)) (gName 10))
  (tSeq (tAsg (tTup (tCons (tVar 9) (tCons (tVar 8) tNil))) (gTup K 2 (gCons (gSub (tVar 3) (tVar 8) rSetD) (gCons (gSub (tVar 4) (tVar 9) rSetD) gNil)))) (tAsg (tVar 10) (gName 8))))
theorem gp_body {D : Ends} {H : Hp} {a0 a1 rd pd od mA : Addr} {y5 y6 y9 y10 : Option V} {n : Str} {c : Int} {pr mv : List (Str × Int)} {ow : List (Int × Str)} (ep : H pd = some (.dK (encN pr))) (eo : H od = some (.dK (encI ow))) (em : H mA = some (.dK (encN mv))) (npo : pd ≠ od)
    (lp : pr.length ≤ 12) (lo : ow.length ≤ 12) (hm : look mv n = some c)
    (q : ∀ (T : Addr) (H' : Hp), H T = none → (∀ x, x ≠ T → x ≠ pd → x ≠ od → H' x = H x) → H' pd = some (.dK (encN (put pr n c))) → H' od = some (.dK (encI (put ow c n))) →
      D.nx [some (.ref a0), some (.ref a1), some (.ref rd), some (.ref pd), some (.ref od), y5, y6, some (.ref mA), some (((look ow c).map V.str).getD .non), some (.int c), some (((look ow c).map V.str).getD .non)] H') :
    tWB K D [some (.ref a0), some (.ref a1), some (.ref rd), some (.ref pd), some (.ref od), y5, y6, some (.ref mA), some (.str n), y9, y10] H := by
  refine ⟨_, rfl, _, rfl, mA, .int c, rfl, .inl ⟨encN mv, .inr n, .inl em, rfl, by rw [encN_val, hm]; rfl⟩, ?_⟩
  refine ⟨_, rfl, od, rfl, .inl ⟨_, .inl eo⟩, _, rfl, (look ow c).map V.str, .inl ⟨encI ow, .inl c, .inl eo, rfl, (encI_val _ _).symm⟩, ?_⟩
  refine ⟨_, rfl, _, rfl, (show 2 ≤ sizeLine by decide), fun T nT => ?_⟩
  have s1 : Same H (upd H T (.tup [.int c, .str n])) := same_upd nT
  refine ⟨T, _, rfl, SqT.of upd_same, rfl, _, _, rfl, ?_⟩
  refine ⟨_, rfl, _, rfl, pd, _, rfl, DPut.k (k := Sum.inr n) (s1 _ _ ep) (by rw [encN_len]; exact small1000 (by omega)), _, _, rfl, ?_⟩
  have eo2 : (upd (upd H T (.tup [.int c, .str n])) pd (.dK (putK (encN pr) (Sum.inr n) (.int c)))) od = some (.dK (encI ow)) := by
    rw [upd_ne (Ne.symm npo)]
    exact s1 _ _ eo
  refine ⟨_, rfl, _, rfl, od, _, rfl, DPut.k (k := Sum.inl c) eo2 (by unfold encI; rw [List.length_map]; exact small1000 (by omega)), rfl, _, rfl, ?_⟩
  refine q T _ nT (fun x h1 h2 h3 => ?_) ?_ ?_
  · rw [upd_ne h3, upd_ne h2, upd_ne h1]
  · rw [upd_ne npo, upd_same, encN_put]
  · rw [upd_same, encI_put]
abbrev nGp : List Str := ["entries", "every", "rows", "pairs", "owners", "first", "own", "moves", "row", "column", "other"]
theorem scGp : FnScope nGp ["entries"] (defScope (top 3)) := ⟨rfl, rfl, rfl, by decide +kernel, rfl, by decide +kernel, by decide +kernel⟩
theorem bindsRe (F : FnP K "row_entries" (top 1) f fd) : Binds K fd ["entries"] [] := FunD.bindsN F fun _ _ _ _ _ _ us hl => match us, hl with | [_], _ => rfl
theorem bindsBm (F : FnP K "best_moves" (top 2) f fd) : Binds K fd ["rows", "pairs", "owners"] [] := FunD.bindsN F fun _ _ _ _ _ _ us hl => match us, hl with | [_, _, _], _ => rfl
def spGp : Sp := fun vs H Q _ => ∃ (d : Addr) (ex : Tab), vs = [.ref d] ∧ H d = some (.dT (encT ex)) ∧ (ex.map (·.1)).Nodup ∧ ex.length ≤ 12 ∧ (∀ e ∈ ex, 0 < e.2) ∧ StarT ex ∧
  ∀ (p : Addr) (pr : List (Str × Int)) (H' : Hp), H p = none → Same H H' → GPairs ex pr → pr.length ≤ 12 → H' p = some (.dK (encN pr)) → Q (.ref p) H'
theorem ok_gp (F : FnP K "greatest_pairs" (top 3) f fd) (FR : FnP K "row_entries" (top 1) fR fdR) (FM : FnP K "best_moves" (top 2) fM fdM) (gR : mg "row_entries" = some (.ref fR)) (gM : mg "best_moves" = some (.ref fM)) (gS : mg "sorted" = none) : FnOk P w K mg base CX0 2 f fd ["entries"] spGp := by
  have GR : FnOk P w K mg base CX0 1 fR fdR ["entries"] spRe := ok_re FR gS
  have GM' : FnOk P w K mg base CX0 1 fM fdM ["rows", "pairs", "owners"] spBm := ok_bm FM
  refine F.ok scGp (fun vs H Q E h => ?_) (fun cdv A outer s H vs Q E hr h => ?_)
  · obtain ⟨d, ex, rfl, _⟩ := h
    rfl
  · obtain ⟨d, ex, rfl, ed, hnd, hlen, hpos, hst, q⟩ := h
    refine ⟨_, PSs.nox (pss_cons (ps_set (i := 1) scGp.nd rfl (Or.inl rfl) (pe_call GR hr (by rfl) gR FR.kp (bindsRe FR) .nil pass0 (pa_cons (pv 0) pa_nil)))
      (pss_cons (ps_par3 (i := 2) (j := 3) (l := 4) rfl scGp.nd rfl rfl rfl (by decide) (by decide) (by decide) rfl rfl rfl (pa_cons pe_dnewK (pa_cons pe_dnewK (pa_cons pe_dnewK pa_nil))) (by rfl))
      (pss_cons (ps_lock (ps_for PassesOwn.never rfl (pi_items (pv 1)) (pg_tup rfl (pgs_cons (pg_name (i := 5) scGp.nd rfl (.inl rfl)) (pgs_cons (pg_name (i := 6) scGp.nd rfl (.inl rfl)) pgs_nil)))
        (pss_cons (ps_dput (hu_of hr) (pv 2) (pv 5) (pv 6) rfl)
        (pss_cons (ps_set (i := 7) scGp.nd rfl (Or.inl rfl) (pe_call GM' hr (by rfl) gM FM.kp (bindsBm FM) .nil pass0 (pa_cons (pv 2) (pa_cons (pv 3) (pa_cons (pv 4) pa_nil)))))
        (pss_cons (ps_set (i := 8) scGp.nd rfl (Or.inl rfl) (pv 5))
        (pss_cons (ps_while PassesOwn.never (pt_cmp (pc_dinN (hu_of hr) (pv 8) (pv 7)))
          (pss_cons (ps_set (i := 9) scGp.nd rfl (Or.inl rfl) (pe_dget (hu_of hr) (pv 7) (pv 8) (fun _ _ => rfl)))
          (pss_cons (ps_set (i := 10) scGp.nd rfl (Or.inl rfl) (pe_dget1 (hu_of hr) (pv 4) (pv 9) ⟨by rfl, by rfl, by rfl, by rfl⟩))
          (pss_cons (ps_asg (pe_tup (pa_cons (pv 9) (pa_cons (pv 8) pa_nil))) (pg_tup rfl (pgs_cons (pg_sub (pv 3) (pv 8) (set_dict (hu_of hr))) (pgs_cons (pg_sub (pv 4) (pv 9) (set_dict (hu_of hr))) pgs_nil))))
          (pss_one (ps_set (i := 8) scGp.nd rfl (Or.inl rfl) (pv 10)))))))
        (pss_one (ps_expr (pe_dpopN (pv 3) (pv 8) pe_non ⟨by rfl, by rfl, by rfl, by rfl⟩)))))))))
      (pss_one (ps_ret (pv 3)))))), ?_⟩
    refine ⟨_, rfl, d, ex, rfl, ed, hnd, hlen, fun ev rws H1 nev s1 rok rl12 rat eev => ?_⟩
    intro rd nrd pd npd od nod
    refine ⟨_, _, _, rfl, ?_⟩
    have a1 : Same H1 (upd H1 rd (.dK [])) := same_upd nrd
    have a2 : Same (upd H1 rd (.dK [])) (upd (upd H1 rd (.dK [])) pd (.dK [])) := same_upd npd
    have a3 : Same (upd (upd H1 rd (.dK [])) pd (.dK [])) (upd (upd (upd H1 rd (.dK [])) pd (.dK [])) od (.dK [])) := same_upd nod
    have npd1 : H1 pd = none := a1.free npd
    have nod1 : H1 od = none := (a1.trans a2).free nod
    have nrp : rd ≠ pd := fun c => by
      rw [← c, upd_same] at npd
      exact nomatch npd
    have npo : pd ≠ od := fun c => by
      rw [← c, upd_same] at nod
      exact nomatch nod
    have nro : rd ≠ od := fun c => by
      rw [← c, upd_ne nrp, upd_same] at nod
      exact nomatch nod
    have nre : rd ≠ ev := Ne.symm (ne_of_none eev nrd)
    have npe : pd ≠ ev := Ne.symm (ne_of_none eev npd1)
    have noe : od ≠ ev := Ne.symm (ne_of_none eev nod1)
    generalize hH2 : upd (upd (upd H1 rd (.dK [])) pd (.dK [])) od (.dK []) = H2 at a3
    have s12 : Same H1 H2 := (a1.trans a2).trans a3
    have er2 : H2 rd = some (.dK []) := by rw [← hH2, upd_ne nro, upd_ne nrp, upd_same]
    have ep2 : H2 pd = some (.dK []) := by rw [← hH2, upd_ne npo, upd_same]
    have eo2 : H2 od = some (.dK []) := by rw [← hH2, upd_same]
    have hstr := star_rows rok hst
    have wpos : ∀ r ∈ rws, ∀ c ∈ r.2.2, 0 < c.2 := fun r hr c hc => hpos _ ((rok.mem r.1 c.1 c.2).mpr ⟨r, hr, rfl, hc⟩)
    refine ⟨ev, _, s12 _ _ eev, True.intro, fun oe => ?_⟩
    refine ⟨_, rfl, ev, oe, _, rfl, upd_same, ?_⟩
    refine for_it (walk_items (d := ev) (o := oe) (kvs := encW rws)) (fun i σ H' => ∃ (pr : List (Str × Int)) (ow : List (Int × Str)) (y5 y6 y7 y8 y9 y10 : Option V), σ = [some (.ref d), some (.ref ev), some (.ref rd), some (.ref pd), some (.ref od), y5, y6, y7, y8, y9, y10] ∧ SameX ev H1 H' ∧ H' ev = some (.frz oe (.dK (encW rws))) ∧
        H' rd = some (.dK (encW (rws.take i))) ∧ H' pd = some (.dK (encN pr)) ∧ H' od = some (.dK (encI ow)) ∧ GInv (rws.take i) pr ow ∧ (pr.map (·.1)).Nodup ∧ pr.length ≤ i ∧ ow.length ≤ i)
      ⟨[], [], _, _, _, _, _, _, rfl, fun x o hx e => by rw [upd_ne hx]; exact s12 _ _ e, upd_same, by rw [upd_ne nre]; exact er2, by rw [upd_ne npe]; exact ep2, by rw [upd_ne noe]; exact eo2,
        ⟨fun n c => ⟨fun h => (nomatch h), fun h => (nomatch h)⟩, fun n c h => (nomatch h), fun r hr => (nomatch hr)⟩, List.nodup_nil, Nat.zero_le _, Nat.zero_le _⟩
      (fun i σ H' _ h => ?_) (fun i x σ H' H3 hi h hy => ?_) (fun σ H' h => ?_)
    · obtain ⟨pr, ow, y5, y6, y7, y8, y9, y10, rfl, _, e, _⟩ := h
      exact e
    · obtain ⟨pr, ow, y5, y6, y7, y8, y9, y10, rfl, sx, ee, er, ep, eo, g, pnd, pl, ol⟩ := h
      obtain ⟨T, x1, x2, rfl, nT, rfl, g1, g2⟩ := hy
      rw [encW_len] at hi
      have hv : (encW rws)[i]? = some (Sum.inr rws[i].1, V.ref rws[i].2.1) := by
        unfold encW
        rw [List.getElem?_map, List.getElem?_eq_getElem hi]
        rfl
      replace g1 : (encW rws)[i]?.map (fun kv => kV kv.1) = some x1 := g1
      replace g2 : (encW rws)[i]?.map Prod.snd = some x2 := g2
      rw [hv] at g1 g2
      have g1' : x1 = .str rws[i].1 := (Option.some.inj g1).symm
      have g2' : x2 = .ref rws[i].2.1 := (Option.some.inj g2).symm
      subst g1' g2'
      have hri : rws[i]? = some rws[i] := List.getElem?_eq_getElem hi
      have etk : rws.take (i + 1) = rws.take i ++ [rws[i]] := by
        rw [List.take_add_one, hri]
        rfl
      generalize hrr : rws[i] = r at *
      have hrm : r ∈ rws := by rw [← hrr]; exact List.getElem_mem hi
      have sT : Same H' (upd H' T (.tup [.str r.1, .ref r.2.1])) := same_upd nT
      generalize hH3 : upd H' T (.tup [.str r.1, .ref r.2.1]) = H3 at sT
      have eT : H3 T = some (.tup [.str r.1, .ref r.2.1]) := by rw [← hH3]; exact upd_same
      refine ⟨T, _, rfl, SqT.of eT, rfl, _, _, rfl, _, _, rfl, rfl, ?_⟩
      have hsub : ∀ r2, r2 ∈ rws.take (i + 1) → r2 ∈ rws := fun r2 h2 => List.mem_of_mem_take h2
      have tnd : ((rws.take (i + 1)).map (·.1)).Nodup := rok.nd.sublist ((List.take_sublist _ _).map _)
      have hnew : look (rws.take i) r.1 = none := look_none.mpr (names_take rok.nd hri)
      -- rows[first] = own
      refine ⟨_, rfl, _, rfl, _, rfl, rd, _, rfl, DPut.k (k := Sum.inr r.1) (sT _ _ er) (by rw [encW_len, List.length_take]; exact small1000 (by omega)), ?_⟩
      have ept : putK (encW (rws.take i)) (Sum.inr r.1) (.ref r.2.1) = encW (rws.take (i + 1)) := by
        have := encW_put (rws.take i) r.1 r.2
        rw [put_new _ hnew, ← etk] at this
        exact this
      rw [ept]
      generalize hH4 : upd H3 rd (.dK (encW (rws.take (i + 1)))) = H4
      have er4 : H4 rd = some (.dK (encW (rws.take (i + 1)))) := by rw [← hH4]; exact upd_same
      have k4 : ∀ {x : Addr} {o : HO}, x ≠ rd → H' x = some o → H4 x = some o := fun {x o} hx e => by
        rw [← hH4, upd_ne hx]
        exact sT _ _ e
      have ep4 := k4 (Ne.symm nrp) ep
      have eo4 := k4 (Ne.symm nro) eo
      have ee4 := k4 (Ne.symm nre) ee
      have sx4 : SameX ev H1 H4 := fun x o hx e => k4 (ne_of_none e nrd) (sx _ _ hx e)
      obtain ⟨go, pr0⟩ := g.goes (r0 := r) (by rw [← etk]; exact tnd) (fun r2 h2 => rok.cn r2 (hsub r2 (by rw [etk]; exact h2))) (rok.ne r hrm) (fun r2 h2 => wpos r2 (hsub r2 (by rw [etk]; exact h2)))
        (fun r2 h2 r3 h3 => hstr r2 (hsub r2 (by rw [etk]; exact h2)) r3 (hsub r3 (by rw [etk]; exact h3)))
      have bmo : BmOk (rws.take (i + 1)) pr ow := by
        rw [etk]
        exact g.bm (rws0 := []) (by rw [← etk]; exact tnd) (fun r2 h2 => rok.cn r2 (hsub r2 (by rw [etk]; exact h2))) (fun r2 h2 r3 h3 => hstr r2 (hsub r2 (by rw [etk]; exact h2)) r3 (hsub r3 (by rw [etk]; exact h3)))
      refine ⟨_, rfl, _, rfl, _, rfl, rd, pd, od, rws.take (i + 1), pr, ow, rfl, bmo, er4, fun r2 h2 => ?_, nrp, nro, ep4, eo4, by rw [List.length_take]; omega, fun mA mv H5 nmA s5 em hmv hms => ?_⟩
      · obtain ⟨_, b2, _, b4⟩ := rat r2 (hsub r2 h2)
        exact ⟨sx4 _ _ b2 b4, ne_of_none b4 nrd, ne_of_none b4 npd1, ne_of_none b4 nod1⟩
      have hrt : r ∈ rws.take (i + 1) := by rw [etk]; exact List.mem_append_right _ (by simp)
      have hmr := hmv r hrt
      rw [etk] at hmr
      have nmp : mA ≠ pd := Ne.symm (ne_of_none ep4 nmA)
      have nmo : mA ≠ od := Ne.symm (ne_of_none eo4 nmA)
      have er5 := s5 _ _ er4
      have ep5 := s5 _ _ ep4
      have eo5 := s5 _ _ eo4
      have ee5 := s5 _ _ ee4
      have sx5 : SameX ev H1 H5 := fun x o hx e => s5 _ _ (sx4 _ _ hx e)
      refine ⟨_, rfl, ?_⟩
      cases go with
      | stays hm g' =>
        rw [hm] at hmr
        refine ⟨fun m σ H6 => σ = [some (.ref d), some (.ref ev), some (.ref rd), some (.ref pd), some (.ref od), some (.str r.1), some (.ref r.2.1), some (.ref mA), some (.str r.1), y9, y10] ∧ H6 = H5, ⟨0, rfl, rfl⟩, ?_⟩
        rintro m σ H6 ⟨rfl, rfl⟩
        refine ⟨_, rfl, _, rfl, .inl ⟨mA, _, rfl, DGet.k (k := Sum.inr r.1) em, _, rfl, ?_⟩⟩
        rw [encN_val, hmr]
        refine iteF ?_
        refine ⟨_, rfl, pd, rfl, .inl ⟨_, .inl ep5⟩, _, rfl, encN pr, ep5, .inl ⟨.inr r.1, rfl, fun v hv => ?_, fun _ => ?_⟩⟩
        · rw [encN_val, pr0] at hv
          exact nomatch hv
        · refine ⟨pr, ow, _, _, _, _, _, _, rfl, sx5, ee5, er5, ep5, eo5, ?_, pnd, by omega, by omega⟩
          rw [etk]
          exact g'
      | free c hc hm ho g' =>
        rw [hm] at hmr
        refine ⟨fun m σ H6 => (m = 1 ∧ σ = [some (.ref d), some (.ref ev), some (.ref rd), some (.ref pd), some (.ref od), some (.str r.1), some (.ref r.2.1), some (.ref mA), some (.str r.1), y9, y10] ∧ H6 = H5) ∨
          (m = 0 ∧ σ = [some (.ref d), some (.ref ev), some (.ref rd), some (.ref pd), some (.ref od), some (.str r.1), some (.ref r.2.1), some (.ref mA), some .non, some (.int c.1), some .non] ∧ (∀ x o, x ≠ pd → x ≠ od → H5 x = some o → H6 x = some o) ∧ H6 pd = some (.dK (encN (put pr r.1 c.1))) ∧ H6 od = some (.dK (encI (put ow c.1 r.1)))), ⟨1, .inl ⟨rfl, rfl, rfl⟩⟩, ?_⟩
        rintro m σ H6 (⟨rfl, rfl, rfl⟩ | ⟨rfl, rfl, k6, ep6, eo6⟩)
        · refine ⟨_, rfl, _, rfl, .inl ⟨mA, _, rfl, DGet.k (k := Sum.inr r.1) em, _, rfl, ?_⟩⟩
          rw [encN_val, hmr]
          refine iteT ?_
          refine ⟨fun σ H7 => σ = [some (.ref d), some (.ref ev), some (.ref rd), some (.ref pd), some (.ref od), some (.str r.1), some (.ref r.2.1), some (.ref mA), some .non, some (.int c.1), some .non] ∧ (∀ x o, x ≠ pd → x ≠ od → H6 x = some o → H7 x = some o) ∧ H7 pd = some (.dK (encN (put pr r.1 c.1))) ∧ H7 od = some (.dK (encI (put ow c.1 r.1))), fun σ' H' h => ⟨0, by omega, .inr ⟨rfl, h⟩⟩, ?_⟩
          refine gp_body (K := K) ep5 eo5 em npo (by omega) (by omega) hmr fun T2 H7 nT2 k7 ep7 eo7 => ?_
          rw [ho]
          exact ⟨rfl, fun x o h1 h2 e => by rw [k7 x (ne_of_none e nT2) h1 h2]; exact e, ep7, eo7⟩
        · refine ⟨_, rfl, _, rfl, .inr ⟨mA, encN mv, rfl, rfl, .inl (k6 _ _ nmp nmo em), _, rfl, ?_⟩⟩
          refine iteF ?_
          refine ⟨_, rfl, pd, rfl, .inl ⟨_, .inl ep6⟩, _, rfl, _, ep6, .inr ⟨rfl, ?_⟩⟩
          have l1 := put_len pr r.1 c.1
          have l2 := put_len ow c.1 r.1
          refine ⟨_, _, _, _, _, _, _, _, rfl, fun x o hx e => k6 _ _ (ne_of_none e npd1) (ne_of_none e nod1) (sx5 _ _ hx e), k6 _ _ (Ne.symm npe) (Ne.symm noe) ee5, k6 _ _ nrp nro er5, ep6, eo6, ?_, put_nodup _ _ pnd, by omega, by omega⟩
          rw [etk]
          exact g'
      | takes c r2 h2 hm ho hi2 g' =>
        rw [hm] at hmr
        have h2t : r2 ∈ rws.take (i + 1) := by rw [etk]; exact List.mem_append_left _ h2
        have hm2 := hmv r2 h2t
        rw [etk, hi2] at hm2
        refine ⟨fun m σ H6 => (m = 1 ∧ σ = [some (.ref d), some (.ref ev), some (.ref rd), some (.ref pd), some (.ref od), some (.str r.1), some (.ref r.2.1), some (.ref mA), some (.str r.1), y9, y10] ∧ H6 = H5) ∨
          (m = 0 ∧ σ = [some (.ref d), some (.ref ev), some (.ref rd), some (.ref pd), some (.ref od), some (.str r.1), some (.ref r.2.1), some (.ref mA), some (.str r2.1), some (.int c.1), some (.str r2.1)] ∧ (∀ x o, x ≠ pd → x ≠ od → H5 x = some o → H6 x = some o) ∧ H6 pd = some (.dK (encN (put pr r.1 c.1))) ∧ H6 od = some (.dK (encI (put ow c.1 r.1)))), ⟨1, .inl ⟨rfl, rfl, rfl⟩⟩, ?_⟩
        rintro m σ H6 (⟨rfl, rfl, rfl⟩ | ⟨rfl, rfl, k6, ep6, eo6⟩)
        · refine ⟨_, rfl, _, rfl, .inl ⟨mA, _, rfl, DGet.k (k := Sum.inr r.1) em, _, rfl, ?_⟩⟩
          rw [encN_val, hmr]
          refine iteT ?_
          refine ⟨fun σ H7 => σ = [some (.ref d), some (.ref ev), some (.ref rd), some (.ref pd), some (.ref od), some (.str r.1), some (.ref r.2.1), some (.ref mA), some (.str r2.1), some (.int c.1), some (.str r2.1)] ∧ (∀ x o, x ≠ pd → x ≠ od → H6 x = some o → H7 x = some o) ∧ H7 pd = some (.dK (encN (put pr r.1 c.1))) ∧ H7 od = some (.dK (encI (put ow c.1 r.1))), fun σ' H' h => ⟨0, by omega, .inr ⟨rfl, h⟩⟩, ?_⟩
          refine gp_body (K := K) ep5 eo5 em npo (by omega) (by omega) hmr fun T2 H7 nT2 k7 ep7 eo7 => ?_
          rw [ho]
          exact ⟨rfl, fun x o h1 h2 e => by rw [k7 x (ne_of_none e nT2) h1 h2]; exact e, ep7, eo7⟩
        · refine ⟨_, rfl, _, rfl, .inl ⟨mA, _, rfl, DGet.k (k := Sum.inr r2.1) (k6 _ _ nmp nmo em), _, rfl, ?_⟩⟩
          rw [encN_val, hm2]
          refine iteF ?_
          have l1 := put_len pr r.1 c.1
          have l2 := put_len ow c.1 r.1
          have l3 := drp_len (put pr r.1 c.1) r2.1
          have fin : ∀ H8 : Hp, (∀ x, x ≠ pd → H8 x = H6 x) → H8 pd = some (.dK (encN (drp (put pr r.1 c.1) r2.1))) → ∃ (pr : List (Str × Int)) (ow : List (Int × Str)) (y5 y6 y7 y8 y9 y10 : Option V), [some (V.ref d), some (V.ref ev), some (V.ref rd), some (V.ref pd), some (V.ref od), some (V.str r.1), some (V.ref r.2.1), some (V.ref mA), some (V.str r2.1), some (V.int c.1), some (V.str r2.1)] = [some (.ref d), some (.ref ev), some (.ref rd), some (.ref pd), some (.ref od), y5, y6, y7, y8, y9, y10] ∧ SameX ev H1 H8 ∧ H8 ev = some (.frz oe (.dK (encW rws))) ∧
              H8 rd = some (.dK (encW (rws.take (i + 1)))) ∧ H8 pd = some (.dK (encN pr)) ∧ H8 od = some (.dK (encI ow)) ∧ GInv (rws.take (i + 1)) pr ow ∧ (pr.map (·.1)).Nodup ∧ pr.length ≤ i + 1 ∧ ow.length ≤ i + 1 := by
            intro H8 k8 ep8
            refine ⟨_, put ow c.1 r.1, _, _, _, _, _, _, rfl, fun x o hx e => ?_, ?_, ?_, ep8, ?_, ?_, drp_nodup _ (put_nodup _ _ pnd), by omega, by omega⟩
            · rw [k8 x (ne_of_none e npd1)]
              exact k6 _ _ (ne_of_none e npd1) (ne_of_none e nod1) (sx5 _ _ hx e)
            · rw [k8 ev (Ne.symm npe)]
              exact k6 _ _ (Ne.symm npe) (Ne.symm noe) ee5
            · rw [k8 rd nrp]
              exact k6 _ _ nrp nro er5
            · rw [k8 od (Ne.symm npo)]
              exact eo6
            · rw [etk]
              exact g'
          refine ⟨_, rfl, pd, rfl, .inl ⟨_, .inl ep6⟩, _, rfl, _, ep6, .inl ⟨.inr r2.1, rfl, fun v _ => ?_, fun hv => ?_⟩⟩
          · refine fin _ (fun x hx => upd_ne hx) ?_
            rw [upd_same, encN_drp]
          · refine fin _ (fun _ _ => rfl) ?_
            rw [encN_val, Option.map_eq_none_iff] at hv
            have : drp (put pr r.1 c.1) r2.1 = put pr r.1 c.1 := by
              unfold drp
              rw [List.filter_eq_self]
              intro e he
              exact decide_eq_true fun z => (look_none.mp hv) (z ▸ List.mem_map.mpr ⟨e, he, rfl⟩)
            rw [this]
            exact ep6
    · obtain ⟨pr, ow, y5, y6, y7, y8, y9, y10, rfl, sx, ee, er, ep, eo, g, pnd, pl, ol⟩ := h
      rw [encW_len] at g pl
      rw [List.take_length] at g
      have npd0 : H pd = none := s1.free npd1
      refine ⟨ee, _, rfl, q pd pr _ npd0 (fun x o e => ?_) (gpairs_of rok g pnd) (by omega) (by rw [upd_ne npe]; exact ep)⟩
      have nx : x ≠ ev := ne_of_none e nev
      rw [upd_ne nx]
      exact sx _ _ nx (s1 _ _ e)
end
end Kn

set_option Elab.async false
set_option linter.all false
set_option maxRecDepth 100000
set_option maxHeartbeats 4000000
/-! best_carrying, carry_over. -/
namespace Kn
open PySem PySem.Spec PyProof.Rows L2
section
theorem ixOf_le {α : Type} [DecidableEq α] (l : List α) (x : α) : ixOf l x ≤ l.length := List.findIdx_le_length
theorem xw_pos (ns : List Str) (pls : List Int) (e : (Str × Int) × Int) (h : 0 < e.2) : 0 < xw ns pls e := by
  unfold xw
  have p1 : (0 : Int) < ((pls.length : Int) + 1) ^ ns.length := Int.pow_pos (by omega)
  have p2 : (0 : Int) ≤ ((pls.length : Int) + 1) ^ (ns.length - 1 - ixOf ns e.1.1) := Int.le_of_lt (Int.pow_pos (by omega))
  have l2 := ixOf_le pls e.1.2
  have a0 : 0 ≤ e.2 * ((ns.length : Int) + 1) := Int.mul_nonneg (by omega) (by omega)
  have a1 : 0 < (e.2 * ((ns.length : Int) + 1) + 1) * ((ns.length : Int) + 1) := Int.mul_pos (by omega) (by omega)
  have a2 : 0 < ((e.2 * ((ns.length : Int) + 1) + 1) * ((ns.length : Int) + 1) + 0) * ((pls.length : Int) + 1) ^ ns.length := Int.mul_pos (by omega) p1
  have a3 : 0 ≤ ((pls.length : Int) - (ixOf pls e.1.2 : Nat)) * ((pls.length : Int) + 1) ^ (ns.length - 1 - ixOf ns e.1.1) := Int.mul_nonneg (by omega) p2
  omega
theorem xtab_mem {ns : List Str} {pls : List Int} {tb : Tab} {k : Str × Int} {x : Int} : (k, x) ∈ xtab ns pls tb ↔ ∃ wt, (k, wt) ∈ tb ∧ x = xw ns pls (k, wt) := by
  unfold xtab
  rw [List.mem_map]
  constructor
  · rintro ⟨e, he, h⟩
    injection h with h1 h2
    subst h1
    exact ⟨e.2, he, h2.symm⟩
  · rintro ⟨wt, h, rfl⟩
    exact ⟨(k, wt), h, rfl⟩
variable {P : Program} {w : World} {K : PySem.W.Frag} {mg : Str → Option Value} {base : Heap} {f fE fN fP fG fR fM fB fC fO fL fT fW : Addr} {fd fdE fdN fdP fdG fdR fdM fdB fdC fdO fdL fdT fdW : FuncData}
abbrev nBc : List Str := ["table", "homes"]
theorem scBc : FnScope nBc ["table", "homes"] (defScope (top 16)) := ⟨rfl, rfl, rfl, by decide +kernel, rfl, by decide +kernel, by decide +kernel⟩
theorem kbEx (F : FnP K "exact_table" (top 14) f fd) : KBn K fd ["table", "homes"] 1 ["homes"] (fun us ws => us ++ ws) (fun vs zs => vs ++ zs) :=
  kbn_all F 1 ["homes"] fun _ _ _ _ _ _ us ws h1 h2 => match us, ws, h1, h2 with | [_], [_], _, _ => rfl
theorem kbBc (F : FnP K "best_carrying" (top 16) f fd) : KBn K fd ["table", "homes"] 1 ["homes"] (fun us ws => us ++ ws) (fun vs zs => vs ++ zs) :=
  kbn_all F 1 ["homes"] fun _ _ _ _ _ _ us ws h1 h2 => match us, ws, h1, h2 with | [_], [_], _, _ => rfl
theorem bindsGp (F : FnP K "greatest_pairs" (top 3) f fd) : Binds K fd ["entries"] [] := FunD.bindsN F fun _ _ _ _ _ _ us hl => match us, hl with | [_], _ => rfl
def spBc : Sp := fun vs H Q _ => ∃ (d : Addr) (tb : Tab), vs = [.ref d, .non] ∧ H d = some (.dT (encT tb)) ∧ (tb.map (·.1)).Nodup ∧ tb.length ≤ 12 ∧ (∀ e ∈ tb, 0 < e.2 ∧ e.2 < 1000000) ∧ StarT tb ∧
  ∀ (p : Addr) (ns : List Str) (pls : List Int) (pr : List (Str × Int)) (H' : Hp), H p = none → Same H H' → NamesOf tb ns pls → GPairs (xtab ns pls tb) pr → pr.length ≤ 12 → H' p = some (.dK (encN pr)) → Q (.ref p) H'
structure Defs (K : PySem.W.Frag) (mg : Str → Option Value) (fE fN fP fG fR fM : Addr) (fdE fdN fdP fdG fdR fdM : FuncData) : Prop where
  E : FnP K "exact_table" (top 14) fE fdE
  N : FnP K "table_names" (top 12) fN fdN
  P : FnP K "table_places" (top 13) fP fdP
  G : FnP K "greatest_pairs" (top 3) fG fdG
  R : FnP K "row_entries" (top 1) fR fdR
  M : FnP K "best_moves" (top 2) fM fdM
  gE : mg "exact_table" = some (.ref fE)
  gN : mg "table_names" = some (.ref fN)
  gP : mg "table_places" = some (.ref fP)
  gG : mg "greatest_pairs" = some (.ref fG)
  gR : mg "row_entries" = some (.ref fR)
  gM : mg "best_moves" = some (.ref fM)
  gS : mg "sorted" = none
  gL : mg "len" = none
  gI : mg "int" = none
theorem ok_bc (F : FnP K "best_carrying" (top 16) f fd) (D : Defs K mg fE fN fP fG fR fM fdE fdN fdP fdG fdR fdM) : FnOk P w K mg base CX0 3 f fd ["table", "homes"] spBc := by
  have GE : FnOk P w K mg base CX0 2 fE fdE ["table", "homes"] spEx := ok_ex D.E D.N D.P D.gN D.gP D.gS D.gL D.gI
  have GG : FnOk P w K mg base CX0 2 fG fdG ["entries"] spGp := ok_gp D.G D.R D.M D.gR D.gM D.gS
  refine F.ok scBc (fun vs H Q E h => ?_) (fun cdv A outer s H vs Q E hr h => ?_)
  · obtain ⟨d, tb, rfl, _⟩ := h
    rfl
  · obtain ⟨d, tb, rfl, ed, hnd, hlen, hwt, hst, q⟩ := h
    refine ⟨_, PSs.nox (pss_one (ps_ret (pe_call GG hr (by rfl) D.gG D.G.kp (bindsGp D.G) .nil pass0 (pa_cons (pe_callN GE hr (by rfl) D.gE D.E.kp (kbEx D.E) pass0 (pa_cons (pv 0) pa_nil) (pk_cons (pv 1) pk_nil)) pa_nil)))), ?_⟩
    refine ⟨_, rfl, _, rfl, rfl, rfl, d, tb, rfl, ed, hnd, hlen, hwt, fun x ns pls H1 nx s1 no ex => ?_⟩
    refine ⟨x, xtab ns pls tb, rfl, ex, ?_, by unfold xtab; rw [List.length_map]; exact hlen, fun e he => ?_, ?_, fun p pr H2 np s2 gp hl ep => q p ns pls pr H2 (s1.free np) (s1.trans s2) no gp hl ep⟩
    · unfold xtab
      rw [List.map_map]
      exact hnd
    · obtain ⟨wt, h1, h2⟩ := xtab_mem.mp (show (e.1, e.2) ∈ _ from he)
      rw [h2]
      exact xw_pos _ _ _ (hwt _ h1).1
    · intro n p p' n' w1 w2 w3 h1 h2 h3
      obtain ⟨v1, g1, _⟩ := xtab_mem.mp h1
      obtain ⟨v2, g2, _⟩ := xtab_mem.mp h2
      obtain ⟨v3, g3, _⟩ := xtab_mem.mp h3
      exact hst n p p' n' v1 v2 v3 g1 g2 g3
/-! ### carry_over -/
abbrev nCo : List Str := ["labels", "groups", "weights", "pins", "homes", "counting", "places", "found", "name", "row_id"]
theorem scCo : FnScope nCo ["labels", "groups", "weights", "pins", "homes"] (defScope (top 22)) := ⟨rfl, rfl, rfl, by decide +kernel, rfl, by decide +kernel, by decide +kernel⟩
abbrev FnCo (K : PySem.W.Frag) (f : Addr) (fd : FuncData) : Prop := FunD K "carry_over" "carry_over" (defArgs (top 22)) (defBody (top 22)) (defScope (top 22)) [] [("pins", .non), ("homes", .non)] f fd
theorem bindsCo (F : FnCo K f fd) : ∃ ds, Vals [V.non, V.non] ds ∧ Binds K fd ["labels", "groups", "weights", "pins", "homes"] ds := by
  obtain ⟨ds, h1, h2⟩ := FunD.binds0 (ps := ["labels", "groups", "weights", "pins", "homes"]) F 3 (by simp) rfl fun Dk doc pm an cdv ct us ks h1 h2 => by
    match us, ks, h1, h2 with
    | [u1, u2, u3], [k1, k2], _, _ => exact ⟨_, _, _, _, _, _, rfl, rfl, _, _, _, _, _, _, rfl, rfl, rfl⟩
  exact ⟨ds, h1, h2⟩
theorem bindsCp (F : FnP K "counting_pins" (top 20) f fd) : Binds K fd ["groups", "pins"] [] := FunD.bindsN F fun _ _ _ _ _ _ us hl => match us, hl with | [_, _], _ => rfl
theorem bindsOt (F : FnP K "open_table" (top 21) f fd) : Binds K fd ["labels", "groups", "weights", "pins"] [] := FunD.bindsN F fun _ _ _ _ _ _ us hl => match us, hl with | [_, _, _, _], _ => rfl
def spCo (K : PySem.W.Frag) : Sp := fun vs H Q _ => ∃ (ld g wd : Addr) (L : Int → Option Str) (Wt : Int → Int) (gs : List (List Int)), vs = [.ref ld, .ref g, .ref wd, .non, .non] ∧ LabAt H ld L ∧ GrpsAt K H g gs ∧ WgtAt H wd Wt gs.flatten ∧ gs.flatten.length ≤ 12 ∧
  ((ltab L Wt (evs gs gs.length)).map (·.1)).Nodup ∧ (∀ e ∈ ltab L Wt (evs gs gs.length), 0 < e.2 ∧ e.2 < 1000000) ∧ StarT (ltab L Wt (evs gs gs.length)) ∧
  ∀ (p : Addr) (ns : List Str) (pls : List Int) (pr : List (Str × Int)) (H' : Hp), H p = none → Same H H' → NamesOf (ltab L Wt (evs gs gs.length)) ns pls → GPairs (xtab ns pls (ltab L Wt (evs gs gs.length))) pr → pr.length ≤ 12 → H' p = some (.dK (encN pr)) → Q (.ref p) H'
structure Defs2 (K : PySem.W.Frag) (mg : Str → Option Value) (fB fC fO fL fT fW : Addr) (fdB fdC fdO fdL fdT fdW : FuncData) : Prop where
  B : FnP K "best_carrying" (top 16) fB fdB
  C : FnP K "counting_pins" (top 20) fC fdC
  O : FnP K "open_table" (top 21) fO fdO
  L : FnP K "places_of" (top 18) fL fdL
  T : FnP K "label_table" (top 10) fT fdT
  W : FnP K "without" (top 11) fW fdW
  gB : mg "best_carrying" = some (.ref fB)
  gC : mg "counting_pins" = some (.ref fC)
  gO : mg "open_table" = some (.ref fO)
  gL : mg "places_of" = some (.ref fL)
  gT : mg "label_table" = some (.ref fT)
  gW : mg "without" = some (.ref fW)
  gEn : mg "enumerate" = none
  gLi : mg "list" = none
theorem ok_co (F : FnCo K f fd) (D : Defs K mg fE fN fP fG fR fM fdE fdN fdP fdG fdR fdM) (D2 : Defs2 K mg fB fC fO fL fT fW fdB fdC fdO fdL fdT fdW) : FnOk P w K mg base CX0 4 f fd ["labels", "groups", "weights", "pins", "homes"] (spCo K) := by
  have GB : FnOk P w K mg base CX0 3 fB fdB ["table", "homes"] spBc := ok_bc D2.B D
  have GC : FnOk P w K mg base CX0 2 fC fdC ["groups", "pins"] (spCp K) := ok_cp D2.C D2.L D2.gL D2.gEn D.gS
  have GO : FnOk P w K mg base CX0 2 fO fdO ["labels", "groups", "weights", "pins"] (spOt K) := ok_ot D2.O D2.L D2.T D2.W D2.gL D2.gT D2.gW D2.gEn D2.gLi
  have GL : FnOk P w K mg base CX0 1 fL fdL ["groups"] (spPl K) := ok_pl D2.L D2.gEn
  refine F.ok scCo (fun vs H Q E h => ?_) (fun cdv A outer s H vs Q E hr h => ?_)
  · obtain ⟨ld, g, wd, L, Wt, gs, rfl, _⟩ := h
    rfl
  · obtain ⟨ld, g, wd, L, Wt, gs, rfl, hL, hG, hW, hlen, hnd, hwt, hst, q⟩ := h
    refine ⟨_, PSs.nox (pss_cons (ps_set (i := 5) scCo.nd rfl (Or.inl rfl) (pe_call GC (hr.mono (by decide)) (by rfl) D2.gC D2.C.kp (bindsCp D2.C) .nil pass0 (pa_cons (pv 1) (pa_cons (pe_ifExp (pt_cmp (pc_isN (pv 3))) pe_dnewK (pv 3)) pa_nil))))
      (pss_cons (ps_set (i := 6) scCo.nd rfl (Or.inr rfl) (pe_call GL (hr.mono (by decide)) (by rfl) D2.gL D2.L.kp (bindsPl D2.L) .nil pass0 (pa_cons (pv 1) pa_nil)))
      (pss_cons (ps_lock (ps_setDc (i := 7) (own := [("name", 8), ("row_id", 9)]) (g := gTup K 2 (gCons (gName 8) (gCons (gName 9) gNil))) (tt := tYes) rfl scCo.nd rfl rfl (sw_trueD rfl rfl rfl (by decide +kernel) rfl) (pi_items (pv 5)) (blkOk_by (N := nCo) (sc := defScope (top 22)) (by decide +kernel))
          (fun _ _ _ _ _ => pgTup rfl (pgs_cons (pg_name (i := 8) scCo.nd rfl (.inl rfl)) (pgs_cons (pg_name (i := 9) scCo.nd rfl (.inl rfl)) pgs_nil))) (fun _ _ _ _ _ => pts_nil) (fun _ _ _ _ _ => pv 8) (fun _ _ _ _ _ => pe_dget (hu_of hr) (pv 6) (pv 9) (fun _ _ => rfl))))
      (pss_one (ps_ret (pe_merge2 (pv 7) (pe_callN GB hr (by rfl) D2.gB D2.B.kp (kbBc D2.B) pass0 (pa_cons (pe_call GO (hr.mono (by decide)) (by rfl) D2.gO D2.O.kp (bindsOt D2.O) .nil pass0 (pa_cons (pv 0) (pa_cons (pv 1) (pa_cons (pv 2) (pa_cons (pv 5) pa_nil))))) pa_nil) (pk_cons (pv 4) pk_nil)))))))), ?_⟩
    refine ⟨_, rfl, _, rfl, true, rfl, ?_⟩
    refine iteT ?_
    intro pn npn
    have s0 : Same H (upd H pn (.dK [])) := same_upd npn
    refine ⟨g, pn, gs, rfl, hG.mono s0, hlen, upd_same, fun cn H1 ncn s1 ecn => ?_⟩
    have s01 := s0.trans s1
    refine ⟨_, rfl, g, gs, rfl, hG.mono s01, hlen, fun pl H2 npl s2 _ => ?_⟩
    have s02 := s01.trans s2
    have ecn2 := s2 _ _ ecn
    refine ⟨cn, _, ecn2, True.intro, fun od => ?_⟩
    refine ⟨_, rfl, cn, od, [], rfl, upd_same, fun fo nfo => ?_⟩
    have nfc : fo ≠ cn := fun c => by
      rw [c, upd_same] at nfo
      exact nomatch nfo
    refine walk_w (walk_items (d := cn) (o := od) (kvs := [])) (fun i Hc => Hc = upd (upd H2 cn (.frz od (.dK []))) fo (.dK [])) rfl (fun i Hc _ h => by rw [h]; exact same_upd nfo _ _ upd_same) (fun i x Hc Hc' hi _ _ => absurd hi (Nat.not_lt_zero i)) (fun Hc h => ?_)
    subst h
    refine ⟨same_upd nfo _ _ upd_same, ?_⟩
    generalize hH3 : upd (upd (upd H2 cn (.frz od (.dK []))) fo (.dK [])) cn (.dK []) = H3
    have s23 : Same H2 H3 := by
      rw [← hH3]
      exact same_lock ecn2 (x := .frz od (.dK [])) (same_upd nfo)
    have s03 := s02.trans s23
    have efo : H3 fo = some (.dK []) := by rw [← hH3, upd_ne nfc, upd_same]
    have ecn3 := s23 _ _ ecn2
    intro Dd nDd
    have s4 : Same H3 (upd H3 Dd (.dK [])) := same_upd nDd
    have nfD : fo ≠ Dd := ne_of_none efo nDd
    refine ⟨_, rfl, fo, [], rfl, nfD, s4 _ _ efo, upd_same, Nat.zero_le _, ?_⟩
    have e5 : upd (upd H3 Dd (.dK [])) Dd (.dK (mergeK [] [])) = upd H3 Dd (.dK []) := upd_self upd_same
    rw [e5]
    have s04 := s03.trans s4
    refine ⟨_, rfl, _, rfl, _, rfl, _, rfl, ld, g, wd, cn, L, Wt, gs, rfl, hL.mono s04, hG.mono s04, hW.mono s04, hlen, s4 _ _ ecn3, hnd, fun ot H5 not s5 eot => ?_⟩
    refine ⟨_, rfl, rfl, rfl, ot, ltab L Wt (evs gs gs.length), rfl, eot, hnd, ?_, hwt, hst, fun p ns pls pr H6 np s6 no gp hl ep => ?_⟩
    · have h1 := ltab_len L Wt (evs gs gs.length)
      have h2 := evs_len gs gs.length (Nat.le_refl _)
      omega
    · have eD6 : H6 Dd = some (.dK []) := s6 _ _ (s5 _ _ upd_same)
      have npD : p ≠ Dd := fun c => by
        have h1 := s5 _ _ (show (upd H3 Dd (.dK [])) Dd = some (.dK []) from upd_same)
        rw [← c, np] at h1
        exact nomatch h1
      have hkn : ((([] : List (Key × V)) ++ encN pr).map (·.1)).Nodup := by
        rw [List.nil_append]
        have e : (encN pr).map (·.1) = (pr.map (·.1)).map Sum.inr := by
          unfold encN
          rw [List.map_map, List.map_map]
          rfl
        rw [e]
        exact List.Pairwise.map _ (fun a b h c => h (inr_inj _ _ c)) gp.nd
      refine ⟨p, encN pr, [], rfl, npD, ep, eD6, by rw [encN_len]; exact Nat.le_of_lt (small1000 (by rw [List.length_nil]; omega)), ?_⟩
      rw [mergeK_nd _ _ hkn, List.nil_append]
      have nDH : H Dd = none := s03.free nDd
      refine q Dd ns pls pr _ nDH (fun x o e => ?_) no gp hl upd_same
      rw [upd_ne (ne_of_none e nDH)]
      exact s6 _ _ (s5 _ _ (s04 _ _ e))
end
end Kn

set_option Elab.async false
set_option linter.all false
set_option maxRecDepth 100000
set_option maxHeartbeats 4000000
/-! _law_heaviest. -/
namespace Kn
open PySem PySem.Spec PyProof.Rows L2
section
abbrev Tab2 : Type := List ((Key × Key) × Int)
def k2 (k : Key × Key) : List Key := [k.1, k.2]
def enc2 (tb : Tab2) : List (List Key × V) := tb.map fun e => (k2 e.1, V.int e.2)
theorem k2_inj (a b : Key × Key) (h : k2 a = k2 b) : a = b := by
  unfold k2 at h
  injection h with h1 h2
  injection h2 with h3 _
  exact Prod.ext h1 h3
theorem enc2_val (tb : Tab2) (k : Key × Key) : valV (enc2 tb) (k2 k) = (look tb k).map V.int := valV_enc k2 V.int k2_inj k tb
theorem enc2_put (tb : Tab2) (k : Key × Key) (v : Int) : putK (enc2 tb) (k2 k) (.int v) = enc2 (put tb k v) := putK_enc k2 V.int k2_inj tb k v
theorem enc2_len (tb : Tab2) : (enc2 tb).length = tb.length := List.length_map ..
def encH (hv : List (Key × Key)) : List (Key × V) := hv.map fun e => (e.1, kV e.2)
theorem encH_val (hv : List (Key × Key)) (k : Key) : valV (encH hv) k = (look hv k).map kV := valV_enc (fun a : Key => a) kV (fun _ _ h => h) k hv
theorem encH_put (hv : List (Key × Key)) (k v : Key) : putK (encH hv) k (kV v) = encH (put hv k v) := putK_enc (fun a : Key => a) kV (fun _ _ h => h) hv k v
theorem encH_len (hv : List (Key × Key)) : (encH hv).length = hv.length := List.length_map ..
def okK : Key → Prop
  | .inl _ => True
  | .inr x => okS x
theorem okS_str {x : Str} (h : okS x) : PyData.strOk x = true := by
  unfold PyData.strOk
  rw [← Array.all_toList]
  exact List.all_eq_true.mpr fun c hc => decide_eq_true (h c hc)
/-- r is the best of the rows at k -/
def IsBest (tb : Tab2) (rows : List Key) (k r : Key) : Prop := r ∈ rows ∧ ∃ wt, look tb (r, k) = some wt ∧ ∀ r2 ∈ rows, ∀ w2, look tb (r2, k) = some w2 → eLt (0 - w2, r2) (0 - wt, r) = false
structure HvOk (tb : Tab2) (rows keys : List Key) (hv : List (Key × Key)) : Prop where
  nd : (hv.map (·.1)).Nodup
  best : ∀ k r, look hv k = some r → k ∈ keys ∧ IsBest tb rows k r
  all : ∀ k ∈ keys, ∀ r ∈ rows, ∀ wt, look tb (r, k) = some wt → look hv k ≠ none
variable {P : Program} {w : World} {K : PySem.W.Frag} {mg : Str → Option Value} {base : Heap} {f : Addr} {fd : FuncData}
theorem canE : ∀ ps : List (Addr × Int × Key), (∀ z ∈ ps, okK z.2.2) → PyData.canLayAll0 (ps.map fun z => pD z.2) = true
  | [], _ => rfl
  | z :: ps, h => by
    have ih := canE ps fun y hy => h y (List.mem_cons_of_mem _ hy)
    have h0 := h z List.mem_cons_self
    have e : (pD z.2).canLay0 = true := by
      unfold pD
      cases hz : z.2.2 with
      | inl i => simp [kD, PyData.canLay0, PyData.canLayAll0]
      | inr x =>
        rw [hz] at h0
        have := okS_str h0
        simp [kD, PyData.canLay0, PyData.canLayAll0, this]
    rw [List.map_cons]
    simp only [PyData.canLayAll0, ih, e, Bool.and_true]
theorem shapedE (ps : List (Addr × Int × Key)) (h : ∀ z ∈ ps, okK z.2.2) : SeqAt.shaped (.list (ps.map fun z => pD z.2)) = true := by
  unfold SeqAt.shaped
  have h1 := depth_pairs ps
  have h2 : (PyData.list (ps.map fun z => pD z.2)).depth ≤ 64 := by
    simp only [PyData.depth]
    omega
  have h3 : (PyData.list (ps.map fun z => pD z.2)).canLay0 = true := by
    simp only [PyData.canLay0, canE ps h]
  rw [h3, decide_eq_true h2]
  rfl
abbrev nHv : List Str := ["_law_weights", "_law_rows", "_law_keys", "_law_found", "_law_key", "_law_best", "_law_row"]
theorem scHv : FnScope nHv ["_law_weights", "_law_rows", "_law_keys"] (defScope (top 30)) := ⟨rfl, rfl, rfl, by decide +kernel, rfl, by decide +kernel, by decide +kernel⟩
def spHv (K : PySem.W.Frag) : Sp := fun vs H Q _ => ∃ (wd rl kl : Addr) (tb : Tab2) (rows keys : List Key), vs = [.ref wd, .ref rl, .ref kl] ∧ H wd = some (.dT (enc2 tb)) ∧ SqL K H rl (rows.map kV) ∧ SqL K H kl (keys.map kV) ∧ (∀ x ∈ rows, ∀ y ∈ rows, kAl x y = true) ∧ (∀ x ∈ rows, okK x) ∧ rows.length ≤ 12 ∧ keys.length ≤ 12 ∧
  ∀ (p : Addr) (hv : List (Key × Key)) (H' : Hp), H p = none → Same H H' → HvOk tb rows keys hv → hv.length ≤ 12 → H' p = some (.dK (encH hv)) → Q (.ref p) H'
theorem ok_hv (F : FnP K "_law_heaviest" (top 30) f fd) (gM : mg "min" = none) : FnOk P w K mg base CX0 1 f fd ["_law_weights", "_law_rows", "_law_keys"] (spHv K) := by
  refine F.ok scHv (fun vs H Q E h => ?_) (fun cdv A outer s H vs Q E hr h => ?_)
  · obtain ⟨wd, rl, kl, tb, rows, keys, rfl, _⟩ := h
    rfl
  · obtain ⟨wd, rl, kl, tb, rows, keys, rfl, ew, hR, hK, hal, hok, lr, lk, q⟩ := h
    have hu8 : ∀ {A : Around}, Room 0 A → A.units + 8 < cLine := fun r => by have := r.units; omega
    refine ⟨_, PSs.nox (pss_cons (ps_set (i := 3) scHv.nd rfl (Or.inl rfl) pe_dnewK)
      (pss_cons (ps_for PassesOwn.never rfl (pi_list (pv 2)) (pg_name (i := 4) scHv.nd rfl (Or.inr rfl))
        (pss_cons (ps_setLc (i := 5) (own := [("_law_row", 6)]) (g := gName 6) rfl scHv.nd rfl rfl (sw_true rfl rfl rfl (by decide +kernel)) (pi_list (pv 1)) (blkOk_by (N := nHv) (sc := defScope (top 30)) (by decide +kernel))
            (fun _ _ _ _ _ => pg_name (i := 6) scHv.nd rfl (Or.inl rfl)) (fun _ _ _ _ _ => pts_one (pt_cmp (pc_din (hu_of hr) (pe_tup (pa_cons (pv 6) (pa_cons (pv 4) pa_nil))) (pv 0))))
            (fun _ _ _ _ _ => pe_tup (pa_cons (pe_op op_sub pe_int (pe_dget (hu_of hr) (pv 0) (pe_tup (pa_cons (pv 6) (pa_cons (pv 4) pa_nil))) (fun _ _ => rfl))) (pa_cons (pv 6) pa_nil))))
        (pss_one (ps_if (pt_cmpR (op_neD hr.units) (pv 5) (pe_lst pa_nil) (nomark _))
          (pss_one (ps_dput (hu_of hr) (pv 3) (pv 4) (pe_ix ix_tup (pe_callB (call_minP rfl (hu8 hr)) (by rfl) gM rfl (pa_cons (pv 5) pa_nil)) pe_int (fun _ _ => rfl)) rfl)) pss_nil))))
      (pss_one (ps_ret (pv 3))))), ?_⟩
    intro fo nfo
    have s1 : Same H (upd H fo (.dK [])) := same_upd nfo
    refine ⟨_, rfl, kl, rfl, ⟨_, s1.seq hK⟩, ?_⟩
    refine for_list (xs := keys.map kV) (fun i σ H' => ∃ (y4 y5 : Option V) (hv : List (Key × Key)), σ = [some (.ref wd), some (.ref rl), some (.ref kl), some (.ref fo), y4, y5, none] ∧ Same H H' ∧ H' fo = some (.dK (encH hv)) ∧ HvOk tb rows (keys.take i) hv ∧ hv.length ≤ i)
      ⟨none, none, [], rfl, s1, upd_same, ⟨List.nodup_nil, (fun k r h => nomatch h), (fun k h => nomatch h)⟩, Nat.zero_le _⟩ (fun i σ H' _ h => ?_) (fun i x σ H' hx h => ?_) (fun σ H' h => ?_)
    · obtain ⟨y4, y5, hv, rfl, sm, _⟩ := h
      exact sm.seq hK
    · obtain ⟨y4, y5, hv, rfl, sm, eF, ok, hl⟩ := h
      rw [List.getElem?_map, Option.map_eq_some_iff] at hx
      obtain ⟨key, hkey, rfl⟩ := hx
      have hi : i < keys.length := (List.getElem?_eq_some_iff.mp hkey).1
      have etk : keys.take (i + 1) = keys.take i ++ [key] := by
        rw [List.take_add_one, hkey]
        rfl
      refine ⟨_, rfl, rl, rfl, ⟨_, sm.seq hR⟩, fun D nD => ?_⟩
      have sD : Same H' (upd H' D (.lst [])) := same_upd nD
      refine lc_list (xs := rows.map kV) (fun j Hc => ∃ ps : List (Addr × Int × Key), Hc D = some (.lst (ps.map fun z => V.ref z.1)) ∧ Same H' Hc ∧ (∀ z ∈ ps, Hc z.1 = some (.tup [.int z.2.1, kV z.2.2]) ∧ z.2.2 ∈ rows ∧ ∃ wt, look tb (z.2.2, key) = some wt ∧ z.2.1 = 0 - wt) ∧
          (∀ r ∈ rows.take j, ∀ wt, look tb (r, key) = some wt → ∃ z ∈ ps, z.2 = (0 - wt, r)) ∧ ps.length ≤ j)
        ⟨[], upd_same, sD, (fun z hz => nomatch hz), (fun r hr => nomatch hr), Nat.zero_le _⟩ (fun j Hc _ h => ?_) (fun j x Hc hx h => ?_) (fun Hc h => ?_)
      · obtain ⟨ps, _, smc, _⟩ := h
        exact smc.seq (sm.seq hR)
      · obtain ⟨ps, eD, smc, hps, hall, hpl⟩ := h
        rw [List.getElem?_map, Option.map_eq_some_iff] at hx
        obtain ⟨r, hrj, rfl⟩ := hx
        have hrm := List.mem_of_getElem? hrj
        have hj : j < rows.length := (List.getElem?_eq_some_iff.mp hrj).1
        have etr : rows.take (j + 1) = rows.take j ++ [r] := by
          rw [List.take_add_one, hrj]
          rfl
        have ewc := smc _ _ (sm _ _ ew)
        refine ⟨rfl, _, rfl, _, rfl, (show 2 ≤ sizeLine by decide), fun T nT => ?_⟩
        have sT : Same Hc (upd Hc T (.tup [kV r, kV key])) := same_upd nT
        have eT : (upd Hc T (.tup [kV r, kV key])) T = some (.tup ((k2 (r, key)).map kV)) := upd_same
        refine ⟨_, rfl, wd, _, rfl, DGet.t (sT _ _ ewc) eT, _, rfl, ?_⟩
        rw [enc2_val]
        cases hlk : look tb (r, key) with
        | none =>
          refine iteF ?_
          refine ⟨ps, sT _ _ eD, smc.trans sT, fun z hz => ⟨sT _ _ (hps z hz).1, (hps z hz).2⟩, fun r2 h2 wt hw => ?_, by omega⟩
          rw [etr] at h2
          rcases List.mem_append.mp h2 with h2 | h2
          · exact hall r2 h2 wt hw
          · rw [List.mem_singleton.mp h2, hlk] at hw
            exact nomatch hw
        | some wt =>
          refine iteT ?_
          refine ⟨_, rfl, _, rfl, _, rfl, (show 2 ≤ sizeLine by decide), fun T2 nT2 => ?_⟩
          have sT2 : Same (upd Hc T (.tup [kV r, kV key])) (upd (upd Hc T (.tup [kV r, kV key])) T2 (.tup [kV r, kV key])) := same_upd nT2
          have eT2 : (upd (upd Hc T (.tup [kV r, kV key])) T2 (.tup [kV r, kV key])) T2 = some (.tup ((k2 (r, key)).map kV)) := upd_same
          have ss := sT.trans sT2
          refine ⟨wd, .int wt, rfl, .inr ⟨enc2 tb, k2 (r, key), T2, .inl (ss _ _ ewc), rfl, eT2, by rw [enc2_val, hlk]; rfl⟩, 0, wt, rfl, rfl, _, rfl, (show 2 ≤ sizeLine by decide), fun T3 nT3 => ?_⟩
          generalize hH5 : upd (upd Hc T (.tup [kV r, kV key])) T2 (.tup [kV r, kV key]) = H5 at ss nT3
          have s3 : Same H5 (upd H5 T3 (.tup [.int (0 - wt), kV r])) := same_upd nT3
          have sc := ss.trans s3
          have eD5 := sc _ _ eD
          have n3D : T3 ≠ D := Ne.symm (ne_of_none (ss _ _ eD) nT3)
          refine ⟨_, eD5, by rw [List.length_map]; exact small1000 (by omega), ps ++ [(T3, 0 - wt, r)], ?_, ?_, ?_, ?_, ?_⟩
          · rw [upd_same, List.map_append]
            rfl
          · intro x o e
            rw [upd_ne (ne_of_none e nD)]
            exact sc _ _ (smc _ _ e)
          · intro z hz
            rcases List.mem_append.mp hz with hz | hz
            · obtain ⟨h1, h2⟩ := hps z hz
              have h3 := sc _ _ h1
              refine ⟨?_, h2⟩
              rw [upd_ne (ne_of h3 eD5 (by intro z; exact nomatch z))]
              exact h3
            · rw [List.mem_singleton.mp hz]
              refine ⟨?_, hrm, wt, hlk, rfl⟩
              show (upd (upd H5 T3 _) D _) T3 = _
              rw [upd_ne n3D, upd_same]
          · intro r2 h2 w2 hw
            rw [etr] at h2
            rcases List.mem_append.mp h2 with h2 | h2
            · obtain ⟨z, hz, e⟩ := hall r2 h2 w2 hw
              exact ⟨z, List.mem_append_left _ hz, e⟩
            · rw [List.mem_singleton.mp h2] at hw ⊢
              rw [hlk] at hw
              cases hw
              exact ⟨_, List.mem_append_right _ (List.mem_singleton.mpr rfl), rfl⟩
          · rw [List.length_append]
            show ps.length + 1 ≤ j + 1
            omega
      · obtain ⟨ps, eD, smc, hps, hall, hpl⟩ := h
        rw [List.length_map] at hall hpl
        rw [List.take_length] at hall
        have hpk : ∀ z ∈ ps, okK z.2.2 := fun z hz => hok _ (hps z hz).2.1
        refine ⟨_, rfl, Nat.zero_le _, fun e ne => ?_⟩
        have s5 : Same Hc (upd Hc e (.lst [])) := same_upd ne
        have hpt : ∀ z ∈ ps, SqT K (upd Hc e (.lst [])) z.1 [.int z.2.1, kV z.2.2] := fun z hz => SqT.of (s5 _ _ (hps z hz).1)
        have eF5 := s5 _ _ (smc _ _ eF)
        refine ⟨_, .list [], .lst (SqL.of (s5 _ _ eD)) (dpAll_pairs hpt), .lst (SqL.of upd_same) .nil, shapedE ps hpk, rfl, _, rfl, ?_⟩
        cases hps0 : ps with
        | nil =>
          refine iteF ?_
          refine ⟨_, _, hv, rfl, (sm.trans smc).trans s5, eF5, ⟨ok.nd, fun k r h => ?_, fun k h r hr wt hw => ?_⟩, by omega⟩
          · obtain ⟨h1, h2⟩ := ok.best k r h
            exact ⟨by rw [etk]; exact List.mem_append_left _ h1, h2⟩
          · rw [etk] at h
            rcases List.mem_append.mp h with h | h
            · exact ok.all k h r hr wt hw
            · rw [List.mem_singleton.mp h] at hw
              obtain ⟨z, hz, _⟩ := hall r hr wt hw
              rw [hps0] at hz
              exact nomatch hz
        | cons z0 rest =>
          refine iteT ?_
          refine ⟨_, rfl, D, ps, rfl, SqL.of (s5 _ _ eD), by rw [hps0]; exact List.cons_ne_nil _ _, hpt, fun y hy z hz => hal _ (hps y hy).2.1 _ (hps z hz).2.1, fun z hz hmin => ?_⟩
          obtain ⟨h1, h2, wt, h3, h4⟩ := hps z hz
          refine ⟨z.1, _, _, _, rfl, rfl, hpt z hz, rfl, _, rfl, _, rfl, fo, _, rfl, DPut.k (k := key) eF5 (by rw [encH_len]; exact small1000 (by omega)), ?_⟩
          have hbest : IsBest tb rows key z.2.2 := by
            refine ⟨h2, wt, h3, fun r2 hr2 w2 hw2 => ?_⟩
            obtain ⟨y, hy, ey⟩ := hall r2 hr2 w2 hw2
            have := hmin y hy
            rw [ey] at this
            have ez : z.2 = (0 - wt, z.2.2) := Prod.ext h4 rfl
            rw [ez] at this
            exact this
          have l1 := put_len hv key z.2.2
          refine ⟨_, _, put hv key z.2.2, rfl, ?_, ?_, ⟨put_nodup _ _ ok.nd, fun k r h => ?_, fun k h r hr wt hw => ?_⟩, by omega⟩
          · intro x o e
            rw [upd_ne (ne_of_none e nfo)]
            exact s5 _ _ (smc _ _ (sm _ _ e))
          · rw [upd_same, encH_put]
          · rw [look_put] at h
            by_cases c : k = key
            · rw [if_pos c] at h
              cases h
              exact ⟨by rw [etk, c]; exact List.mem_append_right _ (by simp), by rw [c]; exact hbest⟩
            · rw [if_neg c] at h
              obtain ⟨a1, a2⟩ := ok.best k r h
              exact ⟨by rw [etk]; exact List.mem_append_left _ a1, a2⟩
          · rw [look_put]
            split
            · exact fun z => nomatch z
            · rename_i c
              rw [etk] at h
              rcases List.mem_append.mp h with h | h
              · exact ok.all k h r hr wt hw
              · exact absurd (List.mem_singleton.mp h) c
    · obtain ⟨y4, y5, hv, rfl, sm, eF, ok, hl⟩ := h
      rw [List.length_map] at ok hl
      rw [List.take_length] at ok
      exact ⟨_, rfl, q fo hv H' nfo sm ok (by omega) eF⟩
end
end Kn

set_option Elab.async false
set_option linter.all false
set_option maxRecDepth 100000
set_option maxHeartbeats 4000000
/-! The plain law, first part: groups, labels, tables. -/
namespace Kn
open PySem PySem.Spec PyProof.Rows L2
section
/-- id lies in the group at place p -/
def InG (gs : List (List Int)) (p : Int) (id : Int) : Prop := ∃ k : Nat, p = (k : Int) ∧ k < gs.length ∧ id ∈ gs.getD k []
theorem group_uniq : ∀ {gs : List (List Int)} {i j : Nat} {id : Int}, gs.flatten.Nodup → id ∈ gs.getD i [] → id ∈ gs.getD j [] → i = j
  | [], _, _, _, _, h, _ => nomatch h
  | g :: gs, 0, 0, _, _, _, _ => rfl
  | g :: gs, 0, j + 1, id, hn, h1, h2 => by
    rw [List.flatten_cons, List.nodup_append] at hn
    have h3 : id ∈ gs.flatten := by
      have h4 : id ∈ gs.getD j [] := h2
      rw [List.getD_eq_getElem?_getD] at h4
      cases e : gs[j]? with
      | none =>
        rw [e] at h4
        exact nomatch h4
      | some g2 =>
        rw [e] at h4
        exact List.mem_flatten.mpr ⟨g2, List.mem_of_getElem? e, h4⟩
    exact absurd rfl (hn.2.2 id h1 id h3)
  | g :: gs, i + 1, 0, id, hn, h1, h2 => (group_uniq (gs := g :: gs) (i := 0) (j := i + 1) hn h2 h1).symm
  | g :: gs, i + 1, j + 1, id, hn, h1, h2 => by
    rw [List.flatten_cons, List.nodup_append] at hn
    exact congrArg (· + 1) (group_uniq hn.2.1 h1 h2)
theorem InG.uniq {gs : List (List Int)} {p q id : Int} (hn : gs.flatten.Nodup) (h1 : InG gs p id) (h2 : InG gs q id) : p = q := by
  obtain ⟨i, rfl, _, h1⟩ := h1
  obtain ⟨j, rfl, _, h2⟩ := h2
  rw [group_uniq hn h1 h2]
theorem getD_mem {gs : List (List Int)} {k : Nat} {id : Int} (h : id ∈ gs.getD k []) : k < gs.length ∧ gs.getD k [] ∈ gs := by
  rw [List.getD_eq_getElem?_getD] at h ⊢
  cases e : gs[k]? with
  | none =>
    rw [e] at h
    exact nomatch h
  | some g => exact ⟨(List.getElem?_eq_some_iff.mp e).1, List.mem_of_getElem? e⟩
theorem InG.of {gs : List (List Int)} {k : Nat} {id : Int} (h : id ∈ gs.getD k []) : InG gs (k : Int) id := ⟨k, rfl, (getD_mem h).1, h⟩
theorem InG.flat {gs : List (List Int)} {p id : Int} (h : InG gs p id) : id ∈ gs.flatten := by
  obtain ⟨k, _, _, h⟩ := h
  exact List.mem_flatten.mpr ⟨_, (getD_mem h).2, h⟩
theorem InG.ex {gs : List (List Int)} {id : Int} (h : id ∈ gs.flatten) : ∃ p, InG gs p id := by
  obtain ⟨g, hg, hid⟩ := List.mem_flatten.mp h
  obtain ⟨k, hk, e⟩ := List.mem_iff_getElem.mp hg
  refine ⟨(k : Int), k, rfl, hk, ?_⟩
  rw [List.getD_eq_getElem?_getD, List.getElem?_eq_getElem hk, e]
  exact hid
variable {ids : List Int} {key : Int → List Int} {gs : List (List Int)}
theorem GroupsOk.len (g : GroupsOk ids key gs) (hi : ids.length ≤ 12) : gs.flatten.length ≤ 12 := Nat.le_trans (len_sub g.nd fun x hx => (g.mem x).mp hx) hi
theorem GroupsOk.eqk (g : GroupsOk ids key gs) {p a b : Int} (h1 : InG gs p a) (h2 : InG gs p b) : key a = key b := by
  obtain ⟨i, rfl, _, h1⟩ := h1
  obtain ⟨j, e, _, h2⟩ := h2
  have : i = j := by omega
  subst this
  exact g.same _ (getD_mem h1).2 a h1 b h2
theorem GroupsOk.join (g : GroupsOk ids key gs) {p a b : Int} (h1 : InG gs p a) (hb : b ∈ ids) (e : key a = key b) : InG gs p b := by
  obtain ⟨i, rfl, hi, h1⟩ := h1
  exact ⟨i, rfl, hi, g.all _ (getD_mem h1).2 a h1 b hb e⟩
/-! ### labels -/
theorem lev_mem {nm : List (Str × Int)} {id : Int} {n : Str} : (id, n) ∈ lev gs nm ↔ ∃ e ∈ nm, e.1 = n ∧ id ∈ gs.getD e.2.toNat [] := by
  unfold lev
  rw [List.mem_flatten]
  constructor
  · rintro ⟨l, hl, h⟩
    obtain ⟨e, he, rfl⟩ := List.mem_map.mp hl
    obtain ⟨x, hx, h2⟩ := List.mem_map.mp h
    injection h2 with h3 h4
    exact ⟨e, he, h4, by rw [← h3]; exact hx⟩
  · rintro ⟨e, he, rfl, h⟩
    exact ⟨_, List.mem_map.mpr ⟨e, he, rfl⟩, List.mem_map.mpr ⟨id, h, rfl⟩⟩
theorem flat_nodup {gs : List (List Int)} {k : Nat} (h : gs.flatten.Nodup) : (gs.getD k []).Nodup := by
  rw [List.getD_eq_getElem?_getD]
  cases e : gs[k]? with
  | none => exact List.nodup_nil
  | some g =>
    obtain ⟨l1, l2, rfl⟩ := List.append_of_mem (List.mem_of_getElem? e)
    rw [List.flatten_append, List.flatten_cons, List.nodup_append] at h
    exact (List.nodup_append.mp h.2.1).1
theorem lev_nodup (hn : gs.flatten.Nodup) : ∀ {nm : List (Str × Int)}, (nm.map (·.2)).Nodup → (∀ e ∈ nm, 0 ≤ e.2) → ((lev gs nm).map (·.1)).Nodup
  | [], _, _ => List.nodup_nil
  | e :: nm, hi, h0 => by
    rw [List.map_cons, List.nodup_cons] at hi
    have ih := lev_nodup hn hi.2 fun x hx => h0 x (List.mem_cons_of_mem _ hx)
    have e1 : lev gs (e :: nm) = ((gs.getD e.2.toNat []).map fun id => (id, e.1)) ++ lev gs nm := by
      unfold lev
      rw [List.map_cons, List.flatten_cons]
    rw [e1, List.map_append, List.nodup_append]
    refine ⟨?_, ih, fun a ha b hb c => ?_⟩
    · rw [List.map_map]
      have : ((fun x : Int × Str => x.1) ∘ fun id => (id, e.1)) = id := rfl
      rw [this, List.map_id]
      exact flat_nodup hn
    · subst c
      obtain ⟨x, hx, hx2⟩ := List.mem_map.mp ha
      obtain ⟨y, hy, rfl⟩ := List.mem_map.mp hx
      have hya : y = a := hx2
      obtain ⟨z, hz, hz2⟩ := List.mem_map.mp hb
      obtain ⟨id2, n2⟩ := z
      obtain ⟨e2, he2, _, h3⟩ := lev_mem.mp hz
      have hz2' : id2 = a := hz2
      subst hya
      rw [hz2'] at h3
      have := group_uniq hn hy h3
      have g1 := h0 e List.mem_cons_self
      have g2 := h0 e2 (List.mem_cons_of_mem _ he2)
      exact hi.1 (List.mem_map.mpr ⟨e2, he2, by omega⟩)
theorem lev_look (hn : gs.flatten.Nodup) {nm : List (Str × Int)} (hi : (nm.map (·.2)).Nodup) (h0 : ∀ e ∈ nm, 0 ≤ e.2) {id : Int} {n : Str} : look (lev gs nm) id = some n ↔ ∃ e ∈ nm, e.1 = n ∧ InG gs e.2 id := by
  constructor
  · intro h
    obtain ⟨e, he, h1, h2⟩ := lev_mem.mp (look_in h)
    have := h0 e he
    refine ⟨e, he, h1, e.2.toNat, by omega, (getD_mem h2).1, h2⟩
  · rintro ⟨e, he, h1, k, hk, _, h2⟩
    refine look_mem (lev_nodup hn hi h0) (lev_mem.mpr ⟨e, he, h1, ?_⟩)
    rw [hk, Int.toNat_natCast]
    exact h2
theorem lev_ids (nm : List (Str × Int)) {id : Int} (h : id ∈ (lev gs nm).map (·.1)) : id ∈ gs.flatten := by
  obtain ⟨x, hx, rfl⟩ := List.mem_map.mp h
  obtain ⟨e, he, _, h2⟩ := lev_mem.mp (show (x.1, x.2) ∈ lev gs nm from hx)
  exact List.mem_flatten.mpr ⟨_, (getD_mem h2).2, h2⟩
/-! ### tables -/
theorem evs_mem {n : Nat} {p id : Int} : (p, id) ∈ evs gs n ↔ ∃ k, k < n ∧ p = (k : Int) ∧ id ∈ gs.getD k [] := by
  unfold evs
  rw [List.mem_flatten]
  constructor
  · rintro ⟨l, hl, h⟩
    obtain ⟨k, hk, rfl⟩ := List.mem_map.mp hl
    obtain ⟨x, hx, h2⟩ := List.mem_map.mp h
    injection h2 with h3 h4
    exact ⟨k, List.mem_range.mp hk, h3.symm, by rw [← h4]; exact hx⟩
  · rintro ⟨k, hk, rfl, h⟩
    exact ⟨_, List.mem_map.mpr ⟨k, List.mem_range.mpr hk, rfl⟩, List.mem_map.mpr ⟨id, h, rfl⟩⟩
theorem evs_all {p id : Int} : (p, id) ∈ evs gs gs.length ↔ InG gs p id := by
  rw [evs_mem]
  constructor
  · rintro ⟨k, hk, e, h⟩
    exact ⟨k, e, hk, h⟩
  · rintro ⟨k, e, hk, h⟩
    exact ⟨k, hk, e, h⟩
structure TabOk (L : Int → Option Str) (ev : List (Int × Int)) (tb : Tab) : Prop where
  nd : (tb.map (·.1)).Nodup
  mem : ∀ n p, (n, p) ∈ tb.map (·.1) ↔ ∃ id, (p, id) ∈ ev ∧ L id = some n
  wt : ∀ e ∈ tb, 0 < e.2 ∧ e.2 ≤ 3 * (ev.length : Int)
theorem ltab_ok {L : Int → Option Str} {Wt : Int → Int} : ∀ (ev pre : List (Int × Int)) (acc : Tab), (∀ e ∈ ev, 0 < Wt e.2 ∧ Wt e.2 ≤ 3) → TabOk L pre acc → TabOk L (pre ++ ev) (ev.foldl (lstep L Wt) acc)
  | [], pre, acc, _, h => by
    rw [List.append_nil]
    exact h
  | e :: ev, pre, acc, hw, h => by
    have h1 : TabOk L (pre ++ [e]) (lstep L Wt acc e) := by
      obtain ⟨w0, w1⟩ := hw e List.mem_cons_self
      unfold lstep
      cases hL : L e.2 with
      | none =>
        refine ⟨h.nd, fun n p => (h.mem n p).trans ⟨fun ⟨id, a, b⟩ => ⟨id, List.mem_append_left _ a, b⟩, fun ⟨id, a, b⟩ => ?_⟩, fun x hx => ?_⟩
        · rcases List.mem_append.mp a with a | a
          · exact ⟨id, a, b⟩
          · have e2 := List.mem_singleton.mp a
            have : L e.2 = some n := by rw [← e2]; exact b
            rw [hL] at this
            exact nomatch this
        · have := h.wt x hx
          rw [List.length_append]
          show 0 < x.2 ∧ x.2 ≤ 3 * ((pre.length + 1 : Nat) : Int)
          omega
      | some n =>
        show TabOk L (pre ++ [e]) (put acc (n, e.1) ((look acc (n, e.1)).getD 0 + Wt e.2))
        refine ⟨put_nodup _ _ h.nd, fun n2 p2 => ⟨fun hm => ?_, fun ⟨id, a, b⟩ => ?_⟩, fun x hx => ?_⟩
        · rcases put_mem hm with z | z
          · injection z with z1 z2
            rw [z1, z2]
            exact ⟨e.2, List.mem_append_right _ (by simp), hL⟩
          · obtain ⟨id, a, b⟩ := (h.mem n2 p2).mp z
            exact ⟨id, List.mem_append_left _ a, b⟩
        · rw [put_keys]
          rcases List.mem_append.mp a with a | a
          · have := (h.mem n2 p2).mpr ⟨id, a, b⟩
            split
            · exact this
            · exact List.mem_append_left _ this
          · have e2 := List.mem_singleton.mp a
            have e3 : p2 = e.1 := congrArg Prod.fst e2
            have e4 : L e.2 = some n2 := by rw [← e2]; exact b
            rw [hL] at e4
            rw [e3, ← Option.some.inj e4]
            split
            · assumption
            · exact List.mem_append_right _ (by simp)
        · have hx2 := look_mem (put_nodup (n, e.1) ((look acc (n, e.1)).getD 0 + Wt e.2) h.nd) (k := x.1) (v := x.2) hx
          rw [look_put] at hx2
          rw [List.length_append]
          show 0 < x.2 ∧ x.2 ≤ 3 * ((pre.length + 1 : Nat) : Int)
          by_cases c : x.1 = (n, e.1)
          · rw [if_pos c] at hx2
            have hx3 := Option.some.inj hx2
            cases hl : look acc (n, e.1) with
            | none =>
              rw [hl] at hx3
              have hx4 : 0 + Wt e.2 = x.2 := hx3
              omega
            | some v =>
              rw [hl] at hx3
              have hx4 : v + Wt e.2 = x.2 := hx3
              have := h.wt _ (look_in hl)
              have h5 : 0 < v ∧ v ≤ 3 * (pre.length : Int) := this
              omega
          · rw [if_neg c] at hx2
            have := h.wt _ (look_in hx2)
            have h5 : 0 < x.2 ∧ x.2 ≤ 3 * (pre.length : Int) := this
            omega
    have h2 := ltab_ok ev (pre ++ [e]) (lstep L Wt acc e) (fun x hx => hw x (List.mem_cons_of_mem _ hx)) h1
    rw [List.append_assoc] at h2
    exact h2
/-- the table of labels on groups -/
theorem tab_ok {L : Int → Option Str} {Wt : Int → Int} (hw : ∀ id ∈ gs.flatten, 0 < Wt id ∧ Wt id ≤ 3) : TabOk L (evs gs gs.length) (ltab L Wt (evs gs gs.length)) :=
  ltab_ok _ [] [] (fun e he => hw _ (InG.flat (evs_all.mp (show (e.1, e.2) ∈ _ from he)))) ⟨List.nodup_nil, (fun n p => ⟨fun h => (nomatch h), fun ⟨id, a, _⟩ => (nomatch a)⟩), fun e he => (nomatch he)⟩
theorem TabOk.has {L : Int → Option Str} {tb : Tab} (t : TabOk L (evs gs gs.length) tb) {n : Str} {p : Int} : (∃ wt, ((n, p), wt) ∈ tb) ↔ ∃ id, InG gs p id ∧ L id = some n := by
  have h := t.mem n p
  constructor
  · rintro ⟨wt, hm⟩
    obtain ⟨id, a, b⟩ := h.mp (List.mem_map.mpr ⟨_, hm, rfl⟩)
    exact ⟨id, evs_all.mp a, b⟩
  · rintro ⟨id, a, b⟩
    obtain ⟨e, he, e2⟩ := List.mem_map.mp (h.mpr ⟨id, evs_all.mpr a, b⟩)
    exact ⟨e.2, by rw [← e2]; exact he⟩
theorem evs_len12 (h : gs.flatten.length ≤ 12) : (evs gs gs.length).length ≤ 12 := by
  have h2 := evs_len gs gs.length (Nat.le_refl _)
  omega
end
end Kn

set_option Elab.async false
set_option linter.all false
set_option maxRecDepth 100000
set_option maxHeartbeats 4000000
/-! The plain law, second part: the order of the exact weights. -/
namespace Kn
open PySem PySem.Spec PyProof.Rows L2
section
theorem ix_lt {α : Type} [DecidableEq α] {R : α → α → Prop} (ir : ∀ a, ¬ R a a) {l : List α} (pw : l.Pairwise fun a b => ¬ R b a) {x y : α} (hx : x ∈ l) (hy : y ∈ l) (h : R x y) : ixOf l x < ixOf l y := by
  rcases Nat.lt_trichotomy (ixOf l x) (ixOf l y) with c | c | c
  · exact c
  · have h1 := ixOf_at hx
    have h2 := ixOf_at hy
    rw [c, h2] at h1
    rw [Option.some.inj h1] at h
    exact absurd h (ir _)
  · have h1 := ixOf_lt hx
    have h2 := ixOf_lt hy
    have h3 := List.pairwise_iff_getElem.mp pw _ _ h2 h1 c
    have h4 := ixOf_at hx
    have h5 := ixOf_at hy
    rw [List.getElem?_eq_getElem h1] at h4
    rw [List.getElem?_eq_getElem h2] at h5
    rw [Option.some.inj h4, Option.some.inj h5] at h3
    exact absurd h h3
def sLt (a b : Str) : Prop := a.cps.toList < b.cps.toList
theorem sLt_irr (a : Str) : ¬ sLt a a := List.lt_irrefl _
theorem sLt_tot {a b : Str} (h : a ≠ b) (h2 : ¬ sLt a b) : sLt b a := Classical.byContradiction fun z => by
  have h3 : a.cps.toList = b.cps.toList := List.le_antisymm z h2
  refine h ?_
  cases a
  cases b
  simp only [Str.mk.injEq]
  exact Array.toList_inj.mp h3
theorem rising_pw : ∀ (l : List Str) (p : Str), risingS p l = true → (p :: l).Pairwise fun a b => ¬ sLt b a
  | [], p, _ => by simp
  | x :: l, p, h => by
    unfold risingS at h
    rw [Bool.and_eq_true, Bool.not_eq_true'] at h
    obtain ⟨h1, h2⟩ := h
    rw [ltCps_eq] at h1
    have h3 : ¬ x.cps.toList < p.cps.toList := of_decide_eq_false h1
    have ih := rising_pw l x h2
    rw [List.pairwise_cons] at ih ⊢
    refine ⟨fun y hy => ?_, List.pairwise_cons.mpr ih⟩
    rcases List.mem_cons.mp hy with rfl | hy
    · exact h3
    · exact List.le_trans (show p.cps.toList ≤ x.cps.toList from h3) (ih.1 y hy)
theorem sorted_pw {l : List Str} (h : sortedS l = true) : l.Pairwise fun a b => ¬ sLt b a := by
  cases l with
  | nil => exact List.Pairwise.nil
  | cons x l => exact rising_pw l x h
variable {tb : Tab} {ns : List Str} {pls : List Int}
theorem NamesOf.six (h : NamesOf tb ns pls) {a b : Str} (ha : a ∈ ns) (hb : b ∈ ns) (l : sLt a b) : ixOf ns a < ixOf ns b := ix_lt sLt_irr (sorted_pw h.so) ha hb l
theorem NamesOf.pix (h : NamesOf tb ns pls) {a b : Int} (ha : a ∈ pls) (hb : b ∈ pls) (l : a < b) : ixOf pls a < ixOf pls b := ix_lt (R := fun a b : Int => a < b) (fun a => Int.lt_irrefl a) (h.po.imp fun h => Int.not_lt.mpr h) ha hb l
theorem pow_lt_step {m : Nat} {a b : Nat} (hm : 0 < m) (h : a < b) : ((m : Int) + 1) ^ a < ((m : Int) + 1) ^ b := by
  obtain ⟨c, rfl⟩ := Nat.exists_eq_add_of_lt h
  have p : (0 : Int) < ((m : Int) + 1) ^ a := Int.pow_pos (by omega)
  have q : (1 : Int) ≤ ((m : Int) + 1) ^ c := by
    have : (0 : Int) < ((m : Int) + 1) ^ c := Int.pow_pos (by omega)
    omega
  have e : ((m : Int) + 1) ^ (a + c + 1) = ((m : Int) + 1) ^ a * (((m : Int) + 1) ^ c * ((m : Int) + 1)) := by
    rw [Int.pow_succ, Int.pow_add, Int.mul_assoc]
  rw [e]
  have r : (1 : Int) < ((m : Int) + 1) ^ c * ((m : Int) + 1) := by
    have h1 : ((m : Int) + 1) ^ c * ((m : Int) + 1) ≥ 1 * ((m : Int) + 1) := Int.mul_le_mul_of_nonneg_right q (by omega)
    omega
  have h2 := Int.mul_lt_mul_of_pos_left r p
  rw [Int.mul_one] at h2
  exact h2
/-- greater weight, greater exact weight -/
theorem xw_lt {n1 n2 : Str} {p1 p2 w1 w2 : Int} (h0 : 0 < w1) (h : w1 < w2) (hn : n1 ∈ ns) (hp : p2 ∈ pls) : xw ns pls ((n1, p1), w1) < xw ns pls ((n2, p2), w2) := by
  unfold xw
  have l1 := ixOf_lt hn
  have l2 := ixOf_lt hp
  generalize ns.length = n at l1 ⊢
  generalize hm : pls.length = m at l2 ⊢
  have dg : ∀ k : Nat, 0 ≤ ((m : Int) + 1) ^ k := fun k => Int.le_of_lt (Int.pow_pos (by omega))
  have M0 : 0 < ((m : Int) + 1) ^ n := Int.pow_pos (by omega)
  show ((w1 * ((n : Int) + 1) + 1) * ((n : Int) + 1) + 0) * ((m : Int) + 1) ^ n + ((m : Int) - (ixOf pls p1 : Nat)) * ((m : Int) + 1) ^ (n - 1 - ixOf ns n1) < ((w2 * ((n : Int) + 1) + 1) * ((n : Int) + 1) + 0) * ((m : Int) + 1) ^ n + ((m : Int) - (ixOf pls p2 : Nat)) * ((m : Int) + 1) ^ (n - 1 - ixOf ns n2)
  have d2 : 0 ≤ ((m : Int) - (ixOf pls p2 : Nat)) * ((m : Int) + 1) ^ (n - 1 - ixOf ns n2) := Int.mul_nonneg (by omega) (dg _)
  have d1 : ((m : Int) - (ixOf pls p1 : Nat)) * ((m : Int) + 1) ^ (n - 1 - ixOf ns n1) < ((m : Int) + 1) ^ n := by
    have a1 : ((m : Int) - (ixOf pls p1 : Nat)) * ((m : Int) + 1) ^ (n - 1 - ixOf ns n1) ≤ (m : Int) * ((m : Int) + 1) ^ (n - 1 - ixOf ns n1) := Int.mul_le_mul_of_nonneg_right (by omega) (dg _)
    have a2 : (m : Int) * ((m : Int) + 1) ^ (n - 1 - ixOf ns n1) < ((m : Int) + 1) ^ (n - 1 - ixOf ns n1 + 1) := by
      rw [Int.pow_succ, Int.mul_comm]
      exact Int.mul_lt_mul_of_pos_left (by omega) (Int.pow_pos (by omega))
    have a3 : ((m : Int) + 1) ^ (n - 1 - ixOf ns n1 + 1) ≤ ((m : Int) + 1) ^ n := by
      by_cases c : n - 1 - ixOf ns n1 + 1 = n
      · rw [c]
        exact Int.le_refl _
      · exact Int.le_of_lt (pow_lt_step (by omega) (by omega))
    omega
  have rk : ((w1 * ((n : Int) + 1) + 1) * ((n : Int) + 1) + 0) + 1 ≤ ((w2 * ((n : Int) + 1) + 1) * ((n : Int) + 1) + 0) := by
    have b1 : (w1 + 1) * ((n : Int) + 1) ≤ w2 * ((n : Int) + 1) := Int.mul_le_mul_of_nonneg_right (by omega) (by omega)
    have b2 : (w1 + 1) * ((n : Int) + 1) = w1 * ((n : Int) + 1) + ((n : Int) + 1) := by rw [Int.add_mul, Int.one_mul]
    have b3 : (w1 * ((n : Int) + 1) + 1 + 1) * ((n : Int) + 1) ≤ (w2 * ((n : Int) + 1) + 1) * ((n : Int) + 1) := Int.mul_le_mul_of_nonneg_right (by omega) (by omega)
    have b4 : (w1 * ((n : Int) + 1) + 1 + 1) * ((n : Int) + 1) = (w1 * ((n : Int) + 1) + 1) * ((n : Int) + 1) + ((n : Int) + 1) := by rw [Int.add_mul _ 1, Int.one_mul]
    omega
  have rM := Int.mul_le_mul_of_nonneg_right rk (Int.le_of_lt M0)
  rw [Int.add_mul, Int.one_mul] at rM
  omega
/-- the first name has the greater exact weight -/
theorem xw_name {n1 n2 : Str} {p wt : Int} (hp : p ∈ pls) (h1 : n2 ∈ ns) (h : ixOf ns n1 < ixOf ns n2) : xw ns pls ((n2, p), wt) < xw ns pls ((n1, p), wt) := by
  unfold xw
  have l1 := ixOf_lt h1
  have l2 := ixOf_lt hp
  have pl := pow_lt_step (m := pls.length) (a := ns.length - 1 - ixOf ns n2) (b := ns.length - 1 - ixOf ns n1) (by omega) (by omega)
  have := Int.mul_lt_mul_of_pos_left pl (show (0 : Int) < (pls.length : Int) - (ixOf pls p : Nat) by omega)
  exact Int.add_lt_add_left this _
/-- the first place has the greater exact weight -/
theorem xw_place {n : Str} {p1 p2 wt : Int} (h : ixOf pls p1 < ixOf pls p2) : xw ns pls ((n, p2), wt) < xw ns pls ((n, p1), wt) := by
  unfold xw
  have l2 := ixOf_le pls p2
  have p0 : (0 : Int) < ((pls.length : Int) + 1) ^ (ns.length - 1 - ixOf ns n) := Int.pow_pos (by omega)
  have := Int.mul_lt_mul_of_pos_right (show (pls.length : Int) - (ixOf pls p2 : Nat) < (pls.length : Int) - (ixOf pls p1 : Nat) by omega) p0
  exact Int.add_lt_add_left this _
end
end Kn

set_option Elab.async false
set_option linter.all false
set_option maxRecDepth 100000
set_option maxHeartbeats 4000000
/-! The plain law, third part: what is carried is what is the heaviest. -/
namespace Kn
open PySem PySem.Spec PyProof.Rows L2
section
def t2a (tb : Tab) : Tab2 := tb.map fun e => (((Sum.inr e.1.1 : Key), (Sum.inl e.1.2 : Key)), e.2)
def t2b (tb : Tab) : Tab2 := tb.map fun e => (((Sum.inl e.1.2 : Key), (Sum.inr e.1.1 : Key)), e.2)
theorem enc_t2a (tb : Tab) : enc2 (t2a tb) = encT tb := by
  unfold enc2 t2a encT
  rw [List.map_map]
  rfl
theorem look_mapk {κ κ' α : Type} [DecidableEq κ] [DecidableEq κ'] (f : κ → κ') (hf : ∀ a b, f a = f b → a = b) (k : κ) : ∀ kvs : List (κ × α), look (kvs.map fun e => (f e.1, e.2)) (f k) = look kvs k
  | [] => rfl
  | p :: r => by
    rw [List.map_cons, look_cons, look_cons, look_mapk f hf k r]
    by_cases h : p.1 = k
    · rw [if_pos h, if_pos (congrArg f h)]
    · rw [if_neg h, if_neg fun z => h (hf _ _ z)]
theorem look_t2a (tb : Tab) (n : Str) (p : Int) : look (t2a tb) (.inr n, .inl p) = look tb (n, p) :=
  look_mapk (fun k : Str × Int => ((Sum.inr k.1 : Key), (Sum.inl k.2 : Key))) (fun a b h => by injection h with h1 h2; exact Prod.ext (inr_inj _ _ h1) (inl_inj _ _ h2)) (n, p) tb
theorem look_t2b (tb : Tab) (n : Str) (p : Int) : look (t2b tb) (.inl p, .inr n) = look tb (n, p) :=
  look_mapk (fun k : Str × Int => ((Sum.inl k.2 : Key), (Sum.inr k.1 : Key))) (fun a b h => by injection h with h1 h2; exact Prod.ext (inr_inj _ _ h2) (inl_inj _ _ h1)) (n, p) tb
theorem eLt_no {a b : Int} {x y : Key} (h : eLt (0 - a, x) (0 - b, y) = false) : ¬ b < a ∧ (a = b → kLt x y = false) := by
  simp only [eLt, Bool.or_eq_false_iff, Bool.and_eq_false_iff, decide_eq_false_iff_not] at h
  obtain ⟨h1, h2⟩ := h
  refine ⟨by omega, fun e => ?_⟩
  rcases h2 with h2 | h2
  · omega
  · exact h2
variable {tb : Tab} {ns : List Str} {pls : List Int} {pr : List (Str × Int)} {hv : List (Key × Key)} {rows : List Str} {keys : List Int}
/-- every name lies on one place: each place has the name that is heaviest there -/
theorem claimA (nd : (tb.map (·.1)).Nodup) (w0 : ∀ e ∈ tb, 0 < e.2) (no : NamesOf tb ns pls) (gp : GPairs (xtab ns pls tb) pr) (one : ∀ n p p' w1 w2, ((n, p), w1) ∈ tb → ((n, p'), w2) ∈ tb → p = p')
    (hr : ∀ n p wt, ((n, p), wt) ∈ tb → n ∈ rows ∧ p ∈ keys) (ho : HvOk (t2a tb) (rows.map Sum.inr) (keys.map Sum.inl) hv) (n : Str) (p : Int) : look pr n = some p ↔ look hv (.inl p) = some (.inr n) := by
  have inn : ∀ {n p wt}, ((n, p), wt) ∈ tb → n ∈ ns := fun {n p wt} h => (no.nm _).mpr ⟨_, h, rfl⟩
  have inp : ∀ {n p wt}, ((n, p), wt) ∈ tb → p ∈ pls := fun {n p wt} h => (no.pm _).mpr ⟨_, h, rfl⟩
  -- the best is not less than another
  have key : ∀ {n1 n2 : Str} {p w1 w2 : Int}, ((n1, p), w1) ∈ tb → ((n2, p), w2) ∈ tb → eLt (0 - w2, .inr n2) (0 - w1, .inr n1) = false → xw ns pls ((n1, p), w1) ≤ xw ns pls ((n2, p), w2) → n1 = n2 := by
    intro n1 n2 p w1 w2 h1 h2 he hx
    obtain ⟨a1, a2⟩ := eLt_no he
    refine Classical.byContradiction fun hne => ?_
    by_cases c : w2 < w1
    · have := xw_lt (n1 := n2) (n2 := n1) (p1 := p) (p2 := p) (show 0 < w2 from w0 _ h2) c (inn h2) (inp h1)
      omega
    · have ew : w2 = w1 := by omega
      have k1 : ¬ n2.cps.toList < n1.cps.toList := of_decide_eq_false (show decide (n2.cps.toList < n1.cps.toList) = false from a2 ew)
      have k2 : sLt n1 n2 := sLt_tot (Ne.symm hne) k1
      have k3 := no.six (inn h1) (inn h2) k2
      have := xw_name (wt := w1) (inp h1) (inn h2) k3
      rw [ew] at hx
      omega
  constructor
  · intro h
    obtain ⟨x, hx⟩ := gp.mem n p h
    obtain ⟨wt, hm, _⟩ := xtab_mem.mp hx
    obtain ⟨hn, hp⟩ := hr n p wt hm
    have hlk : look (t2a tb) (.inr n, .inl p) = some wt := by rw [look_t2a]; exact look_mem nd hm
    cases e : look hv (.inl p) with
    | none => exact absurd e (ho.all (.inl p) (List.mem_map.mpr ⟨p, hp, rfl⟩) (.inr n) (List.mem_map.mpr ⟨n, hn, rfl⟩) wt hlk)
    | some r =>
      obtain ⟨_, hrm, w1, hw1, hbest⟩ := ho.best _ _ e
      obtain ⟨n1, hn1, rfl⟩ := List.mem_map.mp hrm
      rw [look_t2a] at hw1
      have hm1 := look_in hw1
      have h3 := hbest (.inr n) (List.mem_map.mpr ⟨n, hn, rfl⟩) wt hlk
      rcases gp.dom n1 p _ (xtab_mem.mpr ⟨w1, hm1, rfl⟩) with ⟨o, x2, ho1, ho2, ho3⟩ | ⟨c', x2, ho1, ho2, _⟩
      · have eo : o = n := gp.inj o n p ho1 h
        rw [eo] at ho2
        obtain ⟨w2, hm2, e2⟩ := xtab_mem.mp ho2
        have ew2 : w2 = wt := by
          have a := look_mem nd hm2
          rw [look_mem nd hm] at a
          exact (Option.some.inj a).symm
        rw [e2, ew2] at ho3
        rw [key hm1 hm h3 ho3]
      · obtain ⟨w2, hm2, _⟩ := xtab_mem.mp ho2
        rw [one n1 c' p w2 w1 hm2 hm1] at ho1
        rw [gp.inj n1 n p ho1 h]
  · intro h
    obtain ⟨_, hrm, wt, hw, hbest⟩ := ho.best _ _ h
    rw [look_t2a] at hw
    have hm := look_in hw
    rcases gp.dom n p _ (xtab_mem.mpr ⟨wt, hm, rfl⟩) with ⟨o, x2, ho1, ho2, ho3⟩ | ⟨c', x2, ho1, ho2, _⟩
    · obtain ⟨w2, hm2, e2⟩ := xtab_mem.mp ho2
      rw [e2] at ho3
      have h3 := hbest (.inr o) (List.mem_map.mpr ⟨o, (hr o p w2 hm2).1, rfl⟩) w2 (by rw [look_t2a]; exact look_mem nd hm2)
      rw [key hm hm2 h3 ho3]
      exact ho1
    · obtain ⟨w2, hm2, _⟩ := xtab_mem.mp ho2
      rw [one n c' p w2 wt hm2 hm] at ho1
      exact ho1
/-- every place has one name: each name goes to the place that is heaviest there -/
theorem claimB (nd : (tb.map (·.1)).Nodup) (w0 : ∀ e ∈ tb, 0 < e.2) (no : NamesOf tb ns pls) (gp : GPairs (xtab ns pls tb) pr) (one : ∀ n n' p w1 w2, ((n, p), w1) ∈ tb → ((n', p), w2) ∈ tb → n = n')
    (hr : ∀ n p wt, ((n, p), wt) ∈ tb → n ∈ rows ∧ p ∈ keys) (ho : HvOk (t2b tb) (keys.map Sum.inl) (rows.map Sum.inr) hv) (n : Str) (p : Int) : look pr n = some p ↔ look hv (.inr n) = some (.inl p) := by
  have inn : ∀ {n p wt}, ((n, p), wt) ∈ tb → n ∈ ns := fun {n p wt} h => (no.nm _).mpr ⟨_, h, rfl⟩
  have inp : ∀ {n p wt}, ((n, p), wt) ∈ tb → p ∈ pls := fun {n p wt} h => (no.pm _).mpr ⟨_, h, rfl⟩
  have key : ∀ {n : Str} {p1 p2 w1 w2 : Int}, ((n, p1), w1) ∈ tb → ((n, p2), w2) ∈ tb → eLt (0 - w2, .inl p2) (0 - w1, .inl p1) = false → xw ns pls ((n, p1), w1) ≤ xw ns pls ((n, p2), w2) → p1 = p2 := by
    intro n p1 p2 w1 w2 h1 h2 he hx
    obtain ⟨a1, a2⟩ := eLt_no he
    refine Classical.byContradiction fun hne => ?_
    by_cases c : w2 < w1
    · have := xw_lt (n1 := n) (n2 := n) (p1 := p2) (p2 := p1) (show 0 < w2 from w0 _ h2) c (inn h2) (inp h1)
      omega
    · have ew : w2 = w1 := by omega
      have k1 : ¬ p2 < p1 := of_decide_eq_false (show decide (p2 < p1) = false from a2 ew)
      have k3 := no.pix (inp h1) (inp h2) (show p1 < p2 by omega)
      have := xw_place (ns := ns) (n := n) (wt := w1) k3
      rw [ew] at hx
      omega
  constructor
  · intro h
    obtain ⟨x, hx⟩ := gp.mem n p h
    obtain ⟨wt, hm, _⟩ := xtab_mem.mp hx
    obtain ⟨hn, hp⟩ := hr n p wt hm
    have hlk : look (t2b tb) (.inl p, .inr n) = some wt := by rw [look_t2b]; exact look_mem nd hm
    cases e : look hv (.inr n) with
    | none => exact absurd e (ho.all (.inr n) (List.mem_map.mpr ⟨n, hn, rfl⟩) (.inl p) (List.mem_map.mpr ⟨p, hp, rfl⟩) wt hlk)
    | some r =>
      obtain ⟨_, hrm, w1, hw1, hbest⟩ := ho.best _ _ e
      obtain ⟨p1, hp1, rfl⟩ := List.mem_map.mp hrm
      rw [look_t2b] at hw1
      have hm1 := look_in hw1
      have h3 := hbest (.inl p) (List.mem_map.mpr ⟨p, hp, rfl⟩) wt hlk
      rcases gp.dom n p1 _ (xtab_mem.mpr ⟨w1, hm1, rfl⟩) with ⟨o, x2, ho1, ho2, _⟩ | ⟨c', x2, ho1, ho2, ho3⟩
      · obtain ⟨w2, hm2, _⟩ := xtab_mem.mp ho2
        rw [one o n p1 w2 w1 hm2 hm1, h] at ho1
        rw [Option.some.inj ho1]
      · rw [h] at ho1
        have ec := Option.some.inj ho1
        rw [← ec] at ho2
        obtain ⟨w2, hm2, e2⟩ := xtab_mem.mp ho2
        have ew2 : w2 = wt := by
          have a := look_mem nd hm2
          rw [look_mem nd hm] at a
          exact (Option.some.inj a).symm
        rw [e2, ew2] at ho3
        rw [key hm1 hm h3 ho3]
  · intro h
    obtain ⟨_, hrm, wt, hw, hbest⟩ := ho.best _ _ h
    rw [look_t2b] at hw
    have hm := look_in hw
    rcases gp.dom n p _ (xtab_mem.mpr ⟨wt, hm, rfl⟩) with ⟨o, x2, ho1, ho2, _⟩ | ⟨c', x2, ho1, ho2, ho3⟩
    · obtain ⟨w2, hm2, _⟩ := xtab_mem.mp ho2
      rw [one o n p w2 wt hm2 hm] at ho1
      exact ho1
    · obtain ⟨w2, hm2, e2⟩ := xtab_mem.mp ho2
      rw [e2] at ho3
      have h3 := hbest (.inl c') (List.mem_map.mpr ⟨c', (hr n c' w2 hm2).2, rfl⟩) w2 (by rw [look_t2b]; exact look_mem nd hm2)
      rw [key hm hm2 h3 ho3]
      exact ho1
/-! ### dicts with the same entries -/
theorem same_len {κ α β : Type} [DecidableEq κ] {a : List (κ × α)} {b : List (κ × β)} (ha : (a.map (·.1)).Nodup) (hb : (b.map (·.1)).Nodup) (h : ∀ k, k ∈ a.map (·.1) ↔ k ∈ b.map (·.1)) : a.length = b.length := by
  have h1 := len_sub ha fun x hx => (h x).mp hx
  have h2 := len_sub hb fun x hx => (h x).mpr hx
  rw [List.length_map, List.length_map] at h1 h2
  omega
theorem look_some_iff {κ α : Type} [DecidableEq κ] {a : List (κ × α)} {k : κ} : k ∈ a.map (·.1) ↔ ∃ v, look a k = some v := by
  constructor
  · intro h
    cases e : look a k with
    | none => exact absurd h (look_none.mp e)
    | some v => exact ⟨v, rfl⟩
  · rintro ⟨v, h⟩
    exact look_key h
end
end Kn

set_option Elab.async false
set_option linter.all false
set_option maxRecDepth 100000
set_option maxHeartbeats 4000000
/-! The plain law, fourth part: finer and coarser groups. -/
namespace Kn
open PySem PySem.Spec PyProof.Rows L2
section
/-- finer and coarser groups of the same ids -/
structure Sit (ids : List Int) (key1 key2 : Int → List Int) (gS gL : List (List Int)) (Wt : Int → Int) : Prop where
  len : ids.length ≤ 12
  fine : ∀ a ∈ ids, ∀ b ∈ ids, key1 a = key1 b → key2 a = key2 b
  S : GroupsOk ids key1 gS
  L : GroupsOk ids key2 gL
  wt : ∀ id ∈ ids, 0 < Wt id ∧ Wt id ≤ 3
variable {ids : List Int} {key1 key2 : Int → List Int} {gS gL : List (List Int)} {Wt : Int → Int}
theorem Sit.inS (s : Sit ids key1 key2 gS gL Wt) {p id : Int} (h : InG gS p id) : id ∈ ids := (s.S.mem id).mp h.flat
theorem Sit.inL (s : Sit ids key1 key2 gS gL Wt) {p id : Int} (h : InG gL p id) : id ∈ ids := (s.L.mem id).mp h.flat
/-- a finer group lies in one coarser group -/
theorem Sit.within (s : Sit ids key1 key2 gS gL Wt) {p q a b : Int} (h1 : InG gS p a) (h2 : InG gS p b) (h3 : InG gL q a) : InG gL q b :=
  s.L.join h3 (s.inS h2) (s.fine a (s.inS h1) b (s.inS h2) (s.S.eqk h1 h2))
theorem Sit.tabL (s : Sit ids key1 key2 gS gL Wt) (L : Int → Option Str) : TabOk L (evs gL gL.length) (ltab L Wt (evs gL gL.length)) := tab_ok fun id h => s.wt id ((s.L.mem id).mp h)
theorem Sit.tabS (s : Sit ids key1 key2 gS gL Wt) (L : Int → Option Str) : TabOk L (evs gS gS.length) (ltab L Wt (evs gS gS.length)) := tab_ok fun id h => s.wt id ((s.S.mem id).mp h)
theorem TabOk.small {gs : List (List Int)} {L : Int → Option Str} {tb : Tab} (t : TabOk L (evs gs gs.length) tb) (h : gs.flatten.length ≤ 12) : ∀ e ∈ tb, 0 < e.2 ∧ e.2 < 1000000 := fun e he => by
  have h1 := t.wt e he
  have h2 := evs_len12 h
  omega
/-- names on finer groups -/
structure OnG (nm : List (Str × Int)) (n : Nat) : Prop where
  nd : (nm.map (·.1)).Nodup
  inj : (nm.map (·.2)).Nodup
  pl : ∀ e ∈ nm, 0 ≤ e.2 ∧ e.2 < (n : Int)
theorem NamesOk.on {nm : List (Str × Int)} {n : Nat} (h : NamesOk nm n) : OnG nm n := ⟨h.nd, h.inj, fun e he => (h.ok e he).2⟩
theorem OnG.lab {nm : List (Str × Int)} {gs : List (List Int)} (h : OnG nm gs.length) (hn : gs.flatten.Nodup) {id : Int} {n : Str} : look (lev gs nm) id = some n ↔ ∃ e ∈ nm, e.1 = n ∧ InG gs e.2 id := lev_look hn h.inj fun e he => (h.pl e he).1
theorem OnG.levOk {nm : List (Str × Int)} {gs : List (List Int)} (h : OnG nm gs.length) (hn : gs.flatten.Nodup) (hl : gs.flatten.length ≤ 12) : ((lev gs nm).map (·.1)).Nodup ∧ (lev gs nm).length ≤ 12 := by
  have h1 := lev_nodup hn h.inj fun e he => (h.pl e he).1
  have h2 := len_sub h1 fun x hx => lev_ids nm hx
  rw [List.length_map] at h2
  exact ⟨h1, by omega⟩
/-- names on finer groups, counted in coarser ones: each name on one place -/
theorem Sit.oneA (s : Sit ids key1 key2 gS gL Wt) {nm : List (Str × Int)} (on : OnG nm gS.length) {n : Str} {p p' w1 w2 : Int} (h1 : ((n, p), w1) ∈ ltab (look (lev gS nm)) Wt (evs gL gL.length)) (h2 : ((n, p'), w2) ∈ ltab (look (lev gS nm)) Wt (evs gL gL.length)) : p = p' := by
  obtain ⟨a, ha, la⟩ := (s.tabL _).has.mp ⟨w1, h1⟩
  obtain ⟨b, hb, lb⟩ := (s.tabL _).has.mp ⟨w2, h2⟩
  obtain ⟨e, he, e1, e2⟩ := (on.lab s.S.nd).mp la
  obtain ⟨d, hd, d1, d2⟩ := (on.lab s.S.nd).mp lb
  have : e = d := fst_inj on.nd he hd (e1.trans d1.symm)
  subst this
  exact InG.uniq s.L.nd (s.within e2 d2 ha) hb
/-- names on coarser groups, counted in finer ones: each place has one name -/
theorem Sit.oneB (s : Sit ids key1 key2 gS gL Wt) {nm : List (Str × Int)} (on : OnG nm gL.length) {n n' : Str} {p w1 w2 : Int} (h1 : ((n, p), w1) ∈ ltab (look (lev gL nm)) Wt (evs gS gS.length)) (h2 : ((n', p), w2) ∈ ltab (look (lev gL nm)) Wt (evs gS gS.length)) : n = n' := by
  obtain ⟨a, ha, la⟩ := (s.tabS _).has.mp ⟨w1, h1⟩
  obtain ⟨b, hb, lb⟩ := (s.tabS _).has.mp ⟨w2, h2⟩
  obtain ⟨e, he, e1, e2⟩ := (on.lab s.L.nd).mp la
  obtain ⟨d, hd, d1, d2⟩ := (on.lab s.L.nd).mp lb
  have e3 := InG.uniq s.L.nd (s.within ha hb e2) d2
  have : e = d := snd_inj on.inj he hd e3
  rw [← e1, ← d1, this]
theorem starA {tb : Tab} (h : ∀ n p p' w1 w2, ((n, p), w1) ∈ tb → ((n, p'), w2) ∈ tb → p = p') : StarT tb := fun n p p' n' w1 w2 w3 h1 h2 _ => .inl (h n p' p w2 w1 h2 h1)
theorem starB {tb : Tab} (h : ∀ n n' p w1 w2, ((n, p), w1) ∈ tb → ((n', p), w2) ∈ tb → n = n') : StarT tb := fun n p p' n' w1 w2 w3 h1 _ h3 => .inr (h n' n p w3 w1 h3 h1)
/-- where the entries of a table lie -/
theorem ent_in {gs : List (List Int)} {L : Int → Option Str} {tb : Tab} (t : TabOk L (evs gs gs.length) tb) {n : Str} {p wt : Int} (h : ((n, p), wt) ∈ tb) : 0 ≤ p ∧ p < (gs.length : Int) ∧ ∃ id, L id = some n := by
  obtain ⟨id, ⟨k, e, hk, _⟩, hl⟩ := t.has.mp ⟨wt, h⟩
  exact ⟨by omega, by omega, id, hl⟩
theorem lab_name {gs : List (List Int)} {nm : List (Str × Int)} (on : OnG nm gs.length) (hn : gs.flatten.Nodup) {id : Int} {n : Str} (h : look (lev gs nm) id = some n) : n ∈ nm.map (·.1) := by
  obtain ⟨e, he, rfl, _⟩ := (on.lab hn).mp h
  exact List.mem_map.mpr ⟨e, he, rfl⟩
/-- each name of the coarser groups has an entry -/
theorem Sit.allB (s : Sit ids key1 key2 gS gL Wt) {nm : List (Str × Int)} (on : OnG nm gL.length) {e : Str × Int} (he : e ∈ nm) : ∃ p wt, ((e.1, p), wt) ∈ ltab (look (lev gL nm)) Wt (evs gS gS.length) := by
  obtain ⟨p0, p1⟩ := on.pl e he
  obtain ⟨k, hk⟩ := Int.eq_ofNat_of_zero_le p0
  have hk2 : k < gL.length := by omega
  obtain ⟨id, hid⟩ := List.exists_mem_of_ne_nil _ (s.L.ne gL[k] (List.getElem_mem hk2))
  have hin : InG gL e.2 id := ⟨k, hk, hk2, by rw [List.getD_eq_getElem?_getD, List.getElem?_eq_getElem hk2]; exact hid⟩
  obtain ⟨p, hp⟩ := InG.ex ((s.S.mem id).mpr (s.inL hin))
  obtain ⟨wt, hw⟩ := (s.tabS (look (lev gL nm))).has.mpr ⟨id, hp, (on.lab s.L.nd).mpr ⟨e, he, rfl, hin⟩⟩
  exact ⟨p, wt, hw⟩
/-- what is carried lies on groups -/
theorem GPairs.on {gs : List (List Int)} {L : Int → Option Str} {tb : Tab} {ns : List Str} {pls : List Int} {pr : List (Str × Int)} (g : GPairs (xtab ns pls tb) pr) (t : TabOk L (evs gs gs.length) tb) : OnG pr gs.length := by
  refine ⟨g.nd, ?_, fun e he => ?_⟩
  · have gen : ∀ l : List (Str × Int), (∀ e ∈ l, look pr e.1 = some e.2) → (l.map (·.1)).Nodup → (l.map (·.2)).Nodup := fun l => by
      induction l with
      | nil => intro _ _; exact List.nodup_nil
      | cons e l ih =>
        intro h hn
        rw [List.map_cons, List.nodup_cons] at hn ⊢
        refine ⟨fun hm => ?_, ih (fun x hx => h x (List.mem_cons_of_mem _ hx)) hn.2⟩
        obtain ⟨x, hx, e2⟩ := List.mem_map.mp hm
        have h1 := h e List.mem_cons_self
        have h2 := h x (List.mem_cons_of_mem _ hx)
        rw [e2] at h2
        exact hn.1 (List.mem_map.mpr ⟨x, hx, g.inj x.1 e.1 e.2 h2 h1⟩)
    exact gen pr (fun e he => look_mem g.nd he) g.nd
  · obtain ⟨x, hx⟩ := g.mem e.1 e.2 (look_mem g.nd he)
    obtain ⟨wt, hm, _⟩ := xtab_mem.mp hx
    obtain ⟨a, b, _⟩ := ent_in t hm
    exact ⟨a, b⟩
/-- to the finer groups and back -/
theorem Sit.back (s : Sit ids key1 key2 gS gL Wt) {nm pr pr3 : List (Str × Int)} {ns ns3 : List Str} {pls pls3 : List Int} (on : OnG nm gL.length) (g : GPairs (xtab ns pls (ltab (look (lev gL nm)) Wt (evs gS gS.length))) pr)
    (all : ∀ n, n ∈ nm.map (·.1) ↔ n ∈ pr.map (·.1)) (g3 : GPairs (xtab ns3 pls3 (ltab (look (lev gS pr)) Wt (evs gL gL.length))) pr3) (n : Str) (q : Int) : look pr3 n = some q ↔ look nm n = some q := by
  have on2 : OnG pr gS.length := g.on (s.tabS _)
  -- the entries there are the names' own places
  have ent : ∀ {n : Str} {q wt : Int}, ((n, q), wt) ∈ ltab (look (lev gS pr)) Wt (evs gL gL.length) → look nm n = some q := by
    intro n q wt h
    obtain ⟨id, hid, hl⟩ := (s.tabL _).has.mp ⟨wt, h⟩
    obtain ⟨e, he, rfl, h2⟩ := (on2.lab s.S.nd).mp hl
    obtain ⟨x, hx⟩ := g.mem e.1 e.2 (look_mem g.nd he)
    obtain ⟨w2, hm, _⟩ := xtab_mem.mp hx
    obtain ⟨id2, hid2, hl2⟩ := (s.tabS _).has.mp ⟨w2, hm⟩
    obtain ⟨d, hd, d1, d2⟩ := (on.lab s.L.nd).mp hl2
    have h3 := s.within hid2 h2 d2
    have h4 := InG.uniq s.L.nd h3 hid
    have h5 := look_mem on.nd (k := d.1) (v := d.2) hd
    rw [d1, h4] at h5
    exact h5
  have ent2 : ∀ {n : Str} {q : Int}, look nm n = some q → ∃ wt, ((n, q), wt) ∈ ltab (look (lev gS pr)) Wt (evs gL gL.length) := by
    intro n q h
    obtain ⟨p, hp⟩ := look_some_iff.mp ((all n).mp (look_key h))
    obtain ⟨x, hx⟩ := g.mem n p hp
    obtain ⟨w2, hm, _⟩ := xtab_mem.mp hx
    obtain ⟨id2, hid2, hl2⟩ := (s.tabS _).has.mp ⟨w2, hm⟩
    obtain ⟨d, hd, d1, d2⟩ := (on.lab s.L.nd).mp hl2
    have h5 := look_mem on.nd (k := d.1) (v := d.2) hd
    rw [d1, h] at h5
    rw [← Option.some.inj h5] at d2
    exact (s.tabL _).has.mpr ⟨id2, d2, (on2.lab s.S.nd).mpr ⟨(n, p), look_in hp, rfl, hid2⟩⟩
  constructor
  · intro h
    obtain ⟨x, hx⟩ := g3.mem n q h
    obtain ⟨w2, hm, _⟩ := xtab_mem.mp hx
    exact ent hm
  · intro h
    obtain ⟨wt, hm⟩ := ent2 h
    rcases g3.dom n q _ (xtab_mem.mpr ⟨wt, hm, rfl⟩) with ⟨o, x2, ho1, ho2, _⟩ | ⟨c', x2, ho1, ho2, _⟩
    · obtain ⟨w2, hm2, _⟩ := xtab_mem.mp ho2
      have h1 := ent hm2
      have e1 := snd_inj on.inj (look_in h1) (look_in h) rfl
      injection e1 with e2 _
      rw [← e2]
      exact ho1
    · obtain ⟨w2, hm2, _⟩ := xtab_mem.mp ho2
      have h1 := ent hm2
      rw [h] at h1
      rw [Option.some.inj h1]
      exact ho1
end
end Kn

set_option Elab.async false
set_option linter.all false
set_option maxRecDepth 100000
set_option maxHeartbeats 4000000
/-! The law: tools, facts. -/
namespace Kn
open PySem PySem.Spec PyProof.Rows L2
section
variable {X : Cx}
/-- the value, its object locked from here on -/
def tLk (t : TE) : TE := fun σ H Q => t σ H fun x H1 => ∃ d u, x = .ref d ∧ H1 d = some u ∧ Mut (some u) ∧ ∀ od, Q x (upd H1 d (.frz od u))
theorem pe_lk {e : Expr} {t : TE} (h : PE X e t) : PE X e (tLk t) := ⟨fun pins s σ H Q I q =>
  thn (h.run pins s σ H _ I q) fun v s1 ⟨x, H1, I1, rx, d, u, ex, hd, mu, q1⟩ => by
    obtain ⟨od, I2⟩ := I1.lock hd mu
    exact ⟨x, _, I2, rx, q1 od⟩⟩
end
section
theorem take_putG {κ α : Type} [DecidableEq κ] {tb : List (κ × α)} (hn : (tb.map (·.1)).Nodup) {i : Nat} {e : κ × α} (h : tb[i]? = some e) : put (tb.take i) e.1 e.2 = tb.take (i + 1) := by
  have hi : i < tb.length := (List.getElem?_eq_some_iff.mp h).1
  have hnew : look (tb.take i) e.1 = none := by
    rw [look_none]
    intro hm
    obtain ⟨e2, he2, h2⟩ := List.mem_map.mp hm
    obtain ⟨j, hj, h3⟩ := List.mem_take_iff_getElem.mp he2
    have hj2 : j < tb.length := by omega
    have h4 : (tb.map (·.1))[j]? = some e.1 := by
      rw [List.getElem?_map, List.getElem?_eq_getElem hj2, h3]
      exact congrArg some h2
    have h5 : (tb.map (·.1))[i]? = some e.1 := by
      rw [List.getElem?_map, h]
      rfl
    have := L2.nd_ix hn h4 h5
    omega
  rw [put_new _ hnew, List.take_add_one, h]
  rfl
theorem t2b_nd {tb : Tab} (h : (tb.map (·.1)).Nodup) : ((t2b tb).map (·.1)).Nodup := by
  have e : (t2b tb).map (·.1) = (tb.map (·.1)).map fun k => ((Sum.inl k.2 : Key), (Sum.inr k.1 : Key)) := by
    unfold t2b
    rw [List.map_map, List.map_map]
    rfl
  rw [e]
  refine List.Pairwise.map _ (fun a b h c => h ?_) h
  injection c with c1 c2
  exact Prod.ext (inr_inj _ _ c2) (inl_inj _ _ c1)
/-- sorted lists of the same texts -/
theorem sorted_eq {a b : List Str} (ha : sortedS a = true) (hb : sortedS b = true) (h : a.Perm b) : a = b :=
  h.eq_of_pairwise (fun x y _ _ h1 h2 => Classical.byContradiction fun z => h1 (sLt_tot z h2)) (sorted_pw ha) (sorted_pw hb)
theorem perm_of_same {κ : Type} [DecidableEq κ] {a b : List κ} (ha : a.Nodup) (hb : b.Nodup) (h : ∀ x, x ∈ a ↔ x ∈ b) : a.Perm b := (List.perm_ext_iff_of_nodup ha hb).mpr h
theorem dpStrs {K : PySem.W.Frag} {H : Hp} : ∀ ys : List Str, DpAll K H (ys.map V.str) (ys.map PyData.str)
  | [] => .nil
  | x :: ys => .cons (.str x) (dpStrs ys)
theorem canStrs : ∀ ys : List Str, (∀ y ∈ ys, okS y) → PyData.canLayAll0 (ys.map PyData.str) = true
  | [], _ => rfl
  | x :: ys, h => by
    rw [List.map_cons]
    simp only [PyData.canLayAll0, PyData.canLay0, okS_str (h x List.mem_cons_self), canStrs ys fun y hy => h y (List.mem_cons_of_mem _ hy), Bool.and_true]
theorem depthStrs : ∀ ys : List Str, PyData.depthAll (ys.map PyData.str) = 0
  | [] => by simp [PyData.depthAll]
  | x :: ys => by simp [PyData.depthAll, PyData.depth, depthStrs ys]
theorem shapedStrs {ys : List Str} (h : ∀ y ∈ ys, okS y) : SeqAt.shaped (.list (ys.map PyData.str)) = true := by
  unfold SeqAt.shaped
  have h2 : (PyData.list (ys.map PyData.str)).depth ≤ 64 := by
    simp only [PyData.depth, depthStrs]
    omega
  have h3 : (PyData.list (ys.map PyData.str)).canLay0 = true := by
    simp only [PyData.canLay0, canStrs ys h]
  rw [h3, decide_eq_true h2]
  rfl
theorem eqvStrs {ys : List Str} (h : ∀ y ∈ ys, okS y) : PyData.eqv (.list (ys.map PyData.str)) (.list (ys.map PyData.str)) = true :=
  SeqAt.eqv_refl _ (SeqAt.canLay_of_shaped (shapedStrs h))
/-- the numbers from 0 below n, as keys -/
def upTo (n : Nat) : List Int := (List.range n).map fun i => (0 : Int) + (i : Nat)
theorem rgV_upTo (n : Nat) : rgV 0 (n : Int) = ((upTo n).map (Sum.inl : Int → Key)).map kV := by
  unfold rgV upTo
  rw [List.map_map, List.map_map]
  have e : ((n : Int) - 0).toNat = n := by omega
  rw [e]
  rfl
theorem upTo_mem {n : Nat} {p : Int} (h0 : 0 ≤ p) (h1 : p < (n : Int)) : p ∈ upTo n := by
  unfold upTo
  rw [List.mem_map]
  exact ⟨p.toNat, List.mem_range.mpr (by omega), by omega⟩
theorem upTo_len (n : Nat) : (upTo n).length = n := by
  unfold upTo
  rw [List.length_map, List.length_range]
theorem strs_kV (ys : List Str) : ys.map V.str = (ys.map (Sum.inr : Str → Key)).map kV := by
  rw [List.map_map]
  rfl
theorem groups_len {ids : List Int} {key : Int → List Int} {gs : List (List Int)} (g : GroupsOk ids key gs) (h : ids.length ≤ 12) : gs.length ≤ 12 := by
  have gen : ∀ l : List (List Int), (∀ x ∈ l, x ≠ []) → l.length ≤ l.flatten.length := fun l => by
    induction l with
    | nil => intro _; exact Nat.le_refl _
    | cons x l ih =>
      intro h
      have h1 := ih fun y hy => h y (List.mem_cons_of_mem _ hy)
      have h2 := List.length_pos_iff.mpr (h x List.mem_cons_self)
      rw [List.flatten_cons, List.length_append, List.length_cons]
      omega
  have := gen gs g.ne
  have := g.len h
  omega
/-- what stands from the groups on -/
structure LawF (K : PySem.W.Frag) (ps qs : List Pr) (ids : List Int) (key1 key2 : Int → List Int) (gS gL : List (List Int)) (Wt : Int → Int) (s t u wd aS aL : Addr) (H : Hp) : Prop where
  st : StrAt H s
  rt : RuleAt H t ps
  ru : RuleAt H u qs
  wd : WgtAt H wd Wt ids
  S : GrpsAt K H aS gS
  L : GrpsAt K H aL gL
  nS : aS ≠ s
  nL : aL ≠ s
  sit : Sit ids key1 key2 gS gL Wt
  col : (ps.map (·.2.1)).Nodup
  co : Coarser ps qs
  pos : ∀ z ∈ ps, 0 < z.2.2
  ql : qs.length ≤ 3
variable {K : PySem.W.Frag} {ps qs : List Pr} {ids : List Int} {key1 key2 : Int → List Int} {gS gL : List (List Int)} {Wt : Int → Int} {s t u wd aS aL : Addr} {H H' : Hp}
theorem WgtAt.keepX {l : List Int} (h : WgtAt H wd Wt l) (hs : StrAt H s) (sx : SameX s H H') : WgtAt H' wd Wt l := let ⟨k, e, r⟩ := h; ⟨k, sx _ _ (ne_str hs e fun _ => (fun z => nomatch z)) e, r⟩
theorem WgtAt.sub {l m : List Int} (h : WgtAt H wd Wt l) (hm : ∀ x ∈ m, x ∈ l) : WgtAt H wd Wt m := let ⟨k, e, r⟩ := h; ⟨k, e, fun i hi => r i (hm i hi)⟩
theorem LawF.keep (f : LawF K ps qs ids key1 key2 gS gL Wt s t u wd aS aL H) (sx : SameX s H H') (hs : StrAt H' s) : LawF K ps qs ids key1 key2 gS gL Wt s t u wd aS aL H' :=
  ⟨hs, f.rt.keep f.st sx, f.ru.keep f.st sx, f.wd.keepX f.st sx, f.S.keepX f.st f.nS sx, f.L.keepX f.st f.nL sx, f.nS, f.nL, f.sit, f.col, f.co, f.pos, f.ql⟩
theorem LawF.mono (f : LawF K ps qs ids key1 key2 gS gL Wt s t u wd aS aL H) (sm : Same H H') : LawF K ps qs ids key1 key2 gS gL Wt s t u wd aS aL H' := f.keep (SameX.of sm) (f.st.keep sm)
theorem LawF.wS (f : LawF K ps qs ids key1 key2 gS gL Wt s t u wd aS aL H) : WgtAt H wd Wt gS.flatten := f.wd.sub fun x hx => (f.sit.S.mem x).mp hx
theorem LawF.wL (f : LawF K ps qs ids key1 key2 gS gL Wt s t u wd aS aL H) : WgtAt H wd Wt gL.flatten := f.wd.sub fun x hx => (f.sit.L.mem x).mp hx
/-- the functions that the law calls -/
structure Fns (K : PySem.W.Frag) (mg : Str → Option Value) where
  fE : Addr
  fN : Addr
  fP : Addr
  fG : Addr
  fR : Addr
  fM : Addr
  fdE : FuncData
  fdN : FuncData
  fdP : FuncData
  fdG : FuncData
  fdR : FuncData
  fdM : FuncData
  D : Defs K mg fE fN fP fG fR fM fdE fdN fdP fdG fdR fdM
  fB : Addr
  fC : Addr
  fO : Addr
  fL : Addr
  fT : Addr
  fW : Addr
  fdB : FuncData
  fdC : FuncData
  fdO : FuncData
  fdL : FuncData
  fdT : FuncData
  fdW : FuncData
  D2 : Defs2 K mg fB fC fO fL fT fW fdB fdC fdO fdL fdT fdW
  fCo : Addr
  fdCo : FuncData
  Co : FnCo K fCo fdCo
  gCo : mg "carry_over" = some (.ref fCo)
  fLo : Addr
  fdLo : FuncData
  Lo : FnP K "labels_of" (top 19) fLo fdLo
  gLo : mg "labels_of" = some (.ref fLo)
  fKo : Addr
  fdKo : FuncData
  Ko : FnP K "key_of" (top 5) fKo fdKo
  gKo : mg "key_of" = some (.ref fKo)
  fKg : Addr
  fdKg : FuncData
  Kg : FnP K "keyed_groups" (top 6) fKg fdKg
  gKg : mg "keyed_groups" = some (.ref fKg)
  fGi : Addr
  fdGi : FuncData
  Gi : FnP K "group_items" (top 7) fGi fdGi
  gGi : mg "group_items" = some (.ref fGi)
  fFi : Addr
  fdFi : FuncData
  Fi : FnP K "is_finer" (top 8) fFi fdFi
  gFi : mg "is_finer" = some (.ref fFi)
  fSt : Addr
  fdSt : FuncData
  St' : FnP K "_law_stream" (top 24) fSt fdSt
  gSt : mg "_law_stream" = some (.ref fSt)
  fDr : Addr
  fdDr : FuncData
  Dr : FnP K "_law_draw" (top 25) fDr fdDr
  gDr : mg "_law_draw" = some (.ref fDr)
  fCh : Addr
  fdCh : FuncData
  Ch : FnP K "_law_choose" (top 26) fCh fdCh
  gCh : mg "_law_choose" = some (.ref fCh)
  fSh : Addr
  fdSh : FuncData
  Sh : FnP K "_law_shuffled" (top 27) fSh fdSh
  gSh : mg "_law_shuffled" = some (.ref fSh)
  fWo : Addr
  fdWo : FuncData
  Wo : FnP K "_law_word" (top 28) fWo fdWo
  gWo : mg "_law_word" = some (.ref fWo)
  fCa : Addr
  fdCa : FuncData
  Ca : FnP K "_law_coarser" (top 29) fCa fdCa
  gCa : mg "_law_coarser" = some (.ref fCa)
  fHv : Addr
  fdHv : FuncData
  Hv : FnP K "_law_heaviest" (top 30) fHv fdHv
  gHv : mg "_law_heaviest" = some (.ref fHv)
  fTo : Addr
  fdTo : FuncData
  To : FnP K "_law_table_of" (top 31) fTo fdTo
  gTo : mg "_law_table_of" = some (.ref fTo)
  fNa : Addr
  fdNa : FuncData
  Na : FnP K "_law_named" (top 32) fNa fdNa
  gNa : mg "_law_named" = some (.ref fNa)
  bRange : mg "range" = none
  bMax : mg "max" = none
  bMin : mg "min" = none
  bTuple : mg "tuple" = none
  bDict : mg "dict" = none
  bAll : mg "all" = none
end
end Kn

set_option Elab.async false
set_option linter.all false
set_option maxRecDepth 100000
set_option maxHeartbeats 4000000
/-! The law: the last part of a turn. -/
namespace Kn
open PySem PySem.Spec PyProof.Rows L2
section
abbrev nLaw : List Str := ["_law_script", "_law_start", "_law_stream_here", "_law_size", "_law_fine", "_law_coarse", "_law_items", "_law_weights", "_law_row", "_law_small", "_law_large", "_law_names", "_law_told", "_law_labels", "_law_best", "_law_spot", "_law_table", "_law_word_here", "_law_weight", "_law_column"]
theorem scLaw : FnScope nLaw ["_law_script"] (defScope (top 33)) := ⟨rfl, rfl, rfl, by decide +kernel, rfl, by decide +kernel, by decide +kernel⟩
def lawBody : List Stmt := match defBody (top 33) with
  | .For _ _ b _ _ :: _ => b
  | _ => []
/-- the law's slots, the script in the first -/
def Sg (l : Addr) (σ : St) : Prop := ∃ y1 y2 y3 y4 y5 y6 y7 y8 y9 y10 y11 y12 y13 y14 y15 y16 y17 y18 y19 : Option V, σ = [some (.ref l), y1, y2, y3, y4, y5, y6, y7, y8, y9, y10, y11, y12, y13, y14, y15, y16, y17, y18, y19]
/-- .. with the groups -/
def SgF (l s t u wd aS aL : Addr) (σ : St) : Prop := ∃ y1 y3 y6 y8 y11 y12 y13 y14 y15 y16 y17 y18 y19 : Option V, σ = [some (.ref l), y1, some (.ref s), y3, some (.ref t), some (.ref u), y6, some (.ref wd), y8, some (.ref aS), some (.ref aL), y11, y12, y13, y14, y15, y16, y17, y18, y19]
variable {P : Program} {w : World} {K : PySem.W.Frag} {mg : Str → Option Value} {base : Heap} {f : Addr} {fd : FuncData} {cdv : Value} {A : Around} {outer : List Env} {s0 : Shared} {H0 : Hp} {E : XK}
abbrev cxLaw (P : Program) (w : World) (K : PySem.W.Frag) (mg : Str → Option Value) (base : Heap) (f : Addr) (cdv : Value) (A : Around) (outer : List Env) (s0 : Shared) (H0 : Hp) (E : XK) : Cx := (cxOf CX0 P w K mg base nLaw "law" (defScope (top 33)) f cdv A outer s0 H0 E).nox
theorem bindsNa (F : FnP K "_law_named" (top 32) f fd) : Binds K fd ["_law_stream_here", "_law_groups"] [] := FunD.bindsN F fun _ _ _ _ _ _ us hl => match us, hl with | [_, _], _ => rfl
theorem bindsLo (F : FnP K "labels_of" (top 19) f fd) : Binds K fd ["groups", "names"] [] := FunD.bindsN F fun _ _ _ _ _ _ us hl => match us, hl with | [_, _], _ => rfl
theorem bindsTo (F : FnP K "_law_table_of" (top 31) f fd) : Binds K fd ["_law_labels", "_law_groups", "_law_weights"] [] := FunD.bindsN F fun _ _ _ _ _ _ us hl => match us, hl with | [_, _, _], _ => rfl
theorem bindsHv (F : FnP K "_law_heaviest" (top 30) f fd) : Binds K fd ["_law_weights", "_law_rows", "_law_keys"] [] := FunD.bindsN F fun _ _ _ _ _ _ us hl => match us, hl with | [_, _, _], _ => rfl
theorem law_t3 (G : Fns K mg) (hr : Room 4 (cxLaw P w K mg base f cdv A outer s0 H0 E).A) : ∃ t, PSs (cxLaw P w K mg base f cdv A outer s0 H0 E) (lawBody.drop 10) t ∧
    ∀ (D : Ends) (σ : St) (H : Hp) (ps qs : List Pr) (ids : List Int) (key1 key2 : Int → List Int) (gS gL : List (List Int)) (Wt : Int → Int) (l s t' u wd aS aL : Addr), SgF l s t' u wd aS aL σ → LawF K ps qs ids key1 key2 gS gL Wt s t' u wd aS aL H →
      (∀ σ' H', Sg l σ' → SameX s H H' → D.nx σ' H') → t D σ H := by
  have GNa : FnOk P w K mg base CX0 4 G.fNa G.fdNa ["_law_stream_here", "_law_groups"] (spNam K) := ok_nam G.Na G.Dr G.Ch G.Wo G.gDr G.gCh G.gWo G.D.gL G.bRange
  have GLo : FnOk P w K mg base CX0 1 G.fLo G.fdLo ["groups", "names"] (spLo K) := ok_lo G.Lo
  have GCo : FnOk P w K mg base CX0 4 G.fCo G.fdCo ["labels", "groups", "weights", "pins", "homes"] (spCo K) := ok_co G.Co G.D G.D2
  have GTo : FnOk P w K mg base CX0 1 G.fTo G.fdTo ["_law_labels", "_law_groups", "_law_weights"] (spLt K) := ok_to G.To G.D2.gEn
  have GHv : FnOk P w K mg base CX0 1 G.fHv G.fdHv ["_law_weights", "_law_rows", "_law_keys"] (spHv K) := ok_hv G.Hv G.bMin
  obtain ⟨ds, hds, bCo⟩ := bindsCo G.Co
  refine ⟨_, pss_cons (ps_set (i := 11) scLaw.nd rfl (Or.inl rfl) (pe_call GNa hr (by rfl) G.gNa G.Na.kp (bindsNa G.Na) .nil pass0 (pa_cons (pv 2) (pa_cons (pv 10) pa_nil))))
    (pss_cons (ps_set (i := 13) scLaw.nd rfl (Or.inl rfl) (pe_call GLo (hr.mono (by decide)) (by rfl) G.gLo G.Lo.kp (bindsLo G.Lo) .nil pass0 (pa_cons (pv 10) (pa_cons (pv 11) pa_nil))))
    (pss_cons (ps_par (i := 12) (j := 16) rfl scLaw.nd rfl rfl (by decide) rfl rfl (pa_cons (pe_call GCo hr (by rfl) G.gCo G.Co.kp bCo hds pass0 (pa_cons (pv 13) (pa_cons (pv 9) (pa_cons (pv 7) pa_nil)))) (pa_cons pe_dnewT pa_nil)) (by rfl))
    (pss_cons (ps_for PassesOwn.never rfl (pi_itemsT (pe_lk (pe_call GTo (hr.mono (by decide)) (by rfl) G.gTo G.To.kp (bindsTo G.To) .nil pass0 (pa_cons (pv 13) (pa_cons (pv 9) (pa_cons (pv 7) pa_nil))))))
        (pg_tup rfl (pgs_cons (pg_tup rfl (pgs_cons (pg_name (i := 17) scLaw.nd rfl (.inl rfl)) (pgs_cons (pg_name (i := 15) scLaw.nd rfl (.inl rfl)) pgs_nil))) (pgs_cons (pg_name (i := 18) scLaw.nd rfl (.inl rfl)) pgs_nil)))
      (pss_one (ps_dput (hu_of hr) (pv 16) (pe_tup (pa_cons (pv 15) (pa_cons (pv 17) pa_nil))) (pv 18) rfl)))
    (pss_cons (ps_if (PW.pt (pw_or (pt_cmpR (op_ne_dictA hr.units0) (pv 12) (pe_call GHv (hr.mono (by decide)) (by rfl) G.gHv G.Hv.kp (bindsHv G.Hv) .nil pass0 (pa_cons (pv 16) (pa_cons (pe_listRg rfl (by rfl) G.D2.gLi (prg_1 (by rfl) G.bRange (pe_callB call_len (by rfl) G.D.gL boot_len (pa_cons (pv 9) pa_nil)))) (pa_cons (pe_callB (call_sortedD rfl) (by rfl) G.D.gS rfl (pa_cons (pv 11) pa_nil)) pa_nil)))) (nomark _))
          (pw_or1 (pt_cmpR (op_neD hr.units) (pe_callB (call_sortedD rfl) (by rfl) G.D.gS rfl (pa_cons (pv 12) pa_nil)) (pe_callB (call_sortedD rfl) (by rfl) G.D.gS rfl (pa_cons (pv 11) pa_nil)) (nomark _)))))
        (pss_one (ps_ret pe_bl)) pss_nil)
    (pss_one (ps_if (pt_cmpR (op_ne_dictA hr.units0) (pe_call GCo hr (by rfl) G.gCo G.Co.kp bCo hds pass0 (pa_cons (pe_call GLo (hr.mono (by decide)) (by rfl) G.gLo G.Lo.kp (bindsLo G.Lo) .nil pass0 (pa_cons (pv 9) (pa_cons (pv 12) pa_nil))) (pa_cons (pv 10) (pa_cons (pv 7) pa_nil)))) (pv 11) (nomark _))
        (pss_one (ps_ret pe_bl)) pss_nil)))))), ?_⟩
  rintro D σ H ps qs ids key1 key2 gS gL Wt l s t' u wd aS aL ⟨y1, y3, y6, y8, y11, y12, y13, y14, y15, y16, y17, y18, y19, rfl⟩ F q
  have hlS : gS.flatten.length ≤ 12 := F.sit.S.len F.sit.len
  have hlL : gL.flatten.length ≤ 12 := F.sit.L.len F.sit.len
  have hgS := groups_len F.sit.S F.sit.len
  have hgL := groups_len F.sit.L F.sit.len
  -- names on the coarser groups
  obtain ⟨asL, eL, rL⟩ := id F.L
  have hal := paired_len rL
  refine ⟨_, rfl, _, rfl, s, aL, asL.map V.ref, rfl, F.st, F.nL, eL, by rw [List.length_map]; omega, fun na nm H1 nna nok sx1 st1 ena => ?_⟩
  rw [List.length_map, hal] at nok
  have F1 := F.keep sx1 st1
  have on := nok.on
  obtain ⟨lv1, lv2⟩ := on.levOk F.sit.L.nd hlL
  -- labels
  refine ⟨_, rfl, _, rfl, aL, na, gL, nm, rfl, F1.L, ena, on.pl, lv1, lv2, fun la H2 nla s2 hla => ?_⟩
  have F2 := F1.mono s2
  have sx2 := sx1.trans (SameX.of s2)
  have tab2 := F.sit.tabS (look (lev gL nm))
  have one2 : ∀ n n' p w1 w2, ((n, p), w1) ∈ ltab (look (lev gL nm)) Wt (evs gS gS.length) → ((n', p), w2) ∈ ltab (look (lev gL nm)) Wt (evs gS gS.length) → n = n' := fun n n' p w1 w2 h1 h2 => F.sit.oneB on h1 h2
  -- carried to the finer groups
  refine ⟨_, rfl, _, rfl, _, rfl, la, aS, wd, _, Wt, gS, rfl, hla, F2.S, F2.wS, hlS, tab2.nd, tab2.small hlS, starB one2, fun ta ns pls pr H3 nta s3 no gp prl eta => ?_⟩
  have F3 := F2.mono s3
  have sx3 := sx2.trans (SameX.of s3)
  intro ba nba
  have s4 : Same H3 (upd H3 ba (.dT [])) := same_upd nba
  refine ⟨_, _, rfl, ?_⟩
  generalize hH4 : upd H3 ba (.dT []) = H4 at s4
  have F4 := F3.mono s4
  have sx4 := sx3.trans (SameX.of s4)
  have eba : H4 ba = some (.dT []) := by rw [← hH4]; exact upd_same
  have eta4 := s4 _ _ eta
  have ena4 := s4 _ _ (s3 _ _ (s2 _ _ ena))
  have hla4 := (hla.mono s3).mono s4
  -- the law's own table
  refine ⟨_, rfl, _, rfl, _, rfl, la, aS, wd, _, Wt, gS, rfl, hla4, F4.S, F4.wS, hlS, fun tt H5 ntt s5 ett => ⟨tt, _, rfl, ett, True.intro, fun od => ⟨tt, od, _, rfl, upd_same, ?_⟩⟩⟩
  generalize htb : ltab (look (lev gL nm)) Wt (evs gS gS.length) = tb at *
  have ntl : ∀ b o, H4 b = some o → b ≠ tt := fun b o e => ne_of_none e ntt
  have k6 : ∀ b o, H4 b = some o → (upd H5 tt (.frz od (.dT (encT tb)))) b = some o := fun b o e => by
    rw [upd_ne (ntl b o e)]
    exact s5 _ _ e
  have s6 : Same H4 (upd H5 tt (.frz od (.dT (encT tb)))) := k6
  have e6 : (upd H5 tt (.frz od (.dT (encT tb)))) tt = some (.frz od (.dT (encT tb))) := upd_same
  generalize upd H5 tt (.frz od (.dT (encT tb))) = H6 at s6 e6
  have eba6 := s6 _ _ eba
  have nbt : ba ≠ tt := ntl _ _ eba
  have tbl : tb.length ≤ 12 := by
    rw [← htb]
    have h1 := ltab_len (look (lev gL nm)) Wt (evs gS gS.length)
    have h2 := evs_len12 hlS
    omega
  have hnd2 : ((t2b tb).map (·.1)).Nodup := t2b_nd tab2.nd
  refine for_it walk_itemsT (fun i σ H' => ∃ z15 z17 z18 : Option V, σ = [some (.ref l), y1, some (.ref s), y3, some (.ref t'), some (.ref u), y6, some (.ref wd), y8, some (.ref aS), some (.ref aL), some (.ref na), some (.ref ta), some (.ref la), y14, z15, some (.ref ba), z17, z18, y19] ∧
      (∀ b o, b ≠ ba → H6 b = some o → H' b = some o) ∧ H' ba = some (.dT (enc2 ((t2b tb).take i))))
    ⟨_, _, _, rfl, fun _ _ _ e => e, eba6⟩ (fun i σ H' _ h => ?_) (fun i x σ H' H7 hi h hy => ?_) (fun σ H7 h => ?_)
  · obtain ⟨z15, z17, z18, rfl, k, _⟩ := h
    exact k _ _ (Ne.symm nbt) e6
  · obtain ⟨z15, z17, z18, rfl, k, eB⟩ := h
    obtain ⟨T, kk, v, c, hk, rfl, nT, ec, rfl⟩ := hy
    obtain ⟨e, he, rfl, rfl⟩ := encT_at hk
    rw [encT_len] at hi
    have ec2 := ec
    rw [tup2] at ec2
    have sT : Same H' (upd H' T (.tup [.ref c, .int e.2])) := same_upd nT
    have eB2 := sT _ _ eB
    refine ⟨T, _, rfl, SqT.of upd_same, rfl, _, _, rfl, ⟨c, _, rfl, SqT.of (sT _ _ ec2), rfl, _, _, rfl, _, _, rfl, rfl, ?_⟩⟩
    refine ⟨_, _, rfl, rfl, ?_⟩
    refine ⟨_, rfl, _, rfl, _, rfl, _, rfl, (show 2 ≤ sizeLine by decide), fun T2 nT2 => ?_⟩
    have sT2 : Same (upd H' T (.tup [.ref c, .int e.2])) (upd (upd H' T (.tup [.ref c, .int e.2])) T2 (.tup [.int e.1.2, .str e.1.1])) := same_upd nT2
    have eT2 : (upd (upd H' T (.tup [.ref c, .int e.2])) T2 (.tup [.int e.1.2, .str e.1.1])) T2 = some (.tup ((k2 ((Sum.inl e.1.2 : Key), (Sum.inr e.1.1 : Key))).map kV)) := upd_same
    have hx : (t2b tb)[i]? = some (((Sum.inl e.1.2 : Key), (Sum.inr e.1.1 : Key)), e.2) := by
      unfold t2b
      rw [List.getElem?_map, he]
      rfl
    refine ⟨ba, _, rfl, DPut.t (sT2 _ _ eB2) eT2 (by rw [enc2_len, List.length_take]; exact small1000 (by omega)), ?_⟩
    refine ⟨_, _, _, rfl, fun b o hb eb => ?_, ?_⟩
    · rw [upd_ne hb]
      exact sT2 _ _ (sT _ _ (k _ _ hb eb))
    · rw [upd_same]
      exact congrArg (fun z => some (HO.dT z)) ((enc2_put _ _ _).trans (congrArg enc2 (take_putG hnd2 hx)))
  · obtain ⟨z15, z17, z18, rfl, k, eB⟩ := h
    have htk : (t2b tb).take (encT tb).length = t2b tb := List.take_of_length_le (by unfold t2b; rw [List.length_map, encT_len]; exact Nat.le_refl _)
    rw [htk] at eB
    have nb4 : ∀ b o, H3 b = some o → b ≠ ba := fun b o e => ne_of_none e nba
    have s37 : Same H3 H7 := fun b o e => k _ _ (nb4 b o e) (s6 _ _ (s4 _ _ e))
    have F7 := F3.mono s37
    have sx7 := sx3.trans (SameX.of s37)
    have eta7 := s37 _ _ eta
    have ena7 := s37 _ _ (s3 _ _ (s2 _ _ ena))
    obtain ⟨asS, eS, rS⟩ := id F7.S
    have hasl := paired_len rS
    have nml : nm.length ≤ 12 := by
      have h1 := len_sub on.inj (m := upTo gL.length) fun x hx => by
        obtain ⟨e, he, rfl⟩ := List.mem_map.mp hx
        exact upTo_mem (on.pl e he).1 (on.pl e he).2
      rw [List.length_map, upTo_len] at h1
      omega
    have kN : ∀ m : List (Str × Int), (encN m).map (·.1) = (m.map (·.1)).map Sum.inr := fun m => by
      unfold encN
      rw [List.map_map, List.map_map]
      rfl
    have okN : ∀ n ∈ nm.map (·.1), okS n := fun n hn => by
      obtain ⟨e, he, rfl⟩ := List.mem_map.mp hn
      exact (nok.ok e he).1
    -- told != heaviest
    refine ⟨_, rfl, ?_⟩
    have hrg : RgOk 0 ((asS.map V.ref).length : Int) := by
      rw [List.length_map, hasl]
      exact ⟨by decide, by decide, by omega, by omega, by omega⟩
    refine ⟨_, rfl, _, rfl, _, _, rfl, .inl ⟨_, eS, rfl⟩, _, rfl, hrg, fun ra nra => ?_⟩
    rw [List.length_map, hasl]
    have s8 : Same H7 (upd H7 ra (.lst (rgV 0 gS.length))) := same_upd nra
    refine ⟨_, rfl, na, encN nm, nm.map (·.1), rfl, .inl (s8 _ _ ena7), kN nm, by rw [List.length_map]; omega, fun sn sa hsn hss nsa => ?_⟩
    have s9 : Same (upd H7 ra (.lst (rgV 0 gS.length))) (upd (upd H7 ra (.lst (rgV 0 gS.length))) sa (.lst (sn.map V.str))) := same_upd nsa
    have era : (upd (upd H7 ra (.lst (rgV 0 gS.length))) sa (.lst (sn.map V.str))) ra = some (.lst (rgV 0 gS.length)) := s9 _ _ upd_same
    have esa : (upd (upd H7 ra (.lst (rgV 0 gS.length))) sa (.lst (sn.map V.str))) sa = some (.lst (sn.map V.str)) := upd_same
    generalize upd (upd H7 ra (.lst (rgV 0 gS.length))) sa (.lst (sn.map V.str)) = H9 at s9 era esa
    have s79 := s8.trans s9
    rw [rgV_upTo] at era
    rw [strs_kV] at esa
    have hsl : sn.length ≤ 12 := by
      have := hsn.length_eq
      rw [List.length_map] at this
      omega
    refine ⟨ba, ra, sa, t2b tb, (upTo gS.length).map Sum.inl, sn.map Sum.inr, rfl, s79 _ _ eB, SqL.of era, SqL.of esa, fun x hx y hy => ?_, fun x hx => ?_, by rw [List.length_map, upTo_len]; exact hgS, by rw [List.length_map]; exact hsl, fun ha hv H10 nha s10 hvo hvl eha => ?_⟩
    · obtain ⟨a, _, rfl⟩ := List.mem_map.mp hx
      obtain ⟨b, _, rfl⟩ := List.mem_map.mp hy
      rfl
    · obtain ⟨a, _, rfl⟩ := List.mem_map.mp hx
      exact True.intro
    have w0 : ∀ e ∈ tb, 0 < e.2 := fun e he => (tab2.wt e he).1
    have cB := claimB (rows := sn) (keys := upTo gS.length) tab2.nd w0 no gp one2 (fun n p wt h => by
      obtain ⟨a1, a2, id, hl⟩ := ent_in tab2 h
      exact ⟨hsn.mem_iff.mpr (lab_name on F.sit.L.nd hl), upTo_mem a1 a2⟩) hvo
    have s710 := s79.trans s10
    have hvk : ∀ k, k ∈ (encN pr).map (·.1) ↔ k ∈ (encH hv).map (·.1) := fun k => by
      have eH : (encH hv).map (·.1) = hv.map (·.1) := by
        unfold encH
        rw [List.map_map]
        rfl
      rw [kN, eH]
      constructor
      · intro h
        obtain ⟨n, hn, rfl⟩ := List.mem_map.mp h
        obtain ⟨p, hp⟩ := look_some_iff.mp hn
        exact look_key ((cB n p).mp hp)
      · intro h
        obtain ⟨v, hv2⟩ := look_some_iff.mp h
        obtain ⟨hk, hr2, _⟩ := hvo.best k v hv2
        obtain ⟨n, _, rfl⟩ := List.mem_map.mp hk
        obtain ⟨p, _, rfl⟩ := List.mem_map.mp hr2
        exact List.mem_map.mpr ⟨n, look_key ((cB n p).mpr hv2), rfl⟩
    have ndN : ∀ m : List (Str × Int), (m.map (·.1)).Nodup → ((encN m).map (·.1)).Nodup := fun m h => by
      rw [kN]
      exact List.Pairwise.map _ (fun a b h c => h (inr_inj _ _ c)) h
    have ndH : ((encH hv).map (·.1)).Nodup := by
      unfold encH
      rw [List.map_map]
      exact hvo.nd
    refine ⟨ta, ha, encN pr, encH hv, rfl, rfl, s710 _ _ eta7, eha, same_len (ndN pr gp.nd) ndH hvk, fun p hp => ?_, _, rfl, ?_⟩
    · obtain ⟨e, he, rfl⟩ := List.mem_map.mp hp
      refine ⟨?_, rfl⟩
      show valV (encH hv) (Sum.inr e.1) = some (V.int e.2)
      rw [encH_val, (cB e.1 e.2).mp (look_mem gp.nd he)]
      rfl
    refine iteF ?_
    -- sorted(told) != sorted(names)
    have allN : ∀ n, n ∈ nm.map (·.1) ↔ n ∈ pr.map (·.1) := fun n => by
      constructor
      · intro hn
        obtain ⟨e, he, rfl⟩ := List.mem_map.mp hn
        obtain ⟨p, wt, hm⟩ := F.sit.allB on he
        rw [htb] at hm
        obtain ⟨a1, a2, _⟩ := ent_in tab2 hm
        have hlk : look (t2b tb) (.inl p, .inr e.1) = some wt := by rw [look_t2b]; exact look_mem tab2.nd hm
        have h1 := hvo.all (.inr e.1) (List.mem_map.mpr ⟨e.1, hsn.mem_iff.mpr hn, rfl⟩) (.inl p) (List.mem_map.mpr ⟨p, upTo_mem a1 a2, rfl⟩) wt hlk
        obtain ⟨r, hr2⟩ := Option.ne_none_iff_exists'.mp h1
        obtain ⟨_, hr3, _⟩ := hvo.best _ _ hr2
        obtain ⟨p2, _, rfl⟩ := List.mem_map.mp hr3
        exact look_key ((cB e.1 p2).mpr hr2)
      · intro hn
        obtain ⟨p, hp⟩ := look_some_iff.mp hn
        obtain ⟨x, hx⟩ := gp.mem n p hp
        obtain ⟨wt, hm, _⟩ := xtab_mem.mp hx
        obtain ⟨_, _, id, hl⟩ := ent_in tab2 hm
        exact lab_name on F.sit.L.nd hl
    refine ⟨_, rfl, ta, encN pr, pr.map (·.1), rfl, .inl (s710 _ _ eta7), kN pr, by rw [List.length_map]; omega, fun y1s b1 hp1 hs1 nb1 => ?_⟩
    have s11 : Same H10 (upd H10 b1 (.lst (y1s.map V.str))) := same_upd nb1
    refine ⟨_, rfl, na, encN nm, nm.map (·.1), rfl, .inl (s11 _ _ (s710 _ _ ena7)), kN nm, by rw [List.length_map]; omega, fun y2s b2 hp2 hs2 nb2 => ?_⟩
    have s12 : Same (upd H10 b1 (.lst (y1s.map V.str))) (upd (upd H10 b1 (.lst (y1s.map V.str))) b2 (.lst (y2s.map V.str))) := same_upd nb2
    have eys : y1s = y2s := sorted_eq hs1 hs2 (hp1.trans ((perm_of_same gp.nd nok.nd fun x => (allN x).symm).trans hp2.symm))
    have oky : ∀ y ∈ y1s, okS y := fun y hy => okN y ((allN y).mpr (hp1.mem_iff.mp hy))
    subst eys
    refine ⟨.list (y1s.map PyData.str), .list (y1s.map PyData.str), .lst (SqL.of (s12 _ _ upd_same)) (dpStrs y1s), .lst (SqL.of upd_same) (dpStrs y1s), shapedStrs oky, shapedStrs oky, _, rfl, ?_⟩
    rw [eqvStrs oky]
    refine iteF ?_
    -- and back
    generalize upd (upd H10 b1 (.lst (y1s.map V.str))) b2 (.lst (y1s.map V.str)) = H12 at s12
    have s712 := (s710.trans s11).trans s12
    have F12 := F7.mono s712
    have sx12 := sx7.trans (SameX.of s712)
    have on2 : OnG pr gS.length := GPairs.on gp tab2
    obtain ⟨lw1, lw2⟩ := on2.levOk F.sit.S.nd hlS
    refine ⟨_, rfl, _, rfl, aS, ta, gS, pr, rfl, F12.S, s712 _ _ eta7, on2.pl, lw1, lw2, fun lb H13 nlb s13 hlb => ?_⟩
    have F13 := F12.mono s13
    have tab3 := F.sit.tabL (look (lev gS pr))
    have one3 : ∀ n p p' w1 w2, ((n, p), w1) ∈ ltab (look (lev gS pr)) Wt (evs gL gL.length) → ((n, p'), w2) ∈ ltab (look (lev gS pr)) Wt (evs gL gL.length) → p = p' := fun n p p' w1 w2 h1 h2 => F.sit.oneA on2 h1 h2
    refine ⟨_, rfl, _, rfl, lb, aL, wd, _, Wt, gL, rfl, hlb, F13.L, F13.wL, hlL, tab3.nd, tab3.small hlL, starA one3, fun tc ns3 pls3 pr3 H14 ntc s14 no3 gp3 pl3 etc => ?_⟩
    have bk := F.sit.back on (by rw [htb]; exact gp) allN gp3
    refine ⟨_, rfl, tc, na, encN pr3, encN nm, rfl, rfl, etc, s14 _ _ (s13 _ _ (s712 _ _ ena7)), ?_, fun p hp => ?_, _, rfl, ?_⟩
    · rw [encN_len, encN_len]
      refine same_len gp3.nd nok.nd fun n => ?_
      constructor
      · intro h
        obtain ⟨x, hx⟩ := look_some_iff.mp h
        exact look_key ((bk n x).mp hx)
      · intro h
        obtain ⟨x, hx⟩ := look_some_iff.mp h
        exact look_key ((bk n x).mpr hx)
    · obtain ⟨e, he, rfl⟩ := List.mem_map.mp hp
      refine ⟨?_, rfl⟩
      show valV (encN nm) (Sum.inr e.1) = some (V.int e.2)
      rw [encN_val, (bk e.1 e.2).mp (look_mem gp3.nd he)]
      rfl
    · refine iteF ?_
      exact q _ _ ⟨_, _, _, _, _, _, _, _, _, _, _, _, _, _, _, _, _, _, _, rfl⟩ ((sx12.trans (SameX.of s13)).trans (SameX.of s14))
end
end Kn

set_option Elab.async false
set_option linter.all false
set_option maxRecDepth 100000
set_option maxHeartbeats 4000000
/-! The law: the middle of a turn. -/
namespace Kn
open PySem PySem.Spec PyProof.Rows L2
section
theorem snocP {α β : Type} {F : α → β → Prop} : ∀ {l : List α} {m : List β} {a : α} {b : β}, Paired F l m → F a b → Paired F (l ++ [a]) (m ++ [b])
  | _, _, _, _, .nil, h => .cons h .nil
  | _, _, _, _, .cons h t, h2 => .cons h (snocP t h2)
theorem nd_snd {α β : Type} : ∀ {l : List (α × β)}, (l.map (·.1)).Nodup → (∀ a ∈ l, ∀ b ∈ l, a.2 = b.2 → a.1 = b.1) → (l.map (·.2)).Nodup
  | [], _, _ => List.nodup_nil
  | e :: l, hn, h => by
    rw [List.map_cons, List.nodup_cons] at hn ⊢
    refine ⟨fun hm => ?_, nd_snd hn.2 fun a ha b hb => h a (List.mem_cons_of_mem _ ha) b (List.mem_cons_of_mem _ hb)⟩
    obtain ⟨b, hb, e2⟩ := List.mem_map.mp hm
    exact hn.1 (List.mem_map.mpr ⟨b, hb, h b (List.mem_cons_of_mem _ hb) e List.mem_cons_self e2⟩)
/-- turned around -/
def swp (hv : List (Key × Key)) : List (Key × Key) := hv.map fun e => (e.2, e.1)
theorem bindsFin {K : PySem.W.Frag} {f : Addr} {fd : FuncData} (F : FnP K "is_finer" (top 8) f fd) : Binds K fd ["rule", "other"] [] := FunD.bindsN F fun _ _ _ _ _ _ us hl => match us, hl with | [_, _], _ => rfl
variable {P : Program} {w : World} {K : PySem.W.Frag} {mg : Str → Option Value} {base : Heap} {f : Addr} {fd : FuncData} {cdv : Value} {A : Around} {outer : List Env} {s0 : Shared} {H0 : Hp} {E : XK}
theorem law_t2 (G : Fns K mg) (hr : Room 4 (cxLaw P w K mg base f cdv A outer s0 H0 E).A) : ∃ t, PSs (cxLaw P w K mg base f cdv A outer s0 H0 E) (lawBody.drop 6) t ∧
    ∀ (D : Ends) (σ : St) (H : Hp) (ps qs : List Pr) (ids : List Int) (key1 key2 : Int → List Int) (gS gL : List (List Int)) (Wt : Int → Int) (l s t' u wd aS aL : Addr), SgF l s t' u wd aS aL σ → LawF K ps qs ids key1 key2 gS gL Wt s t' u wd aS aL H →
      (∀ σ' H', Sg l σ' → SameX s H H' → D.nx σ' H') → t D σ H := by
  obtain ⟨t3, h3, r3⟩ := law_t3 G hr
  have GNa : FnOk P w K mg base CX0 4 G.fNa G.fdNa ["_law_stream_here", "_law_groups"] (spNam K) := ok_nam G.Na G.Dr G.Ch G.Wo G.gDr G.gCh G.gWo G.D.gL G.bRange
  have GLo : FnOk P w K mg base CX0 1 G.fLo G.fdLo ["groups", "names"] (spLo K) := ok_lo G.Lo
  have GCo : FnOk P w K mg base CX0 4 G.fCo G.fdCo ["labels", "groups", "weights", "pins", "homes"] (spCo K) := ok_co G.Co G.D G.D2
  have GTo : FnOk P w K mg base CX0 1 G.fTo G.fdTo ["_law_labels", "_law_groups", "_law_weights"] (spLt K) := ok_to G.To G.D2.gEn
  have GHv : FnOk P w K mg base CX0 1 G.fHv G.fdHv ["_law_weights", "_law_rows", "_law_keys"] (spHv K) := ok_hv G.Hv G.bMin
  have GFi : FnOk P w K mg base CX0 1 G.fFi G.fdFi ["rule", "other"] (spFin K) := ok_fin G.Fi G.bDict G.bAll
  obtain ⟨ds, hds, bCo⟩ := bindsCo G.Co
  refine ⟨_, pss_cons (ps_set (i := 11) scLaw.nd rfl (Or.inl rfl) (pe_call GNa hr (by rfl) G.gNa G.Na.kp (bindsNa G.Na) .nil pass0 (pa_cons (pv 2) (pa_cons (pv 9) pa_nil))))
    (pss_cons (ps_par (i := 12) (j := 13) rfl scLaw.nd rfl rfl (by decide) rfl rfl (pa_cons (pe_call GCo hr (by rfl) G.gCo G.Co.kp bCo hds pass0
        (pa_cons (pe_call GLo (hr.mono (by decide)) (by rfl) G.gLo G.Lo.kp (bindsLo G.Lo) .nil pass0 (pa_cons (pv 9) (pa_cons (pv 11) pa_nil))) (pa_cons (pv 10) (pa_cons (pv 7) pa_nil))))
        (pa_cons (pe_call GLo (hr.mono (by decide)) (by rfl) G.gLo G.Lo.kp (bindsLo G.Lo) .nil pass0 (pa_cons (pv 9) (pa_cons (pv 11) pa_nil))) pa_nil)) (by rfl))
    (pss_cons (ps_set (i := 14) scLaw.nd rfl (Or.inr rfl) (pe_call GHv (hr.mono (by decide)) (by rfl) G.gHv G.Hv.kp (bindsHv G.Hv) .nil pass0
        (pa_cons (pe_call GTo (hr.mono (by decide)) (by rfl) G.gTo G.To.kp (bindsTo G.To) .nil pass0 (pa_cons (pv 13) (pa_cons (pv 10) (pa_cons (pv 7) pa_nil))))
        (pa_cons (pe_callB (call_sortedD rfl) (by rfl) G.D.gS rfl (pa_cons (pv 11) pa_nil))
        (pa_cons (pe_listRg rfl (by rfl) G.D2.gLi (prg_1 (by rfl) G.bRange (pe_callB call_len (by rfl) G.D.gL boot_len (pa_cons (pv 10) pa_nil)))) pa_nil)))))
    (pss_cons (ps_if (PW.pt (pw_or (pt_not (pt_val (pe_call GFi (hr.mono (by decide)) (by rfl) G.gFi G.Fi.kp (bindsFin G.Fi) .nil pass0 (pa_cons (pv 4) (pa_cons (pv 5) pa_nil)))))
          (pw_or1 (pt_cmpR (op_ne_dictA hr.units0) (pv 12) (pe_callTy (call_dictP rfl) (by rfl) G.bDict rfl (pa_cons (pe_lock
            (pe_lc (own := [("_law_spot", 15)]) (tt := tYes) (g := gName 15) rfl scLaw.nd (pi_keys (pv 14)) (blkOk_by (N := nLaw) (sc := defScope (top 33)) (by decide +kernel))
              (fun _ _ _ _ _ => pg_name (i := 15) scLaw.nd rfl (.inl rfl)) (fun _ _ _ _ _ => pts_nil)
              (fun _ _ _ _ _ => pe_tup (pa_cons (pe_dget (hu_of hr) (pv 14) (pv 15) (fun _ _ => rfl)) (pa_cons (pv 15) pa_nil))))) pa_nil)) (nomark _)))))
        (pss_one (ps_ret pe_bl)) pss_nil) h3))), ?_⟩
  rintro D σ H ps qs ids key1 key2 gS gL Wt l s t' u wd aS aL ⟨y1, y3, y6, y8, y11, y12, y13, y14, y15, y16, y17, y18, y19, rfl⟩ F q
  have hlS : gS.flatten.length ≤ 12 := F.sit.S.len F.sit.len
  have hlL : gL.flatten.length ≤ 12 := F.sit.L.len F.sit.len
  have hgS := groups_len F.sit.S F.sit.len
  have hgL := groups_len F.sit.L F.sit.len
  -- names on the finer groups
  obtain ⟨asS, eS, rS⟩ := id F.S
  have hasl := paired_len rS
  refine ⟨_, rfl, _, rfl, s, aS, asS.map V.ref, rfl, F.st, F.nS, eS, by rw [List.length_map]; omega, fun na nm H1 nna nok sx1 st1 ena => ?_⟩
  rw [List.length_map, hasl] at nok
  have F1 := F.keep sx1 st1
  have on := nok.on
  obtain ⟨lv1, lv2⟩ := on.levOk F.sit.S.nd hlS
  refine ⟨_, rfl, _, rfl, aS, na, gS, nm, rfl, F1.S, ena, on.pl, lv1, lv2, fun lb H2 nlb s2 hlb => ?_⟩
  have F2 := F1.mono s2
  have tab2 := F.sit.tabL (look (lev gS nm))
  have one2 : ∀ n p p' w1 w2, ((n, p), w1) ∈ ltab (look (lev gS nm)) Wt (evs gL gL.length) → ((n, p'), w2) ∈ ltab (look (lev gS nm)) Wt (evs gL gL.length) → p = p' := fun n p p' w1 w2 h1 h2 => F.sit.oneA on h1 h2
  -- carried to the coarser groups
  refine ⟨_, rfl, _, rfl, lb, aL, wd, _, Wt, gL, rfl, hlb, F2.L, F2.wL, hlL, tab2.nd, tab2.small hlL, starA one2, fun ta ns pls pr H3 nta s3 no gp prl eta => ?_⟩
  have F3 := F2.mono s3
  have ena3 := s3 _ _ (s2 _ _ ena)
  refine ⟨_, rfl, _, rfl, aS, na, gS, nm, rfl, F3.S, ena3, on.pl, lv1, lv2, fun la H4 nla s4 hla => ?_⟩
  refine ⟨_, _, rfl, ?_⟩
  have F4 := F3.mono s4
  have eta4 := s4 _ _ eta
  have ena4 := s4 _ _ ena3
  have sx4 : SameX s H H4 := ((sx1.trans (SameX.of s2)).trans (SameX.of s3)).trans (SameX.of s4)
  -- the best by the law's own table
  refine ⟨_, rfl, _, rfl, _, rfl, la, aL, wd, _, Wt, gL, rfl, hla, F4.L, F4.wL, hlL, fun tt H5 ntt s5 ett => ?_⟩
  generalize htb : ltab (look (lev gS nm)) Wt (evs gL gL.length) = tb at *
  have F5 := F4.mono s5
  have tbl : tb.length ≤ 12 := by
    rw [← htb]
    have h1 := ltab_len (look (lev gS nm)) Wt (evs gL gL.length)
    have h2 := evs_len12 hlL
    omega
  have kN : ∀ m : List (Str × Int), (encN m).map (·.1) = (m.map (·.1)).map Sum.inr := fun m => by
    unfold encN
    rw [List.map_map, List.map_map]
    rfl
  have nml : nm.length ≤ 12 := by
    have h1 := len_sub on.inj (m := upTo gS.length) fun x hx => by
      obtain ⟨e, he, rfl⟩ := List.mem_map.mp hx
      exact upTo_mem (on.pl e he).1 (on.pl e he).2
    rw [List.length_map, upTo_len] at h1
    omega
  refine ⟨_, rfl, na, encN nm, nm.map (·.1), rfl, .inl (s5 _ _ ena4), kN nm, by rw [List.length_map]; omega, fun sn sa hsn hss nsa => ?_⟩
  have s8 : Same H5 (upd H5 sa (.lst (sn.map V.str))) := same_upd nsa
  have F8 := F5.mono s8
  obtain ⟨asL, eL, rL⟩ := id F8.L
  have hal := paired_len rL
  have hrg : RgOk 0 ((asL.map V.ref).length : Int) := by
    rw [List.length_map, hal]
    exact ⟨by decide, by decide, by omega, by omega, by omega⟩
  refine ⟨_, rfl, _, _, rfl, .inl ⟨_, eL, rfl⟩, _, rfl, hrg, fun ra nra => ?_⟩
  rw [List.length_map, hal]
  have s9 : Same (upd H5 sa (.lst (sn.map V.str))) (upd (upd H5 sa (.lst (sn.map V.str))) ra (.lst (rgV 0 gL.length))) := same_upd nra
  have esa : (upd (upd H5 sa (.lst (sn.map V.str))) ra (.lst (rgV 0 gL.length))) sa = some (.lst (sn.map V.str)) := s9 _ _ upd_same
  have era : (upd (upd H5 sa (.lst (sn.map V.str))) ra (.lst (rgV 0 gL.length))) ra = some (.lst (rgV 0 gL.length)) := upd_same
  generalize upd (upd H5 sa (.lst (sn.map V.str))) ra (.lst (rgV 0 gL.length)) = H9 at s9 era esa
  have s59 := s8.trans s9
  rw [rgV_upTo] at era
  rw [strs_kV] at esa
  have hsl : sn.length ≤ 12 := by
    have := hsn.length_eq
    rw [List.length_map] at this
    omega
  have okN : ∀ n ∈ nm.map (·.1), okS n := fun n hn => by
    obtain ⟨e, he, rfl⟩ := List.mem_map.mp hn
    exact (nok.ok e he).1
  refine ⟨tt, sa, ra, t2a tb, sn.map Sum.inr, (upTo gL.length).map Sum.inl, rfl, by rw [enc_t2a]; exact s59 _ _ ett, SqL.of esa, SqL.of era, fun x hx y hy => ?_, fun x hx => ?_, by rw [List.length_map]; exact hsl, by rw [List.length_map, upTo_len]; exact hgL, fun ha hv H10 nha s10 hvo hvl eha => ?_⟩
  · obtain ⟨a, _, rfl⟩ := List.mem_map.mp hx
    obtain ⟨b, _, rfl⟩ := List.mem_map.mp hy
    rfl
  · obtain ⟨a, ha, rfl⟩ := List.mem_map.mp hx
    exact okN a (hsn.mem_iff.mp ha)
  have w0 : ∀ e ∈ tb, 0 < e.2 := fun e he => (tab2.wt e he).1
  have cA := claimA (rows := sn) (keys := upTo gL.length) tab2.nd w0 no gp one2 (fun n p wt h => by
    obtain ⟨a1, a2, id, hl⟩ := ent_in tab2 h
    exact ⟨hsn.mem_iff.mpr (lab_name on F.sit.S.nd hl), upTo_mem a1 a2⟩) hvo
  have s5A := s59.trans s10
  have F10 := F5.mono s5A
  have eta10 := s5A _ _ (s5 _ _ eta4)
  have sx10 := (sx4.trans (SameX.of s5)).trans (SameX.of s5A)
  have kinds : ∀ e ∈ hv, ∃ p n, e = ((Sum.inl p : Key), (Sum.inr n : Key)) := fun e he => by
    obtain ⟨hk, hr2, _⟩ := hvo.best e.1 e.2 (look_mem hvo.nd he)
    obtain ⟨p, _, hp⟩ := List.mem_map.mp hk
    obtain ⟨n, _, hn⟩ := List.mem_map.mp hr2
    exact ⟨p, n, Prod.ext hp.symm hn.symm⟩
  have swnd : ((swp hv).map (·.1)).Nodup := by
    have e : (swp hv).map (·.1) = hv.map (·.2) := by
      unfold swp
      rw [List.map_map]
      rfl
    rw [e]
    refine nd_snd hvo.nd fun a ha b hb e2 => ?_
    obtain ⟨p, n, rfl⟩ := kinds a ha
    obtain ⟨p2, n2, rfl⟩ := kinds b hb
    obtain rfl : n = n2 := inr_inj _ _ e2
    have h1 := (cA n p).mpr (look_mem hvo.nd ha)
    have h2 := (cA n p2).mpr (look_mem hvo.nd hb)
    rw [h1] at h2
    cases h2
    rfl
  have cS : ∀ n p, look pr n = some p ↔ look (swp hv) (.inr n) = some (.inl p) := fun n p => by
    rw [cA n p]
    constructor
    · intro h
      exact look_mem swnd (List.mem_map.mpr ⟨_, look_in h, rfl⟩)
    · intro h
      obtain ⟨⟨a, b⟩, he, e2⟩ := List.mem_map.mp (look_in h)
      cases e2
      exact look_mem hvo.nd he
  have eH : ∀ m : List (Key × Key), (encH m).map (·.1) = m.map (·.1) := fun m => by
    unfold encH
    rw [List.map_map]
    rfl
  have hnd : ((encH (swp hv)).map (·.1)).Nodup := by
    rw [eH]
    exact swnd
  -- the test
  refine ⟨_, rfl, _, rfl, t', u, ps, qs, rfl, F10.rt, F10.ru, F10.col, F10.co, F10.pos, F10.ql, fun H11 s11 => ⟨_, rfl, ?_⟩⟩
  refine iteF ?_
  have eha11 := s11 _ _ eha
  refine ⟨_, rfl, ?_⟩
  refine ⟨ha, _, eha11, True.intro, fun od => ?_⟩
  refine ⟨_, rfl, ha, od, rfl, .inl ⟨encH hv, upd_same, fun DD nDD => ?_⟩⟩
  generalize hHL : upd H11 ha (.frz od (.dK (encH hv))) = HL at nDD
  have eL2 : HL ha = some (.frz od (.dK (encH hv))) := by rw [← hHL]; exact upd_same
  refine lc_it walk_keys (fun i Hc => ∃ pl : List Addr, Hc DD = some (.lst (pl.map V.ref)) ∧ pl.length = i ∧ Paired (fun p (kv : Key × V) => Hc p = some (.tup [kV kv.1, kv.2])) pl (encH ((swp hv).take i)) ∧ Same HL Hc) ⟨[], upd_same, rfl, .nil, same_upd nDD⟩ (fun i Hc _ h => ?_) (fun i x Hc Hc' hi h hy => ?_) (fun Hc h => ?_)
  · obtain ⟨_, _, _, _, sm⟩ := h
    exact sm _ _ eL2
  · obtain ⟨pl, eD, hpl, hp, sm⟩ := h
    obtain ⟨rfl, k, v, hk, rfl⟩ := hy
    rw [encH_len] at hi
    unfold encH at hk
    rw [List.getElem?_map, Option.map_eq_some_iff] at hk
    obtain ⟨e, he, e2⟩ := hk
    cases e2
    have hem := List.mem_of_getElem? he
    refine ⟨rfl, _, rfl, _, rfl, ha, kV e.2, rfl, .inl ⟨encH hv, e.1, .inr ⟨od, sm _ _ eL2⟩, rfl, by rw [encH_val, look_mem hvo.nd hem]; rfl⟩, _, rfl, (show 2 ≤ sizeLine by decide), fun T nT => ?_⟩
    have sT : Same Hc' (upd Hc' T (.tup [kV e.2, kV e.1])) := same_upd nT
    refine ⟨_, sT _ _ eD, by rw [List.length_map]; exact small1000 (by omega), pl ++ [T], ?_, by rw [List.length_append, hpl]; rfl, ?_, ?_⟩
    · rw [upd_same, List.map_append]
      rfl
    · have et : encH ((swp hv).take (i + 1)) = encH ((swp hv).take i) ++ [(e.2, kV e.1)] := by
        have : (swp hv)[i]? = some (e.2, e.1) := by
          unfold swp
          rw [List.getElem?_map, he]
          rfl
        rw [List.take_add_one, this]
        unfold encH
        rw [List.map_append]
        rfl
      rw [et]
      have nDT : ∀ b : Addr, ∀ xs, Hc' b = some (.tup xs) → b ≠ DD := fun b xs e1 c => by
        rw [c, eD] at e1
        exact nomatch e1
      have nTD : T ≠ DD := fun c => by
        rw [c, eD] at nT
        exact nomatch nT
      refine snocP (L2.Paired.mapP hp fun p kv e1 => ?_) ?_
      · rw [upd_ne (nDT _ _ e1)]
        exact sT _ _ e1
      · rw [upd_ne nTD, upd_same]
    · have nD0 : HL DD = none := nDD
      intro b o e1
      have hb : b ≠ DD := fun c => by
        rw [c, nD0] at e1
        exact nomatch e1
      rw [upd_ne hb]
      exact sT _ _ (sm _ _ e1)
  · obtain ⟨pl, eD, hpl, hp, sm⟩ := h
    have htk : (swp hv).take (encH hv).length = swp hv := List.take_of_length_le (by unfold swp; rw [List.length_map, encH_len]; exact Nat.le_refl _)
    rw [htk] at hp
    refine ⟨sm _ _ eL2, ?_⟩
    have s12 : Same H11 (upd Hc ha (.dK (encH hv))) := same_lock eha11 (by rw [hHL]; exact sm)
    have nDh : DD ≠ ha := fun c => by
      rw [c, eL2] at nDD
      exact nomatch nDD
    have eD2 : (upd Hc ha (.dK (encH hv))) DD = some (.lst (pl.map V.ref)) := by rw [upd_ne nDh]; exact eD
    refine ⟨DD, pl, encH (swp hv), rfl, SqL.of eD2, L2.Paired.mapP hp fun p kv e1 => SqT.of ?_, fun dd ndd => ?_⟩
    · have : p ≠ ha := fun c => by
        have := sm _ _ eL2
        rw [← c, e1] at this
        exact nomatch this
      rw [upd_ne this]
      exact e1
    rw [mergeK_nd (encH (swp hv)) [] hnd, List.nil_append]
    generalize upd Hc ha (.dK (encH hv)) = H12 at s12 ndd eD2
    have s13 : Same H12 (upd H12 dd (.dK (encH (swp hv)))) := same_upd ndd
    have s1013 := (s11.trans s12).trans s13
    refine ⟨ta, dd, encN pr, encH (swp hv), rfl, rfl, s1013 _ _ eta10, upd_same, ?_, fun p hp => ?_, _, rfl, ?_⟩
    · refine same_len ?_ hnd fun k => ?_
      · rw [kN]
        exact List.Pairwise.map _ (fun a b h c => h (inr_inj _ _ c)) gp.nd
      · rw [kN, eH]
        constructor
        · intro h
          obtain ⟨n, hn, rfl⟩ := List.mem_map.mp h
          obtain ⟨p, hp⟩ := look_some_iff.mp hn
          exact look_key ((cS n p).mp hp)
        · intro h
          obtain ⟨e, he, rfl⟩ := List.mem_map.mp h
          obtain ⟨e2, he2, rfl⟩ := List.mem_map.mp he
          obtain ⟨p, n, rfl⟩ := kinds e2 he2
          exact List.mem_map.mpr ⟨n, look_key ((cA n p).mpr (look_mem hvo.nd he2)), rfl⟩
    · obtain ⟨e, he, rfl⟩ := List.mem_map.mp hp
      refine ⟨?_, rfl⟩
      show valV (encH (swp hv)) (Sum.inr e.1) = some (V.int e.2)
      rw [encH_val, (cS e.1 e.2).mp (look_mem gp.nd he)]
      rfl
    refine iteF ?_
    have sx13 := sx10.trans (SameX.of s1013)
    have F13 := F10.mono s1013
    exact r3 D _ _ ps qs ids key1 key2 gS gL Wt l s t' u wd aS aL ⟨_, _, _, _, _, _, _, _, _, _, _, _, _, rfl⟩ F13 fun σ' H' g sx => q σ' H' g (sx13.trans sx)
end
end Kn

set_option Elab.async false
set_option linter.all false
set_option maxRecDepth 100000
set_option maxHeartbeats 4000000
/-! The law: the items of a turn and their groups. -/
namespace Kn
open PySem PySem.Spec PyProof.Rows L2
section
abbrev XI : Type := Item × Addr
def upFrom (i : Nat) : List Int := (List.range i).map fun k => (1 : Int) + (k : Nat)
theorem upFrom_mem {i : Nat} {x : Int} (h : x ∈ upFrom i) : x < 1 + (i : Int) := by
  obtain ⟨k, hk, rfl⟩ := List.mem_map.mp h
  have := List.mem_range.mp hk
  omega
theorem upFrom_nd (i : Nat) : (upFrom i).Nodup := List.Pairwise.map _ (fun a b h c => h (by omega)) List.nodup_range
theorem upFrom_len (i : Nat) : (upFrom i).length = i := by
  unfold upFrom
  rw [List.length_map, List.length_range]
def kvI (xs : List XI) : List (Key × V) := xs.map fun e => ((Sum.inl e.1.1 : Key), V.ref e.2)
def kvW (xs : List XI) : List (Key × V) := xs.map fun e => ((Sum.inl e.1.1 : Key), V.int e.1.2.1)
theorem kv_none {f : XI → V} {xs : List XI} {i : Nat} (h : xs.map (·.1.1) = upFrom i) : valV (xs.map fun e => ((Sum.inl e.1.1 : Key), f e)) (.inl (1 + (i : Int))) = none := by
  cases c : valV (xs.map fun e => ((Sum.inl e.1.1 : Key), f e)) (.inl (1 + (i : Int))) with
  | none => rfl
  | some v =>
    have h1 := valV_in c
    rw [List.map_map] at h1
    obtain ⟨e, he, h2⟩ := List.mem_map.mp h1
    have h3 : e.1.1 ∈ upFrom i := by rw [← h]; exact List.mem_map.mpr ⟨e, he, rfl⟩
    have h4 := upFrom_mem h3
    have h5 : e.1.1 = 1 + (i : Int) := inl_inj _ _ h2
    omega
structure LInv (H' : Hp) (it wd : Addr) (n i : Nat) (xs : List XI) : Prop where
  ids : xs.map (·.1.1) = upFrom i
  ok : ∀ e ∈ xs, e.1.2.2.length = n ∧ 0 < e.1.2.1 ∧ e.1.2.1 ≤ 3
  at_ : ∀ e ∈ xs, ∃ fa, H' e.2 = some (.tup [.int e.1.2.1, .ref fa]) ∧ H' fa = some (.tup (e.1.2.2.map V.int))
  ei : H' it = some (.dK (kvI xs))
  ew : H' wd = some (.dK (kvW xs))
theorem pairedOf {α β γ : Type} {F : β → γ → Prop} {f : α → β} {g : α → γ} : ∀ xs : List α, (∀ e ∈ xs, F (f e) (g e)) → Paired F (xs.map f) (xs.map g)
  | [], _ => .nil
  | x :: xs, h => .cons (h x List.mem_cons_self) (pairedOf xs fun e he => h e (List.mem_cons_of_mem _ he))
theorem LInv.items {H' : Hp} {it wd : Addr} {n i : Nat} {xs : List XI} (v : LInv H' it wd n i xs) : ItemsAt H' it (xs.map (·.1)) :=
  ⟨kvI xs, v.ei, pairedOf xs fun e he => ⟨rfl, e.2, let ⟨fa, h⟩ := v.at_ e he; ⟨fa, rfl, h⟩⟩⟩
theorem LInv.idl {H' : Hp} {it wd : Addr} {n i : Nat} {xs : List XI} (v : LInv H' it wd n i xs) : idsOf (xs.map (·.1)) = upFrom i := by
  unfold idsOf
  rw [List.map_map]
  exact v.ids
theorem LInv.fld {H' : Hp} {it wd : Addr} {n i : Nat} {xs : List XI} (v : LInv H' it wd n i xs) {id : Int} (h : id ∈ idsOf (xs.map (·.1))) : (fieldsOf (xs.map (·.1)) id).length = n := by
  obtain ⟨x, hx⟩ := look_some_iff.mp h
  unfold fieldsOf
  rw [hx]
  obtain ⟨e, he, h2⟩ := List.mem_map.mp (look_in hx)
  have h3 := (v.ok e he).1
  rw [h2] at h3
  exact h3
def wtOf (xs : List XI) (id : Int) : Int := (look (xs.map fun e => (e.1.1, e.1.2.1)) id).getD 0
theorem LInv.wgt {H' : Hp} {it wd : Addr} {n i : Nat} {xs : List XI} (v : LInv H' it wd n i xs) : WgtAt H' wd (wtOf xs) (upFrom i) ∧ ∀ id ∈ upFrom i, 0 < wtOf xs id ∧ wtOf xs id ≤ 3 := by
  have key : ∀ id ∈ upFrom i, ∃ w, look (xs.map fun e => (e.1.1, e.1.2.1)) id = some w ∧ 0 < w ∧ w ≤ 3 := fun id h => by
    rw [← v.ids] at h
    have h1 : id ∈ (xs.map fun e => (e.1.1, e.1.2.1)).map (·.1) := by
      rw [List.map_map]
      exact h
    obtain ⟨w, hw⟩ := look_some_iff.mp h1
    obtain ⟨e, he, h2⟩ := List.mem_map.mp (look_in hw)
    have h3 := (v.ok e he).2
    cases h2
    exact ⟨_, hw, h3⟩
  refine ⟨⟨kvW xs, v.ew, fun id h => ?_⟩, fun id h => ?_⟩
  · obtain ⟨w, hw, _⟩ := key id h
    have e1 : kvW xs = (xs.map fun e => (e.1.1, e.1.2.1)).map fun e => ((Sum.inl e.1 : Key), V.int e.2) := by
      unfold kvW
      rw [List.map_map]
      rfl
    rw [e1, valV_enc (fun a : Int => (Sum.inl a : Key)) V.int inl_inj id]
    unfold wtOf
    rw [hw]
    rfl
  · obtain ⟨w, hw, h2⟩ := key id h
    unfold wtOf
    rw [hw]
    exact h2
theorem keyV_fine {ps qs : List Pr} {x y : List Int} (co : Coarser ps qs) (hp : ∀ z ∈ ps, 0 < z.2.2) (h : keyV ps x = keyV ps y) : keyV qs x = keyV qs y := by
  have h1 : ∀ z ∈ ps, x.getD (z.2.1 - 1).toNat 0 / z.2.2 = y.getD (z.2.1 - 1).toNat 0 / z.2.2 := List.map_inj_left.mp h
  refine List.map_inj_left.mpr fun q hq => ?_
  obtain ⟨z, hz, k, k1, k3, e1, e2⟩ := co q hq
  have h0 := Int.le_of_lt (hp z hz)
  rw [e1, e2, ← Int.ediv_ediv_of_nonneg h0, ← Int.ediv_ediv_of_nonneg h0, h1 z hz]
theorem keep3 {H H' : Hp} {t s it wd : Addr} {ps : List Pr} {k1 k2 : List (Key × V)} (h : RuleAt H t ps) (hs : StrAt H s) (ei : H it = some (.dK k1)) (ew : H wd = some (.dK k2)) (fr : ∀ b o, b ≠ s → b ≠ it → b ≠ wd → H b = some o → H' b = some o) : RuleAt H' t ps := by
  have tups : ∀ b o xs, H b = some o → (o = .tup xs ∨ ∃ r, o = .frz r (.tup xs)) → H' b = some o := fun b o xs e c => by
    refine fr b o (fun c2 => ?_) (fun c2 => ?_) (fun c2 => ?_) e
    · obtain ⟨a1, a2, hs⟩ := hs
      rw [c2, hs] at e
      rcases c with rfl | ⟨_, rfl⟩ <;> exact nomatch e
    · rw [c2, ei] at e
      rcases c with rfl | ⟨_, rfl⟩ <;> exact nomatch e
    · rw [c2, ew] at e
      rcases c with rfl | ⟨_, rfl⟩ <;> exact nomatch e
  obtain ⟨⟨o, q, d⟩, hp⟩ := h
  exact ⟨⟨o, tups _ _ _ q (.inr ⟨_, rfl⟩), d⟩, fun z hz => tups _ _ _ (hp z hz) (.inl rfl)⟩
theorem bindsGi {K : PySem.W.Frag} {f : Addr} {fd : FuncData} (F : FnP K "group_items" (top 7) f fd) : Binds K fd ["rule", "items"] [] := FunD.bindsN F fun _ _ _ _ _ _ us hl => match us, hl with | [_, _], _ => rfl
/-- .. with the rules and the empty items -/
def SgB (l s t u it wd : Addr) (n : Int) (σ : St) : Prop := ∃ y1 y8 y9 y10 y11 y12 y13 y14 y15 y16 y17 y18 y19 : Option V, σ = [some (.ref l), y1, some (.ref s), some (.int n), some (.ref t), some (.ref u), some (.ref it), some (.ref wd), y8, y9, y10, y11, y12, y13, y14, y15, y16, y17, y18, y19]
variable {P : Program} {w : World} {K : PySem.W.Frag} {mg : Str → Option Value} {base : Heap} {f : Addr} {fd : FuncData} {cdv : Value} {A : Around} {outer : List Env} {s0 : Shared} {H0 : Hp} {E : XK}
theorem law_tb (G : Fns K mg) (hr : Room 4 (cxLaw P w K mg base f cdv A outer s0 H0 E).A) : ∃ t, PSs (cxLaw P w K mg base f cdv A outer s0 H0 E) (lawBody.drop 4) t ∧
    ∀ (D : Ends) (σ : St) (H : Hp) (ps qs : List Pr) (n : Nat) (l s t' u it wd : Addr), SgB l s t' u it wd n σ → StrAt H s → RuleAt H t' ps → RuleAt H u qs → H it = some (.dK []) → H wd = some (.dK []) → it ≠ wd → n ≤ 3 → ps.length ≤ 3 → (ps.map (·.2.1)).Nodup →
      (∀ z ∈ ps, 1 ≤ z.2.1 ∧ z.2.1 ≤ (n : Int) ∧ 0 < z.2.2 ∧ z.2.2 ≤ 2) → Coarser ps qs → qs.length ≤ 3 →
      (∀ σ' H', Sg l σ' → (∀ b o, b ≠ s → b ≠ it → b ≠ wd → H b = some o → H' b = some o) → D.nx σ' H') → t D σ H := by
  obtain ⟨t2, h2, r2⟩ := law_t2 G hr
  have GD : FnOk P w K mg base CX0 1 G.fDr G.fdDr ["_law_stream_here", "_law_size"] spDraw := ok_draw G.Dr
  have GG : FnOk P w K mg base CX0 3 G.fGi G.fdGi ["rule", "items"] (spGi K) := ok_gi G.Gi G.Kg G.Ko G.gKg G.gKo G.bTuple G.D.gS G.D2.gLi
  refine ⟨_, pss_cons (ps_for PassesOwn.never rfl (pi_range2 (by rfl) G.bRange (pa_cons pe_int (pa_cons (pe_op op_add pe_int (pe_call GD (hr.mono (by decide)) (by rfl) G.gDr G.Dr.kp (bindsDraw G.Dr) .nil pass0 (pa_cons (pv 2) (pa_cons pe_int pa_nil)))) pa_nil)))
        (pg_name (i := 8) scLaw.nd rfl (.inl rfl))
      (pss_cons (ps_dput (hu_of hr) (pv 6) (pv 8) (pe_tup (pa_cons (pe_op op_add pe_int (pe_call GD (hr.mono (by decide)) (by rfl) G.gDr G.Dr.kp (bindsDraw G.Dr) .nil pass0 (pa_cons (pv 2) (pa_cons pe_int pa_nil))))
          (pa_cons (pe_callTy call_tuple_of (by rfl) G.bTuple rfl (pa_cons
            (pe_lc (own := [("_law_column", 19)]) (tt := tYes) (g := gName 19) rfl scLaw.nd (pi_range1 (by rfl) G.bRange (pa_cons (pv 3) pa_nil)) (blkOk_by (N := nLaw) (sc := defScope (top 33)) (by decide +kernel))
              (fun _ _ _ _ _ => pg_name (i := 19) scLaw.nd rfl (.inl rfl)) (fun _ _ _ _ _ => pts_nil)
              (fun _ _ _ _ _ => pe_op op_sub (pe_call GD (hr.mono (by decide)) (by rfl) G.gDr G.Dr.kp (bindsDraw G.Dr) .nil pass0 (pa_cons (pv 2) (pa_cons pe_int pa_nil))) pe_int)) pa_nil)) pa_nil))) rfl)
      (pss_one (ps_dput (hu_of hr) (pv 7) (pv 8) (pe_ix ix_tup (pe_dget (hu_of hr) (pv 6) (pv 8) (fun _ _ => rfl)) pe_int (fun _ _ => rfl)) rfl))))
    (pss_cons (ps_par (i := 9) (j := 10) rfl scLaw.nd rfl rfl (by decide) rfl rfl
        (pa_cons (pe_call GG (hr.mono (by decide)) (by rfl) G.gGi G.Gi.kp (bindsGi G.Gi) .nil pass0 (pa_cons (pv 4) (pa_cons (pv 6) pa_nil)))
        (pa_cons (pe_call GG (hr.mono (by decide)) (by rfl) G.gGi G.Gi.kp (bindsGi G.Gi) .nil pass0 (pa_cons (pv 5) (pa_cons (pv 6) pa_nil))) pa_nil)) (by rfl)) h2), ?_⟩
  rintro D σ H ps qs n l s t' u it wd ⟨y1, y8, y9, y10, y11, y12, y13, y14, y15, y16, y17, y18, y19, rfl⟩ hs ht hu ei ew nw hn hpl hpn hps co hql q
  refine ⟨_, rfl, s, _, rfl, hs, by decide, by decide, fun v a b v0 v1 => ⟨_, _, rfl, rfl, 1, 1 + v, rfl, ⟨by decide, by decide, by omega, by omega⟩, ?_⟩⟩
  have hm : (1 + v - 1).toNat ≤ 12 := by omega
  generalize (1 + v - 1).toNat = m at hm
  have nis : it ≠ s := ne_str hs ei fun _ => (fun z => nomatch z)
  have nws : wd ≠ s := ne_str hs ew fun _ => (fun z => nomatch z)
  have sx0 : SameX s H (upd H s (stV a b)) := SameX.upd s _ _
  refine for_range (lo := 1) (n := m) (fun i σ H' => ∃ (y8 : Option V) (xs : List XI), σ = [some (.ref l), y1, some (.ref s), some (.int n), some (.ref t'), some (.ref u), some (.ref it), some (.ref wd), y8, y9, y10, y11, y12, y13, y14, y15, y16, y17, y18, y19] ∧
      LInv H' it wd n i xs ∧ (∀ b o, b ≠ s → b ≠ it → b ≠ wd → H b = some o → H' b = some o) ∧ StrAt H' s)
    ⟨y8, [], rfl, ⟨rfl, (fun e he => nomatch he), (fun e he => nomatch he), sx0 _ _ nis ei, sx0 _ _ nws ew⟩, fun b o h1 _ _ e => sx0 _ _ h1 e, strAt_upd⟩ (fun i σ H' hi h => ?_) (fun σ H' h => ?_)
  · obtain ⟨y8', xs, rfl, inv, fr, hs1⟩ := h
    have xl : xs.length = i := by
      have := congrArg List.length inv.ids
      rw [List.length_map, upFrom_len] at this
      exact this
    refine ⟨_, rfl, s, _, rfl, hs1, by decide, by decide, fun wt a1 b1 w0 w1 => ⟨_, _, rfl, rfl, ?_⟩⟩
    have sx1 : SameX s H' (upd H' s (stV a1 b1)) := SameX.upd s _ _
    have hs2 : StrAt (upd H' s (stV a1 b1)) s := strAt_upd
    refine ⟨_, rfl, (n : Int), rfl, by omega, by omega, fun DD nD => ?_⟩
    generalize hH1 : upd H' s (stV a1 b1) = H1 at *
    have et : ((n : Int)).toNat = n := by omega
    rw [et]
    have nDs : DD ≠ s := ne_strN hs2 nD
    refine lc_range (n := n) (fun k Hc => ∃ fl : List Int, Hc DD = some (.lst (fl.map V.int)) ∧ fl.length = k ∧ (∀ b o, b ≠ s → H1 b = some o → Hc b = some o) ∧ StrAt Hc s)
      ⟨[], upd_same, rfl, fun b o _ e => same_upd nD _ _ e, hs2.keep (same_upd nD)⟩ (fun k Hc hk h => ?_) (fun Hc h => ?_)
    · obtain ⟨fl, eD, fll, fr1, hs3⟩ := h
      refine ⟨rfl, _, rfl, s, _, rfl, hs3, by decide, by decide, fun v2 a2 b2 _ _ => ⟨_, _, rfl, rfl, ?_⟩⟩
      have eD2 : (upd Hc s (stV a2 b2)) DD = some (.lst (fl.map V.int)) := by
        rw [upd_ne nDs]
        exact eD
      refine ⟨_, eD2, by rw [List.length_map]; exact small1000 (by omega), fl ++ [v2 - 3], ?_, ?_, fun b o hb e => ?_, ?_⟩
      · rw [upd_same, List.map_append]
        rfl
      · rw [List.length_append, fll]
        rfl
      · rw [upd_ne (ne_of_none e nD), upd_ne hb]
        exact fr1 _ _ hb e
      · exact ⟨a2, b2, by rw [upd_ne (Ne.symm nDs)]; exact upd_same⟩
    · obtain ⟨fl, eD, fll, fr1, hs3⟩ := h
      refine ⟨DD, fl.map V.int, rfl, .inl ⟨SqL.of eD, fun fa nfa => ⟨(show 2 ≤ sizeLine by decide), fun ta nta => ?_⟩⟩⟩
      have s3 : Same Hc (upd Hc fa (.tup (fl.map V.int))) := same_upd nfa
      have s4 : Same (upd Hc fa (.tup (fl.map V.int))) (upd (upd Hc fa (.tup (fl.map V.int))) ta (.tup [.int (1 + wt), .ref fa])) := same_upd nta
      have efa := s4 _ _ (upd_same (H := Hc) (a := fa) (o := .tup (fl.map V.int)))
      have eta : (upd (upd Hc fa (.tup (fl.map V.int))) ta (.tup [.int (1 + wt), .ref fa])) ta = some (.tup [.int (1 + wt), .ref fa]) := upd_same
      have s34 := s3.trans s4
      generalize upd (upd Hc fa (.tup (fl.map V.int))) ta (.tup [.int (1 + wt), .ref fa]) = Hb at s34 efa eta
      have frb : ∀ b o, b ≠ s → H' b = some o → Hb b = some o := fun b o hb e => s34 _ _ (fr1 _ _ hb (sx1 _ _ hb e))
      have eib := frb _ _ nis inv.ei
      have ewb := frb _ _ nws inv.ew
      have hsb := hs3.keep s34
      have tnd : ∀ {b xs k}, Hb b = some (.tup xs) → ∀ {c}, Hb c = some (.dK k) → b ≠ c := fun {b xs k} e1 {c} e2 c3 => by
        rw [c3, e2] at e1
        exact nomatch e1
      refine ⟨_, rfl, _, rfl, it, _, rfl, DPut.k (k := Sum.inl (1 + (i : Int))) eib (by unfold kvI; rw [List.length_map]; exact small1000 (by omega)), ?_⟩
      have ep : putK (kvI xs) (Sum.inl (1 + (i : Int))) (.ref ta) = kvI (xs ++ [((1 + (i : Int), 1 + wt, fl), ta)]) := by
        unfold kvI
        rw [putK_new _ (kv_none (f := fun e => V.ref e.2) inv.ids)]
        rw [List.map_append]
        rfl
      rw [ep]
      generalize hx2 : xs ++ [((1 + (i : Int), 1 + wt, fl), ta)] = xs2
      have ev : valV (kvI xs2) (Sum.inl (1 + (i : Int))) = some (.ref ta) := by
        rw [← hx2, ← ep, valV_put, if_pos rfl]
      have eI : (upd Hb it (.dK (kvI xs2))) it = some (.dK (kvI xs2)) := upd_same
      refine ⟨_, rfl, _, rfl, it, _, rfl, .inl ⟨_, .inl (1 + (i : Int)), .inl eI, rfl, ev.symm⟩, _, _, _, _, rfl, rfl, SqT.of (by rw [upd_ne (tnd eta eib)]; exact eta), rfl, ?_⟩
      refine ⟨_, rfl, _, rfl, wd, _, rfl, DPut.k (k := Sum.inl (1 + (i : Int))) (kvs := kvW xs) (by rw [upd_ne (Ne.symm nw)]; exact ewb) (by unfold kvW; rw [List.length_map]; exact small1000 (by omega)), ?_⟩
      have ep2 : putK (kvW xs) (Sum.inl (1 + (i : Int))) (.int (1 + wt)) = kvW xs2 := by
        unfold kvW
        rw [putK_new _ (kv_none (f := fun e => V.int e.1.2.1) inv.ids), ← hx2]
        rw [List.map_append]
        rfl
      rw [ep2]
      have frT : ∀ b xs, Hb b = some (.tup xs) → (upd (upd Hb it (.dK (kvI xs2))) wd (.dK (kvW xs2))) b = some (.tup xs) := fun b xs e => by
        rw [upd_ne (tnd e ewb), upd_ne (tnd e eib)]
        exact e
      refine ⟨_, xs2, rfl, ⟨?_, fun e he => ?_, fun e he => ?_, by rw [upd_ne nw, upd_same], upd_same⟩, fun b o h1 h3 h4 e => ?_, ?_⟩
      · rw [← hx2, List.map_append, inv.ids]
        unfold upFrom
        rw [List.range_succ, List.map_append]
        rfl
      · rw [← hx2] at he
        rcases List.mem_append.mp he with he | he
        · exact inv.ok e he
        · rw [List.mem_singleton.mp he]
          exact ⟨fll, by show 0 < 1 + wt; omega, by show 1 + wt ≤ 3; omega⟩
      · rw [← hx2] at he
        rcases List.mem_append.mp he with he | he
        · obtain ⟨fa2, e1, e2⟩ := inv.at_ e he
          exact ⟨fa2, frT _ _ (frb _ _ (ne_str hs1 e1 fun _ => (fun z => nomatch z)) e1), frT _ _ (frb _ _ (ne_str hs1 e2 fun _ => (fun z => nomatch z)) e2)⟩
        · rw [List.mem_singleton.mp he]
          exact ⟨fa, frT _ _ eta, frT _ _ efa⟩
      · rw [upd_ne h4, upd_ne h3]
        exact frb _ _ h1 (fr _ _ h1 h3 h4 e)
      · obtain ⟨a3, b3, e3⟩ := hsb
        exact ⟨a3, b3, by rw [upd_ne (Ne.symm nws), upd_ne (Ne.symm nis)]; exact e3⟩
  · obtain ⟨y8', xs, rfl, inv, fr, hs1⟩ := h
    have ht1 := keep3 ht hs ei ew fr
    have hu1 := keep3 hu hs ei ew fr
    have xl : xs.length = m := by
      have := congrArg List.length inv.ids
      rw [List.length_map, upFrom_len] at this
      exact this
    have hnd : (idsOf (xs.map (·.1))).Nodup := by
      rw [inv.idl]
      exact upFrom_nd m
    have fit1 : ∀ id ∈ idsOf (xs.map (·.1)), RuleFits ps (fieldsOf (xs.map (·.1)) id).length := fun id h z hz => by
      rw [inv.fld h]
      obtain ⟨c1, c2, c3, c4⟩ := hps z hz
      exact ⟨c1, c2, c3, by omega⟩
    have fit2 : ∀ id ∈ idsOf (xs.map (·.1)), RuleFits qs (fieldsOf (xs.map (·.1)) id).length := fun id h z hz => by
      rw [inv.fld h]
      obtain ⟨y, hy, k, k1, k3, e1, e2⟩ := co z hz
      obtain ⟨c1, c2, c3, c4⟩ := hps y hy
      have : y.2.2 * k ≤ 2 * 3 := Int.mul_le_mul c4 k3 (by omega) (by omega)
      have : 0 < y.2.2 * k := Int.mul_pos c3 (by omega)
      exact ⟨by omega, by omega, by omega, by omega⟩
    refine ⟨_, rfl, _, rfl, t', it, ps, xs.map (·.1), rfl, ht1.1.sq, ht1.2, by omega, inv.items, hnd, by rw [List.length_map]; omega, fit1, fun aS gS H2 nS s2 hgS okS lS => ?_⟩
    have hu2 : RuleAt H2 u qs := hu1.keep hs1 (SameX.of s2)
    refine ⟨_, rfl, _, rfl, u, it, qs, xs.map (·.1), rfl, hu2.1.sq, hu2.2, by omega, inv.items.mono s2, hnd, by rw [List.length_map]; omega, fit2, fun aL gL H3 nL s3 hgL okL lL => ?_⟩
    refine ⟨_, _, rfl, ?_⟩
    have s23 := s2.trans s3
    obtain ⟨wa, wb⟩ := inv.wgt
    refine r2 D _ _ ps qs (idsOf (xs.map (·.1))) _ _ gS gL (wtOf xs) l s t' u wd aS aL ⟨_, _, _, _, _, _, _, _, _, _, _, _, _, rfl⟩
      ⟨hs1.keep s23, ht1.keep hs1 (SameX.of s23), hu1.keep hs1 (SameX.of s23), ?_, hgS.mono s3, hgL, ne_strN hs1 nS, ne_strN (hs1.keep s2) nL, ⟨?_, ?_, okS, okL, ?_⟩, hpn, co, fun z hz => (hps z hz).2.2.1, hql⟩ (fun σ' H4 g sx => q σ' H4 g fun b o h1 h3 h4 e => sx _ _ h1 (s23 _ _ (fr _ _ h1 h3 h4 e)))
    · rw [inv.idl]
      exact wa.mono s23
    · rw [inv.idl, upFrom_len]
      exact hm
    · intro a _ b _ h
      exact keyV_fine co (fun z hz => (hps z hz).2.2.1) h
    · rw [inv.idl]
      exact wb
end
end Kn

set_option Elab.async false
set_option linter.all false
set_option maxRecDepth 100000
set_option maxHeartbeats 4000000
/-! The law: the rules of a turn. -/
namespace Kn
open PySem PySem.Spec PyProof.Rows L2
section
theorem bindsStr {K : PySem.W.Frag} {f : Addr} {fd : FuncData} (F : FnP K "_law_stream" (top 24) f fd) : Binds K fd ["_law_script", "_law_start"] [] := FunD.bindsN F fun _ _ _ _ _ _ us hl => match us, hl with | [_, _], _ => rfl
theorem bindsCoar {K : PySem.W.Frag} {f : Addr} {fd : FuncData} (F : FnP K "_law_coarser" (top 29) f fd) : Binds K fd ["_law_stream_here", "_law_sorting"] [] := FunD.bindsN F fun _ _ _ _ _ _ us hl => match us, hl with | [_, _], _ => rfl
/-- the script and the start in their slots -/
def SgA (l : Addr) (k : Nat) (σ : St) : Prop := ∃ y2 y3 y4 y5 y6 y7 y8 y9 y10 y11 y12 y13 y14 y15 y16 y17 y18 y19 : Option V, σ = [some (.ref l), some (.int (k : Nat)), y2, y3, y4, y5, y6, y7, y8, y9, y10, y11, y12, y13, y14, y15, y16, y17, y18, y19]
variable {P : Program} {w : World} {K : PySem.W.Frag} {mg : Str → Option Value} {base : Heap} {f : Addr} {fd : FuncData} {cdv : Value} {A : Around} {outer : List Env} {s0 : Shared} {H0 : Hp} {E : XK}
theorem law_t1 (G : Fns K mg) (hr : Room 4 (cxLaw P w K mg base f cdv A outer s0 H0 E).A) : ∃ t, PSs (cxLaw P w K mg base f cdv A outer s0 H0 E) lawBody t ∧
    ∀ (D : Ends) (σ : St) (H : Hp) (l : Addr) (ns : List Int) (k : Nat), SgA l k σ → SqL K H l (ns.map V.int) → k ≤ 3 → (∀ z ∈ ns, Builtin.Int.intBits z ≤ 1048576) →
      (∀ σ' H', Sg l σ' → Same H H' → D.nx σ' H') → t D σ H := by
  obtain ⟨t2, h2, r2⟩ := law_tb G hr
  have GS : FnOk P w K mg base CX0 1 G.fSt G.fdSt ["_law_script", "_law_start"] (spStream K) := ok_stream G.St' G.D.gL
  have GD : FnOk P w K mg base CX0 1 G.fDr G.fdDr ["_law_stream_here", "_law_size"] spDraw := ok_draw G.Dr
  have GC : FnOk P w K mg base CX0 2 G.fCh G.fdCh ["_law_stream_here", "_law_rows"] (spChoose K) := ok_choose G.Ch G.Dr G.gDr G.D.gL
  have GA : FnOk P w K mg base CX0 3 G.fCa G.fdCa ["_law_stream_here", "_law_sorting"] (spCoa K) := ok_coa G.Ca G.Dr G.Ch G.Sh G.gDr G.gCh G.gSh G.D.gL G.D2.gLi G.bTuple
  refine ⟨_, pss_cons (ps_set (i := 2) scLaw.nd rfl (by first | exact Or.inl rfl | exact Or.inr rfl) (pe_call GS (hr.mono (by decide)) (by rfl) G.gSt G.St'.kp (bindsStr G.St') .nil pass0 (pa_cons (pv 0) (pa_cons (pv 1) pa_nil))))
    (pss_cons (ps_set (i := 3) scLaw.nd rfl (by first | exact Or.inl rfl | exact Or.inr rfl) (pe_op op_add pe_int (pe_call GD (hr.mono (by decide)) (by rfl) G.gDr G.Dr.kp (bindsDraw G.Dr) .nil pass0 (pa_cons (pv 2) (pa_cons pe_int pa_nil)))))
    (pss_cons (ps_set (i := 4) scLaw.nd rfl (by first | exact Or.inl rfl | exact Or.inr rfl) (pe_callTy call_tupleF (by rfl) G.bTuple rfl (pa_cons
        (pe_lc (own := [("_law_column", 19)]) (tt := tYes) (g := gName 19) rfl scLaw.nd (pi_range2 (by rfl) G.bRange (pa_cons pe_int (pa_cons (pe_op op_add (pv 3) pe_int) pa_nil))) (blkOk_by (N := nLaw) (sc := defScope (top 33)) (by decide +kernel))
          (fun _ _ _ _ _ => pg_name (i := 19) scLaw.nd rfl (.inl rfl)) (fun _ _ _ _ _ => pts_nil)
          (fun _ _ _ _ _ => pe_tup (pa_cons (pv 19) (pa_cons (pe_call GC (hr.mono (by decide)) (by rfl) G.gCh G.Ch.kp (bindsChoose G.Ch) .nil pass0 (pa_cons (pv 2) (pa_cons (pe_lst (pa_cons pe_int (pa_cons pe_int (pa_cons pe_int pa_nil)))) pa_nil))) pa_nil)))) pa_nil)))
    (pss_cons (ps_par3 (i := 5) (j := 6) (l := 7) rfl scLaw.nd rfl rfl rfl (by decide) (by decide) (by decide) rfl rfl rfl
        (pa_cons (pe_call GA (hr.mono (by decide)) (by rfl) G.gCa G.Ca.kp (bindsCoar G.Ca) .nil pass0 (pa_cons (pv 2) (pa_cons (pv 4) pa_nil))) (pa_cons pe_dnewK (pa_cons pe_dnewK pa_nil))) (by rfl)) h2))), ?_⟩
  rintro D σ H l ns k ⟨y2, y3, y4, y5, y6, y7, y8, y9, y10, y11, y12, y13, y14, y15, y16, y17, y18, y19, rfl⟩ hl hk hb q
  refine ⟨_, rfl, _, rfl, l, ns, k, rfl, hl, hk, hb, fun s a b ns' => ?_⟩
  have s1 : Same H (upd H s (.lst [.int a, .int b])) := same_upd ns'
  have hs1 : StrAt (upd H s (.lst [.int a, .int b])) s := ⟨a, b, upd_same⟩
  generalize upd H s (.lst [.int a, .int b]) = H1 at s1 hs1
  refine ⟨_, rfl, s, _, rfl, hs1, by decide, by decide, fun v a1 b1 v0 v1 => ⟨_, _, rfl, rfl, ?_⟩⟩
  have nH : ∀ b o, H b = some o → b ≠ s := fun b o e => ne_of_none e ns'
  have s2 : Same H (upd H1 s (stV a1 b1)) := fun b o e => by
    rw [upd_ne (nH _ _ e)]
    exact s1 _ _ e
  have hs2 : StrAt (upd H1 s (stV a1 b1)) s := strAt_upd
  obtain ⟨n, hn⟩ : ∃ n : Nat, 1 + v = (n : Int) := ⟨(1 + v).toNat, by omega⟩
  have hn3 : n ≤ 3 := by omega
  have hn0 : 0 < n := by omega
  show gName 3 (V.int (1 + v)) _ _ _
  rw [hn]
  generalize hH2 : upd H1 s (stV a1 b1) = H2 at *
  refine ⟨_, rfl, _, _, rfl, rfl, 1, (n : Int) + 1, rfl, ⟨by decide, by decide, by omega, by omega⟩, fun DD nD => ?_⟩
  have et : ((n : Int) + 1 - 1).toNat = n := by omega
  rw [et]
  have nDs : DD ≠ s := ne_strN hs2 nD
  refine lc_range (n := n) (fun i Hc => ∃ ps : List Pr, Hc DD = some (.lst (ps.map fun z => V.ref z.1)) ∧ ps.map (·.2.1) = upFrom i ∧ (∀ z ∈ ps, 0 < z.2.2 ∧ z.2.2 ≤ 2) ∧ PairsAt Hc ps ∧ Same H Hc ∧ StrAt Hc s)
    ⟨[], upd_same, rfl, (fun z hz => nomatch hz), (fun z hz => nomatch hz), s2.trans (same_upd nD), hs2.keep (same_upd nD)⟩ (fun i Hc hi h => ?_) (fun Hc h => ?_)
  · obtain ⟨ps, eD, hc, hst, hp, sm, hs3⟩ := h
    have pl : ps.length = i := by
      have := congrArg List.length hc
      rw [List.length_map, upFrom_len] at this
      exact this
    refine ⟨rfl, _, rfl, _, rfl, (show 3 ≤ sizeLine by decide), fun c nc => ⟨s, _, rfl, hs3.keep (same_upd nc), .inl ⟨c, _, rfl, ne_strN hs3 nc, SqL.of upd_same, (show 0 < 3 by decide), (show 3 < 1000 by decide), fun x a2 b2 hx => ?_⟩⟩⟩
    obtain ⟨z, rfl, z0, z1⟩ : ∃ z : Int, x = .int z ∧ 0 < z ∧ z ≤ 2 := by
      simp only [List.mem_cons, List.not_mem_nil, or_false] at hx
      rcases hx with rfl | rfl | rfl <;> exact ⟨_, rfl, by decide, by decide⟩
    refine ⟨(show 2 ≤ sizeLine by decide), fun T nT => ?_⟩
    have sx3 : SameX s Hc (upd (upd Hc c (.lst [.int 1, .int 1, .int 2])) s (stV a2 b2)) := (SameX.of (same_upd nc)).trans (SameX.upd s _ _)
    have hs4 : StrAt (upd (upd Hc c (.lst [.int 1, .int 1, .int 2])) s (stV a2 b2)) s := strAt_upd
    generalize upd (upd Hc c (.lst [.int 1, .int 1, .int 2])) s (stV a2 b2) = H4 at sx3 hs4 nT
    have sT : Same H4 (upd H4 T (.tup [.int (1 + (i : Int)), .int z])) := same_upd nT
    have eT : (upd H4 T (.tup [.int (1 + (i : Int)), .int z])) T = some (.tup [.int (1 + (i : Int)), .int z]) := upd_same
    have eD4 := sT _ _ (sx3 _ _ nDs eD)
    have hs5 := hs4.keep sT
    have sm5 : Same H (upd H4 T (.tup [.int (1 + (i : Int)), .int z])) := fun b o e => sT _ _ (sx3 _ _ (nH _ _ e) (sm _ _ e))
    have hp5 : PairsAt (upd H4 T (.tup [.int (1 + (i : Int)), .int z])) ps := (hp.keep hs3 sx3).mono sT
    generalize upd H4 T (.tup [.int (1 + (i : Int)), .int z]) = H5 at eT eD4 hs5 sm5 hp5
    have nDt : ∀ b xs, H5 b = some (.tup xs) → b ≠ DD := fun b xs e c2 => by
      rw [c2, eD4] at e
      exact nomatch e
    refine ⟨_, eD4, by rw [List.length_map]; exact small1000 (by omega), ps ++ [(T, 1 + (i : Int), z)], ?_, ?_, fun y hy => ?_, fun y hy => ?_, fun b o e => ?_, ?_⟩
    · rw [upd_same, List.map_append]
      rfl
    · rw [List.map_append, hc]
      unfold upFrom
      rw [List.range_succ, List.map_append]
      rfl
    · rcases List.mem_append.mp hy with hy | hy
      · exact hst y hy
      · rw [List.mem_singleton.mp hy]
        exact ⟨z0, z1⟩
    · rcases List.mem_append.mp hy with hy | hy
      · rw [upd_ne (nDt _ _ (hp5 y hy))]
        exact hp5 y hy
      · rw [List.mem_singleton.mp hy, upd_ne (nDt _ _ eT)]
        exact eT
    · rw [upd_ne (ne_of_none (s2 _ _ e) nD)]
      exact sm5 _ _ e
    · obtain ⟨a3, b3, e3⟩ := hs5
      exact ⟨a3, b3, by rw [upd_ne (Ne.symm nDs)]; exact e3⟩
  · obtain ⟨ps, eD, hc, hst, hp, sm, hs3⟩ := h
    have pl : ps.length = n := by
      have := congrArg List.length hc
      rw [List.length_map, upFrom_len] at this
      exact this
    refine ⟨DD, _, rfl, SqL.of eD, fun t H3 nt fr ft => ?_⟩
    have s3 : Same Hc H3 := fun b o e => by
      rw [fr b (ne_of_none e nt)]
      exact e
    have ht : RuleAt H3 t ps := ⟨ft, hp.mono s3⟩
    have hs4 := hs3.keep s3
    refine ⟨_, rfl, _, rfl, s, t, ps, rfl, hs4, ht, by omega, hst, fun u qs H4 nu co hql sx hs5 hu => ?_⟩
    intro it nit wd nwd
    have s5 : Same H4 (upd H4 it (.dK [])) := same_upd nit
    have s6 : Same (upd H4 it (.dK [])) (upd (upd H4 it (.dK [])) wd (.dK [])) := same_upd nwd
    have eit := s6 _ _ (upd_same (H := H4) (a := it) (o := .dK []))
    have ewd : (upd (upd H4 it (.dK [])) wd (.dK [])) wd = some (.dK []) := upd_same
    have nw : it ≠ wd := ne_of_none (upd_same (H := H4) (a := it) (o := .dK [])) nwd
    have s56 := s5.trans s6
    have nitH : ∀ b o, H b = some o → b ≠ it := fun b o e => ne_of_none (sx _ _ (nH _ _ e) (s3 _ _ (sm _ _ e))) nit
    have nwdH : ∀ b o, H b = some o → b ≠ wd := fun b o e => ne_of_none (s5 _ _ (sx _ _ (nH _ _ e) (s3 _ _ (sm _ _ e)))) nwd
    refine ⟨_, _, _, rfl, ?_⟩
    have ht2 := (ht.keep hs4 sx).keep hs5 (SameX.of s56)
    have hu2 := hu.keep hs5 (SameX.of s56)
    have hs6 := hs5.keep s56
    generalize upd (upd H4 it (.dK [])) wd (.dK []) = H6 at *
    refine r2 D _ H6 ps qs n l s t u it wd ⟨_, _, _, _, _, _, _, _, _, _, _, _, _, rfl⟩ hs6 ht2 hu2 eit ewd nw hn3 (by omega) ?_ (fun z hz => ?_) co hql (fun σ' H7 g fr2 => q σ' H7 g fun b o e => fr2 _ _ (nH _ _ e) (nitH _ _ e) (nwdH _ _ e) (s56 _ _ (sx _ _ (nH _ _ e) (s3 _ _ (sm _ _ e)))))
    · rw [hc]
      exact upFrom_nd n
    · have h1 : z.2.1 ∈ upFrom n := by
        rw [← hc]
        exact List.mem_map.mpr ⟨z, hz, rfl⟩
      obtain ⟨j, hj, h3⟩ := List.mem_map.mp h1
      have := List.mem_range.mp hj
      exact ⟨by omega, by omega, (hst z hz).1, (hst z hz).2⟩
end
end Kn

set_option Elab.async false
set_option linter.all false
set_option maxRecDepth 100000
set_option maxHeartbeats 4000000
/-! The law itself. -/
namespace Kn
open PySem PySem.Spec PyProof.Rows L2
section
def spLaw (K : PySem.W.Frag) : Sp := fun vs H Q _ => ∃ (l : Addr) (ns : List Int), vs = [.ref l] ∧ SqL K H l (ns.map V.int) ∧ ns.length ≤ 63 ∧ (∀ z ∈ ns, Builtin.Int.intBits z ≤ 1048576) ∧ ∀ H', Q (.bl true) H'
variable {P : Program} {w : World} {K : PySem.W.Frag} {mg : Str → Option Value} {base : Heap} {f : Addr} {fd : FuncData}
theorem ok_law (F : FnP K "law" (top 33) f fd) (G : Fns K mg) : FnOk P w K mg base CX0 5 f fd ["_law_script"] (spLaw K) := by
  refine F.ok scLaw (fun vs H Q E h => ?_) (fun cdv A outer s H vs Q E hr h => ?_)
  · obtain ⟨l, ns, rfl, _⟩ := h
    rfl
  · obtain ⟨l, ns, rfl, hl, hn, hb, q⟩ := h
    obtain ⟨t, ht, rt⟩ := law_t1 (P := P) (w := w) (K := K) (mg := mg) (base := base) (f := f) (cdv := cdv) (A := A) (outer := outer) (s0 := s) (H0 := H) (E := E) G hr
    refine ⟨_, PSs.nox (pss_cons (ps_for PassesOwn.never rfl (pi_range1 (by rfl) G.bRange (pa_cons (pe_callB (call_max2 rfl) (by rfl) G.bMax rfl (pa_cons pe_int (pa_cons (pe_callB (call_min2 rfl) (by rfl) G.bMin rfl (pa_cons pe_int
        (pa_cons (pe_callB call_len (by rfl) G.D.gL boot_len (pa_cons (pv 0) pa_nil)) pa_nil))) pa_nil))) pa_nil)) (pg_name (i := 1) scLaw.nd rfl (.inl rfl)) ht) (pss_one (ps_ret pe_bl))), ?_⟩
    refine ⟨_, rfl, _, _, rfl, .inl ⟨_, hl, rfl⟩, _, _, rfl, _, _, rfl, _, rfl, ?_⟩
    generalize hj : (if (if ((ns.map V.int).length : Int) < 3 then ((ns.map V.int).length : Int) else 3) > 1 then (if ((ns.map V.int).length : Int) < 3 then ((ns.map V.int).length : Int) else 3) else 1) = j
    have hj3 : 0 ≤ j ∧ j ≤ 3 := by
      rw [← hj]
      split <;> split <;> omega
    refine ⟨by omega, by omega, ?_⟩
    refine for_range (lo := 0) (n := j.toNat) (fun i σ H' => Sg l σ ∧ Same H H') ⟨⟨_, _, _, _, _, _, _, _, _, _, _, _, _, _, _, _, _, _, _, rfl⟩, fun _ _ e => e⟩ (fun i σ H' hi h => ?_) (fun σ H' h => ?_)
    · obtain ⟨⟨y1, y2, y3, y4, y5, y6, y7, y8, y9, y10, y11, y12, y13, y14, y15, y16, y17, y18, y19, rfl⟩, sm⟩ := h
      show gName 1 (V.int (0 + (i : Int))) _ _ _
      rw [Int.zero_add]
      exact rt _ _ H' l ns i ⟨_, _, _, _, _, _, _, _, _, _, _, _, _, _, _, _, _, _, rfl⟩ (sm.seq hl) (by omega) hb fun σ2 H2 g s2 => ⟨g, sm.trans s2⟩
    · exact q H'
end
end Kn

set_option Elab.async false
set_option linter.all false
set_option maxRecDepth 100000
set_option maxHeartbeats 4000000
/-! The head's facts; the end with the script's bits. -/
namespace Kn
open PySem PySem.Spec PyProof.Rows L2
section
theorem walk_ofBE {l : PySem.W.OpenLaw} {n k : Nat} {q : Program} {loose : List Str} {XP : (Str → Option Value) → Heap → Prop} {YP : World → Heap → Prop} {d : DefRec} {CX : CXT} {x : Str}
    (hn : l.most = some n) (hn2 : n ≤ sizeLine) (hdf : d.params.defaults = []) (hr : Room k callerA)
    (F : ∀ (w : World) (mg : Str → Option Value) (fa : Addr) (h : Heap), YP w h → h.Ns mainGlobals mg → mg d.name = some (.ref fa) →
      ∃ (K : PySem.W.Frag) (fd : FuncData) (sp : Sp), K.In h ∧ (∀ (s : Shared) (u : Value), BindsTo s fd ⟨[u], []⟩ [(x, u)]) ∧
        (∀ (H : Hp) (a : Addr) (ns : List Int), ns.length ≤ n → (∀ z ∈ ns, Builtin.Int.intBits z ≤ 1048576) → Only H → SqL K H a (ns.map V.int) → sp [.ref a] H (fun v _ => v = .bl true) fun _ _ _ => False) ∧
        ∀ base : Heap, K.In base → base.Ns mainGlobals mg → FnOk l.prog w K mg base CX k fa fd [x] sp)
    (hCX : ∀ (H : Hp) (s : Shared) (e : Value) (s' : Shared), CX [] H s (fun _ _ _ => False) e s' → False) :
    PySem.W.WalkO q loose XP YP l.row.toRowW d [] (fun f vs => PySem.call f vs) := by
  refine Att.attach_callB hn hdf fun w s₀ s₁ mg mb fa o pm cd doc a vs ns G Y ho hd hcd hmg hobj hints hlen hbits hg => ?_
  obtain ⟨K, fd, sp, KX, hb, hsp, hF⟩ := F w mg fa _ Y G.T.g hmg
  exact law_call KX G.T.g G.T.b G.T.builtins G.T.nolimit hg hobj hints (Nat.le_trans hlen hn2) hr hF hb (fun H hO hS => hsp H a ns hlen hbits hO hS) fun H e s' => hCX H s₁ e s'
theorem facts {P : Program} {w : World} {K : PySem.W.Frag} {h : Heap} {mg : Str → Option Value} {f : Addr} (X : K.In h) (G : h.Ns mainGlobals mg) (hfa : mg ("law" : Str) = some (.ref f)) (c : He.SaysD fas fns K) :
    ∃ fd : FuncData, (∀ (s : Shared) (v : Value), BindsTo s fd ⟨[v], []⟩ [("_law_script", v)]) ∧ ∀ base : Heap, K.In base → base.Ns mainGlobals mg → FnOk P w K mg base CX0 5 f fd ["_law_script"] (spLaw K) := by
  obtain ⟨d0, F0⟩ := c.def_ 0 (d := dd 1 "row_entries") rfl
  have g0 := He.glo_ok X G (c.fact 0 (f := .glo "row_entries") rfl)
  obtain ⟨d1, F1⟩ := c.def_ 1 (d := dd 2 "best_moves") rfl
  have g1 := He.glo_ok X G (c.fact 1 (f := .glo "best_moves") rfl)
  obtain ⟨d2, F2⟩ := c.def_ 2 (d := dd 3 "greatest_pairs") rfl
  have g2 := He.glo_ok X G (c.fact 2 (f := .glo "greatest_pairs") rfl)
  obtain ⟨d3, F3⟩ := c.def_ 3 (d := dd 5 "key_of") rfl
  have g3 := He.glo_ok X G (c.fact 3 (f := .glo "key_of") rfl)
  obtain ⟨d4, F4⟩ := c.def_ 4 (d := dd 6 "keyed_groups") rfl
  have g4 := He.glo_ok X G (c.fact 4 (f := .glo "keyed_groups") rfl)
  obtain ⟨d5, F5⟩ := c.def_ 5 (d := dd 7 "group_items") rfl
  have g5 := He.glo_ok X G (c.fact 5 (f := .glo "group_items") rfl)
  obtain ⟨d6, F6⟩ := c.def_ 6 (d := dd 8 "is_finer") rfl
  have g6 := He.glo_ok X G (c.fact 6 (f := .glo "is_finer") rfl)
  obtain ⟨d7, F7⟩ := c.def_ 7 (d := dd 10 "label_table") rfl
  have g7 := He.glo_ok X G (c.fact 7 (f := .glo "label_table") rfl)
  obtain ⟨d8, F8⟩ := c.def_ 8 (d := dd 11 "without") rfl
  have g8 := He.glo_ok X G (c.fact 8 (f := .glo "without") rfl)
  obtain ⟨d9, F9⟩ := c.def_ 9 (d := dd 12 "table_names") rfl
  have g9 := He.glo_ok X G (c.fact 9 (f := .glo "table_names") rfl)
  obtain ⟨d10, F10⟩ := c.def_ 10 (d := dd 13 "table_places") rfl
  have g10 := He.glo_ok X G (c.fact 10 (f := .glo "table_places") rfl)
  obtain ⟨d11, F11⟩ := c.def_ 11 (d := dd 14 "exact_table") rfl
  have g11 := He.glo_ok X G (c.fact 11 (f := .glo "exact_table") rfl)
  obtain ⟨d12, F12⟩ := c.def_ 12 (d := dd 16 "best_carrying") rfl
  have g12 := He.glo_ok X G (c.fact 12 (f := .glo "best_carrying") rfl)
  obtain ⟨d13, F13⟩ := c.def_ 13 (d := dd 18 "places_of") rfl
  have g13 := He.glo_ok X G (c.fact 13 (f := .glo "places_of") rfl)
  obtain ⟨d14, F14⟩ := c.def_ 14 (d := dd 19 "labels_of") rfl
  have g14 := He.glo_ok X G (c.fact 14 (f := .glo "labels_of") rfl)
  obtain ⟨d15, F15⟩ := c.def_ 15 (d := dd 20 "counting_pins") rfl
  have g15 := He.glo_ok X G (c.fact 15 (f := .glo "counting_pins") rfl)
  obtain ⟨d16, F16⟩ := c.def_ 16 (d := dd 21 "open_table") rfl
  have g16 := He.glo_ok X G (c.fact 16 (f := .glo "open_table") rfl)
  obtain ⟨d17, F17⟩ := c.def_ 17 (d := dd 22 "carry_over" [("pins", .non), ("homes", .non)]) rfl
  have g17 := He.glo_ok X G (c.fact 17 (f := .glo "carry_over") rfl)
  obtain ⟨d18, F18⟩ := c.def_ 18 (d := dd 24 "_law_stream") rfl
  have g18 := He.glo_ok X G (c.fact 18 (f := .glo "_law_stream") rfl)
  obtain ⟨d19, F19⟩ := c.def_ 19 (d := dd 25 "_law_draw") rfl
  have g19 := He.glo_ok X G (c.fact 19 (f := .glo "_law_draw") rfl)
  obtain ⟨d20, F20⟩ := c.def_ 20 (d := dd 26 "_law_choose") rfl
  have g20 := He.glo_ok X G (c.fact 20 (f := .glo "_law_choose") rfl)
  obtain ⟨d21, F21⟩ := c.def_ 21 (d := dd 27 "_law_shuffled") rfl
  have g21 := He.glo_ok X G (c.fact 21 (f := .glo "_law_shuffled") rfl)
  obtain ⟨d22, F22⟩ := c.def_ 22 (d := dd 28 "_law_word") rfl
  have g22 := He.glo_ok X G (c.fact 22 (f := .glo "_law_word") rfl)
  obtain ⟨d23, F23⟩ := c.def_ 23 (d := dd 29 "_law_coarser") rfl
  have g23 := He.glo_ok X G (c.fact 23 (f := .glo "_law_coarser") rfl)
  obtain ⟨d24, F24⟩ := c.def_ 24 (d := dd 30 "_law_heaviest") rfl
  have g24 := He.glo_ok X G (c.fact 24 (f := .glo "_law_heaviest") rfl)
  obtain ⟨d25, F25⟩ := c.def_ 25 (d := dd 31 "_law_table_of") rfl
  have g25 := He.glo_ok X G (c.fact 25 (f := .glo "_law_table_of") rfl)
  obtain ⟨d26, F26⟩ := c.def_ 26 (d := dd 32 "_law_named") rfl
  have g26 := He.glo_ok X G (c.fact 26 (f := .glo "_law_named") rfl)
  obtain ⟨fd, F⟩ := c.def_ 27 (d := dd 33 "law") rfl
  have e := hfa.symm.trans (He.glo_ok X G (c.fact 27 (f := .glo "law") rfl))
  cases e
  have b_len := He.free_ok X G (c.fact 28 (f := .free "len") rfl)
  have b_range := He.free_ok X G (c.fact 29 (f := .free "range") rfl)
  have b_max := He.free_ok X G (c.fact 30 (f := .free "max") rfl)
  have b_min := He.free_ok X G (c.fact 31 (f := .free "min") rfl)
  have b_sorted := He.free_ok X G (c.fact 32 (f := .free "sorted") rfl)
  have b_tuple := He.free_ok X G (c.fact 33 (f := .free "tuple") rfl)
  have b_list := He.free_ok X G (c.fact 34 (f := .free "list") rfl)
  have b_dict := He.free_ok X G (c.fact 35 (f := .free "dict") rfl)
  have b_enumerate := He.free_ok X G (c.fact 36 (f := .free "enumerate") rfl)
  have b_all := He.free_ok X G (c.fact 37 (f := .free "all") rfl)
  have b_int := He.free_ok X G (c.fact 38 (f := .free "int") rfl)
  have D1 : Defs K mg _ _ _ _ _ _ _ _ _ _ _ _ := ⟨F11, F9, F10, F2, F0, F1, g11, g9, g10, g2, g0, g1, b_sorted, b_len, b_int⟩
  have D2 : Defs2 K mg _ _ _ _ _ _ _ _ _ _ _ _ := ⟨F12, F15, F16, F13, F7, F8, g12, g15, g16, g13, g7, g8, b_enumerate, b_list⟩
  have NF : Nonempty (Fns K mg) := ⟨{
    fE := _,
    fdE := _,
    fN := _,
    fdN := _,
    fP := _,
    fdP := _,
    fG := _,
    fdG := _,
    fR := _,
    fdR := _,
    fM := _,
    fdM := _,
    fB := _,
    fdB := _,
    fC := _,
    fdC := _,
    fO := _,
    fdO := _,
    fL := _,
    fdL := _,
    fT := _,
    fdT := _,
    fW := _,
    fdW := _,
    D := D1,
    D2 := D2,
    fCo := _,
    fdCo := d17,
    Co := F17,
    gCo := g17,
    fLo := _,
    fdLo := d14,
    Lo := F14,
    gLo := g14,
    fKo := _,
    fdKo := d3,
    Ko := F3,
    gKo := g3,
    fKg := _,
    fdKg := d4,
    Kg := F4,
    gKg := g4,
    fGi := _,
    fdGi := d5,
    Gi := F5,
    gGi := g5,
    fFi := _,
    fdFi := d6,
    Fi := F6,
    gFi := g6,
    fSt := _,
    fdSt := d18,
    St' := F18,
    gSt := g18,
    fDr := _,
    fdDr := d19,
    Dr := F19,
    gDr := g19,
    fCh := _,
    fdCh := d20,
    Ch := F20,
    gCh := g20,
    fSh := _,
    fdSh := d21,
    Sh := F21,
    gSh := g21,
    fWo := _,
    fdWo := d22,
    Wo := F22,
    gWo := g22,
    fCa := _,
    fdCa := d23,
    Ca := F23,
    gCa := g23,
    fHv := _,
    fdHv := d24,
    Hv := F24,
    gHv := g24,
    fTo := _,
    fdTo := d25,
    To := F25,
    gTo := g25,
    fNa := _,
    fdNa := d26,
    Na := F26,
    gNa := g26,
    bRange := b_range,
    bMax := b_max,
    bMin := b_min,
    bTuple := b_tuple,
    bDict := b_dict,
    bAll := b_all }⟩
  obtain ⟨N⟩ := NF
  have b := FunD.bindsA (ps := ["_law_script"]) F fun _ _ _ _ _ _ us hl => match us, hl with | [_], _ => rfl
  exact ⟨fd, fun s v => b s [v] rfl, fun base _ _ => ok_law F N⟩
end
end Kn

set_option Elab.async false
set_option linter.all false
set_option maxRecDepth 100000
set_option maxHeartbeats 0
/-! The end. -/
open PySem PySem.W PySem.Calls PyProof.Rows
theorem PySem.Challenge.cw_keptnames_k80_whole_finer_and_coarser_ru_holds : PySem.Challenge.rw_keptnames_k80_whole_finer_and_coarser_ru.Holds := by
  w_on; o_law
  refine HandSHeadRun.head_any (r := OpenLaw.row PySem.Challenge.rw_keptnames_k80_whole_finer_and_coarser_ru) (q := view (OpenLaw.row PySem.Challenge.rw_keptnames_k80_whole_finer_and_coarser_ru).prog [33]) (H := Kn.hk) (ob := Kn.ob) (M := 4000) (loose := Kn.loose) (d := HandSHeadRun.topDef (OpenLaw.row PySem.Challenge.rw_keptnames_k80_whole_finer_and_coarser_ru).prog 33) (kwd := []) Kn.ob_eq
    (by kernel_rfl) (fun s => by kernel_rfl) Kn.run (by kernel_rfl) (by kernel_rfl) (by kernel_rfl) (by rfl) (by first | assumption | decide +kernel) (by decide +kernel) ⟨rfl, rfl, rfl, rfl, rfl, by decide +kernel⟩ ?hw ?hc
  case hw => w_witness2
  case hc =>
    refine Kn.walk_ofBE (l := PySem.Challenge.rw_keptnames_k80_whole_finer_and_coarser_ru) (n := 63) (k := 5) (x := "_law_script") (CX := L2.CX0) rfl (by decide) (by kernel_rfl) ⟨rfl, by decide, by decide⟩ ?F (fun _ _ _ _ z => z)
    intro w mg fa h Y G hmg0
    obtain ⟨K, KX, c⟩ := Y
    have hmg : mg ("law" : PySem.Str) = some (.ref fa) := by
      have e : (HandSHeadRun.topDef (OpenLaw.row PySem.Challenge.rw_keptnames_k80_whole_finer_and_coarser_ru).prog 33).name = ("law" : PySem.Str) := by kernel_rfl
      rw [← e]
      exact hmg0
    obtain ⟨fd, hb, hF⟩ := Kn.facts (P := (PySem.Challenge.rw_keptnames_k80_whole_finer_and_coarser_ru).prog) (w := w) KX G hmg c
    exact ⟨K, fd, Kn.spLaw K, KX, hb, fun H a ns hl hbits _ hS => ⟨a, ns, rfl, hS, hl, hbits, fun _ => rfl⟩, hF⟩
