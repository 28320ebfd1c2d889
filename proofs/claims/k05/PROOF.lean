import PyProof.Rows.All
import Wide.All
import OpenK.AllK
import Wide.FinOn
import HandS.ForMost
import HandS.Evl
import HandS.Deep
import HandS.IsInst
import KE.KDictKeyed
import KE.KDictDisplayH
import KE.KIndexOf
import KE.GoesEnum
import PySem.Challenge.RW_maieutic_k05_whole_alike_and_least
set_option Elab.async false
set_option linter.all false
set_option maxRecDepth 100000
namespace Mae
open PySem PySem.Spec PyProof.Rows L2

/-! ### a dict whose keys are a number and a tuple of numbers -/
abbrev vi (n : Nat) : V := .int (n : Int)
def nk (n : Nat) : NestedKey := .num (n : Int)
/-- the key of a sign -/
def sg (x : Nat × List Nat) : NestedKey := .tup [nk x.1, .tup (x.2.map nk)]
theorem num_inj {a b : Nat} (h : nk a = nk b) : a = b := by
  unfold nk at h
  injection h with h
  exact Int.ofNat.inj h
theorem nums_inj : ∀ {a b : List Nat}, a.map nk = b.map nk → a = b
  | [], [], _ => rfl
  | [], _ :: _, h => by simp at h
  | _ :: _, [], h => by simp at h
  | x :: a, y :: b, h => by
    rw [List.map_cons, List.map_cons] at h
    injection h with h1 h2
    rw [num_inj h1, nums_inj h2]
theorem sg_inj {x y : Nat × List Nat} (h : sg x = sg y) : x = y := by
  unfold sg at h
  injection h with h
  injection h with h1 h2
  injection h2 with h2
  injection h2 with h2
  exact Prod.ext (num_inj h1) (nums_inj h2)

abbrev Ent := (Nat × List Nat) × Addr × V
/-- the entries of the dict's object -/
def DnAt (P : Program) (w : World) (h : Heap) (a : Addr) (kvs : List Ent) : Prop :=
  kvs.length ≤ sizeLine ∧ (a == sysModules) = false ∧ ∃ xs : List (NestedKey × Addr × Value), Paired (fun (p : Ent) (q : NestedKey × Addr × Value) => sg p.1 = q.1 ∧ p.2.1 = q.2.1 ∧ RelV p.2.2 q.2.2) kvs xs ∧
    ∃ o es ep, h.get? a = some o ∧ o.ExactDict ∧ o.data = .dict es ep ∧ es.toList = xs.map (entryOfKey (nestedKind P w)) ∧ (xs.map (·.1)).Nodup
def Dn (P : Program) (w : World) (a : Addr) (kvs : List Ent) : HO := .ext fun h => DnAt P w h a kvs
theorem dn_ok {P : Program} {w : World} {H : Hp} {h : Heap} {a : Addr} {kvs : List Ent} (x : DnAt P w h a kvs) : ObjOk P w H h a (Dn P w a kvs) := by
  have x' := x
  obtain ⟨_, _, _, _, o, _, _, ho, _⟩ := x'
  refine ⟨x, ⟨o, ho⟩, fun h1 h2 p k => ?_⟩
  obtain ⟨z, y, xs, r, o', es, ep, ho', q⟩ := p
  exact ⟨z, y, xs, r, o', es, ep, k o' ho', q⟩
theorem dn_of {P : Program} {w : World} {H : Hp} {h : Heap} {a : Addr} {kvs : List Ent} (ok : HOk P w H h) (e : H a = some (Dn P w a kvs)) : DnAt P w h a kvs :=
  (show ObjOk P w H h a (Dn P w a kvs) from ok a _ e).1

/-- the tuple at b is the sign x -/
def SgAt (H : Hp) (x : Nat × List Nat) (b : Addr) : Prop := ∃ c, H b = some (.tup [.int (x.1 : Int), .ref c]) ∧ H c = some (.tup (x.2.map vi))
theorem nested_all {h : Heap} : ∀ {ns : List Nat} {us : List Value}, Vals (ns.map vi) us → NestedAll h (ns.map nk) us
  | [], _, .nil => .nil
  | n :: ns, _, .cons r t => by
    obtain ⟨tk, rfl⟩ := r
    exact .cons (.int _ _) (nested_all t)
theorem depth_nums : ∀ ns : List Nat, NestedKey.depthAll (ns.map nk) ≤ 1
  | [] => by simp [NestedKey.depthAll]
  | n :: ns => by
    have := depth_nums ns
    simp only [List.map_cons, NestedKey.depthAll, nk, NestedKey.depth]
    omega
theorem sg_is {P : Program} {w : World} {H : Hp} {h : Heap} {x : Nat × List Nat} {b : Addr} (ok : HOk P w H h) (e : SgAt H x b) : (nestedKind P w).is h (sg x) b := by
  obtain ⟨c, eb, ec⟩ := e
  obtain ⟨_, its, r, o, h1, h2, n, h3⟩ := (show ObjOk P w H h b (.tup [.int (x.1 : Int), .ref c]) from ok b _ eb)
  obtain ⟨_, its', r', o', h1', h2', n', h3'⟩ := (show ObjOk P w H h c (.tup (x.2.map vi)) from ok c _ ec)
  refine ⟨?_, ?_⟩
  · cases r with
    | cons r1 rr =>
      cases rr with
      | cons r2 rn =>
        cases rn
        obtain ⟨tk, rfl⟩ := r1
        cases r2
        exact .tup h1 h2 h3 (.cons (.int _ _) (.cons (.tup h1' h2' h3' (by simpa using nested_all r')) .nil))
  · have := depth_nums x.2
    unfold sg
    simp only [NestedKey.depth, NestedKey.depthAll, nk]
    omega

/-- what stands at a sign -/
def dnVal (kvs : List Ent) (x : Nat × List Nat) : Option V := (kvs.find? fun e => decide (e.1 = x)).map (·.2.2)
theorem dn_dict {P : Program} {w : World} {H : Hp} {h : Heap} {a : Addr} {kvs : List Ent} (ok : HOk P w H h) (e : H a = some (Dn P w a kvs)) (hk : ∀ p ∈ kvs, SgAt H p.1 p.2.1) :
    kvs.length ≤ sizeLine ∧ (a == sysModules) = false ∧ ∃ xs : List (NestedKey × Addr × Value), Paired (fun (p : Ent) (q : NestedKey × Addr × Value) => sg p.1 = q.1 ∧ p.2.1 = q.2.1 ∧ RelV p.2.2 q.2.2) kvs xs ∧ h.DictOfH (nestedKind P w) a xs := by
  obtain ⟨z, y, xs, r, o, es, ep, h1, h2, h3, h4, h5⟩ := dn_of ok e
  refine ⟨z, y, xs, r, o, es, ep, h1, h2, h3, h4, fun q hq => ?_, h5⟩
  have all : ∀ {l : List Ent} {m : List (NestedKey × Addr × Value)}, Paired (fun (p : Ent) (q : NestedKey × Addr × Value) => sg p.1 = q.1 ∧ p.2.1 = q.2.1 ∧ RelV p.2.2 q.2.2) l m → (∀ p ∈ l, SgAt H p.1 p.2.1) → ∀ q ∈ m, (nestedKind P w).is h q.1 q.2.1 := by
    intro l m rr
    induction rr with
    | nil => intro _ q hq; exact nomatch hq
    | @cons p q ps qs hpq t ih =>
      intro hl q' hq'
      rcases List.mem_cons.mp hq' with e | hq'
      · subst e
        rw [← hpq.1, ← hpq.2.1]
        exact sg_is ok (hl p List.mem_cons_self)
      · exact ih (fun p' hp' => hl p' (List.mem_cons_of_mem _ hp')) q' hq'
  exact all r hk q hq
theorem dn_at {kvs : List Ent} {xs : List (NestedKey × Addr × Value)} (r : Paired (fun (p : Ent) (q : NestedKey × Addr × Value) => sg p.1 = q.1 ∧ p.2.1 = q.2.1 ∧ RelV p.2.2 q.2.2) kvs xs) (x : Nat × List Nat) :
    RelO (dnVal kvs x) ((atKey xs (sg x)).map (·.2)) := by
  induction r with
  | nil => exact True.intro
  | @cons p q ps qs hpq t ih =>
    unfold dnVal atKey at ih ⊢
    by_cases e : p.1 = x
    · have e2 : q.1 = sg x := by rw [← hpq.1, e]
      rw [List.find?_cons_of_pos (by exact decide_eq_true e), List.find?_cons_of_pos (by exact decide_eq_true e2)]
      exact hpq.2.2
    · have e2 : ¬ q.1 = sg x := fun z => e (sg_inj (hpq.1.trans z))
      rw [List.find?_cons_of_neg (by simpa using e), List.find?_cons_of_neg (by simpa using e2)]
      exact ih

section
variable {X : Cx} {o i value : Expr} {pos pos' : Pos} {td ty tv : TE}
/-- x not in d -/
def tDnNot (P : Program) (w : World) (ty td : TE) : TE := fun σ H Q => ty σ H fun y H1 => td σ H1 fun d H2 => ∃ a b x kvs, d = .ref a ∧ y = .ref b ∧ H2 a = some (Dn P w a kvs) ∧ (∀ p ∈ kvs, SgAt H2 p.1 p.2.1) ∧ SgAt H2 x b ∧ Q (.bl (!(dnVal kvs x).isSome)) H2
theorem pc_dnNot (hu : X.A.units + 64 < cLine) (hi : PE X i ty) (ho : PE X o td) : PC X .NotIn i o (tDnNot X.prog X.w ty td) := by
  refine ⟨fun pins s σ H Q I h => ?_⟩
  refine thn (hi.run pins s σ H _ I h) fun iv s1 ⟨y, H1, I1, ry, q1⟩ => thn (ho.run pins s1 σ H1 _ I1 q1) fun u s2 ⟨d, H2, I2, rx, a, b, x, kvs, ed, ey, hd, hk, hx, q2⟩ => ?_
  subst ed ey
  obtain rfl : u = Value.ref a := rx
  obtain rfl : iv = Value.ref b := ry
  obtain ⟨z, hs, xs, rel, dd⟩ := dn_dict I2.hok hd hk
  have room : (nestedKind X.prog X.w).room X.A.in1 := by
    show X.A.units + 1 + 8 < cLine
    omega
  refine notIn_keyed room (sg_is I2.hok hx) hs ⟨xs, dd, rfl⟩ ?_
  have q := (dn_at rel x).isSome_eq
  rw [valueAt_pairsH, ← q]
  exact ⟨.bl _, H2, I2.tok _, rfl, q2⟩
/-- d[x], there -/
def tDnGet (P : Program) (w : World) (td ty : TE) : TE := fun σ H Q => td σ H fun d H1 => ty σ H1 fun y H2 => ∃ a b x kvs v, d = .ref a ∧ y = .ref b ∧ H2 a = some (Dn P w a kvs) ∧ (∀ p ∈ kvs, SgAt H2 p.1 p.2.1) ∧ SgAt H2 x b ∧ dnVal kvs x = some v ∧ Q v H2
theorem pe_dnGet (hu : X.A.units + 64 < cLine) (ho : PE X o td) (hi : PE X i ty) (hs : NoSl i) : PE X (.Subscript o i pos) (tDnGet X.prog X.w td ty) := by
  refine ⟨fun pins s σ H Q I h => ?_⟩
  refine subD_of PySem.F.slot_dict_getitem.lookup hs (thn (ho.run pins s σ H _ I h) fun u s1 ⟨d, H1, I1, rd, q1⟩ => thn (hi.run pins s1 σ H1 _ I1 q1) fun iv s2 ⟨y, H2, I2, ry, a, b, x, kvs, v, ed, ey, hd, hk, hx, hv, q2⟩ => ?_)
  subst ed ey
  obtain rfl : u = Value.ref a := rd
  obtain rfl : iv = Value.ref b := ry
  obtain ⟨z, hs', xs, rel, dd⟩ := dn_dict I2.hok hd hk
  have room : (nestedKind X.prog X.w).room X.A.in1 := by
    show X.A.units + 1 + 8 < cLine
    omega
  have q := dn_at rel x
  rw [hv] at q
  obtain ⟨w', hw, rw'⟩ := RelO.some_of (v := v) (o := (atKey xs (sg x)).map (·.2)) q
  refine ⟨dd.typeIs, getItem_keyed room (sg_is I2.hok hx) ⟨xs, dd, rfl⟩ (by rw [valueAt_pairsH]; exact hw) ?_⟩
  exact ⟨v, H2, I2.tok _, rw', q2⟩
/-- d[x] = v, a new key -/
def sDnPut (P : Program) (w : World) (td ty tv : TE) : TS := fun D σ H => tv σ H fun v H1 => td σ H1 fun d H2 => ty σ H2 fun y H3 => ∃ a b x kvs, d = .ref a ∧ y = .ref b ∧ H3 a = some (Dn P w a kvs) ∧ (∀ p ∈ kvs, SgAt H3 p.1 p.2.1) ∧ SgAt H3 x b ∧
  dnVal kvs x = none ∧ kvs.length < sizeLine ∧ D.nx σ (upd H3 a (Dn P w a (kvs ++ [(x, b, v)])))
theorem paired_snoc {α β : Type} {F : α → β → Prop} {a : α} {b : β} (r : F a b) : ∀ {l : List α} {m : List β}, Paired F l m → Paired F (l ++ [a]) (m ++ [b])
  | _, _, .nil => .cons r .nil
  | _, _, .cons q t => .cons q (paired_snoc r t)
theorem ps_dnPut (hu : X.A.units + 64 < cLine) (ho : PE X o td) (hi : PE X i ty) (hv : PE X value tv) (hs : swapsWith value (some (.Subscript o i pos')) pos.line X.env = pure false) :
    PS X (.Assign [.Subscript o i pos'] value pos) (sDnPut X.prog X.w td ty tv) := by
  refine ⟨fun pins s σ H D I h => ?_⟩
  refine wpAny_Assign_Subscript (thn (hv.run pins s σ H _ I h) fun r s1 ⟨v, H1, I1, rv, q1⟩ => thn (ho.run pins s1 σ H1 _ I1 q1) fun u s2 ⟨d, H2, I2, rx, q2⟩ => thn (hi.run pins s2 σ H2 _ I2 q2) fun iv s3 ⟨y, H3, I3, ry, a, b, x, kvs, ed, ey, hd, hk, hx, hn, hl, q3⟩ => ?_) hs
  subst ed ey
  obtain rfl : u = Value.ref a := rx
  obtain rfl : iv = Value.ref b := ry
  obtain ⟨z, hs', xs, rel, dd⟩ := dn_dict I3.hok hd hk
  have room : (nestedKind X.prog X.w).room X.A.in1 := by
    show X.A.units + 1 + 8 < cLine
    omega
  have hlen := Paired.length rel
  have hz : xs.length ≤ sizeLine := by omega
  have hnone : atKey xs (sg x) = none := by
    have q := dn_at rel x
    rw [hn] at q
    cases e : atKey xs (sg x) with
    | none => rfl
    | some p => rw [e] at q; exact q.elim
  refine wpAny_setItem_heap (hsz := hz) room (sg_is I3.hok hx) dd fun h' dd' hs2 => ?_
  obtain ⟨ob, es, ep, hq, h2, h3, h4, _, h5⟩ := dd'
  rw [storedH_new hnone] at h4 h5
  refine ⟨σ, _, d_write I3 (by rw [hd]; exact True.intro) hs2 ⟨ob, hq⟩ (dn_ok ⟨?_, hs', xs ++ [(sg x, b, r)], ?_, ob, es, ep, hq, h2, h3, h4, h5⟩), q3⟩
  · rw [List.length_append]
    exact hl
  · exact paired_snoc ⟨rfl, rfl, rv⟩ rel
/-- {}, its keys to be signs -/
def tDnNew (P : Program) (w : World) : TE := fun _ H Q => ∀ p, H p = none → Q (.ref p) (upd H p (Dn P w p []))
theorem pe_dnNew : PE X (.Dict [] [] pos) (tDnNew X.prog X.w) := ⟨fun pins s σ H Q I h =>
  wpAny_Dict_empty ⟨.ref s.heap.objs.size, _, I.laid (a := s.heap.objs.size) (o := Dn X.prog X.w s.heap.objs.size []) (t' := s.toks) (fun _ _ q => Heap.get?_push_of_some _ q) (Nat.le_refl _)
    (dn_ok ⟨Nat.zero_le _, beq_eq_false_iff_ne.mpr (Ne.symm (Nat.ne_of_lt I.big)), [], .nil, _, #[], 0, Heap.get?_push_size _ rfl, ⟨rfl, rfl, rfl⟩, rfl, rfl, List.nodup_nil⟩), rfl, h _ (I.hok.fresh (Nat.le_refl _))⟩⟩

/-! ### {(a, b): v} -/
def tDisp1 (tk tv : TE) : TE := fun σ H Q => ∀ p, H p = none → tk σ (upd H p (.dT [])) fun x H1 => tv σ H1 fun v H2 => H2 p = some (.dT []) ∧ ∃ (k : List Key) (b : Addr), x = .ref b ∧ H2 b = some (.tup (k.map kV)) ∧ Q (.ref p) (upd H2 p (.dT [(k, v)]))
theorem pe_disp1 {k e : Expr} {tk tv : TE} (hu : X.A.units + 64 < cLine) (hk : PE X k tk) (he : PE X e tv) : PE X (.Dict [some k] [e] pos) (tDisp1 tk tv) := by
  refine ⟨fun pins s σ H Q I q => ?_⟩
  have hn := I.hok.fresh (Nat.le_refl s.heap.objs.size)
  have I1 := I.laid (a := s.heap.objs.size) (o := .dT []) (h' := s.heap.push { cls := .type "dict", data := .dict #[] }) (t' := s.toks) (fun _ _ q => Heap.get?_push_of_some _ q) (Nat.le_refl _) (dt_empty s.heap I.big)
  have shape : (evalEachOpt [some k] X.env).zip ((evalEach [e] X.env).map fun v => do let x ← v; standAt pos; pure x) = (pairTrees [some k] [e] X.env pos).map fun p => (some p.1, p.2) := zip_pairTrees _ _ X.env pos rfl rfl
  rw [arm_eval_Dict, shape, dictDisplay_pairs (pairTrees [some k] [e] X.env pos) (by intro z; cases z) (by show 1 < 17; decide)]
  refine wpAny_bind (wpAny_standAt (wpAny_bind (wpAny_subDictH (knd := tupleKind (mixKind X.prog X.w)) (Q := fun d s' => wpAny (model X.prog X.w) X.A (pure (Value.ref d)) (EP X pins σ Q) X.xe s') (by show X.A.units < cLine; omega) (by show 1 ≤ 15; decide) ?_)))
  refine pairTrees_cons_walk (thn (hk.run pins _ σ _ _ I1 (q _ hn)) fun u s1 ⟨x, H1, I2, rx, q1⟩ => thn (he.run pins s1 σ H1 _ I2 q1) fun w2 s2 ⟨v, H2, I3, rv, hd, ks, b, ex, hb, q2⟩ => pairTrees_nil_walk ?_)
  subst ex
  obtain rfl : u = Value.ref b := rx
  obtain ⟨z, hsm, xs0, r0, dd0⟩ := dt_of I3.hok hd
  cases r0
  refine ⟨[(ks, b, w2)], ⟨rfl, rfl, key_of I3.hok hb, True.intro⟩, dd0, fun h' tk' dd hs => ?_⟩
  obtain ⟨ob, es, ep, hq, h2, h3, h4, his, h5⟩ := dd
  have ne : b ≠ s.heap.objs.size := ne_of hb hd (fun z => nomatch z)
  refine wpAny_pure ⟨.ref s.heap.objs.size, upd H2 s.heap.objs.size (.dT [(ks, v)]), d_write I3 (by rw [hd]; exact True.intro) hs ⟨ob, hq⟩ ⟨by show 1 ≤ sizeLine; decide, hsm, [(ks, b, w2)], .cons ⟨rfl, ?_, rv⟩ .nil, ob, es, ep, hq, h2, h3, h4, h5⟩, rfl, q2⟩
  rw [upd_ne ne]
  exact hb

/-! ### xs.index(x), numbers -/
theorem ints_are : ∀ {ns : List Nat} {us : List Value}, Vals (ns.map vi) us → IntsAre us (ns.map fun n : Nat => (n : Int))
  | [], _, .nil => .nil
  | n :: ns, _, .cons r t => by
    obtain ⟨tk, rfl⟩ := r
    exact .cons _ _ (ints_are t)
theorem idx_map (ns : List Nat) (x : Nat) : (ns.map fun n : Nat => (n : Int)).idxOf (x : Int) = ns.idxOf x := by
  induction ns with
  | nil => rfl
  | cons n ns ih =>
    rw [List.map_cons, List.idxOf_cons, List.idxOf_cons, ih]
    by_cases e : n = x
    · subst e; simp
    · have e2 : ¬ (n : Int) = (x : Int) := fun z => e (Int.ofNat.inj z)
      rw [beq_eq_false_iff_ne.mpr e, beq_eq_false_iff_ne.mpr e2]
theorem mem_map_int {ns : List Nat} {x : Nat} (h : x ∈ ns) : (x : Int) ∈ ns.map fun n : Nat => (n : Int) := List.mem_map.mpr ⟨x, h, rfl⟩
def rLstIx (K : PySem.W.Frag) : V → List V → Hp → VK → Prop := fun x xs H Q => ∃ (p : Addr) (ns : List Nat) (n : Nat), x = .ref p ∧ xs = [vi n] ∧ SqL K H p (ns.map vi) ∧ n ∈ ns ∧ Q (vi (ns.idxOf n)) H
theorem mt_lstIx : MtR X "list.index" (rLstIx X.K) := by
  intro pins s σ H x xs v us Q I rx rs h
  obtain ⟨p, ns, n, rfl, rfl, hq, hm, q⟩ := h
  cases rx
  obtain ⟨u, rfl, t, rfl⟩ := vals1 rs
  obtain ⟨its, r, pl, hz⟩ := I.list hq
  refine SeqAt.list_index_ints pl.isList (ints_are r) (by rw [List.length_map]; rw [List.length_map] at hz; exact hz) (mem_map_int hm) ?_
  rw [idx_map]
  exact ⟨vi (ns.idxOf n), H, I.tok _, ⟨_, rfl⟩, q⟩
end

/-! ### enumerate(t), t a tuple -/
set_option maxHeartbeats 2000000 in
/-- the object enumerate(v) is made, v one that an iterator is made of at once -/
theorem enum_born {v : Value} {o : Obj} {G : Heap → Prop} (B : Begins v o G) :
    Meets (Builtin.«enumerate.__new__» ⟨[.type "enumerate", v], []⟩) (fun _ R s => G s.heap ∧
      R (.ok (.ret (.ref (s.heap.push o).objs.size))) { s with heap := (s.heap.push o).push { cls := .type "enumerate", data := .fields #[.none, .bool false, .ref s.heap.objs.size, rawInt 0, .none, .none] } }) := by
  refine .of_wp fun P0 w0 A0 R0 s0 hh => ?_
  obtain ⟨hp0, gs0, dr0, tk0, os0⟩ := s0
  obtain ⟨hG, hR⟩ := hh
  have hsub := sub_enumerate
  have make : ∀ {A1 : Around} {E1 : Value → Shared → Prop} {Q1 : Value → Shared → Prop}, Q1 (.ref hp0.objs.size) ⟨hp0.push o, gs0, dr0, tk0, os0⟩ → wpAny (model P0 w0) A1 (pyIter v) Q1 E1 ⟨hp0, gs0, dr0, tk0, os0⟩ :=
    fun q1 => B.iter P0 w0 _ _ ⟨hp0, gs0, dr0, tk0, os0⟩ _ hG q1
  wp_walk using make
  refine wpAny_stack_any fun stk => wpAny_pure ?_
  split
  · rename_i cl _ _ _ _ _
    cases (cl == Value.type "enumerate") <;> (wp_walk using make) <;> exact ⟨_, rfl, hR⟩
  · wp_walk using make
    exact ⟨_, rfl, hR⟩
theorem enum_called {prog : Program} {w : World} {A : Around} {E : Value → Shared → Prop} {s : Shared} {v : Value} {o : Obj} {G : Heap → Prop} {Q : Value → Shared → Prop} (B : Begins v o G) (hG : G s.heap)
    (go : ∀ g : Heap, IsEnum g (s.heap.objs.size + 1) s.heap.objs.size 0 .none → g.get? s.heap.objs.size = some o → (∀ b u, s.heap.get? b = some u → g.get? b = some u) → Q (.ref (s.heap.objs.size + 1)) { s with heap := g }) :
    wpAny (model prog w) A (call (.type "enumerate") [v]) Q E s := by
  refine callType_new F.called_enumerate (by decide) (F.typeCall_enumerate_1 _) (F.newCall_enumerate_1 _) (fun obj => F.args_object_init_2 obj _) F.entry_enumerate_new (enum_born B) ⟨hG, ?_⟩
  have size1 : (s.heap.push o).objs.size = s.heap.objs.size + 1 := Heap.size_push _ _
  have there : IsEnum ((s.heap.push o).push { cls := .type "enumerate", data := .fields #[.none, .bool false, .ref s.heap.objs.size, rawInt 0, .none, .none] }) (s.heap.objs.size + 1) s.heap.objs.size 0 .none := by
    rw [← size1]
    exact Heap.get?_push_size _ rfl
  rw [show (s.heap.push o).objs.size = s.heap.objs.size + 1 from size1]
  exact ⟨⟨_, there, rfl⟩, go _ there (Heap.get?_push_of_some _ (Heap.get?_push_size _ B.free)) fun _ _ z => Heap.get?_push_of_some _ (Heap.get?_push_of_some _ z)⟩

/-- the enumerate object at e over the iterator at i0 over the tuple at a, n items gone through -/
structure EnT (g : Heap) (e i0 a : Addr) (n : Nat) : Prop where
  en : ∃ old, IsEnum g e i0 ((n : Nat) : Int) old
  tu : g.IsTupleIter i0 a n
  ne : e ≠ i0
section
variable {g g' : Heap} {e i0 a b : Addr} {n : Nat}
theorem two_cases (h : b ∈ [e, i0]) : b = e ∨ b = i0 := by
  rcases List.mem_cons.mp h with z | z
  · exact .inl z
  · exact .inr (List.mem_singleton.mp z)
theorem EnT.at_ (T : EnT g e i0 a n) (h : b ∈ [e, i0]) : ∃ u : Obj, g.get? b = some u ∧ ∃ fs, u.data = .fields fs := by
  rcases two_cases h with rfl | rfl
  · obtain ⟨_, x⟩ := T.en
    exact ⟨_, x, _, rfl⟩
  · obtain ⟨u, x, _, y⟩ := T.tu
    exact ⟨u, x, _, y⟩
theorem EnT.lt (T : EnT g e i0 a n) (h : b ∈ [e, i0]) : b < g.objs.size := by
  obtain ⟨_, x, _⟩ := T.at_ h
  exact Heap.lt_size x
theorem EnT.stay (T : EnT g e i0 a n) (k : ∀ b ∈ [e, i0], ∀ u, g.get? b = some u → g'.get? b = some u) : EnT g' e i0 a n := by
  obtain ⟨old, x⟩ := T.en
  exact ⟨⟨old, k e List.mem_cons_self _ x⟩, T.tu.at fun u z => k i0 (List.mem_cons_of_mem _ List.mem_cons_self) u z, T.ne⟩
/-- the tuple is none of the two -/
theorem EnT.apart (T : EnT g e i0 a n) {items : Array Value} (ht : g.IsTuple a items) : a ≠ i0 ∧ e ∉ [i0, a] := by
  obtain ⟨u, hu, hcu, hdu⟩ := T.tu
  obtain ⟨v, hv, hcv, m, hdv⟩ := ht
  obtain ⟨old, he⟩ := T.en
  have he' : g.get? e = some _ := he
  have ai : a ≠ i0 := fun z => by
    rw [z, hu] at hv
    cases hv
    rw [hdu] at hdv
    cases hdv
  refine ⟨ai, fun hm => ?_⟩
  rcases two_cases hm with z | z
  · exact T.ne z
  · rw [z, hv] at he'
    cases he'
    cases hdv
end
/-- the tuple at a, each item in a new pair with its place -/
def Iet (K : PySem.W.Frag) (a : Addr) : It :=
  ⟨fun n H => ∃ (xs : List V) (x : V), SqT K H a xs ∧ xs[n]? = some x,
   fun n H v H' => ∃ (T : Addr) (x : V), v = .ref T ∧ H T = none ∧ H' = upd H T (.tup [vi n, x]) ∧ ∀ xs, SqT K H a xs → xs[n]? = some x,
   fun n H => ∃ xs : List V, SqT K H a xs ∧ xs.length = n⟩
section
variable {X : Cx} {pins : List (Addr × Obj)} {s : Shared} {σ : L2.St} {H : Hp} {E : Value → Shared → Prop} {e i0 a : Addr} {n : Nat} {elts : List Expr} {kk : Nat} {tpos : Pos}
theorem enT_item (hc : X.calm = true) (I : Inv X pins σ H s) (own : ∀ b ∈ [e, i0], FpOk X pins H b) (T : EnT s.heap e i0 a n) (more : (Iet X.K a).go n H) :
    wpAny (model X.prog X.w) X.A (pyNext (.ref e)) (fun r s1 => ∃ u, r = some u ∧ wpAny (model X.prog X.w) X.A (letOwnedTupleGo (.Tuple elts kk tpos) (.ref e) u)
      (fun _ s2 => ∃ x H', Inv X pins σ H' s2 ∧ RelV x u ∧ (Iet X.K a).yld n H x H' ∧ EnT s2.heap e i0 a (n + 1) ∧ ∀ b ∈ [e, i0], H' b = none) E s1) E s := by
  obtain ⟨xs, x, hsq, hx⟩ := more
  obtain ⟨vals, hvals, isT, _⟩ := I.tuple hsq
  obtain ⟨u, hget, hux⟩ := hvals.get hx
  obtain ⟨old, hen⟩ := T.en
  have onT : s.heap.IsTuple a vals.toArray := isT
  obtain ⟨ap1, ap2⟩ := T.apart onT
  have lte := T.lt (b := e) List.mem_cons_self
  have ltn : n < vals.toArray.size := by
    rw [List.size_toArray]
    exact (List.getElem?_eq_some_iff.mp hget).1
  refine wpAny_pyNext_enum_itemD (Draws.tuple (prog := X.prog) (w := X.w) (A := X.A.in1) (I.ok.hd hc) i0 a ap1 vals.toArray) hen ⟨T.tu, onT⟩ ltn T.ne ap2 fun y g1 tk hy out st hpair _ keep => ?_
  have same : y = u := by
    rw [List.getElem?_toArray, hget] at hy
    exact (Option.some.inj hy).symm
  subst same
  refine ⟨_, rfl, wpAny_letOwnedTupleGo_enum (s := { s with heap := g1, toks := tk + 1 }) out fun g2 again but => ?_⟩
  have pair2 : g2.get? s.heap.objs.size = some { cls := .type "tuple", data := .seq #[.int n tk, y] } := (but.2 _ (Nat.ne_of_gt lte)).trans hpair
  have fresh : H s.heap.objs.size = none := I.hok.fresh (Nat.le_refl _)
  have obj : ObjOk X.prog X.w (upd H s.heap.objs.size (.tup [vi n, x])) g2 s.heap.objs.size (.tup [vi n, x]) := by
    refine ⟨by show 2 ≤ sizeLine; decide, [.int n tk, y], ?_, ⟨_, pair2, rfl, _, rfl⟩⟩
    exact .cons ⟨_, rfl⟩ (.cons hux .nil)
  have kept : ∀ b u, b ∉ [e, i0] → s.heap.get? b = some u → g2.get? b = some u := fun b u hb z => by
    have n1 : b ≠ e := fun q => hb (q ▸ List.mem_cons_self)
    have n2 : b ≠ i0 := fun q => hb (q ▸ List.mem_cons_of_mem _ List.mem_cons_self)
    exact (but.2 b n1).trans (keep b u n1 n2 z)
  have I2 := I.turnedNew (t' := tk + 1) (ch := [e, i0]) kept own (Nat.le_refl _) obj
  have T2 : EnT g2 e i0 a (n + 1) := by
    refine ⟨⟨y, ?_⟩, st.1.at fun u z => (but.2 i0 (Ne.symm T.ne)).trans z, T.ne⟩
    have up : ((n + 1 : Nat) : Int) = (n : Int) + 1 := rfl
    rw [up]
    exact again
  refine ⟨.ref s.heap.objs.size, _, I2, rfl, ⟨_, x, rfl, fresh, rfl, fun ys hy2 => ?_⟩, T2, fun b hb => ?_⟩
  · rw [I.tuple_inj hy2 hsq]
    exact hx
  · rw [upd_ne (Nat.ne_of_lt (T.lt hb))]
    exact (own b hb).1
theorem enT_done (hc : X.calm = true) (I : Inv X pins σ H s) (own : ∀ b ∈ [e, i0], FpOk X pins H b) (T : EnT s.heap e i0 a n) (over : (Iet X.K a).stop n H) :
    wpAny (model X.prog X.w) X.A (pyNext (.ref e)) (fun r s1 => r = none ∧ Inv X pins σ H s1) E s := by
  obtain ⟨xs, hsq, hlen⟩ := over
  obtain ⟨vals, hvals, isT, _⟩ := I.tuple hsq
  have onT : s.heap.IsTuple a vals.toArray := isT
  obtain ⟨old, hen⟩ := T.en
  have D := Draws.tuple (prog := X.prog) (w := X.w) (A := X.A.in1) (I.ok.hd hc) i0 a (T.apart onT).1 vals.toArray
  rw [show vals.toArray.size = n by rw [List.size_toArray, ← hvals.length, hlen]] at D
  obtain ⟨o1, o2, _, o4, o5, o6⟩ := own i0 (List.mem_cons_of_mem _ List.mem_cons_self)
  exact wpAny_pyNext_enum_endD D hen ⟨T.tu, onT⟩ fun g1 but => ⟨rfl, I.turned (t' := s.toks) (fun b u hb z => but b u hb z) o1 o2 o4 o5 o6⟩
end
theorem turn_enT {P : Program} {w : World} {K : PySem.W.Frag} {elts : List Expr} {kk : Nat} {tpos : Pos} (a e i0 : Addr) : Turn P w K (.Tuple elts kk tpos) (Iet K a) [e, i0] e (fun n g => EnT g e i0 a n) where
  mem := List.mem_cons_self
  obj := fun n g T b hb => by
    obtain ⟨u, z, fs, y⟩ := T.at_ hb
    exact ⟨u, z, fun v q => by rw [y] at q; cases q⟩
  keep := fun n g g' T k => T.stay k
  item := fun X hP hw hK hc n pins s σ H E I own T more => by
    subst hP hw hK
    exact enT_item hc I own T more
  done := fun X hP hw hK hc n pins s σ H E I own T over => by
    subst hP hw hK
    exact enT_done hc I own T over
  self := fun A n s Q E T q => by
    obtain ⟨_, z⟩ := T.en
    exact wpAny_pyIter_enum z q
def iEnT (K : PySem.W.Frag) (ta : TA) : TI := fun σ H R => ta σ H fun vs H1 => ∃ a xs, vs = [.ref a] ∧ SqT K H1 a xs ∧ R (Iet K a) H1
theorem pi_enT {X : Cx} {e : Expr} {ta : TA} {p pos tpos : Pos} {elts : List Expr} {kk : Nat} (glob : Gl X "enumerate") (bare : X.mg "enumerate" = none) (ha : PA X [e] ta) (one : starEach [e] X.env = [(false, eval e X.env)] := by rfl) :
    PI X (.Tuple elts kk tpos) (.Call (.Name "enumerate" p) [e] [] pos) (iEnT X.K ta) := ⟨fun pins s σ H R I h => by
  have args := ha.run pos pins s σ H _ I h
  refine Call_ (ld_blt I glob bare boot_enumerate (PyProof.Rows.callWith_type1 (thn args fun us s1 got => ?_) one rfl))
  obtain ⟨vs, H1, I1, rel, a, xs, rfl, hsq, go⟩ := got
  match us, rel with
  | [_], .cons r0 .nil =>
    cases r0
    obtain ⟨vals, _, isT, _⟩ := I1.tuple hsq
    refine enum_called (begins_tuple a vals.toArray) (show s1.heap.IsTuple a vals.toArray from isT) fun g hen hit kept => wpAny_pyIter_enum hen ?_
    have high : ∀ b ∈ [s1.heap.objs.size + 1, s1.heap.objs.size], s1.heap.objs.size ≤ b := fun b hb => by
      rcases two_cases hb with rfl | rfl
      · exact Nat.le_succ _
      · exact Nat.le_refl _
    refine ⟨_, [s1.heap.objs.size + 1, s1.heap.objs.size], _, _, H1, rfl, I1.kept (t' := s1.toks) kept, turn_enT a (s1.heap.objs.size + 1) s1.heap.objs.size, ?_, fun b hb => I1.fpOk (high b hb) (I1.hok.fresh (high b hb)), go⟩
    exact ⟨⟨.none, hen⟩, ⟨_, hit, rfl, rfl⟩, Nat.succ_ne_self _⟩⟩

/-! ### tuples of which it is known that they have no dict of their own -/
def Pt (H : Hp) (p : Addr) (xs : List V) : Prop := ∃ o : Obj, o.cls = .type "tuple" ∧ o.dict = none ∧ H p = some (.frz o (.tup xs))
theorem Pt.sq {K : PySem.W.Frag} {H : Hp} {p : Addr} {xs : List V} (h : Pt H p xs) : SqT K H p xs := by
  obtain ⟨o, _, _, e⟩ := h
  exact Or.inl (Or.inr ⟨o, e⟩)
def rTupF (K : PySem.W.Frag) : List V → Hp → VK → Prop := fun vs H Q => ∃ p ys, vs = [.ref p] ∧ SqL K H p ys ∧ ∀ l o, H l = none → o.cls = .type "tuple" → o.dict = none → Q (.ref l) (upd H l (.frz o (.tup ys)))
def rCatF (K : PySem.W.Frag) : R2 := fun x y H Q => ∃ a b xs ys, x = .ref a ∧ y = .ref b ∧ SqT K H a xs ∧ SqT K H b ys ∧ xs ≠ [] ∧ ys ≠ [] ∧ xs.length + ys.length ≤ sizeLine ∧
  ∀ l o, H l = none → o.cls = .type "tuple" → o.dict = none → Q (.ref l) (upd H l (.frz o (.tup (xs ++ ys))))
section
variable {X : Cx}
theorem cr_tupF : CallR X (.type "tuple") (rTupF X.K) := by
  intro pins s σ H xs us Q I r h
  obtain ⟨p, ys, rfl, hq, q⟩ := h
  obtain ⟨u, rfl, rx⟩ := vals1 r
  cases rx
  obtain ⟨its, r', pl, hz⟩ := I.list hq
  have hlen := r'.length
  refine call_tuple_list pl.isList (fun h' kp => ?_) (by simp only [List.size_toArray]; omega)
  have I1 : Inv X pins σ H { s with heap := h' } := I.kept (t' := s.toks) kp
  have I2 : Inv X pins σ (upd H h'.objs.size (.frz { cls := .type "tuple", data := .seq its.toArray } (.tup ys))) { s with heap := h'.push { cls := .type "tuple", data := .seq its.toArray } } :=
    I1.laid (t' := s.toks) (fun b o e => Heap.get?_push_of_some _ e) (Nat.le_refl _) ⟨Heap.get?_push_size _ rfl, hz, its, r', IsTup.new _ _⟩
  exact ⟨.ref h'.objs.size, _, I2, rfl, q _ _ (I1.hok.fresh (Nat.le_refl _)) rfl rfl⟩
theorem op_catF : OpR X (binaryOp .Add) (rCatF X.K) := by
  intro pins s σ H x y v u Q I rx ry h
  obtain ⟨a, b, xs, ys, rfl, rfl, ha, hb, hx, hy, hz, q⟩ := h
  cases rx
  cases ry
  obtain ⟨its, r1, p1, _⟩ := I.tuple ha
  obtain ⟨its2, r2, p2, _⟩ := I.tuple hb
  refine HT.cat_tup p1 p2 (fun z => hx (r1.nil_iff.mp z)) (fun z => absurd (r2.nil_iff.mp z) hy) (fun z => ?_) (by rw [← r1.length, ← r2.length]; exact hz)
  refine ⟨.ref s.heap.objs.size, _, I.laid (t' := s.toks) (o := .frz { cls := .type "tuple", data := .seq (its ++ its2).toArray } (.tup (xs ++ ys))) (fun b ob q => Heap.get?_push_of_some _ q) (Nat.le_refl _) ?_, rfl, q _ _ (I.hok.fresh (Nat.le_refl _)) rfl rfl⟩
  exact ⟨Heap.get?_push_size _ rfl, by rw [List.length_append]; exact hz, _, r1.append r2, IsTup.new _ _⟩
/-- p.index(n), p a tuple of numbers without a dict of its own, n among them -/
def tTupIx (to te : TE) : TE := fun σ H Q => to σ H fun x H1 => ∃ (p : Addr) (ns : List Nat), x = .ref p ∧ Pt H1 p (ns.map vi) ∧ te σ H1 fun y H2 => ∃ n, y = vi n ∧ Pt H2 p (ns.map vi) ∧ n ∈ ns ∧ Q (vi (ns.idxOf n)) H2
theorem pe_tupIx {o e : Expr} {to te : TE} {apos cpos : Pos} (ho : PE X o to) (he : PE X e te) (m : M1 X o "index" apos e cpos) : PE X (.Call (.Attribute o "index" apos) [e] [] cpos) (tTupIx to te) := ⟨fun pins s σ H Q I h => by
  have base := ho.run pins s σ H _ I h
  refine wpAny_Call_method m.base m.few m.line PySem.F.plainAttrs_tuple PySem.F.slot_tuple_index PySem.F.type_tuple_index (thn base fun v s1 got => ?_)
  obtain ⟨x, H1, I1, rx, p, ns, rfl, ⟨ob, oc, od, op⟩, rest⟩ := got
  cases (show v = Value.ref p from rx)
  have there := (I1.hok p _ op).1
  refine ⟨⟨ob, there, oc⟩, fun b eb => ?_, ?_⟩
  · cases eb
    exact ⟨ob, there, od⟩
  · rw [m.trees]
    have arg := he.run pins s1 σ H1 _ I1 rest
    refine Calls.callWith_builtin rfl (Calls.evalArgs_plain (Calls.spliced_cons (thn arg fun u s2 got2 => Calls.spliced_nil ?_)))
    obtain ⟨y, H2, I2, ry, n, rfl, hp, hm, q⟩ := got2
    obtain ⟨tk, rfl⟩ := ry
    obtain ⟨vals, hvals, isT, _⟩ := I2.tuple (hp.sq (K := X.K))
    refine SeqAt.tuple_index_ints (show s2.heap.IsTuple p vals.toArray from isT) (ints_are hvals) (mem_map_int hm) ?_
    rw [idx_map]
    exact ⟨vi (ns.idxOf n), H2, I2.tok _, ⟨_, rfl⟩, q⟩⟩
end
end Mae

namespace Mae

/-! words -/
def Vw (k : Nat) (w : List Nat) : Prop := ∀ a ∈ w, a < k
theorem vw_nil (k : Nat) : Vw k [] := fun a h => nomatch h
theorem vw_snoc {k : Nat} {w : List Nat} {a : Nat} : Vw k (w ++ [a]) ↔ Vw k w ∧ a < k := by
  constructor
  · intro h
    exact ⟨fun b hb => h b (List.mem_append_left _ hb), h a (List.mem_append_right _ List.mem_cons_self)⟩
  · rintro ⟨h1, h2⟩ b hb
    rcases List.mem_append.mp hb with hb | hb
    · exact h1 b hb
    · rw [List.mem_singleton.mp hb]; exact h2
theorem vw_cons {k : Nat} {w : List Nat} {a : Nat} : Vw k (a :: w) ↔ a < k ∧ Vw k w := by
  constructor
  · intro h
    exact ⟨h a List.mem_cons_self, fun b hb => h b (List.mem_cons_of_mem _ hb)⟩
  · rintro ⟨h1, h2⟩ b hb
    rcases List.mem_cons.mp hb with rfl | hb
    · exact h1
    · exact h2 b hb

theorem snoc_cases {α : Type} (w : List α) : w = [] ∨ ∃ u a, w = u ++ [a] := by
  rcases List.eq_nil_or_concat w with h | ⟨u, a, h⟩
  · exact .inl h
  · exact .inr ⟨u, a, by rw [h, List.concat_eq_append]⟩

/-! the place of a word in the order of words -/
def code (k : Nat) (w : List Nat) : Nat := w.foldl (fun c a => c * k + a + 1) 0
theorem code_nil (k : Nat) : code k [] = 0 := rfl
theorem code_snoc (k : Nat) (w : List Nat) (a : Nat) : code k (w ++ [a]) = code k w * k + a + 1 := by
  unfold code; rw [List.foldl_append]; rfl

theorem code_inj {k : Nat} : ∀ (n : Nat) (u w : List Nat), u.length ≤ n → Vw k u → Vw k w → code k u = code k w → u = w
  | n, u, w, hn, hu, hw, h => by
    rcases snoc_cases u with rfl | ⟨u', a, rfl⟩
    · rcases snoc_cases w with rfl | ⟨w', b, rfl⟩
      · rfl
      · rw [code_nil, code_snoc] at h; omega
    · rcases snoc_cases w with rfl | ⟨w', b, rfl⟩
      · rw [code_nil, code_snoc] at h; omega
      · rw [code_snoc, code_snoc] at h
        obtain ⟨hu1, ha⟩ := vw_snoc.mp hu
        obtain ⟨hw1, hb⟩ := vw_snoc.mp hw
        have h2 : code k u' * k + a = code k w' * k + b := by omega
        have hk : 0 < k := by omega
        have e1 : code k u' = code k w' := by
          have := congrArg (· / k) h2
          rw [Nat.add_comm, Nat.add_mul_div_right _ _ hk, Nat.div_eq_of_lt ha, Nat.add_comm (code k w' * k), Nat.add_mul_div_right _ _ hk, Nat.div_eq_of_lt hb] at this
          omega
        rw [e1] at h2
        have e2 : a = b := by omega
        cases n with
        | zero => simp at hn
        | succ n =>
          have := code_inj n u' w' (by simpa using hn) hu1 hw1 e1
          rw [this, e2]

def lo (k : Nat) : Nat → Nat
  | 0 => 0
  | n + 1 => lo k n * k + 1
theorem lo_lt {k : Nat} (hk : 1 ≤ k) (n : Nat) : lo k n < lo k (n + 1) := by
  show lo k n < lo k n * k + 1
  have := Nat.le_mul_of_pos_right (lo k n) hk
  omega
theorem lo_mono {k : Nat} (hk : 1 ≤ k) {m n : Nat} (h : m ≤ n) : lo k m ≤ lo k n := by
  induction h with
  | refl => exact Nat.le_refl _
  | step _ ih => exact Nat.le_trans ih (Nat.le_of_lt (lo_lt hk _))
theorem code_range {k : Nat} : ∀ (n : Nat) (w : List Nat), w.length = n → Vw k w → lo k w.length ≤ code k w ∧ code k w < lo k (w.length + 1)
  | n, w, hn, hw => by
    rcases snoc_cases w with rfl | ⟨u, a, rfl⟩
    · exact ⟨Nat.le_refl _, by show 0 < lo k 0 * k + 1; omega⟩
    · obtain ⟨hu, ha⟩ := vw_snoc.mp hw
      cases n with
      | zero => simp at hn
      | succ n =>
        obtain ⟨h1, h2⟩ := code_range n u (by simpa using hn) hu
        rw [code_snoc, List.length_append]
        show lo k u.length * k + 1 ≤ _ ∧ _ < lo k (u.length + 1) * k + 1
        have m1 := Nat.mul_le_mul_right k h1
        have m2 : (code k u + 1) * k ≤ lo k (u.length + 1) * k := Nat.mul_le_mul_right k h2
        rw [Nat.add_mul, Nat.one_mul] at m2
        constructor <;> omega
theorem len_of_code {k : Nat} (hk : 1 ≤ k) {u w : List Nat} (hu : Vw k u) (hw : Vw k w) (h : code k u ≤ code k w) : u.length ≤ w.length := by
  by_cases hl : u.length ≤ w.length
  · exact hl
  · exfalso
    have h1 := (code_range _ u rfl hu).1
    have h2 := (code_range _ w rfl hw).2
    have h3 := lo_mono hk (show w.length + 1 ≤ u.length by omega)
    omega
theorem code_lt_snoc {k : Nat} {u w : List Nat} {a b : Nat} (ha : a < k) (h : code k u < code k w) : code k (u ++ [a]) < code k (w ++ [b]) := by
  rw [code_snoc, code_snoc]
  have m : (code k u + 1) * k ≤ code k w * k := Nat.mul_le_mul_right k h
  rw [Nat.add_mul, Nat.one_mul] at m
  omega
theorem code_le_snoc {k : Nat} {u w : List Nat} {a : Nat} (h : code k u ≤ code k w) : code k (u ++ [a]) ≤ code k (w ++ [a]) := by
  rw [code_snoc, code_snoc]
  have m := Nat.mul_le_mul_right k h
  omega
theorem code_self_lt {k : Nat} (hk : 1 ≤ k) (u : List Nat) (a : Nat) : code k u < code k (u ++ [a]) := by
  rw [code_snoc]
  have := Nat.le_mul_of_pos_right (code k u) hk
  omega

/-! automata as functions -/
def run (δ : Nat → Nat → Nat) (s : Nat) (w : List Nat) : Nat := w.foldl δ s
theorem run_nil (δ : Nat → Nat → Nat) (s : Nat) : run δ s [] = s := rfl
theorem run_cons (δ : Nat → Nat → Nat) (s a : Nat) (w : List Nat) : run δ s (a :: w) = run δ (δ s a) w := rfl
theorem run_snoc (δ : Nat → Nat → Nat) (s : Nat) (w : List Nat) (a : Nat) : run δ s (w ++ [a]) = δ (run δ s w) a := by
  unfold run; rw [List.foldl_append]; rfl

def Closed (n k : Nat) (δ : Nat → Nat → Nat) : Prop := ∀ s a, s < n → a < k → δ s a < n
theorem run_lt {n k : Nat} {δ : Nat → Nat → Nat} (c : Closed n k δ) : ∀ (w : List Nat) (s : Nat), s < n → Vw k w → run δ s w < n
  | [], s, h, _ => h
  | a :: w, s, h, hw => by
    obtain ⟨ha, hw⟩ := vw_cons.mp hw
    exact run_lt c w (δ s a) (c s a h ha) hw

/-- alike up to words of i letters; alike -/
def EqL (k : Nat) (δ : Nat → Nat → Nat) (v : Nat → Nat) (i s t : Nat) : Prop := ∀ w, Vw k w → w.length ≤ i → v (run δ s w) = v (run δ t w)
def Eqv (k : Nat) (δ : Nat → Nat → Nat) (v : Nat → Nat) (s t : Nat) : Prop := ∀ w, Vw k w → v (run δ s w) = v (run δ t w)

section
variable {n k : Nat} {δ : Nat → Nat → Nat} {v : Nat → Nat} {i s t u : Nat}
theorem EqL.refl : EqL k δ v i s s := fun _ _ _ => rfl
theorem EqL.symm (h : EqL k δ v i s t) : EqL k δ v i t s := fun w a b => (h w a b).symm
theorem EqL.trans (h : EqL k δ v i s t) (h' : EqL k δ v i t u) : EqL k δ v i s u := fun w a b => (h w a b).trans (h' w a b)
theorem EqL.out (h : EqL k δ v i s t) : v s = v t := h [] (vw_nil k) (Nat.zero_le _)
theorem EqL.less {j : Nat} (h : EqL k δ v i s t) (hj : j ≤ i) : EqL k δ v j s t := fun w a b => h w a (Nat.le_trans b hj)
theorem EqL.succ : EqL k δ v (i + 1) s t ↔ v s = v t ∧ ∀ a, a < k → EqL k δ v i (δ s a) (δ t a) := by
  constructor
  · intro h
    refine ⟨h.out, fun a ha w hw hl => ?_⟩
    exact h (a :: w) (vw_cons.mpr ⟨ha, hw⟩) (by simpa using hl)
  · rintro ⟨h0, h⟩ w hw hl
    cases w with
    | nil => exact h0
    | cons a w =>
      obtain ⟨ha, hw⟩ := vw_cons.mp hw
      exact h a ha w hw (by simpa using hl)
theorem EqL.zero : EqL k δ v 0 s t ↔ v s = v t := by
  constructor
  · exact fun h => h.out
  · intro h w _ hl
    have : w = [] := List.eq_nil_of_length_eq_zero (by omega)
    subst this; exact h
theorem Eqv.refl : Eqv k δ v s s := fun _ _ => rfl
theorem Eqv.symm (h : Eqv k δ v s t) : Eqv k δ v t s := fun w a => (h w a).symm
theorem Eqv.trans (h : Eqv k δ v s t) (h' : Eqv k δ v t u) : Eqv k δ v s u := fun w a => (h w a).trans (h' w a)
theorem Eqv.out (h : Eqv k δ v s t) : v s = v t := h [] (vw_nil k)
theorem Eqv.step (h : Eqv k δ v s t) {a : Nat} (ha : a < k) : Eqv k δ v (δ s a) (δ t a) := fun w hw => h (a :: w) (vw_cons.mpr ⟨ha, hw⟩)
theorem Eqv.runs (h : Eqv k δ v s t) : ∀ {w : List Nat}, Vw k w → Eqv k δ v (run δ s w) (run δ t w) := by
  intro w hw
  induction w generalizing s t with
  | nil => exact h
  | cons a w ih =>
    obtain ⟨ha, hw⟩ := vw_cons.mp hw
    exact ih (h.step ha) hw
theorem Eqv.eql (h : Eqv k δ v s t) : EqL k δ v i s t := fun w a _ => h w a

/-- nothing new is told by one letter more -/
def Stable (n k : Nat) (δ : Nat → Nat → Nat) (v : Nat → Nat) (i : Nat) : Prop := ∀ s t, s < n → t < n → EqL k δ v i s t → EqL k δ v (i + 1) s t
theorem Stable.succ (c : Closed n k δ) (h : Stable n k δ v i) : Stable n k δ v (i + 1) := fun s t hs ht e => by
  rw [EqL.succ]
  refine ⟨e.out, fun a ha => h _ _ (c s a hs ha) (c t a ht ha) ((EqL.succ.mp e).2 a ha)⟩
theorem Stable.eqv (c : Closed n k δ) (h : Stable n k δ v i) (hs : s < n) (ht : t < n) (e : EqL k δ v i s t) : Eqv k δ v s t := by
  have all : ∀ j, Stable n k δ v (i + j) := by
    intro j
    induction j with
    | zero => exact h
    | succ j ih => exact ih.succ c
  have e2 : ∀ j, EqL k δ v (i + j) s t := by
    intro j
    induction j with
    | zero => exact e
    | succ j ih => exact all j s t hs ht ih
  exact fun w hw => e2 w.length w hw (by omega)

open Classical in
/-- the number of classes of words up to i letters, by their least states -/
noncomputable def cnt (n k : Nat) (δ : Nat → Nat → Nat) (v : Nat → Nat) (i : Nat) : Nat := ((List.range n).filter fun s => decide (∀ t, t < s → ¬ EqL k δ v i t s)).length

theorem filter_len_lt {α : Type} {p q : α → Bool} {x : α} : ∀ {l : List α}, (∀ y ∈ l, p y = true → q y = true) → x ∈ l → p x = false → q x = true → (l.filter p).length < (l.filter q).length
  | [], _, hx, _, _ => nomatch hx
  | y :: l, h, hx, hp, hq => by
    have le : ∀ {m : List α}, (∀ y ∈ m, p y = true → q y = true) → (m.filter p).length ≤ (m.filter q).length := by
      intro m
      induction m with
      | nil => intro _; exact Nat.le_refl _
      | cons z m ih =>
        intro hm
        have ih := ih fun y hy => hm y (List.mem_cons_of_mem _ hy)
        cases hz : p z with
        | true =>
          rw [List.filter_cons_of_pos hz, List.filter_cons_of_pos (hm z List.mem_cons_self hz)]
          simpa using ih
        | false =>
          rw [List.filter_cons_of_neg (by simp [hz])]
          cases hz' : q z with
          | true => rw [List.filter_cons_of_pos hz', List.length_cons]; omega
          | false => rw [List.filter_cons_of_neg (by simp [hz'])]; exact ih
    have h' : ∀ y ∈ l, p y = true → q y = true := fun y hy => h y (List.mem_cons_of_mem _ hy)
    rcases List.mem_cons.mp hx with rfl | hx
    · rw [List.filter_cons_of_neg (by simp [hp]), List.filter_cons_of_pos hq, List.length_cons]
      have := le h'
      omega
    · have ih := filter_len_lt h' hx hp hq
      cases hz : p y with
      | true =>
        rw [List.filter_cons_of_pos hz, List.filter_cons_of_pos (h y List.mem_cons_self hz), List.length_cons, List.length_cons]
        omega
      | false =>
        rw [List.filter_cons_of_neg (by simp [hz])]
        cases hz' : q y with
        | true => rw [List.filter_cons_of_pos hz', List.length_cons]; omega
        | false => rw [List.filter_cons_of_neg (by simp [hz'])]; exact ih

open Classical in
theorem cnt_pos (hn : 1 ≤ n) : 1 ≤ cnt n k δ v i := by
  unfold cnt
  have h : 0 ∈ (List.range n).filter fun s => decide (∀ t, t < s → ¬ EqL k δ v i t s) := by
    rw [List.mem_filter]
    exact ⟨List.mem_range.mpr (by omega), decide_eq_true (fun t ht => absurd ht (Nat.not_lt_zero t))⟩
  exact List.length_pos_of_mem h

/-- the least state of a class -/
theorem exists_least {p : Nat → Prop} {s : Nat} (h : p s) : ∃ m, p m ∧ ∀ t, t < m → ¬ p t := by
  induction s using Nat.strongRecOn with
  | _ s ih =>
    by_cases hx : ∃ t, t < s ∧ p t
    · obtain ⟨t, ht, hp⟩ := hx
      exact ih t ht hp
    · exact ⟨s, h, fun t ht hp => hx ⟨t, ht, hp⟩⟩

open Classical in
theorem cnt_grows (h : ¬ Stable n k δ v i) : cnt n k δ v i < cnt n k δ v (i + 1) := by
  have hex : ∃ s t, s < n ∧ t < n ∧ EqL k δ v i s t ∧ ¬ EqL k δ v (i + 1) s t := by
    apply Classical.byContradiction
    intro hno
    apply h
    intro s t hs ht e
    apply Classical.byContradiction
    intro hne
    exact hno ⟨s, t, hs, ht, e, hne⟩
  obtain ⟨s, t, hs, ht, e, hne⟩ := hex
  -- the least of the finer classes of s and of t
  obtain ⟨a, ha, la⟩ := exists_least (p := fun x => EqL k δ v (i + 1) x s) (s := s) EqL.refl
  obtain ⟨b, hb, lb⟩ := exists_least (p := fun x => EqL k δ v (i + 1) x t) (s := t) EqL.refl
  have an : a ≤ s := Nat.le_of_not_lt fun z => la s z EqL.refl
  have bn : b ≤ t := Nat.le_of_not_lt fun z => lb t z EqL.refl
  have ab : EqL k δ v i a b := (ha.less (Nat.le_succ i)).trans (e.trans (hb.less (Nat.le_succ i)).symm)
  have nab : a ≠ b := fun z => by subst z; exact hne (ha.symm.trans hb)
  have repa : ∀ x, x < a → ¬ EqL k δ v (i + 1) x a := fun x hx z => la x hx (z.trans ha)
  have repb : ∀ x, x < b → ¬ EqL k δ v (i + 1) x b := fun x hx z => lb x hx (z.trans hb)
  unfold cnt
  have imp : ∀ y ∈ List.range n, decide (∀ t, t < y → ¬ EqL k δ v i t y) = true → decide (∀ t, t < y → ¬ EqL k δ v (i + 1) t y) = true := by
    intro y _ hy
    have hy := of_decide_eq_true hy
    exact decide_eq_true fun x hx z => hy x hx (z.less (Nat.le_succ i))
  rcases Nat.lt_or_gt_of_ne nab with hlt | hlt
  · exact filter_len_lt imp (x := b) (List.mem_range.mpr (by omega)) (decide_eq_false fun z => z a hlt ab) (decide_eq_true repb)
  · exact filter_len_lt imp (x := a) (List.mem_range.mpr (by omega)) (decide_eq_false fun z => z b hlt ab.symm) (decide_eq_true repa)

theorem cnt_or (hn : 1 ≤ n) (c : Closed n k δ) : ∀ i, i + 1 ≤ cnt n k δ v i ∨ Stable n k δ v i
  | 0 => .inl (cnt_pos hn)
  | i + 1 => by
    rcases cnt_or hn c i with h | h
    · by_cases hs : Stable n k δ v i
      · exact .inr (hs.succ c)
      · exact .inl (by have := cnt_grows hs; omega)
    · exact .inr (h.succ c)

open Classical in
/-- words of fewer letters than there are states tell all that can be told -/
theorem moore (hn : 1 ≤ n) (c : Closed n k δ) (hs : s < n) (ht : t < n) (h : EqL k δ v (n - 1) s t) : Eqv k δ v s t := by
  rcases cnt_or (v := v) hn c (n - 1) with hc | hst
  · -- every state is the least of its class
    have full : ∀ y, y < n → ∀ x, x < y → ¬ EqL k δ v (n - 1) x y := by
      intro y hy
      apply Classical.byContradiction
      intro hno
      have hlt : ((List.range n).filter fun s => decide (∀ t, t < s → ¬ EqL k δ v (n - 1) t s)).length < ((List.range n).filter fun _ => true).length :=
        filter_len_lt (fun _ _ _ => rfl) (x := y) (List.mem_range.mpr hy) (decide_eq_false hno) rfl
      have e : ((List.range n).filter fun _ => true).length = n := by rw [List.filter_eq_self.mpr (fun _ _ => rfl), List.length_range]
      rw [e] at hlt
      unfold cnt at hc
      omega
    have est : s = t := by
      rcases Nat.lt_trichotomy s t with z | z | z
      · exact absurd h (full t ht s z)
      · exact z
      · exact absurd h.symm (full s hs t z)
    subst est
    exact Eqv.refl
  · exact hst.eqv c hs ht h
end

/-! two automata side by side -/
structure Two where
  k : Nat
  d1 : Nat → Nat → Nat
  d2 : Nat → Nat → Nat
  v1 : Nat → Nat
  v2 : Nat → Nat
  s0 : Nat
  t0 : Nat
def Two.Dif (T : Two) (w : List Nat) : Prop := T.v1 (run T.d1 T.s0 w) ≠ T.v2 (run T.d2 T.t0 w)
structure Two.First (T : Two) (w : List Nat) : Prop where
  vw : Vw T.k w
  dif : T.Dif w
  min : ∀ u, Vw T.k u → code T.k u < code T.k w → ¬ T.Dif u
def Two.Same (T : Two) : Prop := ∀ w, Vw T.k w → ¬ T.Dif w

/-- the first difference depends on what is told alone -/
theorem Two.First.one {T U : Two} {w u : List Nat} (hk : T.k = U.k) (hd : ∀ w, Vw T.k w → (T.Dif w ↔ U.Dif w)) (a : T.First w) (b : U.First u) : w = u := by
  have bv : Vw T.k u := by rw [hk]; exact b.vw
  have av : Vw U.k w := by rw [← hk]; exact a.vw
  refine code_inj (k := T.k) w.length w u (Nat.le_refl _) a.vw bv ?_
  rcases Nat.lt_trichotomy (code T.k w) (code T.k u) with h | h | h
  · exact absurd ((hd w a.vw).mp a.dif) (b.min w av (by rw [← hk]; exact h))
  · exact h
  · exact absurd ((hd u bv).mpr b.dif) (a.min u bv h)

/-! the union of both -/
def uD (n1 : Nat) (d1 d2 : Nat → Nat → Nat) (s a : Nat) : Nat := if s < n1 then d1 s a else n1 + d2 (s - n1) a
def uV (n1 : Nat) (v1 v2 : Nat → Nat) (s : Nat) : Nat := if s < n1 then v1 s else v2 (s - n1)
section
variable {k n1 n2 : Nat} {d1 d2 : Nat → Nat → Nat} {v1 v2 : Nat → Nat}
theorem uD_closed (c1 : Closed n1 k d1) (c2 : Closed n2 k d2) : Closed (n1 + n2) k (uD n1 d1 d2) := fun s a hs ha => by
  unfold uD
  by_cases h : s < n1
  · rw [if_pos h]; have := c1 s a h ha; omega
  · rw [if_neg h]; have := c2 (s - n1) a (by omega) ha; omega
theorem u_run1 (c1 : Closed n1 k d1) : ∀ (w : List Nat) (s : Nat), s < n1 → Vw k w → run (uD n1 d1 d2) s w = run d1 s w
  | [], _, _, _ => rfl
  | a :: w, s, hs, hw => by
    obtain ⟨ha, hw⟩ := vw_cons.mp hw
    rw [run_cons, run_cons, show uD n1 d1 d2 s a = d1 s a from if_pos hs]
    exact u_run1 c1 w _ (c1 s a hs ha) hw
theorem u_run2 : ∀ (w : List Nat) (t : Nat), run (uD n1 d1 d2) (n1 + t) w = n1 + run d2 t w
  | [], _ => rfl
  | a :: w, t => by
    rw [run_cons, run_cons, show uD n1 d1 d2 (n1 + t) a = n1 + d2 t a by
      unfold uD
      rw [if_neg (by omega), Nat.add_sub_cancel_left]]
    exact u_run2 w _
end
theorem Two.short {T : Two} {n1 n2 : Nat} (c1 : Closed n1 T.k T.d1) (c2 : Closed n2 T.k T.d2) (h1 : T.s0 < n1) (h2 : T.t0 < n2) {u : List Nat} (hu : Vw T.k u) (hd : T.Dif u) :
    ∃ w, Vw T.k w ∧ T.Dif w ∧ w.length < n1 + n2 := by
  apply Classical.byContradiction
  intro hno
  have va : ∀ w, Vw T.k w → uV n1 T.v1 T.v2 (run (uD n1 T.d1 T.d2) T.s0 w) = T.v1 (run T.d1 T.s0 w) := fun w hw => by
    rw [u_run1 c1 w T.s0 h1 hw]
    exact if_pos (run_lt c1 w T.s0 h1 hw)
  have vb : ∀ w, uV n1 T.v1 T.v2 (run (uD n1 T.d1 T.d2) (n1 + T.t0) w) = T.v2 (run T.d2 T.t0 w) := fun w => by
    rw [u_run2]
    unfold uV
    rw [if_neg (by omega), Nat.add_sub_cancel_left]
  have e : EqL T.k (uD n1 T.d1 T.d2) (uV n1 T.v1 T.v2) (n1 + n2 - 1) T.s0 (n1 + T.t0) := fun w hw hl => by
    rw [va w hw, vb w]
    apply Classical.byContradiction
    intro hne
    exact hno ⟨w, hw, hne, by omega⟩
  have q := moore (by omega) (uD_closed c1 c2) (by omega) (by omega) e u hu
  rw [va u hu, vb u] at q
  exact hd q
theorem Two.First.len {T : Two} {n1 n2 : Nat} (hk : 1 ≤ T.k) (c1 : Closed n1 T.k T.d1) (c2 : Closed n2 T.k T.d2) (h1 : T.s0 < n1) (h2 : T.t0 < n2) {w : List Nat} (h : T.First w) : w.length < n1 + n2 := by
  obtain ⟨u, hu, hd, hl⟩ := Two.short c1 c2 h1 h2 h.vw h.dif
  have hc : code T.k w ≤ code T.k u := Nat.le_of_not_lt fun z => h.min u hu z hd
  exact Nat.lt_of_le_of_lt (len_of_code hk h.vw hu hc) hl
/-- within one automaton: fewer letters than states -/
theorem Two.First.len1 {T : Two} {n : Nat} (hk : 1 ≤ T.k) (c : Closed n T.k T.d1) (hd : T.d2 = T.d1) (hv : T.v2 = T.v1) (h1 : T.s0 < n) (h2 : T.t0 < n) {w : List Nat} (h : T.First w) : w.length < n := by
  have hex : ∃ u, Vw T.k u ∧ T.Dif u ∧ u.length < n := by
    apply Classical.byContradiction
    intro hno
    have e : EqL T.k T.d1 T.v1 (n - 1) T.s0 T.t0 := fun u hu hl => by
      apply Classical.byContradiction
      intro hne
      refine hno ⟨u, hu, ?_, by omega⟩
      unfold Two.Dif
      rw [hd, hv]
      exact hne
    have q := moore (by omega) c h1 h2 e w h.vw
    have hw := h.dif
    unfold Two.Dif at hw
    rw [hd, hv] at hw
    exact hw q
  obtain ⟨u, hu, hd, hl⟩ := hex
  have hc : code T.k w ≤ code T.k u := Nat.le_of_not_lt fun z => h.min u hu z hd
  exact Nat.lt_of_le_of_lt (len_of_code hk h.vw hu hc) hl

/-! ### the search, row by row -/
abbrev Row := Nat × Nat × List Nat
/-- what holds while the row at `p` is worked upon, the letters below `a` done -/
structure SI (T : Two) (n1 n2 : Nat) (rows : List Row) (p a : Nat) : Prop where
  hd : rows[0]? = some (T.s0, T.t0, [])
  le : p ≤ rows.length
  al : a ≤ T.k
  row : ∀ (i s t : Nat) (w : List Nat), rows[i]? = some (s, t, w) → s < n1 ∧ t < n2 ∧ Vw T.k w ∧ run T.d1 T.s0 w = s ∧ run T.d2 T.t0 w = t
  sorted : ∀ (i j s t : Nat) (w : List Nat) (s' t' : Nat) (w' : List Nat), i < j → rows[i]? = some (s, t, w) → rows[j]? = some (s', t', w') → code T.k w < code T.k w'
  eqs : ∀ (i s t : Nat) (w : List Nat), i < p → rows[i]? = some (s, t, w) → T.v1 s = T.v2 t
  succ : ∀ (i s t : Nat) (w : List Nat) (b : Nat), rows[i]? = some (s, t, w) → (i < p ∨ (i = p ∧ b < a)) → b < T.k → ∃ (j : Nat) (w' : List Nat), rows[j]? = some (T.d1 s b, T.d2 t b, w') ∧ code T.k w' ≤ code T.k (w ++ [b])
  top : ∀ (s t : Nat) (w : List Nat), rows[p]? = some (s, t, w) → ∀ (i s' t' : Nat) (w' : List Nat), rows[i]? = some (s', t', w') → code T.k w' ≤ code T.k w * T.k + a
  nd : (rows.map fun r => (r.1, r.2.1)).Nodup
  len : ∀ (i s t : Nat) (w : List Nat), rows[i]? = some (s, t, w) → w.length ≤ i

theorem SI.start {T : Two} {n1 n2 : Nat} (h1 : T.s0 < n1) (h2 : T.t0 < n2) : SI T n1 n2 [(T.s0, T.t0, [])] 0 0 where
  hd := rfl
  le := Nat.zero_le _
  al := Nat.zero_le _
  row := fun i s t w h => by
    cases i with
    | zero =>
      simp only [List.getElem?_cons_zero, Option.some.injEq, Prod.mk.injEq] at h
      obtain ⟨rfl, rfl, rfl⟩ := h
      exact ⟨h1, h2, vw_nil _, rfl, rfl⟩
    | succ i => simp at h
  sorted := fun i j s t w s' t' w' hij _ h => by
    cases j with
    | zero => omega
    | succ j => simp at h
  eqs := fun i s t w h _ => absurd h (Nat.not_lt_zero _)
  succ := fun i s t w b _ h _ => by
    rcases h with h | ⟨_, h⟩
    · exact absurd h (Nat.not_lt_zero _)
    · exact absurd h (Nat.not_lt_zero _)
  top := fun s t w h i s' t' w' h' => by
    cases i with
    | zero =>
      simp only [List.getElem?_cons_zero, Option.some.injEq, Prod.mk.injEq] at h'
      obtain ⟨rfl, rfl, rfl⟩ := h'
      exact Nat.zero_le _
    | succ i => simp at h'
  nd := by simp
  len := fun i s t w h => by
    cases i with
    | zero =>
      simp only [List.getElem?_cons_zero, Option.some.injEq, Prod.mk.injEq] at h
      obtain ⟨rfl, rfl, rfl⟩ := h
      exact Nat.le_refl _
    | succ i => simp at h

/-- a pair of the rows stands in at most one of them, and is there by its place -/
theorem pair_mem {rows : List Row} {s t : Nat} : (s, t) ∈ rows.map (fun r => (r.1, r.2.1)) ↔ ∃ (i : Nat) (w : List Nat), rows[i]? = some (s, t, w) := by
  constructor
  · intro h
    obtain ⟨⟨s', t', w⟩, hm, he⟩ := List.mem_map.mp h
    simp only [Prod.mk.injEq] at he
    obtain ⟨rfl, rfl⟩ := he
    obtain ⟨i, hi⟩ := List.mem_iff_getElem?.mp hm
    exact ⟨i, w, hi⟩
  · rintro ⟨i, w, hi⟩
    exact List.mem_map.mpr ⟨(s, t, w), List.mem_of_getElem? hi, rfl⟩

section
variable {T : Two} {n1 n2 p a s t : Nat} {rows : List Row} {w : List Nat}
/-- the pair of the next letter is there already -/
theorem SI.seen (I : SI T n1 n2 rows p a) (h : rows[p]? = some (s, t, w)) (ha : a < T.k) (hm : (T.d1 s a, T.d2 t a) ∈ rows.map (fun r => (r.1, r.2.1))) : SI T n1 n2 rows p (a + 1) where
  hd := I.hd
  le := I.le
  al := ha
  row := I.row
  sorted := I.sorted
  eqs := I.eqs
  succ := fun i s' t' w' b hi hb hk => by
    rcases hb with hb | ⟨e, hb⟩
    · exact I.succ i s' t' w' b hi (.inl hb) hk
    · by_cases hba : b < a
      · exact I.succ i s' t' w' b hi (.inr ⟨e, hba⟩) hk
      · have eb : b = a := by omega
        subst eb
        subst e
        rw [h] at hi
        simp only [Option.some.injEq, Prod.mk.injEq] at hi
        obtain ⟨rfl, rfl, rfl⟩ := hi
        obtain ⟨j, w', hj⟩ := pair_mem.mp hm
        exact ⟨j, w', hj, by rw [code_snoc]; have := I.top _ _ _ h j _ _ _ hj; omega⟩
  top := fun s' t' w' h' i s2 t2 w2 hi => by have := I.top s' t' w' h' i s2 t2 w2 hi; omega
  nd := I.nd
  len := I.len
/-- the pair of the next letter is new -/
theorem SI.add (I : SI T n1 n2 rows p a) (c1 : Closed n1 T.k T.d1) (c2 : Closed n2 T.k T.d2) (h : rows[p]? = some (s, t, w)) (ha : a < T.k) (hm : (T.d1 s a, T.d2 t a) ∉ rows.map (fun r => (r.1, r.2.1))) :
    SI T n1 n2 (rows ++ [(T.d1 s a, T.d2 t a, w ++ [a])]) p (a + 1) := by
  have hp : p < rows.length := (List.getElem?_eq_some_iff.mp h).1
  have cases_ : ∀ (i : Nat) (x : Row), (rows ++ [(T.d1 s a, T.d2 t a, w ++ [a])])[i]? = some x → rows[i]? = some x ∨ (i = rows.length ∧ x = (T.d1 s a, T.d2 t a, w ++ [a])) := fun i x hx => by
    by_cases hi : i < rows.length
    · rw [List.getElem?_append_left hi] at hx
      exact .inl hx
    · rw [List.getElem?_append_right (by omega)] at hx
      have h0 : i - rows.length = 0 := by
        apply Classical.byContradiction
        intro hne
        obtain ⟨m, hm⟩ := Nat.exists_eq_succ_of_ne_zero hne
        rw [hm] at hx
        simp at hx
      rw [h0] at hx
      simp only [List.getElem?_cons_zero, Option.some.injEq] at hx
      exact .inr ⟨by omega, hx.symm⟩
  have keep : ∀ {i : Nat} {x : Row}, rows[i]? = some x → (rows ++ [(T.d1 s a, T.d2 t a, w ++ [a])])[i]? = some x := fun {i x} hx => by
    rw [List.getElem?_append_left (List.getElem?_eq_some_iff.mp hx).1]
    exact hx
  have new : (rows ++ [(T.d1 s a, T.d2 t a, w ++ [a])])[rows.length]? = some (T.d1 s a, T.d2 t a, w ++ [a]) := by
    rw [List.getElem?_append_right (Nat.le_refl _), Nat.sub_self]
    rfl
  obtain ⟨r1, r2, r3, r4, r5⟩ := I.row p s t w h
  refine ⟨keep I.hd, by rw [List.length_append]; have := I.le; omega, ha, ?_, ?_, ?_, ?_, ?_, ?_, ?_⟩
  · intro i s' t' w' hi
    rcases cases_ i _ hi with hi | ⟨_, e⟩
    · exact I.row i s' t' w' hi
    · simp only [Prod.mk.injEq] at e
      obtain ⟨rfl, rfl, rfl⟩ := e
      exact ⟨c1 s a r1 ha, c2 t a r2 ha, vw_snoc.mpr ⟨r3, ha⟩, by rw [run_snoc, r4], by rw [run_snoc, r5]⟩
  · intro i j s1 t1 w1 s2 t2 w2 hij hi hj
    rcases cases_ j _ hj with hj | ⟨ej, e⟩
    · rcases cases_ i _ hi with hi | ⟨ei, _⟩
      · exact I.sorted i j _ _ _ _ _ _ hij hi hj
      · have := (List.getElem?_eq_some_iff.mp hj).1
        omega
    · rcases cases_ i _ hi with hi | ⟨ei, _⟩
      · simp only [Prod.mk.injEq] at e
        obtain ⟨rfl, rfl, rfl⟩ := e
        rw [code_snoc]
        have := I.top _ _ _ h i _ _ _ hi
        omega
      · omega
  · intro i s' t' w' hip hi
    rcases cases_ i _ hi with hi | ⟨ei, _⟩
    · exact I.eqs i s' t' w' hip hi
    · omega
  · intro i s' t' w' b hi hb hk
    rcases cases_ i _ hi with hi' | ⟨ei, _⟩
    · by_cases hold : i < p ∨ (i = p ∧ b < a)
      · obtain ⟨j, w2, hj, hc⟩ := I.succ i s' t' w' b hi' hold hk
        exact ⟨j, w2, keep hj, hc⟩
      · have ei : i = p := by omega
        have eb : b = a := by omega
        subst ei
        subst eb
        rw [h] at hi'
        simp only [Option.some.injEq, Prod.mk.injEq] at hi'
        obtain ⟨rfl, rfl, rfl⟩ := hi'
        exact ⟨rows.length, _, new, Nat.le_refl _⟩
    · omega
  · intro s' t' w' h' i s2 t2 w2 hi
    rcases cases_ p _ h' with h' | ⟨ep, _⟩
    · rw [h] at h'
      simp only [Option.some.injEq, Prod.mk.injEq] at h'
      obtain ⟨rfl, rfl, rfl⟩ := h'
      rcases cases_ i _ hi with hi | ⟨_, e⟩
      · have := I.top _ _ _ h i _ _ _ hi
        omega
      · simp only [Prod.mk.injEq] at e
        obtain ⟨rfl, rfl, rfl⟩ := e
        rw [code_snoc]
        omega
    · omega
  · rw [List.map_append, List.nodup_append]
    refine ⟨I.nd, by simp, ?_⟩
    intro x hx y hy e
    simp only [List.map_cons, List.map_nil, List.mem_singleton] at hy
    subst hy
    subst e
    exact hm hx
  · intro i s' t' w' hi
    rcases cases_ i _ hi with hi | ⟨ei, e⟩
    · exact I.len i s' t' w' hi
    · simp only [Prod.mk.injEq] at e
      obtain ⟨rfl, rfl, rfl⟩ := e
      have := I.len _ _ _ _ h
      rw [List.length_append]
      show w.length + 1 ≤ i
      omega
/-- the row is done -/
theorem SI.next (I : SI T n1 n2 rows p T.k) (h : rows[p]? = some (s, t, w)) (hv : T.v1 s = T.v2 t) : SI T n1 n2 rows (p + 1) 0 where
  hd := I.hd
  le := (List.getElem?_eq_some_iff.mp h).1
  al := Nat.zero_le _
  row := I.row
  sorted := I.sorted
  eqs := fun i s' t' w' hi hx => by
    by_cases e : i = p
    · subst e
      rw [h] at hx
      simp only [Option.some.injEq, Prod.mk.injEq] at hx
      obtain ⟨rfl, rfl, rfl⟩ := hx
      exact hv
    · exact I.eqs i s' t' w' (by omega) hx
  succ := fun i s' t' w' b hi hb hk => by
    rcases hb with hb | ⟨_, hb⟩
    · exact I.succ i s' t' w' b hi (by omega) hk
    · omega
  top := fun s' t' w' h' i s2 t2 w2 hi => by
    have h1 := I.top s t w h i s2 t2 w2 hi
    have h2 := I.sorted p (p + 1) _ _ _ _ _ _ (Nat.lt_succ_self p) h h'
    have m : (code T.k w + 1) * T.k ≤ code T.k w' * T.k := Nat.mul_le_mul_right T.k h2
    rw [Nat.add_mul, Nat.one_mul] at m
    omega
  nd := I.nd
  len := I.len
/-- what has been reached so far -/
theorem SI.reach (I : SI T n1 n2 rows p 0) (hk : 1 ≤ T.k) : ∀ (n : Nat) (u : List Nat), u.length = n → Vw T.k u → (∀ (s t : Nat) (w : List Nat), rows[p]? = some (s, t, w) → code T.k u < code T.k w) →
    ∃ (i : Nat) (w' : List Nat), i < p ∧ rows[i]? = some (run T.d1 T.s0 u, run T.d2 T.t0 u, w') ∧ code T.k w' ≤ code T.k u := by
  have below : ∀ (u : List Nat), (∀ (s t : Nat) (w : List Nat), rows[p]? = some (s, t, w) → code T.k u < code T.k w) → ∀ (i s t : Nat) (w' : List Nat), rows[i]? = some (s, t, w') → code T.k w' ≤ code T.k u → i < p := by
    intro u hu i s t w' hi hc
    apply Classical.byContradiction
    intro hno
    have hl : i < rows.length := (List.getElem?_eq_some_iff.mp hi).1
    have hpl : p < rows.length := by omega
    have hp : rows[p]? = some (rows[p].1, rows[p].2.1, rows[p].2.2) := List.getElem?_eq_getElem hpl
    have h1 := hu _ _ _ hp
    rcases Nat.lt_or_ge p i with hlt | hge
    · have := I.sorted p i _ _ _ _ _ _ hlt hp hi
      omega
    · have e : i = p := by omega
      subst e
      rw [hp] at hi
      simp only [Option.some.injEq, Prod.mk.injEq] at hi
      rw [hi.2.2] at h1
      omega
  intro n
  induction n with
  | zero =>
    intro u hl hu hb
    have e : u = [] := List.eq_nil_of_length_eq_zero hl
    subst e
    exact ⟨0, [], below [] hb 0 _ _ _ I.hd (Nat.le_refl _), I.hd, Nat.le_refl _⟩
  | succ n ih =>
    intro u hl hu hb
    rcases snoc_cases u with rfl | ⟨x, b, rfl⟩
    · simp at hl
    · obtain ⟨hx, hbk⟩ := vw_snoc.mp hu
      obtain ⟨i, w', hi, hr, hc⟩ := ih x (by simpa using hl) hx fun s t w h => Nat.lt_trans (code_self_lt hk x b) (hb s t w h)
      obtain ⟨j, w2, hj, hc2⟩ := I.succ i _ _ w' b hr (.inl hi) hbk
      have hc3 : code T.k w2 ≤ code T.k (x ++ [b]) := Nat.le_trans hc2 (code_le_snoc hc)
      rw [run_snoc, run_snoc]
      exact ⟨j, w2, below _ hb j _ _ _ hj hc3, hj, hc3⟩
/-- a row at which the outputs differ is the first difference -/
theorem SI.found (I : SI T n1 n2 rows p 0) (hk : 1 ≤ T.k) (h : rows[p]? = some (s, t, w)) (hv : T.v1 s ≠ T.v2 t) : T.First w := by
  obtain ⟨_, _, r3, r4, r5⟩ := I.row p s t w h
  refine ⟨r3, by unfold Two.Dif; rw [r4, r5]; exact hv, fun u hu hc hd => ?_⟩
  obtain ⟨i, w', hi, hr, _⟩ := I.reach hk u.length u rfl hu fun s' t' w2 h2 => by
    rw [h] at h2
    simp only [Option.some.injEq, Prod.mk.injEq] at h2
    obtain ⟨rfl, rfl, rfl⟩ := h2
    exact hc
  exact hd (I.eqs i _ _ _ hi hr)
/-- no row is left -/
theorem SI.none (I : SI T n1 n2 rows p 0) (hk : 1 ≤ T.k) (h : rows[p]? = none) : T.Same := fun u hu hd => by
  obtain ⟨i, w', hi, hr, _⟩ := I.reach hk u.length u rfl hu fun s' t' w2 h2 => by
    rw [h] at h2
    cases h2
  exact hd (I.eqs i _ _ _ hi hr)

/-- different numbers below n are at most n -/
theorem nodup_len : ∀ (n : Nat) (l : List Nat), l.Nodup → (∀ x ∈ l, x < n) → l.length ≤ n
  | 0, l, _, h => by
    cases l with
    | nil => exact Nat.le_refl _
    | cons x l => exact absurd (h x List.mem_cons_self) (Nat.not_lt_zero x)
  | n + 1, l, hn, h => by
    have ih := nodup_len n (l.filter fun x => decide (x ≠ n)) (hn.filter _) fun x hx => by
      obtain ⟨h1, h2⟩ := List.mem_filter.mp hx
      have h2 := of_decide_eq_true h2
      have := h x h1
      omega
    have hc : l.length ≤ (l.filter fun x => decide (x ≠ n)).length + 1 := by
      have hcount : ∀ m : List Nat, m.Nodup → m.length ≤ (m.filter fun x => decide (x ≠ n)).length + 1 := by
        intro m
        induction m with
        | nil => intro _; exact Nat.zero_le _
        | cons x m ihm =>
          intro hm
          obtain ⟨hx, hm⟩ := List.nodup_cons.mp hm
          by_cases e : x = n
          · subst e
            have e2 : m.filter (fun y => decide (y ≠ x)) = m := List.filter_eq_self.mpr fun y hy => decide_eq_true fun z => hx (z ▸ hy)
            rw [List.filter_cons_of_neg (by simp), e2, List.length_cons]
            exact Nat.le_refl _
          · rw [List.filter_cons_of_pos (p := fun x => decide (x ≠ n)) (decide_eq_true e), List.length_cons, List.length_cons]
            have := ihm hm
            omega
      exact hcount l hn
    omega
theorem nodup_map {α β : Type} {f : α → β} (hf : ∀ x y, f x = f y → x = y) : ∀ {l : List α}, l.Nodup → (l.map f).Nodup
  | [], _ => by simp
  | x :: l, h => by
    obtain ⟨h1, h2⟩ := List.nodup_cons.mp h
    rw [List.map_cons, List.nodup_cons]
    refine ⟨fun hm => ?_, nodup_map hf h2⟩
    obtain ⟨y, hy, e⟩ := List.mem_map.mp hm
    exact h1 (hf _ _ e ▸ hy)
theorem pairs_len (n1 n2 : Nat) (l : List (Nat × Nat)) (hn : l.Nodup) (h : ∀ x ∈ l, x.1 < n1 ∧ x.2 < n2) : l.length ≤ n1 * n2 := by
  have e : l.length = (l.map fun x => x.1 * n2 + x.2).length := by rw [List.length_map]
  rw [e]
  have inj : ∀ x ∈ l, ∀ y ∈ l, x.1 * n2 + x.2 = y.1 * n2 + y.2 → x = y := by
    intro x hx y hy he
    obtain ⟨_, h2⟩ := h x hx
    obtain ⟨_, h4⟩ := h y hy
    have hk : 0 < n2 := by omega
    have e1 : x.1 = y.1 := by
      have := congrArg (· / n2) he
      change (x.1 * n2 + x.2) / n2 = (y.1 * n2 + y.2) / n2 at this
      rw [Nat.add_comm, Nat.add_mul_div_right _ _ hk, Nat.div_eq_of_lt h2, Nat.add_comm (y.1 * n2), Nat.add_mul_div_right _ _ hk, Nat.div_eq_of_lt h4] at this
      omega
    rw [e1] at he
    exact Prod.ext e1 (by omega)
  refine nodup_len _ _ ?_ ?_
  · have gen : ∀ m : List (Nat × Nat), m.Nodup → (∀ x ∈ m, x ∈ l) → (m.map fun x => x.1 * n2 + x.2).Nodup := by
      intro m
      induction m with
      | nil => intro _ _; simp
      | cons x m ih =>
        intro hm hl
        obtain ⟨h1, h2⟩ := List.nodup_cons.mp hm
        rw [List.map_cons, List.nodup_cons]
        refine ⟨fun hz => ?_, ih h2 fun y hy => hl y (List.mem_cons_of_mem _ hy)⟩
        obtain ⟨y, hy, ey⟩ := List.mem_map.mp hz
        have := inj x (hl x List.mem_cons_self) y (hl y (List.mem_cons_of_mem _ hy)) ey.symm
        exact h1 (this ▸ hy)
    exact gen l hn fun _ hx => hx
  · intro z hz
    obtain ⟨x, hx, rfl⟩ := List.mem_map.mp hz
    obtain ⟨h1, h2⟩ := h x hx
    have m : (x.1 + 1) * n2 ≤ n1 * n2 := Nat.mul_le_mul_right n2 h1
    rw [Nat.add_mul, Nat.one_mul] at m
    show x.1 * n2 + x.2 < n1 * n2
    omega
theorem SI.size (I : SI T n1 n2 rows p a) : rows.length ≤ n1 * n2 := by
  have := pairs_len n1 n2 _ I.nd fun x hx => by
    obtain ⟨s, t⟩ := x
    obtain ⟨i, w, hi⟩ := pair_mem.mp hx
    obtain ⟨h1, h2, _⟩ := I.row i s t w hi
    exact ⟨h1, h2⟩
  rwa [List.length_map] at this
end

/-! ### machines -/
structure Mach where
  k : Nat
  o : Nat
  mv : List (List Nat)
  out : List Nat
  deriving DecidableEq
def Mach.n (M : Mach) : Nat := M.mv.length
def Mach.row (M : Mach) (s : Nat) : List Nat := M.mv.getD s []
def Mach.d (M : Mach) (s a : Nat) : Nat := (M.row s).getD a 0
def Mach.v (M : Mach) (s : Nat) : Nat := M.out.getD s 0
structure Mach.Ok (M : Mach) : Prop where
  kp : 1 ≤ M.k
  np : 1 ≤ M.n
  nm : M.n ≤ 30
  km : M.k ≤ 4
  len : M.out.length = M.n
  row : ∀ r ∈ M.mv, r.length = M.k ∧ ∀ s ∈ r, s < M.n

section
variable {M : Mach}
theorem Mach.row_mem (M : Mach) {s : Nat} (h : s < M.n) : M.row s ∈ M.mv := by
  unfold Mach.row
  rw [List.getD_eq_getElem?_getD, List.getElem?_eq_getElem h]
  exact List.getElem_mem h
theorem Mach.row_at (M : Mach) {s : Nat} (h : s < M.n) : M.mv[s]? = some (M.row s) := by
  unfold Mach.row
  rw [List.getD_eq_getElem?_getD, List.getElem?_eq_getElem h]
  rfl
theorem Mach.Ok.row_len (O : M.Ok) {s : Nat} (h : s < M.n) : (M.row s).length = M.k := (O.row _ (M.row_mem h)).1
theorem Mach.Ok.d_at (O : M.Ok) {s a : Nat} (h : s < M.n) (ha : a < M.k) : (M.row s)[a]? = some (M.d s a) := by
  have hl : a < (M.row s).length := by rw [O.row_len h]; exact ha
  unfold Mach.d
  rw [List.getD_eq_getElem?_getD, List.getElem?_eq_getElem hl]
  rfl
theorem Mach.Ok.v_at (O : M.Ok) {s : Nat} (h : s < M.n) : M.out[s]? = some (M.v s) := by
  have hl : s < M.out.length := by rw [O.len]; exact h
  unfold Mach.v
  rw [List.getD_eq_getElem?_getD, List.getElem?_eq_getElem hl]
  rfl
theorem Mach.Ok.closed (O : M.Ok) : Closed M.n M.k M.d := fun s a hs ha => (O.row _ (M.row_mem hs)).2 _ (List.mem_of_getElem? (O.d_at hs ha))
end

/-! ### classes -/
/-- g tells the least state of each class -/
structure IsCls (n : Nat) (g : List Nat) (R : Nat → Nat → Prop) : Prop where
  len : g.length = n
  at_ : ∀ s, s < n → ∃ r, g[s]? = some r ∧ r ≤ s ∧ R s r ∧ ∀ t, t < n → R s t → r ≤ t

def gx (g : List Nat) (s : Nat) : Nat := g.getD s 0
section
variable {n : Nat} {g : List Nat} {R S : Nat → Nat → Prop}
theorem gx_of {s r : Nat} (h : g[s]? = some r) : gx g s = r := by
  unfold gx
  rw [List.getD_eq_getElem?_getD, h]
  rfl
theorem IsCls.get (I : IsCls n g R) {s : Nat} (h : s < n) : g[s]? = some (gx g s) := by
  obtain ⟨r, e, _⟩ := I.at_ s h
  rw [e, gx_of e]
theorem IsCls.le (I : IsCls n g R) {s : Nat} (h : s < n) : gx g s ≤ s := by
  obtain ⟨r, e, h1, _⟩ := I.at_ s h
  rw [gx_of e]; exact h1
theorem IsCls.rel (I : IsCls n g R) {s : Nat} (h : s < n) : R s (gx g s) := by
  obtain ⟨r, e, _, h1, _⟩ := I.at_ s h
  rw [gx_of e]; exact h1
theorem IsCls.least (I : IsCls n g R) {s t : Nat} (h : s < n) (ht : t < n) (hr : R s t) : gx g s ≤ t := by
  obtain ⟨r, e, _, _, h1⟩ := I.at_ s h
  rw [gx_of e]; exact h1 t ht hr
theorem IsCls.iff (I : IsCls n g R) (sy : ∀ s t, R s t → R t s) (tr : ∀ s t u, R s t → R t u → R s u) {s t : Nat} (hs : s < n) (ht : t < n) : gx g s = gx g t ↔ R s t := by
  have ls : gx g s < n := Nat.lt_of_le_of_lt (I.le hs) hs
  have lt : gx g t < n := Nat.lt_of_le_of_lt (I.le ht) ht
  constructor
  · intro e
    have h1 := I.rel hs
    rw [e] at h1
    exact tr _ _ _ h1 (sy _ _ (I.rel ht))
  · intro h
    refine Nat.le_antisymm ?_ ?_
    · exact I.least hs lt (tr _ _ _ h (I.rel ht))
    · exact I.least ht ls (tr _ _ _ (sy _ _ h) (I.rel hs))
theorem IsCls.congr (I : IsCls n g R) (h : ∀ s t, s < n → t < n → (R s t ↔ S s t)) : IsCls n g S := by
  refine ⟨I.len, fun s hs => ?_⟩
  obtain ⟨r, e, h1, h2, h3⟩ := I.at_ s hs
  exact ⟨r, e, h1, (h s r hs (by omega)).mp h2, fun t ht q => h3 t ht ((h s t hs ht).mpr q)⟩
end

/-- a state's sign: its class, and those of its next states -/
def sign (M : Mach) (g : List Nat) (s : Nat) : Nat × List Nat := (gx g s, (List.range M.k).map fun a => gx g (M.d s a))
theorem sign_eq {M : Mach} {g : List Nat} {s t : Nat} : sign M g s = sign M g t ↔ gx g s = gx g t ∧ ∀ a, a < M.k → gx g (M.d s a) = gx g (M.d t a) := by
  unfold sign
  rw [Prod.mk.injEq]
  constructor
  · rintro ⟨h1, h2⟩
    refine ⟨h1, fun a ha => ?_⟩
    have h3 := congrArg (fun l => l[a]?) h2
    simpa [ha] using h3
  · rintro ⟨h1, h2⟩
    exact ⟨h1, List.map_congr_left fun a ha => h2 a (List.mem_range.mp ha)⟩
theorem refine_cls {M : Mach} (O : M.Ok) {g g' : List Nat} {i : Nat} (I : IsCls M.n g (EqL M.k M.d M.v i)) (J : IsCls M.n g' (fun s t => sign M g s = sign M g t)) : IsCls M.n g' (EqL M.k M.d M.v (i + 1)) := by
  refine J.congr fun s t hs ht => ?_
  have q : ∀ {s t : Nat}, s < M.n → t < M.n → (gx g s = gx g t ↔ EqL M.k M.d M.v i s t) := fun {s t} hs ht => I.iff (fun _ _ h => h.symm) (fun _ _ _ h h' => h.trans h') hs ht
  rw [sign_eq, q hs ht, EqL.succ]
  constructor
  · rintro ⟨h1, h2⟩
    exact ⟨h1.out, fun a ha => (q (O.closed s a hs ha) (O.closed t a ht ha)).mp (h2 a ha)⟩
  · rintro ⟨h1, h2⟩
    have h3 : EqL M.k M.d M.v (i + 1) s t := EqL.succ.mpr ⟨h1, h2⟩
    exact ⟨h3.less (Nat.le_succ i), fun a ha => (q (O.closed s a hs ha) (O.closed t a ht ha)).mpr (h2 a ha)⟩
theorem cls_done {M : Mach} (O : M.Ok) {g : List Nat} (I : IsCls M.n g (EqL M.k M.d M.v M.n)) : IsCls M.n g (Eqv M.k M.d M.v) :=
  I.congr fun _ _ hs ht => ⟨fun h => moore O.np O.closed hs ht (h.less (Nat.sub_le _ _)), fun h => h.eql⟩

/-! ### the order in which states are met -/
def addNew (o : List Nat) (x : Nat) : List Nat := if x ∈ o then o else o ++ [x]
def metRow (o xs : List Nat) : List Nat := xs.foldl addNew o
def met (succ : Nat → List Nat) : Nat → List Nat → Nat → List Nat
  | 0, o, _ => o
  | f + 1, o, p => match o[p]? with
    | some s => met succ f (metRow o (succ s)) (p + 1)
    | none => o

theorem addNew_sub {o : List Nat} {x y : Nat} (h : y ∈ o) : y ∈ addNew o x := by
  unfold addNew
  split
  · exact h
  · exact List.mem_append_left _ h
theorem addNew_self {o : List Nat} {x : Nat} : x ∈ addNew o x := by
  unfold addNew
  split
  · assumption
  · exact List.mem_append_right _ List.mem_cons_self
theorem addNew_nodup {o : List Nat} {x : Nat} (h : o.Nodup) : (addNew o x).Nodup := by
  unfold addNew
  split
  · exact h
  · rename_i hx
    rw [List.nodup_append]
    refine ⟨h, by simp, fun y hy z hz e => ?_⟩
    rw [List.mem_singleton.mp hz] at e
    exact hx (e ▸ hy)
theorem addNew_mem {o : List Nat} {x y : Nat} (h : y ∈ addNew o x) : y ∈ o ∨ y = x := by
  unfold addNew at h
  split at h
  · exact .inl h
  · rcases List.mem_append.mp h with h | h
    · exact .inl h
    · exact .inr (List.mem_singleton.mp h)
theorem addNew_get {o : List Nat} {x i y : Nat} (h : o[i]? = some y) : (addNew o x)[i]? = some y := by
  unfold addNew
  split
  · exact h
  · rw [List.getElem?_append_left (List.getElem?_eq_some_iff.mp h).1]; exact h
theorem metRow_nodup : ∀ {xs o : List Nat}, o.Nodup → (metRow o xs).Nodup
  | [], _, h => h
  | _ :: xs, _, h => metRow_nodup (xs := xs) (addNew_nodup h)
theorem metRow_sub : ∀ {xs o : List Nat} {y : Nat}, y ∈ o → y ∈ metRow o xs
  | [], _, _, h => h
  | _ :: xs, _, _, h => metRow_sub (xs := xs) (addNew_sub h)
theorem metRow_has : ∀ {xs o : List Nat} {y : Nat}, y ∈ xs → y ∈ metRow o xs
  | x :: xs, o, y, h => by
    rcases List.mem_cons.mp h with rfl | h
    · exact metRow_sub (xs := xs) addNew_self
    · exact metRow_has (xs := xs) h
theorem metRow_mem : ∀ {xs o : List Nat} {y : Nat}, y ∈ metRow o xs → y ∈ o ∨ y ∈ xs
  | [], _, _, h => .inl h
  | x :: xs, o, y, h => by
    rcases metRow_mem (xs := xs) h with h | h
    · rcases addNew_mem h with h | rfl
      · exact .inl h
      · exact .inr List.mem_cons_self
    · exact .inr (List.mem_cons_of_mem _ h)
theorem metRow_get : ∀ {xs o : List Nat} {i y : Nat}, o[i]? = some y → (metRow o xs)[i]? = some y
  | [], _, _, _, h => h
  | _ :: xs, _, _, _, h => metRow_get (xs := xs) (addNew_get h)

/-- what the order is good for: its first one, no state twice, all next ones there -/
structure MetOk (succ : Nat → List Nat) (P : Nat → Prop) (r0 : Nat) (o : List Nat) (p : Nat) : Prop where
  hd : o[0]? = some r0
  nd : o.Nodup
  all : ∀ x ∈ o, P x
  done : ∀ i x, i < p → o[i]? = some x → ∀ y ∈ succ x, y ∈ o
theorem MetOk.next {succ : Nat → List Nat} {P : Nat → Prop} {r0 p s : Nat} {o : List Nat} (hP : ∀ x, P x → ∀ y ∈ succ x, P y) (m : MetOk succ P r0 o p) (h : o[p]? = some s) : MetOk succ P r0 (metRow o (succ s)) (p + 1) := by
  refine ⟨metRow_get m.hd, metRow_nodup m.nd, fun x hx => ?_, fun i x hi hx y hy => ?_⟩
  · rcases metRow_mem hx with hx | hx
    · exact m.all x hx
    · exact hP s (m.all s (List.mem_of_getElem? h)) x hx
  · have hpl : p < o.length := (List.getElem?_eq_some_iff.mp h).1
    have hx' : o[i]? = some x := by
      have hil : i < o.length := by omega
      have e := metRow_get (xs := succ s) (List.getElem?_eq_getElem hil)
      rw [hx] at e
      rw [List.getElem?_eq_getElem hil]
      exact e.symm
    by_cases e : i = p
    · subst e
      rw [h] at hx'
      cases hx'
      exact metRow_has hy
    · exact metRow_sub (m.done i x (by omega) hx' y hy)
theorem met_ok {succ : Nat → List Nat} {P : Nat → Prop} {r0 n : Nat} (hP : ∀ x, P x → ∀ y ∈ succ x, P y) (hn : ∀ x, P x → x < n) : ∀ (f : Nat) (o : List Nat) (p : Nat), MetOk succ P r0 o p → p ≤ o.length → n < f + p →
    ∃ q, MetOk succ P r0 (met succ f o p) q ∧ (met succ f o p).length ≤ q
  | 0, o, p, m, hp, hf => by
    have := nodup_len n o m.nd fun x hx => hn x (m.all x hx)
    omega
  | f + 1, o, p, m, hp, hf => by
    unfold met
    cases h : o[p]? with
    | none => exact ⟨p, m, by have := List.getElem?_eq_none_iff.mp h; omega⟩
    | some s =>
      have hpl : p < o.length := (List.getElem?_eq_some_iff.mp h).1
      have hl : ∀ (xs : List Nat) (o : List Nat), o.length ≤ (metRow o xs).length := by
        intro xs
        induction xs with
        | nil => intro o; exact Nat.le_refl _
        | cons x xs ih =>
          intro o
          refine Nat.le_trans ?_ (ih (addNew o x))
          unfold addNew
          split
          · exact Nat.le_refl _
          · rw [List.length_append]; omega
      have hl := hl (succ s) o
      exact met_ok hP hn f _ (p + 1) (m.next hP h) (by omega) (by omega)

/-! two such orders, side by side -/
inductive Fa {α β : Type} (R : α → β → Prop) : List α → List β → Prop
  | nil : Fa R [] []
  | cons {a : α} {b : β} {l : List α} {m : List β} : R a b → Fa R l m → Fa R (a :: l) (b :: m)
section
variable {R : Nat → Nat → Prop}
theorem Fa.length {α β : Type} {R : α → β → Prop} : ∀ {l : List α} {m : List β}, Fa R l m → l.length = m.length
  | _, _, .nil => rfl
  | _, _, .cons _ t => by rw [List.length_cons, List.length_cons, t.length]
theorem Fa.get {α β : Type} {R : α → β → Prop} : ∀ {l : List α} {m : List β} {i : Nat} {a : α}, Fa R l m → l[i]? = some a → ∃ b, m[i]? = some b ∧ R a b
  | _, _, 0, _, .cons r _, h => by
    simp only [List.getElem?_cons_zero, Option.some.injEq] at h
    subst h
    exact ⟨_, rfl, r⟩
  | _, _, i + 1, _, .cons _ t, h => by
    simp only [List.getElem?_cons_succ] at h
    obtain ⟨b, h1, h2⟩ := t.get h
    exact ⟨b, by simpa using h1, h2⟩
theorem Fa.get2 {α β : Type} {R : α → β → Prop} : ∀ {l : List α} {m : List β} {i : Nat} {b : β}, Fa R l m → m[i]? = some b → ∃ a, l[i]? = some a ∧ R a b
  | _, _, 0, _, .cons r _, h => by
    simp only [List.getElem?_cons_zero, Option.some.injEq] at h
    subst h
    exact ⟨_, rfl, r⟩
  | _, _, i + 1, _, .cons _ t, h => by
    simp only [List.getElem?_cons_succ] at h
    obtain ⟨b, h1, h2⟩ := t.get2 h
    exact ⟨b, by simpa using h1, h2⟩
theorem Fa.snoc {α β : Type} {R : α → β → Prop} {a : α} {b : β} (r : R a b) : ∀ {l : List α} {m : List β}, Fa R l m → Fa R (l ++ [a]) (m ++ [b])
  | _, _, .nil => .cons r .nil
  | _, _, .cons q t => .cons q (t.snoc r)
theorem Fa.mem (one : ∀ a a' b b', R a b → R a' b' → (a = a' ↔ b = b')) {x y : Nat} (r : R x y) : ∀ {l m : List Nat}, Fa R l m → (x ∈ l ↔ y ∈ m)
  | _, _, .nil => by simp
  | _, _, .cons q t => by rw [List.mem_cons, List.mem_cons, t.mem one r, one _ _ _ _ r q]
theorem Fa.idx (one : ∀ a a' b b', R a b → R a' b' → (a = a' ↔ b = b')) {x y : Nat} (r : R x y) : ∀ {l m : List Nat}, Fa R l m → l.idxOf x = m.idxOf y
  | _, _, .nil => rfl
  | _, _, .cons (a := a) (b := b) q t => by
    rw [List.idxOf_cons, List.idxOf_cons, t.idx one r]
    have e : (a == x) = (b == y) := by
      have h := one _ _ _ _ q r
      by_cases ha : a = x
      · rw [beq_iff_eq.mpr ha, beq_iff_eq.mpr (h.mp ha)]
      · rw [beq_eq_false_iff_ne.mpr ha, beq_eq_false_iff_ne.mpr fun z => ha (h.mpr z)]
    rw [e]
theorem Fa.addNew (one : ∀ a a' b b', R a b → R a' b' → (a = a' ↔ b = b')) {x y : Nat} (r : R x y) {l m : List Nat} (h : Fa R l m) : Fa R (addNew l x) (addNew m y) := by
  unfold Mae.addNew
  by_cases hx : x ∈ l
  · rw [if_pos hx, if_pos ((h.mem one r).mp hx)]; exact h
  · rw [if_neg hx, if_neg fun z => hx ((h.mem one r).mpr z)]; exact h.snoc r
theorem Fa.metRow (one : ∀ a a' b b', R a b → R a' b' → (a = a' ↔ b = b')) : ∀ {xs ys l m : List Nat}, Fa R xs ys → Fa R l m → Fa R (metRow l xs) (metRow m ys)
  | _, _, _, _, .nil, h => h
  | _, _, _, _, .cons r t, h => (Fa.metRow one t (h.addNew one r) :)
theorem Fa.met (one : ∀ a a' b b', R a b → R a' b' → (a = a' ↔ b = b')) {f1 f2 : Nat → List Nat} (hs : ∀ a b, R a b → Fa R (f1 a) (f2 b)) : ∀ (f : Nat) {l m : List Nat} (p : Nat), Fa R l m → Fa R (met f1 f l p) (met f2 f m p)
  | 0, _, _, _, h => h
  | f + 1, l, m, p, h => by
    unfold Mae.met
    cases hl : l[p]? with
    | none =>
      have : m[p]? = Option.none := by
        rw [List.getElem?_eq_none_iff, ← h.length]
        exact List.getElem?_eq_none_iff.mp hl
      rw [this]
      exact h
    | some a =>
      obtain ⟨b, hm, r⟩ := h.get hl
      rw [hm]
      exact Fa.met one hs f (p + 1) (Fa.metRow one (hs a b r) h)
theorem Fa.map_eq {α β γ : Type} {R : α → β → Prop} {f : α → γ} {g : β → γ} (h : ∀ a b, R a b → f a = g b) : ∀ {l : List α} {m : List β}, Fa R l m → l.map f = m.map g
  | _, _, .nil => rfl
  | _, _, .cons r t => by rw [List.map_cons, List.map_cons, h _ _ r, t.map_eq h]
theorem Fa.mapR {α β γ ε : Type} {R : α → β → Prop} {S : γ → ε → Prop} {f : α → γ} {g : β → ε} (h : ∀ a b, R a b → S (f a) (g b)) : ∀ {l : List α} {m : List β}, Fa R l m → Fa S (l.map f) (m.map g)
  | _, _, .nil => .nil
  | _, _, .cons r t => .cons (h _ _ r) (t.mapR h)
theorem Fa.of_get {α β : Type} {R : α → β → Prop} : ∀ {l : List α} {m : List β}, l.length = m.length → (∀ (i : Nat) a b, l[i]? = some a → m[i]? = some b → R a b) → Fa R l m
  | [], [], _, _ => .nil
  | a :: l, b :: m, hl, h => .cons (h 0 a b rfl rfl) (Fa.of_get (by simpa using hl) fun i x y hx hy => h (i + 1) x y (by simpa using hx) (by simpa using hy))
end
theorem idx_at : ∀ {o : List Nat} {x : Nat}, x ∈ o → o[o.idxOf x]? = some x
  | y :: o, x, h => by
    rw [List.idxOf_cons]
    by_cases e : y = x
    · rw [beq_iff_eq.mpr e]
      show some y = some x
      rw [e]
    · rw [beq_eq_false_iff_ne.mpr e]
      show (y :: o)[o.idxOf x + 1]? = some x
      rw [List.getElem?_cons_succ]
      rcases List.mem_cons.mp h with z | z
      · exact absurd z.symm e
      · exact idx_at z
theorem idx_lt {o : List Nat} {x : Nat} (h : x ∈ o) : o.idxOf x < o.length := (List.getElem?_eq_some_iff.mp (idx_at h)).1
theorem idx_before : ∀ {o : List Nat} {x j y : Nat}, o[j]? = some y → j < o.idxOf x → y ≠ x
  | z :: o, x, j, y, h, hj => by
    rw [List.idxOf_cons] at hj
    by_cases e : z = x
    · rw [beq_iff_eq.mpr e] at hj
      exact absurd hj (Nat.not_lt_zero _)
    · rw [beq_eq_false_iff_ne.mpr e] at hj
      cases j with
      | zero =>
        simp only [List.getElem?_cons_zero, Option.some.injEq] at h
        rw [← h]; exact e
      | succ j =>
        have hj' : j < o.idxOf x := by
          have : j + 1 < o.idxOf x + 1 := hj
          omega
        exact idx_before (by simpa using h) hj'

/-! ### the least machine -/
def succOf (M : Mach) (g : List Nat) (s : Nat) : List Nat := (M.row s).map (gx g)
def orderOf (M : Mach) (g : List Nat) : List Nat := met (succOf M g) (M.n + 1) [gx g 0] 0
def leastOf (M : Mach) (g : List Nat) : Mach :=
  { k := M.k, o := M.o, mv := (orderOf M g).map fun old => (M.row old).map fun s => (orderOf M g).idxOf (gx g s), out := (orderOf M g).map M.v }
def IsLeast (M L : Mach) : Prop := ∃ g, IsCls M.n g (Eqv M.k M.d M.v) ∧ L = leastOf M g

section
variable {M : Mach} {g : List Nat}
/-- a state that stands for its class -/
def Rep (M : Mach) (g : List Nat) (x : Nat) : Prop := x < M.n ∧ gx g x = x
theorem cls_iff (I : IsCls M.n g (Eqv M.k M.d M.v)) {s t : Nat} (hs : s < M.n) (ht : t < M.n) : gx g s = gx g t ↔ Eqv M.k M.d M.v s t := I.iff (fun _ _ h => h.symm) (fun _ _ _ h h' => h.trans h') hs ht
theorem rep_of (I : IsCls M.n g (Eqv M.k M.d M.v)) {s : Nat} (hs : s < M.n) : Rep M g (gx g s) := by
  have hl : gx g s < M.n := Nat.lt_of_le_of_lt (I.le hs) hs
  exact ⟨hl, ((cls_iff I hs hl).mpr (I.rel hs)).symm⟩
theorem succ_mem (O : M.Ok) {x y : Nat} (hx : x < M.n) (hy : y ∈ succOf M g x) : ∃ a, a < M.k ∧ y = gx g (M.d x a) := by
  unfold succOf at hy
  obtain ⟨s, hs, rfl⟩ := List.mem_map.mp hy
  obtain ⟨a, ha⟩ := List.mem_iff_getElem?.mp hs
  have hal : a < M.k := by
    have := (List.getElem?_eq_some_iff.mp ha).1
    rw [O.row_len hx] at this
    exact this
  rw [O.d_at hx hal] at ha
  cases ha
  exact ⟨a, hal, rfl⟩
theorem order_ok (O : M.Ok) (I : IsCls M.n g (Eqv M.k M.d M.v)) : ∃ q, MetOk (succOf M g) (Rep M g) (gx g 0) (orderOf M g) q ∧ (orderOf M g).length ≤ q := by
  refine met_ok (n := M.n) (fun x hx y hy => ?_) (fun x hx => hx.1) (M.n + 1) [gx g 0] 0 ⟨rfl, by simp, fun x hx => ?_, fun i x hi _ => absurd hi (Nat.not_lt_zero _)⟩ (Nat.zero_le _) (by omega)
  · obtain ⟨a, ha, rfl⟩ := succ_mem O hx.1 hy
    exact rep_of I (O.closed x a hx.1 ha)
  · rw [List.mem_singleton.mp hx]
    exact rep_of I O.np
structure OrdOk (M : Mach) (g o : List Nat) : Prop where
  hd : o[0]? = some (gx g 0)
  nd : o.Nodup
  rep : ∀ x ∈ o, Rep M g x
  cl : ∀ x ∈ o, ∀ a, a < M.k → gx g (M.d x a) ∈ o
theorem order_is (O : M.Ok) (I : IsCls M.n g (Eqv M.k M.d M.v)) : OrdOk M g (orderOf M g) := by
  obtain ⟨q, m, hq⟩ := order_ok O I
  refine ⟨m.hd, m.nd, m.all, fun x hx a ha => ?_⟩
  obtain ⟨i, hi⟩ := List.mem_iff_getElem?.mp hx
  have hil : i < (orderOf M g).length := (List.getElem?_eq_some_iff.mp hi).1
  refine m.done i x (by omega) hi _ ?_
  unfold succOf
  exact List.mem_map.mpr ⟨M.d x a, List.mem_of_getElem? (O.d_at (m.all x hx).1 ha), rfl⟩
variable {o : List Nat}
theorem OrdOk.len (h : OrdOk M g o) : o.length ≤ M.n := nodup_len M.n o h.nd fun x hx => (h.rep x hx).1
theorem OrdOk.pos (h : OrdOk M g o) : 1 ≤ o.length := (List.getElem?_eq_some_iff.mp h.hd).1

theorem least_n : (leastOf M g).n = (orderOf M g).length := by
  unfold Mach.n leastOf
  exact List.length_map ..
theorem least_row {i x : Nat} (h : (orderOf M g)[i]? = some x) : (leastOf M g).row i = (M.row x).map fun s => (orderOf M g).idxOf (gx g s) := by
  unfold Mach.row
  rw [List.getD_eq_getElem?_getD, show (leastOf M g).mv = (orderOf M g).map fun old => (M.row old).map fun s => (orderOf M g).idxOf (gx g s) from rfl, List.getElem?_map, h]
  rfl
theorem least_d (O : M.Ok) {i x a : Nat} (h : (orderOf M g)[i]? = some x) (hx : x < M.n) (ha : a < M.k) : (leastOf M g).d i a = (orderOf M g).idxOf (gx g (M.d x a)) := by
  unfold Mach.d
  rw [least_row h, List.getD_eq_getElem?_getD, List.getElem?_map, O.d_at hx ha]
  rfl
theorem least_v {i x : Nat} (h : (orderOf M g)[i]? = some x) : (leastOf M g).v i = M.v x := by
  unfold Mach.v
  rw [List.getD_eq_getElem?_getD, show (leastOf M g).out = (orderOf M g).map M.v from rfl, List.getElem?_map, h]
  rfl
theorem least_ok (O : M.Ok) (I : IsCls M.n g (Eqv M.k M.d M.v)) : (leastOf M g).Ok := by
  have D := order_is O I
  refine ⟨O.kp, by rw [least_n]; exact D.pos, by rw [least_n]; exact Nat.le_trans D.len O.nm, O.km, ?_, fun r hr => ?_⟩
  · rw [least_n]
    exact List.length_map ..
  · rw [least_n]
    obtain ⟨x, hx, rfl⟩ := List.mem_map.mp (show r ∈ (orderOf M g).map fun old => (M.row old).map fun s => (orderOf M g).idxOf (gx g s) from hr)
    have xn := (D.rep x hx).1
    refine ⟨by rw [List.length_map]; exact O.row_len xn, fun s hs => ?_⟩
    obtain ⟨y, hy, rfl⟩ := List.mem_map.mp hs
    obtain ⟨a, ha⟩ := List.mem_iff_getElem?.mp hy
    have hal : a < M.k := by
      have := (List.getElem?_eq_some_iff.mp ha).1
      rw [O.row_len xn] at this
      exact this
    rw [O.d_at xn hal] at ha
    cases ha
    exact idx_lt (D.cl x hx a hal)
/-- a state of the least machine runs as the state that it stands for -/
theorem least_run (O : M.Ok) (I : IsCls M.n g (Eqv M.k M.d M.v)) : ∀ (w : List Nat) (i x s : Nat), Vw M.k w → (orderOf M g)[i]? = some x → s < M.n → Eqv M.k M.d M.v s x →
    ∃ y, (orderOf M g)[run (leastOf M g).d i w]? = some y ∧ Eqv M.k M.d M.v (run M.d s w) y
  | [], i, x, s, _, h, _, he => ⟨x, h, he⟩
  | a :: w, i, x, s, hw, h, hs, he => by
    obtain ⟨ha, hw⟩ := vw_cons.mp hw
    have D := order_is O I
    have hx := D.rep x (List.mem_of_getElem? h)
    have hd : M.d x a < M.n := O.closed x a hx.1 ha
    rw [run_cons, run_cons, least_d O h hx.1 ha]
    refine least_run O I w _ (gx g (M.d x a)) (M.d s a) hw (idx_at (D.cl x (List.mem_of_getElem? h) a ha)) (O.closed s a hs ha) ?_
    exact (he.step ha).trans (I.rel hd)
theorem least_out (O : M.Ok) (I : IsCls M.n g (Eqv M.k M.d M.v)) {w : List Nat} {i x : Nat} (hw : Vw M.k w) (h : (orderOf M g)[i]? = some x) : (leastOf M g).v (run (leastOf M g).d i w) = M.v (run M.d x w) := by
  have D := order_is O I
  obtain ⟨y, h1, h2⟩ := least_run O I w i x x hw h (D.rep x (List.mem_of_getElem? h)).1 Eqv.refl
  rw [least_v h1, h2.out]
theorem least_alike (O : M.Ok) (I : IsCls M.n g (Eqv M.k M.d M.v)) {w : List Nat} (hw : Vw M.k w) : (leastOf M g).v (run (leastOf M g).d 0 w) = M.v (run M.d 0 w) := by
  have D := order_is O I
  rw [least_out O I hw D.hd]
  exact ((I.rel O.np) w hw).symm
/-- no two states of the least machine are alike -/
theorem least_apart (O : M.Ok) (I : IsCls M.n g (Eqv M.k M.d M.v)) {i j : Nat} (hi : i < (leastOf M g).n) (hj : j < (leastOf M g).n) (he : Eqv M.k (leastOf M g).d (leastOf M g).v i j) : i = j := by
  have D := order_is O I
  rw [least_n] at hi hj
  have gi := List.getElem?_eq_getElem hi
  have gj := List.getElem?_eq_getElem hj
  have ri := D.rep _ (List.mem_of_getElem? gi)
  have rj := D.rep _ (List.mem_of_getElem? gj)
  have e : Eqv M.k M.d M.v (orderOf M g)[i] (orderOf M g)[j] := fun w hw => by
    rw [← least_out O I hw gi, ← least_out O I hw gj]
    exact he w hw
  have e2 := (cls_iff I ri.1 rj.1).mpr e
  rw [ri.2, rj.2] at e2
  exact (List.getElem_inj D.nd).mp e2
end

/-! ### alike machines have one least machine -/
def Alike (A B : Mach) : Prop := ∀ w, Vw A.k w → A.v (run A.d 0 w) = B.v (run B.d 0 w)
section
variable {A B : Mach} {g h : List Nat}
theorem least_one (OA : A.Ok) (OB : B.Ok) (hk : A.k = B.k) (ho : A.o = B.o) (I : IsCls A.n g (Eqv A.k A.d A.v)) (J : IsCls B.n h (Eqv B.k B.d B.v)) (al : Alike A B) : leastOf A g = leastOf B h := by
  -- a state of the one and a state of the other stand for the same
  let R : Nat → Nat → Prop := fun a b => Rep A g a ∧ Rep B h b ∧ ∀ w, Vw A.k w → A.v (run A.d a w) = B.v (run B.d b w)
  have one : ∀ a a' b b', R a b → R a' b' → (a = a' ↔ b = b') := by
    rintro a a' b b' ⟨r1, r2, r3⟩ ⟨q1, q2, q3⟩
    constructor
    · rintro rfl
      have e : Eqv B.k B.d B.v b b' := fun w hw => by
        have hw' : Vw A.k w := by rw [hk]; exact hw
        rw [← r3 w hw', ← q3 w hw']
      have e2 := (cls_iff J r2.1 q2.1).mpr e
      rw [r2.2, q2.2] at e2
      exact e2
    · rintro rfl
      have e : Eqv A.k A.d A.v a a' := fun w hw => by rw [r3 w hw, q3 w hw]
      have e2 := (cls_iff I r1.1 q1.1).mpr e
      rw [r1.2, q1.2] at e2
      exact e2
  have rel : ∀ s t, s < A.n → t < B.n → (∀ w, Vw A.k w → A.v (run A.d s w) = B.v (run B.d t w)) → R (gx g s) (gx h t) := fun s t hs ht e => by
    refine ⟨rep_of I hs, rep_of J ht, fun w hw => ?_⟩
    have hw' : Vw B.k w := by rw [← hk]; exact hw
    rw [← (I.rel hs) w hw, e w hw, (J.rel ht) w hw']
  have rowR : ∀ a b, R a b → Fa (fun s t => s < A.n ∧ t < B.n ∧ ∀ w, Vw A.k w → A.v (run A.d s w) = B.v (run B.d t w)) (A.row a) (B.row b) := by
    rintro a b ⟨r1, r2, r3⟩
    refine Fa.of_get (by rw [OA.row_len r1.1, OB.row_len r2.1, hk]) fun i x y hx hy => ?_
    have hi : i < A.k := by
      have := (List.getElem?_eq_some_iff.mp hx).1
      rw [OA.row_len r1.1] at this
      exact this
    have hi' : i < B.k := by omega
    rw [OA.d_at r1.1 hi] at hx
    rw [OB.d_at r2.1 hi'] at hy
    cases hx
    cases hy
    refine ⟨OA.closed _ _ r1.1 hi, OB.closed _ _ r2.1 hi', fun w hw => ?_⟩
    exact r3 (i :: w) (vw_cons.mpr ⟨hi, hw⟩)
  have succR : ∀ a b, R a b → Fa R (succOf A g a) (succOf B h b) := fun a b r => (rowR a b r).mapR fun s t q => rel s t q.1 q.2.1 q.2.2
  have lenF : ∀ (f f' : Nat) (o : List Nat) (p : Nat), MetOk (succOf A g) (Rep A g) (gx g 0) o p → p ≤ o.length → A.n < f + p → A.n < f' + p → met (succOf A g) f o p = met (succOf A g) f' o p := by
    have hP : ∀ x, Rep A g x → ∀ y ∈ succOf A g x, Rep A g y := fun x hx y hy => by
      obtain ⟨a, ha, rfl⟩ := succ_mem OA hx.1 hy
      exact rep_of I (OA.closed x a hx.1 ha)
    intro f
    induction f with
    | zero =>
      intro f' o p m hp h1 _
      have := nodup_len A.n o m.nd fun x hx => (m.all x hx).1
      omega
    | succ f ih =>
      intro f' o p m hp h1 h2
      cases f' with
      | zero =>
        have := nodup_len A.n o m.nd fun x hx => (m.all x hx).1
        omega
      | succ f' =>
        unfold met
        cases hq : o[p]? with
        | none => rfl
        | some s =>
          have hpl : p < o.length := (List.getElem?_eq_some_iff.mp hq).1
          have hl : ∀ (xs : List Nat) (o : List Nat), o.length ≤ (metRow o xs).length := by
            intro xs
            induction xs with
            | nil => intro o; exact Nat.le_refl _
            | cons x xs ih =>
              intro o
              refine Nat.le_trans ?_ (ih (addNew o x))
              unfold addNew
              split
              · exact Nat.le_refl _
              · rw [List.length_append]; omega
          have hl := hl (succOf A g s) o
          exact ih f' _ (p + 1) (m.next hP hq) (by omega) (by omega) (by omega)
  have lenG : ∀ (f f' : Nat) (o : List Nat) (p : Nat), MetOk (succOf B h) (Rep B h) (gx h 0) o p → p ≤ o.length → B.n < f + p → B.n < f' + p → met (succOf B h) f o p = met (succOf B h) f' o p := by
    have hP : ∀ x, Rep B h x → ∀ y ∈ succOf B h x, Rep B h y := fun x hx y hy => by
      obtain ⟨a, ha, rfl⟩ := succ_mem OB hx.1 hy
      exact rep_of J (OB.closed x a hx.1 ha)
    intro f
    induction f with
    | zero =>
      intro f' o p m hp h1 _
      have := nodup_len B.n o m.nd fun x hx => (m.all x hx).1
      omega
    | succ f ih =>
      intro f' o p m hp h1 h2
      cases f' with
      | zero =>
        have := nodup_len B.n o m.nd fun x hx => (m.all x hx).1
        omega
      | succ f' =>
        unfold met
        cases hq : o[p]? with
        | none => rfl
        | some s =>
          have hpl : p < o.length := (List.getElem?_eq_some_iff.mp hq).1
          have hl : ∀ (xs : List Nat) (o : List Nat), o.length ≤ (metRow o xs).length := by
            intro xs
            induction xs with
            | nil => intro o; exact Nat.le_refl _
            | cons x xs ih =>
              intro o
              refine Nat.le_trans ?_ (ih (addNew o x))
              unfold addNew
              split
              · exact Nat.le_refl _
              · rw [List.length_append]; omega
          have hl := hl (succOf B h s) o
          exact ih f' _ (p + 1) (m.next hP hq) (by omega) (by omega) (by omega)
  have startA : MetOk (succOf A g) (Rep A g) (gx g 0) [gx g 0] 0 := ⟨rfl, by simp, fun x hx => by rw [List.mem_singleton.mp hx]; exact rep_of I OA.np, fun i x hi _ => absurd hi (Nat.not_lt_zero _)⟩
  have startB : MetOk (succOf B h) (Rep B h) (gx h 0) [gx h 0] 0 := ⟨rfl, by simp, fun x hx => by rw [List.mem_singleton.mp hx]; exact rep_of J OB.np, fun i x hi _ => absurd hi (Nat.not_lt_zero _)⟩
  have eA : orderOf A g = met (succOf A g) (A.n + B.n + 1) [gx g 0] 0 := lenF _ _ _ _ startA (Nat.zero_le _) (by omega) (by omega)
  have eB : orderOf B h = met (succOf B h) (A.n + B.n + 1) [gx h 0] 0 := lenG _ _ _ _ startB (Nat.zero_le _) (by omega) (by omega)
  have OR : Fa R (orderOf A g) (orderOf B h) := by
    rw [eA, eB]
    exact Fa.met one succR _ 0 (.cons (rel 0 0 OA.np OB.np al) .nil)
  have emv : (leastOf A g).mv = (leastOf B h).mv := by
    show (orderOf A g).map (fun old => (A.row old).map fun s => (orderOf A g).idxOf (gx g s)) = (orderOf B h).map (fun old => (B.row old).map fun s => (orderOf B h).idxOf (gx h s))
    exact OR.map_eq fun a b r => (rowR a b r).map_eq fun s t q => OR.idx one (rel s t q.1 q.2.1 q.2.2)
  have eout : (leastOf A g).out = (leastOf B h).out := by
    show (orderOf A g).map A.v = (orderOf B h).map B.v
    exact OR.map_eq fun a b r => r.2.2 [] (vw_nil _)
  have ek : (leastOf A g).k = (leastOf B h).k := hk
  have eo : (leastOf A g).o = (leastOf B h).o := ho
  cases hA : leastOf A g with
  | mk k1 o1 m1 u1 =>
    cases hB : leastOf B h with
    | mk k2 o2 m2 u2 =>
      rw [hA, hB] at emv eout ek eo
      simp only at emv eout ek eo
      rw [emv, eout, ek, eo]
end

/-! ### what the law asks -/
def two (A B : Mach) (s t : Nat) : Two := ⟨A.k, A.d, B.d, A.v, B.v, s, t⟩
theorem same_alike {A B : Mach} : (two A B 0 0).Same ↔ Alike A B := by
  constructor
  · intro h w hw
    exact Classical.byContradiction fun hne => h w hw hne
  · intro h w hw hd
    exact hd (h w hw)
theorem least_eq_iff {A B L K : Mach} (OA : A.Ok) (OB : B.Ok) (hk : A.k = B.k) (ho : A.o = B.o) (hL : IsLeast A L) (hK : IsLeast B K) : L = K ↔ Alike A B := by
  obtain ⟨g, I, rfl⟩ := hL
  obtain ⟨h, J, rfl⟩ := hK
  constructor
  · intro e w hw
    have hw' : Vw B.k w := by rw [← hk]; exact hw
    rw [← least_alike OA I hw, e, least_alike OB J hw']
  · exact least_one OA OB hk ho I J
theorem IsLeast.ok {A L : Mach} (O : A.Ok) (h : IsLeast A L) : L.Ok := by
  obtain ⟨g, I, rfl⟩ := h
  exact least_ok O I
theorem IsLeast.k {A L : Mach} (h : IsLeast A L) : L.k = A.k := by
  obtain ⟨g, I, rfl⟩ := h
  rfl
theorem IsLeast.o {A L : Mach} (h : IsLeast A L) : L.o = A.o := by
  obtain ⟨g, I, rfl⟩ := h
  rfl
theorem IsLeast.alike {A L : Mach} (O : A.Ok) (h : IsLeast A L) : Alike A L := by
  obtain ⟨g, I, rfl⟩ := h
  exact fun w hw => (least_alike O I hw).symm
theorem IsLeast.apart {A L : Mach} (O : A.Ok) (h : IsLeast A L) {i j : Nat} (hi : i < L.n) (hj : j < L.n) (ne : i ≠ j) : ¬ (two L L i j).Same := by
  obtain ⟨g, I, rfl⟩ := h
  intro hs
  exact ne (least_apart O I hi hj fun w hw => Classical.byContradiction fun hne => hs w hw hne)
/-- the first difference of two machines is that of their least ones, and shorter than these have states -/
theorem first_least {A B L K : Mach} (OA : A.Ok) (OB : B.Ok) (hk : A.k = B.k) (hL : IsLeast A L) (hK : IsLeast B K) {w u : List Nat} (hw : (two A B 0 0).First w) (hu : (two L K 0 0).First u) : u = w ∧ w.length < L.n + K.n := by
  have OL := hL.ok OA
  have OK := hK.ok OB
  have kL : L.k = A.k := hL.k
  have kK : K.k = A.k := by rw [hK.k, hk]
  have e : u = w := by
    refine Two.First.one (T := two L K 0 0) (U := two A B 0 0) kL (fun x hx => ?_) hu hw
    have hxA : Vw A.k x := by
      have := hx
      rw [show (two L K 0 0).k = L.k from rfl, kL] at this
      exact this
    have hxB : Vw B.k x := by rw [← hk]; exact hxA
    show L.v (run L.d 0 x) ≠ K.v (run K.d 0 x) ↔ A.v (run A.d 0 x) ≠ B.v (run B.d 0 x)
    rw [hL.alike OA x hxA, hK.alike OB x hxB]
  subst e
  refine ⟨rfl, Two.First.len (T := two L K 0 0) OL.kp OL.closed ?_ OL.np OK.np hu⟩
  have c := OK.closed
  rw [kK, ← kL] at c
  exact c
theorem parting_len {L : Mach} (O : L.Ok) {i j : Nat} (hi : i < L.n) (hj : j < L.n) {w : List Nat} (h : (two L L i j).First w) : w.length < L.n :=
  Two.First.len1 (T := two L L i j) O.kp O.closed rfl rfl hi hj h
theorem First.not_same {T : Two} {w : List Nat} (h : T.First w) : ¬ T.Same := fun hs => hs w h.vw h.dif
end Mae

namespace Mae
open PySem PySem.Spec PyProof.Rows L2 Evl

/-! ### a machine in the heap -/
def MAt (K : PySem.W.Frag) (H : Hp) (a : Addr) (M : Mach) : Prop :=
  ∃ (ra oa : Addr) (rs : List Addr), H a = some (.tup [vi M.k, vi M.o, .ref ra, .ref oa]) ∧ H ra = some (.tup (rs.map V.ref)) ∧ SqT K H oa (M.out.map vi) ∧ Fa (fun r row => H r = some (.tup (row.map vi))) rs M.mv
/-- .. its outputs without a dict of their own -/
def MAtP (H : Hp) (a : Addr) (M : Mach) : Prop :=
  ∃ (ra oa : Addr) (rs : List Addr), H a = some (.tup [vi M.k, vi M.o, .ref ra, .ref oa]) ∧ H ra = some (.tup (rs.map V.ref)) ∧ Pt H oa (M.out.map vi) ∧ Fa (fun r row => H r = some (.tup (row.map vi))) rs M.mv
theorem MAtP.m {K : PySem.W.Frag} {H : Hp} {a : Addr} {M : Mach} (h : MAtP H a M) : MAt K H a M := by
  obtain ⟨ra, oa, rs, h1, h2, h3, h4⟩ := h
  exact ⟨ra, oa, rs, h1, h2, h3.sq, h4⟩
theorem Fa.mono {α β : Type} {R S : α → β → Prop} (h : ∀ a b, R a b → S a b) : ∀ {l : List α} {m : List β}, Fa R l m → Fa S l m
  | _, _, .nil => .nil
  | _, _, .cons r t => .cons (h _ _ r) (t.mono h)
theorem Pt.ex {H H' : Hp} {p : Addr} {xs : List V} (e : Ex H H') (h : Pt H p xs) : Pt H' p xs := by
  obtain ⟨o, h1, h2, h3⟩ := h
  exact ⟨o, h1, h2, e _ _ h3⟩
theorem MAt.ex {K : PySem.W.Frag} {H H' : Hp} {a : Addr} {M : Mach} (e : Ex H H') (h : MAt K H a M) : MAt K H' a M := by
  obtain ⟨ra, oa, rs, h1, h2, h3, h4⟩ := h
  exact ⟨ra, oa, rs, e _ _ h1, e _ _ h2, ex_t e h3, h4.mono fun _ _ q => e _ _ q⟩
theorem MAtP.ex {H H' : Hp} {a : Addr} {M : Mach} (e : Ex H H') (h : MAtP H a M) : MAtP H' a M := by
  obtain ⟨ra, oa, rs, h1, h2, h3, h4⟩ := h
  exact ⟨ra, oa, rs, e _ _ h1, e _ _ h2, h3.ex e, h4.mono fun _ _ q => e _ _ q⟩

theorem at_vi {ns : List Nat} {i n : Nat} (h : ns[i]? = some n) : atI (ns.map vi) ((i : Nat) : Int) = some (vi n) := atI_nat (by rw [List.getElem?_map, h]; rfl)
theorem ns_len (ns : List Nat) : (ns.map vi).length = ns.length := List.length_map ..

section
variable {K : PySem.W.Frag} {σ : L2.St} {H : Hp} {a : Addr} {M : Mach} {ta tb tc : TE} {s l : Nat}
theorem ev_k (h : MAt K H a M) (hx : Ev ta σ H (.ref a)) : Ev (tOp (rIxT K) ta (tC (.int 0))) σ H (vi M.k) := by
  obtain ⟨ra, oa, rs, h1, h2, h3, h4⟩ := h
  exact ev_op hx ev_c (rv_ixT (st_of h1) (atI_nat (j := 0) rfl))
theorem ev_o (h : MAt K H a M) (hx : Ev ta σ H (.ref a)) : Ev (tOp (rIxT K) ta (tC (.int 1))) σ H (vi M.o) := by
  obtain ⟨ra, oa, rs, h1, h2, h3, h4⟩ := h
  exact ev_op hx ev_c (rv_ixT (st_of h1) (atI_nat (j := 1) rfl))
theorem ev_outp (O : M.Ok) (h : MAt K H a M) (hx : Ev ta σ H (.ref a)) (hs : Ev tb σ H (vi s)) (hsn : s < M.n) : Ev (tOp (rIxT K) (tOp (rIxT K) ta (tC (.int 3))) tb) σ H (vi (M.v s)) := by
  obtain ⟨ra, oa, rs, h1, h2, h3, h4⟩ := h
  exact ev_op (ev_op hx ev_c (rv_ixT (st_of h1) (atI_nat (j := 3) rfl))) hs (rv_ixT h3 (at_vi (O.v_at hsn)))
theorem MAt.row (h : MAt K H a M) (hsn : s < M.n) : ∃ (ra : Addr) (rs : List Addr) (r : Addr), (∃ oa, H a = some (.tup [vi M.k, vi M.o, .ref ra, .ref oa])) ∧ H ra = some (.tup (rs.map V.ref)) ∧ rs[s]? = some r ∧ H r = some (.tup ((M.row s).map vi)) := by
  obtain ⟨ra, oa, rs, h1, h2, h3, h4⟩ := h
  obtain ⟨r, hr, hrow⟩ := h4.get2 (M.row_at hsn)
  exact ⟨ra, rs, r, ⟨oa, h1⟩, h2, hr, hrow⟩
theorem ev_rowAt (h : MAt K H a M) (hx : Ev ta σ H (.ref a)) (hs : Ev tb σ H (vi s)) (hsn : s < M.n) : ∃ r, H r = some (.tup ((M.row s).map vi)) ∧ Ev (tOp (rIxT K) (tOp (rIxT K) ta (tC (.int 2))) tb) σ H (.ref r) := by
  obtain ⟨ra, rs, r, ⟨oa, h1⟩, h2, hr, hrow⟩ := h.row hsn
  exact ⟨r, hrow, ev_op (ev_op hx ev_c (rv_ixT (st_of h1) (atI_nat (j := 2) rfl))) hs (rv_ixT (st_of h2) (atI_nat (by rw [List.getElem?_map, hr]; rfl)))⟩
theorem ev_step (O : M.Ok) (h : MAt K H a M) (hx : Ev ta σ H (.ref a)) (hs : Ev tb σ H (vi s)) (hsn : s < M.n) (hl : Ev tc σ H (vi l)) (hlk : l < M.k) :
    Ev (tOp (rIxT K) (tOp (rIxT K) (tOp (rIxT K) ta (tC (.int 2))) tb) tc) σ H (vi (M.d s l)) := by
  obtain ⟨r, hrow, hr⟩ := ev_rowAt h hx hs hsn
  exact ev_op hr hl (rv_ixT (st_of hrow) (at_vi (O.d_at hsn hlk)))
theorem ev_lenT {p : Addr} {xs : List V} (ha : Ev ta σ H (.ref p)) (h : SqT K H p xs) : Ev (tCB (rLenS K) (tCons ta tNil)) σ H (.int (xs.length : Int)) := fun H1 e Q q =>
  ha H1 e _ fun H2 e2 => ⟨p, xs, rfl, Or.inr (ex_t (e.trans e2) h), q H2 e2⟩
theorem ev_n (h : MAt K H a M) (hx : Ev ta σ H (.ref a)) : Ev (tCB (rLenS K) (tCons (tOp (rIxT K) ta (tC (.int 2))) tNil)) σ H (vi M.n) := by
  obtain ⟨ra, oa, rs, h1, h2, h3, h4⟩ := h
  have e := ev_lenT (K := K) (ev_op hx ev_c (rv_ixT (K := K) (st_of h1) (atI_nat (j := 2) rfl))) (st_of h2)
  rw [List.length_map, h4.length] at e
  exact e
end

/-! ### the text by places -/
def topS (i : Nat) : Stmt := PySem.Challenge.pw_maieutic_k05_whole_alike_and_least.main.body.getD i (.Pass ⟨0, 0, 0, 0⟩)
abbrev sSearch : Stmt := topS 5
abbrev sKind : Stmt := topS 6
abbrev sAlike : Stmt := topS 7
abbrev sFirst : Stmt := topS 8
abbrev sPart : Stmt := topS 9
abbrev sRefined : Stmt := topS 11
abbrev sClasses : Stmt := topS 12
abbrev sMet : Stmt := topS 13
abbrev sLeast : Stmt := topS 14
abbrev sStream : Stmt := topS 16
abbrev sPick : Stmt := topS 17
abbrev sSizes : Stmt := topS 18
abbrev sMachine : Stmt := topS 19
abbrev sRun : Stmt := topS 20
abbrev sFew : Stmt := topS 21
abbrev sDoubled : Stmt := topS 22
abbrev sChanged : Stmt := topS 23
abbrev sParts : Stmt := topS 24
abbrev sLaw : Stmt := topS 25
end Mae

namespace Mae
open PySem PySem.Spec PyProof.Rows L2 Evl

/-! ### what evaluates to something of a kind -/
def EvP (te : TE) (σ : L2.St) (H : Hp) (P : V → Hp → Prop) : Prop := ∀ H1, Ex H H1 → ∀ Q : VK, (∀ v H2, Ex H1 H2 → P v H2 → Q v H2) → te σ H1 Q
/-- all but D is kept -/
def Kx (D : Addr) (H H' : Hp) : Prop := ∀ a o, a ≠ D → H a = some o → H' a = some o
theorem Kx.upd {D : Addr} {H : Hp} {o : HO} : Kx D H (L2.upd H D o) := fun a u ha h => by rw [upd_ne ha]; exact h
theorem Kx.of {D : Addr} {H H' : Hp} (e : Ex H H') : Kx D H H' := fun a o _ h => e a o h
theorem Kx.trans {D : Addr} {H H1 H2 : Hp} (a : Kx D H H1) (b : Kx D H1 H2) : Kx D H H2 := fun x o hx h => b x o hx (a x o hx h)
section
variable {δ : Type}
def Stab (R : Addr → δ → V → Hp → Prop) : Prop := ∀ D d x H H', R D d x H → Kx D H H' → R D d x H'
/-- a new list whose items are of the kinds R of ds -/
def EvLR (te : TE) (σ : L2.St) (H : Hp) (R : Addr → δ → V → Hp → Prop) (ds : List δ) : Prop :=
  ∀ H1, Ex H H1 → ∀ Q : VK, (∀ D xs H2, H1 D = none → Ex H1 H2 → H2 D = some (.lst xs) → Fa (fun x d => R D d x H2) xs ds → Q (.ref D) H2) → te σ H1 Q
variable {K : PySem.W.Frag} {σ : L2.St} {H : Hp} {te tl : TE} {v : V}
theorem ev_p (h : Ev te σ H v) : EvP te σ H (fun x _ => x = v) := fun H1 e Q q => h H1 e Q fun H2 e2 => q v H2 e2 rfl
theorem EvP.mono {H' : Hp} {P : V → Hp → Prop} (e : Ex H H') (h : EvP te σ H P) : EvP te σ H' P := fun H1 a Q q => h H1 (e.trans a) Q q
theorem EvP.imp {P P' : V → Hp → Prop} (h : EvP te σ H P) (i : ∀ v H', P v H' → P' v H') : EvP te σ H P' := fun H1 a Q q => h H1 a Q fun v H2 e p => q v H2 e (i v H2 p)
theorem yes_go {F G : Hp → Prop} (h : F H) : tYes σ H fun b H3 => if b = true then F H3 else G H3 := by
  show (if (true : Bool) = true then F H else G H)
  rw [if_pos rfl]
  exact h
/-- one turn of a comprehension -/
theorem lcr_turn {R : Addr → δ → V → Hp → Prop} (st : Stab R) {ds : List δ} {D : Addr} {H1 H' : Hp} {i : Nat} {d : δ} {σ2 : L2.St} (hz : ds.length ≤ 40000) (hD : H1 D = none) (hd : ds[i]? = some d) (ex : Ex H1 H') {acc : List V} (ha : H' D = some (.lst acc))
    (hf : Fa (fun x d => R D d x H') acc (ds.take i)) (he : EvP te σ2 H' (R D d)) :
    te σ2 H' fun y H4 => ∃ acc, H4 D = some (.lst acc) ∧ acc.length < sizeLine ∧ (Ex H1 (upd H4 D (.lst (acc ++ [y]))) ∧ ∃ acc', upd H4 D (.lst (acc ++ [y])) D = some (.lst acc') ∧ Fa (fun x d => R D d x (upd H4 D (.lst (acc ++ [y])))) acc' (ds.take (i + 1))) := by
  refine he H' (Ex.refl _) _ fun y H4 e4 hR => ?_
  refine ⟨acc, e4 _ _ ha, ?_, Ex.mut (ex.trans e4) hD, acc ++ [y], upd_same, ?_⟩
  · have h1 := hf.length
    rw [List.length_take] at h1
    exact sz_lt (by omega)
  · rw [List.take_add_one, hd]
    exact Fa.snoc (R := fun x d => R D d x (upd H4 D (.lst (acc ++ [y])))) (st _ _ _ _ _ hR Kx.upd) (hf.mono fun x d' q => st _ _ _ _ _ q ((Kx.of e4).trans Kx.upd))
theorem lcr_tup {R : Addr → δ → V → Hp → Prop} (st : Stab R) {ds : List δ} {a : Addr} {xs : List V} {j : Nat} {vs : List Nat} (h : Ev tl σ H (.ref a)) (hx : SqT K H a xs) (hn : xs.length = ds.length) (hz : ds.length ≤ 40000)
    (hw : ∀ x, wipe ((wipe σ vs).set j (some x)) vs = wipe σ vs)
    (he : ∀ (i : Nat) x d D H1, Ex H H1 → (∃ acc, H1 D = some (.lst acc)) → xs[i]? = some x → ds[i]? = some d → EvP te ((wipe σ vs).set j (some x)) H1 (R D d)) : EvLR (tLc (iTup K tl) (gName j) tYes te vs) σ H R ds := fun H0 e Q q => h H0 e _ fun H1 e1 =>
  ⟨a, rfl, ⟨xs, ex_t (e.trans e1) hx⟩, fun D hD => lc_tup (xs := xs) (fun i H' => Ex H1 H' ∧ ∃ acc, H' D = some (.lst acc) ∧ Fa (fun x d => R D d x H') acc (ds.take i)) ⟨Ex.new hD, [], upd_same, .nil⟩ (fun i H' _ p => ex_t ((e.trans e1).trans p.1) hx)
    (fun i x H' hi p => by
      refine ⟨hw x, yes_go ?_⟩
      obtain ⟨p1, acc, p2, p3⟩ := p
      have hil : i < ds.length := by rw [← hn]; exact (List.getElem?_eq_some_iff.mp hi).1
      have hd := List.getElem?_eq_getElem hil
      exact lcr_turn st hz hD hd p1 p2 p3 (he i x _ D H' ((e.trans e1).trans p1) ⟨acc, p2⟩ hi hd))
    (fun H' p => by
      obtain ⟨p1, acc, p2, p3⟩ := p
      rw [hn, List.take_length] at p3
      exact q D acc H' (fresh_back e1 hD) (e1.trans p1) p2 p3)⟩
theorem lcr_lst {R : Addr → δ → V → Hp → Prop} (st : Stab R) {ds : List δ} {a : Addr} {xs : List V} {j : Nat} {vs : List Nat} (h : Ev tl σ H (.ref a)) (hx : SqL K H a xs) (hn : xs.length = ds.length) (hz : ds.length ≤ 40000)
    (hw : ∀ x, wipe ((wipe σ vs).set j (some x)) vs = wipe σ vs)
    (he : ∀ (i : Nat) x d D H1, Ex H H1 → (∃ acc, H1 D = some (.lst acc)) → xs[i]? = some x → ds[i]? = some d → EvP te ((wipe σ vs).set j (some x)) H1 (R D d)) : EvLR (tLc (iList K tl) (gName j) tYes te vs) σ H R ds := fun H0 e Q q => h H0 e _ fun H1 e1 =>
  ⟨a, rfl, ⟨xs, ex_l (e.trans e1) hx⟩, fun D hD => lc_list (xs := xs) (fun i H' => Ex H1 H' ∧ ∃ acc, H' D = some (.lst acc) ∧ Fa (fun x d => R D d x H') acc (ds.take i)) ⟨Ex.new hD, [], upd_same, .nil⟩ (fun i H' _ p => ex_l ((e.trans e1).trans p.1) hx)
    (fun i x H' hi p => by
      refine ⟨hw x, yes_go ?_⟩
      obtain ⟨p1, acc, p2, p3⟩ := p
      have hil : i < ds.length := by rw [← hn]; exact (List.getElem?_eq_some_iff.mp hi).1
      have hd := List.getElem?_eq_getElem hil
      exact lcr_turn st hz hD hd p1 p2 p3 (he i x _ D H' ((e.trans e1).trans p1) ⟨acc, p2⟩ hi hd))
    (fun H' p => by
      obtain ⟨p1, acc, p2, p3⟩ := p
      rw [hn, List.take_length] at p3
      exact q D acc H' (fresh_back e1 hD) (e1.trans p1) p2 p3)⟩
theorem lcr_rng {R : Addr → δ → V → Hp → Prop} (st : Stab R) {ds : List δ} {ta : TA} {j : Nat} {vs : List Nat} {n : Nat} (h : EvA ta σ H [vi n]) (hn : n = ds.length) (hz : ds.length ≤ 40000)
    (hw : ∀ x, wipe ((wipe σ vs).set j (some x)) vs = wipe σ vs)
    (he : ∀ (i : Nat) d D H1, Ex H H1 → (∃ acc, H1 D = some (.lst acc)) → ds[i]? = some d → EvP te ((wipe σ vs).set j (some (vi i))) H1 (R D d)) : EvLR (tLc (iRng1 ta) (gName j) tYes te vs) σ H R ds := fun H0 e Q q => h H0 e _ fun H1 e1 =>
  ⟨(n : Int), rfl, by omega, by omega, fun D hD => lc_range (lo := 0) (n := (n : Int).toNat) (fun i H' => Ex H1 H' ∧ ∃ acc, H' D = some (.lst acc) ∧ Fa (fun x d => R D d x H') acc (ds.take i)) ⟨Ex.new hD, [], upd_same, .nil⟩
    (fun i H' hi p => by
      have e0 : (0 : Int) + (i : Int) = (i : Int) := Int.zero_add _
      rw [e0]
      refine ⟨hw _, yes_go ?_⟩
      obtain ⟨p1, acc, p2, p3⟩ := p
      have hil : i < ds.length := by omega
      have hd := List.getElem?_eq_getElem hil
      exact lcr_turn st hz hD hd p1 p2 p3 (he i _ D H' ((e.trans e1).trans p1) ⟨acc, p2⟩ hd))
    (fun H' p => by
      obtain ⟨p1, acc, p2, p3⟩ := p
      rw [Int.toNat_natCast, hn, List.take_length] at p3
      exact q D acc H' (fresh_back e1 hD) (e1.trans p1) p2 p3)⟩
theorem stab_eq {f : δ → V} : Stab (fun (_ : Addr) d x (_ : Hp) => x = f d) := fun _ _ _ _ _ h _ => h
theorem fa_map {f : δ → V} : ∀ {xs : List V} {ds : List δ}, Fa (fun x d => x = f d) xs ds → xs = ds.map f
  | _, _, .nil => rfl
  | _, _, .cons r t => by rw [List.map_cons, r, fa_map t]
theorem evl_of {f : δ → V} {ds : List δ} (h : EvLR te σ H (fun _ d x _ => x = f d) ds) : EvL te σ H (ds.map f) := fun H1 e Q q => h H1 e Q fun D xs H2 hD e2 h2 hf => q D H2 hD e2 (by rw [h2, fa_map hf])

/-- rows: new tuples of numbers -/
def Rw (D : Addr) (row : List Nat) (x : V) (H : Hp) : Prop := ∃ p, x = .ref p ∧ H p = some (.tup (row.map vi)) ∧ p ≠ D
theorem stab_rw : Stab Rw := fun D d x H H' ⟨p, h1, h2, h3⟩ k => ⟨p, h1, k p _ h3 h2, h3⟩
theorem fa_refs {D : Addr} {H : Hp} : ∀ {xs : List V} {ds : List (List Nat)}, Fa (fun x d => Rw D d x H) xs ds → ∃ rs : List Addr, xs = rs.map V.ref ∧ Fa (fun r row => H r = some (.tup (row.map vi))) rs ds
  | _, _, .nil => ⟨[], rfl, .nil⟩
  | _, _, .cons ⟨p, h1, h2, _⟩ t => by
    obtain ⟨rs, e, f⟩ := fa_refs t
    exact ⟨p :: rs, by rw [List.map_cons, h1, e], .cons h2 f⟩

/-- tuple(xs) of a new list -/
def rTupO (K : PySem.W.Frag) : List V → Hp → VK → Prop := fun xs H Q => ∃ p ys, xs = [.ref p] ∧ ((SqL K H p ys ∧ ∀ l, H l = none → Q (.ref l) (upd H l (.tup ys))) ∨ (SqT K H p ys ∧ Q (.ref p) H))
theorem eu_tupL {xs : List V} (h : EvL te σ H xs) : EvU (tCB (rTupO K) (tCons te tNil)) σ H xs := fun H1 e Q q =>
  h H1 e _ fun D H2 hD e2 h2 => ⟨D, xs, rfl, .inl ⟨sq_of h2, fun l hl => q l _ (fresh_back e2 hl) (e2.trans (Ex.new hl)) upd_same⟩⟩
theorem eu_tupV {xs : List V} {a : Addr} (h : Ev te σ H (.ref a)) (hx : SqL K H a xs) : EvU (tCB (rTupO K) (tCons te tNil)) σ H xs := fun H1 e Q q =>
  h H1 e _ fun H2 e2 => ⟨a, xs, rfl, .inl ⟨ex_l (e.trans e2) hx, fun l hl => q l _ (fresh_back e2 hl) (e2.trans (Ex.new hl)) upd_same⟩⟩
/-- tuple([row, ..]) -/
def RowsAt (ds : List (List Nat)) (x : V) (H : Hp) : Prop := ∃ (p : Addr) (rs : List Addr), x = .ref p ∧ H p = some (.tup (rs.map V.ref)) ∧ Fa (fun r row => H r = some (.tup (row.map vi))) rs ds
theorem RowsAt.ex {ds : List (List Nat)} {x : V} {H H' : Hp} (e : Ex H H') (h : RowsAt ds x H) : RowsAt ds x H' := by
  obtain ⟨p, rs, h1, h2, h3⟩ := h
  exact ⟨p, rs, h1, e _ _ h2, h3.mono fun _ _ q => e _ _ q⟩
theorem evp_rows {ds : List (List Nat)} (h : EvLR te σ H Rw ds) : EvP (tCB (rTupO K) (tCons te tNil)) σ H (RowsAt ds) := fun H1 e Q q =>
  h H1 e _ fun D xs H2 hD e2 h2 hf => by
    obtain ⟨rs, e3, f⟩ := fa_refs hf
    refine ⟨D, xs, rfl, .inl ⟨sq_of h2, fun l hl => q _ _ (e2.trans (Ex.new hl)) ⟨l, rs, rfl, by rw [upd_same, e3], f.mono fun r row z => ?_⟩⟩⟩
    exact Ex.new hl _ _ z
/-- a new tuple as a row -/
theorem evp_row {row : List Nat} {D : Addr} (h : EvU te σ H (row.map vi)) (hD : ∃ acc, H D = some (.lst acc)) : EvP te σ H (Rw D row) := fun H1 e Q q =>
  h H1 e Q fun p H2 hp e2 h2 => by
    obtain ⟨acc, hD⟩ := hD
    exact q _ H2 e2 ⟨p, rfl, h2, fun z => by rw [z, e _ _ hD] at hp; cases hp⟩

/-- list displays of any kind -/
theorem s_asgP {D : Ends} {i : Nat} {P : V → Hp → Prop} (h : EvP te σ H P) (k : ∀ v H1, Ex H H1 → P v H1 → D.nx (σ.set i (some v)) H1) : tAsg te (gName i) D σ H := h H (Ex.refl H) _ k
theorem s_retP {D : Ends} {P : V → Hp → Prop} (h : EvP te σ H P) (k : ∀ v H1, Ex H H1 → P v H1 → D.rt v H1) : tRet te D σ H := h H (Ex.refl H) _ k
end

/-! ### for i, x in enumerate(t) -/
theorem s_forE {K : PySem.W.Frag} {σ : L2.St} {H : Hp} {ta : TA} {a : Addr} {xs : List V} {g : TG} {tb : TS} {D : Ends} (h : EvA ta σ H [.ref a]) (hx : SqT K H a xs) (Pv : Nat → L2.St → Hp → Prop) (h0 : ∀ H1, Ex H H1 → Pv 0 σ H1)
    (hl : ∀ n σ1 H1, Pv n σ1 H1 → SqT K H1 a xs)
    (hs : ∀ (n : Nat) x σ1 H1 T, xs[n]? = some x → Pv n σ1 H1 → H1 T = none → g (.ref T) σ1 (upd H1 T (.tup [vi n, x])) fun σ2 H2 => tb { D with nx := Pv (n + 1), ct := Pv (n + 1), bk := D.nx } σ2 H2)
    (hd : ∀ σ1 H1, Pv xs.length σ1 H1 → D.nx σ1 H1) : tFor (iEnT K ta) g tb D σ H := h H (Ex.refl H) _ fun H1 e1 => by
  refine ⟨a, xs, rfl, ex_t e1 hx, fun n m σ1 H2 => n + m = xs.length ∧ Pv n σ1 H2, ⟨xs.length, Nat.zero_add _, h0 H1 e1⟩, fun n m σ1 H2 ⟨hm, p⟩ => ?_⟩
  have hsq := hl n σ1 H2 p
  cases m with
  | zero =>
    have en : xs.length = n := hm.symm
    refine .inl ⟨⟨xs, hsq, en⟩, hd σ1 H2 ?_⟩
    rw [en]
    exact p
  | succ m =>
    have hn : n < xs.length := by omega
    have hx2 := List.getElem?_eq_getElem hn
    refine .inr ⟨⟨xs, _, hsq, hx2⟩, Pv (n + 1), fun σ2 H3 p2 => ⟨m, Nat.lt_succ_self m, by omega, p2⟩, ?_⟩
    rintro _ _ ⟨T, z, rfl, nT, rfl, told⟩
    have ez : z = xs[n] := by
      have := told xs hsq
      rw [hx2] at this
      exact (Option.some.inj this).symm
    rw [ez]
    exact hs n _ σ1 H2 T hx2 p nT
end Mae

namespace Mae
open PySem PySem.Spec PyProof.Rows L2 Evl

theorem scSearch : FnScope ["first", "second", "state", "other", "rows", "seen", "at", "word", "letter", "pair"] ["first", "second", "state", "other"] (defScope sSearch) := ⟨rfl, rfl, rfl, by decide +kernel, rfl, by decide +kernel, by decide +kernel⟩

/-! ### the rows and the pairs of the search in the heap -/
def pk (x : Row) : List Key × V := ([Sum.inl (x.1 : Int), Sum.inl (x.2.1 : Int)], V.bl true)
structure SH (H0 H : Hp) (r d : Addr) (rows : List Row) (refs : List Addr) : Prop where
  ex : Ex H0 H
  fr : H0 r = none
  fd : H0 d = none
  hr : H r = some (.lst (refs.map V.ref))
  hd : H d = some (.dT (rows.map pk))
  each : Fa (fun q (x : Row) => ∃ u, H q = some (.tup [vi x.1, vi x.2.1, .ref u]) ∧ H u = some (.lst (x.2.2.map vi)) ∧ H0 u = none) refs rows
  ne : rows ≠ []
theorem pk_key {x y s t : Nat} : ([Sum.inl (x : Int), Sum.inl (y : Int)] : List Key) = [Sum.inl (s : Int), Sum.inl (t : Int)] ↔ x = s ∧ y = t := by
  constructor
  · intro h
    injection h with h1 h2
    injection h2 with h2 _
    exact ⟨Int.ofNat.inj (Sum.inl.inj h1), Int.ofNat.inj (Sum.inl.inj h2)⟩
  · rintro ⟨rfl, rfl⟩
    rfl
theorem seen_val (s t : Nat) : ∀ rows : List Row, (valV (rows.map pk) [Sum.inl (s : Int), Sum.inl (t : Int)]).isSome = true ↔ (s, t) ∈ rows.map fun r => (r.1, r.2.1)
  | [] => by simp [valV]
  | x :: rows => by
    have ih := seen_val s t rows
    rw [List.map_cons, List.map_cons, List.mem_cons]
    by_cases e : x.1 = s ∧ x.2.1 = t
    · have e2 : (pk x).1 = [Sum.inl (s : Int), Sum.inl (t : Int)] := pk_key.mpr e
      rw [valV_pos e2]
      exact ⟨fun _ => .inl (Prod.ext e.1.symm e.2.symm), fun _ => rfl⟩
    · have e2 : ¬ (pk x).1 = [Sum.inl (s : Int), Sum.inl (t : Int)] := fun z => e (pk_key.mp z)
      rw [valV_neg e2, ih]
      constructor
      · exact .inr
      · rintro (h | h)
        · simp only [Prod.mk.injEq] at h
          exact absurd ⟨h.1.symm, h.2.symm⟩ e
        · exact h
section
variable {H0 H H' : Hp} {r d : Addr} {rows : List Row} {refs : List Addr}
theorem SH.mono (S : SH H0 H r d rows refs) (e : Ex H H') : SH H0 H' r d rows refs :=
  ⟨S.ex.trans e, S.fr, S.fd, e _ _ S.hr, e _ _ S.hd, S.each.mono fun _ _ ⟨u, h1, h2, h3⟩ => ⟨u, e _ _ h1, e _ _ h2, h3⟩, S.ne⟩
theorem SH.word_ne (S : SH H0 H r d rows refs) {u : Addr} {ns : List Nat} (h : H u = some (.lst (ns.map vi))) : u ≠ r := fun z => by
  have hr := S.hr
  rw [← z, h] at hr
  have e : ns.map vi = refs.map V.ref := by
    injection hr with hr
    injection hr
  have hl := S.each.length
  cases refs with
  | nil =>
    have : rows.length = 0 := by rw [← hl]; rfl
    exact S.ne (List.eq_nil_of_length_eq_zero this)
  | cons q refs =>
    cases ns with
    | nil => simp at e
    | cons n ns =>
      rw [List.map_cons, List.map_cons] at e
      injection e with e _
      cases e
theorem SH.grow (S : SH H0 H r d rows refs) {H3 : Hp} {x y : Nat} {w' : List Nat} {q u : Addr} (e : Ex (upd H d (.dT ((rows ++ [(x, y, w')]).map pk))) H3) (hq : H3 q = some (.tup [vi x, vi y, .ref u])) (hu : H3 u = some (.lst (w'.map vi)))
    (nu : H u = none) (nq : H q = none) : SH H0 (upd H3 r (.lst ((refs ++ [q]).map V.ref))) r d (rows ++ [(x, y, w')]) (refs ++ [q]) := by
  have ner : d ≠ r := ne_of S.hd S.hr (fun z => nomatch z)
  have e0 : Ex H0 H3 := (Ex.mut S.ex S.fd).trans e
  refine ⟨Ex.mut e0 S.fr, S.fr, S.fd, upd_same, ?_, ?_, by simp⟩
  · rw [upd_ne ner]
    exact e _ _ upd_same
  · have qr : q ≠ r := fun z => by rw [z, S.hr] at nq; cases nq
    have ur : u ≠ r := fun z => by rw [z, S.hr] at nu; cases nu
    refine Fa.snoc ⟨u, by rw [upd_ne qr]; exact hq, by rw [upd_ne ur]; exact hu, fresh_back S.ex nu⟩ (S.each.mono fun q0 x0 ⟨u0, h1, h2, h3⟩ => ⟨u0, ?_, ?_, h3⟩)
    · have n1 : q0 ≠ d := ne_of h1 S.hd (fun z => nomatch z)
      have n2 : q0 ≠ r := ne_of h1 S.hr (fun z => nomatch z)
      rw [upd_ne n2]
      exact e _ _ (by rw [upd_ne n1]; exact h1)
    · have n1 : u0 ≠ d := ne_of h2 S.hd (fun z => nomatch z)
      have n2 : u0 ≠ r := S.word_ne h2
      rw [upd_ne n2]
      exact e _ _ (by rw [upd_ne n1]; exact h2)
end
theorem some_none {o : HO} {H : Hp} {p q : Addr} (h : H p = some o) (h' : H q = none) : p ≠ q := ne_of_none h h'

section
variable {P : Program} {w : World} {K : PySem.W.Frag} {mg : Str → Option Value} {base : Heap}
/-- the first difference of two machines from two states, or None -/
def spSearch (K : PySem.W.Frag) : Sp := fun vs H Q _ => ∃ (a b : Addr) (A B : Mach) (s t : Nat), vs = [.ref a, .ref b, vi s, vi t] ∧ MAt K H a A ∧ MAt K H b B ∧ A.Ok ∧ B.Ok ∧ A.k = B.k ∧ s < A.n ∧ t < B.n ∧
  ((two A B s t).Same → ∀ H', Ex H H' → Q .non H') ∧ ∀ u p H', (two A B s t).First u → Ex H H' → H p = none → H' p = some (.lst (u.map vi)) → Q (.ref p) H'

theorem ok_search {f : Addr} {fd : FuncData} {k : Nat} (F : Fun K "search" "search" sSearch f fd) (ml : mg "len" = none) (mr : mg "range" = none) : FnOk P w K mg base CX0 (k + 1) f fd ["first", "second", "state", "other"] (spSearch K) := by
  refine F.ok scSearch (fun vs H Q E h => ?_) (fun cdv A outer s H vs Q E hr h => ?_)
  · obtain ⟨a, b, A, B, s, t, rfl, _⟩ := h
    rfl
  · obtain ⟨a, b, A, B, s0, t0, rfl, hA, hB, OA, OB, hk, hs, ht, q1, q2⟩ := h
    have hu := hr.units
    refine ⟨_, pss_cons (ps_set (i := 4) scSearch.nd rfl (.inl rfl) (pe_lst (pa_cons (pe_tup (pa_cons (pv 2) (pa_cons (pv 3) (pa_cons (pe_lst pa_nil) pa_nil)))) pa_nil)))
      (pss_cons (ps_set (i := 5) scSearch.nd rfl (.inl rfl) (pe_disp1 hu (pe_tup (pa_cons (pv 2) (pa_cons (pv 3) pa_nil))) pe_bl))
      (pss_cons (ps_set (i := 6) scSearch.nd rfl (.inl rfl) pe_int)
      (pss_cons (ps_while PassesOwn.never (pt_cmpR op_lt (pv 6) (pe_callB call_len_seq (by rfl) ml PySem.boot_len (pa_cons (pv 4) pa_nil)) (nomark _))
        (pss_cons (ps_asg (pe_ix ix_list (pv 4) (pv 6) (fun _ _ => rfl)) (pg_tup rfl (pgs_cons (pg_name (i := 2) scSearch.nd rfl (.inl rfl)) (pgs_cons (pg_name (i := 3) scSearch.nd rfl (.inl rfl)) (pgs_cons (pg_name (i := 7) scSearch.nd rfl (.inl rfl)) pgs_nil)))))
        (pss_cons (ps_if (pt_cmpR op_ne (pe_ix ix_tup (pe_ix ix_tup (pv 0) pe_int (fun _ _ => rfl)) (pv 2) (fun _ _ => rfl)) (pe_ix ix_tup (pe_ix ix_tup (pv 1) pe_int (fun _ _ => rfl)) (pv 3) (fun _ _ => rfl)) (nomark _))
          (pss_one (ps_ret (pv 7))) pss_nil)
        (pss_cons (ps_for PassesOwn.never rfl (pi_range1 (by rfl) mr (pa_cons (pe_ix ix_tup (pv 0) pe_int (fun _ _ => rfl)) pa_nil)) (pg_name (i := 8) scSearch.nd rfl (.inl rfl))
          (pss_cons (ps_set (i := 9) scSearch.nd rfl (.inl rfl) (pe_tup (pa_cons (pe_ix ix_tup (pe_ix ix_tup (pe_ix ix_tup (pv 0) pe_int (fun _ _ => rfl)) (pv 2) (fun _ _ => rfl)) (pv 8) (fun _ _ => rfl))
              (pa_cons (pe_ix ix_tup (pe_ix ix_tup (pe_ix ix_tup (pv 1) pe_int (fun _ _ => rfl)) (pv 3) (fun _ _ => rfl)) (pv 8) (fun _ _ => rfl)) pa_nil))))
          (pss_one (ps_if (pt_cmp (pc_dnotin (hu_of hr) (pv 9) (pv 5)))
            (pss_cons (ps_dput (hu_of hr) (pv 5) (pv 9) pe_bl rfl)
            (pss_one (ps_expr (pe_bm PySem.F.plainAttrs_list PySem.F.slot_list_append PySem.F.type_list_append mt_append (pv 4)
              (pa_cons (pe_tup (pa_cons (pe_ix ix_tup (pv 9) pe_int (fun _ _ => rfl)) (pa_cons (pe_ix ix_tup (pv 9) pe_int (fun _ _ => rfl)) (pa_cons (pe_op op_cat (pv 7) (pe_lst (pa_cons (pv 8) pa_nil))) pa_nil)))) pa_nil)))))
            pss_nil))))
        (pss_one (ps_aug (i := 6) scSearch.nd rfl (.inl rfl) pe_int ip_add))))))
      (pss_one (ps_ret pe_non))))), ?_⟩
    -- rows = [(state, other, [])]
    refine ⟨vi s0, rfl, vi t0, rfl, Nat.zero_le _, fun u nu => ⟨by show 3 ≤ sizeLine; decide, fun q nq => ⟨by show 1 ≤ sizeLine; decide, fun r nr => ?_⟩⟩⟩
    -- seen = {(state, other): True}
    refine fun d nd => ⟨vi s0, rfl, vi t0, rfl, by show 2 ≤ sizeLine; decide, fun kq nkq => ?_⟩
    have dkq : d ≠ kq := fun z => by
      rw [← z, upd_same] at nkq
      cases nkq
    refine ⟨by rw [upd_ne dkq, upd_same], [Sum.inl (s0 : Int), Sum.inl (t0 : Int)], kq, rfl, upd_same, ?_⟩
    -- the heap ahead of the loop
    have hA1 : ∀ x o, H x = some o → x ≠ u := fun x o hx => some_none hx nu
    have start0 : SH H (upd (upd (upd (upd (upd (upd H u (.lst [])) q (.tup [vi s0, vi t0, .ref u])) r (.lst [.ref q])) d (.dT [])) kq (.tup [vi s0, vi t0])) d (.dT [([Sum.inl (s0 : Int), Sum.inl (t0 : Int)], .bl true)])) r d [(s0, t0, [])] [q] := by
      have uq : u ≠ q := fun z => by rw [← z, upd_same] at nq; cases nq
      have ur : u ≠ r := fun z => by rw [← z, upd_ne uq, upd_same] at nr; cases nr
      have qr : q ≠ r := fun z => by rw [← z, upd_same] at nr; cases nr
      have rd : r ≠ d := fun z => by rw [← z, upd_same] at nd; cases nd
      have qd : q ≠ d := fun z => by rw [← z, upd_ne qr, upd_same] at nd; cases nd
      have ud : u ≠ d := fun z => by rw [← z, upd_ne ur, upd_ne uq, upd_same] at nd; cases nd
      have rk : r ≠ kq := fun z => by rw [← z, upd_ne rd, upd_same] at nkq; cases nkq
      have qk : q ≠ kq := fun z => by rw [← z, upd_ne qd, upd_ne qr, upd_same] at nkq; cases nkq
      have uk : u ≠ kq := fun z => by rw [← z, upd_ne ud, upd_ne ur, upd_ne uq, upd_same] at nkq; cases nkq
      have e1 : Ex H (upd H u (.lst [])) := Ex.new nu
      have e2 := e1.trans (Ex.new (o := .tup [vi s0, vi t0, .ref u]) nq)
      have e3 := e2.trans (Ex.new (o := .lst [.ref q]) nr)
      have e4 := e3.trans (Ex.new (o := .dT []) nd)
      have e5 := e4.trans (Ex.new (o := .tup [vi s0, vi t0]) nkq)
      have fr : H r = none := fresh_back e2 nr
      have fd : H d = none := fresh_back e3 nd
      refine ⟨Ex.mut e5 fd, fr, fd, ?_, upd_same, .cons ⟨u, ?_, ?_, nu⟩ .nil, by simp⟩
      · rw [upd_ne rd, upd_ne rk, upd_ne rd, upd_same]; rfl
      · rw [upd_ne qd, upd_ne qk, upd_ne qd, upd_ne qr, upd_same]
      · rw [upd_ne ud, upd_ne uk, upd_ne ud, upd_ne ur, upd_ne uq, upd_same]; rfl
    -- the loop
    refine ⟨fun m σ' H' => ∃ (rows : List Row) (refs : List Addr) (p : Nat) (y2 y3 : V) (y7 y8 y9 : Option V), σ' = [some (.ref a), some (.ref b), some y2, some y3, some (.ref r), some (.ref d), some (vi p), y7, y8, y9] ∧
        SI (two A B s0 t0) A.n B.n rows p 0 ∧ SH H H' r d rows refs ∧ m = 1000 - p,
      ⟨1000, [(s0, t0, [])], [q], 0, vi s0, vi t0, none, none, none, rfl, SI.start hs ht, start0, rfl⟩, ?_⟩
    rintro m σ' H1 ⟨rows, refs, p, y2, y3, y7, y8, y9, rfl, I, S, rfl⟩
    have hrl : refs.length = rows.length := S.each.length
    have hsz : rows.length ≤ 900 := by
      have h1 := I.size
      have h2 := Nat.mul_le_mul OA.nm OB.nm
      omega
    have hpl := I.le
    refine ⟨vi p, rfl, .ref r, rfl, r, _, rfl, .inl (sq_of S.hr), _, _, rfl, rfl, _, rfl, ite2 (fun e => ?_) (fun e => ?_)⟩
    · have hp : p < rows.length := by
        have h1 := of_decide_eq_true e
        rw [List.length_map, hrl] at h1
        omega
      obtain ⟨⟨s, t, wd⟩, hrow⟩ : ∃ x, rows[p]? = some x := ⟨_, List.getElem?_eq_getElem hp⟩
      obtain ⟨q0, hq0, u0, hq, hu0, fu0⟩ := S.each.get2 hrow
      obtain ⟨hsn, htn, hvw, hr1, hr2⟩ := I.row p s t wd hrow
      have hA1 : MAt K H1 a A := hA.ex S.ex
      have hB1 : MAt K H1 b B := hB.ex S.ex
      refine ⟨fun σ' H' => ∃ (rows : List Row) (refs : List Addr) (p' : Nat) (y2 y3 : V) (y7 y8 y9 : Option V), σ' = [some (.ref a), some (.ref b), some y2, some y3, some (.ref r), some (.ref d), some (vi p'), y7, y8, y9] ∧
          SI (two A B s0 t0) A.n B.n rows p' 0 ∧ SH H H' r d rows refs ∧ p' = p + 1, ?_, ?_⟩
      · rintro σ2 H2 ⟨rows2, refs2, p2, z2, z3, z7, z8, z9, e1, I2, S2, e2⟩
        exact ⟨1000 - p2, by omega, rows2, refs2, p2, z2, z3, z7, z8, z9, e1, I2, S2, rfl⟩
      -- state, other, word = rows[at]
      refine ⟨.ref r, rfl, vi p, rfl, r, _, _, .ref q0, rfl, rfl, sq_of S.hr, atI_nat (j := p) (by rw [List.getElem?_map, hq0]; rfl), ?_⟩
      refine ⟨q0, [vi s, vi t, .ref u0], rfl, st_of hq, rfl, vi s, _, rfl, vi t, _, rfl, .ref u0, [], rfl, rfl, ?_⟩
      -- if first[3][state] != second[3][other]
      refine s_if (et_test (ev_op (ev_outp OA hA1 (ev_var rfl) (ev_var rfl) hsn) (ev_outp OB hB1 (ev_var rfl) (ev_var rfl) htn) (rv_ne rfl))) (fun e2 H2 x2 => ?_) (fun e2 H2 x2 => ?_)
      · have hne : A.v s ≠ B.v t := fun z => by
          rw [z] at e2
          simp at e2
        exact ⟨.ref u0, rfl, q2 wd u0 H2 (I.found OA.kp hrow hne) (S.ex.trans x2) fu0 (x2 _ _ hu0)⟩
      · have heq : A.v s = B.v t := by
          have e3 : decide (vi (A.v s) = vi (B.v t)) = true := by simpa using e2
          have e4 := of_decide_eq_true e3
          injection e4 with e4
          exact Int.ofNat.inj e4
        have S2 := S.mono x2
        have hA2 : MAt K H2 a A := hA1.ex x2
        have hB2 : MAt K H2 b B := hB1.ex x2
        -- for letter in range(first[0])
        refine s_forR1 (ea_cons (ev_k hA2 (ev_var rfl)) ea_nil) ⟨by omega, by have := OA.km; omega⟩
          (fun i σ' H' => ∃ (rows : List Row) (refs : List Addr) (y8 y9 : Option V), σ' = [some (.ref a), some (.ref b), some (vi s), some (vi t), some (.ref r), some (.ref d), some (vi p), some (.ref u0), y8, y9] ∧
            SI (two A B s0 t0) A.n B.n rows p i ∧ SH H H' r d rows refs ∧ rows[p]? = some (s, t, wd) ∧ H' u0 = some (.lst (wd.map vi)))
          (fun H3 x3 => ⟨rows, refs, y8, y9, rfl, I, S2.mono x3, hrow, x3 _ _ (x2 _ _ hu0)⟩) ?_ ?_
        · rintro i σ' H3 hi ⟨rows3, refs3, z8, z9, rfl, I3, S3, hrow3, hu3⟩
          have hik : i < A.k := by omega
          have hikB : i < B.k := by omega
          have hA3 : MAt K H3 a A := hA.ex S3.ex
          have hB3 : MAt K H3 b B := hB.ex S3.ex
          -- pair = (first[2][state][letter], second[2][other][letter])
          refine s_asgU (eu_tup (ea_cons (ev_step OA hA3 (ev_var rfl) (ev_var rfl) hsn (ev_var rfl) hik) (ea_cons (ev_step OB hB3 (ev_var rfl) (ev_var rfl) htn (ev_var rfl) hikB) ea_nil)) (by show 2 ≤ 100000; omega)) fun pr H4 npr x4 hpr => ?_
          have S4 := S3.mono x4
          have hu4 := x4 _ _ hu3
          have hsz3 : rows3.length ≤ 900 := by
            have h1 := I3.size
            have h2 := Nat.mul_le_mul OA.nm OB.nm
            omega
          have line : 1000 < sizeLine := by decide
          -- if pair not in seen
          refine ⟨.ref pr, rfl, .ref d, rfl, d, _, rfl, DGet.t (k := [Sum.inl (A.d s i : Int), Sum.inl (B.d t i : Int)]) S4.hd hpr, _, rfl, ite2 (fun e3 => ?_) (fun e3 => ?_)⟩
          · have hnew : ((two A B s0 t0).d1 s i, (two A B s0 t0).d2 t i) ∉ rows3.map (fun r => (r.1, r.2.1)) := fun z => by
              have := (seen_val (A.d s i) (B.d t i) rows3).mpr z
              rw [this] at e3
              cases e3
            have hnone : valV (rows3.map pk) [Sum.inl (A.d s i : Int), Sum.inl (B.d t i : Int)] = none := by
              cases hv : valV (rows3.map pk) [Sum.inl (A.d s i : Int), Sum.inl (B.d t i : Int)] with
              | none => rfl
              | some z => rw [hv] at e3; cases e3
            have I5 := I3.add OA.closed (by have c := OB.closed; rw [← hk] at c; exact c) hrow3 hik hnew
            -- seen[pair] = True
            refine ⟨.ref d, rfl, .ref pr, rfl, d, _, rfl, DPut.t (k := [Sum.inl (A.d s i : Int), Sum.inl (B.d t i : Int)]) S4.hd hpr (by rw [List.length_map]; omega), ?_⟩
            rw [putK_new _ hnone]
            have eput : rows3.map pk ++ [([Sum.inl (A.d s i : Int), Sum.inl (B.d t i : Int)], V.bl true)] = (rows3 ++ [(A.d s i, B.d t i, wd ++ [i])]).map pk := by
              rw [List.map_append]; rfl
            rw [eput]
            generalize hH5 : upd H4 d (.dT ((rows3 ++ [(A.d s i, B.d t i, wd ++ [i])]).map pk)) = H5
            have ned : r ≠ d := ne_of S4.hr S4.hd (fun z => nomatch z)
            have hr5 : H5 r = some (.lst (refs3.map V.ref)) := by rw [← hH5, upd_ne ned]; exact S4.hr
            have hpr5 : H5 pr = some (.tup [vi (A.d s i), vi (B.d t i)]) := by rw [← hH5, upd_ne (ne_of hpr S4.hd (fun z => nomatch z))]; exact hpr
            have hu5 : H5 u0 = some (.lst (wd.map vi)) := by rw [← hH5, upd_ne (ne_of hu4 S4.hd (fun z => nomatch z))]; exact hu4
            have hwl : wd.length ≤ 900 := by
              have h1 := I3.len _ _ _ _ hrow3
              omega
            -- rows.append((pair[0], pair[1], word + [letter]))
            refine ⟨.ref r, rfl, .inl ⟨rfl, _, sq_of hr5⟩, ?_⟩
            refine ⟨.ref pr, rfl, pr, _, _, vi (A.d s i), rfl, rfl, st_of hpr5, atI_nat (j := 0) rfl, ?_⟩
            refine ⟨.ref pr, rfl, pr, _, _, vi (B.d t i), rfl, rfl, st_of hpr5, atI_nat (j := 1) rfl, ?_⟩
            refine ⟨.ref u0, rfl, vi i, rfl, by show 1 ≤ sizeLine; decide, fun l1 nl1 => ?_⟩
            have ul : u0 ≠ l1 := some_none hu5 nl1
            refine ⟨u0, l1, wd.map vi, [vi i], rfl, rfl, by rw [upd_ne ul]; exact hu5, upd_same, by rw [List.length_map]; show wd.length + 1 ≤ sizeLine; omega, fun u1 nu1 => ?_⟩
            refine ⟨by show 3 ≤ sizeLine; decide, fun q1' nq1 => ?_⟩
            have x5 : Ex H5 (upd (upd (upd H5 l1 (.lst [vi i])) u1 (.lst (wd.map vi ++ [vi i]))) q1' (.tup [vi (A.d s i), vi (B.d t i), .ref u1])) := ((Ex.new nl1).trans (Ex.new nu1)).trans (Ex.new nq1)
            refine ⟨r, _, .ref q1', rfl, rfl, x5 _ _ hr5, ?_, ?_⟩
            · have := S4.each.length
              rw [List.length_map]
              omega
            · have n5u : H5 u1 = none := fresh_back (Ex.new nl1) nu1
              have n5q : H5 q1' = none := fresh_back ((Ex.new nl1).trans (Ex.new nu1)) nq1
              have uq : u1 ≠ q1' := fun z => by rw [← z, upd_same] at nq1; cases nq1
              have back : ∀ x, H5 x = none → H4 x = none := fun x hx => by
                by_cases hxd : x = d
                · rw [← hH5, hxd, upd_same] at hx; cases hx
                · rw [← hH5, upd_ne hxd] at hx; exact hx
              have S6 := S4.grow (x := A.d s i) (y := B.d t i) (w' := wd ++ [i]) (q := q1') (u := u1) (by rw [hH5]; exact x5) upd_same (by rw [upd_ne uq, upd_same, List.map_append]; rfl) (back _ n5u) (back _ n5q)
              rw [List.map_append] at S6
              refine ⟨_, _, some (vi i), some (.ref pr), rfl, I5, S6, ?_, ?_⟩
              · rw [List.getElem?_append_left (List.getElem?_eq_some_iff.mp hrow3).1]
                exact hrow3
              · rw [upd_ne (S4.word_ne hu4)]
                exact x5 _ _ hu5
          · have hold : ((two A B s0 t0).d1 s i, (two A B s0 t0).d2 t i) ∈ rows3.map (fun r => (r.1, r.2.1)) := by
              refine (seen_val (A.d s i) (B.d t i) rows3).mp ?_
              cases hv : (valV (rows3.map pk) [Sum.inl (A.d s i : Int), Sum.inl (B.d t i : Int)]).isSome with
              | true => rfl
              | false => rw [hv] at e3; exact absurd rfl e3
            exact ⟨rows3, refs3, some (vi i), some (.ref pr), rfl, I3.seen hrow3 hik hold, S4, hrow3, hu4⟩
        · rintro σ' H3 ⟨rows3, refs3, z8, z9, rfl, I3, S3, hrow3, hu3⟩
          have I4 := I3.next hrow3 heq
          -- at += 1
          refine ⟨vi p, rfl, (p : Int), 1, rfl, rfl, ?_⟩
          exact ⟨rows3, refs3, p + 1, vi s, vi t, some (.ref u0), z8, z9, rfl, I4, S3, rfl⟩
    · have hnone : rows[p]? = none := by
        rw [List.getElem?_eq_none_iff]
        have h1 : ¬ ((p : Int) < ((refs.map V.ref).length : Int)) := fun z => e (decide_eq_true z)
        rw [List.length_map, hrl] at h1
        omega
      exact q1 (I.none OA.kp hnone) H1 S.ex
end
end Mae

namespace Mae
open PySem PySem.Spec PyProof.Rows L2 Evl

theorem scKind : FnScope ["first", "second"] ["first", "second"] (defScope sKind) := ⟨rfl, rfl, rfl, by decide +kernel, rfl, by decide +kernel, by decide +kernel⟩
theorem scAlike : FnScope ["first", "second"] ["first", "second"] (defScope sAlike) := ⟨rfl, rfl, rfl, by decide +kernel, rfl, by decide +kernel, by decide +kernel⟩
theorem scFirst : FnScope ["first", "second", "word"] ["first", "second"] (defScope sFirst) := ⟨rfl, rfl, rfl, by decide +kernel, rfl, by decide +kernel, by decide +kernel⟩
theorem scPart : FnScope ["machine", "state", "other", "states", "word"] ["machine", "state", "other"] (defScope sPart) := ⟨rfl, rfl, rfl, by decide +kernel, rfl, by decide +kernel, by decide +kernel⟩

section
variable {P : Program} {w : World} {K : PySem.W.Frag} {mg : Str → Option Value} {base : Heap}
def spKind (K : PySem.W.Frag) : Sp := fun vs H Q _ => ∃ (a b : Addr) (A B : Mach), vs = [.ref a, .ref b] ∧ MAt K H a A ∧ MAt K H b B ∧ A.k = B.k ∧ A.o = B.o ∧ ∀ H', Ex H H' → Q .non H'
theorem ok_kind {f : Addr} {fd : FuncData} {k : Nat} (F : Fun K "check_kind" "check_kind" sKind f fd) : FnOk P w K mg base CX0 (k + 1) f fd ["first", "second"] (spKind K) := by
  refine F.ok scKind (fun vs H Q E h => ?_) (fun cdv A outer s H vs Q E hr h => ?_)
  · obtain ⟨a, b, A, B, rfl, _⟩ := h
    rfl
  · obtain ⟨a, b, A, B, rfl, hA, hB, hk, ho, q⟩ := h
    refine ⟨_, pss_one (ps_if (PW.pt (pw_or (pt_cmpR op_ne (pe_ix ix_tup (pv 0) pe_int (fun _ _ => rfl)) (pe_ix ix_tup (pv 1) pe_int (fun _ _ => rfl)) (nomark _))
        (pw_or1 (pt_cmpR op_ne (pe_ix ix_tup (pv 0) pe_int (fun _ _ => rfl)) (pe_ix ix_tup (pv 1) pe_int (fun _ _ => rfl)) (nomark _)))))
      (pss_one ps_never) pss_nil), ?_⟩
    refine s_if (et_or (et_test (ev_op (ev_k hA (ev_var rfl)) (ev_k hB (ev_var rfl)) (rv_ne rfl))) (fun _ => et_test (ev_op (ev_o hA (ev_var rfl)) (ev_o hB (ev_var rfl)) (rv_ne rfl)))) (fun e H1 x => ?_) (fun e H1 x => q H1 x)
    rw [hk, ho] at e
    simp at e

def spAlike (K : PySem.W.Frag) : Sp := fun vs H Q _ => ∃ (a b : Addr) (A B : Mach), vs = [.ref a, .ref b] ∧ MAt K H a A ∧ MAt K H b B ∧ A.Ok ∧ B.Ok ∧ A.k = B.k ∧ A.o = B.o ∧ ∀ c H', (c = true ↔ Alike A B) → Ex H H' → Q (.bl c) H'
theorem ok_alike {f fK fS : Addr} {fd fdK fdS : FuncData} {k : Nat} (F : Fun K "are_alike" "are_alike" sAlike f fd) (FK : Fun K "check_kind" "check_kind" sKind fK fdK) (FS : Fun K "search" "search" sSearch fS fdS)
    (bK : Binds K fdK ["first", "second"] []) (bS : Binds K fdS ["first", "second", "state", "other"] []) (gK : mg "check_kind" = some (.ref fK)) (gS : mg "search" = some (.ref fS)) (ml : mg "len" = none) (mr : mg "range" = none) :
    FnOk P w K mg base CX0 (k + 2) f fd ["first", "second"] (spAlike K) := by
  have GK : FnOk P w K mg base CX0 (k + 1) fK fdK ["first", "second"] (spKind K) := ok_kind FK
  have GS : FnOk P w K mg base CX0 (k + 1) fS fdS ["first", "second", "state", "other"] (spSearch K) := ok_search FS ml mr
  refine F.ok scAlike (fun vs H Q E h => ?_) (fun cdv A outer s H vs Q E hr h => ?_)
  · obtain ⟨a, b, A, B, rfl, _⟩ := h
    rfl
  · obtain ⟨a, b, A, B, rfl, hA, hB, OA, OB, hk, ho, q⟩ := h
    refine ⟨_, pss_cons (ps_expr (pe_call GK hr (by rfl) gK FK.kp bK .nil pass0 (pa_cons (pv 0) (pa_cons (pv 1) pa_nil))))
      (pss_one (ps_ret (pe_cmpR op_isN (pe_call GS hr (by rfl) gS FS.kp bS .nil pass0 (pa_cons (pv 0) (pa_cons (pv 1) (pa_cons pe_int (pa_cons pe_int pa_nil))))) pe_non (nomark _)))), ?_⟩
    refine ⟨.ref a, rfl, .ref b, rfl, a, b, A, B, rfl, hA, hB, hk, ho, fun H1 x1 => ?_⟩
    refine ⟨.ref a, rfl, .ref b, rfl, a, b, A, B, 0, 0, rfl, hA.ex x1, hB.ex x1, OA, OB, hk, OA.np, OB.np, fun hs H2 x2 => ?_, fun u p H2 hf x2 np hp => ?_⟩
    · exact ⟨rfl, q _ _ ⟨fun _ => same_alike.mp hs, fun _ => rfl⟩ (x1.trans x2)⟩
    · refine ⟨rfl, q _ _ ⟨fun z => ?_, fun z => ?_⟩ (x1.trans x2)⟩
      · cases of_decide_eq_true z
      · exact absurd (same_alike.mpr z) (First.not_same hf)

def spFirst (K : PySem.W.Frag) : Sp := fun vs H Q _ => ∃ (a b : Addr) (A B : Mach), vs = [.ref a, .ref b] ∧ MAt K H a A ∧ MAt K H b B ∧ A.Ok ∧ B.Ok ∧ A.k = B.k ∧ A.o = B.o ∧ ¬ Alike A B ∧
  ∀ u p H', (two A B 0 0).First u → Ex H H' → H p = none → H' p = some (.lst (u.map vi)) → Q (.ref p) H'
theorem ok_first {f fK fS : Addr} {fd fdK fdS : FuncData} {k : Nat} (F : Fun K "first_difference" "first_difference" sFirst f fd) (FK : Fun K "check_kind" "check_kind" sKind fK fdK) (FS : Fun K "search" "search" sSearch fS fdS)
    (bK : Binds K fdK ["first", "second"] []) (bS : Binds K fdS ["first", "second", "state", "other"] []) (gK : mg "check_kind" = some (.ref fK)) (gS : mg "search" = some (.ref fS)) (ml : mg "len" = none) (mr : mg "range" = none) :
    FnOk P w K mg base CX0 (k + 2) f fd ["first", "second"] (spFirst K) := by
  have GK : FnOk P w K mg base CX0 (k + 1) fK fdK ["first", "second"] (spKind K) := ok_kind FK
  have GS : FnOk P w K mg base CX0 (k + 1) fS fdS ["first", "second", "state", "other"] (spSearch K) := ok_search FS ml mr
  refine F.ok scFirst (fun vs H Q E h => ?_) (fun cdv A outer s H vs Q E hr h => ?_)
  · obtain ⟨a, b, A, B, rfl, _⟩ := h
    rfl
  · obtain ⟨a, b, A, B, rfl, hA, hB, OA, OB, hk, ho, hn, q⟩ := h
    refine ⟨_, pss_cons (ps_expr (pe_call GK hr (by rfl) gK FK.kp bK .nil pass0 (pa_cons (pv 0) (pa_cons (pv 1) pa_nil))))
      (pss_cons (ps_set (i := 2) scFirst.nd rfl (.inl rfl) (pe_call GS hr (by rfl) gS FS.kp bS .nil pass0 (pa_cons (pv 0) (pa_cons (pv 1) (pa_cons pe_int (pa_cons pe_int pa_nil))))))
      (pss_cons (ps_if (pt_cmpR op_isN (pv 2) pe_non (nomark _)) (pss_one ps_never) pss_nil)
      (pss_one (ps_ret (pv 2))))), ?_⟩
    refine ⟨.ref a, rfl, .ref b, rfl, a, b, A, B, rfl, hA, hB, hk, ho, fun H1 x1 => ?_⟩
    refine ⟨.ref a, rfl, .ref b, rfl, a, b, A, B, 0, 0, rfl, hA.ex x1, hB.ex x1, OA, OB, hk, OA.np, OB.np, fun hs H2 x2 => ?_, fun u p H2 hf x2 np hp => ?_⟩
    · exact absurd (same_alike.mp hs) hn
    · refine ⟨.ref p, rfl, rfl, _, rfl, ite2 (fun e => ?_) (fun e => ?_)⟩
      · cases of_decide_eq_true e
      · exact ⟨.ref p, rfl, q u p H2 hf (x1.trans x2) (fresh_back x1 np) hp⟩

def spPart (K : PySem.W.Frag) : Sp := fun vs H Q _ => ∃ (a : Addr) (A : Mach) (s t : Nat), vs = [.ref a, vi s, vi t] ∧ MAt K H a A ∧ A.Ok ∧ s < A.n ∧ t < A.n ∧ ¬ (two A A s t).Same ∧
  ∀ u p H', (two A A s t).First u → Ex H H' → H p = none → H' p = some (.lst (u.map vi)) → Q (.ref p) H'
theorem ok_part {f fS : Addr} {fd fdS : FuncData} {k : Nat} (F : Fun K "parting_word" "parting_word" sPart f fd) (FS : Fun K "search" "search" sSearch fS fdS)
    (bS : Binds K fdS ["first", "second", "state", "other"] []) (gS : mg "search" = some (.ref fS)) (ml : mg "len" = none) (mr : mg "range" = none) :
    FnOk P w K mg base CX0 (k + 2) f fd ["machine", "state", "other"] (spPart K) := by
  have GS : FnOk P w K mg base CX0 (k + 1) fS fdS ["first", "second", "state", "other"] (spSearch K) := ok_search FS ml mr
  refine F.ok scPart (fun vs H Q E h => ?_) (fun cdv A outer s H vs Q E hr h => ?_)
  · obtain ⟨a, A, s, t, rfl, _⟩ := h
    rfl
  · obtain ⟨a, A, s, t, rfl, hA, OA, hs, ht, hn, q⟩ := h
    refine ⟨_, pss_cons (ps_set (i := 3) scPart.nd rfl (.inl rfl) (pe_callB call_len_seq (by rfl) ml PySem.boot_len (pa_cons (pe_ix ix_tup (pv 0) pe_int (fun _ _ => rfl)) pa_nil)))
      (pss_cons (ps_if (PW.pt (pw_or (pt_not (pt_chain op_le op_lt pe_int (pv 1) (pv 3))) (pw_or1 (pt_not (pt_chain op_le op_lt pe_int (pv 2) (pv 3)))))) (pss_one ps_never) pss_nil)
      (pss_cons (ps_set (i := 4) scPart.nd rfl (.inl rfl) (pe_call GS hr (by rfl) gS FS.kp bS .nil pass0 (pa_cons (pv 0) (pa_cons (pv 0) (pa_cons (pv 1) (pa_cons (pv 2) pa_nil))))))
      (pss_cons (ps_if (pt_cmpR op_isN (pv 4) pe_non (nomark _)) (pss_one ps_never) pss_nil)
      (pss_one (ps_ret (pv 4)))))), ?_⟩
    refine s_asg (ev_n hA (ev_var rfl)) fun H1 x1 => ?_
    have z1 : decide ((0 : Int) ≤ (s : Int)) = true := decide_eq_true (by omega)
    have z2 : decide ((s : Int) < (A.n : Int)) = true := decide_eq_true (by omega)
    have z3 : decide ((0 : Int) ≤ (t : Int)) = true := decide_eq_true (by omega)
    have z4 : decide ((t : Int) < (A.n : Int)) = true := decide_eq_true (by omega)
    refine ⟨vi s, rfl, _, _, rfl, rfl, true, congrArg V.bl z1, iteT ⟨vi A.n, rfl, _, _, rfl, rfl, true, congrArg V.bl z2, iteF ?_⟩⟩
    refine ⟨vi t, rfl, _, _, rfl, rfl, true, congrArg V.bl z3, iteT ⟨vi A.n, rfl, _, _, rfl, rfl, true, congrArg V.bl z4, iteF ?_⟩⟩
    refine ⟨.ref a, rfl, .ref a, rfl, vi s, rfl, vi t, rfl, a, a, A, A, s, t, rfl, hA.ex x1, hA.ex x1, OA, OA, rfl, hs, ht, fun hs H2 x2 => absurd hs hn, fun u p H2 hf x2 np hp => ?_⟩
    refine ⟨.ref p, rfl, rfl, _, rfl, ite2 (fun e => ?_) (fun e => ?_)⟩
    · cases of_decide_eq_true e
    · exact ⟨.ref p, rfl, q u p H2 hf (x1.trans x2) (fresh_back x1 np) hp⟩
end
end Mae

namespace Mae
open PySem PySem.Spec PyProof.Rows L2 Evl

/-! ### the first state of the same sign -/
def lsg (M : Mach) (g : List Nat) (s : Nat) : Nat := ((List.range (s + 1)).find? fun t => decide (sign M g t = sign M g s)).getD s
theorem lsg_spec (M : Mach) (g : List Nat) (s : Nat) : lsg M g s ≤ s ∧ sign M g (lsg M g s) = sign M g s ∧ ∀ t, sign M g t = sign M g s → lsg M g s ≤ t := by
  unfold lsg
  cases h : (List.range (s + 1)).find? fun t => decide (sign M g t = sign M g s) with
  | none =>
    have := List.find?_eq_none.mp h s (List.mem_range.mpr (Nat.lt_succ_self s))
    simp at this
  | some r =>
    obtain ⟨h1, h2, h3⟩ := List.find?_range_eq_some.mp h
    refine ⟨Nat.le_of_lt_succ (List.mem_range.mp h2), of_decide_eq_true h1, fun t ht => ?_⟩
    apply Nat.le_of_not_lt
    intro hlt
    have h4 := h3 t hlt
    rw [decide_eq_true ht] at h4
    cases h4
theorem lsg_same {M : Mach} {g : List Nat} {s t : Nat} (h : sign M g s = sign M g t) : lsg M g s = lsg M g t := by
  obtain ⟨_, a2, a3⟩ := lsg_spec M g s
  obtain ⟨_, b2, b3⟩ := lsg_spec M g t
  exact Nat.le_antisymm (a3 _ (b2.trans h.symm)) (b3 _ (a2.trans h))
theorem lsg_cls (M : Mach) (g : List Nat) : IsCls M.n ((List.range M.n).map (lsg M g)) (fun s t => sign M g s = sign M g t) := by
  refine ⟨by rw [List.length_map, List.length_range], fun s hs => ⟨lsg M g s, ?_, ?_⟩⟩
  · rw [List.getElem?_map, List.getElem?_range hs]; rfl
  · obtain ⟨h1, h2, h3⟩ := lsg_spec M g s
    exact ⟨h1, h2.symm, fun t _ ht => h3 t ht.symm⟩

/-! ### the dict of signs that were found -/
structure FI (M : Mach) (g : List Nat) (kvs : List Ent) (i : Nat) : Prop where
  old : ∀ e ∈ kvs, ∃ r, r < i ∧ e.1 = sign M g r ∧ e.2.2 = vi (lsg M g r)
  has : ∀ s, s < i → dnVal kvs (sign M g s) = some (vi (lsg M g s))
  len : kvs.length ≤ i
theorem dnVal_append {kvs : List Ent} {x y : Nat × List Nat} {b : Addr} {v : V} : dnVal (kvs ++ [(x, b, v)]) y = (dnVal kvs y).or (if x = y then some v else none) := by
  unfold dnVal
  rw [List.find?_append, Option.map_or]
  by_cases e : x = y
  · rw [if_pos e, List.find?_cons_of_pos (by exact decide_eq_true e)]
    rfl
  · rw [if_neg e, List.find?_cons_of_neg (by simpa using e)]
    rfl
theorem FI.start (M : Mach) (g : List Nat) : FI M g [] 0 where
  old := fun e h => by cases h
  has := fun s h => absurd h (Nat.not_lt_zero s)
  len := Nat.le_refl _
theorem FI.found {M : Mach} {g : List Nat} {kvs : List Ent} {i : Nat} (I : FI M g kvs i) {v : V} (h : dnVal kvs (sign M g i) = some v) : v = vi (lsg M g i) ∧ FI M g kvs (i + 1) := by
  have e : v = vi (lsg M g i) := by
    unfold dnVal at h
    obtain ⟨p, hp, hv⟩ := Option.map_eq_some_iff.mp h
    have h1 := List.mem_of_find?_eq_some hp
    have h2 : p.1 = sign M g i := by
      have h3 := List.find?_some hp
      exact of_decide_eq_true h3
    obtain ⟨r, _, e1, e2⟩ := I.old p h1
    rw [← hv, e2, lsg_same (e1.symm.trans h2)]
  refine ⟨e, fun p hp => ?_, fun s hs => ?_, Nat.le_succ_of_le I.len⟩
  · obtain ⟨r, h1, h2⟩ := I.old p hp
    exact ⟨r, Nat.lt_succ_of_lt h1, h2⟩
  · by_cases z : s = i
    · subst z; rw [h, e]
    · exact I.has s (by omega)
theorem FI.new {M : Mach} {g : List Nat} {kvs : List Ent} {i : Nat} (I : FI M g kvs i) (h : dnVal kvs (sign M g i) = none) (b : Addr) : FI M g (kvs ++ [(sign M g i, b, vi i)]) (i + 1) ∧ lsg M g i = i := by
  have e : lsg M g i = i := by
    obtain ⟨h1, h2, _⟩ := lsg_spec M g i
    apply Nat.le_antisymm h1
    apply Nat.le_of_not_lt
    intro hlt
    have := I.has _ hlt
    rw [h2, h] at this
    cases this
  refine ⟨⟨fun p hp => ?_, fun s hs => ?_, ?_⟩, e⟩
  · rcases List.mem_append.mp hp with hp | hp
    · obtain ⟨r, h1, h2⟩ := I.old p hp
      exact ⟨r, Nat.lt_succ_of_lt h1, h2⟩
    · rw [List.mem_singleton.mp hp]
      exact ⟨i, Nat.lt_succ_self i, rfl, by rw [e]⟩
  · rw [dnVal_append]
    by_cases z : s = i
    · subst z
      rw [h, if_pos rfl, e]
      rfl
    · rw [I.has s (by omega)]
      rfl
  · rw [List.length_append]
    exact Nat.succ_le_succ I.len

theorem SgAt.ex {H H' : Hp} {x : Nat × List Nat} {b : Addr} (e : Ex H H') (h : SgAt H x b) : SgAt H' x b := by
  obtain ⟨c, h1, h2⟩ := h
  exact ⟨c, e _ _ h1, e _ _ h2⟩
theorem SgAt.upd {H : Hp} {x : Nat × List Nat} {b p : Addr} {o o' : HO} (h : SgAt H x b) (hp : H p = some o) (ho : ∀ xs, o ≠ .tup xs) : SgAt (L2.upd H p o') x b := by
  obtain ⟨c, h1, h2⟩ := h
  have n1 : b ≠ p := fun z => by rw [z, hp] at h1; exact ho _ (Option.some.inj h1)
  have n2 : c ≠ p := fun z => by rw [z, hp] at h2; exact ho _ (Option.some.inj h2)
  exact ⟨c, by rw [upd_ne n1]; exact h1, by rw [upd_ne n2]; exact h2⟩

theorem scRefined : FnScope ["machine", "groups", "letters", "found", "result", "state", "row", "sign", "letter"] ["machine", "groups"] (defScope sRefined) := ⟨rfl, rfl, rfl, by decide +kernel, rfl, by decide +kernel, by decide +kernel⟩

section
variable {P : Program} {w : World} {K : PySem.W.Frag} {mg : Str → Option Value} {base : Heap}
def spRefined (K : PySem.W.Frag) : Sp := fun vs H Q _ => ∃ (a ga : Addr) (M : Mach) (g : List Nat), vs = [.ref a, .ref ga] ∧ MAt K H a M ∧ M.Ok ∧ SqL K H ga (g.map vi) ∧ g.length = M.n ∧
  ∀ p H' g', IsCls M.n g' (fun s t => sign M g s = sign M g t) → Ex H H' → H p = none → H' p = some (.lst (g'.map vi)) → Q (.ref p) H'
theorem st_appGet {D : Ends} {σ : L2.St} {H : Hp} {rs d b : Addr} {x : Nat × List Nat} {kvs : List Ent} {v : V} {acc : List V} (h4 : σ[4]? = some (some (.ref rs))) (h3 : σ[3]? = some (some (.ref d))) (h7 : σ[7]? = some (some (.ref b))) (hr : H rs = some (.lst acc)) (hl : acc.length < 100000)
    (hd : H d = some (Dn P w d kvs)) (hk : ∀ p ∈ kvs, SgAt H p.1 p.2.1) (hx : SgAt H x b) (hv : dnVal kvs x = some v) (k : D.nx σ (upd H rs (.lst (acc ++ [v])))) :
    tDrop (tBM K "list" rAppend (tVar 4) (tCons (tDnGet P w (tVar 3) (tVar 7)) tNil)) D σ H :=
  ⟨.ref rs, h4, .inl ⟨rfl, _, sq_of hr⟩, .ref d, h3, .ref b, h7, d, b, x, kvs, v, rfl, rfl, hd, hk, hx, hv, rs, acc, v, rfl, rfl, hr, sz_lt hl, k⟩
theorem ok_refined {f : Addr} {fd : FuncData} {k : Nat} (F : Fun K "refined" "refined" sRefined f fd) (me : mg "enumerate" = none) (mt : mg "tuple" = none) (mr : mg "range" = none) : FnOk P w K mg base CX0 (k + 1) f fd ["machine", "groups"] (spRefined K) := by
  refine F.ok scRefined (fun vs H Q E h => ?_) (fun cdv A outer s H vs Q E hr h => ?_)
  · obtain ⟨a, ga, M, g, rfl, _⟩ := h
    rfl
  · obtain ⟨a, ga, M, g, rfl, hM, O, hg, hgl, q⟩ := h
    have hu := hr.units
    refine ⟨_, pss_cons (ps_set (i := 2) scRefined.nd rfl (.inl rfl) (pe_ix ix_tup (pv 0) pe_int (fun _ _ => rfl)))
      (pss_cons (ps_set (i := 3) scRefined.nd rfl (.inl rfl) pe_dnNew)
      (pss_cons (ps_set (i := 4) scRefined.nd rfl (.inl rfl) (pe_lst pa_nil))
      (pss_cons (ps_for PassesOwn.never rfl (pi_enT (by rfl) me (pa_cons (pe_ix ix_tup (pv 0) pe_int (fun _ _ => rfl)) pa_nil)) (pg_tup rfl (pgs_cons (pg_name (i := 5) scRefined.nd rfl (.inl rfl)) (pgs_cons (pg_name (i := 6) scRefined.nd rfl (.inr rfl)) pgs_nil)))
        (pss_cons (ps_set (i := 7) scRefined.nd rfl (.inl rfl) (pe_tup (pa_cons (pe_ix ix_list (pv 1) (pv 5) (fun _ _ => rfl)) (pa_cons (pe_callTy call_tuple_of (by rfl) mt (by decide +kernel) (pa_cons
            (pe_lc (own := [("letter", 8)]) (g := gName 8) (tt := tYes) (te := tOp (rIxL K) (tVar 1) (tOp (rIxT K) (tVar 6) (tVar 8))) rfl scRefined.nd (pi_range1 (by rfl) mr (pa_cons (pv 2) pa_nil))
              (blkOk_by (own := [("letter", 8)]) (N := ["machine", "groups", "letters", "found", "result", "state", "row", "sign", "letter"]) (sc := defScope sRefined) (by decide +kernel))
              (fun _ _ _ _ _ => pg_name (i := 8) scRefined.nd rfl (Or.inl rfl)) (fun _ _ _ _ _ => pts_nil) (fun _ _ _ _ _ => pe_ix ix_list (pv 1) (pe_ix ix_tup (pv 6) (pv 8) (fun _ _ => rfl)) (fun _ _ => rfl))) pa_nil)) pa_nil))))
        (pss_cons (ps_if (pt_cmp (pc_dnNot hu (pv 7) (pv 3))) (pss_one (ps_dnPut hu (pv 3) (pv 7) (pv 5) rfl)) pss_nil)
        (pss_one (ps_expr (pe_bm PySem.F.plainAttrs_list PySem.F.slot_list_append PySem.F.type_list_append mt_append (pv 4) (pa_cons (pe_dnGet hu (pv 3) (pv 7) (fun _ _ => rfl)) pa_nil)))))))
      (pss_one (ps_ret (pv 4)))))), ?_⟩
    -- letters = machine[0]
    refine s_asg (ev_k hM (ev_var rfl)) fun H1 x1 => ?_
    -- found = {}, result = []
    refine fun d nd => ⟨Nat.zero_le _, fun rs nrs => ?_⟩
    have drs : d ≠ rs := fun z => by rw [← z, upd_same] at nrs; cases nrs
    have x2 : Ex H (upd (upd H1 d (Dn P w d [])) rs (.lst [])) := (x1.trans (Ex.new nd)).trans (Ex.new nrs)
    have fd : H d = none := fresh_back x1 nd
    have frs : H rs = none := fresh_back (x1.trans (Ex.new nd)) nrs
    -- for state, row in enumerate(machine[2])
    obtain ⟨ra, oa, rsr, m1, m2, m3, m4⟩ := id hM
    have hlen : rsr.length = M.n := m4.length
    refine s_forE (a := ra) (xs := rsr.map V.ref) (ea_cons (ev_op (ev_var rfl) ev_c (rv_ixT (st_of (x2 _ _ m1)) (atI_nat (j := 2) rfl))) ea_nil) (st_of (x2 _ _ m2))
      (fun i σ' H' => ∃ (y5 y6 y7 : Option V) (kvs : List Ent), σ' = [some (.ref a), some (.ref ga), some (vi M.k), some (.ref d), some (.ref rs), y5, y6, y7, none] ∧ Ex H H' ∧ H' d = some (Dn P w d kvs) ∧ (∀ e ∈ kvs, SgAt H' e.1 e.2.1) ∧
        H' rs = some (.lst (((List.range i).map (lsg M g)).map vi)) ∧ FI M g kvs i)
      (fun H3 x3 => ⟨none, none, none, [], rfl, x2.trans x3, x3 _ _ (by rw [upd_ne drs, upd_same]), (fun e h => by cases h), x3 _ _ upd_same, FI.start M g⟩) ?_ ?_ ?_
    · rintro i σ' H' ⟨_, _, _, _, rfl, x3, _⟩
      exact st_of (x3 _ _ m2)
    · rintro i x σ' H' T hx ⟨y5, y6, y7, kvs, rfl, x3, hd, hk, hrs, I⟩ nT
      obtain ⟨r, hr0, rfl⟩ : ∃ r, rsr[i]? = some r ∧ x = .ref r := by
        rw [List.getElem?_map] at hx
        obtain ⟨r, h1, h2⟩ := Option.map_eq_some_iff.mp hx
        exact ⟨r, h1, h2.symm⟩
      have hin : i < M.n := by rw [← hlen]; exact (List.getElem?_eq_some_iff.mp hr0).1
      have hrow : H r = some (.tup ((M.row i).map vi)) := by
        obtain ⟨row, h1, h2⟩ := m4.get hr0
        rw [M.row_at hin] at h1
        cases h1
        exact h2
      have ggx : ∀ s, s < M.n → g[s]? = some (gx g s) := fun s hs => by
        have hl : s < g.length := by rw [hgl]; exact hs
        rw [List.getElem?_eq_getElem hl, gx_of (List.getElem?_eq_getElem hl)]
      -- state, row = the pair
      refine ⟨T, [vi i, .ref r], rfl, st_of upd_same, rfl, vi i, _, rfl, .ref r, [], rfl, rfl, ?_⟩
      have x4 : Ex H' (upd H' T (.tup [vi i, .ref r])) := Ex.new nT
      have xa := x3.trans x4
      -- sign = (groups[state], tuple([..]))
      refine ⟨.ref ga, rfl, vi i, rfl, ga, _, _, vi (gx g i), rfl, rfl, ex_l xa hg, at_vi (ggx i hin), ?_⟩
      refine (eu_tupL (evl_of (ds := List.range M.k) (f := fun l => vi (gx g (M.d i l))) (lcr_rng stab_eq (n := M.k) (ea_cons (ev_var rfl) ea_nil) List.length_range.symm (by rw [List.length_range]; have := O.km; omega) (fun _ => rfl) (fun l d' D H5 x5 _ hl => ?_)))) _ (Ex.refl _) _ fun c H5 nc x5 hc => ?_
      · have hlk : l < M.k := by
          have := (List.getElem?_eq_some_iff.mp hl).1
          rwa [List.length_range] at this
        have e : d' = l := by
          rw [List.getElem?_range hlk] at hl
          exact (Option.some.inj hl).symm
        subst e
        have xb := xa.trans x5
        exact ev_p (ev_op (ev_var rfl) (ev_op (ev_var rfl) (ev_var rfl) (rv_ixT (st_of (xb _ _ hrow)) (at_vi (O.d_at hin hlk)))) (rv_ixL (ex_l xb hg) (at_vi (ggx _ (O.closed i d' hin hlk)))))
      refine ⟨by show 2 ≤ sizeLine; decide, fun b nb => ?_⟩
      have x6 : Ex H' (upd H5 b (.tup [vi (gx g i), .ref c])) := (x4.trans x5).trans (Ex.new nb)
      have xc := x3.trans x6
      generalize hH6 : upd H5 b (.tup [vi (gx g i), .ref c]) = H6 at x6 xc
      have hsg : SgAt H6 (sign M g i) b := by
        refine ⟨c, by rw [← hH6, upd_same]; rfl, ?_⟩
        have bc : c ≠ b := fun z => by rw [← z, hc] at nb; cases nb
        rw [← hH6, upd_ne bc, hc]
        unfold sign
        rw [List.map_map]
        rfl
      have hd6 := x6 _ _ hd
      have hk6 : ∀ e ∈ kvs, SgAt H6 e.1 e.2.1 := fun e he => (hk e he).ex x6
      have hrs6 := x6 _ _ hrs
      have hlen6 : (((List.range i).map (lsg M g)).map vi).length < 100000 := by
        rw [List.length_map, List.length_map, List.length_range]
        have := O.nm
        omega
      have app : ∀ z, z = lsg M g i → ((List.range i).map (lsg M g)).map vi ++ [vi z] = ((List.range (i + 1)).map (lsg M g)).map vi := fun z e => by
        rw [e, List.range_succ, List.map_append, List.map_append]
        rfl
      have hkl : kvs.length < sizeLine := sz_lt (by have h1 := I.len; have := O.nm; omega)
      -- if sign not in found
      refine ⟨.ref b, rfl, .ref d, rfl, d, b, sign M g i, kvs, rfl, rfl, hd6, hk6, hsg, _, rfl, ite2 (fun e => ?_) (fun e => ?_)⟩
      · have hnone : dnVal kvs (sign M g i) = none := by
          cases z : dnVal kvs (sign M g i) with
          | none => rfl
          | some v => rw [z] at e; cases e
        obtain ⟨I2, el⟩ := I.new hnone b
        refine ⟨vi i, rfl, .ref d, rfl, .ref b, rfl, d, b, sign M g i, kvs, rfl, rfl, hd6, hk6, hsg, hnone, hkl, ?_⟩
        have dtup : ∀ xs, Dn P w d kvs ≠ .tup xs := fun xs z => nomatch z
        have hsg7 := hsg.upd (o' := Dn P w d (kvs ++ [(sign M g i, b, vi i)])) hd6 dtup
        have hk7 : ∀ e ∈ kvs ++ [(sign M g i, b, vi i)], SgAt (upd H6 d (Dn P w d (kvs ++ [(sign M g i, b, vi i)]))) e.1 e.2.1 := fun e he => by
          rcases List.mem_append.mp he with he | he
          · exact (hk6 e he).upd hd6 dtup
          · rw [List.mem_singleton.mp he]; exact hsg7
        have hrs7 : (upd H6 d (Dn P w d (kvs ++ [(sign M g i, b, vi i)]))) rs = some (.lst (((List.range i).map (lsg M g)).map vi)) := by rw [upd_ne drs.symm]; exact hrs6
        have hv : dnVal (kvs ++ [(sign M g i, b, vi i)]) (sign M g i) = some (vi i) := by
          have := I2.has i (Nat.lt_succ_self i)
          rw [el] at this
          exact this
        refine st_appGet rfl rfl rfl hrs7 hlen6 upd_same hk7 hsg7 hv ?_
        refine ⟨some (vi i), some (.ref r), some (.ref b), kvs ++ [(sign M g i, b, vi i)], rfl, Ex.mut (Ex.mut xc fd) frs, ?_, fun e he => (hk7 e he).upd hrs7 (fun xs z => nomatch z), ?_, I2⟩
        · rw [upd_ne drs, upd_same]; rfl
        · rw [upd_same, app i el.symm]
      · obtain ⟨v, hv⟩ : ∃ v, dnVal kvs (sign M g i) = some v := by
          cases z : dnVal kvs (sign M g i) with
          | none => rw [z] at e; exact absurd rfl e
          | some v => exact ⟨v, rfl⟩
        obtain ⟨ev, I2⟩ := I.found hv
        subst ev
        refine st_appGet rfl rfl rfl hrs6 hlen6 hd6 hk6 hsg hv ?_
        refine ⟨some (vi i), some (.ref r), some (.ref b), kvs, rfl, Ex.mut xc frs, ?_, fun e he => (hk6 e he).upd hrs6 (fun xs z => nomatch z), ?_, I2⟩
        · rw [upd_ne drs]
          exact hd6
        · rw [upd_same, app _ rfl]
    · rintro σ' H' ⟨y5, y6, y7, kvs, rfl, x3, hd, hk, hrs, I⟩
      rw [List.length_map, hlen] at hrs
      exact ⟨.ref rs, rfl, q rs H' _ (lsg_cls M g) x3 frs hrs⟩
end
end Mae

namespace Mae
open PySem PySem.Spec PyProof.Rows L2 Evl

theorem scClasses : FnScope ["machine", "outputs", "groups", "_", "output"] ["machine"] (defScope sClasses) := ⟨rfl, rfl, rfl, by decide +kernel, rfl, by decide +kernel, by decide +kernel⟩
theorem scMet : FnScope ["machine", "groups", "order", "at", "state"] ["machine", "groups"] (defScope sMet) := ⟨rfl, rfl, rfl, by decide +kernel, rfl, by decide +kernel, by decide +kernel⟩
theorem scLeast : FnScope ["machine", "letters", "outs", "moves", "outputs", "groups", "order", "new_moves", "old", "state"] ["machine"] (defScope sLeast) := ⟨rfl, rfl, rfl, by decide +kernel, rfl, by decide +kernel, by decide +kernel⟩

/-- at first: the outputs alone -/
theorem cls_zero {M : Mach} (O : M.Ok) : IsCls M.n (M.out.map fun o => M.out.idxOf o) (EqL M.k M.d M.v 0) := by
  refine ⟨by rw [List.length_map, O.len], fun s hs => ?_⟩
  have hv := O.v_at hs
  have hm := List.mem_of_getElem? hv
  have hi := idx_at hm
  have hil := idx_lt hm
  rw [O.len] at hil
  have before : ∀ t, t < M.n → M.v s = M.v t → M.out.idxOf (M.v s) ≤ t := fun t ht e => by
    apply Nat.le_of_not_lt
    intro hlt
    exact idx_before (O.v_at ht) hlt e.symm
  refine ⟨M.out.idxOf (M.v s), by rw [List.getElem?_map, hv]; rfl, before s hs rfl, EqL.zero.mpr ?_, fun t ht e => before t ht (EqL.zero.mp e)⟩
  rw [O.v_at hil] at hi
  exact (Option.some.inj hi).symm

section
variable {K : PySem.W.Frag} {σ : L2.St} {H : Hp} {ta tb : TE}
theorem ev_tupIx {p : Addr} {ns : List Nat} {n : Nat} (ha : Ev ta σ H (.ref p)) (hb : Ev tb σ H (vi n)) (hp : Pt H p (ns.map vi)) (hm : n ∈ ns) : Ev (tTupIx ta tb) σ H (vi (ns.idxOf n)) := fun H1 e Q q =>
  ha H1 e _ fun H2 e2 => ⟨p, ns, rfl, hp.ex (e.trans e2), hb H2 (e.trans e2) _ fun H3 e3 => ⟨n, rfl, hp.ex ((e.trans e2).trans e3), hm, q H3 (e2.trans e3)⟩⟩
theorem ev_lstIx {p : Addr} {ns : List Nat} {n : Nat} (ha : Ev ta σ H (.ref p)) (hb : Ev tb σ H (vi n)) (hp : SqL K H p (ns.map vi)) (hm : n ∈ ns) : Ev (tBM K "list" (rLstIx K) ta (tCons tb tNil)) σ H (vi (ns.idxOf n)) := fun H1 e Q q =>
  ha H1 e _ fun H2 e2 => ⟨.inl ⟨rfl, _, ex_l (e.trans e2) hp⟩, hb H2 (e.trans e2) _ fun H3 e3 => ⟨p, ns, n, rfl, rfl, ex_l ((e.trans e2).trans e3) hp, hm, q H3 (e2.trans e3)⟩⟩
end

section
variable {P : Program} {w : World} {K : PySem.W.Frag} {mg : Str → Option Value} {base : Heap}
def spClasses : Sp := fun vs H Q _ => ∃ (a : Addr) (M : Mach), vs = [.ref a] ∧ MAtP H a M ∧ M.Ok ∧ ∀ p H' g, IsCls M.n g (Eqv M.k M.d M.v) → Ex H H' → H p = none → H' p = some (.lst (g.map vi)) → Q (.ref p) H'
theorem ok_classes {f fR : Addr} {fd fdR : FuncData} {k : Nat} (F : Fun K "classes" "classes" sClasses f fd) (FR : Fun K "refined" "refined" sRefined fR fdR) (bR : Binds K fdR ["machine", "groups"] []) (gR : mg "refined" = some (.ref fR))
    (me : mg "enumerate" = none) (mt : mg "tuple" = none) (mr : mg "range" = none) (ml : mg "len" = none) : FnOk P w K mg base CX0 (k + 2) f fd ["machine"] spClasses := by
  have GR : FnOk P w K mg base CX0 (k + 1) fR fdR ["machine", "groups"] (spRefined K) := ok_refined FR me mt mr
  refine F.ok scClasses (fun vs H Q E h => ?_) (fun cdv A outer s H vs Q E hr h => ?_)
  · obtain ⟨a, M, rfl, _⟩ := h
    rfl
  · obtain ⟨a, M, rfl, hP, O, q⟩ := h
    have hM : MAt K H a M := hP.m
    refine ⟨_, pss_cons (ps_set (i := 1) scClasses.nd rfl (.inr rfl) (pe_ix ix_tup (pv 0) pe_int (fun _ _ => rfl)))
      (pss_cons (ps_setLc (i := 2) (own := [("output", 4)]) (g := gName 4) (tt := tYes) (te := tTupIx (tVar 1) (tVar 4)) rfl scClasses.nd rfl rfl (sw_true rfl rfl rfl (by decide +kernel)) (pi_tup (pv 1))
        (blkOk_by (own := [("output", 4)]) (N := ["machine", "outputs", "groups", "_", "output"]) (sc := defScope sClasses) (by decide +kernel))
        (fun _ _ _ _ _ => pg_name (i := 4) scClasses.nd rfl (Or.inl rfl)) (fun _ _ _ _ _ => pts_nil) (fun _ _ _ _ _ => pe_tupIx (pv 1) (pv 4) ⟨rfl, rfl, rfl, rfl⟩))
      (pss_cons (ps_for PassesOwn.never rfl (pi_range1 (by rfl) mr (pa_cons (pe_callB call_len_seq (by rfl) ml PySem.boot_len (pa_cons (pv 1) pa_nil)) pa_nil)) (pg_name (i := 3) scClasses.nd rfl (.inl rfl))
        (pss_one (ps_set (i := 2) scClasses.nd rfl (.inl rfl) (pe_call GR hr (by rfl) gR FR.kp bR .nil pass0 (pa_cons (pv 0) (pa_cons (pv 2) pa_nil))))))
      (pss_one (ps_ret (pv 2))))), ?_⟩
    obtain ⟨ra, oa, rs, m1, m2, m3, m4⟩ := id hP
    -- outputs = machine[3]
    refine s_asg (ev_op (ev_var rfl) ev_c (rv_ixT (st_of m1) (atI_nat (j := 3) rfl))) fun H1 x1 => ?_
    have p1 := m3.ex x1
    -- groups = [outputs.index(output) for output in outputs]
    refine s_asgL (evl_of (ds := M.out) (f := fun o => vi (M.out.idxOf o)) (lcr_tup stab_eq (ev_var rfl) p1.sq (List.length_map ..) (by rw [O.len]; have := O.nm; omega) (fun _ => rfl) (fun i x d D H2 x2 _ hx hd => ?_))) fun g0 H2 n0 x2 hg0 => ?_
    · have e : x = vi d := by
        rw [List.getElem?_map, hd] at hx
        exact (Option.some.inj hx).symm
      subst e
      exact ev_p (ev_tupIx (ev_var rfl) (ev_var rfl) (p1.ex x2) (List.mem_of_getElem? hd))
    · have p2 := p1.ex x2
      have el : ((M.out.map vi).length : Int) = (M.n : Int) := by rw [List.length_map, O.len]
      refine s_forR1 (ea_cons (ev_lenT (ev_var rfl) p2.sq) ea_nil) (by rw [el]; have := O.nm; omega)
        (fun i σ' H' => ∃ (gp : Addr) (g : List Nat) (y3 : Option V), σ' = [some (.ref a), some (.ref oa), some (.ref gp), y3, none] ∧ Ex H H' ∧ H gp = none ∧ H' gp = some (.lst (g.map vi)) ∧ IsCls M.n g (EqL M.k M.d M.v i))
        (fun H3 x3 => ⟨g0, M.out.map fun o => M.out.idxOf o, none, rfl, (x1.trans x2).trans x3, fresh_back x1 n0, by rw [x3 _ _ hg0, List.map_map]; rfl, cls_zero O⟩) ?_ ?_
      · rintro i σ' H3 hi ⟨gp, g, y3, rfl, x3, ngp, hgp, I⟩
        refine ⟨.ref a, rfl, .ref gp, rfl, a, gp, M, g, rfl, hM.ex x3, O, sq_of hgp, I.len, fun p' H4 g' J x4 np hp => ?_⟩
        exact ⟨p', g', some (vi i), rfl, x3.trans x4, fresh_back x3 np, hp, refine_cls O I J⟩
      · rintro σ' H3 ⟨gp, g, y3, rfl, x3, ngp, hgp, I⟩
        rw [el, Int.toNat_natCast] at I
        exact ⟨.ref gp, rfl, q gp H3 g (cls_done O I) x3 ngp hgp⟩

theorem in_vi (n : Nat) (ns : List Nat) : inV (vi n) (ns.map vi) = decide (n ∈ ns) := by
  induction ns with
  | nil => rfl
  | cons m ns ih =>
    show (eqV (vi m) (vi n) || inV (vi n) (ns.map vi)) = _
    rw [ih]
    show (((m : Int) == (n : Int)) || decide (n ∈ ns)) = decide (n ∈ m :: ns)
    by_cases e : m = n
    · subst e; simp
    · have e2 : ¬ (m : Int) = (n : Int) := fun z => e (Int.ofNat.inj z)
      rw [beq_eq_false_iff_ne.mpr e2]
      have e3 : ¬ n = m := fun z => e z.symm
      simp [e3]
theorem flat_vi (ns : List Nat) : (ns.map vi).all flatV = true := by
  rw [List.all_map]
  exact List.all_eq_true.mpr fun _ _ => rfl
theorem met_step (succ : Nat → List Nat) (f : Nat) (o : List Nat) (p : Nat) : met succ (f + 1) o p = match o[p]? with | some s => met succ f (metRow o (succ s)) (p + 1) | none => o := rfl
theorem metRow_snoc (o xs : List Nat) (x : Nat) : metRow o (xs ++ [x]) = addNew (metRow o xs) x := by
  unfold metRow
  rw [List.foldl_append]
  rfl

def spMet (K : PySem.W.Frag) : Sp := fun vs H Q _ => ∃ (a ga : Addr) (M : Mach) (g : List Nat), vs = [.ref a, .ref ga] ∧ MAt K H a M ∧ M.Ok ∧ SqL K H ga (g.map vi) ∧ IsCls M.n g (Eqv M.k M.d M.v) ∧
  ∀ p H', Ex H H' → H p = none → H' p = some (.lst ((orderOf M g).map vi)) → Q (.ref p) H'
theorem ok_met {f : Addr} {fd : FuncData} {k : Nat} (F : Fun K "met_states" "met_states" sMet f fd) (ml : mg "len" = none) : FnOk P w K mg base CX0 (k + 1) f fd ["machine", "groups"] (spMet K) := by
  refine F.ok scMet (fun vs H Q E h => ?_) (fun cdv A outer s H vs Q E hr h => ?_)
  · obtain ⟨a, ga, M, g, rfl, _⟩ := h
    rfl
  · obtain ⟨a, ga, M, g, rfl, hM, O, hg, J, q⟩ := h
    refine ⟨_, pss_cons (ps_set (i := 2) scMet.nd rfl (.inl rfl) (pe_lst (pa_cons (pe_ix ix_list (pv 1) pe_int (fun _ _ => rfl)) pa_nil)))
      (pss_cons (ps_set (i := 3) scMet.nd rfl (.inl rfl) pe_int)
      (pss_cons (ps_while PassesOwn.never (pt_cmpR op_lt (pv 3) (pe_callB call_len_seq (by rfl) ml PySem.boot_len (pa_cons (pv 2) pa_nil)) (nomark _))
        (pss_cons (ps_for PassesOwn.never rfl (pi_tup (pe_ix ix_tup (pe_ix ix_tup (pv 0) pe_int (fun _ _ => rfl)) (pe_ix ix_list (pv 2) (pv 3) (fun _ _ => rfl)) (fun _ _ => rfl))) (pg_name (i := 4) scMet.nd rfl (.inl rfl))
          (pss_one (ps_if (pt_cmpR op_notIn_seq (pe_ix ix_list (pv 1) (pv 4) (fun _ _ => rfl)) (pv 2) (by rfl))
            (pss_one (ps_expr (pe_bm PySem.F.plainAttrs_list PySem.F.slot_list_append PySem.F.type_list_append mt_append (pv 2) (pa_cons (pe_ix ix_list (pv 1) (pv 4) (fun _ _ => rfl)) pa_nil)))) pss_nil)))
        (pss_one (ps_aug (i := 3) scMet.nd rfl (.inl rfl) pe_int ip_add))))
      (pss_one (ps_ret (pv 2))))), ?_⟩
    have gg : ∀ s, s < M.n → g[s]? = some (gx g s) := fun s hs => J.get hs
    have hP : ∀ x, Rep M g x → ∀ y ∈ succOf M g x, Rep M g y := fun x hx y hy => by
      obtain ⟨l, hl, rfl⟩ := succ_mem O hx.1 hy
      exact rep_of J (O.closed x l hx.1 hl)
    -- order = [groups[0]]; at = 0
    refine ⟨.ref ga, rfl, ga, _, _, vi (gx g 0), rfl, rfl, hg, at_vi (i := 0) (gg 0 O.np), by show 1 ≤ sizeLine; decide, fun ol nol => ?_⟩
    -- while at < len(order)
    refine ⟨fun m σ' H' => ∃ (o : List Nat) (p : Nat) (y4 : Option V), σ' = [some (.ref a), some (.ref ga), some (.ref ol), some (vi p), y4] ∧ Ex H H' ∧ H' ol = some (.lst (o.map vi)) ∧ met (succOf M g) m o p = orderOf M g ∧ m + p = M.n + 1 ∧
        MetOk (succOf M g) (Rep M g) (gx g 0) o p ∧ p ≤ o.length,
      ⟨M.n + 1, [gx g 0], 0, none, rfl, Ex.new nol, upd_same, rfl, rfl, ⟨rfl, by simp, fun x hx => by rw [List.mem_singleton.mp hx]; exact rep_of J O.np, fun i x hi _ => absurd hi (Nat.not_lt_zero _)⟩, Nat.zero_le _⟩, ?_⟩
    rintro m σ' H1 ⟨o, p, y4, rfl, x1, ho, em, emp, I, hp⟩
    have hol : o.length ≤ M.n := nodup_len M.n o I.nd fun x hx => (I.all x hx).1
    refine ⟨vi p, rfl, .ref ol, rfl, ol, _, rfl, .inl (sq_of ho), _, _, rfl, rfl, _, rfl, ite2 (fun e => ?_) (fun e => ?_)⟩
    · have hpl : p < o.length := by
        have h1 := of_decide_eq_true e
        rw [List.length_map] at h1
        omega
      have hos := List.getElem?_eq_getElem hpl
      generalize o[p] = s at hos
      have hs : s < M.n := (I.all s (List.mem_of_getElem? hos)).1
      obtain ⟨m', rfl⟩ : ∃ m', m = m' + 1 := ⟨m - 1, by omega⟩
      have em2 : met (succOf M g) m' (metRow o (succOf M g s)) (p + 1) = orderOf M g := by
        rw [← em, met_step, hos]
      have hM1 := hM.ex x1
      obtain ⟨r, hrow, hr0⟩ := ev_rowAt (K := K) (σ := [some (.ref a), some (.ref ga), some (.ref ol), some (vi p), y4]) (ta := tVar 0) (tb := tOp (rIxL K) (tVar 2) (tVar 3)) hM1 (ev_var rfl) (ev_op (ev_var rfl) (ev_var rfl) (rv_ixL (sq_of ho) (at_vi hos))) hs
      have hlen : (succOf M g s).length = (M.row s).length := List.length_map ..
      refine ⟨fun σ' H' => ∃ (o' : List Nat) (y4 : Option V), σ' = [some (.ref a), some (.ref ga), some (.ref ol), some (vi (p + 1)), y4] ∧ Ex H H' ∧ H' ol = some (.lst (o'.map vi)) ∧ o' = metRow o (succOf M g s), ?_, ?_⟩
      · rintro σ2 H2 ⟨o', z4, e1, x2, ho', rfl⟩
        have I2 := I.next hP hos
        have hl2 : p + 1 ≤ (metRow o (succOf M g s)).length := by
          have e2 := (List.getElem?_eq_some_iff.mp (metRow_get (xs := succOf M g s) hos)).1
          omega
        exact ⟨m', Nat.lt_succ_self _, _, p + 1, z4, e1, x2, ho', em2, by omega, I2, hl2⟩
      · -- for state in machine[2][order[at]]
        refine s_forT hr0 (st_of hrow) (fun i σ' H' => ∃ (y4 : Option V), σ' = [some (.ref a), some (.ref ga), some (.ref ol), some (vi p), y4] ∧ Ex H H' ∧ H' r = some (.tup ((M.row s).map vi)) ∧ H' ol = some (.lst ((metRow o ((succOf M g s).take i)).map vi)))
          (fun H2 x2 => ⟨y4, rfl, x1.trans x2, x2 _ _ hrow, x2 _ _ ho⟩) ?_ ?_ ?_
        · rintro i σ' H' _ ⟨z4, rfl, _, h2, _⟩
          exact st_of h2
        · rintro i x σ' H2 hx ⟨z4, rfl, x2, hrow2, ho2⟩
          obtain ⟨t, ht, rfl⟩ : ∃ t, (M.row s)[i]? = some t ∧ x = vi t := by
            rw [List.getElem?_map] at hx
            obtain ⟨t, h1, h2⟩ := Option.map_eq_some_iff.mp hx
            exact ⟨t, h1, h2.symm⟩
          have tn : t < M.n := (O.row _ (M.row_mem hs)).2 t (List.mem_of_getElem? ht)
          have esucc : (succOf M g s)[i]? = some (gx g t) := by
            unfold succOf
            rw [List.getElem?_map, ht]
            rfl
          have enext : metRow o ((succOf M g s).take (i + 1)) = addNew (metRow o ((succOf M g s).take i)) (gx g t) := by
            rw [List.take_add_one, esucc]
            exact metRow_snoc _ _ _
          have hg2 := ex_l x2 hg
          -- if groups[state] not in order
          refine ⟨.ref ga, rfl, vi t, rfl, ga, _, _, vi (gx g t), rfl, rfl, hg2, at_vi (gg t tn), .ref ol, rfl, ol, _, rfl, .inl (sq_of ho2), rfl, flat_vi _, _, rfl, ?_⟩
          rw [in_vi]
          refine ite2 (fun e2 => ?_) (fun e2 => ?_)
          · have hnm : gx g t ∉ metRow o ((succOf M g s).take i) := fun z => by
              rw [decide_eq_true z] at e2
              cases e2
            have lim : (metRow o ((succOf M g s).take i)).length ≤ 1000 := by
              have h1 : (metRow o ((succOf M g s).take i)).length ≤ M.n := by
                refine nodup_len M.n _ (metRow_nodup I.nd) fun x hx => ?_
                rcases metRow_mem hx with hx | hx
                · exact (I.all x hx).1
                · exact (hP s (I.all s (List.mem_of_getElem? hos)) x (List.mem_of_mem_take hx)).1
              have := O.nm
              omega
            refine ⟨.ref ol, rfl, .inl ⟨rfl, _, sq_of ho2⟩, .ref ga, rfl, vi t, rfl, ga, _, _, vi (gx g t), rfl, rfl, hg2, at_vi (gg t tn), ol, _, vi (gx g t), rfl, rfl, ho2, by rw [List.length_map]; exact small1000 lim, ?_⟩
            refine ⟨some (vi t), rfl, Ex.mut x2 nol, ?_, ?_⟩
            · rw [upd_ne (ne_of hrow2 ho2 (fun z => nomatch z))]
              exact hrow2
            · rw [upd_same, enext]
              unfold addNew
              rw [if_neg hnm, List.map_append]
              rfl
          · have hm2 : gx g t ∈ metRow o ((succOf M g s).take i) := by
              apply Classical.byContradiction
              intro z
              rw [decide_eq_false z] at e2
              exact e2 rfl
            refine ⟨some (vi t), rfl, x2, hrow2, ?_⟩
            rw [enext]
            unfold addNew
            rw [if_pos hm2]
            exact ho2
        · rintro σ' H2 ⟨z4, rfl, x2, hrow2, ho2⟩
          rw [List.length_map, ← hlen, List.take_length] at ho2
          -- at += 1
          refine ⟨vi p, rfl, (p : Int), 1, rfl, rfl, ?_⟩
          exact ⟨_, z4, rfl, x2, ho2, rfl⟩
    · have hnone : o[p]? = none := by
        rw [List.getElem?_eq_none_iff]
        have h1 : ¬ ((p : Int) < ((o.map vi).length : Int)) := fun z => e (decide_eq_true z)
        rw [List.length_map] at h1
        omega
      have eo : o = orderOf M g := by
        rw [← em]
        cases m with
        | zero => rfl
        | succ m => rw [met_step, hnone]
      rw [eo] at ho
      exact ⟨.ref ol, rfl, q ol H1 x1 nol ho⟩
end
end Mae

namespace Mae
open PySem PySem.Spec PyProof.Rows L2 Evl

theorem least_out_map (M : Mach) (g : List Nat) : (leastOf M g).out.map vi = (orderOf M g).map fun old => vi (M.v old) := by
  show ((orderOf M g).map M.v).map vi = _
  rw [List.map_map]
  rfl
theorem stab_any {δ : Type} {f : δ → V} : Stab (fun (_ : Addr) d x (_ : Hp) => x = f d) := stab_eq
section
variable {P : Program} {w : World} {K : PySem.W.Frag} {mg : Str → Option Value} {base : Heap}
def spLeast (K : PySem.W.Frag) : Sp := fun vs H Q _ => ∃ (a : Addr) (M : Mach), vs = [.ref a] ∧ MAtP H a M ∧ M.Ok ∧ ∀ p H' L, IsLeast M L → Ex H H' → MAt K H' p L → Q (.ref p) H'
theorem ok_least {f fC fM fR : Addr} {fd fdC fdM fdR : FuncData} {k : Nat} (F : Fun K "least" "least" sLeast f fd) (FC : Fun K "classes" "classes" sClasses fC fdC) (FM : Fun K "met_states" "met_states" sMet fM fdM) (FR : Fun K "refined" "refined" sRefined fR fdR)
    (bC : Binds K fdC ["machine"] []) (bM : Binds K fdM ["machine", "groups"] []) (bR : Binds K fdR ["machine", "groups"] []) (gC : mg "classes" = some (.ref fC)) (gM : mg "met_states" = some (.ref fM)) (gR : mg "refined" = some (.ref fR))
    (me : mg "enumerate" = none) (mt : mg "tuple" = none) (mr : mg "range" = none) (ml : mg "len" = none) : FnOk P w K mg base CX0 (k + 3) f fd ["machine"] (spLeast K) := by
  have GC : FnOk P w K mg base CX0 (k + 2) fC fdC ["machine"] spClasses := ok_classes FC FR bR gR me mt mr ml
  have GM : FnOk P w K mg base CX0 (k + 1) fM fdM ["machine", "groups"] (spMet K) := ok_met FM ml
  refine F.ok scLeast (fun vs H Q E h => ?_) (fun cdv A outer s H vs Q E hr h => ?_)
  · obtain ⟨a, M, rfl, _⟩ := h
    rfl
  · obtain ⟨a, M, rfl, hP, O, q⟩ := h
    have hM : MAt K H a M := hP.m
    refine ⟨_, pss_cons (ps_asg (pv 0) (pg_tup rfl (pgs_cons (pg_name (i := 1) scLeast.nd rfl (.inl rfl)) (pgs_cons (pg_name (i := 2) scLeast.nd rfl (.inl rfl)) (pgs_cons (pg_name (i := 3) scLeast.nd rfl (.inr rfl)) (pgs_cons (pg_name (i := 4) scLeast.nd rfl (.inr rfl)) pgs_nil))))))
      (pss_cons (ps_set (i := 5) scLeast.nd rfl (.inr rfl) (pe_call GC hr (by rfl) gC FC.kp bC .nil pass0 (pa_cons (pv 0) pa_nil)))
      (pss_cons (ps_set (i := 6) scLeast.nd rfl (.inr rfl) (pe_call GM (hr.mono (by omega)) (by rfl) gM FM.kp bM .nil pass0 (pa_cons (pv 0) (pa_cons (pv 5) pa_nil))))
      (pss_cons (ps_set (i := 7) scLeast.nd rfl (.inl rfl) (pe_callTy call_tuple_of (by rfl) mt (by decide +kernel) (pa_cons
          (pe_lc (own := [("old", 8)]) (g := gName 8) (tt := tYes)
            (te := tCB (rTupO K) (tCons (tLc (iTup K (tOp (rIxT K) (tVar 3) (tVar 8))) (gName 9) tYes (tBM K "list" (rLstIx K) (tVar 6) (tCons (tOp (rIxL K) (tVar 5) (tVar 9)) tNil)) [9]) tNil)) rfl scLeast.nd (pi_list (pv 6))
            (blkOk_by (own := [("old", 8)]) (N := ["machine", "letters", "outs", "moves", "outputs", "groups", "order", "new_moves", "old", "state"]) (sc := defScope sLeast) (by decide +kernel))
            (fun _ _ _ _ _ => pg_name (i := 8) scLeast.nd rfl (Or.inl rfl)) (fun _ _ _ _ _ => pts_nil)
            (fun _ _ _ _ _ => pe_callTy call_tuple_of (by rfl) mt (by decide +kernel) (pa_cons
              (pe_lc (own := [("state", 9)]) (g := gName 9) (tt := tYes) (te := tBM K "list" (rLstIx K) (tVar 6) (tCons (tOp (rIxL K) (tVar 5) (tVar 9)) tNil)) rfl scLeast.nd (pi_tup (pe_ix ix_tup (pv 3) (pv 8) (fun _ _ => rfl)))
                (blkOk_by (by rfl))
                (fun _ _ _ _ _ => pg_name (i := 9) scLeast.nd rfl (Or.inl rfl)) (fun _ _ _ _ _ => pts_nil)
                (fun _ _ _ _ _ => pe_bm PySem.F.plainAttrs_list PySem.F.slot_list_index PySem.F.type_list_index mt_lstIx (pv 6) (pa_cons (pe_ix ix_list (pv 5) (pv 9) (fun _ _ => rfl)) pa_nil))) pa_nil))) pa_nil)))
      (pss_one (ps_ret (pe_tup (pa_cons (pv 1) (pa_cons (pv 2) (pa_cons (pv 7) (pa_cons (pe_callTy call_tuple_of (by rfl) mt (by decide +kernel) (pa_cons
          (pe_lc (own := [("old", 8)]) (g := gName 8) (tt := tYes) (te := tOp (rIxT K) (tVar 4) (tVar 8)) rfl scLeast.nd (pi_list (pv 6))
            (blkOk_by (own := [("old", 8)]) (N := ["machine", "letters", "outs", "moves", "outputs", "groups", "order", "new_moves", "old", "state"]) (sc := defScope sLeast) (by decide +kernel))
            (fun _ _ _ _ _ => pg_name (i := 8) scLeast.nd rfl (Or.inl rfl)) (fun _ _ _ _ _ => pts_nil) (fun _ _ _ _ _ => pe_ix ix_tup (pv 4) (pv 8) (fun _ _ => rfl))) pa_nil)) pa_nil)))))))))), ?_⟩
    obtain ⟨ra, oa, rs, m1, m2, m3, m4⟩ := id hP
    -- letters, outs, moves, outputs = machine
    refine ⟨.ref a, rfl, a, [vi M.k, vi M.o, .ref ra, .ref oa], rfl, st_of m1, rfl, vi M.k, _, rfl, vi M.o, _, rfl, .ref ra, _, rfl, .ref oa, [], rfl, rfl, ?_⟩
    change tSeq _ _ _ [some (V.ref a), some (vi M.k), some (vi M.o), some (V.ref ra), some (V.ref oa), none, none, none, none, none] _
    -- groups = classes(machine); order = met_states(machine, groups)
    refine ⟨.ref a, rfl, a, M, rfl, hP, O, fun gp H1 g J x1 ngp hgp => ?_⟩
    refine ⟨.ref a, rfl, .ref gp, rfl, a, gp, M, g, rfl, hM.ex x1, O, sq_of hgp, J, fun op H2 x2 nop hop => ?_⟩
    change tSeq _ _ _ [some (V.ref a), some (vi M.k), some (vi M.o), some (V.ref ra), some (V.ref oa), some (V.ref gp), some (V.ref op), none, none, none] _
    have OD := order_is O J
    have x12 := x1.trans x2
    have lim : (orderOf M g).length ≤ 30 := Nat.le_trans OD.len O.nm
    have oldOf : ∀ (i : Nat) (x : V), ((orderOf M g).map vi)[i]? = some x → ∃ old, (orderOf M g)[i]? = some old ∧ x = vi old ∧ old < M.n := fun i x hx => by
      rw [List.getElem?_map] at hx
      obtain ⟨old, h1, h2⟩ := Option.map_eq_some_iff.mp hx
      exact ⟨old, h1, h2.symm, (OD.rep old (List.mem_of_getElem? h1)).1⟩
    -- new_moves
    refine s_asgP (evp_rows (ds := (leastOf M g).mv) (lcr_lst stab_rw (ev_var rfl) (sq_of hop) (by rw [List.length_map]; exact (List.length_map ..).symm) (by rw [show (leastOf M g).mv.length = (orderOf M g).length from List.length_map ..]; omega) (fun _ => rfl) (fun i x row D H3 x3 hacc hx hd => ?_))) fun v H3 x3 hrows => ?_
    · obtain ⟨old, ho, rfl, hon⟩ := oldOf i x hx
      have erow : row = (M.row old).map fun s => (orderOf M g).idxOf (gx g s) := by
        have e : (leastOf M g).mv[i]? = some ((M.row old).map fun s => (orderOf M g).idxOf (gx g s)) := by
          show ((orderOf M g).map fun old => (M.row old).map fun s => (orderOf M g).idxOf (gx g s))[i]? = _
          rw [List.getElem?_map, ho]
          rfl
        rw [e] at hd
        exact (Option.some.inj hd).symm
      have emap : row.map vi = (M.row old).map fun s => vi ((orderOf M g).idxOf (gx g s)) := by
        rw [erow, List.map_map]
        rfl
      refine evp_row ?_ hacc
      rw [emap]
      have x4 := x12.trans x3
      obtain ⟨r, hr0, hrow⟩ := m4.get2 (M.row_at hon)
      refine eu_tupL (evl_of (lcr_tup stab_eq (ev_op (ev_var rfl) (ev_var rfl) (rv_ixT (st_of (x4 _ _ m2)) (atI_nat (by rw [List.getElem?_map, hr0]; rfl)))) (st_of (x4 _ _ hrow)) (List.length_map ..) (by rw [O.row_len hon]; have := O.km; omega) (fun _ => rfl) (fun i2 y t D2 H5 x5 _ hy ht => ?_)))
      have ey : y = vi t := by
        rw [List.getElem?_map, ht] at hy
        exact (Option.some.inj hy).symm
      subst ey
      have hl : i2 < M.k := by
        have := (List.getElem?_eq_some_iff.mp ht).1
        rwa [O.row_len hon] at this
      have et : t = M.d old i2 := by
        rw [O.d_at hon hl] at ht
        exact (Option.some.inj ht).symm
      have tn : t < M.n := by rw [et]; exact O.closed old i2 hon hl
      have hmem : gx g t ∈ orderOf M g := by rw [et]; exact OD.cl old (List.mem_of_getElem? ho) i2 hl
      have x6 := x3.trans x5
      exact ev_p (ev_lstIx (ev_var rfl) (ev_op (ev_var rfl) (ev_var rfl) (rv_ixL (sq_of (x6 _ _ (x2 _ _ hgp))) (at_vi (J.get tn)))) (sq_of (x6 _ _ hop)) hmem)
    · -- return (letters, outs, new_moves, tuple([outputs[old] for old in order]))
      have x13 := x12.trans x3
      change Ends.nx _ [some (V.ref a), some (vi M.k), some (vi M.o), some (V.ref ra), some (V.ref oa), some (V.ref gp), some (V.ref op), some v, none, none] _
      refine ⟨vi M.k, rfl, vi M.o, rfl, v, rfl, ?_⟩
      refine (eu_tupL (evl_of (ds := orderOf M g) (f := fun old => vi (M.v old)) (lcr_lst stab_eq (ev_var rfl) (sq_of (x3 _ _ hop)) (List.length_map ..) (by omega) (fun _ => rfl) (fun i x old' D H4 x4 _ hx hd => ?_)))) H3 (Ex.refl _) _ fun u H4 nu x4 hu => ⟨by show 4 ≤ sizeLine; decide, fun p np => ?_⟩
      · obtain ⟨old, ho, rfl, hon⟩ := oldOf i x hx
        rw [ho] at hd
        cases hd
        exact ev_p (ev_op (ev_var rfl) (ev_var rfl) (rv_ixT ((m3.ex (x13.trans x4)).sq) (at_vi (O.v_at hon))))
      · obtain ⟨rp, rs', rfl, h1, h2⟩ := hrows
        have x5 := x4.trans (Ex.new (o := .tup [vi M.k, vi M.o, .ref rp, .ref u]) np)
        have eu : (upd H4 p (.tup [vi M.k, vi M.o, .ref rp, .ref u])) u = some (.tup ((leastOf M g).out.map vi)) := by
          rw [Ex.new (o := .tup [vi M.k, vi M.o, .ref rp, .ref u]) np _ _ hu, least_out_map]
        have hL : MAt K (upd H4 p (.tup [vi M.k, vi M.o, .ref rp, .ref u])) p (leastOf M g) := ⟨rp, u, rs', upd_same, x5 _ _ h1, st_of eu, h2.mono fun _ _ z => x5 _ _ z⟩
        exact q p _ (leastOf M g) ⟨g, J, rfl⟩ (x13.trans x5) hL
end
end Mae

namespace Mae
open PySem PySem.Spec PyProof.Rows L2 Evl

theorem scPick : FnScope ["_law_numbers", "_law_at", "_law_many"] ["_law_numbers", "_law_at", "_law_many"] (defScope sPick) := ⟨rfl, rfl, rfl, by decide +kernel, rfl, by decide +kernel, by decide +kernel⟩
theorem scSizes : FnScope ["_law_numbers", "_law_states"] ["_law_numbers"] (defScope sSizes) := ⟨rfl, rfl, rfl, by decide +kernel, rfl, by decide +kernel, by decide +kernel⟩
theorem scMachine : FnScope ["_law_numbers", "_law_at", "_law_sizes_here", "_law_moves", "_law_outputs", "_law_k", "_law_j"] ["_law_numbers", "_law_at", "_law_sizes_here"] (defScope sMachine) := ⟨rfl, rfl, rfl, by decide +kernel, rfl, by decide +kernel, by decide +kernel⟩
theorem scRun : FnScope ["_law_machine_here", "_law_word", "_law_state", "_law_letter"] ["_law_machine_here", "_law_word"] (defScope sRun) := ⟨rfl, rfl, rfl, by decide +kernel, rfl, by decide +kernel, by decide +kernel⟩

/-- the numbers that the law draws from -/
structure Nums (K : PySem.W.Frag) (H : Hp) (na : Addr) (ns : List Int) : Prop where
  sq : SqL K H na (ns.map V.int)
  pos : 0 < ns.length
  few : ns.length ≤ 10000
theorem Nums.ex {K : PySem.W.Frag} {H H' : Hp} {na : Addr} {ns : List Int} (e : Ex H H') (h : Nums K H na ns) : Nums K H' na ns := ⟨ex_l e h.sq, h.pos, h.few⟩

section
variable {P : Program} {w : World} {K : PySem.W.Frag} {mg : Str → Option Value} {base : Heap}
def spPick (K : PySem.W.Frag) : Sp := fun vs H Q _ => ∃ (na : Addr) (ns : List Int) (at_ : Int) (many : Nat), vs = [.ref na, .int at_, vi many] ∧ Nums K H na ns ∧ 0 < many ∧ ∀ r : Nat, r < many → ∀ H', Ex H H' → Q (vi r) H'
theorem ok_pick {f : Addr} {fd : FuncData} {k : Nat} (F : Fun K "_law_pick" "_law_pick" sPick f fd) (ml : mg "len" = none) (mi : mg "int" = none) : FnOk P w K mg base CX0 (k + 1) f fd ["_law_numbers", "_law_at", "_law_many"] (spPick K) := by
  refine F.ok scPick (fun vs H Q E h => ?_) (fun cdv A outer s H vs Q E hr h => ?_)
  · obtain ⟨na, ns, at_, many, rfl, _⟩ := h
    rfl
  · obtain ⟨na, ns, at_, many, rfl, hN, hm, q⟩ := h
    refine ⟨_, pss_one (ps_ret (pe_op op_mod (pe_callTy call_int1 (by rfl) mi (by decide +kernel) (pa_cons (pe_ix ix_list (pv 0) (pe_op op_mod (pv 1) (pe_callB call_len_seq (by rfl) ml PySem.boot_len (pa_cons (pv 0) pa_nil))) (fun _ _ => rfl)) pa_nil)) (pv 2))), ?_⟩
    have hp : (0 : Int) < ((ns.map V.int).length : Int) := by rw [List.length_map]; have := hN.pos; omega
    have h0 := Int.emod_nonneg at_ (Int.ne_of_gt hp)
    have h1 := Int.emod_lt_of_pos at_ hp
    obtain ⟨j, hj⟩ : ∃ j : Nat, at_ % ((ns.map V.int).length : Int) = (j : Int) := ⟨(at_ % ((ns.map V.int).length : Int)).toNat, by omega⟩
    have hjl : j < ns.length := by rw [List.length_map] at h1 hj; omega
    have hx : (ns.map V.int)[j]? = some (.int ns[j]) := by rw [List.getElem?_map, List.getElem?_eq_getElem hjl]; rfl
    have hm' : (0 : Int) < (many : Int) := by omega
    refine ⟨.ref na, rfl, .int at_, rfl, .ref na, rfl, na, _, rfl, .inl hN.sq, at_, _, rfl, rfl, hp, na, _, _, .int ns[j], rfl, rfl, hN.sq, at_of hj hx, .inl ⟨ns[j], rfl, vi many, rfl, ns[j], (many : Int), rfl, rfl, hm', ?_⟩⟩
    have r0 := Int.emod_nonneg ns[j] (Int.ne_of_gt hm')
    have r1 := Int.emod_lt_of_pos ns[j] hm'
    have e : V.int (ns[j] % (many : Int)) = vi (ns[j] % (many : Int)).toNat := by
      show V.int _ = V.int _
      rw [Int.toNat_of_nonneg r0]
    show Q (V.int (ns[j] % (many : Int))) H
    rw [e]
    exact q _ (by omega) H (Ex.refl H)

def spSizes (K : PySem.W.Frag) : Sp := fun vs H Q _ => ∃ (na : Addr) (ns : List Int), vs = [.ref na] ∧ Nums K H na ns ∧ ∀ p H' (n k o : Nat), 1 ≤ n → n ≤ 30 → 1 ≤ k → k ≤ 4 → 1 ≤ o → Ex H H' → H' p = some (.tup [vi n, vi k, vi o]) → Q (.ref p) H'
theorem ok_sizes {f fP : Addr} {fd fdP : FuncData} {k : Nat} (F : Fun K "_law_sizes" "_law_sizes" sSizes f fd) (FP : Fun K "_law_pick" "_law_pick" sPick fP fdP) (bP : Binds K fdP ["_law_numbers", "_law_at", "_law_many"] []) (gP : mg "_law_pick" = some (.ref fP))
    (ml : mg "len" = none) (mi : mg "int" = none) : FnOk P w K mg base CX0 (k + 2) f fd ["_law_numbers"] (spSizes K) := by
  have GP : FnOk P w K mg base CX0 (k + 1) fP fdP ["_law_numbers", "_law_at", "_law_many"] (spPick K) := ok_pick FP ml mi
  refine F.ok scSizes (fun vs H Q E h => ?_) (fun cdv A outer s H vs Q E hr h => ?_)
  · obtain ⟨na, ns, rfl, _⟩ := h
    rfl
  · obtain ⟨na, ns, rfl, hN, q⟩ := h
    refine ⟨_, pss_cons (ps_set (i := 1) scSizes.nd rfl (.inl rfl) (pe_op op_add pe_int (pe_call GP hr (by rfl) gP FP.kp bP .nil pass0 (pa_cons (pv 0) (pa_cons pe_int (pa_cons pe_int pa_nil))))))
      (pss_cons (ps_if (pt_cmpR op_eq (pe_call GP hr (by rfl) gP FP.kp bP .nil pass0 (pa_cons (pv 0) (pa_cons pe_int (pa_cons pe_int pa_nil)))) pe_int (nomark _))
        (pss_one (ps_set (i := 1) scSizes.nd rfl (.inl rfl) (pe_op op_add pe_int (pe_call GP hr (by rfl) gP FP.kp bP .nil pass0 (pa_cons (pv 0) (pa_cons pe_int (pa_cons pe_int pa_nil))))))) pss_nil)
      (pss_one (ps_ret (pe_tup (pa_cons (pv 1) (pa_cons (pe_op op_add pe_int (pe_call GP hr (by rfl) gP FP.kp bP .nil pass0 (pa_cons (pv 0) (pa_cons pe_int (pa_cons pe_int pa_nil)))))
        (pa_cons (pe_op op_add pe_int (pe_call GP hr (by rfl) gP FP.kp bP .nil pass0 (pa_cons (pv 0) (pa_cons pe_int (pa_cons pe_int pa_nil))))) pa_nil))))))), ?_⟩
    -- the return, once
    have fin : ∀ (n : Nat) (H1 : Hp) (t : TS), 1 ≤ n → n ≤ 30 → Ex H H1 → t = tRet (tTup (tCons (tVar 1) (tCons (tOp (rI0 fun i j => .int (i + j)) (tC (.int 1)) (tCall (spPick K) [] E0 (tCons (tVar 0) (tCons (tC (.int 3)) (tCons (tC (.int 4)) tNil)))))
        (tCons (tOp (rI0 fun i j => .int (i + j)) (tC (.int 1)) (tCall (spPick K) [] E0 (tCons (tVar 0) (tCons (tC (.int 4)) (tCons (tC (.int 6)) tNil))))) tNil)))) →
        t { nx := fun _ H' => Q .non H', rt := Q } [some (.ref na), some (vi n)] H1 := by
      intro n H1 t h1 h2 x1 et
      subst et
      refine ⟨vi n, rfl, .ref na, rfl, na, ns, 3, 4, rfl, hN.ex x1, by decide, fun r3 l3 H2 x2 => ⟨1, (r3 : Int), rfl, rfl, ?_⟩⟩
      refine ⟨.ref na, rfl, na, ns, 4, 6, rfl, hN.ex (x1.trans x2), by decide, fun r4 l4 H3 x3 => ⟨1, (r4 : Int), rfl, rfl, by show 3 ≤ sizeLine; decide, fun p np => ?_⟩⟩
      have e3 : V.int (1 + (r3 : Int)) = vi (1 + r3) := by show V.int _ = V.int _; congr 1
      have e4 : V.int (1 + (r4 : Int)) = vi (1 + r4) := by show V.int _ = V.int _; congr 1
      show Q (.ref p) (upd H3 p (.tup [vi n, V.int (1 + (r3 : Int)), V.int (1 + (r4 : Int))]))
      rw [e3, e4]
      exact q p _ n (1 + r3) (1 + r4) h1 h2 (by omega) (by omega) (by omega) (((x1.trans x2).trans x3).trans (Ex.new np)) upd_same
    refine ⟨.ref na, rfl, na, ns, 0, 6, rfl, hN, by decide, fun r0 l0 H1 x1 => ⟨1, (r0 : Int), rfl, rfl, ?_⟩⟩
    refine ⟨.ref na, rfl, na, ns, 1, 12, rfl, hN.ex x1, by decide, fun r1 l1 H2 x2 => ⟨rfl, _, rfl, ite2 (fun e => ?_) (fun e => ?_)⟩⟩
    · refine ⟨.ref na, rfl, na, ns, 2, 7, rfl, hN.ex (x1.trans x2), by decide, fun r2 l2 H3 x3 => ⟨24, (r2 : Int), rfl, rfl, ?_⟩⟩
      have e2 : V.int (24 + (r2 : Int)) = vi (24 + r2) := by show V.int _ = V.int _; congr 1
      have := fin (24 + r2) H3 _ (by omega) (by omega) ((x1.trans x2).trans x3) rfl
      rw [← e2] at this
      exact this
    · have e2 : V.int (1 + (r0 : Int)) = vi (1 + r0) := by show V.int _ = V.int _; congr 1
      have := fin (1 + r0) H2 _ (by omega) (by omega) (x1.trans x2) rfl
      rw [← e2] at this
      exact this
end
end Mae

namespace Mae
open PySem PySem.Spec PyProof.Rows L2 Evl

theorem take_snoc {u : List Nat} {i l : Nat} (h : u[i]? = some l) : u.take (i + 1) = u.take i ++ [l] := by
  rw [List.take_add_one, h]
  rfl
theorem vw_take {k : Nat} {u : List Nat} (h : Vw k u) (i : Nat) : Vw k (u.take i) := fun a ha => h a (List.mem_of_mem_take ha)
theorem vi_item {ns : List Nat} {i : Nat} {x : V} (h : (ns.map vi)[i]? = some x) : ∃ n, ns[i]? = some n ∧ x = vi n := by
  rw [List.getElem?_map] at h
  obtain ⟨n, h1, h2⟩ := Option.map_eq_some_iff.mp h
  exact ⟨n, h1, h2.symm⟩
/-- rows that were drawn -/
theorem fa_picks {m : Nat} {δ : Type} : ∀ {xs : List V} {ds : List δ}, Fa (fun x _ => ∃ r, r < m ∧ x = vi r) xs ds → ∃ row : List Nat, xs = row.map vi ∧ row.length = ds.length ∧ ∀ s ∈ row, s < m
  | _, _, .nil => ⟨[], rfl, rfl, fun s h => by cases h⟩
  | _, _, .cons ⟨r, h1, h2⟩ t => by
    obtain ⟨row, e1, e2, e3⟩ := fa_picks t
    refine ⟨r :: row, by rw [List.map_cons, h2, e1], by rw [List.length_cons, List.length_cons, e2], fun s hs => ?_⟩
    rcases List.mem_cons.mp hs with rfl | hs
    · exact h1
    · exact e3 s hs
theorem stab_picks {δ : Type} {m : Nat} : Stab (fun (_ : Addr) (_ : δ) x (_ : Hp) => ∃ r, r < m ∧ x = vi r) := fun _ _ _ _ _ h _ => h

section
variable {P : Program} {w : World} {K : PySem.W.Frag} {mg : Str → Option Value} {base : Heap}
def spRun (K : PySem.W.Frag) : Sp := fun vs H Q _ => ∃ (a wa : Addr) (M : Mach) (u : List Nat), vs = [.ref a, .ref wa] ∧ MAt K H a M ∧ M.Ok ∧ SqL K H wa (u.map vi) ∧ Vw M.k u ∧ ∀ H', Ex H H' → Q (vi (run M.d 0 u)) H'
theorem ok_run {f : Addr} {fd : FuncData} {k : Nat} (F : Fun K "_law_run" "_law_run" sRun f fd) : FnOk P w K mg base CX0 (k + 1) f fd ["_law_machine_here", "_law_word"] (spRun K) := by
  refine F.ok scRun (fun vs H Q E h => ?_) (fun cdv A outer s H vs Q E hr h => ?_)
  · obtain ⟨a, wa, M, u, rfl, _⟩ := h
    rfl
  · obtain ⟨a, wa, M, u, rfl, hM, O, hw, hv, q⟩ := h
    refine ⟨_, pss_cons (ps_set (i := 2) scRun.nd rfl (.inl rfl) pe_int)
      (pss_cons (ps_for PassesOwn.never rfl (pi_list (pv 1)) (pg_name (i := 3) scRun.nd rfl (.inl rfl))
        (pss_one (ps_set (i := 2) scRun.nd rfl (.inl rfl) (pe_ix ix_tup (pe_ix ix_tup (pe_ix ix_tup (pv 0) pe_int (fun _ _ => rfl)) (pv 2) (fun _ _ => rfl)) (pv 3) (fun _ _ => rfl)))))
      (pss_one (ps_ret (pv 2)))), ?_⟩
    refine s_forL (ev_var rfl) hw (fun i σ' H' => ∃ y3, σ' = [some (.ref a), some (.ref wa), some (vi (run M.d 0 (u.take i))), y3] ∧ Ex H H') (fun H1 x1 => ⟨none, rfl, x1⟩) ?_ ?_ ?_
    · rintro i σ' H1 _ ⟨y3, rfl, x1⟩
      exact ex_l x1 hw
    · rintro i x σ' H1 hx ⟨y3, rfl, x1⟩
      obtain ⟨l, hl, rfl⟩ := vi_item hx
      refine s_asg (ev_step O (hM.ex x1) (ev_var rfl) (ev_var rfl) (run_lt O.closed _ 0 O.np (vw_take hv i)) (ev_var rfl) (hv l (List.mem_of_getElem? hl))) fun H2 x2 => ?_
      refine ⟨some (vi l), ?_, x1.trans x2⟩
      rw [take_snoc hl, run_snoc]
      rfl
    · rintro σ' H1 ⟨y3, rfl, x1⟩
      rw [List.length_map, List.take_length]
      exact ⟨vi (run M.d 0 u), rfl, q H1 x1⟩

section
variable {σ : L2.St} {H : Hp} {ta tb tc te : TE}
theorem evp_pick {na : Addr} {ns : List Int} {at_ : Int} {many : Nat} (ha : Ev ta σ H (.ref na)) (hb : Ev tb σ H (.int at_)) (hc : Ev tc σ H (vi many)) (hN : Nums K H na ns) (hm : 0 < many) :
    EvP (tCall (spPick K) [] E0 (tCons ta (tCons tb (tCons tc tNil)))) σ H (fun v _ => ∃ r, r < many ∧ v = vi r) := fun H1 e Q q =>
  ha H1 e _ fun H2 e2 => hb H2 (e.trans e2) _ fun H3 e3 => hc H3 ((e.trans e2).trans e3) _ fun H4 e4 =>
    ⟨na, ns, at_, many, rfl, hN.ex (((e.trans e2).trans e3).trans e4), hm, fun r hr H5 e5 => q (vi r) H5 (((e2.trans e3).trans e4).trans e5) ⟨r, hr, rfl⟩⟩
theorem evp_tupPicks {m : Nat} {δ : Type} {ds : List δ} (h : EvLR te σ H (fun _ _ x _ => ∃ r, r < m ∧ x = vi r) ds) :
    EvP (tCB (rTupO K) (tCons te tNil)) σ H (fun v H' => ∃ (p : Addr) (row : List Nat), v = .ref p ∧ H' p = some (.tup (row.map vi)) ∧ row.length = ds.length ∧ ∀ s ∈ row, s < m) := fun H1 e Q q =>
  h H1 e _ fun D xs H2 hD e2 h2 hf => by
    obtain ⟨row, e3, e4, e5⟩ := fa_picks hf
    exact ⟨D, xs, rfl, .inl ⟨sq_of h2, fun l hl => q _ _ (e2.trans (Ex.new hl)) ⟨l, row, rfl, by rw [upd_same, e3], e4, e5⟩⟩⟩
end

def spMachine (K : PySem.W.Frag) : Sp := fun vs H Q _ => ∃ (na sz : Addr) (ns : List Int) (at_ : Int) (n kk o : Nat), vs = [.ref na, .int at_, .ref sz] ∧ Nums K H na ns ∧ H sz = some (.tup [vi n, vi kk, vi o]) ∧ 1 ≤ n ∧ n ≤ 30 ∧ 1 ≤ kk ∧ kk ≤ 4 ∧ 1 ≤ o ∧
  ∀ p H' M, M.Ok → M.n = n → M.k = kk → M.o = o → Ex H H' → MAt K H' p M → Q (.ref p) H'
theorem ok_machine {f fP : Addr} {fd fdP : FuncData} {k : Nat} (F : Fun K "_law_machine" "_law_machine" sMachine f fd) (FP : Fun K "_law_pick" "_law_pick" sPick fP fdP) (bP : Binds K fdP ["_law_numbers", "_law_at", "_law_many"] []) (gP : mg "_law_pick" = some (.ref fP))
    (ml : mg "len" = none) (mi : mg "int" = none) (mr : mg "range" = none) (mt : mg "tuple" = none) : FnOk P w K mg base CX0 (k + 2) f fd ["_law_numbers", "_law_at", "_law_sizes_here"] (spMachine K) := by
  have GP : FnOk P w K mg base CX0 (k + 1) fP fdP ["_law_numbers", "_law_at", "_law_many"] (spPick K) := ok_pick FP ml mi
  refine F.ok scMachine (fun vs H Q E h => ?_) (fun cdv A outer s H vs Q E hr h => ?_)
  · obtain ⟨na, sz, ns, at_, n, kk, o, rfl, _⟩ := h
    rfl
  · obtain ⟨na, sz, ns, at_, n, kk, o, rfl, hN, hsz, n1, n2, k1, k2, o1, q⟩ := h
    refine ⟨_, pss_cons (ps_set (i := 3) scMachine.nd rfl (.inl rfl) (pe_lst pa_nil))
      (pss_cons (ps_set (i := 4) scMachine.nd rfl (.inl rfl) (pe_lst pa_nil))
      (pss_cons (ps_for PassesOwn.never rfl (pi_range1 (by rfl) mr (pa_cons (pe_ix ix_tup (pv 2) pe_int (fun _ _ => rfl)) pa_nil)) (pg_name (i := 5) scMachine.nd rfl (.inr rfl))
        (pss_cons (ps_expr (pe_bm PySem.F.plainAttrs_list PySem.F.slot_list_append PySem.F.type_list_append mt_append (pv 3) (pa_cons (pe_callTy call_tuple_of (by rfl) mt (by decide +kernel) (pa_cons
          (pe_lc (own := [("_law_j", 6)]) (g := gName 6) (tt := tYes)
            (te := tCall (spPick K) [] E0 (tCons (tVar 0) (tCons (tOp (rI0 fun i j => .int (i + j)) (tOp (rI0 fun i j => .int (i + j)) (tVar 1) (tOp (rI CMul fun i j => .int (i * j)) (tC (.int 5)) (tVar 5))) (tVar 6)) (tCons (tOp (rIxT K) (tVar 2) (tC (.int 0))) tNil))))
            rfl scMachine.nd (pi_range1 (by rfl) mr (pa_cons (pe_ix ix_tup (pv 2) pe_int (fun _ _ => rfl)) pa_nil))
            (blkOk_by (own := [("_law_j", 6)]) (N := ["_law_numbers", "_law_at", "_law_sizes_here", "_law_moves", "_law_outputs", "_law_k", "_law_j"]) (sc := defScope sMachine) (by decide +kernel))
            (fun _ _ _ _ _ => pg_name (i := 6) scMachine.nd rfl (Or.inl rfl)) (fun _ _ _ _ _ => pts_nil)
            (fun _ _ _ _ _ => pe_call GP hr (by rfl) gP FP.kp bP .nil pass0 (pa_cons (pv 0) (pa_cons (pe_op op_add (pe_op op_add (pv 1) (pe_op op_mul pe_int (pv 5))) (pv 6)) (pa_cons (pe_ix ix_tup (pv 2) pe_int (fun _ _ => rfl)) pa_nil))))) pa_nil)) pa_nil)))
        (pss_one (ps_expr (pe_bm PySem.F.plainAttrs_list PySem.F.slot_list_append PySem.F.type_list_append mt_append (pv 4) (pa_cons
          (pe_call GP hr (by rfl) gP FP.kp bP .nil pass0 (pa_cons (pv 0) (pa_cons (pe_op op_add (pe_op op_add (pv 1) (pe_op op_mul pe_int (pv 5))) pe_int) (pa_cons (pe_ix ix_tup (pv 2) pe_int (fun _ _ => rfl)) pa_nil)))) pa_nil))))))
      (pss_one (ps_ret (pe_tup (pa_cons (pe_ix ix_tup (pv 2) pe_int (fun _ _ => rfl)) (pa_cons (pe_ix ix_tup (pv 2) pe_int (fun _ _ => rfl)) (pa_cons (pe_callTy call_tuple_of (by rfl) mt (by decide +kernel) (pa_cons (pv 3) pa_nil))
        (pa_cons (pe_callTy call_tuple_of (by rfl) mt (by decide +kernel) (pa_cons (pv 4) pa_nil)) pa_nil))))))))), ?_⟩
    refine ⟨Nat.zero_le _, fun mvl nmv => ⟨Nat.zero_le _, fun oul nou => ?_⟩⟩
    have mo : mvl ≠ oul := fun z => by rw [← z, upd_same] at nou; cases nou
    have x1 : Ex H (upd (upd H mvl (.lst [])) oul (.lst [])) := (Ex.new nmv).trans (Ex.new nou)
    have fou : H oul = none := fresh_back (Ex.new nmv) nou
    refine s_forR1 (ea_cons (ev_op (ev_var rfl) ev_c (rv_ixT (st_of (x1 _ _ hsz)) (atI_nat (j := 0) rfl))) ea_nil) ⟨by omega, by omega⟩
      (fun i σ' H' => ∃ (rs : List Addr) (rows : List (List Nat)) (outs : List Nat) (y5 : Option V), σ' = [some (.ref na), some (.int at_), some (.ref sz), some (.ref mvl), some (.ref oul), y5, none] ∧ Ex H H' ∧ H' mvl = some (.lst (rs.map V.ref)) ∧ H' oul = some (.lst (outs.map vi)) ∧
        Fa (fun r row => H' r = some (.tup (row.map vi))) rs rows ∧ rows.length = i ∧ (∀ row ∈ rows, row.length = kk ∧ ∀ s ∈ row, s < n) ∧ outs.length = i)
      (fun H2 x2 => ⟨[], [], [], none, rfl, x1.trans x2, x2 _ _ (by rw [upd_ne mo, upd_same]; rfl), x2 _ _ upd_same, .nil, rfl, (fun row h => by cases h), rfl⟩) ?_ ?_
    · rintro i σ' H2 hi ⟨rs, rows, outs, y5, rfl, x2, hmv, hou, hf, hl, hrows, hlo⟩
      have lim : rs.length ≤ 1000 := by rw [hf.length, hl]; omega
      have mul5 : CMul 5 (i : Int) := .inl ⟨by decide, by decide⟩
      -- moves.append(tuple([..]))
      refine ⟨.ref mvl, rfl, .inl ⟨rfl, _, sq_of hmv⟩, ?_⟩
      refine (evp_tupPicks (K := K) (m := n) (ds := List.range kk) (lcr_rng stab_picks (n := kk) (ea_cons (ev_op (ev_var rfl) ev_c (rv_ixT (st_of (x2 _ _ hsz)) (atI_nat (j := 1) rfl))) ea_nil) List.length_range.symm (by rw [List.length_range]; omega) (fun _ => rfl) (fun l d D H3 x3 _ _ => ?_))) H2 (Ex.refl _) _ fun v H3 x3 hv => ?_
      · exact evp_pick (ev_var rfl) (ev_op (ev_op (ev_var rfl) (ev_op ev_c (ev_var rfl) (rv_I mul5)) rv_I0) (ev_var rfl) rv_I0) (ev_op (ev_var rfl) ev_c (rv_ixT (st_of (x3 _ _ (x2 _ _ hsz))) (atI_nat (j := 0) rfl))) (hN.ex (x2.trans x3)) (by omega)
      · obtain ⟨p, row, rfl, hp, hrl, hrs⟩ := hv
        rw [List.length_range] at hrl
        refine ⟨mvl, _, .ref p, rfl, rfl, x3 _ _ hmv, by rw [List.length_map]; exact small1000 lim, ?_⟩
        have x4 : Ex H (upd H3 mvl (.lst (rs.map V.ref ++ [.ref p]))) := Ex.mut (x2.trans x3) nmv
        have hou4 : (upd H3 mvl (.lst (rs.map V.ref ++ [.ref p]))) oul = some (.lst (outs.map vi)) := by rw [upd_ne mo.symm]; exact x3 _ _ hou
        have hf4 : Fa (fun r row => (upd H3 mvl (.lst (rs.map V.ref ++ [.ref p]))) r = some (.tup (row.map vi))) (rs ++ [p]) (rows ++ [row]) := by
          refine Fa.snoc ?_ (hf.mono fun r row' z => ?_)
          · rw [upd_ne (ne_of hp (x3 _ _ hmv) (fun z => nomatch z))]; exact hp
          · rw [upd_ne (ne_of z hmv (fun z => nomatch z))]; exact x3 _ _ z
        -- outputs.append(..)
        refine ⟨.ref oul, rfl, .inl ⟨rfl, _, sq_of hou4⟩, ?_⟩
        refine (evp_pick (K := K) (ns := ns) (many := o) (ev_var rfl) (ev_op (ev_op (ev_var rfl) (ev_op ev_c (ev_var rfl) (rv_I mul5)) rv_I0) ev_c rv_I0) (ev_op (ev_var rfl) ev_c (rv_ixT (st_of (x4 _ _ hsz)) (atI_nat (j := 2) rfl))) (hN.ex x4) (by omega)) _ (Ex.refl _) _ fun v H5 x5 hv => ?_
        obtain ⟨r, hr1, rfl⟩ := hv
        refine ⟨oul, _, vi r, rfl, rfl, x5 _ _ hou4, by rw [List.length_map]; exact small1000 (by omega), ?_⟩
        refine ⟨rs ++ [p], rows ++ [row], outs ++ [r], some (vi i), rfl, Ex.mut (x4.trans x5) fou, ?_, by rw [upd_same, List.map_append]; rfl, hf4.mono fun r' row' z => ?_, by rw [List.length_append, hl]; rfl, fun row' hm => ?_, by rw [List.length_append, hlo]; rfl⟩
        · rw [upd_ne mo, List.map_append]
          exact x5 _ _ upd_same
        · rw [upd_ne (ne_of z hou4 (fun z => nomatch z))]
          exact x5 _ _ z
        · rcases List.mem_append.mp hm with hm | hm
          · exact hrows row' hm
          · rw [List.mem_singleton.mp hm]
            exact ⟨hrl, hrs⟩
    · rintro σ' H2 ⟨rs, rows, outs, y5, rfl, x2, hmv, hou, hf, hl, hrows, hlo⟩
      rw [Int.toNat_natCast] at hl hlo
      -- return (..)
      refine ⟨.ref sz, rfl, sz, _, _, vi kk, rfl, rfl, st_of (x2 _ _ hsz), atI_nat (j := 1) rfl, .ref sz, rfl, sz, _, _, vi o, rfl, rfl, st_of (x2 _ _ hsz), atI_nat (j := 2) rfl, ?_⟩
      refine ⟨.ref mvl, rfl, mvl, _, rfl, .inl ⟨sq_of hmv, fun ra nra => ?_⟩⟩
      have x3 := Ex.new (o := .tup (rs.map V.ref)) nra
      refine ⟨.ref oul, rfl, oul, _, rfl, .inl ⟨sq_of (x3 _ _ hou), fun oa noa => ?_⟩⟩
      have x4 := Ex.new (o := .tup (outs.map vi)) noa
      refine ⟨by show 4 ≤ sizeLine; decide, fun p np => ?_⟩
      have x5 := Ex.new (o := .tup [vi kk, vi o, .ref ra, .ref oa]) np
      have O : (Mach.mk kk o rows outs).Ok := ⟨k1, by show 1 ≤ rows.length; omega, by show rows.length ≤ 30; omega, k2, by show outs.length = rows.length; omega, fun r hr => by
        show r.length = kk ∧ ∀ s ∈ r, s < rows.length
        rw [hl]
        exact hrows r hr⟩
      exact q p _ (Mach.mk kk o rows outs) O hl rfl rfl (((x2.trans x3).trans x4).trans x5) ⟨ra, oa, rs, upd_same, x5 _ _ (x4 _ _ upd_same), st_of (x5 _ _ upd_same), hf.mono fun _ _ z => x5 _ _ (x4 _ _ (x3 _ _ z))⟩
end
end Mae

namespace Mae
open PySem PySem.Spec PyProof.Rows L2 Evl

theorem scFew : FnScope ["_law_numbers", "_law_machine_here", "_law_few_here", "_law_outputs", "_law_output"] ["_law_numbers", "_law_machine_here"] (defScope sFew) := ⟨rfl, rfl, rfl, by decide +kernel, rfl, by decide +kernel, by decide +kernel⟩
theorem scDoubled : FnScope ["_law_numbers", "_law_machine_here", "_law_states", "_law_moves", "_law_k", "_law_row", "_law_j"] ["_law_numbers", "_law_machine_here"] (defScope sDoubled) := ⟨rfl, rfl, rfl, by decide +kernel, rfl, by decide +kernel, by decide +kernel⟩
theorem scChanged : FnScope ["_law_numbers", "_law_machine_here", "_law_moves", "_law_outputs", "_law_place", "_law_row"] ["_law_numbers", "_law_machine_here"] (defScope sChanged) := ⟨rfl, rfl, rfl, by decide +kernel, rfl, by decide +kernel, by decide +kernel⟩

theorem fa_vals {δ : Type} {G : δ → Nat → Prop} : ∀ {xs : List V} {ds : List δ}, Fa (fun x d => ∃ r, G d r ∧ x = vi r) xs ds → ∃ row : List Nat, xs = row.map vi ∧ Fa (fun r d => G d r) row ds
  | _, _, .nil => ⟨[], rfl, .nil⟩
  | _, _, .cons ⟨r, h1, h2⟩ t => by
    obtain ⟨row, e1, e2⟩ := fa_vals t
    exact ⟨r :: row, by rw [List.map_cons, h2, e1], .cons h1 e2⟩
theorem stab_vals {δ : Type} {G : δ → Nat → Prop} : Stab (fun (_ : Addr) d x (_ : Hp) => ∃ r, G d r ∧ x = vi r) := fun _ _ _ _ _ h _ => h
def rInt1 : List V → Hp → VK → Prop := fun xs H Q => (∃ i, xs = [.int i] ∧ Q (.int i) H) ∨ ∃ k, xs = [.bl k] ∧ Q (.int (if k then 1 else 0)) H
theorem b2n (b : Bool) : V.int (if b = true then 1 else 0) = vi (if b = true then 1 else 0) := by cases b <;> rfl
theorem ev_intB {σ : L2.St} {H : Hp} {te : TE} {b : Bool} (h : Ev te σ H (.bl b)) : Ev (tCB rInt1 (tCons te tNil)) σ H (vi (if b = true then 1 else 0)) := fun H1 e Q q => h H1 e _ fun H2 e2 => .inr ⟨b, rfl, by rw [b2n]; exact q H2 e2⟩

/-- a machine whose states are doubled -/
theorem dbl {M D : Mach} (O : M.Ok) (hn : M.n ≤ 15) (hk : D.k = M.k) (hmv : D.mv.length = 2 * M.n) (ho : D.out = M.out ++ M.out)
    (hr : ∀ (s : Nat) (row : List Nat), D.mv[s]? = some row → Fa (fun t j => t < 2 * M.n ∧ t % M.n = M.d (s % M.n) j) row (List.range M.k)) : D.Ok ∧ Alike M D := by
  have np := O.np
  have OD : D.Ok := by
    refine ⟨by rw [hk]; exact O.kp, by show 1 ≤ D.mv.length; omega, by show D.mv.length ≤ 30; omega, by rw [hk]; exact O.km, ?_, fun r hm => ?_⟩
    · show D.out.length = D.mv.length
      rw [ho, List.length_append, O.len]
      omega
    · obtain ⟨s, hs⟩ := List.mem_iff_getElem?.mp hm
      have f := hr s r hs
      refine ⟨by rw [f.length, List.length_range, hk], fun t ht => ?_⟩
      obtain ⟨j, hj⟩ := List.mem_iff_getElem?.mp ht
      obtain ⟨_, _, h1, _⟩ := f.get hj
      show t < D.mv.length
      omega
  refine ⟨OD, ?_⟩
  have hd : ∀ s a, s < 2 * M.n → a < M.k → D.d s a < 2 * M.n ∧ D.d s a % M.n = M.d (s % M.n) a := fun s a hs ha => by
    have hs' : s < D.n := by show s < D.mv.length; omega
    have f := hr s _ (D.row_at hs')
    obtain ⟨j, h1, h2⟩ := f.get (OD.d_at hs' (by rw [hk]; exact ha))
    rw [List.getElem?_range ha] at h1
    cases h1
    exact h2
  have hv : ∀ s, s < 2 * M.n → D.v s = M.v (s % M.n) := fun s hs => by
    have hs' : s < D.n := by show s < D.mv.length; omega
    have e := OD.v_at hs'
    rw [ho] at e
    by_cases h : s < M.n
    · rw [List.getElem?_append_left (by rw [O.len]; exact h), O.v_at h] at e
      rw [Nat.mod_eq_of_lt h]
      exact (Option.some.inj e).symm
    · rw [List.getElem?_append_right (by rw [O.len]; omega), O.len, O.v_at (by omega)] at e
      have em : s % M.n = s - M.n := by
        rw [Nat.mod_eq_sub_mod (by omega)]
        exact Nat.mod_eq_of_lt (by omega)
      rw [em]
      exact (Option.some.inj e).symm
  have hrun : ∀ (w : List Nat) (s : Nat), s < 2 * M.n → Vw M.k w → run D.d s w < 2 * M.n ∧ run D.d s w % M.n = run M.d (s % M.n) w := by
    intro w
    induction w with
    | nil => exact fun s hs _ => ⟨hs, rfl⟩
    | cons a w ih =>
      intro s hs hw
      obtain ⟨ha, hw⟩ := vw_cons.mp hw
      obtain ⟨h1, h2⟩ := hd s a hs ha
      have := ih (D.d s a) h1 hw
      rw [h2] at this
      exact this
  intro w hw
  obtain ⟨h1, h2⟩ := hrun w 0 (by omega) hw
  rw [hv _ h1, h2, Nat.zero_mod]

theorem evp_tupVals {K : PySem.W.Frag} {δ : Type} {G : δ → Nat → Prop} {ds : List δ} {te : TE} {σ : L2.St} {H : Hp} (h : EvLR te σ H (fun _ d x _ => ∃ r, G d r ∧ x = vi r) ds) :
    EvP (tCB (rTupO K) (tCons te tNil)) σ H (fun v H' => ∃ (p : Addr) (row : List Nat), v = .ref p ∧ H' p = some (.tup (row.map vi)) ∧ Fa (fun r d => G d r) row ds) := fun H1 e Q q =>
  h H1 e _ fun D xs H2 hD e2 h2 hf => by
    obtain ⟨row, e3, e4⟩ := fa_vals hf
    exact ⟨D, xs, rfl, .inl ⟨sq_of h2, fun l hl => q _ _ (e2.trans (Ex.new hl)) ⟨l, row, rfl, by rw [upd_same, e3], e4⟩⟩⟩
theorem s_asgLR {δ : Type} {R : Addr → δ → V → Hp → Prop} {ds : List δ} {te : TE} {σ : L2.St} {H : Hp} {De : Ends} {i : Nat} (h : EvLR te σ H R ds)
    (k : ∀ D xs H1, H D = none → Ex H H1 → H1 D = some (.lst xs) → Fa (fun x d => R D d x H1) xs ds → De.nx (σ.set i (some (.ref D))) H1) : tAsg te (gName i) De σ H := h H (Ex.refl H) _ k
section
variable {P : Program} {w : World} {K : PySem.W.Frag} {mg : Str → Option Value} {base : Heap}
def spFew (K : PySem.W.Frag) : Sp := fun vs H Q _ => ∃ (na a : Addr) (ns : List Int) (M : Mach), vs = [.ref na, .ref a] ∧ Nums K H na ns ∧ MAt K H a M ∧ M.Ok ∧ ∀ p H' M', M'.Ok → M'.n = M.n → M'.k = M.k → M'.o = M.o → Ex H H' → MAtP H' p M' → Q (.ref p) H'
theorem ok_few {f fP : Addr} {fd fdP : FuncData} {k : Nat} (F : Fun K "_law_few" "_law_few" sFew f fd) (FP : Fun K "_law_pick" "_law_pick" sPick fP fdP) (bP : Binds K fdP ["_law_numbers", "_law_at", "_law_many"] []) (gP : mg "_law_pick" = some (.ref fP))
    (ml : mg "len" = none) (mi : mg "int" = none) (mt : mg "tuple" = none) : FnOk P w K mg base CX0 (k + 2) f fd ["_law_numbers", "_law_machine_here"] (spFew K) := by
  have GP : FnOk P w K mg base CX0 (k + 1) fP fdP ["_law_numbers", "_law_at", "_law_many"] (spPick K) := ok_pick FP ml mi
  refine F.ok scFew (fun vs H Q E h => ?_) (fun cdv A outer s H vs Q E hr h => ?_)
  · obtain ⟨na, a, ns, M, rfl, _⟩ := h
    rfl
  · obtain ⟨na, a, ns, M, rfl, hN, hM, O, q⟩ := h
    refine ⟨_, pss_cons (ps_set (i := 2) scFew.nd rfl (.inr rfl) (pe_op op_add pe_int (pe_call GP hr (by rfl) gP FP.kp bP .nil pass0 (pa_cons (pv 0) (pa_cons pe_int (pa_cons pe_int pa_nil))))))
      (pss_cons (ps_setLc (i := 3) (own := [("_law_output", 4)]) (g := gName 4) (tt := tYes)
        (te := tCB rInt1 (tCons (tAndV (tOp rEq (tOp (rI (fun _ j => 0 < j) fun i j => .int (i % j)) (tVar 4) (tVar 2)) (tC (.int 0))) (tOp (rI0 fun i j => .bl (decide (j < i))) (tOp (rIxT K) (tVar 1) (tC (.int 1))) (tC (.int 1)))) tNil))
        rfl scFew.nd rfl rfl (sw_true rfl rfl rfl (by decide +kernel)) (pi_tup (pe_ix ix_tup (pv 1) pe_int (fun _ _ => rfl)))
        (blkOk_by (own := [("_law_output", 4)]) (N := ["_law_numbers", "_law_machine_here", "_law_few_here", "_law_outputs", "_law_output"]) (sc := defScope sFew) (by decide +kernel))
        (fun _ _ _ _ _ => pg_name (i := 4) scFew.nd rfl (Or.inl rfl)) (fun _ _ _ _ _ => pts_nil)
        (fun _ _ _ _ _ => pe_callTy call_int1 (by rfl) mi (by decide +kernel) (pa_cons (pe_and (pe_cmpR op_eq (pe_op op_mod (pv 4) (pv 2)) pe_int (nomark _)) (pe_one (pe_cmpR op_gt (pe_ix ix_tup (pv 1) pe_int (fun _ _ => rfl)) pe_int (nomark _)))) pa_nil)))
      (pss_one (ps_ret (pe_tup (pa_cons (pe_ix ix_tup (pv 1) pe_int (fun _ _ => rfl)) (pa_cons (pe_ix ix_tup (pv 1) pe_int (fun _ _ => rfl)) (pa_cons (pe_ix ix_tup (pv 1) pe_int (fun _ _ => rfl))
        (pa_cons (pe_callTy cr_tupF (by rfl) mt (by decide +kernel) (pa_cons (pv 3) pa_nil)) pa_nil)))))))), ?_⟩
    obtain ⟨ra, oa, rs, m1, m2, m3, m4⟩ := id hM
    -- few
    refine ⟨.ref na, rfl, na, ns, 6, 4, rfl, hN, by decide, fun r6 l6 H1 x1 => ⟨1, (r6 : Int), rfl, rfl, ?_⟩⟩
    have e6 : V.int (1 + (r6 : Int)) = vi (1 + r6) := by show V.int _ = V.int _; congr 1
    -- outputs
    refine s_asgLR (lcr_tup (K := K) (ds := M.out) (xs := M.out.map vi) (R := fun _ _ x _ => ∃ r, r < 2 ∧ x = vi r) stab_picks (ev_op (ev_var rfl) ev_c (rv_ixT (st_of (x1 _ _ m1)) (atI_nat (j := 3) rfl))) (ex_t x1 m3) (List.length_map ..) (by rw [O.len]; have := O.nm; omega) (fun _ => rfl) (fun i x d D H2 x2 _ hx hd => ?_)) fun D xs H2 nD x2 hD hf => ?_
    · obtain ⟨n', _, rfl⟩ := vi_item hx
      have hpos : (0 : Int) < 1 + (r6 : Int) := by omega
      refine EvP.imp (ev_p (ev_intB (ev_andV (a := decide (V.int ((n' : Int) % (1 + (r6 : Int))) = V.int 0)) (b := decide ((1 : Int) < (M.o : Int))) (ev_op (ev_op (ev_var rfl) (ev_var rfl) (rv_I hpos)) ev_c (rv_eq rfl)) (fun _ => ev_op (ev_o (hM.ex (x1.trans x2)) (ev_var rfl)) ev_c rv_I0)))) fun v H' e => ?_
      refine ⟨_, ?_, e⟩
      split <;> decide
    · obtain ⟨outs, e1, e2, _⟩ := fa_picks hf
      subst e1
      have x3 := x1.trans x2
      refine ⟨.ref a, rfl, a, _, _, vi M.k, rfl, rfl, st_of (x3 _ _ m1), atI_nat (j := 0) rfl, .ref a, rfl, a, _, _, vi M.o, rfl, rfl, st_of (x3 _ _ m1), atI_nat (j := 1) rfl, .ref a, rfl, a, _, _, .ref ra, rfl, rfl, st_of (x3 _ _ m1), atI_nat (j := 2) rfl, ?_⟩
      refine ⟨.ref D, rfl, D, _, rfl, sq_of hD, fun u ob nu hc hdi => ⟨by show 4 ≤ sizeLine; decide, fun p np => ?_⟩⟩
      have x4 := Ex.new (o := .frz ob (.tup (outs.map vi))) nu
      have x5 := Ex.new (o := .tup [vi M.k, vi M.o, .ref ra, .ref u]) np
      have OM : (Mach.mk M.k M.o M.mv outs).Ok := ⟨O.kp, O.np, O.nm, O.km, by show outs.length = M.n; rw [e2, O.len], O.row⟩
      exact q p _ (Mach.mk M.k M.o M.mv outs) OM rfl rfl rfl ((x3.trans x4).trans x5) ⟨ra, u, rs, upd_same, x5 _ _ (x4 _ _ (x3 _ _ m2)), ⟨ob, hc, hdi, x5 _ _ upd_same⟩, m4.mono fun _ _ z => x5 _ _ (x4 _ _ (x3 _ _ z))⟩

def spDoubled (K : PySem.W.Frag) : Sp := fun vs H Q _ => ∃ (na a : Addr) (ns : List Int) (M : Mach), vs = [.ref na, .ref a] ∧ Nums K H na ns ∧ MAt K H a M ∧ M.Ok ∧ M.n ≤ 15 ∧ ∀ p H' M', M'.Ok → M'.k = M.k → M'.o = M.o → Alike M M' → Ex H H' → MAtP H' p M' → Q (.ref p) H'
theorem ok_doubled {f fP : Addr} {fd fdP : FuncData} {k : Nat} (F : Fun K "_law_doubled" "_law_doubled" sDoubled f fd) (FP : Fun K "_law_pick" "_law_pick" sPick fP fdP) (bP : Binds K fdP ["_law_numbers", "_law_at", "_law_many"] []) (gP : mg "_law_pick" = some (.ref fP))
    (ml : mg "len" = none) (mi : mg "int" = none) (mr : mg "range" = none) (mt : mg "tuple" = none) : FnOk P w K mg base CX0 (k + 2) f fd ["_law_numbers", "_law_machine_here"] (spDoubled K) := by
  have GP : FnOk P w K mg base CX0 (k + 1) fP fdP ["_law_numbers", "_law_at", "_law_many"] (spPick K) := ok_pick FP ml mi
  refine F.ok scDoubled (fun vs H Q E h => ?_) (fun cdv A outer s H vs Q E hr h => ?_)
  · obtain ⟨na, a, ns, M, rfl, _⟩ := h
    rfl
  · obtain ⟨na, a, ns, M, rfl, hN, hM, O, n15, q⟩ := h
    refine ⟨_, pss_cons (ps_set (i := 2) scDoubled.nd rfl (.inr rfl) (pe_callB call_len_seq (by rfl) ml PySem.boot_len (pa_cons (pe_ix ix_tup (pv 1) pe_int (fun _ _ => rfl)) pa_nil)))
      (pss_cons (ps_set (i := 3) scDoubled.nd rfl (.inl rfl) (pe_lst pa_nil))
      (pss_cons (ps_for PassesOwn.never rfl (pi_range1 (by rfl) mr (pa_cons (pe_op op_mul pe_int (pv 2)) pa_nil)) (pg_name (i := 4) scDoubled.nd rfl (.inr rfl))
        (pss_cons (ps_set (i := 5) scDoubled.nd rfl (.inr rfl) (pe_ix ix_tup (pe_ix ix_tup (pv 1) pe_int (fun _ _ => rfl)) (pe_op op_mod (pv 4) (pv 2)) (fun _ _ => rfl)))
        (pss_one (ps_expr (pe_bm PySem.F.plainAttrs_list PySem.F.slot_list_append PySem.F.type_list_append mt_append (pv 3) (pa_cons (pe_callTy call_tuple_of (by rfl) mt (by decide +kernel) (pa_cons
          (pe_lc (own := [("_law_j", 6)]) (g := gName 6) (tt := tYes)
            (te := tOp (rI0 fun i j => .int (i + j)) (tOp (rIxT K) (tVar 5) (tVar 6)) (tOp (rI CMul fun i j => .int (i * j)) (tVar 2) (tCall (spPick K) [] E0 (tCons (tVar 0) (tCons (tOp (rI0 fun i j => .int (i + j)) (tOp (rI0 fun i j => .int (i + j)) (tC (.int 8)) (tVar 4)) (tVar 6)) (tCons (tC (.int 2)) tNil))))))
            rfl scDoubled.nd (pi_range1 (by rfl) mr (pa_cons (pe_ix ix_tup (pv 1) pe_int (fun _ _ => rfl)) pa_nil))
            (blkOk_by (own := [("_law_j", 6)]) (N := ["_law_numbers", "_law_machine_here", "_law_states", "_law_moves", "_law_k", "_law_row", "_law_j"]) (sc := defScope sDoubled) (by decide +kernel))
            (fun _ _ _ _ _ => pg_name (i := 6) scDoubled.nd rfl (Or.inl rfl)) (fun _ _ _ _ _ => pts_nil)
            (fun _ _ _ _ _ => pe_op op_add (pe_ix ix_tup (pv 5) (pv 6) (fun _ _ => rfl)) (pe_op op_mul (pv 2) (pe_call GP hr (by rfl) gP FP.kp bP .nil pass0 (pa_cons (pv 0) (pa_cons (pe_op op_add (pe_op op_add pe_int (pv 4)) (pv 6)) (pa_cons pe_int pa_nil))))))) pa_nil)) pa_nil))))))
      (pss_one (ps_ret (pe_tup (pa_cons (pe_ix ix_tup (pv 1) pe_int (fun _ _ => rfl)) (pa_cons (pe_ix ix_tup (pv 1) pe_int (fun _ _ => rfl)) (pa_cons (pe_callTy call_tuple_of (by rfl) mt (by decide +kernel) (pa_cons (pv 3) pa_nil))
        (pa_cons (pe_op op_catF (pe_ix ix_tup (pv 1) pe_int (fun _ _ => rfl)) (pe_ix ix_tup (pv 1) pe_int (fun _ _ => rfl))) pa_nil))))))))), ?_⟩
    obtain ⟨ra, oa, rs0, m1, m2, m3, m4⟩ := id hM
    have np := O.np
    have mul2 : CMul 2 (M.n : Int) := .inl ⟨by decide, by decide⟩
    have e2n : V.int (2 * (M.n : Int)) = vi (2 * M.n) := by show V.int _ = V.int _; congr 1
    refine s_asg (ev_n hM (ev_var rfl)) fun H1 x1 => ⟨Nat.zero_le _, fun mvl nmv => ?_⟩
    have fmv : H mvl = none := fresh_back x1 nmv
    have x2 : Ex H (upd H1 mvl (.lst [])) := x1.trans (Ex.new nmv)
    refine s_forR1 (ea_cons (ev_op ev_c (ev_var rfl) (rv_I mul2)) ea_nil) ⟨by omega, by omega⟩
      (fun i σ' H' => ∃ (rs : List Addr) (rows : List (List Nat)) (y4 y5 : Option V), σ' = [some (.ref na), some (.ref a), some (vi M.n), some (.ref mvl), y4, y5, none] ∧ Ex H H' ∧ H' mvl = some (.lst (rs.map V.ref)) ∧
        Fa (fun r row => H' r = some (.tup (row.map vi))) rs rows ∧ rows.length = i ∧ ∀ (s : Nat) (row : List Nat), rows[s]? = some row → Fa (fun t j => t < 2 * M.n ∧ t % M.n = M.d (s % M.n) j) row (List.range M.k))
      (fun H3 x3 => ⟨[], [], none, none, rfl, x2.trans x3, x3 _ _ upd_same, .nil, rfl, fun s row h => by simp at h⟩) ?_ ?_
    · rintro i σ' H3 hi ⟨rs, rows, y4, y5, rfl, x3, hmv, hf, hl, hrows⟩
      have lim : rs.length ≤ 1000 := by rw [hf.length, hl]; omega
      have hin : i % M.n < M.n := Nat.mod_lt _ (by omega)
      have posn : (0 : Int) < (M.n : Int) := by omega
      have emod : V.int ((i : Int) % (M.n : Int)) = vi (i % M.n) := by show V.int _ = V.int _; congr 1
      -- row = machine[2][k % states]
      obtain ⟨r, hrow, hr0⟩ := ev_rowAt (K := K) (σ := [some (.ref na), some (.ref a), some (vi M.n), some (.ref mvl), some (vi i), y5, none]) (ta := tVar 1) (tb := tOp (rI (fun _ j => 0 < j) fun i j => .int (i % j)) (tVar 4) (tVar 2)) (hM.ex x3) (ev_var rfl)
        (by rw [← emod]; exact ev_op (ev_var rfl) (ev_var rfl) (rv_I posn)) hin
      refine s_asg hr0 fun H4 x4 => ?_
      have x34 := x3.trans x4
      -- moves.append(tuple([..]))
      refine ⟨.ref mvl, rfl, .inl ⟨rfl, _, sq_of (x4 _ _ hmv)⟩, ?_⟩
      refine (evp_tupVals (K := K) (G := fun j t => t < 2 * M.n ∧ t % M.n = M.d (i % M.n) j) (ds := List.range M.k) (lcr_rng stab_vals (n := M.k) (ea_cons (ev_k (hM.ex x34) (ev_var rfl)) ea_nil) List.length_range.symm (by rw [List.length_range]; have := O.km; omega) (fun _ => rfl) (fun l d D H5 x5 _ hd => ?_))) H4 (Ex.refl _) _ fun v H5 x5 hv => ?_
      · have hlk : l < M.k := by
          have := (List.getElem?_eq_some_iff.mp hd).1
          rwa [List.length_range] at this
        rw [List.getElem?_range hlk] at hd
        cases hd
        have hdn := O.closed (i % M.n) l hin hlk
        have muls : ∀ b : Int, CMul (M.n : Int) b := fun b => .inl ⟨by omega, by omega⟩
        intro H6 x6 Q' q'
        refine ⟨.ref r, rfl, vi l, rfl, r, _, _, vi (M.d (i % M.n) l), rfl, rfl, st_of (x6 _ _ (x5 _ _ (x4 _ _ hrow))), at_vi (O.d_at hin hlk), vi M.n, rfl, ?_⟩
        refine (evp_pick (K := K) (ns := ns) (many := 2) (ev_var rfl) (ev_op (ev_op ev_c (ev_var rfl) rv_I0) (ev_var rfl) rv_I0) ev_c (hN.ex ((x34.trans x5).trans x6)) (by decide)) H6 (Ex.refl _) _ fun v H7 x7 hv => ?_
        obtain ⟨b, hb, rfl⟩ := hv
        refine ⟨(M.n : Int), (b : Int), rfl, rfl, muls _, (M.d (i % M.n) l : Int), (M.n : Int) * (b : Int), rfl, rfl, ?_⟩
        have ev : V.int ((M.d (i % M.n) l : Int) + (M.n : Int) * (b : Int)) = vi (M.d (i % M.n) l + M.n * b) := by
          show V.int _ = V.int _
          congr 1
        show Q' (V.int ((M.d (i % M.n) l : Int) + (M.n : Int) * (b : Int))) H7
        rw [ev]
        refine q' _ H7 x7 ⟨_, ⟨?_, ?_⟩, rfl⟩
        · have : M.n * b ≤ M.n * 1 := Nat.mul_le_mul_left _ (by omega)
          omega
        · rw [Nat.add_mul_mod_self_left]
          exact Nat.mod_eq_of_lt hdn
      · obtain ⟨p, row, rfl, hp, hfr⟩ := hv
        refine ⟨mvl, _, .ref p, rfl, rfl, x5 _ _ (x4 _ _ hmv), by rw [List.length_map]; exact small1000 lim, ?_⟩
        refine ⟨rs ++ [p], rows ++ [row], some (vi i), some (.ref r), rfl, Ex.mut (x34.trans x5) fmv, by rw [upd_same, List.map_append]; rfl, Fa.snoc ?_ (hf.mono fun r' row' z => ?_), by rw [List.length_append, hl]; rfl, fun s row' hs => ?_⟩
        · rw [upd_ne (ne_of hp (x5 _ _ (x4 _ _ hmv)) (fun z => nomatch z))]; exact hp
        · rw [upd_ne (ne_of z hmv (fun z => nomatch z))]; exact x5 _ _ (x4 _ _ z)
        · by_cases hsl : s < rows.length
          · rw [List.getElem?_append_left hsl] at hs
            exact hrows s row' hs
          · rw [List.getElem?_append_right (by omega)] at hs
            have h0 := (List.getElem?_eq_some_iff.mp hs).1
            have es : s = i := by
              have : s - rows.length < 1 := h0
              omega
            have e0 : s - rows.length = 0 := by omega
            rw [e0] at hs
            cases hs
            rw [es]
            exact hfr
    · rintro σ' H3 ⟨rs, rows, y4, y5, rfl, x3, hmv, hf, hl, hrows⟩
      have hl2 : rows.length = 2 * M.n := by rw [hl]; omega
      have hM3 := hM.ex x3
      refine ⟨.ref a, rfl, a, _, _, vi M.k, rfl, rfl, st_of (x3 _ _ m1), atI_nat (j := 0) rfl, .ref a, rfl, a, _, _, vi M.o, rfl, rfl, st_of (x3 _ _ m1), atI_nat (j := 1) rfl, ?_⟩
      refine ⟨.ref mvl, rfl, mvl, _, rfl, .inl ⟨sq_of hmv, fun rp nrp => ?_⟩⟩
      have x4 := Ex.new (o := .tup (rs.map V.ref)) nrp
      have x34 := x3.trans x4
      have hne : M.out.map vi ≠ [] := fun z => by
        have := congrArg List.length z
        rw [List.length_map, O.len] at this
        have h0 : M.n = 0 := this
        omega
      refine ⟨.ref a, rfl, a, _, _, .ref oa, rfl, rfl, st_of (x34 _ _ m1), atI_nat (j := 3) rfl, .ref a, rfl, a, _, _, .ref oa, rfl, rfl, st_of (x34 _ _ m1), atI_nat (j := 3) rfl, ?_⟩
      refine ⟨oa, oa, M.out.map vi, M.out.map vi, rfl, rfl, ex_t x34 m3, ex_t x34 m3, hne, hne, ?_, fun u ob nu hc hdi => ⟨by show 4 ≤ sizeLine; decide, fun p np => ?_⟩⟩
      · rw [List.length_map, O.len]
        exact Nat.le_trans (by have := O.nm; omega : M.n + M.n ≤ 100) (by decide)
      · have x5 := Ex.new (o := .frz ob (.tup (M.out.map vi ++ M.out.map vi))) nu
        have x6 := Ex.new (o := .tup [vi M.k, vi M.o, .ref rp, .ref u]) np
        obtain ⟨OD, al⟩ := dbl (D := Mach.mk M.k M.o rows (M.out ++ M.out)) O n15 rfl hl2 rfl hrows
        refine q p _ (Mach.mk M.k M.o rows (M.out ++ M.out)) OD rfl rfl al ((x34.trans x5).trans x6) ⟨rp, u, rs, upd_same, x6 _ _ (x5 _ _ upd_same), ⟨ob, hc, hdi, ?_⟩, hf.mono fun _ _ z => x6 _ _ (x5 _ _ (x4 _ _ z))⟩
        rw [List.map_append]
        exact x6 _ _ upd_same

/-- rows: new lists of numbers -/
def RwL (H0 : Hp) (D : Addr) (row : List Nat) (x : V) (H : Hp) : Prop := ∃ p, x = .ref p ∧ H p = some (.lst (row.map vi)) ∧ p ≠ D ∧ H0 p = none
theorem stab_rwl {H0 : Hp} : Stab (RwL H0) := fun D d x H H' ⟨p, h1, h2, h3, h4⟩ k => ⟨p, h1, k p _ h3 h2, h3, h4⟩
theorem fa_refsL {D : Addr} {H0 H : Hp} : ∀ {xs : List V} {ds : List (List Nat)}, Fa (fun x d => RwL H0 D d x H) xs ds → ∃ rs : List Addr, xs = rs.map V.ref ∧ Fa (fun r row => H r = some (.lst (row.map vi)) ∧ r ≠ D ∧ H0 r = none) rs ds
  | _, _, .nil => ⟨[], rfl, .nil⟩
  | _, _, .cons ⟨p, h1, h2, h3, h4⟩ t => by
    obtain ⟨rs, e, f⟩ := fa_refsL t
    exact ⟨p :: rs, by rw [List.map_cons, h1, e], .cons ⟨h2, h3, h4⟩ f⟩
def GoodRow (k n : Nat) (row : List Nat) : Prop := row.length = k ∧ ∀ s ∈ row, s < n
theorem good_set {k n j v : Nat} {row : List Nat} (h : GoodRow k n row) (hv : v < n) : GoodRow k n (row.set j v) := by
  refine ⟨by rw [List.length_set]; exact h.1, fun s hs => ?_⟩
  rcases List.mem_or_eq_of_mem_set hs with hs | hs
  · exact h.2 s hs
  · rw [hs]; exact hv
/-- one list changes: the others stay good -/
theorem fa_good {k n : Nat} {H : Hp} {q : Addr} {row' : List Nat} (hq : GoodRow k n row') : ∀ {rs : List Addr} {rows : List (List Nat)}, Fa (fun r row => H r = some (.lst (row.map vi)) ∧ GoodRow k n row) rs rows →
    ∃ rows', Fa (fun r row => (upd H q (.lst (row'.map vi))) r = some (.lst (row.map vi)) ∧ GoodRow k n row) rs rows' ∧ rows'.length = rows.length
  | _, _, .nil => ⟨[], .nil, rfl⟩
  | r :: _, row :: _, .cons ⟨h1, h2⟩ t => by
    obtain ⟨rows', f, e⟩ := fa_good hq t
    by_cases z : r = q
    · exact ⟨row' :: rows', .cons ⟨by rw [z, upd_same], hq⟩ f, by rw [List.length_cons, List.length_cons, e]⟩
    · exact ⟨row :: rows', .cons ⟨by rw [upd_ne z]; exact h1, h2⟩ f, by rw [List.length_cons, List.length_cons, e]⟩
theorem set_vi (ns : List Nat) (j v : Nat) : (ns.map vi).set j (vi v) = (ns.set j v).map vi := by rw [List.map_set]
def rListO (K : PySem.W.Frag) : List V → Hp → VK → Prop := fun xs H Q => ∃ p ys, xs = [.ref p] ∧ (SqL K H p ys ∨ SqT K H p ys) ∧ ∀ l, H l = none → Q (.ref l) (upd H l (.lst ys))

def spChanged (K : PySem.W.Frag) : Sp := fun vs H Q _ => ∃ (na a : Addr) (ns : List Int) (M : Mach), vs = [.ref na, .ref a] ∧ Nums K H na ns ∧ MAt K H a M ∧ M.Ok ∧ 1 ≤ M.o ∧ ∀ p H' M', M'.Ok → M'.k = M.k → M'.o = M.o → Ex H H' → MAtP H' p M' → Q (.ref p) H'
theorem ok_changed {f fP : Addr} {fd fdP : FuncData} {k : Nat} (F : Fun K "_law_changed" "_law_changed" sChanged f fd) (FP : Fun K "_law_pick" "_law_pick" sPick fP fdP) (bP : Binds K fdP ["_law_numbers", "_law_at", "_law_many"] []) (gP : mg "_law_pick" = some (.ref fP))
    (ml : mg "len" = none) (mi : mg "int" = none) (mli : mg "list" = none) (mt : mg "tuple" = none) : FnOk P w K mg base CX0 (k + 2) f fd ["_law_numbers", "_law_machine_here"] (spChanged K) := by
  have GP : FnOk P w K mg base CX0 (k + 1) fP fdP ["_law_numbers", "_law_at", "_law_many"] (spPick K) := ok_pick FP ml mi
  refine F.ok scChanged (fun vs H Q E h => ?_) (fun cdv A outer s H vs Q E hr h => ?_)
  · obtain ⟨na, a, ns, M, rfl, _⟩ := h
    rfl
  · obtain ⟨na, a, ns, M, rfl, hN, hM, O, o1, q⟩ := h
    refine ⟨_, pss_cons (ps_setLc (i := 2) (own := [("_law_row", 5)]) (g := gName 5) (tt := tYes) (te := tCB (rListO K) (tCons (tVar 5) tNil)) rfl scChanged.nd rfl rfl (sw_true rfl rfl rfl (by decide +kernel)) (pi_tup (pe_ix ix_tup (pv 1) pe_int (fun _ _ => rfl)))
        (blkOk_by (own := [("_law_row", 5)]) (N := ["_law_numbers", "_law_machine_here", "_law_moves", "_law_outputs", "_law_place", "_law_row"]) (sc := defScope sChanged) (by decide +kernel))
        (fun _ _ _ _ _ => pg_name (i := 5) scChanged.nd rfl (Or.inl rfl)) (fun _ _ _ _ _ => pts_nil) (fun _ _ _ _ _ => pe_callTy call_list_of (by rfl) mli (by decide +kernel) (pa_cons (pv 5) pa_nil)))
      (pss_cons (ps_set (i := 3) scChanged.nd rfl (.inl rfl) (pe_callTy call_list_of (by rfl) mli (by decide +kernel) (pa_cons (pe_ix ix_tup (pv 1) pe_int (fun _ _ => rfl)) pa_nil)))
      (pss_cons (ps_set (i := 4) scChanged.nd rfl (.inl rfl) (pe_call GP hr (by rfl) gP FP.kp bP .nil pass0 (pa_cons (pv 0) (pa_cons pe_int (pa_cons (pe_callB call_len_seq (by rfl) ml PySem.boot_len (pa_cons (pv 2) pa_nil)) pa_nil)))))
      (pss_cut (ps_if (pt_cmpR op_eq (pe_call GP hr (by rfl) gP FP.kp bP .nil pass0 (pa_cons (pv 0) (pa_cons pe_int (pa_cons pe_int pa_nil)))) pe_int (nomark _))
        (pss_one (ps_asg (pe_call GP hr (by rfl) gP FP.kp bP .nil pass0 (pa_cons (pv 0) (pa_cons pe_int (pa_cons (pe_ix ix_tup (pv 1) pe_int (fun _ _ => rfl)) pa_nil)))) (pg_sub (pv 3) (pv 4) set_list)))
        (pss_one (ps_asg (pe_call GP hr (by rfl) gP FP.kp bP .nil pass0 (pa_cons (pv 0) (pa_cons pe_int (pa_cons (pe_callB call_len_seq (by rfl) ml PySem.boot_len (pa_cons (pv 2) pa_nil)) pa_nil))))
          (pg_sub (pe_ix ix_list (pv 2) (pv 4) (fun _ _ => rfl)) (pe_call GP hr (by rfl) gP FP.kp bP .nil pass0 (pa_cons (pv 0) (pa_cons pe_int (pa_cons (pe_ix ix_tup (pv 1) pe_int (fun _ _ => rfl)) pa_nil)))) set_list))))
      (pss_one (ps_ret (pe_tup (pa_cons (pe_ix ix_tup (pv 1) pe_int (fun _ _ => rfl)) (pa_cons (pe_ix ix_tup (pv 1) pe_int (fun _ _ => rfl)) (pa_cons (pe_callTy call_tuple_of (by rfl) mt (by decide +kernel) (pa_cons
          (pe_lc (own := [("_law_row", 5)]) (g := gName 5) (tt := tYes) (te := tCB (rTupO K) (tCons (tVar 5) tNil)) rfl scChanged.nd (pi_list (pv 2))
            (blkOk_by (own := [("_law_row", 5)]) (N := ["_law_numbers", "_law_machine_here", "_law_moves", "_law_outputs", "_law_place", "_law_row"]) (sc := defScope sChanged) (by decide +kernel))
            (fun _ _ _ _ _ => pg_name (i := 5) scChanged.nd rfl (Or.inl rfl)) (fun _ _ _ _ _ => pts_nil) (fun _ _ _ _ _ => pe_callTy call_tuple_of (by rfl) mt (by decide +kernel) (pa_cons (pv 5) pa_nil))) pa_nil))
        (pa_cons (pe_callTy cr_tupF (by rfl) mt (by decide +kernel) (pa_cons (pv 3) pa_nil)) pa_nil)))))))))), ?_⟩
    obtain ⟨ra, oa, rsr, m1, m2, m3, m4⟩ := id hM
    -- moves
    refine s_asgLR (lcr_tup (K := K) (stab_rwl (H0 := H)) (ds := M.mv) (xs := rsr.map V.ref) (ev_op (ev_var rfl) ev_c (rv_ixT (st_of m1) (atI_nat (j := 2) rfl))) (st_of m2) (by rw [List.length_map, m4.length]) (by have := O.nm; show M.n ≤ 40000; omega) (fun _ => rfl) (fun i x row D H1 x1 hacc hx hd => ?_)) fun ml xs H1 nml x1 hml hf => ?_
    · obtain ⟨r, h1, rfl⟩ : ∃ r, rsr[i]? = some r ∧ x = .ref r := by
        rw [List.getElem?_map] at hx
        obtain ⟨r, h1, h2⟩ := Option.map_eq_some_iff.mp hx
        exact ⟨r, h1, h2.symm⟩
      obtain ⟨row', h2, h3⟩ := m4.get h1
      rw [h2] at hd
      cases hd
      obtain ⟨acc, hD⟩ := hacc
      intro H2 x2 Q' q'
      refine ⟨.ref r, rfl, r, row.map vi, rfl, .inr (st_of (x2 _ _ (x1 _ _ h3))), fun l nl => q' _ _ (Ex.new nl) ⟨l, rfl, upd_same, fun z => ?_, fresh_back (x1.trans x2) nl⟩⟩
      rw [z, x2 _ _ hD] at nl
      cases nl
    obtain ⟨rs, e, f⟩ := fa_refsL hf
    subst e
    have hrs : rs.length = M.n := f.length
    -- outputs = list(machine[3])
    refine ⟨.ref a, rfl, a, _, _, .ref oa, rfl, rfl, st_of (x1 _ _ m1), atI_nat (j := 3) rfl, oa, M.out.map vi, rfl, .inr (ex_t x1 m3), fun ol nol => ?_⟩
    have x2 : Ex H1 (upd H1 ol (.lst (M.out.map vi))) := Ex.new nol
    have fol : H ol = none := fresh_back x1 nol
    have mo : ml ≠ ol := fun z => by rw [← z, hml] at nol; cases nol
    -- place
    refine ⟨.ref na, rfl, .ref ml, rfl, ml, _, rfl, .inl (sq_of (x2 _ _ hml)), na, ns, 7, (rs.map V.ref).length, rfl, hN.ex (x1.trans x2), by rw [List.length_map, hrs]; exact O.np, fun pl lpl H3 x3 => ?_⟩
    rw [List.length_map, hrs] at lpl
    have x13 := (x1.trans x2).trans x3
    have hml3 := x3 _ _ (x2 _ _ hml)
    have hol3 := x3 _ _ (upd_same (H := H1) (a := ol) (o := .lst (M.out.map vi)))
    have hne : ∀ (r : Addr) (row : List Nat), H1 r = some (.lst (row.map vi)) → r ≠ ol := fun r row h z => by rw [z, nol] at h; cases h
    have good0 : ∀ row ∈ M.mv, GoodRow M.k M.n row := O.row
    have fg : ∀ {rs : List Addr} {rows : List (List Nat)}, (∀ row ∈ rows, GoodRow M.k M.n row) → Fa (fun r row => H1 r = some (.lst (row.map vi)) ∧ r ≠ ml ∧ H r = none) rs rows → Fa (fun r row => (H1 r = some (.lst (row.map vi)) ∧ r ≠ ml ∧ H r = none) ∧ GoodRow M.k M.n row) rs rows := by
      intro rs rows hg hfa
      induction hfa with
      | nil => exact .nil
      | cons h t ih => exact .cons ⟨h, hg _ List.mem_cons_self⟩ (ih fun row hr => hg row (List.mem_cons_of_mem _ hr))
    have f1 := fg good0 f
    change tCut _ _ _ [some (V.ref na), some (V.ref a), some (V.ref ml), some (V.ref ol), some (vi pl), none] _
    refine ⟨fun σ' H' => ∃ (rows : List (List Nat)) (outs : List Nat), σ' = [some (V.ref na), some (V.ref a), some (V.ref ml), some (V.ref ol), some (vi pl), none] ∧ Ex H H' ∧ H' ml = some (.lst (rs.map V.ref)) ∧ H' ol = some (.lst (outs.map vi)) ∧ outs.length = M.n ∧
        Fa (fun r row => H' r = some (.lst (row.map vi)) ∧ GoodRow M.k M.n row) rs rows ∧ rows.length = M.n, ?_, ?_⟩
    · refine ⟨.ref na, rfl, na, ns, 8, 2, rfl, hN.ex x13, by decide, fun r8 l8 H4 x4 => ⟨rfl, _, rfl, ite2 (fun e => ?_) (fun e => ?_)⟩⟩
      · have x14 := x13.trans x4
        refine ⟨.ref na, rfl, .ref a, rfl, a, _, _, vi M.o, rfl, rfl, st_of (x14 _ _ m1), atI_nat (j := 1) rfl, na, ns, 9, M.o, rfl, hN.ex x14, by omega, fun r9 l9 H5 x5 => ?_⟩
        have hol5 := x5 _ _ (x4 _ _ hol3)
        refine ⟨.ref ol, rfl, vi pl, rfl, ol, _, (pl : Int), pl, rfl, rfl, hol5, ixN_nat (by rw [List.length_map, O.len]; exact lpl), ?_⟩
        refine ⟨M.mv, M.out.set pl r9, rfl, Ex.mut (x14.trans x5) fol, ?_, by rw [upd_same, set_vi], by rw [List.length_set, O.len], f1.mono fun r row z => ⟨?_, z.2⟩, rfl⟩
        · rw [upd_ne mo]
          exact x5 _ _ (x4 _ _ hml3)
        · rw [upd_ne (hne r row z.1.1)]
          exact x5 _ _ (x4 _ _ (x3 _ _ (x2 _ _ z.1.1)))
      · have x14 := x13.trans x4
        refine ⟨.ref na, rfl, .ref ml, rfl, ml, _, rfl, .inl (sq_of (x4 _ _ hml3)), na, ns, 10, (rs.map V.ref).length, rfl, hN.ex x14, by rw [List.length_map, hrs]; exact O.np, fun r10 l10 H5 x5 => ?_⟩
        rw [List.length_map, hrs] at l10
        have x15 := x14.trans x5
        obtain ⟨q0, hq0⟩ : ∃ q0, rs[pl]? = some q0 := ⟨_, List.getElem?_eq_getElem (by rw [hrs]; exact lpl)⟩
        obtain ⟨row0, hrow0, ⟨hq1, hq2, fq0⟩, hg0⟩ := f1.get hq0
        refine ⟨.ref ml, rfl, vi pl, rfl, ml, _, _, .ref q0, rfl, rfl, sq_of (x5 _ _ (x4 _ _ hml3)), atI_nat (j := pl) (by rw [List.getElem?_map, hq0]; rfl), ?_⟩
        refine ⟨.ref na, rfl, .ref a, rfl, a, _, _, vi M.k, rfl, rfl, st_of (x15 _ _ m1), atI_nat (j := 0) rfl, na, ns, 9, M.k, rfl, hN.ex x15, O.kp, fun r9 l9 H6 x6 => ?_⟩
        have up : ∀ r o, H1 r = some o → H6 r = some o := fun r o z => x6 _ _ (x5 _ _ (x4 _ _ (x3 _ _ (x2 _ _ z))))
        refine ⟨q0, _, (r9 : Int), r9, rfl, rfl, up _ _ hq1, ixN_nat (by rw [List.length_map, hg0.1]; exact l9), ?_⟩
        have f6 : Fa (fun r row => H6 r = some (.lst (row.map vi)) ∧ GoodRow M.k M.n row) rs M.mv := f1.mono fun r row z => ⟨up _ _ z.1.1, z.2⟩
        obtain ⟨rows', f7, e7⟩ := fa_good (q := q0) (good_set (j := r9) hg0 l10) f6
        refine ⟨rows', M.out, rfl, Ex.mut (x15.trans x6) fq0, ?_, ?_, O.len, by rw [set_vi]; exact f7, e7⟩
        · rw [upd_ne hq2.symm]
          exact up _ _ hml
        · rw [upd_ne (hne q0 row0 hq1).symm]
          exact x6 _ _ (x5 _ _ (x4 _ _ hol3))
    · rintro σ' H4 ⟨rows, outs, rfl, x4, hml4, hol4, hlo, f4, hlr⟩
      refine ⟨.ref a, rfl, a, _, _, vi M.k, rfl, rfl, st_of (x4 _ _ m1), atI_nat (j := 0) rfl, .ref a, rfl, a, _, _, vi M.o, rfl, rfl, st_of (x4 _ _ m1), atI_nat (j := 1) rfl, ?_⟩
      refine (evp_rows (K := K) (ds := rows) (lcr_lst stab_rw (ev_var rfl) (sq_of hml4) (by rw [List.length_map, f4.length]) (by have := O.nm; omega) (fun _ => rfl) (fun i x row D H5 x5 hacc hx hd => ?_))) H4 (Ex.refl _) _ fun v H5 x5 hv => ?_
      · obtain ⟨r, h1, rfl⟩ : ∃ r, rs[i]? = some r ∧ x = .ref r := by
          rw [List.getElem?_map] at hx
          obtain ⟨r, h1, h2⟩ := Option.map_eq_some_iff.mp hx
          exact ⟨r, h1, h2.symm⟩
        obtain ⟨row', h2, h3, _⟩ := f4.get h1
        rw [h2] at hd
        cases hd
        exact evp_row (eu_tupV (ev_var rfl) (sq_of (x5 _ _ h3))) hacc
      · obtain ⟨rp, rs', rfl, h1, h2⟩ := hv
        refine ⟨.ref ol, rfl, ol, _, rfl, sq_of (x5 _ _ hol4), fun u ob nu hc hdi => ⟨by show 4 ≤ sizeLine; decide, fun p np => ?_⟩⟩
        have x6 := Ex.new (o := .frz ob (.tup (outs.map vi))) nu
        have x7 := Ex.new (o := .tup [vi M.k, vi M.o, .ref rp, .ref u]) np
        have hgood : ∀ row ∈ rows, GoodRow M.k M.n row := fun row hm => by
          obtain ⟨i, hi⟩ := List.mem_iff_getElem?.mp hm
          obtain ⟨_, _, _, z⟩ := f4.get2 hi
          exact z
        have OM : (Mach.mk M.k M.o rows outs).Ok := ⟨O.kp, by show 1 ≤ rows.length; rw [hlr]; exact O.np, by show rows.length ≤ 30; rw [hlr]; exact O.nm, O.km, by show outs.length = rows.length; rw [hlo, hlr], fun r hm => by
          show r.length = M.k ∧ ∀ s ∈ r, s < rows.length
          rw [hlr]
          exact hgood r hm⟩
        exact q p _ (Mach.mk M.k M.o rows outs) OM rfl rfl (((x4.trans x5).trans x6).trans x7) ⟨rp, u, rs', upd_same, x7 _ _ (x6 _ _ h1), ⟨ob, hc, hdi, x7 _ _ upd_same⟩, h2.mono fun _ _ z => x7 _ _ (x6 _ _ z)⟩
end
end Mae

namespace Mae
open PySem PySem.Spec PyProof.Rows L2 Evl

theorem scParts : FnScope ["_law_small", "_law_numbers", "_law_states", "_law_k", "_law_one", "_law_other", "_law_word", "_law_left", "_law_right", "_law_letter"] ["_law_small", "_law_numbers"] (defScope sParts) := ⟨rfl, rfl, rfl, by decide +kernel, rfl, by decide +kernel, by decide +kernel⟩
def rMinO : List V → Hp → VK → Prop := fun xs H Q => ∃ i j, xs = [.int i, .int j] ∧ Q (.int (if j < i then j else i)) H
theorem ev_minO {σ : L2.St} {H : Hp} {ta tb : TE} {i j : Int} (ha : Ev ta σ H (.int i)) (hb : Ev tb σ H (.int j)) : Ev (tCB rMinO (tCons ta (tCons tb tNil))) σ H (.int (if j < i then j else i)) := fun H1 x1 Q go =>
  ha H1 x1 _ fun H2 x2 => hb H2 (x1.trans x2) _ fun H3 x3 => ⟨i, j, rfl, go H3 (x2.trans x3)⟩
theorem modv (x n : Nat) : V.int ((x : Int) % (n : Int)) = vi (x % n) := by
  show V.int _ = V.int _
  congr 1
section
variable {P : Program} {w : World} {K : PySem.W.Frag} {mg : Str → Option Value} {base : Heap}
def spParts (K : PySem.W.Frag) : Sp := fun vs H Q _ => ∃ (a na : Addr) (L : Mach) (ns : List Int), vs = [.ref a, .ref na] ∧ MAt K H a L ∧ L.Ok ∧ Nums K H na ns ∧ (∀ i j, i < L.n → j < L.n → i ≠ j → ¬ (two L L i j).Same) ∧ ∀ H', Ex H H' → Q (.bl true) H'
theorem ok_parts {f fP fW fS : Addr} {fd fdP fdW fdS : FuncData} {k : Nat} (F : Fun K "_law_parts" "_law_parts" sParts f fd) (FP : Fun K "_law_pick" "_law_pick" sPick fP fdP) (FW : Fun K "parting_word" "parting_word" sPart fW fdW) (FS : Fun K "search" "search" sSearch fS fdS)
    (bP : Binds K fdP ["_law_numbers", "_law_at", "_law_many"] []) (bW : Binds K fdW ["machine", "state", "other"] []) (bS : Binds K fdS ["first", "second", "state", "other"] []) (gP : mg "_law_pick" = some (.ref fP)) (gW : mg "parting_word" = some (.ref fW)) (gS : mg "search" = some (.ref fS))
    (ml : mg "len" = none) (mi : mg "int" = none) (mr : mg "range" = none) (mmin : mg "min" = none) (mmax : mg "max" = none) : FnOk P w K mg base CX0 (k + 3) f fd ["_law_small", "_law_numbers"] (spParts K) := by
  have GP : FnOk P w K mg base CX0 (k + 1) fP fdP ["_law_numbers", "_law_at", "_law_many"] (spPick K) := ok_pick FP ml mi
  have GW : FnOk P w K mg base CX0 (k + 2) fW fdW ["machine", "state", "other"] (spPart K) := ok_part FW FS bS gS ml mr
  refine F.ok scParts (fun vs H Q E h => ?_) (fun cdv A outer s H vs Q E hr h => ?_)
  · obtain ⟨a, na, L, ns, rfl, _⟩ := h
    rfl
  · obtain ⟨a, na, L, ns, rfl, hM, O, hN, hap, q⟩ := h
    have hr1 : Room (k + 1) (A.deeper (envOfC "_law_parts" (defScope sParts) s.heap.objs.size f cdv)) := hr.mono (by omega)
    refine ⟨_, pss_cons (ps_set (i := 2) scParts.nd rfl (.inl rfl) (pe_callB call_len_seq (by rfl) ml PySem.boot_len (pa_cons (pe_ix ix_tup (pv 0) pe_int (fun _ _ => rfl)) pa_nil)))
      (pss_cons (ps_for PassesOwn.never rfl (pi_range1 (by rfl) mr (pa_cons (pe_callB (call_min2 rfl) (by rfl) mmin (by decide +kernel) (pa_cons (pv 2) (pa_cons pe_int pa_nil))) pa_nil)) (pg_name (i := 3) scParts.nd rfl (.inl rfl))
        (pss_cons (ps_set (i := 4) scParts.nd rfl (.inl rfl) (pe_op op_mod (pe_op op_add (pe_call GP hr1 (by rfl) gP FP.kp bP .nil pass0 (pa_cons (pv 1) (pa_cons pe_int (pa_cons (pv 2) pa_nil)))) (pv 3)) (pv 2)))
        (pss_cons (ps_set (i := 5) scParts.nd rfl (.inl rfl) (pe_op op_mod (pe_op op_add (pe_op op_add (pv 4) pe_int) (pe_call GP hr1 (by rfl) gP FP.kp bP .nil pass0 (pa_cons (pv 1) (pa_cons pe_int (pa_cons
            (pe_callB (call_max2 rfl) (by rfl) mmax (by decide +kernel) (pa_cons pe_int (pa_cons (pe_op op_sub (pv 2) pe_int) pa_nil))) pa_nil))))) (pv 2)))
        (pss_one (ps_if (pt_cmpR op_ne (pv 4) (pv 5) (nomark _))
          (pss_cons (ps_set (i := 6) scParts.nd rfl (.inl rfl) (pe_call GW hr (by rfl) gW FW.kp bW .nil pass0 (pa_cons (pv 0) (pa_cons (pv 4) (pa_cons (pv 5) pa_nil)))))
          (pss_cons (ps_set (i := 7) scParts.nd rfl (.inl rfl) (pv 4))
          (pss_cons (ps_set (i := 8) scParts.nd rfl (.inl rfl) (pv 5))
          (pss_cons (ps_for PassesOwn.never rfl (pi_list (pv 6)) (pg_name (i := 9) scParts.nd rfl (.inl rfl))
            (pss_cons (ps_set (i := 7) scParts.nd rfl (.inl rfl) (pe_ix ix_tup (pe_ix ix_tup (pe_ix ix_tup (pv 0) pe_int (fun _ _ => rfl)) (pv 7) (fun _ _ => rfl)) (pv 9) (fun _ _ => rfl)))
            (pss_one (ps_set (i := 8) scParts.nd rfl (.inl rfl) (pe_ix ix_tup (pe_ix ix_tup (pe_ix ix_tup (pv 0) pe_int (fun _ _ => rfl)) (pv 8) (fun _ _ => rfl)) (pv 9) (fun _ _ => rfl))))))
          (pss_one (ps_if (PW.pt (pw_or (pt_cmpR op_eq (pe_ix ix_tup (pe_ix ix_tup (pv 0) pe_int (fun _ _ => rfl)) (pv 7) (fun _ _ => rfl)) (pe_ix ix_tup (pe_ix ix_tup (pv 0) pe_int (fun _ _ => rfl)) (pv 8) (fun _ _ => rfl)) (nomark _))
              (pw_or1 (pt_cmpR op_ge (pe_callB call_len_seq (by rfl) ml PySem.boot_len (pa_cons (pv 6) pa_nil)) (pv 2) (nomark _)))))
            (pss_one (ps_ret pe_bl)) pss_nil))))))
          pss_nil)))))
      (pss_one (ps_ret pe_bl))), ?_⟩
    refine s_asg (ev_n hM (ev_var rfl)) fun H1 x1 => ?_
    have np := O.np
    have nm := O.nm
    have posn : (0 : Int) < (L.n : Int) := by omega
    refine s_forR1 (ea_cons (ev_minO (ev_var rfl) ev_c) ea_nil) (by split <;> omega)
      (fun i σ' H' => ∃ (y3 y4 y5 y6 y7 y8 y9 : Option V), σ' = [some (.ref a), some (.ref na), some (vi L.n), y3, y4, y5, y6, y7, y8, y9] ∧ Ex H H')
      (fun H2 x2 => ⟨none, none, none, none, none, none, none, rfl, x1.trans x2⟩) ?_ ?_
    · rintro i σ' H2 hi ⟨y3, y4, y5, y6, y7, y8, y9, rfl, x2⟩
      -- one
      refine ⟨.ref na, rfl, vi L.n, rfl, na, ns, 11, L.n, rfl, hN.ex x2, np, fun r11 l11 H3 x3 => ?_⟩
      refine ⟨vi i, rfl, (r11 : Int), (i : Int), rfl, rfl, vi L.n, rfl, ((r11 + i : Nat) : Int), (L.n : Int), rfl, rfl, posn, ?_⟩
      have h1n : (r11 + i) % L.n < L.n := Nat.mod_lt _ np
      generalize hone : (r11 + i) % L.n = one at h1n
      have eone : V.int (((r11 + i : Nat) : Int) % (L.n : Int)) = vi one := by rw [modv, hone]
      change Ends.nx _ [some (V.ref a), some (V.ref na), some (vi L.n), some (vi i), some (V.int (((r11 + i : Nat) : Int) % (L.n : Int))), y5, y6, y7, y8, y9] _
      rw [eone]
      -- other
      have emax : V.int (if (L.n : Int) - 1 > 1 then (L.n : Int) - 1 else 1) = vi (if L.n - 1 > 1 then L.n - 1 else 1) := by
        show V.int _ = V.int _
        congr 1
        split <;> split <;> omega
      refine ⟨vi one, rfl, (one : Int), 1, rfl, rfl, .ref na, rfl, vi L.n, rfl, (L.n : Int), 1, rfl, rfl, 1, (L.n : Int) - 1, rfl, ?_⟩
      refine ⟨na, ns, 12, (if L.n - 1 > 1 then L.n - 1 else 1), ?_, hN.ex (x2.trans x3), by split <;> omega, fun r12 l12 H4 x4 => ?_⟩
      · show [V.ref na, V.int 12, V.int (if (L.n : Int) - 1 > 1 then (L.n : Int) - 1 else 1)] = _
        rw [emax]
      refine ⟨((one + 1 : Nat) : Int), (r12 : Int), rfl, rfl, vi L.n, rfl, ((one + 1 + r12 : Nat) : Int), (L.n : Int), rfl, rfl, posn, ?_⟩
      have h2n : (one + 1 + r12) % L.n < L.n := Nat.mod_lt _ np
      generalize hoth : (one + 1 + r12) % L.n = oth at h2n
      have eoth : V.int (((one + 1 + r12 : Nat) : Int) % (L.n : Int)) = vi oth := by rw [modv, hoth]
      change Ends.nx _ [some (V.ref a), some (V.ref na), some (vi L.n), some (vi i), some (vi one), some (V.int (((one + 1 + r12 : Nat) : Int) % (L.n : Int))), y6, y7, y8, y9] _
      rw [eoth]
      have x24 := (x2.trans x3).trans x4
      -- if one != other
      refine ⟨vi one, rfl, vi oth, rfl, rfl, _, rfl, ite2 (fun e => ?_) (fun e => ?_)⟩
      · have hne : one ≠ oth := fun z => by
          rw [z, decide_eq_true rfl] at e
          cases e
        refine ⟨.ref a, rfl, vi one, rfl, vi oth, rfl, a, L, one, oth, rfl, hM.ex x24, O, h1n, h2n, hap one oth h1n h2n hne, fun u p H5 hf x5 npp hp => ?_⟩
        have x25 := x24.trans x5
        refine ⟨vi one, rfl, vi oth, rfl, ?_⟩
        refine s_forL (ev_var rfl) (sq_of hp) (fun j σ' H' => ∃ (y9 : Option V), σ' = [some (.ref a), some (.ref na), some (vi L.n), some (vi i), some (vi one), some (vi oth), some (.ref p), some (vi (run L.d one (u.take j))), some (vi (run L.d oth (u.take j))), y9] ∧ Ex H5 H')
          (fun H6 x6 => ⟨y9, rfl, x6⟩) ?_ ?_ ?_
        · rintro j σ' H6 _ ⟨z9, rfl, x6⟩
          exact sq_of (x6 _ _ hp)
        · rintro j x σ' H6 hx ⟨z9, rfl, x6⟩
          obtain ⟨l, hl, rfl⟩ := vi_item hx
          have hlk : l < L.k := hf.vw l (List.mem_of_getElem? hl)
          have hM6 := hM.ex (x25.trans x6)
          refine s_asg (ev_step O hM6 (ev_var rfl) (ev_var rfl) (run_lt O.closed _ one h1n (vw_take hf.vw j)) (ev_var rfl) hlk) fun H7 x7 => ?_
          refine s_asg (ev_step O (hM6.ex x7) (ev_var rfl) (ev_var rfl) (run_lt O.closed _ oth h2n (vw_take hf.vw j)) (ev_var rfl) hlk) fun H8 x8 => ?_
          refine ⟨some (vi l), ?_, (x6.trans x7).trans x8⟩
          rw [take_snoc hl, run_snoc, run_snoc]
          rfl
        · rintro σ' H6 ⟨z9, rfl, x6⟩
          rw [List.length_map, List.take_length]
          have hM6 := hM.ex (x25.trans x6)
          have hlen : u.length < L.n := parting_len O h1n h2n hf
          have hdif := hf.dif
          refine s_if (et_or (et_test (ev_op (ev_outp O hM6 (ev_var rfl) (ev_var rfl) (run_lt O.closed u one h1n hf.vw)) (ev_outp O hM6 (ev_var rfl) (ev_var rfl) (run_lt O.closed u oth h2n hf.vw)) (rv_eq rfl)))
            (fun _ => et_test (ev_op (ev_len (ev_var rfl) (sq_of (x6 _ _ hp))) (ev_var rfl) rv_I0))) (fun e2 H7 x7 => ?_) (fun e2 H7 x7 => ?_)
          · exfalso
            rw [Bool.or_eq_true] at e2
            rcases e2 with e2 | e2
            · have e3 := of_decide_eq_true e2
              injection e3 with e3
              exact hdif (Int.ofNat.inj e3)
            · have e3 := of_decide_eq_true e2
              rw [List.length_map] at e3
              omega
          · exact ⟨_, _, _, _, _, _, _, rfl, (x25.trans x6).trans x7⟩
      · exact ⟨_, _, _, _, _, _, _, rfl, x24⟩
    · rintro σ' H2 ⟨y3, y4, y5, y6, y7, y8, y9, rfl, x2⟩
      exact q H2 x2
end
end Mae

namespace Mae
open PySem PySem.Spec PyProof.Rows L2 Evl

theorem scStream : FnScope ["_law_script", "_law_numbers", "_law_cell", "_law_rest", "_law_k", "_law_mixed"] ["_law_script"] (defScope sStream) := ⟨rfl, rfl, rfl, by decide +kernel, rfl, by decide +kernel, by decide +kernel⟩
theorem cut_ints (ns : List Int) (lo hi : Option Int) : ∃ ms : List Int, cutV (ns.map V.int) lo hi = ms.map V.int ∧ ms.length ≤ ns.length := by
  unfold cutV
  refine ⟨(ns.drop (HT.sIx (ns.map V.int).length 0 lo)).take (HT.sIx (ns.map V.int).length (ns.map V.int).length hi - HT.sIx (ns.map V.int).length 0 lo), by rw [← List.map_drop, ← List.map_take], ?_⟩
  rw [List.length_take, List.length_drop]
  omega
section
variable {P : Program} {w : World} {K : PySem.W.Frag} {mg : Str → Option Value} {base : Heap}
def spStream (K : PySem.W.Frag) : Sp := fun vs H Q _ => ∃ (a : Addr) (ns : List Int), vs = [.ref a] ∧ SqL K H a (ns.map V.int) ∧ ns.length ≤ 63 ∧ ∀ p H' ms, Nums K H' p ms → Ex H H' → Q (.ref p) H'
theorem ok_stream {f : Addr} {fd : FuncData} {k : Nat} (F : Fun K "_law_stream" "_law_stream" sStream f fd) (ml : mg "len" = none) (mi : mg "int" = none) (mr : mg "range" = none) : FnOk P w K mg base CX0 (k + 1) f fd ["_law_script"] (spStream K) := by
  refine F.ok scStream (fun vs H Q E h => ?_) (fun cdv A outer s H vs Q E hr h => ?_)
  · obtain ⟨a, ns, rfl, _⟩ := h
    rfl
  · obtain ⟨a, ns0, rfl, hS, h63, q⟩ := h
    refine ⟨_, pss_cons (ps_set (i := 1) scStream.nd rfl (.inl rfl) (pe_lst pa_nil))
      (pss_cons (ps_for PassesOwn.never rfl (pi_list (pe_slice sl_list (pv 0) po_none (po_some pe_int))) (pg_name (i := 2) scStream.nd rfl (.inl rfl))
        (pss_cons (ps_set (i := 3) scStream.nd rfl (.inl rfl) (pe_callTy call_int1 (by rfl) mi (by decide +kernel) (pa_cons (pv 2) pa_nil)))
        (pss_one (ps_if (pt_cmpR op_ge (pv 3) (pe_op op_pow pe_int pe_int) (nomark _))
          (pss_one (ps_for PassesOwn.never rfl (pi_range1 (by rfl) mr (pa_cons pe_int pa_nil)) (pg_name (i := 4) scStream.nd rfl (.inl rfl))
            (pss_cons (ps_expr (pe_bm PySem.F.plainAttrs_list PySem.F.slot_list_append PySem.F.type_list_append mt_append (pv 1) (pa_cons (pe_op op_mod (pe_callTy call_int1 (by rfl) mi (by decide +kernel) (pa_cons (pv 3) pa_nil)) pe_int) pa_nil)))
            (pss_cons (ps_set (i := 3) scStream.nd rfl (.inl rfl) (pe_op op_fdivN (pv 3) pe_int))
            (pss_one (ps_if (pt_cmpR op_eq (pv 3) pe_int (nomark _)) (pss_one ps_break) pss_nil))))))
          (pss_cons (ps_set (i := 5) scStream.nd rfl (.inl rfl) (pe_op op_mod (pe_callTy call_int1 (by rfl) mi (by decide +kernel) (pa_cons (pv 3) pa_nil)) pe_int))
          (pss_one (ps_for PassesOwn.never rfl (pi_range1 (by rfl) mr (pa_cons pe_int pa_nil)) (pg_name (i := 4) scStream.nd rfl (.inl rfl))
            (pss_cons (ps_set (i := 5) scStream.nd rfl (.inl rfl) (pe_op op_mod (pe_callTy call_int1 (by rfl) mi (by decide +kernel) (pa_cons (pe_op op_add (pe_op op_add (pe_op op_mul (pv 5) pe_int) (pe_op op_mul pe_int (pv 4))) pe_int) pa_nil)) pe_int))
            (pss_one (ps_expr (pe_bm PySem.F.plainAttrs_list PySem.F.slot_list_append PySem.F.type_list_append mt_append (pv 1)
              (pa_cons (pe_op op_mod (pe_op op_mod (pe_callTy call_int1 (by rfl) mi (by decide +kernel) (pa_cons (pe_op op_add (pe_op op_mul (pv 5) pe_int) (pv 4)) pa_nil)) pe_int) pe_int) pa_nil))))))))))))
      (pss_cons (ps_if (pt_cmpR op_eq (pe_callB call_len_seq (by rfl) ml PySem.boot_len (pa_cons (pv 1) pa_nil)) pe_int (nomark _))
        (pss_one (ps_expr (pe_bm PySem.F.plainAttrs_list PySem.F.slot_list_append PySem.F.type_list_append mt_append (pv 1) (pa_cons pe_int pa_nil)))) pss_nil)
      (pss_one (ps_ret (pv 1))))), ?_⟩
    refine ⟨Nat.zero_le _, fun nl nnl => ?_⟩
    have x1 : Ex H (upd H nl (.lst [])) := Ex.new nnl
    have line : 5000 < sizeLine := by decide
    obtain ⟨cs, ecut, hcs⟩ := cut_ints ns0 none (some 63)
    have hsl : EvL (tSl (rSlL K) (tVar 0) tNoPart (tPart (tC (.int 63)))) [some (.ref a), some (.ref nl), none, none, none, none] (upd H nl (.lst [])) (cs.map V.int) := by
      rw [← ecut]
      exact el_sl (ev_var rfl) eo_none (eo_some ev_c) (ex_l x1 hS)
    refine s_forNL hsl (fun c i σ' H' => ∃ (ms : List Int) (y2 y3 y4 y5 : Option V), σ' = [some (.ref a), some (.ref nl), y2, y3, y4, y5] ∧ Ex H H' ∧ H' nl = some (.lst (ms.map V.int)) ∧ ms.length ≤ 60 * i ∧ c ≠ nl ∧ H' c = some (.lst (cs.map V.int)))
      (fun c H2 nc x2 hc => ⟨[], none, none, none, none, rfl, x1.trans x2, x2 _ _ upd_same, Nat.zero_le _, (fun z => by rw [z, upd_same] at nc; cases nc), hc⟩) ?_ ?_ ?_
    · rintro c i σ' H2 _ ⟨ms, y2, y3, y4, y5, rfl, x2, hn, hl, cn, hc⟩
      exact sq_of hc
    · rintro c i x σ' H2 hx ⟨ms, y2, y3, y4, y5, rfl, x2, hn, hl, cn, hc⟩
      have hic : i < 63 := by
        have := (List.getElem?_eq_some_iff.mp hx).1
        rw [List.length_map] at this
        omega
      obtain ⟨z, rfl⟩ : ∃ z, x = .int z := by
        rw [List.getElem?_map] at hx
        obtain ⟨z, _, h2⟩ := Option.map_eq_some_iff.mp hx
        exact ⟨z, h2.symm⟩
      -- rest = int(cell)
      refine ⟨.int z, rfl, .inl ⟨z, rfl, ?_⟩⟩
      -- if rest >= 10 ** 18
      refine ⟨.int z, rfl, 10, 18, rfl, rfl, ⟨by decide, by decide, by decide⟩, z, _, rfl, rfl, _, rfl, ite2 (fun e => ?_) (fun e => ?_)⟩
      · refine s_forR1 (ea_cons ev_c ea_nil) (by omega) (fun j σ' H' => ∃ (ms : List Int) (r : Int) (y4 : Option V), σ' = [some (.ref a), some (.ref nl), some (.int z), some (.int r), y4, y5] ∧ Ex H H' ∧ H' nl = some (.lst (ms.map V.int)) ∧ ms.length ≤ 60 * i + j ∧ H' c = some (.lst (cs.map V.int)))
          (fun H3 x3 => ⟨ms, z, y4, rfl, x2.trans x3, x3 _ _ hn, by omega, x3 _ _ hc⟩) ?_ ?_
        · rintro j σ' H3 hj ⟨ms, r, y4, rfl, x3, hn3, hl3, hc3⟩
          refine ⟨.ref nl, rfl, .inl ⟨rfl, _, sq_of hn3⟩, .int r, rfl, .inl ⟨r, rfl, r, 1009, rfl, rfl, by show (0 : Int) < 1009; decide, nl, _, _, rfl, rfl, hn3, by rw [List.length_map]; omega, ?_⟩⟩
          refine ⟨.int r, rfl, r, 1009, rfl, rfl, ⟨by decide, by decide⟩, ?_⟩
          have hn4 : (upd H3 nl (.lst (ms.map V.int ++ [V.int (r % 1009)]))) nl = some (.lst ((ms ++ [r % 1009]).map V.int)) := by rw [upd_same, List.map_append]; rfl
          have hc4 : (upd H3 nl (.lst (ms.map V.int ++ [V.int (r % 1009)]))) c = some (.lst (cs.map V.int)) := by rw [upd_ne cn]; exact hc3
          have x4 : Ex H (upd H3 nl (.lst (ms.map V.int ++ [V.int (r % 1009)]))) := Ex.mut x3 nnl
          refine ⟨.int (r.fdiv 1009), rfl, rfl, _, rfl, ite2 (fun e2 => ?_) (fun e2 => ?_)⟩
          · exact ⟨ms ++ [r % 1009], _, _, _, _, rfl, x4, hn4, by rw [List.length_append]; show ms.length + 1 ≤ _; omega, cn, hc4⟩
          · exact ⟨ms ++ [r % 1009], r.fdiv 1009, some (.int (j : Int)), rfl, x4, hn4, by rw [List.length_append]; show ms.length + 1 ≤ _; omega, hc4⟩
        · rintro σ' H3 ⟨ms, r, y4, rfl, x3, hn3, hl3, hc3⟩
          exact ⟨ms, _, _, _, _, rfl, x3, hn3, by have : (60 : Int).toNat = 60 := rfl; omega, cn, hc3⟩
      · -- mixed
        refine ⟨.int z, rfl, .inl ⟨z, rfl, z, 2147483647, rfl, rfl, by show (0 : Int) < 2147483647; decide, ?_⟩⟩
        refine s_forR1 (ea_cons ev_c ea_nil) (by omega) (fun j σ' H' => ∃ (ms : List Int) (mx : Int) (y4 : Option V), σ' = [some (.ref a), some (.ref nl), some (.int z), some (.int z), y4, some (.int mx)] ∧ Ex H H' ∧ H' nl = some (.lst (ms.map V.int)) ∧ ms.length ≤ 60 * i + j ∧ H' c = some (.lst (cs.map V.int)))
          (fun H3 x3 => ⟨ms, z % 2147483647, y4, rfl, x2.trans x3, x3 _ _ hn, by omega, x3 _ _ hc⟩) ?_ ?_
        · rintro j σ' H3 hj ⟨ms, mx, y4, rfl, x3, hn3, hl3, hc3⟩
          refine ⟨.int mx, rfl, mx, 48271, rfl, rfl, .inr ⟨by decide, by decide⟩, .int (j : Int), rfl, 7, (j : Int), rfl, rfl, .inl ⟨by decide, by decide⟩, _, _, rfl, rfl, _, _, rfl, rfl, .inl ⟨_, rfl, _, 2147483647, rfl, rfl, by show (0 : Int) < 2147483647; decide, ?_⟩⟩
          change Ends.nx _ [some (V.ref a), some (V.ref nl), some (V.int z), some (V.int z), some (V.int (j : Int)), some (V.int ((mx * 48271 + 7 * (j : Int) + 11) % 2147483647))] _
          generalize (mx * 48271 + 7 * (j : Int) + 11) % 2147483647 = my
          refine ⟨.ref nl, rfl, .inl ⟨rfl, _, sq_of hn3⟩, .int my, rfl, my, 69621, rfl, rfl, .inr ⟨by decide, by decide⟩, .int (j : Int), rfl, _, (j : Int), rfl, rfl, .inl ⟨_, rfl, _, 2147483629, rfl, rfl, by show (0 : Int) < 2147483629; decide, _, 1009, rfl, rfl, by show (0 : Int) < 1009; decide, nl, _, _, rfl, rfl, hn3, by rw [List.length_map]; omega, ?_⟩⟩
          refine ⟨ms ++ [(my * 69621 + (j : Int)) % 2147483629 % 1009], my, some (.int (j : Int)), rfl, Ex.mut x3 nnl, by rw [upd_same, List.map_append]; rfl, by rw [List.length_append]; show ms.length + 1 ≤ _; omega, by rw [upd_ne cn]; exact hc3⟩
        · rintro σ' H3 ⟨ms, mx, y4, rfl, x3, hn3, hl3, hc3⟩
          exact ⟨ms, _, _, _, _, rfl, x3, hn3, by have : (10 : Int).toNat = 10 := rfl; omega, cn, hc3⟩
    · rintro c σ' H2 ⟨ms, y2, y3, y4, y5, rfl, x2, hn, hl, cn, hc⟩
      rw [List.length_map] at hl
      -- if len(numbers) == 0
      refine ⟨.ref nl, rfl, nl, _, rfl, .inl (sq_of hn), rfl, _, rfl, ite2 (fun e => ?_) (fun e => ?_)⟩
      · refine ⟨.ref nl, rfl, .inl ⟨rfl, _, sq_of hn⟩, nl, _, _, rfl, rfl, hn, by rw [List.length_map]; omega, ?_⟩
        refine ⟨.ref nl, rfl, q nl _ (ms ++ [0]) ⟨?_, by rw [List.length_append]; show 0 < ms.length + 1; omega, by rw [List.length_append]; show ms.length + 1 ≤ _; omega⟩ (Ex.mut x2 nnl)⟩
        refine sq_of ?_
        rw [upd_same, List.map_append]
        rfl
      · refine ⟨.ref nl, rfl, q nl H2 ms ⟨sq_of hn, ?_, by omega⟩ x2⟩
        cases ms with
        | nil => exact absurd (decide_eq_true rfl) e
        | cons m ms => exact Nat.succ_pos _
end
end Mae

namespace Mae
open PySem PySem.Spec PyProof.Rows L2 Evl

/-! ### machines as data -/
def nD (n : Nat) : PyData := .int (n : Int)
def rowD (row : List Nat) : PyData := .tuple (row.map nD)
def mD (M : Mach) : PyData := .tuple [nD M.k, nD M.o, .tuple (M.mv.map rowD), .tuple (M.out.map nD)]
theorem dp_ints {K : PySem.W.Frag} {H : Hp} : ∀ ns : List Nat, DpAll K H (ns.map vi) (ns.map nD)
  | [] => .nil
  | n :: ns => .cons (.int _) (dp_ints ns)
theorem dp_rows {K : PySem.W.Frag} {H : Hp} : ∀ {rs : List Addr} {rows : List (List Nat)}, Fa (fun r row => H r = some (.tup (row.map vi))) rs rows → DpAll K H (rs.map V.ref) (rows.map rowD)
  | _, _, .nil => .nil
  | _, _, .cons h t => .cons (.tup (st_of h) (dp_ints _)) (dp_rows t)
theorem dp_mach {K : PySem.W.Frag} {H : Hp} {a : Addr} {M : Mach} (h : MAt K H a M) : Dp K H (.ref a) (mD M) := by
  obtain ⟨ra, oa, rs, h1, h2, h3, h4⟩ := h
  exact .tup (st_of h1) (.cons (.int _) (.cons (.int _) (.cons (.tup (st_of h2) (dp_rows h4)) (.cons (.tup h3 (dp_ints _)) .nil))))
theorem lay_ints : ∀ ns : List Nat, PyData.canLayAll0 (ns.map nD) = true
  | [] => by simp [PyData.canLayAll0]
  | n :: ns => by simp [PyData.canLayAll0, PyData.canLay0, nD, lay_ints ns]
theorem lay_rows : ∀ rows : List (List Nat), PyData.canLayAll0 (rows.map rowD) = true
  | [] => by simp [PyData.canLayAll0]
  | r :: rows => by
    rw [List.map_cons, PyData.canLayAll0, lay_rows rows]
    simp only [rowD, PyData.canLay0, lay_ints r, Bool.and_true]
theorem dep_ints : ∀ ns : List Nat, PyData.depthAll (ns.map nD) = 0
  | [] => by simp [PyData.depthAll]
  | n :: ns => by simp [PyData.depthAll, PyData.depth, nD, dep_ints ns]
theorem dep_rows : ∀ rows : List (List Nat), PyData.depthAll (rows.map rowD) ≤ 1
  | [] => by simp [PyData.depthAll]
  | r :: rows => by
    have h := dep_rows rows
    have h2 := dep_ints r
    have e : (rowD r).depth = 1 := by
      unfold rowD
      simp only [PyData.depth, h2]
    rw [List.map_cons, PyData.depthAll, e]
    omega
theorem shaped_m (M : Mach) : SeqAt.shaped (mD M) = true := by
  have h1 := dep_ints M.out
  have h2 := dep_rows M.mv
  show ((mD M).canLay0 && decide ((mD M).depth ≤ 64)) = true
  rw [Bool.and_eq_true]
  refine ⟨?_, decide_eq_true ?_⟩
  · simp only [mD, PyData.canLay0, PyData.canLayAll0, lay_rows, lay_ints, nD, Bool.and_true]
  · have e1 : ∀ n, (nD n).depth = 0 := fun n => by
      unfold nD
      simp only [PyData.depth]
    unfold mD
    simp only [PyData.depth, PyData.depthAll, e1, h1]
    omega
theorem shaped_l (ns : List Nat) : SeqAt.shaped (.list (ns.map nD)) = true := by
  have h1 := dep_ints ns
  show (PyData.canLay0 (.list (ns.map nD)) && decide (PyData.depth (.list (ns.map nD)) ≤ 64)) = true
  rw [Bool.and_eq_true]
  refine ⟨by simp only [PyData.canLay0]; exact lay_ints ns, decide_eq_true ?_⟩
  simp only [PyData.depth]
  omega
theorem eqv_n (a b : Nat) : PyData.eqv (nD a) (nD b) = decide (a = b) := by
  show ((a : Int) == (b : Int)) = _
  by_cases e : a = b
  · subst e; simp
  · have e2 : ¬ (a : Int) = (b : Int) := fun z => e (Int.ofNat.inj z)
    rw [beq_eq_false_iff_ne.mpr e2, decide_eq_false e]
theorem eqv_ints : ∀ a b : List Nat, PyData.eqvAll (a.map nD) (b.map nD) = decide (a = b)
  | [], [] => by simp [PyData.eqvAll]
  | [], _ :: _ => by simp [PyData.eqvAll]
  | _ :: _, [] => by simp [PyData.eqvAll]
  | x :: a, y :: b => by
    rw [List.map_cons, List.map_cons, PyData.eqvAll, eqv_n, eqv_ints a b, ← Bool.decide_and]
    simp
theorem eqv_row (a b : List Nat) : PyData.eqv (rowD a) (rowD b) = decide (a = b) := by
  unfold rowD
  rw [PyData.eqv]
  exact eqv_ints a b
theorem eqv_rows : ∀ a b : List (List Nat), PyData.eqvAll (a.map rowD) (b.map rowD) = decide (a = b)
  | [], [] => by simp [PyData.eqvAll]
  | [], _ :: _ => by simp [PyData.eqvAll]
  | _ :: _, [] => by simp [PyData.eqvAll]
  | x :: a, y :: b => by
    rw [List.map_cons, List.map_cons, PyData.eqvAll, eqv_row, eqv_rows a b, ← Bool.decide_and]
    simp
theorem eqv_m (A B : Mach) : PyData.eqv (mD A) (mD B) = decide (A = B) := by
  obtain ⟨k1, o1, m1, u1⟩ := A
  obtain ⟨k2, o2, m2, u2⟩ := B
  unfold mD
  simp only [PyData.eqv, PyData.eqvAll, eqv_n, eqv_rows, eqv_ints, Bool.and_true, ← Bool.decide_and, Mach.mk.injEq]
theorem eqv_l (a b : List Nat) : PyData.eqv (.list (a.map nD)) (.list (b.map nD)) = decide (a = b) := by
  rw [PyData.eqv]
  exact eqv_ints a b
end Mae

namespace Mae
open PySem PySem.Spec PyProof.Rows L2 Evl

theorem scLaw : FnScope ["_law_script", "_law_numbers", "_law_sizes_here", "_law_first", "_law_way", "_law_second", "_law_small", "_law_other", "_law_told", "_law_word"] ["_law_script"] (defScope sLaw) := ⟨rfl, rfl, rfl, by decide +kernel, rfl, by decide +kernel, by decide +kernel⟩
/-- a def of the text, as the callers know it -/
structure Def (K : PySem.W.Frag) (mg : Str → Option Value) (x : Str) (st : Stmt) (ps : List Str) (f : Addr) (fd : FuncData) : Prop where
  F : Fun K x x st f fd
  b : Binds K fd ps []
  g : mg x = some (.ref f)
/-- the first difference of two machines is one of their least machines, too -/
theorem first_moves {A B L M : Mach} (OA : A.Ok) (OB : B.Ok) (hk : A.k = B.k) (hL : IsLeast A L) (hM : IsLeast B M) {u : List Nat} (h : (two A B 0 0).First u) : (two L M 0 0).First u := by
  have kL : L.k = A.k := hL.k
  have dif : ∀ x, Vw A.k x → ((two L M 0 0).Dif x ↔ (two A B 0 0).Dif x) := fun x hx => by
    have hxB : Vw B.k x := by rw [← hk]; exact hx
    show L.v (run L.d 0 x) ≠ M.v (run M.d 0 x) ↔ A.v (run A.d 0 x) ≠ B.v (run B.d 0 x)
    rw [hL.alike OA x hx, hM.alike OB x hxB]
  refine ⟨by show Vw L.k u; rw [kL]; exact h.vw, (dif u h.vw).mpr h.dif, fun x hx hc hd => ?_⟩
  have hx' : Vw A.k x := by
    have hx2 : Vw L.k x := hx
    rwa [kL] at hx2
  have hc' : code A.k x < code A.k u := by
    have hc2 : code L.k x < code L.k u := hc
    rwa [kL] at hc2
  exact h.min x hx' hc' ((dif x hx').mp hd)
section
variable {P : Program} {w : World} {K : PySem.W.Frag} {mg : Str → Option Value} {base : Heap}
theorem ev_run {σ : L2.St} {H : Hp} {ta tb : TE} {a wa : Addr} {M : Mach} {u : List Nat} (ha : Ev ta σ H (.ref a)) (hb : Ev tb σ H (.ref wa)) (hM : MAt K H a M) (O : M.Ok) (hw : SqL K H wa (u.map vi)) (hv : Vw M.k u) :
    Ev (tCall (spRun K) [] E0 (tCons ta (tCons tb tNil))) σ H (vi (run M.d 0 u)) := fun H1 e Q q =>
  ha H1 e _ fun H2 e2 => hb H2 (e.trans e2) _ fun H3 e3 => ⟨a, wa, M, u, rfl, hM.ex ((e.trans e2).trans e3), O, ex_l ((e.trans e2).trans e3) hw, hv, fun H4 e4 => q H4 ((e2.trans e3).trans e4)⟩
def spLaw (K : PySem.W.Frag) : Sp := fun vs H Q _ => ∃ (a : Addr) (ns : List Int), vs = [.ref a] ∧ SqL K H a (ns.map V.int) ∧ ns.length ≤ 63 ∧ ∀ H', Q (.bl true) H'
theorem ok_law {f f1 f2 f3 f4 f5 f6 f7 f8 f9 g1 g2 g3 g4 g5 g6 g7 g8 g9 : Addr} {fd d1 d2 d3 d4 d5 d6 d7 d8 d9 e1 e2 e3 e4 e5 e6 e7 e8 e9 : FuncData} (F : Fun K "law" "law" sLaw f fd)
    (DS : Def K mg "search" sSearch ["first", "second", "state", "other"] f1 d1) (DK : Def K mg "check_kind" sKind ["first", "second"] f2 d2) (DA : Def K mg "are_alike" sAlike ["first", "second"] f3 d3) (DF : Def K mg "first_difference" sFirst ["first", "second"] f4 d4)
    (DW : Def K mg "parting_word" sPart ["machine", "state", "other"] f5 d5) (DR : Def K mg "refined" sRefined ["machine", "groups"] f6 d6) (DC : Def K mg "classes" sClasses ["machine"] f7 d7) (DM : Def K mg "met_states" sMet ["machine", "groups"] f8 d8) (DL : Def K mg "least" sLeast ["machine"] f9 d9)
    (LS : Def K mg "_law_stream" sStream ["_law_script"] g1 e1) (LP : Def K mg "_law_pick" sPick ["_law_numbers", "_law_at", "_law_many"] g2 e2) (LZ : Def K mg "_law_sizes" sSizes ["_law_numbers"] g3 e3) (LM : Def K mg "_law_machine" sMachine ["_law_numbers", "_law_at", "_law_sizes_here"] g4 e4)
    (LR : Def K mg "_law_run" sRun ["_law_machine_here", "_law_word"] g5 e5) (LF : Def K mg "_law_few" sFew ["_law_numbers", "_law_machine_here"] g6 e6) (LD : Def K mg "_law_doubled" sDoubled ["_law_numbers", "_law_machine_here"] g7 e7) (LC : Def K mg "_law_changed" sChanged ["_law_numbers", "_law_machine_here"] g8 e8)
    (LQ : Def K mg "_law_parts" sParts ["_law_small", "_law_numbers"] g9 e9)
    (ml : mg "len" = none) (mi : mg "int" = none) (mr : mg "range" = none) (mt : mg "tuple" = none) (mli : mg "list" = none) (me : mg "enumerate" = none) (mmin : mg "min" = none) (mmax : mg "max" = none) (mis : mg "isinstance" = none) (mb : mg "bool" = none) :
    FnOk P w K mg base CX0 4 f fd ["_law_script"] (spLaw K) := by
  have GS : FnOk P w K mg base CX0 1 g1 e1 ["_law_script"] (spStream K) := ok_stream LS.F ml mi mr
  have GP : FnOk P w K mg base CX0 1 g2 e2 ["_law_numbers", "_law_at", "_law_many"] (spPick K) := ok_pick LP.F ml mi
  have GZ : FnOk P w K mg base CX0 2 g3 e3 ["_law_numbers"] (spSizes K) := ok_sizes LZ.F LP.F LP.b LP.g ml mi
  have GM : FnOk P w K mg base CX0 2 g4 e4 ["_law_numbers", "_law_at", "_law_sizes_here"] (spMachine K) := ok_machine LM.F LP.F LP.b LP.g ml mi mr mt
  have GR : FnOk P w K mg base CX0 1 g5 e5 ["_law_machine_here", "_law_word"] (spRun K) := ok_run LR.F
  have GF : FnOk P w K mg base CX0 2 g6 e6 ["_law_numbers", "_law_machine_here"] (spFew K) := ok_few LF.F LP.F LP.b LP.g ml mi mt
  have GD : FnOk P w K mg base CX0 2 g7 e7 ["_law_numbers", "_law_machine_here"] (spDoubled K) := ok_doubled LD.F LP.F LP.b LP.g ml mi mr mt
  have GC : FnOk P w K mg base CX0 2 g8 e8 ["_law_numbers", "_law_machine_here"] (spChanged K) := ok_changed LC.F LP.F LP.b LP.g ml mi mli mt
  have GQ : FnOk P w K mg base CX0 3 g9 e9 ["_law_small", "_law_numbers"] (spParts K) := ok_parts LQ.F LP.F DW.F DS.F LP.b DW.b DS.b LP.g DW.g DS.g ml mi mr mmin mmax
  have GL : FnOk P w K mg base CX0 3 f9 d9 ["machine"] (spLeast K) := ok_least DL.F DC.F DM.F DR.F DC.b DM.b DR.b DC.g DM.g DR.g me mt mr ml
  have GA : FnOk P w K mg base CX0 2 f3 d3 ["first", "second"] (spAlike K) := ok_alike DA.F DK.F DS.F DK.b DS.b DK.g DS.g ml mr
  have GI : FnOk P w K mg base CX0 2 f4 d4 ["first", "second"] (spFirst K) := ok_first DF.F DK.F DS.F DK.b DS.b DK.g DS.g ml mr
  refine F.ok scLaw (fun vs H Q E h => ?_) (fun cdv A0 outer s H vs Q E hr h => ?_)
  · obtain ⟨a, ns, rfl, _⟩ := h
    rfl
  · obtain ⟨sc, ns0, rfl, hS, h63, q⟩ := h
    have hr1 := hr.mono (show 1 ≤ 3 by decide)
    have hr2 := hr.mono (show 2 ≤ 3 by decide)
    have hu := hr.units
    refine ⟨_, pss_cons (ps_set (i := 1) scLaw.nd rfl (.inl rfl) (pe_call GS hr1 (by rfl) LS.g LS.F.kp LS.b .nil pass0 (pa_cons (pv 0) pa_nil)))
      (pss_cons (ps_set (i := 2) scLaw.nd rfl (.inl rfl) (pe_call GZ hr2 (by rfl) LZ.g LZ.F.kp LZ.b .nil pass0 (pa_cons (pv 1) pa_nil)))
      (pss_cons (ps_set (i := 3) scLaw.nd rfl (.inl rfl) (pe_call GF hr2 (by rfl) LF.g LF.F.kp LF.b .nil pass0 (pa_cons (pv 1) (pa_cons (pe_call GM hr2 (by rfl) LM.g LM.F.kp LM.b .nil pass0 (pa_cons (pv 1) (pa_cons pe_int (pa_cons (pv 2) pa_nil)))) pa_nil))))
      (pss_cons (ps_set (i := 4) scLaw.nd rfl (.inl rfl) (pe_call GP hr1 (by rfl) LP.g LP.F.kp LP.b .nil pass0 (pa_cons (pv 1) (pa_cons pe_int (pa_cons pe_int pa_nil)))))
      (pss_cons (ps_set (i := 5) scLaw.nd rfl (.inl rfl) (pe_call GF hr2 (by rfl) LF.g LF.F.kp LF.b .nil pass0 (pa_cons (pv 1) (pa_cons (pe_call GM hr2 (by rfl) LM.g LM.F.kp LM.b .nil pass0 (pa_cons (pv 1) (pa_cons pe_int (pa_cons
          (pe_tup (pa_cons (pe_op op_add pe_int (pe_call GP hr1 (by rfl) LP.g LP.F.kp LP.b .nil pass0 (pa_cons (pv 1) (pa_cons pe_int (pa_cons pe_int pa_nil))))) (pa_cons (pe_ix ix_tup (pv 2) pe_int (fun _ _ => rfl)) (pa_cons (pe_ix ix_tup (pv 2) pe_int (fun _ _ => rfl)) pa_nil)))) pa_nil)))) pa_nil))))
      (pss_cut (ps_if (PW.pt (pw_and (pt_cmpR op_eq (pv 4) pe_int (nomark _)) (pw_and1 (pt_cmpR op_le (pe_ix ix_tup (pv 2) pe_int (fun _ _ => rfl)) pe_int (nomark _)))))
        (pss_one (ps_set (i := 5) scLaw.nd rfl (.inl rfl) (pe_call GD hr2 (by rfl) LD.g LD.F.kp LD.b .nil pass0 (pa_cons (pv 1) (pa_cons (pv 3) pa_nil)))))
        (pss_one (ps_if (pt_cmpR op_gt (pv 4) pe_int (nomark _))
          (pss_one (ps_set (i := 5) scLaw.nd rfl (.inl rfl) (pe_call GC hr2 (by rfl) LC.g LC.F.kp LC.b .nil pass0 (pa_cons (pv 1) (pa_cons (pv 3) pa_nil))))) pss_nil)))
      (pss_cons (ps_set (i := 6) scLaw.nd rfl (.inl rfl) (pe_call GL hr (by rfl) DL.g DL.F.kp DL.b .nil pass0 (pa_cons (pv 3) pa_nil)))
      (pss_cons (ps_set (i := 7) scLaw.nd rfl (.inl rfl) (pe_call GL hr (by rfl) DL.g DL.F.kp DL.b .nil pass0 (pa_cons (pv 5) pa_nil)))
      (pss_cons (ps_set (i := 8) scLaw.nd rfl (.inl rfl) (pe_call GA hr2 (by rfl) DA.g DA.F.kp DA.b .nil pass0 (pa_cons (pv 3) (pa_cons (pv 5) pa_nil))))
      (pss_cons (ps_if (PW.pt (pw_or (pt_not (pt_val (pe_callB call_isi (by rfl) mis (by decide +kernel) (pa_cons (pv 8) (pa_cons (pe_bltn (v := .ty "bool") (u := .type "bool") (by rfl) mb (by decide +kernel) rfl) pa_nil)))))
          (pw_or (pt_cmpR op_ne (pv 8) (pe_cmpR (op_eqD hu) (pv 6) (pv 7) (nomark _)) (nomark _)) (pw_or1 (pt_not (pt_val (pe_call GA hr2 (by rfl) DA.g DA.F.kp DA.b .nil pass0 (pa_cons (pv 3) (pa_cons (pv 6) pa_nil)))))))))
        (pss_one (ps_ret pe_bl)) pss_nil)
      (pss_cons (ps_if (pt_not (pt_val (pe_call GQ hr (by rfl) LQ.g LQ.F.kp LQ.b .nil pass0 (pa_cons (pv 6) (pa_cons (pv 1) pa_nil))))) (pss_one (ps_ret pe_bl)) pss_nil)
      (pss_cons (ps_if (pt_val (pv 8)) (pss_one (ps_ret pe_bl)) pss_nil)
      (pss_cons (ps_if (PW.pt (pw_and (pt_cmpR op_eq (pv 4) pe_int (nomark _)) (pw_and1 (pt_cmpR op_le (pe_ix ix_tup (pv 2) pe_int (fun _ _ => rfl)) pe_int (nomark _))))) (pss_one (ps_ret pe_bl)) pss_nil)
      (pss_cons (ps_set (i := 9) scLaw.nd rfl (.inl rfl) (pe_call GI hr2 (by rfl) DF.g DF.F.kp DF.b .nil pass0 (pa_cons (pv 3) (pa_cons (pv 5) pa_nil))))
      (pss_cons (ps_if (PW.pt (pw_or (pt_cmpR op_ge (pe_callB call_len_seq (by rfl) ml PySem.boot_len (pa_cons (pv 9) pa_nil)) (pe_op op_add (pe_callB call_len_seq (by rfl) ml PySem.boot_len (pa_cons (pe_ix ix_tup (pv 6) pe_int (fun _ _ => rfl)) pa_nil)) (pe_callB call_len_seq (by rfl) ml PySem.boot_len (pa_cons (pe_ix ix_tup (pv 7) pe_int (fun _ _ => rfl)) pa_nil))) (nomark _))
          (pw_or1 (pt_cmpR (op_neD hu) (pe_call GI hr2 (by rfl) DF.g DF.F.kp DF.b .nil pass0 (pa_cons (pv 6) (pa_cons (pv 7) pa_nil))) (pv 9) (nomark _)))))
        (pss_one (ps_ret pe_bl)) pss_nil)
      (pss_one (ps_ret (pe_cmpR op_ne (pe_ix ix_tup (pe_ix ix_tup (pv 3) pe_int (fun _ _ => rfl)) (pe_call GR hr1 (by rfl) LR.g LR.F.kp LR.b .nil pass0 (pa_cons (pv 3) (pa_cons (pv 9) pa_nil))) (fun _ _ => rfl))
        (pe_ix ix_tup (pe_ix ix_tup (pv 5) pe_int (fun _ _ => rfl)) (pe_call GR hr1 (by rfl) LR.g LR.F.kp LR.b .nil pass0 (pa_cons (pv 5) (pa_cons (pv 9) pa_nil))) (fun _ _ => rfl)) (nomark _)))))))))))))))))), ?_⟩
    -- numbers, sizes
    refine ⟨.ref sc, rfl, sc, ns0, rfl, hS, h63, fun na H1 ms hN1 x1 => ?_⟩
    refine ⟨.ref na, rfl, na, ms, rfl, hN1, fun sz H2 n kk o n1 n2 k1 k2 o1 x2 hsz => ?_⟩
    have hN2 := hN1.ex x2
    -- first
    refine ⟨.ref na, rfl, .ref na, rfl, .ref sz, rfl, na, sz, ms, 9, n, kk, o, rfl, hN2, hsz, n1, n2, k1, k2, o1, fun m0 H3 M0 O0 en0 ek0 eo0 x3 hM0 => ?_⟩
    refine ⟨na, m0, ms, M0, rfl, hN2.ex x3, hM0, O0, fun a H4 A OA enA ekA eoA x4 hA => ?_⟩
    have x24 := x3.trans x4
    have hN4 := hN2.ex x24
    have hAn : A.n = n := by rw [enA, en0]
    have hAk : A.k = kk := by rw [ekA, ek0]
    have hAo : A.o = o := by rw [eoA, eo0]
    -- way
    refine ⟨.ref na, rfl, na, ms, 5, 3, rfl, hN4, by decide, fun way lway H5 x5 => ?_⟩
    have x25 := x24.trans x5
    have hsz5 := x25 _ _ hsz
    have hN5 := hN2.ex x25
    change Ends.nx _ [some (V.ref sc), some (V.ref na), some (V.ref sz), some (V.ref a), some (vi way), none, none, none, none, none] _
    -- second
    refine ⟨.ref na, rfl, .ref na, rfl, .ref na, rfl, na, ms, 2, 6, rfl, hN5, by decide, fun r2 l2 H6 x6 => ⟨1, (r2 : Int), rfl, rfl, ?_⟩⟩
    have hsz6 := x6 _ _ hsz5
    refine ⟨.ref sz, rfl, sz, _, _, vi kk, rfl, rfl, st_of hsz6, atI_nat (j := 1) rfl, .ref sz, rfl, sz, _, _, vi o, rfl, rfl, st_of hsz6, atI_nat (j := 2) rfl, by show 3 ≤ sizeLine; decide, fun sz2 nsz2 => ?_⟩
    have e2 : V.int (1 + (r2 : Int)) = vi (1 + r2) := by show V.int _ = V.int _; congr 1
    have x7 : Ex H6 (upd H6 sz2 (.tup [V.int (1 + (r2 : Int)), vi kk, vi o])) := Ex.new nsz2
    have x57 := x6.trans x7
    refine ⟨na, sz2, ms, 14, 1 + r2, kk, o, rfl, hN5.ex x57, by rw [← e2]; exact upd_same, by omega, by omega, k1, k2, o1, fun m1 H8 M1 O1 en1 ek1 eo1 x8 hM1 => ?_⟩
    refine ⟨na, m1, ms, M1, rfl, (hN5.ex x57).ex x8, hM1, O1, fun b0 H9 B0 OB0 enB0 ekB0 eoB0 x9 hB0 => ?_⟩
    have x59 := (x57.trans x8).trans x9
    have hA9 := hA.ex (x5.trans x59)
    have hN9 := hN5.ex x59
    have hsz9 := x59 _ _ hsz5
    change tCut _ _ _ [some (V.ref sc), some (V.ref na), some (V.ref sz), some (V.ref a), some (vi way), some (V.ref b0), none, none, none, none] _
    refine ⟨fun σ' H' => ∃ (b : Addr) (B : Mach), σ' = [some (V.ref sc), some (V.ref na), some (V.ref sz), some (V.ref a), some (vi way), some (V.ref b), none, none, none, none] ∧ Ex H9 H' ∧ MAtP H' b B ∧ B.Ok ∧ B.k = A.k ∧ B.o = A.o ∧ (way = 1 ∧ A.n ≤ 15 → Alike A B), ?_, ?_⟩
    · -- the second machine, made of the first one
      refine s_if (et_and (et_test (ev_op (ev_var rfl) ev_c (rv_eq rfl))) (fun _ => et_test (ev_op (ev_op (ev_var rfl) ev_c (rv_ixT (st_of hsz9) (atI_nat (j := 0) rfl))) ev_c rv_I0))) (fun e H10 x10 => ?_) (fun e H10 x10 => ?_)
      · rw [Bool.and_eq_true] at e
        have h15 : n ≤ 15 := by
          have := of_decide_eq_true e.2
          omega
        refine ⟨.ref na, rfl, .ref a, rfl, na, a, ms, A, rfl, hN9.ex x10, (hA9.ex x10).m, OA, by omega, fun b H11 B OB ek eo al x11 hB => ?_⟩
        exact ⟨b, B, rfl, x10.trans x11, hB, OB, ek, eo, fun _ => al⟩
      · have hno : ¬ (way = 1 ∧ A.n ≤ 15) := by
          rintro ⟨h1, h2⟩
          have z1 : decide (vi way = V.int 1) = true := decide_eq_true (by rw [h1]; rfl)
          have z2 : decide ((n : Int) ≤ 15) = true := decide_eq_true (by omega)
          rw [z1] at e
          have e' : (true && decide ((n : Int) ≤ 15)) = false := e
          rw [z2] at e'
          cases e'
        refine s_if (et_test (ev_op (ev_var rfl) ev_c rv_I0)) (fun e3 H11 x11 => ?_) (fun e3 H11 x11 => ?_)
        · have x911 := x10.trans x11
          refine ⟨.ref na, rfl, .ref a, rfl, na, a, ms, A, rfl, hN9.ex x911, (hA9.ex x911).m, OA, by omega, fun b H12 B OB ek eo x12 hB => ?_⟩
          exact ⟨b, B, rfl, x911.trans x12, hB, OB, ek, eo, fun z => absurd z hno⟩
        · exact ⟨b0, B0, rfl, x10.trans x11, hB0.ex (x10.trans x11), OB0, by rw [ekB0, ek1, hAk], by rw [eoB0, eo1, hAo], fun z => absurd z hno⟩
    · rintro σ' H10 ⟨b, B, rfl, x10, hB, OB, ek, eo, hway⟩
      have hA10 := hA9.ex x10
      have hsz10 := x10 _ _ hsz9
      -- small, other, told
      refine ⟨.ref a, rfl, a, A, rfl, hA10, OA, fun l H11 L hL x11 hLm => ?_⟩
      refine ⟨.ref b, rfl, b, B, rfl, hB.ex x11, OB, fun m H12 M hM x12 hMm => ?_⟩
      have OL := hL.ok OA
      have OM := hM.ok OB
      have x1012 := x11.trans x12
      refine ⟨.ref a, rfl, .ref b, rfl, a, b, A, B, rfl, (hA10.ex x1012).m, (hB.ex x1012).m, OA, OB, ek.symm, eo.symm, fun c H13 hc x13 => ?_⟩
      have x1013 := x1012.trans x13
      have hA13 := (hA10.ex x1013).m (K := K)
      have hB13 := (hB.ex x1013).m (K := K)
      have hL13 := hLm.ex (x12.trans x13)
      have hM13 := hMm.ex x13
      have hN13 := (hN9.ex x10).ex x1013
      have eqLM : L = M ↔ Alike A B := least_eq_iff OA OB ek.symm eo.symm hL hM
      have kL : L.k = A.k := hL.k
      have kM : M.k = A.k := by rw [hM.k, ek]
      have oL : L.o = A.o := hL.o
      change Ends.nx _ [some (V.ref sc), some (V.ref na), some (V.ref sz), some (V.ref a), some (vi way), some (V.ref b), some (V.ref l), some (V.ref m), some (V.bl c), none] _
      have ecmp : (!decide (V.bl c = V.bl (PyData.eqv (mD L) (mD M)))) = false := by
        rw [eqv_m]
        have : c = decide (L = M) := by
          by_cases z : L = M
          · rw [decide_eq_true z]; exact hc.mpr (eqLM.mp z)
          · rw [decide_eq_false z]
            cases c with
            | false => rfl
            | true => exact absurd (eqLM.mpr (hc.mp rfl)) z
        rw [this, decide_eq_true rfl]
        rfl
      -- if not isinstance(told, bool) or ..
      refine ⟨.bl c, rfl, .bl c, .ty "bool", .type "bool", .type "bool", true, rfl, .ty "bool", .base (.bl c), kit_ty (by decide +kernel), true, rfl, iteF ?_⟩
      refine ⟨.bl c, rfl, .ref l, rfl, .ref m, rfl, mD L, mD M, dp_mach hL13, dp_mach hM13, shaped_m L, shaped_m M, rfl, _, rfl, ite2 (fun e => ?_) (fun _ => ?_)⟩
      · rw [ecmp] at e
        cases e
      refine ⟨.ref a, rfl, .ref l, rfl, a, l, A, L, rfl, hA13, hL13, OA, OL, kL.symm, oL.symm, fun c2 H14 hc2 x14 => ?_⟩
      have ec2 : c2 = true := hc2.mpr (hL.alike OA)
      subst ec2
      refine ⟨true, rfl, iteF ?_⟩
      -- if not parts(small, numbers)
      refine ⟨.ref l, rfl, .ref na, rfl, l, na, L, ms, rfl, hL13.ex x14, OL, hN13.ex x14, fun i j hi hj ne => hL.apart OA hi hj ne, fun H15 x15 => ⟨true, rfl, iteF ?_⟩⟩
      have x1315 := x14.trans x15
      -- if told
      refine ⟨.bl c, rfl, c, rfl, ite2 (fun e => ?_) (fun e => ?_)⟩
      · exact q _
      · have nal : ¬ Alike A B := fun z => e (hc.mpr z)
        have hsz15 := x1315 _ _ (x1013 _ _ hsz10)
        -- if way == 1 and sizes[0] <= 15
        refine s_if (et_and (et_test (ev_op (ev_var rfl) ev_c (rv_eq rfl))) (fun _ => et_test (ev_op (ev_op (ev_var rfl) ev_c (rv_ixT (st_of hsz15) (atI_nat (j := 0) rfl))) ev_c rv_I0))) (fun e5 H16 x16 => ?_) (fun e5 H16 x16 => ?_)
        · exfalso
          rw [Bool.and_eq_true] at e5
          have w1 : way = 1 := by
            have := of_decide_eq_true e5.1
            injection this with this
            omega
          have w2 : A.n ≤ 15 := by
            have := of_decide_eq_true e5.2
            omega
          exact nal (hway ⟨w1, w2⟩)
        · have x1316 := x1315.trans x16
          have hA16 := hA13.ex x1316
          have hB16 := hB13.ex x1316
          -- word = first_difference(first, second)
          refine ⟨.ref a, rfl, .ref b, rfl, a, b, A, B, rfl, hA16, hB16, OA, OB, ek.symm, eo.symm, nal, fun u p H17 hu1 x17 np hp => ?_⟩
          have x1317 := x1316.trans x17
          have hL17 := hL13.ex x1317
          have hM17 := hM13.ex x1317
          change Ends.nx _ [some (V.ref sc), some (V.ref na), some (V.ref sz), some (V.ref a), some (vi way), some (V.ref b), some (V.ref l), some (V.ref m), some (V.bl c), some (V.ref p)] _
          have nal2 : ¬ Alike L M := fun z => nal fun x hx => by
            have hxB : Vw B.k x := by rw [ek]; exact hx
            rw [hL.alike OA x hx, hM.alike OB x hxB]
            exact z x (by rw [kL]; exact hx)
          have key : ∀ u2, (two L M 0 0).First u2 → u2 = u ∧ u.length < L.n + M.n := fun u2 h2 => first_least OA OB ek.symm hL hM hu1 h2
          have hLM : (two L M 0 0).First u := first_moves OA OB ek.symm hL hM hu1
          have hlen := (key u hLM).2
          obtain ⟨lra, loa, lrs, l1, l2, l3, l4⟩ := id hL17
          obtain ⟨mra, moa, mrs, m1', m2', m3', m4'⟩ := id hM17
          have hll : (lrs.map V.ref).length = L.n := by rw [List.length_map]; exact l4.length
          have hml : (mrs.map V.ref).length = M.n := by rw [List.length_map]; exact m4'.length
          -- if len(word) >= .. or first_difference(small, other) != word
          refine ⟨.ref p, rfl, p, _, rfl, .inl (sq_of hp), .ref l, rfl, l, _, _, .ref lra, rfl, rfl, st_of l1, atI_nat (j := 2) rfl, lra, _, rfl, .inr (st_of l2), .ref m, rfl, m, _, _, .ref mra, rfl, rfl, st_of m1', atI_nat (j := 2) rfl, mra, _, rfl, .inr (st_of m2'),
            _, _, rfl, rfl, _, _, rfl, rfl, _, rfl, ite2 (fun e6 => ?_) (fun e6 => ?_)⟩
          · exfalso
            have e8 := of_decide_eq_true e6
            rw [hll, hml, List.length_map] at e8
            omega
          · refine ⟨.ref l, rfl, .ref m, rfl, l, m, L, M, rfl, hL17, hM17, OL, OM, by rw [kL, kM], by rw [oL, hM.o, eo], nal2, fun u2 p2 H21 hu2 x21 np2 hp2 => ?_⟩
            obtain ⟨eu, _⟩ := key u2 hu2
            subst eu
            have hp21 := x21 _ _ hp
            refine ⟨.ref p, rfl, .list (u2.map nD), .list (u2.map nD), .lst (sq_of hp2) (dp_ints u2), .lst (sq_of hp21) (dp_ints u2), shaped_l u2, shaped_l u2, _, rfl, ite2 (fun e7 => ?_) (fun _ => ?_)⟩
            · rw [eqv_l, decide_eq_true rfl] at e7
              cases e7
            · -- return first[3][run(first, word)] != second[3][run(second, word)]
              have x1321 := x1317.trans x21
              have hA21 := hA13.ex x1321
              have hB21 := hB13.ex x1321
              have vwA : Vw A.k u2 := hu1.vw
              have vwB : Vw B.k u2 := by rw [ek]; exact vwA
              have rA := run_lt OA.closed u2 0 OA.np vwA
              have rB := run_lt OB.closed u2 0 OB.np vwB
              refine s_ret (ev_op (ev_outp OA hA21 (ev_var rfl) (ev_run (ev_var rfl) (ev_var rfl) hA21 OA (sq_of hp21) vwA) rA) (ev_outp OB hB21 (ev_var rfl) (ev_run (ev_var rfl) (ev_var rfl) hB21 OB (sq_of hp21) vwB) rB) (rv_ne rfl)) fun H22 x22 => ?_
              have ed : (!decide (vi (A.v (run A.d 0 u2)) = vi (B.v (run B.d 0 u2)))) = true := by
                have hd := hu1.dif
                rw [decide_eq_false fun z => hd (by injection z with z; exact Int.ofNat.inj z)]
                rfl
              rw [ed]
              exact q H22
end
end Mae

namespace Mae
open PySem PySem.Spec PyProof.Rows L2 Evl
theorem def_mk {w : World} {K : PySem.W.Frag} {h : Heap} {mg : Str → Option Value} {x : Str} {st : Stmt} {ps : List Str} {f : Addr} {oc : Value} {od an : Option Addr} {sl : Array (Option Value)} {kV dc pm cd ct : Value} (X : K.In h) (G : h.Ns mainGlobals mg)
    (a : PySem.W.nsIn K mainGlobals x = some (some (.ref f))) (l : K.lookup f = some ⟨oc, od, .func (PySem.W.fnOf x x (defArgs st) (defBody st) (defScope st) .none kV dc pm an cd ct), sl⟩) (c : PySem.W.codeIn K cd x = true) (k : PySem.W.keepIn K (.ref f) = true)
    (hb : ∀ (kV doc pm : Value) (an : Option Addr) (cdv ct : Value) (us : List Value), us.length = ps.length → bindArgs (PySem.W.fnOf x x (defArgs st) (defBody st) (defScope st) .none kV doc pm an cdv ct) ⟨us, []⟩ = pure (ps.zip us)) :
    Def K mg x st ps f (PySem.W.fnOf x x (defArgs st) (defBody st) (defScope st) .none kV dc pm an cd ct) :=
  ⟨fun_mk l c k, (fun_mk l c k).binds hb, PySem.W.mg_of X G a⟩
theorem all_mk {l : PySem.W.OpenLaw} {w : World} {K : PySem.W.Frag} {h : Heap} {mg : Str → Option Value} (X : K.In h) (G : h.Ns mainGlobals mg) {fa f1 f2 f3 f4 f5 f6 f7 f8 f9 f10 f11 f12 f13 f14 f15 f16 f17 f18 f19 : Addr} (hfa : mg "law" = some (.ref fa))
    {od1 an1 od2 an2 od3 an3 od4 an4 od5 an5 od6 an6 od7 an7 od8 an8 od9 an9 od10 an10 od11 an11 od12 an12 od13 an13 od14 an14 od15 an15 od16 an16 od17 an17 od18 an18 od19 an19 : Option Addr} {sl1 sl2 sl3 sl4 sl5 sl6 sl7 sl8 sl9 sl10 sl11 sl12 sl13 sl14 sl15 sl16 sl17 sl18 sl19 : Array (Option Value)} {oc1 kV1 dc1 pm1 cd1 ct1 oc2 kV2 dc2 pm2 cd2 ct2 oc3 kV3 dc3 pm3 cd3 ct3 oc4 kV4 dc4 pm4 cd4 ct4 oc5 kV5 dc5 pm5 cd5 ct5 oc6 kV6 dc6 pm6 cd6 ct6 oc7 kV7 dc7 pm7 cd7 ct7 oc8 kV8 dc8 pm8 cd8 ct8 oc9 kV9 dc9 pm9 cd9 ct9 oc10 kV10 dc10 pm10 cd10 ct10 oc11 kV11 dc11 pm11 cd11 ct11 oc12 kV12 dc12 pm12 cd12 ct12 oc13 kV13 dc13 pm13 cd13 ct13 oc14 kV14 dc14 pm14 cd14 ct14 oc15 kV15 dc15 pm15 cd15 ct15 oc16 kV16 dc16 pm16 cd16 ct16 oc17 kV17 dc17 pm17 cd17 ct17 oc18 kV18 dc18 pm18 cd18 ct18 oc19 kV19 dc19 pm19 cd19 ct19 : Value}
    (a1 : PySem.W.nsIn K mainGlobals "search" = some (some (.ref f1))) (l1 : K.lookup f1 = some ⟨oc1, od1, .func (PySem.W.fnOf "search" "search" (defArgs sSearch) (defBody sSearch) (defScope sSearch) .none kV1 dc1 pm1 an1 cd1 ct1), sl1⟩) (c1 : PySem.W.codeIn K cd1 "search" = true) (k1 : PySem.W.keepIn K (.ref f1) = true)
    (a2 : PySem.W.nsIn K mainGlobals "check_kind" = some (some (.ref f2))) (l2 : K.lookup f2 = some ⟨oc2, od2, .func (PySem.W.fnOf "check_kind" "check_kind" (defArgs sKind) (defBody sKind) (defScope sKind) .none kV2 dc2 pm2 an2 cd2 ct2), sl2⟩) (c2 : PySem.W.codeIn K cd2 "check_kind" = true) (k2 : PySem.W.keepIn K (.ref f2) = true)
    (a3 : PySem.W.nsIn K mainGlobals "are_alike" = some (some (.ref f3))) (l3 : K.lookup f3 = some ⟨oc3, od3, .func (PySem.W.fnOf "are_alike" "are_alike" (defArgs sAlike) (defBody sAlike) (defScope sAlike) .none kV3 dc3 pm3 an3 cd3 ct3), sl3⟩) (c3 : PySem.W.codeIn K cd3 "are_alike" = true) (k3 : PySem.W.keepIn K (.ref f3) = true)
    (a4 : PySem.W.nsIn K mainGlobals "first_difference" = some (some (.ref f4))) (l4 : K.lookup f4 = some ⟨oc4, od4, .func (PySem.W.fnOf "first_difference" "first_difference" (defArgs sFirst) (defBody sFirst) (defScope sFirst) .none kV4 dc4 pm4 an4 cd4 ct4), sl4⟩) (c4 : PySem.W.codeIn K cd4 "first_difference" = true) (k4 : PySem.W.keepIn K (.ref f4) = true)
    (a5 : PySem.W.nsIn K mainGlobals "parting_word" = some (some (.ref f5))) (l5 : K.lookup f5 = some ⟨oc5, od5, .func (PySem.W.fnOf "parting_word" "parting_word" (defArgs sPart) (defBody sPart) (defScope sPart) .none kV5 dc5 pm5 an5 cd5 ct5), sl5⟩) (c5 : PySem.W.codeIn K cd5 "parting_word" = true) (k5 : PySem.W.keepIn K (.ref f5) = true)
    (a6 : PySem.W.nsIn K mainGlobals "refined" = some (some (.ref f6))) (l6 : K.lookup f6 = some ⟨oc6, od6, .func (PySem.W.fnOf "refined" "refined" (defArgs sRefined) (defBody sRefined) (defScope sRefined) .none kV6 dc6 pm6 an6 cd6 ct6), sl6⟩) (c6 : PySem.W.codeIn K cd6 "refined" = true) (k6 : PySem.W.keepIn K (.ref f6) = true)
    (a7 : PySem.W.nsIn K mainGlobals "classes" = some (some (.ref f7))) (l7 : K.lookup f7 = some ⟨oc7, od7, .func (PySem.W.fnOf "classes" "classes" (defArgs sClasses) (defBody sClasses) (defScope sClasses) .none kV7 dc7 pm7 an7 cd7 ct7), sl7⟩) (c7 : PySem.W.codeIn K cd7 "classes" = true) (k7 : PySem.W.keepIn K (.ref f7) = true)
    (a8 : PySem.W.nsIn K mainGlobals "met_states" = some (some (.ref f8))) (l8 : K.lookup f8 = some ⟨oc8, od8, .func (PySem.W.fnOf "met_states" "met_states" (defArgs sMet) (defBody sMet) (defScope sMet) .none kV8 dc8 pm8 an8 cd8 ct8), sl8⟩) (c8 : PySem.W.codeIn K cd8 "met_states" = true) (k8 : PySem.W.keepIn K (.ref f8) = true)
    (a9 : PySem.W.nsIn K mainGlobals "least" = some (some (.ref f9))) (l9 : K.lookup f9 = some ⟨oc9, od9, .func (PySem.W.fnOf "least" "least" (defArgs sLeast) (defBody sLeast) (defScope sLeast) .none kV9 dc9 pm9 an9 cd9 ct9), sl9⟩) (c9 : PySem.W.codeIn K cd9 "least" = true) (k9 : PySem.W.keepIn K (.ref f9) = true)
    (a10 : PySem.W.nsIn K mainGlobals "_law_stream" = some (some (.ref f10))) (l10 : K.lookup f10 = some ⟨oc10, od10, .func (PySem.W.fnOf "_law_stream" "_law_stream" (defArgs sStream) (defBody sStream) (defScope sStream) .none kV10 dc10 pm10 an10 cd10 ct10), sl10⟩) (c10 : PySem.W.codeIn K cd10 "_law_stream" = true) (k10 : PySem.W.keepIn K (.ref f10) = true)
    (a11 : PySem.W.nsIn K mainGlobals "_law_pick" = some (some (.ref f11))) (l11 : K.lookup f11 = some ⟨oc11, od11, .func (PySem.W.fnOf "_law_pick" "_law_pick" (defArgs sPick) (defBody sPick) (defScope sPick) .none kV11 dc11 pm11 an11 cd11 ct11), sl11⟩) (c11 : PySem.W.codeIn K cd11 "_law_pick" = true) (k11 : PySem.W.keepIn K (.ref f11) = true)
    (a12 : PySem.W.nsIn K mainGlobals "_law_sizes" = some (some (.ref f12))) (l12 : K.lookup f12 = some ⟨oc12, od12, .func (PySem.W.fnOf "_law_sizes" "_law_sizes" (defArgs sSizes) (defBody sSizes) (defScope sSizes) .none kV12 dc12 pm12 an12 cd12 ct12), sl12⟩) (c12 : PySem.W.codeIn K cd12 "_law_sizes" = true) (k12 : PySem.W.keepIn K (.ref f12) = true)
    (a13 : PySem.W.nsIn K mainGlobals "_law_machine" = some (some (.ref f13))) (l13 : K.lookup f13 = some ⟨oc13, od13, .func (PySem.W.fnOf "_law_machine" "_law_machine" (defArgs sMachine) (defBody sMachine) (defScope sMachine) .none kV13 dc13 pm13 an13 cd13 ct13), sl13⟩) (c13 : PySem.W.codeIn K cd13 "_law_machine" = true) (k13 : PySem.W.keepIn K (.ref f13) = true)
    (a14 : PySem.W.nsIn K mainGlobals "_law_run" = some (some (.ref f14))) (l14 : K.lookup f14 = some ⟨oc14, od14, .func (PySem.W.fnOf "_law_run" "_law_run" (defArgs sRun) (defBody sRun) (defScope sRun) .none kV14 dc14 pm14 an14 cd14 ct14), sl14⟩) (c14 : PySem.W.codeIn K cd14 "_law_run" = true) (k14 : PySem.W.keepIn K (.ref f14) = true)
    (a15 : PySem.W.nsIn K mainGlobals "_law_few" = some (some (.ref f15))) (l15 : K.lookup f15 = some ⟨oc15, od15, .func (PySem.W.fnOf "_law_few" "_law_few" (defArgs sFew) (defBody sFew) (defScope sFew) .none kV15 dc15 pm15 an15 cd15 ct15), sl15⟩) (c15 : PySem.W.codeIn K cd15 "_law_few" = true) (k15 : PySem.W.keepIn K (.ref f15) = true)
    (a16 : PySem.W.nsIn K mainGlobals "_law_doubled" = some (some (.ref f16))) (l16 : K.lookup f16 = some ⟨oc16, od16, .func (PySem.W.fnOf "_law_doubled" "_law_doubled" (defArgs sDoubled) (defBody sDoubled) (defScope sDoubled) .none kV16 dc16 pm16 an16 cd16 ct16), sl16⟩) (c16 : PySem.W.codeIn K cd16 "_law_doubled" = true) (k16 : PySem.W.keepIn K (.ref f16) = true)
    (a17 : PySem.W.nsIn K mainGlobals "_law_changed" = some (some (.ref f17))) (l17 : K.lookup f17 = some ⟨oc17, od17, .func (PySem.W.fnOf "_law_changed" "_law_changed" (defArgs sChanged) (defBody sChanged) (defScope sChanged) .none kV17 dc17 pm17 an17 cd17 ct17), sl17⟩) (c17 : PySem.W.codeIn K cd17 "_law_changed" = true) (k17 : PySem.W.keepIn K (.ref f17) = true)
    (a18 : PySem.W.nsIn K mainGlobals "_law_parts" = some (some (.ref f18))) (l18 : K.lookup f18 = some ⟨oc18, od18, .func (PySem.W.fnOf "_law_parts" "_law_parts" (defArgs sParts) (defBody sParts) (defScope sParts) .none kV18 dc18 pm18 an18 cd18 ct18), sl18⟩) (c18 : PySem.W.codeIn K cd18 "_law_parts" = true) (k18 : PySem.W.keepIn K (.ref f18) = true)
    (a19 : PySem.W.nsIn K mainGlobals "law" = some (some (.ref f19))) (l19 : K.lookup f19 = some ⟨oc19, od19, .func (PySem.W.fnOf "law" "law" (defArgs sLaw) (defBody sLaw) (defScope sLaw) .none kV19 dc19 pm19 an19 cd19 ct19), sl19⟩) (c19 : PySem.W.codeIn K cd19 "law" = true) (k19 : PySem.W.keepIn K (.ref f19) = true)
    (z1 : PySem.W.nsIn K mainGlobals "len" = some none)
    (z2 : PySem.W.nsIn K mainGlobals "int" = some none)
    (z3 : PySem.W.nsIn K mainGlobals "range" = some none)
    (z4 : PySem.W.nsIn K mainGlobals "tuple" = some none)
    (z5 : PySem.W.nsIn K mainGlobals "list" = some none)
    (z6 : PySem.W.nsIn K mainGlobals "enumerate" = some none)
    (z7 : PySem.W.nsIn K mainGlobals "min" = some none)
    (z8 : PySem.W.nsIn K mainGlobals "max" = some none)
    (z9 : PySem.W.nsIn K mainGlobals "isinstance" = some none)
    (z10 : PySem.W.nsIn K mainGlobals "bool" = some none)
    : ∃ fd : FuncData, (∀ (s : Shared) (v : Value), BindsTo s fd ⟨[v], []⟩ [("_law_script", v)]) ∧ ∀ base : Heap, K.In base → base.Ns mainGlobals mg → FnOk l.prog w K mg base CX0 4 fa fd ["_law_script"] (spLaw K) := by
  have e := hfa.symm.trans (PySem.W.mg_of X G a19)
  cases e
  have F := fun_mk (st := sLaw) l19 c19 k19
  have D1 := def_mk (w := w) (st := sSearch) (ps := ["first", "second", "state", "other"]) X G a1 l1 c1 k1 (fun _ _ _ _ _ _ us hl => match us, hl with | [_, _, _, _], _ => rfl)
  have D2 := def_mk (w := w) (st := sKind) (ps := ["first", "second"]) X G a2 l2 c2 k2 (fun _ _ _ _ _ _ us hl => match us, hl with | [_, _], _ => rfl)
  have D3 := def_mk (w := w) (st := sAlike) (ps := ["first", "second"]) X G a3 l3 c3 k3 (fun _ _ _ _ _ _ us hl => match us, hl with | [_, _], _ => rfl)
  have D4 := def_mk (w := w) (st := sFirst) (ps := ["first", "second"]) X G a4 l4 c4 k4 (fun _ _ _ _ _ _ us hl => match us, hl with | [_, _], _ => rfl)
  have D5 := def_mk (w := w) (st := sPart) (ps := ["machine", "state", "other"]) X G a5 l5 c5 k5 (fun _ _ _ _ _ _ us hl => match us, hl with | [_, _, _], _ => rfl)
  have D6 := def_mk (w := w) (st := sRefined) (ps := ["machine", "groups"]) X G a6 l6 c6 k6 (fun _ _ _ _ _ _ us hl => match us, hl with | [_, _], _ => rfl)
  have D7 := def_mk (w := w) (st := sClasses) (ps := ["machine"]) X G a7 l7 c7 k7 (fun _ _ _ _ _ _ us hl => match us, hl with | [_], _ => rfl)
  have D8 := def_mk (w := w) (st := sMet) (ps := ["machine", "groups"]) X G a8 l8 c8 k8 (fun _ _ _ _ _ _ us hl => match us, hl with | [_, _], _ => rfl)
  have D9 := def_mk (w := w) (st := sLeast) (ps := ["machine"]) X G a9 l9 c9 k9 (fun _ _ _ _ _ _ us hl => match us, hl with | [_], _ => rfl)
  have D10 := def_mk (w := w) (st := sStream) (ps := ["_law_script"]) X G a10 l10 c10 k10 (fun _ _ _ _ _ _ us hl => match us, hl with | [_], _ => rfl)
  have D11 := def_mk (w := w) (st := sPick) (ps := ["_law_numbers", "_law_at", "_law_many"]) X G a11 l11 c11 k11 (fun _ _ _ _ _ _ us hl => match us, hl with | [_, _, _], _ => rfl)
  have D12 := def_mk (w := w) (st := sSizes) (ps := ["_law_numbers"]) X G a12 l12 c12 k12 (fun _ _ _ _ _ _ us hl => match us, hl with | [_], _ => rfl)
  have D13 := def_mk (w := w) (st := sMachine) (ps := ["_law_numbers", "_law_at", "_law_sizes_here"]) X G a13 l13 c13 k13 (fun _ _ _ _ _ _ us hl => match us, hl with | [_, _, _], _ => rfl)
  have D14 := def_mk (w := w) (st := sRun) (ps := ["_law_machine_here", "_law_word"]) X G a14 l14 c14 k14 (fun _ _ _ _ _ _ us hl => match us, hl with | [_, _], _ => rfl)
  have D15 := def_mk (w := w) (st := sFew) (ps := ["_law_numbers", "_law_machine_here"]) X G a15 l15 c15 k15 (fun _ _ _ _ _ _ us hl => match us, hl with | [_, _], _ => rfl)
  have D16 := def_mk (w := w) (st := sDoubled) (ps := ["_law_numbers", "_law_machine_here"]) X G a16 l16 c16 k16 (fun _ _ _ _ _ _ us hl => match us, hl with | [_, _], _ => rfl)
  have D17 := def_mk (w := w) (st := sChanged) (ps := ["_law_numbers", "_law_machine_here"]) X G a17 l17 c17 k17 (fun _ _ _ _ _ _ us hl => match us, hl with | [_, _], _ => rfl)
  have D18 := def_mk (w := w) (st := sParts) (ps := ["_law_small", "_law_numbers"]) X G a18 l18 c18 k18 (fun _ _ _ _ _ _ us hl => match us, hl with | [_, _], _ => rfl)
  exact ⟨PySem.W.fnOf "law" "law" (defArgs sLaw) (defBody sLaw) (defScope sLaw) .none kV19 dc19 pm19 an19 cd19 ct19, fun s v => .of_eq rfl, fun base _ _ => ok_law F D1 D2 D3 D4 D5 D6 D7 D8 D9 D10 D11 D12 D13 D14 D15 D16 D17 D18 (PySem.W.mg_none_of X G z1) (PySem.W.mg_none_of X G z2) (PySem.W.mg_none_of X G z3) (PySem.W.mg_none_of X G z4) (PySem.W.mg_none_of X G z5) (PySem.W.mg_none_of X G z6) (PySem.W.mg_none_of X G z7) (PySem.W.mg_none_of X G z8) (PySem.W.mg_none_of X G z9) (PySem.W.mg_none_of X G z10)⟩
end Mae
open PySem PySem.W PyProof.Rows
set_option maxHeartbeats 0 in
theorem PySem.Challenge.cw_maieutic_k05_whole_alike_and_least_holds : PySem.Challenge.rw_maieutic_k05_whole_alike_and_least.Holds := by
  w_on; o_law; k_head; (case hw => w_witness2)
  k_fill
  refine L2.walk_of (l := PySem.Challenge.rw_maieutic_k05_whole_alike_and_least) (n := 63) (k := 4) (x := "_law_script") (CX := fun _ => L2.CX0) (sp := fun w => Mae.spLaw _) rfl (by decide) rfl ⟨rfl, by decide, by decide⟩ (fun w h Y => PySem.W.kIn_of Y) ?F (fun _ _ a ns hl _ hS => ⟨a, ns, rfl, hS, hl, fun _ => rfl⟩) (fun _ _ _ _ _ h => h)
  case F =>
    intro w mg fa h KX G hmg
    refine' Mae.all_mk KX G hmg ?a1 ?l1 ?c1 ?k1 ?a2 ?l2 ?c2 ?k2 ?a3 ?l3 ?c3 ?k3 ?a4 ?l4 ?c4 ?k4 ?a5 ?l5 ?c5 ?k5 ?a6 ?l6 ?c6 ?k6 ?a7 ?l7 ?c7 ?k7 ?a8 ?l8 ?c8 ?k8 ?a9 ?l9 ?c9 ?k9 ?a10 ?l10 ?c10 ?k10 ?a11 ?l11 ?c11 ?k11 ?a12 ?l12 ?c12 ?k12 ?a13 ?l13 ?c13 ?k13 ?a14 ?l14 ?c14 ?k14 ?a15 ?l15 ?c15 ?k15 ?a16 ?l16 ?c16 ?k16 ?a17 ?l17 ?c17 ?k17 ?a18 ?l18 ?c18 ?k18 ?a19 ?l19 ?c19 ?k19 ?z1 ?z2 ?z3 ?z4 ?z5 ?z6 ?z7 ?z8 ?z9 ?z10
    (case a1 => k_is); (case l1 => k_is); (case c1 => k_is); (case k1 => k_is); (case a2 => k_is); (case l2 => k_is); (case c2 => k_is); (case k2 => k_is)
    (case a3 => k_is); (case l3 => k_is); (case c3 => k_is); (case k3 => k_is); (case a4 => k_is); (case l4 => k_is); (case c4 => k_is); (case k4 => k_is)
    (case a5 => k_is); (case l5 => k_is); (case c5 => k_is); (case k5 => k_is); (case a6 => k_is); (case l6 => k_is); (case c6 => k_is); (case k6 => k_is)
    (case a7 => k_is); (case l7 => k_is); (case c7 => k_is); (case k7 => k_is); (case a8 => k_is); (case l8 => k_is); (case c8 => k_is); (case k8 => k_is)
    (case a9 => k_is); (case l9 => k_is); (case c9 => k_is); (case k9 => k_is); (case a10 => k_is); (case l10 => k_is); (case c10 => k_is); (case k10 => k_is)
    (case a11 => k_is); (case l11 => k_is); (case c11 => k_is); (case k11 => k_is); (case a12 => k_is); (case l12 => k_is); (case c12 => k_is); (case k12 => k_is)
    (case a13 => k_is); (case l13 => k_is); (case c13 => k_is); (case k13 => k_is); (case a14 => k_is); (case l14 => k_is); (case c14 => k_is); (case k14 => k_is)
    (case a15 => k_is); (case l15 => k_is); (case c15 => k_is); (case k15 => k_is); (case a16 => k_is); (case l16 => k_is); (case c16 => k_is); (case k16 => k_is)
    (case a17 => k_is); (case l17 => k_is); (case c17 => k_is); (case k17 => k_is); (case a18 => k_is); (case l18 => k_is); (case c18 => k_is); (case k18 => k_is)
    (case a19 => k_is); (case l19 => k_is); (case c19 => k_is); (case k19 => k_is); (case z1 => k_is); (case z2 => k_is); (case z3 => k_is); (case z4 => k_is)
    (case z5 => k_is); (case z6 => k_is); (case z7 => k_is); (case z8 => k_is); (case z9 => k_is); (case z10 => k_is)
