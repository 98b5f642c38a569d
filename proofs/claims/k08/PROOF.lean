import PyProof.Rows.All
import Wide.All
import OpenK.AllK
import Wide.FinOn
import HandS.ForMost
import HandS.Conv
import KE.KDictKeyed
import KE.KDictDisplayH
import HandS.Exc
import HandS.TryOnly
import HandS.ExcOwn
import HandS.WordsExc
import HandS.Evl
import HandS.IsInst
import HandS.HeadHook1
import HandS.Style
import HandS.WordsList
import HandS.ExcIs
import HandS.HeadHook2
import HandS.SuiteRaise
import HandS.SortKw
import KE.DatumOrd
import PyProof.Rows.TupReads
import PyProof.Rows.RowBridgeK
import HandS.Sort
import HandS.TupAny
import HandS.Text
import HandS.Iter
import HandS.More
import HandS.Defaults
import HandS.Head0
import HandS.Head1
import HandS.Head2
import HandS.HeadEnd
import PySem.Challenge.RW_cisternyard_k08_whole_small_yards
set_option Elab.async false
set_option linter.all false
set_option maxRecDepth 100000
set_option maxHeartbeats 4000000
namespace Cy
open PySem L2
/-! ### dicts with keys of any depth, whole numbers at them -/
def ExO (a : Addr) (o : Obj) : Heap → Prop := fun h => h.get? a = some o
abbrev exH (a : Addr) (o : Obj) : HO := .ext (ExO a o)
/-- the object o is a dict with these keys (where they stand) and the numbers f at them -/
structure NDI (P : Program) (w : World) (a : Addr) (o : Obj) (kbs : List (NestedKey × Addr)) (f : NestedKey → Int) : Prop where
  ns : (a == sysModules) = false
  sz : kbs.length ≤ sizeLine
  ex : ∃ (es : Array DictEntry) (ep : Nat) (xs : List (NestedKey × Addr × Value)), o.ExactDict ∧ o.data = .dict es ep ∧ es.toList = xs.map (entryOfKey (nestedKind P w)) ∧ (xs.map (·.1)).Nodup ∧
    Paired (fun (p : NestedKey × Addr) (q : NestedKey × Addr × Value) => p.1 = q.1 ∧ p.2 = q.2.1 ∧ ∃ t, q.2.2 = Value.int (f p.1) t) kbs xs
mutual
inductive NKey (H : Hp) : NestedKey → V → Prop
  | none : NKey H .none .non
  | num (i : Int) : NKey H (.num i) (.int i)
  | text (x : Str) : NKey H (.text x) (.str x)
  | tup {b : Addr} {vs : List V} {ks : List NestedKey} : H b = some (.tup vs) → NKeys H ks vs → NKey H (.tup ks) (.ref b)
inductive NKeys (H : Hp) : List NestedKey → List V → Prop
  | nil : NKeys H [] []
  | cons {k : NestedKey} {v : V} {ks : List NestedKey} {vs : List V} : NKey H k v → NKeys H ks vs → NKeys H (k :: ks) (v :: vs)
end
section
variable {P : Program} {w : World} {H : Hp} {h : Heap}
mutual
theorem NKey.is (ok : HOk P w H h) : ∀ {k : NestedKey} {v : V} {u : Value}, NKey H k v → RelV v u → NestedIs h k u
  | _, _, _, .none, r => by cases (show _ = Value.none from r); exact .none
  | _, _, _, .num i, r => by obtain ⟨t, e⟩ := r; subst e; exact .int _ _
  | _, _, _, .text x, r => by obtain ⟨t, e⟩ := r; subst e; exact .text _ _
  | _, _, _, .tup (b := b) e ks, r => by
    cases (show _ = Value.ref _ from r)
    obtain ⟨_, its, rv, o, h1, h2, n, h3⟩ := ok b _ e
    exact .tup h1 h2 h3 (by simpa using NKeys.is ok ks rv)
theorem NKeys.is (ok : HOk P w H h) : ∀ {ks : List NestedKey} {vs : List V} {us : List Value}, NKeys H ks vs → Vals vs us → NestedAll h ks us
  | _, _, _, .nil, r => by cases r; exact .nil
  | _, _, _, .cons a b, r => by
    cases r with
    | cons r1 r2 => exact .cons (NKey.is ok a r1) (NKeys.is ok b r2)
end
end
mutual
theorem NKey.mono {H H' : Hp} (h : ∀ a xs, H a = some (.tup xs) → H' a = some (.tup xs)) : ∀ {k : NestedKey} {v : V}, NKey H k v → NKey H' k v
  | _, _, .none => .none
  | _, _, .num i => .num i
  | _, _, .text x => .text x
  | _, _, .tup e ks => .tup (h _ _ e) (NKeys.mono h ks)
theorem NKeys.mono {H H' : Hp} (h : ∀ a xs, H a = some (.tup xs) → H' a = some (.tup xs)) : ∀ {k : List NestedKey} {v : List V}, NKeys H k v → NKeys H' k v
  | _, _, .nil => .nil
  | _, _, .cons a b => .cons (NKey.mono h a) (NKeys.mono h b)
end
def KeysOk (H : Hp) (kbs : List (NestedKey × Addr)) : Prop := ∀ q ∈ kbs, NKey H q.1 (.ref q.2) ∧ q.1.depth ≤ 8
theorem KeysOk.mono {H H' : Hp} {kbs : List (NestedKey × Addr)} (h : ∀ a xs, H a = some (.tup xs) → H' a = some (.tup xs)) (k : KeysOk H kbs) : KeysOk H' kbs := fun q m => ⟨(k q m).1.mono h, (k q m).2⟩
def putB (kbs : List (NestedKey × Addr)) (k : NestedKey) (b : Addr) : List (NestedKey × Addr) := if k ∈ kbs.map (·.1) then kbs else kbs ++ [(k, b)]
def putF2 (f : NestedKey → Int) (k : NestedKey) (v : Int) : NestedKey → Int := fun j => if j = k then v else f j
abbrev NRel (f : NestedKey → Int) : NestedKey × Addr → NestedKey × Addr × Value → Prop := fun p q => p.1 = q.1 ∧ p.2 = q.2.1 ∧ ∃ t, q.2.2 = Value.int (f p.1) t
theorem nrel_at {f : NestedKey → Int} (k : NestedKey) : ∀ {kbs : List (NestedKey × Addr)} {xs : List (NestedKey × Addr × Value)}, Paired (NRel f) kbs xs →
    (k ∈ kbs.map (·.1) ∧ ∃ b t, atKey xs k = some (b, Value.int (f k) t)) ∨ (k ∉ kbs.map (·.1) ∧ atKey xs k = none)
  | _, _, .nil => .inr ⟨by simp, rfl⟩
  | _, _, .cons (a := p) (b := q) (l₁ := ps) (l₂ := qs) ⟨h1, h2, t, h3⟩ r => by
    by_cases e : q.1 = k
    · have e1 : p.1 = k := h1.trans e
      refine .inl ⟨by simp [e1], q.2.1, t, ?_⟩
      have : atKey (q :: qs) k = some q.2 := by simp [atKey, List.find?_cons, e]
      rw [this, ← e1, ← h3]
    · have e1 : ¬ p.1 = k := fun z => e (h1.symm.trans z)
      have h4 : atKey (q :: qs) k = atKey qs k := by simp [atKey, List.find?_cons, e]
      rw [h4]
      rcases nrel_at k r with ⟨m, b⟩ | ⟨m, b⟩
      · exact .inl ⟨by simp [m], b⟩
      · exact .inr ⟨by simp only [List.map_cons, List.mem_cons, not_or]; exact ⟨fun z => e1 z.symm, m⟩, b⟩
theorem nrel_put {f : NestedKey → Int} {k : NestedKey} {b : Addr} {v : Int} {t : Nat} {kbs : List (NestedKey × Addr)} {xs : List (NestedKey × Addr × Value)} (h : Paired (NRel f) kbs xs) : Paired (NRel (putF2 f k v)) (putB kbs k b) (storedH xs k b (.int v t)) := by
  have hold : ∀ {kbs : List (NestedKey × Addr)} {xs : List (NestedKey × Addr × Value)}, Paired (NRel f) kbs xs → Paired (NRel (putF2 f k v)) kbs (xs.map (putAt k (.int v t))) := fun {kbs xs} h => by
    induction h with
    | nil => exact .nil
    | cons r _ ih =>
      obtain ⟨h1, h2, t2, h3⟩ := r
      refine .cons ?_ ih
      unfold putAt
      split
      · rename_i e
        refine ⟨h1, h2, t, ?_⟩
        show Value.int v t = Value.int (putF2 f k v _) t
        rw [show putF2 f k v _ = v from if_pos (h1.trans e)]
      · rename_i e
        refine ⟨h1, h2, t2, ?_⟩
        rw [h3, show putF2 f k v _ = f _ from if_neg (fun z => e (h1.symm.trans z))]
  rcases nrel_at k h with ⟨m, b', t', e⟩ | ⟨m, e⟩
  · unfold putB
    rw [if_pos m, storedH_old e]
    exact hold h
  · unfold putB
    rw [if_neg m, storedH_new e]
    have hno : Paired (NRel (putF2 f k v)) kbs xs := by
      clear e
      induction h with
      | nil => exact .nil
      | @cons p q ps qs r _ ih =>
        obtain ⟨h1, h2, t2, h3⟩ := r
        simp only [List.map_cons, List.mem_cons, not_or] at m
        exact .cons ⟨h1, h2, t2, by rw [h3, show putF2 f k v _ = f _ from if_neg (fun z => m.1 z.symm)]⟩ (ih m.2)
    exact Paired.snoc hno ⟨rfl, rfl, t, by rw [show putF2 f k v _ = v from if_pos rfl]⟩
theorem putB_len (kbs : List (NestedKey × Addr)) (k : NestedKey) (b : Addr) : (putB kbs k b).length ≤ kbs.length + 1 := by
  unfold putB
  split <;> simp
theorem nd_room {X : Cx} (hu : X.A.units + 64 < cLine) : (nestedKind X.prog X.w).room X.A.in1 := by
  show X.A.units + 1 + 8 < cLine
  omega
section
variable {X : Cx} {pins : List (Addr × Obj)} {σ : St} {H : Hp} {s : Shared} {a : Addr} {o : Obj} {kbs : List (NestedKey × Addr)} {f : NestedKey → Int}
theorem nd_of (I : Inv X pins σ H s) (h : H a = some (exH a o)) (n : NDI X.prog X.w a o kbs f) (ko : KeysOk H kbs) : ∃ xs, s.heap.DictOfH (nestedKind X.prog X.w) a xs ∧ Paired (NRel f) kbs xs := by
  obtain ⟨es, ep, xs, h1, h2, h3, h4, h5⟩ := n.ex
  have ho : s.heap.get? a = some o := (show ObjOk X.prog X.w H s.heap a (exH a o) from I.hok a _ h).1
  refine ⟨xs, ⟨o, es, ep, ho, h1, h2, h3, fun x hx => ?_, h4⟩, h5⟩
  have : ∀ {kbs : List (NestedKey × Addr)} {xs : List (NestedKey × Addr × Value)}, Paired (NRel f) kbs xs → KeysOk H kbs → ∀ x ∈ xs, (nestedKind X.prog X.w).is s.heap x.1 x.2.1 := fun {kbs xs} r => by
    induction r with
    | nil => intro _ x hx; simp at hx
    | @cons p q ps qs r _ ih =>
      intro ko x hx
      rcases List.mem_cons.mp hx with e | hx
      · subst e
        obtain ⟨k1, k2⟩ := ko p List.mem_cons_self
        rw [← r.1, ← r.2.1]
        exact ⟨k1.is I.hok rfl, k2⟩
      · exact ih (fun q hq => ko q (List.mem_cons_of_mem _ hq)) x hx
  exact this h5 ko x hx
theorem nd_type (I : Inv X pins σ H s) (h : H a = some (exH a o)) (n : NDI X.prog X.w a o kbs f) : s.TypeIs (.ref a) "dict" ∧ (∀ b, Value.ref a = .ref b → ∃ ob, s.heap.get? b = some ob ∧ ob.dict = none) := by
  obtain ⟨es, ep, xs, h1, h2, h3, h4, h5⟩ := n.ex
  have ho : s.heap.get? a = some o := (show ObjOk X.prog X.w H s.heap a (exH a o) from I.hok a _ h).1
  exact ⟨⟨o, ho, h1.1⟩, fun b q => by cases q; exact ⟨o, ho, h1.2.1⟩⟩
theorem exH_ok {P : Program} {w : World} {H : Hp} {h : Heap} (ho : h.get? a = some o) : ObjOk P w H h a (exH a o) := ⟨ho, ⟨o, ho⟩, fun h1 h2 e k => k _ e⟩
theorem nd_new (P : Program) (w : World) (h : Heap) (hb : sysModules < h.objs.size) : NDI P w h.objs.size { cls := .type "dict", data := .dict #[] } [] f :=
  ⟨beq_eq_false_iff_ne.mpr (Ne.symm (Nat.ne_of_lt hb)), Nat.zero_le _, #[], 0, [], ⟨rfl, rfl, rfl⟩, rfl, rfl, List.nodup_nil, .nil⟩
end
/-- {} -/
def tNNew (P : Program) (w : World) : TE := fun _ H Q => ∀ p o, H p = none → (∀ f, NDI P w p o [] f) → Q (.ref p) (upd H p (exH p o))
/-- d[k] -/
def tNGet (P : Program) (w : World) (td ty : TE) : TE := fun σ H Q => td σ H fun x H1 => ty σ H1 fun y H2 => ∃ a o kbs f ks, x = .ref a ∧ H2 a = some (exH a o) ∧ NDI P w a o kbs f ∧ KeysOk H2 kbs ∧ NKey H2 (.tup ks) y ∧ (NestedKey.tup ks).depth ≤ 8 ∧ .tup ks ∈ kbs.map (·.1) ∧ Q (.int (f (.tup ks))) H2
/-- d.get(k, x) -/
def tNGet2 (P : Program) (w : World) (td ty tx : TE) : TE := fun σ H Q => td σ H fun x H1 => ∃ a, x = .ref a ∧ (∃ o kbs f, H1 a = some (exH a o) ∧ NDI P w a o kbs f) ∧ ty σ H1 fun y H2 => tx σ H2 fun z H3 => ∃ o kbs f ks, H3 a = some (exH a o) ∧ NDI P w a o kbs f ∧ KeysOk H3 kbs ∧ NKey H3 (.tup ks) y ∧ (NestedKey.tup ks).depth ≤ 8 ∧
  Q (if .tup ks ∈ kbs.map (·.1) then .int (f (.tup ks)) else z) H3
/-- d[k] = v -/
def sNPut (P : Program) (w : World) (td ty tv : TE) : TS := fun D σ H => tv σ H fun v H1 => td σ H1 fun x H2 => ty σ H2 fun y H3 => ∃ a o kbs f ks b i, x = .ref a ∧ y = .ref b ∧ v = .int i ∧ H3 a = some (exH a o) ∧ NDI P w a o kbs f ∧ KeysOk H3 kbs ∧ NKey H3 (.tup ks) (.ref b) ∧ (NestedKey.tup ks).depth ≤ 8 ∧ kbs.length < sizeLine ∧
  ∀ o', NDI P w a o' (putB kbs (.tup ks) b) (putF2 f (.tup ks) i) → D.nx σ (upd H3 a (exH a o'))
/-- {k: i} -/
def tNDisp (P : Program) (w : World) (tk tv : TE) : TE := fun σ H Q => ∀ p o0, H p = none → tPairs [(tk, tv)] σ (upd H p (exH p o0)) fun ps H2 => H2 p = some (exH p o0) ∧ ∃ b ks i, ps = [(.ref b, .int i)] ∧ NKey H2 (.tup ks) (.ref b) ∧ (NestedKey.tup ks).depth ≤ 8 ∧
  ∀ o', NDI P w p o' [(.tup ks, b)] (fun _ => i) → Q (.ref p) (upd H2 p (exH p o'))
/-- the keys, in their order -/
def Itn (d : Addr) (o : Obj) (kbs : List (NestedKey × Addr)) : It := ⟨fun i H => H d = some (exH d o) ∧ i < kbs.length, fun i H x H' => H' = H ∧ ∃ q, kbs[i]? = some q ∧ x = .ref q.2, fun i H => H d = some (exH d o) ∧ kbs.length ≤ i⟩
def iNKeys (P : Program) (w : World) (td : TE) : TI := fun σ H R => td σ H fun x H1 => ∃ d o kbs f, x = .ref d ∧ H1 d = some (exH d o) ∧ NDI P w d o kbs f ∧ R (Itn d o kbs) H1
section
variable {X : Cx} {o i e value k v g : Expr} {pos pos' apos cpos : Pos} {td ty tv tx tk : TE}
theorem pe_nnew : PE X (.Dict [] [] pos) (tNNew X.prog X.w) := ⟨fun pins s σ H Q I h =>
  wpAny_Dict_empty ⟨.ref s.heap.objs.size, _, I.laid (a := s.heap.objs.size) (o := exH s.heap.objs.size { cls := .type "dict", data := .dict #[] }) (t' := s.toks) (fun _ _ q => Heap.get?_push_of_some _ q) (Nat.le_refl _) (exH_ok (Heap.get?_push_size _ rfl)), rfl, h _ _ (I.hok.fresh (Nat.le_refl _)) fun f => nd_new _ _ s.heap I.big⟩⟩
theorem pe_nget (hu : X.A.units + 64 < cLine) (ho : PE X o td) (hi : PE X i ty) (hs : NoSl i) : PE X (.Subscript o i pos) (tNGet X.prog X.w td ty) := by
  refine ⟨fun pins s σ H Q I h => ?_⟩
  refine subD_of PySem.F.slot_dict_getitem.lookup hs (thn (ho.run pins s σ H _ I h) fun u s1 ⟨x, H1, I1, rx, q1⟩ => thn (hi.run pins s1 σ H1 _ I1 q1) fun iv s2 ⟨y, H2, I2, ry, a, o', kbs, f, ks, ex, ea, n, ko, ky, kd, m, q2⟩ => ?_)
  subst ex
  obtain rfl : u = Value.ref a := rx
  refine ⟨(nd_type I2 ea n).1, ?_⟩
  cases ky with
  | @tup b vs _ e1 e2 =>
    cases (show iv = Value.ref b from ry)
    obtain ⟨xs, dd, rel⟩ := nd_of I2 ea n ko
    rcases nrel_at (.tup ks) rel with ⟨_, b', t, hp⟩ | ⟨m2, _⟩
    · exact wpAny_getItem_heap (nd_room hu) ⟨(NKey.tup e1 e2).is I2.hok rfl, kd⟩ dd hp ⟨.int (f (.tup ks)), H2, I2.tok _, ⟨t, rfl⟩, q2⟩
    · exact (m2 m).elim
theorem pe_nget2 (hu : X.A.units + 64 < cLine) (ho : PE X o td) (he : PE X e ty) (hf : PE X g tx) (m : M2 X o "get" apos e g cpos) : PE X (.Call (.Attribute o "get" apos) [e, g] [] cpos) (tNGet2 X.prog X.w td ty tx) := by
  refine ⟨fun pins s σ H Q I h => ?_⟩
  refine wpAny_Call_method m.base m.few m.line PySem.F.plainAttrs_dict PySem.F.slot_dict_get PySem.F.type_dict_get (thn (ho.run pins s σ H _ I h) fun u s1 ⟨x, H1, I1, rx, a, ex, d, q1⟩ => ?_)
  subst ex
  obtain rfl : u = Value.ref a := rx
  obtain ⟨o0, kbs0, f0, ea0, n0⟩ := d
  obtain ⟨t1, t2⟩ := nd_type I1 ea0 n0
  refine ⟨t1, t2, ?_⟩
  rw [m.trees]
  refine Calls.callWith_builtin rfl (Calls.evalArgs_plain (Calls.spliced_cons (thn (he.run pins s1 σ H1 _ I1 q1) fun iv s2 ⟨y, H2, I2, ry, q2⟩ =>
    Calls.spliced_cons (thn (hf.run pins s2 σ H2 _ I2 q2) fun fv s3 ⟨z, H3, I3, rz, o', kbs, f, ks, ea, n, ko, ky, kd, q3⟩ => Calls.spliced_nil ?_))))
  cases ky with
  | @tup b vs _ e1 e2 =>
    cases (show iv = Value.ref b from ry)
    obtain ⟨xs, dd, rel⟩ := nd_of I3 ea n ko
    refine getOr_keyed (knd := nestedKind X.prog X.w) (nd_room hu) ⟨(NKey.tup e1 e2).is I3.hok rfl, kd⟩ n.ns ⟨xs, dd, rfl⟩ ?_
    rw [valueAt_pairsH]
    rcases nrel_at (.tup ks) rel with ⟨m1, b', t, hp⟩ | ⟨m2, hp⟩
    · rw [hp]
      rw [if_pos m1] at q3
      exact ⟨.int (f (.tup ks)), H3, I3.tok _, ⟨t, rfl⟩, q3⟩
    · rw [hp]
      rw [if_neg m2] at q3
      exact ⟨_, H3, I3.tok _, rz, q3⟩
theorem ps_nput (hu : X.A.units + 64 < cLine) (ho : PE X o td) (hi : PE X i ty) (hv : PE X value tv) (hs : swapsWith value (some (.Subscript o i pos')) pos.line X.env = pure false) :
    PS X (.Assign [.Subscript o i pos'] value pos) (sNPut X.prog X.w td ty tv) := by
  refine ⟨fun pins s σ H D I h => ?_⟩
  refine wpAny_Assign_Subscript (thn (hv.run pins s σ H _ I h) fun r s1 ⟨v, H1, I1, rv, q1⟩ => thn (ho.run pins s1 σ H1 _ I1 q1) fun u s2 ⟨x, H2, I2, rx, q2⟩ => thn (hi.run pins s2 σ H2 _ I2 q2) fun iv s3 ⟨y, H3, I3, ry, a, o', kbs, f, ks, b, n, ex, ey, ev, ea, nd, ko, ky, kd, hz, q3⟩ => ?_) hs
  subst ex ey ev
  obtain rfl : u = Value.ref a := rx
  obtain rfl : iv = Value.ref b := ry
  obtain ⟨t, rfl⟩ := rv
  obtain ⟨xs, dd, rel⟩ := nd_of I3 ea nd ko
  have hxl : xs.length = kbs.length := (Paired.length rel).symm
  refine wpAny_setItem_heap (hsz := by omega) (nd_room hu) ⟨ky.is I3.hok rfl, kd⟩ dd fun h' dd' hs => ?_
  obtain ⟨o2, es, ep, hq, h2, h3, h4, _, h5⟩ := dd'
  have nd' : NDI X.prog X.w a o2 (putB kbs (.tup ks) b) (putF2 f (.tup ks) n) := ⟨nd.ns, by have := putB_len kbs (.tup ks) b; omega, es, ep, _, h2, h3, h4, h5, nrel_put rel⟩
  exact ⟨σ, _, d_write I3 (by rw [ea]; exact True.intro) hs ⟨o2, hq⟩ (exH_ok hq), q3 o2 nd'⟩
theorem pe_ndisp (hu : X.A.units + 64 < cLine) (hk : PE X k tk) (hv : PE X v tv) : PE X (.Dict [some k] [v] pos) (tNDisp X.prog X.w tk tv) := by
  refine ⟨fun pins s σ H Q I q => ?_⟩
  have hn := I.hok.fresh (Nat.le_refl s.heap.objs.size)
  have I1 := I.laid (a := s.heap.objs.size) (o := exH s.heap.objs.size { cls := .type "dict", data := .dict #[] }) (h' := s.heap.push { cls := .type "dict", data := .dict #[] }) (t' := s.toks) (fun _ _ q => Heap.get?_push_of_some _ q) (Nat.le_refl _) (exH_ok (Heap.get?_push_size _ rfl))
  have hp : PPs X pos [some k] [v] [(tk, tv)] := pps_cons hk hv pps_nil
  rw [arm_eval_Dict, zip_pairTrees [some k] [v] X.env pos rfl rfl, dictDisplay_pairs (pairTrees [some k] [v] X.env pos) (by simp [pairTrees]) (by simp [pairTrees])]
  refine wpAny_bind (wpAny_standAt (wpAny_bind (wpAny_subDictH (knd := nestedKind X.prog X.w) (Q := fun d s' => wpAny (model X.prog X.w) X.A (pure (Value.ref d)) (fun u s' => ∃ y H', Inv X pins σ H' s' ∧ RelV y u ∧ Q y H') X.xe s') (show X.A.units + 8 < cLine by omega) (by simp [pairTrees])
    (thn (hp.run pins _ σ _ _ I1 (q _ _ hn)) fun ws s2 ⟨ps, H2, I2, rel, e, b, ks, i, ep, eb, kd, q2⟩ => ?_))))
  subst ep
  obtain ⟨u1, u2, rfl, r1, r2⟩ : ∃ u1 u2, ws = [(u1, u2)] ∧ RelV (.ref b) u1 ∧ RelV (.int i) u2 := by
    cases rel with
    | cons h1 h2 =>
      cases h2
      exact ⟨_, _, rfl, h1.1, h1.2⟩
  have r1 : u1 = Value.ref b := r1
  subst r1
  obtain ⟨t, rfl⟩ := r2
  have nd0 := nd_new (f := fun _ => i) X.prog X.w s.heap I.big
  obtain ⟨xs, dd, rel0⟩ := nd_of I2 e nd0 (fun q hq => by simp at hq)
  cases rel0
  refine ⟨[(.tup ks, b, .int i t)], ⟨rfl, rfl, ⟨eb.is I2.hok rfl, kd⟩, trivial⟩, dd, fun h' tkk dd' hs => wpAny_pure ?_⟩
  obtain ⟨qo, es, epp, hq, hx2, hx3, hx4, _, hx5⟩ := dd'
  have nd' : NDI X.prog X.w s.heap.objs.size qo [(.tup ks, b)] (fun _ => i) := ⟨nd0.ns, by simp [sizeLine], es, epp, _, hx2, hx3, hx4, hx5, .cons ⟨rfl, rfl, t, rfl⟩ .nil⟩
  exact ⟨.ref s.heap.objs.size, _, d_write I2 (by rw [e]; exact True.intro) hs ⟨qo, hq⟩ (exH_ok hq), rfl, q2 qo nd'⟩
end
end Cy

namespace Cy
open PySem L2
open Evl (Ex Ex.refl Ex.trans Ex.new Ex.mut)

/-! ### data -/
inductive Dt where
  | non | bl (b : Bool) | int (i : Int) | str (x : Str) | adr (a : Addr) | scr (ns : List Int)
  | lst (xs : List Dt) | tup (xs : List Dt)
  | ins (C : Addr) (ns : List Str) (xs : List Dt)
  | dct (P : Program) (w : World) (o : Obj) (kbs : List (NestedKey × Addr)) (f : NestedKey → Int)

abbrev Fg := PySem.W.Frag
mutual
inductive Rp (K : Fg) (G : Hp) : V → Dt → Prop
  | non : Rp K G .non .non
  | bl (b : Bool) : Rp K G (.bl b) (.bl b)
  | int (i : Int) : Rp K G (.int i) (.int i)
  | str (x : Str) : Rp K G (.str x) (.str x)
  | adr (a : Addr) : Rp K G (.ref a) (.adr a)
  | scr {a : Addr} {ns : List Int} : SqL K G a (ns.map V.int) → Rp K G (.ref a) (.scr ns)
  | lst {a : Addr} {vs : List V} {ds : List Dt} : G a = some (.lst vs) → Rps K G vs ds → Rp K G (.ref a) (.lst ds)
  | tup {a : Addr} {vs : List V} {ds : List Dt} : G a = some (.tup vs) → Rps K G vs ds → Rp K G (.ref a) (.tup ds)
  | ins {a C dx : Addr} {ns : List Str} {vs : List V} {ds : List Dt} : G a = some (.ins C dx (ns.zip vs)) → Rps K G vs ds → Rp K G (.ref a) (.ins C ns ds)
  | dct {a : Addr} {P : Program} {w : World} {o : Obj} {kbs : List (NestedKey × Addr)} {f : NestedKey → Int} : G a = some (exH a o) → NDI P w a o kbs f → KeysOk G kbs → Rp K G (.ref a) (.dct P w o kbs f)
inductive Rps (K : Fg) (G : Hp) : List V → List Dt → Prop
  | nil : Rps K G [] []
  | cons {v : V} {vs : List V} {d : Dt} {ds : List Dt} : Rp K G v d → Rps K G vs ds → Rps K G (v :: vs) (d :: ds)
end

section
variable {K : Fg} {G G' H H' : Hp}
mutual
theorem Rp.mono (e : Ex G G') : ∀ {v : V} {d : Dt}, Rp K G v d → Rp K G' v d
  | _, _, .non => .non
  | _, _, .bl b => .bl b
  | _, _, .int i => .int i
  | _, _, .str x => .str x
  | _, _, .adr a => .adr a
  | _, _, .scr h => .scr (Evl.ex_l e h)
  | _, _, .lst h r => .lst (e _ _ h) (Rps.mono e r)
  | _, _, .tup h r => .tup (e _ _ h) (Rps.mono e r)
  | _, _, .ins h r => .ins (e _ _ h) (Rps.mono e r)
  | _, _, .dct h n k => .dct (e _ _ h) n (k.mono fun a xs => e a _)
theorem Rps.mono (e : Ex G G') : ∀ {v : List V} {d : List Dt}, Rps K G v d → Rps K G' v d
  | _, _, .nil => .nil
  | _, _, .cons h r => .cons (Rp.mono e h) (Rps.mono e r)
end
theorem Rps.length : ∀ {vs : List V} {ds : List Dt}, Rps K G vs ds → vs.length = ds.length
  | _, _, .nil => rfl
  | _, _, .cons _ r => by rw [List.length_cons, List.length_cons, r.length]
theorem Rps.get : ∀ {vs : List V} {ds : List Dt} {i : Nat} {d : Dt}, Rps K G vs ds → ds[i]? = some d → ∃ v, vs[i]? = some v ∧ Rp K G v d
  | _, _, _, _, .nil, h => by simp at h
  | _, _, 0, _, .cons r _, h => by simp at h; subst h; exact ⟨_, rfl, r⟩
  | _, _, i + 1, _, .cons _ t, h => by
    obtain ⟨v, h1, h2⟩ := Rps.get (i := i) t (by simpa using h)
    exact ⟨v, by simpa using h1, h2⟩
theorem Rps.get' : ∀ {vs : List V} {ds : List Dt} {i : Nat} {v : V}, Rps K G vs ds → vs[i]? = some v → ∃ d, ds[i]? = some d ∧ Rp K G v d
  | _, _, _, _, .nil, h => by simp at h
  | _, _, 0, _, .cons r _, h => by simp at h; subst h; exact ⟨_, rfl, r⟩
  | _, _, i + 1, _, .cons _ t, h => by
    obtain ⟨v, h1, h2⟩ := Rps.get' (i := i) t (by simpa using h)
    exact ⟨v, by simpa using h1, h2⟩
theorem Rps.append : ∀ {vs ws : List V} {ds es : List Dt}, Rps K G vs ds → Rps K G ws es → Rps K G (vs ++ ws) (ds ++ es)
  | _, _, _, _, .nil, s => s
  | _, _, _, _, .cons r t, s => .cons r (t.append s)
theorem Rps.one {v : V} {d : Dt} (h : Rp K G v d) : Rps K G [v] [d] := .cons h .nil
theorem Rps.set {v : V} {d : Dt} (h : Rp K G v d) : ∀ {vs : List V} {ds : List Dt} (i : Nat), Rps K G vs ds → Rps K G (vs.set i v) (ds.set i d)
  | _, _, _, .nil => .nil
  | _, _, 0, .cons _ t => .cons h t
  | _, _, i + 1, .cons q t => .cons q (Rps.set h i t)
theorem Rps.take : ∀ {vs : List V} {ds : List Dt} (i : Nat), Rps K G vs ds → Rps K G (vs.take i) (ds.take i)
  | _, _, 0, _ => .nil
  | _, _, i + 1, .nil => .nil
  | _, _, i + 1, .cons q t => .cons q (t.take i)
theorem Rps.drop : ∀ {vs : List V} {ds : List Dt} (i : Nat), Rps K G vs ds → Rps K G (vs.drop i) (ds.drop i)
  | _, _, 0, r => r
  | _, _, i + 1, .nil => .nil
  | _, _, i + 1, .cons q t => t.drop i
theorem Rps.dropLast : ∀ {vs : List V} {ds : List Dt}, Rps K G vs ds → Rps K G vs.dropLast ds.dropLast := fun {vs ds} h => by
  rw [List.dropLast_eq_take, List.dropLast_eq_take, h.length]; exact h.take _
theorem Rps.eraseIdx : ∀ {vs : List V} {ds : List Dt} (i : Nat), Rps K G vs ds → Rps K G (vs.eraseIdx i) (ds.eraseIdx i)
  | _, _, _, .nil => .nil
  | _, _, 0, .cons q t => t
  | _, _, i + 1, .cons q t => .cons q (t.eraseIdx i)
theorem Rps.repl {v : V} {d : Dt} (h : Rp K G v d) : ∀ n : Nat, Rps K G (List.replicate n v) (List.replicate n d)
  | 0 => .nil
  | n + 1 => .cons h (Rps.repl h n)
theorem Rps.ints : ∀ ns : List Int, Rps K G (ns.map V.int) (ns.map Dt.int)
  | [] => .nil
  | n :: r => .cons (.int n) (Rps.ints r)
theorem Rps.to_ints : ∀ {ns : List Int} {vs : List V}, Rps K G vs (ns.map Dt.int) → vs = ns.map V.int
  | [], _, h => by cases h; rfl
  | n :: r, _, h => by
    cases h with
    | cons h1 h2 => cases h1; rw [Rps.to_ints h2]; rfl
theorem Rps.to_bls : ∀ {ns : List Bool} {vs : List V}, Rps K G vs (ns.map Dt.bl) → vs = ns.map V.bl
  | [], _, h => by cases h; rfl
  | n :: r, _, h => by
    cases h with
    | cons h1 h2 => cases h1; rw [Rps.to_bls h2]; rfl
theorem Rps.to_strs : ∀ {ns : List Str} {vs : List V}, Rps K G vs (ns.map Dt.str) → vs = ns.map V.str
  | [], _, h => by cases h; rfl
  | n :: r, _, h => by
    cases h with
    | cons h1 h2 => cases h1; rw [Rps.to_strs h2]; rfl
end

/-! ### cells of one's own -/
inductive Cel where
  | lst (ds : List Dt)
  | dT (kvs : List (List Int × Dt))
  | ins (C : Addr) (ns : List Str) (ds : List Dt)
  | dN (P : Program) (w : World) (o : Obj) (kbs : List (NestedKey × Addr)) (f : NestedKey → Int)
abbrev Own := List (Addr × Cel)
abbrev SS := List (Option Dt)
abbrev ky (k : List Int) : List Key := k.map Sum.inl
def CelOk (K : Fg) (G H : Hp) (p : Addr) : Cel → Prop
  | .lst ds => ∃ vs, H p = some (.lst vs) ∧ Rps K G vs ds
  | .dT kvs => ∃ vs : List V, vs.length = kvs.length ∧ H p = some (.dT ((kvs.map fun q => ky q.1).zip vs)) ∧ Rps K G vs (kvs.map (·.2))
  | .ins C ns ds => ∃ dx vs, vs.length = ns.length ∧ H p = some (.ins C dx (ns.zip vs)) ∧ Rps K G vs ds
  | .dN P w o kbs f => H p = some (exH p o) ∧ NDI P w p o kbs f ∧ KeysOk G kbs
theorem CelOk.mono {K : Fg} {G G' H H' : Hp} {p : Addr} (e : Ex G G') (h : H' p = H p) : ∀ {c : Cel}, CelOk K G H p c → CelOk K G' H' p c
  | .lst ds, ⟨vs, a, b⟩ => ⟨vs, by rw [h]; exact a, b.mono e⟩
  | .dT ds, ⟨vs, l, a, b⟩ => ⟨vs, l, by rw [h]; exact a, b.mono e⟩
  | .ins C ns ds, ⟨dx, vs, l, a, b⟩ => ⟨dx, vs, l, by rw [h]; exact a, b.mono e⟩
  | .dN P w o kbs f, ⟨a, n, k⟩ => ⟨by rw [h]; exact a, n, k.mono fun a xs => e a _⟩
theorem CelOk.some {K : Fg} {G H : Hp} {p : Addr} : ∀ {c : Cel}, CelOk K G H p c → ∃ o, H p = some o
  | .lst ds, ⟨vs, a, b⟩ => ⟨_, a⟩
  | .dT ds, ⟨vs, l, a, b⟩ => ⟨_, a⟩
  | .ins C ns ds, ⟨dx, vs, l, a, b⟩ => ⟨_, a⟩
  | .dN P w o kbs f, ⟨a, n, k⟩ => ⟨_, a⟩
theorem CelOk.notTup {K : Fg} {G H : Hp} {p : Addr} {o : HO} {xs : List V} : ∀ {c : Cel}, CelOk K G H p c → H p = Option.some o → o = .tup xs → False
  | .lst ds, ⟨vs, a, b⟩, h, e => by rw [a, e] at h; cases h
  | .dT ds, ⟨vs, l, a, b⟩, h, e => by rw [a, e] at h; cases h
  | .ins C ns ds, ⟨dx, vs, l, a, b⟩, h, e => by rw [a, e] at h; cases h
  | .dN P w o kbs f, ⟨a, n, k⟩, h, e => by rw [a, e] at h; cases h
abbrev keys (os : Own) : List Addr := os.map (·.1)
structure OwnOk (K : Fg) (G H : Hp) (os : Own) : Prop where
  nd : (keys os).Nodup
  at_ : ∀ x ∈ os, G x.1 = none ∧ CelOk K G H x.1 x.2
/-- how the heap has gone on: G what is known to stay, H the whole -/
structure Gq (fp : List Addr) (G H G' H' : Hp) : Prop where
  ex : Ex G G'
  new : ∀ a o, G' a = some o → G a = some o ∨ H a = none ∨ ∃ xs, o = .tup xs
  keep : ∀ a o, a ∉ fp → H a = some o → H' a = some o
  dom : ∀ a, H' a = none → H a = none
theorem Gq.refl {fp : List Addr} (G H : Hp) : Gq fp G H G H := ⟨Ex.refl G, fun _ _ h => .inl h, fun _ _ _ h => h, fun _ h => h⟩
theorem Gq.trans {fp fq : List Addr} {G H G1 H1 G2 H2 : Hp} (a : Gq fp G H G1 H1) (b : Gq fq G1 H1 G2 H2) (hf : ∀ p ∈ fq, p ∈ fp ∨ H p = none) : Gq fp G H G2 H2 where
  ex := a.ex.trans b.ex
  new := fun p o h => by
    rcases b.new p o h with q | q | q
    · exact a.new p o q
    · exact .inr (.inl (a.dom p q))
    · exact .inr (.inr q)
  keep := fun p o n h => b.keep p o (fun m => by
    rcases hf p m with q | q
    · exact n q
    · rw [q] at h; cases h) (a.keep p o n h)
  dom := fun p h => a.dom p (b.dom p h)
theorem Gq.wk {fp fq : List Addr} {G H G1 H1 : Hp} (b : Gq fq G H G1 H1) (hf : ∀ p ∈ fq, p ∈ fp ∨ H p = none) : Gq fp G H G1 H1 := (Gq.refl G H).trans b hf
theorem Gq.exH {G H G1 H1 : Hp} (b : Gq [] G H G1 H1) : Ex H H1 := fun a o h => b.keep a o (by simp) h

def Slots (K : Fg) (G : Hp) (σ : St) (ss : SS) : Prop := σ.length = ss.length ∧ ∀ (i : Nat) (d : Dt), ss[i]? = some (some d) → ∃ v : V, σ[i]? = some (some v) ∧ Rp K G v d
theorem Slots.mono {K : Fg} {G G' : Hp} {σ : St} {ss : SS} (e : Ex G G') (h : Slots K G σ ss) : Slots K G' σ ss :=
  ⟨h.1, fun i d q => let ⟨v, a, b⟩ := h.2 i d q; ⟨v, a, b.mono e⟩⟩
theorem Slots.set {K : Fg} {G : Hp} {σ : St} {ss : SS} {v : V} {d : Dt} (h : Slots K G σ ss) (i : Nat) (r : Rp K G v d) : Slots K G (σ.set i (some v)) (ss.set i (some d)) := by
  refine ⟨by rw [List.length_set, List.length_set]; exact h.1, fun j e q => ?_⟩
  by_cases hj : i = j
  · subst hj
    by_cases hl : i < ss.length
    · rw [List.getElem?_set_self hl] at q
      cases q
      exact ⟨v, by rw [List.getElem?_set_self (by rw [h.1]; exact hl)], r⟩
    · rw [List.getElem?_eq_none (by rw [List.length_set]; omega)] at q
      cases q
  · rw [List.getElem?_set_ne hj] at q
    rw [List.getElem?_set_ne hj]
    exact h.2 j e q
theorem Slots.start {K : Fg} {G : Hp} {N : List Str} {vs : List V} {ds : List Dt} (h : Rps K G vs ds) : Slots K G (start N vs) (ds.map some ++ List.replicate (N.length - ds.length) none) := by
  unfold L2.start
  refine ⟨by simp [h.length], fun i d q => ?_⟩
  rw [h.length]
  by_cases hi : i < ds.length
  · rw [List.getElem?_append_left (by simpa using hi), List.getElem?_map] at q
    cases e : ds[i]? with
    | none => rw [e] at q; cases q
    | some d' =>
      rw [e] at q
      cases q
      obtain ⟨v, a, b⟩ := h.get e
      exact ⟨v, by rw [List.getElem?_append_left (by simpa [h.length] using hi), List.getElem?_map, a]; rfl, b⟩
  · rw [List.getElem?_append_right (by simpa using hi)] at q
    rw [List.getElem?_replicate] at q
    split at q <;> cases q

structure Rep (K : Fg) (ss : SS) (os : Own) (σ : St) (G H : Hp) : Prop where
  gh : Ex G H
  sl : Slots K G σ ss
  ow : OwnOk K G H os
section
variable {K : Fg} {ss ss' : SS} {os os' : Own} {σ : St} {G H G' H' : Hp}
theorem OwnOk.grow (h : OwnOk K G H os) (q : Gq [] G H G' H') (e' : Ex G' H') : OwnOk K G' H' os := ⟨h.nd, fun x m => by
  obtain ⟨a, b⟩ := h.at_ x m
  obtain ⟨o, e⟩ := b.some
  refine ⟨?_, b.mono q.ex ((q.exH _ _ e).trans e.symm)⟩
  cases g : G' x.1 with
  | none => rfl
  | some u =>
    rcases q.new _ _ g with z | z | ⟨xs, z⟩
    · rw [a] at z; cases z
    · rw [e] at z; cases z
    · exact (b.notTup (e.trans ((q.exH _ _ e).symm.trans (e' _ _ g))) z).elim⟩
theorem Rep.grow (r : Rep K ss os σ G H) (q : Gq [] G H G' H') (e : Ex G' H') : Rep K ss os σ G' H' := ⟨e, r.sl.mono q.ex, r.ow.grow q e⟩
end

/-! ### what evaluates to what -/
def Ev (K : Fg) (te : TE) (ss : SS) (os : Own) (d : Dt) : Prop := ∀ σ G H, Rep K ss os σ G H → ∀ Q : VK, (∀ v G' H', Gq [] G H G' H' → Ex G' H' → Rp K G' v d → Q v H') → te σ H Q
def EvT (K : Fg) (tt : TT) (ss : SS) (os : Own) (b : Bool) : Prop := ∀ σ G H, Rep K ss os σ G H → ∀ Q : Bool → Hp → Prop, (∀ G' H', Gq [] G H G' H' → Ex G' H' → Q b H') → tt σ H Q
def EvA (K : Fg) (ta : TA) (ss : SS) (os : Own) (ds : List Dt) : Prop := ∀ σ G H, Rep K ss os σ G H → ∀ Q : List V → Hp → Prop, (∀ vs G' H', Gq [] G H G' H' → Ex G' H' → Rps K G' vs ds → Q vs H') → ta σ H Q
def EvO (K : Fg) (to : TO) (ss : SS) (os : Own) (o : Option Int) : Prop := ∀ σ G H, Rep K ss os σ G H → ∀ Q : Option Int → Hp → Prop, (∀ G' H', Gq [] G H G' H' → Ex G' H' → Q o H') → to σ H Q
/-- an evaluation that may change one's own cells -/
def EvM (K : Fg) (te : TE) (ss : SS) (os : Own) (P : Dt → Own → Prop) : Prop := ∀ σ G H, Rep K ss os σ G H → ∀ Q : VK,
  (∀ d os' v G' H', P d os' → Gq (keys os) G H G' H' → Ex G' H' → OwnOk K G' H' os' → (∀ x ∈ os', H x.1 = none ∨ x.1 ∈ keys os) → Rp K G' v d → Q v H') → te σ H Q
/-- a list that may be read -/
inductive LV (os : Own) : Dt → List Dt → Prop
  | lst {ds : List Dt} : LV os (.lst ds) ds
  | own {p : Addr} {ds : List Dt} : (p, Cel.lst ds) ∈ os → LV os (.adr p) ds
  | scr {ns : List Int} : LV os (.scr ns) (ns.map Dt.int)
section
variable {K : Fg} {ss : SS} {os : Own} {σ : St} {G H : Hp}
theorem Rep.list (r : Rep K ss os σ G H) {v : V} {d : Dt} {ds : List Dt} (l : LV os d ds) (h : Rp K G v d) : ∃ a vs, v = .ref a ∧ SqL K H a vs ∧ Rps K G vs ds := by
  cases l with
  | lst =>
    cases h with
    | lst h1 h2 => exact ⟨_, _, rfl, .of (r.gh _ _ h1), h2⟩
  | own m =>
    cases h
    obtain ⟨_, vs, e, q⟩ := r.ow.at_ _ m
    exact ⟨_, vs, rfl, .of e, q⟩
  | scr =>
    cases h with
    | scr h1 => exact ⟨_, _, rfl, Evl.ex_l r.gh h1, .ints _⟩
end
/-- a new object that stays as it is -/
theorem gq_new {fp : List Addr} {G H : Hp} {p : Addr} {o : HO} (e : Ex G H) (n : H p = none) : Gq fp G H (upd G p o) (upd H p o) ∧ Ex (upd G p o) (upd H p o) := by
  have ng : G p = none := Evl.fresh_back e n
  refine ⟨⟨Ex.new ng, fun a u h => ?_, fun a u _ h => ?_, fun a h => ?_⟩, fun a u h => ?_⟩
  · by_cases ha : a = p
    · exact .inr (.inl (by rw [ha]; exact n))
    · rw [upd_ne ha] at h; exact .inl h
  · rw [upd_ne (ne_of_none h n)]; exact h
  · by_cases ha : a = p
    · rw [ha]; exact n
    · rw [upd_ne ha] at h; exact h
  · by_cases ha : a = p
    · subst ha; rw [upd_same] at h ⊢; exact h
    · rw [upd_ne ha] at h ⊢; exact e _ _ h
/-- a new object of one's own -/
theorem gq_own {fp : List Addr} {G H : Hp} {p : Addr} {o : HO} (e : Ex G H) (n : H p = none) : Gq fp G H G (upd H p o) ∧ Ex G (upd H p o) :=
  ⟨⟨Ex.refl G, fun a u h => .inl h, fun a u _ h => by rw [upd_ne (ne_of_none h n)]; exact h, fun a h => by
    by_cases ha : a = p
    · rw [ha]; exact n
    · rw [upd_ne ha] at h; exact h⟩, Ex.mut e (Evl.fresh_back e n)⟩

section
variable {K : Fg} {ss : SS} {os : Own} {ta tb te tx : TE} {t u : TT} {d x y z : Dt} {r : R2} {ds : List Dt}
theorem ev_var {i : Nat} (h : ss[i]? = some (some d)) : Ev K (tVar i) ss os d := fun σ G H R Q q => by
  obtain ⟨v, a, b⟩ := R.sl.2 i d h
  exact ⟨v, a, q v G H (Gq.refl G H) R.gh b⟩
theorem ev_cint {i : Int} : Ev K (tC (.int i)) ss os (.int i) := fun σ G H R Q q => q _ G H (Gq.refl G H) R.gh (.int i)
theorem ev_cbl {b : Bool} : Ev K (tC (.bl b)) ss os (.bl b) := fun σ G H R Q q => q _ G H (Gq.refl G H) R.gh (.bl b)
theorem ev_cstr {b : Str} : Ev K (tC (.str b)) ss os (.str b) := fun σ G H R Q q => q _ G H (Gq.refl G H) R.gh (.str b)
theorem ev_cnon : Ev K (tC .non) ss os .non := fun σ G H R Q q => q _ G H (Gq.refl G H) R.gh .non
/-- a two-place operation on values -/
def RV (K : Fg) (r : R2) (os : Own) (x y z : Dt) : Prop := ∀ ss σ G H, Rep K ss os σ G H → ∀ a b, Rp K G a x → Rp K G b y → ∀ Q : VK, (∀ v G' H', Gq [] G H G' H' → Ex G' H' → Rp K G' v z → Q v H') → r a b H Q
theorem ev_op (ha : Ev K ta ss os x) (hb : Ev K tb ss os y) (hr : RV K r os x y z) : Ev K (tOp r ta tb) ss os z := fun σ G H R Q q =>
  ha σ G H R _ fun a G1 H1 q1 e1 r1 => hb σ G1 H1 (R.grow q1 e1) _ fun b G2 H2 q2 e2 r2 =>
    hr ss σ G2 H2 ((R.grow q1 e1).grow q2 e2) a b (r1.mono q2.ex) r2 Q fun v G3 H3 q3 e3 r3 => q v G3 H3 ((q1.trans q2 (by simp)).trans q3 (by simp)) e3 r3
theorem rv_ii {g : Int → Int → Int} {i j : Int} : RV K (rI0 fun i j => .int (g i j)) os (.int i) (.int j) (.int (g i j)) := fun ss σ G H R a b ra rb Q q => by
  cases ra; cases rb
  exact ⟨i, j, rfl, rfl, q _ G H (Gq.refl G H) R.gh (.int _)⟩
theorem rv_ib {g : Int → Int → Bool} {i j : Int} : RV K (rI0 fun i j => .bl (g i j)) os (.int i) (.int j) (.bl (g i j)) := fun ss σ G H R a b ra rb Q q => by
  cases ra; cases rb
  exact ⟨i, j, rfl, rfl, q _ G H (Gq.refl G H) R.gh (.bl _)⟩
theorem rv_iC {C : Int → Int → Prop} {g : Int → Int → Int} {i j : Int} (hc : C i j) : RV K (rI C fun i j => .int (g i j)) os (.int i) (.int j) (.int (g i j)) := fun ss σ G H R a b ra rb Q q => by
  cases ra; cases rb
  exact ⟨i, j, rfl, rfl, hc, q _ G H (Gq.refl G H) R.gh (.int _)⟩
/-- the scalars -/
def ScV : Dt → V → Prop
  | .non, v => v = .non
  | .bl b, v => v = .bl b
  | .int i, v => v = .int i
  | .str x, v => v = .str x
  | _, _ => False
theorem ScV.rp {v : V} {G : Hp} (h : Rp K G v d) (s : ∃ w, ScV d w) : ScV d v := by
  cases h <;> first | rfl | (obtain ⟨_, q⟩ := s; cases q)
theorem rv_eq {a b : V} (ha : ScV x a) (hb : ScV y b) (h : scal a b = true) : RV K rEq os x y (.bl (decide (a = b))) := fun ss σ G H R u w ra rb Q q => by
  have e1 : u = a := by
    have := ScV.rp ra ⟨a, ha⟩
    cases x <;> simp only [ScV] at this ha <;> rw [this, ha]
  have e2 : w = b := by
    have := ScV.rp rb ⟨b, hb⟩
    cases y <;> simp only [ScV] at this hb <;> rw [this, hb]
  subst e1 e2
  exact ⟨h, q _ G H (Gq.refl G H) R.gh (.bl _)⟩
theorem rv_ne {a b : V} (ha : ScV x a) (hb : ScV y b) (h : scal a b = true) : RV K rNe os x y (.bl (!decide (a = b))) := fun ss σ G H R u w ra rb Q q => by
  have e1 : u = a := by
    have := ScV.rp ra ⟨a, ha⟩
    cases x <;> simp only [ScV] at this ha <;> rw [this, ha]
  have e2 : w = b := by
    have := ScV.rp rb ⟨b, hb⟩
    cases y <;> simp only [ScV] at this hb <;> rw [this, hb]
  subst e1 e2
  exact ⟨h, q _ G H (Gq.refl G H) R.gh (.bl _)⟩
end
end Cy

namespace Cy
open PySem L2
open Evl (Ex Ex.refl Ex.trans Ex.new Ex.mut)

/-! ### more on cells -/
section
variable {K : Fg} {ss : SS} {os os' : Own} {σ : St} {G H G' H' : Hp} {p : Addr}
theorem OwnOk.ne (h : OwnOk K G H os) (n : H p = none) : p ∉ keys os := fun m => by
  obtain ⟨x, hx, e⟩ := List.mem_map.mp m
  obtain ⟨_, b⟩ := h.at_ x hx
  obtain ⟨o, q⟩ := b.some
  rw [e, n] at q
  cases q
theorem OwnOk.add (h : OwnOk K G H os) {c : Cel} {o : HO} (hp : p ∉ keys os) (g : G p = none) (hc : CelOk K G (upd H p o) p c) : OwnOk K G (upd H p o) (os ++ [(p, c)]) := ⟨by
  rw [keys, List.map_append, List.nodup_append]
  exact ⟨h.nd, by simp, fun a ha b hb z => by
    have e : b = p := by simpa using hb
    rw [z, e] at ha
    exact hp ha⟩, fun x m => by
  rcases List.mem_append.mp m with m | m
  · obtain ⟨a, b⟩ := h.at_ x m
    have ne : x.1 ≠ p := fun z => hp (z ▸ List.mem_map_of_mem m)
    exact ⟨a, b.mono (Ex.refl _) (upd_ne ne)⟩
  · have e : x = (p, c) := by simpa using m
    subst e
    exact ⟨g, hc⟩⟩
/-- the cell at p is another one -/
def setC (os : Own) (p : Addr) (c : Cel) : Own := os.map fun x => if x.1 = p then (p, c) else x
theorem keys_setC {c : Cel} : keys (setC os p c) = keys os := by
  unfold keys setC
  rw [List.map_map]
  refine List.map_congr_left fun x _ => ?_
  show (if x.1 = p then (p, c) else x).1 = x.1
  split
  · rename_i h; exact h.symm
  · rfl
theorem OwnOk.put (h : OwnOk K G H os) {c : Cel} {o : HO} (hc : CelOk K G (upd H p o) p c) : OwnOk K G (upd H p o) (setC os p c) := ⟨by rw [keys_setC]; exact h.nd, fun x m => by
  obtain ⟨y, hy, e⟩ := List.mem_map.mp m
  obtain ⟨a, b⟩ := h.at_ y hy
  by_cases q : y.1 = p
  · rw [if_pos q] at e
    subst e
    exact ⟨by rw [← q]; exact a, hc⟩
  · rw [if_neg q] at e
    subst e
    exact ⟨a, b.mono (Ex.refl _) (upd_ne q)⟩⟩
theorem gq_put {fp : List Addr} {o u : HO} (e : Ex G H) (g : G p = none) (h : H p = some u) (m : p ∈ fp) : Gq fp G H G (upd H p o) ∧ Ex G (upd H p o) :=
  ⟨⟨Ex.refl G, fun a v q => .inl q, fun a v n q => by rw [upd_ne (fun z => n (by rw [z]; exact m))]; exact q, fun a q => by
    by_cases ha : a = p
    · subst ha; rw [upd_same] at q; cases q
    · rw [upd_ne ha] at q; exact q⟩, Ex.mut e g⟩
theorem mem_keys {x : Addr × Cel} (m : x ∈ os) : x.1 ∈ keys os := List.mem_map_of_mem m
end

/-! ### fresh lists -/
def EvF (K : Fg) (te : TE) (ss : SS) (os : Own) (ds : List Dt) : Prop := ∀ σ G H, Rep K ss os σ G H → ∀ Q : VK,
  (∀ p vs G' H', H p = none → Gq [] G H G' H' → Ex G' H' → G' p = none → H' p = some (.lst vs) → Rps K G' vs ds → Q (.ref p) H') → te σ H Q
theorem gq_frz {G H G' H' : Hp} {p : Addr} {o : HO} (n : H p = none) (q : Gq [] G H G' H') (e : Ex G' H') (g : G' p = none) (h : H' p = some o) : Gq [] G H (upd G' p o) H' ∧ Ex (upd G' p o) H' :=
  ⟨⟨q.ex.trans (Ex.new g), fun a u z => by
    by_cases ha : a = p
    · exact .inr (.inl (by rw [ha]; exact n))
    · rw [upd_ne ha] at z; exact q.new a u z, q.keep, q.dom⟩, fun a u z => by
    by_cases ha : a = p
    · subst ha; rw [upd_same] at z; rw [h]; exact z
    · rw [upd_ne ha] at z; exact e _ _ z⟩
section
variable {K : Fg} {ss : SS} {os : Own} {ta tb te tx : TE} {t u : TT} {d x y z : Dt} {r : R2} {ds : List Dt}
theorem ev_F (h : EvF K te ss os ds) : Ev K te ss os (.lst ds) := fun σ G H R Q q => h σ G H R Q fun p vs G1 H1 n q1 e1 g1 h1 r1 => by
  obtain ⟨q2, e2⟩ := gq_frz n q1 e1 g1 h1
  exact q _ _ _ q2 e2 (.lst upd_same (r1.mono (Ex.new g1)))
def MadeL (os : Own) (ds : List Dt) : Dt → Own → Prop := fun d os' => ∃ p, p ∉ keys os ∧ d = .adr p ∧ os' = os ++ [(p, .lst ds)]
theorem em_F (h : EvF K te ss os ds) : EvM K te ss os (MadeL os ds) := fun σ G H R Q q => h σ G H R Q fun p vs G1 H1 n q1 e1 g1 h1 r1 => by
  have np := R.ow.ne n
  have o1 : OwnOk K G1 H1 os := R.ow.grow q1 e1
  refine q (.adr p) (os ++ [(p, .lst ds)]) _ G1 H1 ⟨p, np, rfl, rfl⟩ (q1.wk (by simp)) e1 ?_ ?_ (.adr p)
  · have hu : upd H1 p (.lst vs) = H1 := by
      funext a
      by_cases ha : a = p
      · subst ha; rw [upd_same, h1]
      · rw [upd_ne ha]
    have := o1.add (c := .lst ds) (o := .lst vs) np g1 ⟨vs, upd_same, r1⟩
    rw [hu] at this
    exact this
  · intro x m
    rcases List.mem_append.mp m with m | m
    · exact .inr (mem_keys m)
    · have e : x = (p, .lst ds) := by simpa using m
      subst e
      exact .inl n
theorem em_ev (h : Ev K te ss os d) : EvM K te ss os (fun d' os' => d' = d ∧ os' = os) := fun σ G H R Q q => h σ G H R Q fun v G1 H1 q1 e1 r1 =>
  q d os v G1 H1 ⟨rfl, rfl⟩ (q1.wk (by simp)) e1 (R.ow.grow q1 e1) (fun x m => .inr (mem_keys m)) r1

/-! ### argument lists, displays -/
theorem ea_nil : EvA K tNil ss os [] := fun σ G H R Q q => q [] G H (Gq.refl G H) R.gh .nil
theorem ea_cons {tr : TA} (h : Ev K te ss os x) (hr : EvA K tr ss os ds) : EvA K (tCons te tr) ss os (x :: ds) := fun σ G H R Q q =>
  h σ G H R _ fun v G1 H1 q1 e1 r1 => hr σ G1 H1 (R.grow q1 e1) _ fun vs G2 H2 q2 e2 r2 => q (v :: vs) G2 H2 (q1.trans q2 (by simp)) e2 (.cons (r1.mono q2.ex) r2)
theorem sz (n : Nat) (h : n ≤ 1000000 := by decide) : n ≤ sizeLine := Nat.le_trans h (by decide)
theorem szl {n : Nat} (h : n < 1000000) : n < sizeLine := Nat.lt_of_lt_of_le h (by decide)
theorem ev_tup {ta : TA} (h : EvA K ta ss os ds) (hl : ds.length ≤ 1000000) : Ev K (tTup ta) ss os (.tup ds) := fun σ G H R Q q =>
  h σ G H R _ fun vs G1 H1 q1 e1 r1 => ⟨by rw [r1.length]; exact sz _ hl, fun p hp => by
    obtain ⟨q2, e2⟩ := gq_new (fp := []) (o := .tup vs) e1 hp
    exact q _ _ _ (q1.trans q2 (by simp)) e2 (.tup upd_same (r1.mono q2.ex))⟩
theorem ef_lst {ta : TA} (h : EvA K ta ss os ds) (hl : ds.length ≤ 1000000) : EvF K (tLst ta) ss os ds := fun σ G H R Q q =>
  h σ G H R _ fun vs G1 H1 q1 e1 r1 => ⟨by rw [r1.length]; exact sz _ hl, fun p hp => by
    obtain ⟨q2, e2⟩ := gq_own (fp := []) (o := .lst vs) e1 hp
    exact q p vs G1 _ (q1.dom p hp) (q1.trans q2 (by simp)) e2 (Evl.fresh_back e1 hp) upd_same r1⟩
theorem atI_rps {G : Hp} {vs : List V} {i : Int} (r : Rps K G vs ds) (h : atI ds i = some z) : ∃ v, atI vs i = some v ∧ Rp K G v z := by
  unfold atI at h ⊢
  rw [r.length]
  cases e : ixN ds.length i with
  | none => rw [e] at h; cases h
  | some j =>
    rw [e] at h
    exact r.get h
theorem at_of {α : Type} {xs : List α} {i : Int} {v : α} (h0 : 0 ≤ i) (h : xs[i.toNat]? = some v) : atI xs i = some v := by
  have := atI_nat h
  rw [Int.toNat_of_nonneg h0] at this
  exact this
theorem at_map {α : Type} {xs : List α} {f : α → Dt} {i : Int} {v : α} (h0 : 0 ≤ i) (h : xs[i.toNat]? = some v) : atI (xs.map f) i = some (f v) := at_of h0 (by rw [List.getElem?_map, h]; rfl)
theorem at_mapN {α : Type} {xs : List α} {f : α → Dt} {i : Nat} {v : α} (h : xs[i]? = some v) : atI (xs.map f) (i : Int) = some (f v) := at_map (by omega) (by simpa using h)
theorem rv_ixL {i : Int} (l : LV os x ds) (h : atI ds i = some z) : RV K (rIxL K) os x (.int i) z := fun ss σ G H R a b ra rb Q q => by
  obtain ⟨p, vs, rfl, hs, rs⟩ := R.list l ra
  cases rb
  obtain ⟨v, hv, rv⟩ := atI_rps rs h
  exact ⟨p, vs, i, v, rfl, rfl, hs, hv, q v G H (Gq.refl G H) R.gh rv⟩
theorem rv_ixT {i : Int} (h : atI ds i = some z) : RV K (rIxT K) os (.tup ds) (.int i) z := fun ss σ G H R a b ra rb Q q => by
  cases ra with
  | tup h1 h2 =>
    cases rb
    obtain ⟨v, hv, rv⟩ := atI_rps h2 h
    exact ⟨_, _, i, v, rfl, rfl, .of (R.gh _ _ h1), hv, q v G H (Gq.refl G H) R.gh rv⟩
theorem ev_ixL {i : Int} (ha : Ev K ta ss os x) (l : LV os x ds) (hb : Ev K tb ss os (.int i)) (h : atI ds i = some z) : Ev K (tOp (rIxL K) ta tb) ss os z := ev_op ha hb (rv_ixL l h)
theorem ev_ixT {i : Int} (ha : Ev K ta ss os (.tup ds)) (hb : Ev K tb ss os (.int i)) (h : atI ds i = some z) : Ev K (tOp (rIxT K) ta tb) ss os z := ev_op ha hb (rv_ixT h)
theorem ev_ii {g : Int → Int → Int} {i j : Int} (ha : Ev K ta ss os (.int i)) (hb : Ev K tb ss os (.int j)) : Ev K (tOp (rI0 fun i j => .int (g i j)) ta tb) ss os (.int (g i j)) := ev_op ha hb rv_ii
theorem ev_ib {g : Int → Int → Bool} {i j : Int} (ha : Ev K ta ss os (.int i)) (hb : Ev K tb ss os (.int j)) : Ev K (tOp (rI0 fun i j => .bl (g i j)) ta tb) ss os (.bl (g i j)) := ev_op ha hb rv_ib
theorem ev_iC {C : Int → Int → Prop} {g : Int → Int → Int} {i j : Int} (ha : Ev K ta ss os (.int i)) (hb : Ev K tb ss os (.int j)) (hc : C i j) : Ev K (tOp (rI C fun i j => .int (g i j)) ta tb) ss os (.int (g i j)) := ev_op ha hb (rv_iC hc)
theorem ev_eqI {i j : Int} (ha : Ev K ta ss os (.int i)) (hb : Ev K tb ss os (.int j)) : Ev K (tOp rEq ta tb) ss os (.bl (decide (i = j))) := by
  have := ev_op ha hb (rv_eq (K := K) (os := os) (x := .int i) (y := .int j) (a := .int i) (b := .int j) rfl rfl rfl)
  have e : decide (V.int i = V.int j) = decide (i = j) := by
    by_cases h : i = j
    · subst h; simp
    · simp [h]
  rw [e] at this
  exact this
theorem ev_neI {i j : Int} (ha : Ev K ta ss os (.int i)) (hb : Ev K tb ss os (.int j)) : Ev K (tOp rNe ta tb) ss os (.bl (!decide (i = j))) := by
  have := ev_op ha hb (rv_ne (K := K) (os := os) (x := .int i) (y := .int j) (a := .int i) (b := .int j) rfl rfl rfl)
  have e : decide (V.int i = V.int j) = decide (i = j) := by
    by_cases h : i = j
    · subst h; simp
    · simp [h]
  rw [e] at this
  exact this
theorem ev_eqS {i j : Str} (ha : Ev K ta ss os (.str i)) (hb : Ev K tb ss os (.str j)) : Ev K (tOp rEq ta tb) ss os (.bl (decide (i = j))) := by
  have := ev_op ha hb (rv_eq (K := K) (os := os) (x := .str i) (y := .str j) (a := .str i) (b := .str j) rfl rfl rfl)
  have e : decide (V.str i = V.str j) = decide (i = j) := by
    by_cases h : i = j
    · subst h; simp
    · simp [h]
  rw [e] at this
  exact this
theorem ev_neS {i j : Str} (ha : Ev K ta ss os (.str i)) (hb : Ev K tb ss os (.str j)) : Ev K (tOp rNe ta tb) ss os (.bl (!decide (i = j))) := by
  have := ev_op ha hb (rv_ne (K := K) (os := os) (x := .str i) (y := .str j) (a := .str i) (b := .str j) rfl rfl rfl)
  have e : decide (V.str i = V.str j) = decide (i = j) := by
    by_cases h : i = j
    · subst h; simp
    · simp [h]
  rw [e] at this
  exact this
theorem ev_is {d' : Dt} (h : Ev K te ss os d) (e : d = d') : Ev K te ss os d' := e ▸ h
theorem et_is {b b' : Bool} (h : EvT K t ss os b) (e : b = b') : EvT K t ss os b' := e ▸ h
/-! ### tests -/
theorem et_B {b : Bool} (h : Ev K te ss os (.bl b)) : EvT K (tB te) ss os b := fun σ G H R Q q => h σ G H R _ fun v G1 H1 q1 e1 r1 => by
  cases r1
  exact ⟨b, rfl, q G1 H1 q1 e1⟩
theorem et_T {b : Bool} (h : Ev K te ss os (.bl b)) : EvT K (tTest te) ss os b := fun σ G H R Q q => h σ G H R _ fun v G1 H1 q1 e1 r1 => by
  cases r1
  exact ⟨b, rfl, q G1 H1 q1 e1⟩
theorem et_and {a b : Bool} (h1 : EvT K t ss os a) (h2 : a = true → EvT K u ss os b) : EvT K (tAnd t u) ss os (a && b) := fun σ G H R Q q => h1 σ G H R _ fun G1 H1 q1 e1 => by
  cases a with
  | true => exact h2 rfl σ G1 H1 (R.grow q1 e1) Q fun G2 H2 q2 e2 => q G2 H2 (q1.trans q2 (by simp)) e2
  | false => exact q G1 H1 q1 e1
theorem et_or {a b : Bool} (h1 : EvT K t ss os a) (h2 : a = false → EvT K u ss os b) : EvT K (tOr t u) ss os (a || b) := fun σ G H R Q q => h1 σ G H R _ fun G1 H1 q1 e1 => by
  cases a with
  | false => exact h2 rfl σ G1 H1 (R.grow q1 e1) Q fun G2 H2 q2 e2 => q G2 H2 (q1.trans q2 (by simp)) e2
  | true => exact q G1 H1 q1 e1
theorem et_not {a : Bool} (h1 : EvT K t ss os a) : EvT K (tNot t) ss os (!a) := fun σ G H R Q q => h1 σ G H R _ q
theorem et_yes : EvT K tYes ss os true := fun σ G H R Q q => q G H (Gq.refl G H) R.gh
theorem ev_andV {a b : Bool} (h1 : Ev K ta ss os (.bl a)) (h2 : a = true → Ev K tb ss os (.bl b)) : Ev K (tAndV ta tb) ss os (.bl (a && b)) := fun σ G H R Q q => h1 σ G H R _ fun v G1 H1 q1 e1 r1 => by
  cases r1
  refine ⟨a, rfl, ?_⟩
  cases a with
  | true => exact h2 rfl σ G1 H1 (R.grow q1 e1) Q fun v G2 H2 q2 e2 => q v G2 H2 (q1.trans q2 (by simp)) e2
  | false => exact q _ G1 H1 q1 e1 (.bl _)
theorem ev_orV {a b : Bool} (h1 : Ev K ta ss os (.bl a)) (h2 : a = false → Ev K tb ss os (.bl b)) : Ev K (tOrV ta tb) ss os (.bl (a || b)) := fun σ G H R Q q => h1 σ G H R _ fun v G1 H1 q1 e1 r1 => by
  cases r1
  refine ⟨a, rfl, ?_⟩
  cases a with
  | false => exact h2 rfl σ G1 H1 (R.grow q1 e1) Q fun v G2 H2 q2 e2 => q v G2 H2 (q1.trans q2 (by simp)) e2
  | true => exact q _ G1 H1 q1 e1 (.bl _)
theorem ev_notV {a : Bool} (h1 : Ev K ta ss os (.bl a)) : Ev K (tNotV ta) ss os (.bl (!a)) := fun σ G H R Q q => h1 σ G H R _ fun v G1 H1 q1 e1 r1 => by
  cases r1
  exact ⟨a, rfl, q _ G1 H1 q1 e1 (.bl _)⟩
theorem ev_if {b : Bool} (h : EvT K t ss os b) (h1 : b = true → Ev K ta ss os d) (h2 : b = false → Ev K tb ss os d) : Ev K (tIf t ta tb) ss os d := fun σ G H R Q q => h σ G H R _ fun G1 H1 q1 e1 => by
  cases b with
  | true => exact h1 rfl σ G1 H1 (R.grow q1 e1) Q fun v G2 H2 q2 e2 => q v G2 H2 (q1.trans q2 (by simp)) e2
  | false => exact h2 rfl σ G1 H1 (R.grow q1 e1) Q fun v G2 H2 q2 e2 => q v G2 H2 (q1.trans q2 (by simp)) e2
def isNon : Dt → Bool
  | .non => true
  | _ => false
theorem non_iff {G : Hp} {v : V} (h : Rp K G v d) : decide (v = V.non) = isNon d := by
  cases h <;> simp [isNon]
theorem ev_isN (h : Ev K ta ss os d) : Ev K (tIsN ta) ss os (.bl (isNon d)) := fun σ G H R Q q => h σ G H R _ fun v G1 H1 q1 e1 r1 => by
  rw [non_iff r1]; exact q _ G1 H1 q1 e1 (.bl _)
theorem ev_notN (h : Ev K ta ss os d) : Ev K (tNotN ta) ss os (.bl (!isNon d)) := fun σ G H R Q q => h σ G H R _ fun v G1 H1 q1 e1 r1 => by
  rw [non_iff r1]; exact q _ G1 H1 q1 e1 (.bl _)
/-! ### fields -/
theorem lookup_zip {f : Str} {i : Nat} : ∀ {ns : List Str} {vs : List V} {v : V}, ns.idxOf f = i → ns[i]? = some f → vs[i]? = some v → (ns.zip vs).lookup f = some v
  | [], _, _, _, h, _ => by simp at h
  | n :: r, [], _, _, _, h => by simp at h
  | n :: r, w :: s, v, hi, hn, hv => by
    by_cases e : n = f
    · subst e
      have : i = 0 := by rw [← hi]; simp
      subst this
      simp at hv
      subst hv
      show (match n == n with | true => some w | false => (r.zip s).lookup n) = some w
      simp
    · have h2 : i = r.idxOf f + 1 := by
        rw [← hi, List.idxOf_cons]
        have e' : (n == f) = false := by simpa using e
        rw [e']
        rfl
      subst h2
      have e' : (f == n) = false := by simpa using fun z => e z.symm
      show (match f == n with | true => some w | false => (r.zip s).lookup f) = some v
      rw [e']
      exact lookup_zip rfl (by simpa using hn) (by simpa using hv)
/-- an instance that may be read -/
inductive IV (os : Own) : Dt → Addr → List Str → List Dt → Prop
  | ins {C : Addr} {ns : List Str} {ds : List Dt} : IV os (.ins C ns ds) C ns ds
  | own {p C : Addr} {ns : List Str} {ds : List Dt} : (p, Cel.ins C ns ds) ∈ os → IV os (.adr p) C ns ds
theorem Rep.ins {σ : St} {G H : Hp} {C : Addr} {ns : List Str} (r : Rep K ss os σ G H) {v : V} (l : IV os d C ns ds) (h : Rp K G v d) : ∃ a dx vs, v = .ref a ∧ H a = some (.ins C dx (ns.zip vs)) ∧ Rps K G vs ds := by
  cases l with
  | ins =>
    cases h with
    | ins h1 h2 => exact ⟨_, _, _, rfl, r.gh _ _ h1, h2⟩
  | own m =>
    cases h
    obtain ⟨_, dx, vs, _, e, q⟩ := r.ow.at_ _ m
    exact ⟨_, dx, vs, rfl, e, q⟩
theorem ev_fldI {C : Addr} {ns : List Str} {f : Str} {i : Nat} (c : Cls K C) (na : NoAttr K C f) (ha : Ev K ta ss os x) (l : IV os x C ns ds) (h1 : ns.idxOf f = i) (h2 : ns[i]? = some f) (h3 : ds[i]? = some d) : Ev K (tFld K ta f) ss os d := fun σ G H R Q q =>
  ha σ G H R _ fun v G1 H1 q1 e1 r1 => by
    obtain ⟨a, dx, vs, rfl, g, rs⟩ := (R.grow q1 e1).ins l r1
    obtain ⟨v, hv, rv⟩ := rs.get h3
    exact ⟨_, C, _, _, v, rfl, g, c, na, lookup_zip h1 h2 hv, q v G1 H1 q1 e1 rv⟩
theorem ev_fld {C : Addr} {ns : List Str} {f : Str} {i : Nat} (c : Cls K C) (na : NoAttr K C f) (ha : Ev K ta ss os (.ins C ns ds)) (h1 : ns.idxOf f = i) (h2 : ns[i]? = some f) (h3 : ds[i]? = some d) : Ev K (tFld K ta f) ss os d := fun σ G H R Q q =>
  ha σ G H R _ fun v G1 H1 q1 e1 r1 => by
    cases r1 with
    | ins g rs =>
      obtain ⟨v, hv, rv⟩ := rs.get h3
      exact ⟨_, C, _, _, v, rfl, e1 _ _ g, c, na, lookup_zip h1 h2 hv, q v G1 H1 q1 e1 rv⟩
/-! ### slices -/
def cutD (ds : List Dt) (lo hi : Option Int) : List Dt := (ds.drop (HT.sIx ds.length 0 lo)).take (HT.sIx ds.length ds.length hi - HT.sIx ds.length 0 lo)
theorem eo_none : EvO K tNoPart ss os none := fun σ G H R Q q => q G H (Gq.refl G H) R.gh
theorem eo_some {i : Int} (h : Ev K te ss os (.int i)) : EvO K (tPart te) ss os (some i) := fun σ G H R Q q => h σ G H R _ fun v G1 H1 q1 e1 r1 => by
  cases r1
  exact ⟨i, rfl, q G1 H1 q1 e1⟩
theorem ef_sl {tl th : TO} {lo hi : Option Int} (h : Ev K te ss os x) (l : LV os x ds) (h1 : EvO K tl ss os lo) (h2 : EvO K th ss os hi) : EvF K (tSl (rSlL K) te tl th) ss os (cutD ds lo hi) := fun σ G H R Q q =>
  h σ G H R _ fun v G1 H1 q1 e1 r1 => h1 σ G1 H1 (R.grow q1 e1) _ fun G2 H2 q2 e2 => h2 σ G2 H2 ((R.grow q1 e1).grow q2 e2) _ fun G3 H3 q3 e3 => by
    have R3 := ((R.grow q1 e1).grow q2 e2).grow q3 e3
    obtain ⟨a, vs, rfl, hs, rs⟩ := R3.list l ((r1.mono q2.ex).mono q3.ex)
    refine ⟨a, vs, rfl, hs, fun p hp => ?_⟩
    obtain ⟨q4, e4⟩ := gq_own (fp := []) (o := .lst (cutV vs lo hi)) e3 hp
    have q13 := (q1.trans q2 (by simp)).trans q3 (by simp)
    refine q p (cutV vs lo hi) G3 _ (q13.dom p hp) (q13.trans q4 (by simp)) e4 (Evl.fresh_back e3 hp) upd_same ?_
    unfold cutV cutD
    rw [rs.length]
    exact (rs.drop _).take _
theorem cutD_to (i : Int) (h : 0 ≤ i) : cutD ds none (some i) = ds.take i.toNat := by
  unfold cutD
  obtain ⟨n, rfl⟩ : ∃ n : Nat, i = n := ⟨i.toNat, by omega⟩
  rw [HT.sIx_none, HT.sIx_nat]
  simp only [List.drop_zero, Nat.sub_zero, Int.toNat_natCast]
  by_cases h : n ≤ ds.length
  · rw [Nat.min_eq_left h]
  · rw [Nat.min_eq_right (by omega), List.take_of_length_le (Nat.le_refl _), List.take_of_length_le (by omega)]
/-! ### built-ins -/
theorem ev_len (ha : Ev K ta ss os x) (l : LV os x ds) : Ev K (tCB (Evl.rLenS K) (tCons ta tNil)) ss os (.int (ds.length : Int)) := fun σ G H R Q q => ha σ G H R _ fun v G1 H1 q1 e1 r1 => by
  obtain ⟨a, vs, rfl, hs, rs⟩ := (R.grow q1 e1).list l r1
  refine ⟨a, vs, rfl, .inl hs, ?_⟩
  rw [rs.length]
  exact q _ G1 H1 q1 e1 (.int _)
theorem ev_lenT (ha : Ev K ta ss os (.tup ds)) : Ev K (tCB (Evl.rLenS K) (tCons ta tNil)) ss os (.int (ds.length : Int)) := fun σ G H R Q q => ha σ G H R _ fun v G1 H1 q1 e1 r1 => by
  cases r1 with
  | tup h1 rs =>
    refine ⟨_, _, rfl, .inr (.of (e1 _ _ h1)), ?_⟩
    rw [rs.length]
    exact q _ G1 H1 q1 e1 (.int _)
theorem ef_list (ha : Ev K ta ss os x) (l : LV os x ds) : EvF K (tCB (Evl.rListS K) (tCons ta tNil)) ss os ds := fun σ G H R Q q => ha σ G H R _ fun v G1 H1 q1 e1 r1 => by
  obtain ⟨a, vs, rfl, hs, rs⟩ := (R.grow q1 e1).list l r1
  refine ⟨a, vs, rfl, .inl hs, fun p hp => ?_⟩
  obtain ⟨q4, e4⟩ := gq_own (fp := []) (o := .lst vs) e1 hp
  exact q p vs G1 _ (q1.dom p hp) (q1.trans q4 (by simp)) e4 (Evl.fresh_back e1 hp) upd_same rs
theorem ev_sum {ns : List Int} (ha : Ev K ta ss os x) (l : LV os x (ns.map Dt.int)) : Ev K (tCB (rSum K) (tCons ta tNil)) ss os (.int ns.sum) := fun σ G H R Q q => ha σ G H R _ fun v G1 H1 q1 e1 r1 => by
  obtain ⟨a, vs, rfl, hs, rs⟩ := (R.grow q1 e1).list l r1
  have e := rs.to_ints
  subst e
  exact ⟨a, ns, rfl, hs, q _ G1 H1 q1 e1 (.int _)⟩
def rMin2 : List V → Hp → VK → Prop := fun xs H Q => ∃ i j, xs = [.int i, .int j] ∧ Q (.int (if j < i then j else i)) H
theorem ite_min (i j : Int) : (if j < i then j else i) = min i j := by
  rw [Int.min_def]; split <;> split <;> omega
theorem ite_max (i j : Int) : (if j > i then j else i) = max i j := by
  rw [Int.max_def]; split <;> split <;> omega
theorem ev_min2 {i j : Int} (ha : Ev K ta ss os (.int i)) (hb : Ev K tb ss os (.int j)) : Ev K (tCB rMin2 (tCons ta (tCons tb tNil))) ss os (.int (min i j)) := fun σ G H R Q q => ha σ G H R _ fun v G1 H1 q1 e1 r1 => hb σ G1 H1 (R.grow q1 e1) _ fun w G2 H2 q2 e2 r2 => by
  cases r1; cases r2
  refine ⟨i, j, rfl, ?_⟩
  rw [ite_min]
  exact q _ G2 H2 (q1.trans q2 (by simp)) e2 (.int _)
theorem ev_max2 {i j : Int} (ha : Ev K ta ss os (.int i)) (hb : Ev K tb ss os (.int j)) : Ev K (tCB Evl.rMax2 (tCons ta (tCons tb tNil))) ss os (.int (max i j)) := fun σ G H R Q q => ha σ G H R _ fun v G1 H1 q1 e1 r1 => hb σ G1 H1 (R.grow q1 e1) _ fun w G2 H2 q2 e2 r2 => by
  cases r1; cases r2
  refine ⟨i, j, rfl, ?_⟩
  rw [ite_max]
  exact q _ G2 H2 (q1.trans q2 (by simp)) e2 (.int _)
end

/-! ### contracts -/
inductive Res where
  | ok (d : Dt)
  | er (C : Addr)
abbrev Ct := List Dt → Own → (Res → Own → Prop) → Prop
/-- a promise over data: n arguments; the outcome is one of P's -/
def spC (K : Fg) (n : Nat) (c : Ct) : Sp := fun vs H Q E => vs.length = n ∧ ∃ ds os P G, Ex G H ∧ Rps K G vs ds ∧ OwnOk K G H os ∧ c ds os P ∧
  ∀ r os' G' H', P r os' → Gq (keys os) G H G' H' → Ex G' H' → OwnOk K G' H' os' → (∀ x ∈ os', H x.1 = none ∨ x.1 ∈ keys os) →
    match r with
    | .ok d => ∀ v, Rp K G' v d → Q v H'
    | .er C => E (.ref C) none H'
/-- nothing of the caller's own is handed in -/
def pureC {α : Type} (pre : α → Prop) (args : α → List Dt) (res : α → Res) : Ct := fun ds os P => ∃ x, pre x ∧ ds = args x ∧ os = [] ∧ P = fun r os' => r = res x ∧ os' = []
section
variable {K : Fg} {ss : SS} {os : Own} {ta : TA} {ds : List Dt} {d : Dt} {E : XK} {n : Nat} {c : Ct}
theorem ownOk_nil {G H : Hp} : OwnOk K G H [] := ⟨by simp, fun _ m => by simp at m⟩
theorem ev_callC (ha : EvA K ta ss os ds) (hn : ds.length = n) (hc : c ds [] (fun r os' => r = .ok d ∧ os' = [])) : Ev K (tCall (spC K n c) [] E ta) ss os d := fun σ G H R Q q => ha σ G H R _ fun vs G1 H1 q1 e1 r1 => by
  refine ⟨by rw [List.append_nil, r1.length, hn], ds, [], _, G1, e1, by rw [List.append_nil]; exact r1, ownOk_nil, hc, ?_⟩
  rintro r os' G2 H2 ⟨rfl, rfl⟩ q2 e2 _ _ v rv
  exact q v G2 H2 (q1.trans q2 (by simp)) e2 rv
theorem ev_call {α : Type} {pre : α → Prop} {args : α → List Dt} {res : α → Res} (x : α) (ha : EvA K ta ss os (args x)) (hn : (args x).length = n) (hp : pre x) (hr : res x = .ok d) : Ev K (tCall (spC K n (pureC pre args res)) [] E ta) ss os d :=
  ev_callC ha hn ⟨x, hp, rfl, rfl, by rw [hr]⟩
end
end Cy

namespace Cy
open PySem L2
open Evl (Ex Ex.refl Ex.trans Ex.new Ex.mut)

section
variable {K : Fg} {ss : SS} {os osp osr : Own} {ta : TA} {tx : TE} {ds : List Dt} {d x : Dt} {E : XK} {n : Nat} {c : Ct} {G H G' H' : Hp}
theorem OwnOk.perm (h : OwnOk K G H os) (p : os.Perm osp) : OwnOk K G H osp := ⟨(p.map (·.1)).nodup_iff.mp h.nd, fun x m => h.at_ x (p.mem_iff.mpr m)⟩
theorem OwnOk.left (h : OwnOk K G H (osp ++ osr)) : OwnOk K G H osp := ⟨by
  have := h.nd
  rw [keys, List.map_append] at this
  exact (List.nodup_append.mp this).1, fun x m => h.at_ x (List.mem_append_left _ m)⟩
theorem OwnOk.sub (h : OwnOk K G H (osp ++ osr)) : OwnOk K G H osr := ⟨by
  have := h.nd
  rw [keys, List.map_append] at this
  exact (List.nodup_append.mp this).2.1, fun x m => h.at_ x (List.mem_append_right _ m)⟩
/-- behind a call that was given osp -/
theorem OwnOk.back (h : OwnOk K G H (osp ++ osr)) (q : Gq (keys osp) G H G' H') (e' : Ex G' H') {os1 : Own} (h1 : OwnOk K G' H' os1) (hn : ∀ x ∈ os1, H x.1 = none ∨ x.1 ∈ keys osp) : OwnOk K G' H' (os1 ++ osr) := by
  have nd := h.nd
  rw [keys, List.map_append] at nd
  obtain ⟨_, n2, n3⟩ := List.nodup_append.mp nd
  have hr : ∀ x ∈ osr, (∃ o, H x.1 = some o) ∧ x.1 ∉ keys osp := fun x m => ⟨(h.at_ x (List.mem_append_right _ m)).2.some, fun z => n3 _ z _ (mem_keys m) rfl⟩
  refine ⟨?_, fun x m => ?_⟩
  · rw [keys, List.map_append]
    refine List.nodup_append.mpr ⟨h1.nd, n2, fun a ha b hb z => ?_⟩
    obtain ⟨x, hx, ex⟩ := List.mem_map.mp ha
    obtain ⟨y, hy, ey⟩ := List.mem_map.mp hb
    obtain ⟨⟨o, e1⟩, e2⟩ := hr y hy
    rcases hn x hx with q1 | q1
    · rw [ex, z, ← ey, e1] at q1; cases q1
    · rw [ex, z, ← ey] at q1; exact e2 q1
  · rcases List.mem_append.mp m with m | m
    · exact h1.at_ x m
    · obtain ⟨⟨o, e1⟩, e2⟩ := hr x m
      obtain ⟨a, b⟩ := h.at_ x (List.mem_append_right _ m)
      refine ⟨?_, b.mono q.ex ((q.keep _ _ e2 e1).trans e1.symm)⟩
      cases g : G' x.1 with
      | none => rfl
      | some u =>
        rcases q.new _ _ g with z | z | ⟨xs, z⟩
        · rw [a] at z; cases z
        · rw [e1] at z; cases z
        · exact (b.notTup (e1.trans ((q.keep _ _ e2 e1).symm.trans (e' _ _ g))) z).elim
theorem keys_sub (hp : os.Perm (osp ++ osr)) : ∀ p ∈ keys osp, p ∈ keys os := fun p m => by
  obtain ⟨x, hx, e⟩ := List.mem_map.mp m
  exact List.mem_map.mpr ⟨x, hp.mem_iff.mpr (List.mem_append_left _ hx), e⟩
theorem new_back (hp : os.Perm (osp ++ osr)) {os1 : Own} (hn : ∀ x ∈ os1, H x.1 = none ∨ x.1 ∈ keys osp) : ∀ x ∈ os1 ++ osr, H x.1 = none ∨ x.1 ∈ keys os := fun x m => by
  rcases List.mem_append.mp m with m | m
  · rcases hn x m with q | q
    · exact .inl q
    · exact .inr (keys_sub hp _ q)
  · exact .inr (mem_keys (hp.mem_iff.mpr (List.mem_append_right _ m)))
/-- what a call leaves -/
def CallP (P : Res → Own → Prop) (osr : Own) : Dt → Own → Prop := fun d os' => ∃ os1, P (.ok d) os1 ∧ os' = os1 ++ osr
theorem em_call {P : Res → Own → Prop} (ha : EvA K ta ss os ds) (hn : ds.length = n) (hp : os.Perm (osp ++ osr)) (hc : c ds osp P) (hE : ∀ C os', P (.er C) os' → False) : EvM K (tCall (spC K n c) [] E ta) ss os (CallP P osr) := fun σ G H R Q q => ha σ G H R _ fun vs G1 H1 q1 e1 r1 => by
  have ow1 := (R.ow.grow q1 e1).perm hp
  refine ⟨by rw [List.append_nil, r1.length, hn], ds, osp, P, G1, e1, by rw [List.append_nil]; exact r1, ow1.left, hc, ?_⟩
  intro r os1 G2 H2 hP q2 e2 o2 n2
  cases r with
  | er C => exact (hE C os1 hP).elim
  | ok d =>
    intro v rv
    exact q d _ v G2 H2 ⟨os1, hP, rfl⟩ ((q1.wk (by simp)).trans q2 fun p m => .inl (keys_sub hp p m)) e2 (ow1.back q2 e2 o2 n2) (fun x m => (new_back hp n2 x m).imp (q1.dom _) id) rv
theorem look_no {m : Str} : ∀ {ns : List Str} {vs : List V}, ¬ m ∈ ns → (ns.zip vs).lookup m = none
  | [], _, _ => rfl
  | n :: r, [], _ => rfl
  | n :: r, v :: s, h => by
    have e' : (m == n) = false := by simpa using fun z : m = n => h (by simp [z])
    show (match m == n with | true => some v | false => (r.zip s).lookup m) = none
    rw [e']
    exact look_no fun z => h (List.mem_cons_of_mem _ z)
theorem em_meth {P : Res → Own → Prop} {C : Addr} {m : Str} {ns : List Str} {fs : List Dt} (hx : Ev K tx ss os x) (l : IV os x C ns fs) (hm : ¬ m ∈ ns) (ha : EvA K ta ss os ds) (hn : ds.length + 1 = n) (hp : os.Perm (osp ++ osr)) (hc : c (x :: ds) osp P) (hE : ∀ C os', P (.er C) os' → False) :
    EvM K (tMeth C m (spC K n c) [] E tx ta) ss os (CallP P osr) := fun σ G H R Q q => hx σ G H R _ fun xv G1 H1 q1 e1 r1 => by
  obtain ⟨a, dx, vs0, rfl, g, rs⟩ := (R.grow q1 e1).ins l r1
  refine ⟨a, dx, _, rfl, g, look_no hm, ha σ G1 H1 (R.grow q1 e1) _ fun vs G2 H2 q2 e2 r2 => ?_⟩
  have q12 := q1.trans q2 (by simp)
  have ow1 := ((R.ow.grow q1 e1).grow q2 e2).perm hp
  refine ⟨by rw [List.append_nil, List.length_cons, r2.length, hn], x :: ds, osp, P, G2, e2, by rw [List.append_nil]; exact .cons (r1.mono q2.ex) r2, ow1.left, hc, ?_⟩
  intro r os1 G3 H3 hP q3 e3 o3 n3
  cases r with
  | er C => exact (hE C os1 hP).elim
  | ok d =>
    intro v rv
    exact q d _ v G3 H3 ⟨os1, hP, rfl⟩ ((q12.wk (by simp)).trans q3 fun p m => .inl (keys_sub hp p m)) e3 (ow1.back q3 e3 o3 n3) (fun x m => (new_back hp n3 x m).imp (q12.dom _) id) rv
/-- a call whose outcome is one value, nothing of one's own handed in -/
theorem ev_methC {C : Addr} {m : Str} {ns : List Str} {fs : List Dt} (hx : Ev K tx ss os x) (l : IV os x C ns fs) (hm : ¬ m ∈ ns) (ha : EvA K ta ss os ds) (hn : ds.length + 1 = n) (hc : c (x :: ds) [] (fun r os' => r = .ok d ∧ os' = [])) :
    Ev K (tMeth C m (spC K n c) [] E tx ta) ss os d := fun σ G H R Q q => hx σ G H R _ fun xv G1 H1 q1 e1 r1 => by
  obtain ⟨a, dx, vs0, rfl, g, rs⟩ := (R.grow q1 e1).ins l r1
  refine ⟨a, dx, _, rfl, g, look_no hm, ha σ G1 H1 (R.grow q1 e1) _ fun vs G2 H2 q2 e2 r2 => ?_⟩
  have q12 := q1.trans q2 (by simp)
  refine ⟨by rw [List.append_nil, List.length_cons, r2.length, hn], x :: ds, [], _, G2, e2, by rw [List.append_nil]; exact .cons (r1.mono q2.ex) r2, ownOk_nil, hc, ?_⟩
  rintro r os' G3 H3 ⟨rfl, rfl⟩ q3 e3 _ _ v rv
  exact q v G3 H3 (q12.trans q3 (by simp)) e3 rv
theorem ev_meth {α : Type} {pre : α → Prop} {args : α → List Dt} {res : α → Res} {C : Addr} {m : Str} {ns : List Str} {fs : List Dt} (y : α) (hx : Ev K tx ss os x) (l : IV os x C ns fs) (hm : ¬ m ∈ ns) (ha : EvA K ta ss os ds) (hy : args y = x :: ds) (hn : ds.length + 1 = n) (hp : pre y) (hr : res y = .ok d) :
    Ev K (tMeth C m (spC K n (pureC pre args res)) [] E tx ta) ss os d := ev_methC hx l hm ha hn ⟨y, hp, hy.symm, rfl, by rw [hr]⟩
/-- C(..) -/
theorem em_make {P : Addr → Res → Own → Prop} {C : Addr} (ha : EvA K ta ss os ds) (hn : ds.length + 1 = n) (hc : ∀ p, c (.adr p :: ds) [(p, .ins C [] [])] (P p)) (hE : ∀ p C os', P p (.er C) os' → False) (hN : ∀ p d os', P p (.ok d) os' → d = .non) :
    EvM K (tMake C (spC K n c) [] E ta) ss os (fun d os' => ∃ p os1, d = .adr p ∧ p ∉ keys os ∧ P p (.ok .non) os1 ∧ os' = os1 ++ os) := fun σ G H R Q q => ha σ G H R _ fun vs G1 H1 q1 e1 r1 => by
  intro x dx nx nd ne
  have R1 := R.grow q1 e1
  have ow1 := R1.ow
  obtain ⟨q2, e2⟩ := gq_own (fp := []) (o := .own x) e1 nd
  have nx2 : (upd H1 dx (.own x)) x = none := by rw [upd_ne ne.symm]; exact nx
  obtain ⟨q3, e3⟩ := gq_own (fp := []) (o := .ins C dx []) e2 nx2
  have ow3 : OwnOk K G1 _ os := ow1.grow (q2.trans q3 (by simp)) e3
  have gx : G1 x = none := Evl.fresh_back e1 nx
  have np : x ∉ keys os := ow1.ne nx
  refine ⟨by rw [List.append_nil, List.length_cons, r1.length, hn], .adr x :: ds, [(x, .ins C [] [])], P x, G1, e3, by rw [List.append_nil]; exact .cons (.adr x) r1, ⟨by simp, fun y m => ?_⟩, hc x, ?_⟩
  · have e : y = (x, .ins C [] []) := by simpa using m
    subst e
    exact ⟨gx, dx, [], rfl, upd_same, .nil⟩
  · intro r os1 G4 H4 hP q4 e4 o4 n4
    cases r with
    | er C => exact (hE x C os1 hP).elim
    | ok d =>
      have ed := hN x d os1 hP
      subst ed
      intro v rv
      cases rv
      have owA : OwnOk K G1 (upd (upd H1 dx (.own x)) x (.ins C dx [])) ([(x, .ins C [] [])] ++ os) := by
        refine ⟨?_, fun y m => ?_⟩
        · rw [keys, List.map_append]
          exact List.nodup_append.mpr ⟨by simp, ow1.nd, fun a ha b hb z => by
            have : a = x := by simpa using ha
            exact np (this ▸ z ▸ hb)⟩
        · rcases List.mem_append.mp m with m | m
          · have e : y = (x, .ins C [] []) := by simpa using m
            subst e
            exact ⟨gx, dx, [], rfl, upd_same, .nil⟩
          · exact ow3.at_ y m
      refine ⟨rfl, q (.adr x) (os1 ++ os) _ G4 H4 ⟨x, os1, rfl, np, hP, rfl⟩ ?_ e4 (owA.back q4 e4 o4 n4) ?_ (.adr x)⟩
      · refine (((q1.trans q2 (by simp)).trans q3 (by simp)).wk (by simp)).trans q4 fun p m => ?_
        have : p = x := by simpa using m
        exact .inr (q1.dom _ (by rw [this]; exact nx))
      · intro y m
        rcases List.mem_append.mp m with m | m
        · rcases n4 y m with z | z
          · left
            exact q1.dom _ (by
              have a2 := q3.dom _ z
              exact q2.dom _ a2)
          · have : y.1 = x := by simpa using z
            exact .inl (q1.dom _ (by rw [this]; exact nx))
        · exact .inr (mem_keys m)
end

/-! ### statements -/
structure Bs where
  fp : List Addr
  G0 : Hp
  H0 : Hp
structure BsOk (B : Bs) (os : Own) (G H : Hp) : Prop where
  gq : Gq B.fp B.G0 B.H0 G H
  nw : ∀ x ∈ os, B.H0 x.1 = none ∨ x.1 ∈ B.fp
def Do (K : Fg) (B : Bs) (t : TS) (ss : SS) (os : Own) (D : Ends) : Prop := ∀ σ G H, BsOk B os G H → Rep K ss os σ G H → t D σ H
def Nx (K : Fg) (B : Bs) (P : St → Hp → Prop) (ss : SS) (os : Own) : Prop := ∀ σ G H, BsOk B os G H → Rep K ss os σ G H → P σ H
def Rt (K : Fg) (B : Bs) (Q : VK) (d : Dt) (os : Own) : Prop := ∀ v G H, BsOk B os G H → Ex G H → OwnOk K G H os → Rp K G v d → Q v H
def Xt (K : Fg) (B : Bs) (E : XK) (C : Addr) (os : Own) : Prop := ∀ G H, BsOk B os G H → Ex G H → OwnOk K G H os → E (.ref C) none H
/-- a word of the state -/
def At (K : Fg) (B : Bs) (I : SS → Own → Prop) : St → Hp → Prop := fun σ H => ∃ ss os G, I ss os ∧ BsOk B os G H ∧ Rep K ss os σ G H
section
variable {K : Fg} {B : Bs} {t u : TS} {ss ss' : SS} {os os' : Own} {D : Ends} {te ta tb : TE} {tt : TT} {d x : Dt} {ds : List Dt} {G H G' H' : Hp}
theorem BsOk.grow (h : BsOk B os G H) (q : Gq [] G H G' H') : BsOk B os G' H' := ⟨h.gq.trans q (by simp), h.nw⟩
theorem BsOk.growM (h : BsOk B os G H) (q : Gq (keys os) G H G' H') (n : ∀ x ∈ os', H x.1 = none ∨ x.1 ∈ keys os) : BsOk B os' G' H' := by
  have hk : ∀ p ∈ keys os, p ∈ B.fp ∨ B.H0 p = none := fun p m => by
    obtain ⟨x, hx, e⟩ := List.mem_map.mp m
    rcases h.nw x hx with z | z
    · exact .inr (e ▸ z)
    · exact .inl (e ▸ z)
  refine ⟨h.gq.trans q hk, fun x m => ?_⟩
  rcases n x m with z | z
  · exact .inl (h.gq.dom _ z)
  · exact (hk _ z).symm
theorem nx_at {I : SS → Own → Prop} (h : I ss os) : Nx K B (At K B I) ss os := fun σ G H b r => ⟨ss, os, G, h, b, r⟩
theorem do_seq (h : Do K B t ss os { D with nx := u D }) : Do K B (tSeq t u) ss os D := h
theorem do_nx (h : Nx K B D.nx ss os) : Do K B tNext ss os D := h
theorem do_bk (h : Nx K B D.bk ss os) : Do K B tBreak ss os D := h
theorem do_ct (h : Nx K B D.ct ss os) : Do K B tCont ss os D := h
theorem do_never (h : False) : Do K B t ss os D := h.elim
/-- a word between two statements -/
theorem do_cut (I : SS → Own → Prop) (h : Do K B t ss os { D with nx := At K B I }) (k : ∀ ss os, I ss os → Do K B u ss os D) : Do K B (Evl.tCut t u) ss os D := fun σ G H b r =>
  ⟨At K B I, h σ G H b r, fun σ' H' ⟨ss', os', G', hi, b', r'⟩ => k ss' os' hi σ' G' H' b' r'⟩
theorem do_asgM {i : Nat} {P : Dt → Own → Prop} (h : EvM K te ss os P) (k : ∀ d os', P d os' → Nx K B D.nx (ss.set i (some d)) os') : Do K B (tAsg te (gName i)) ss os D := fun σ G H b r =>
  h σ G H r _ fun d os' v G1 H1 hP q1 e1 o1 n1 r1 => k d os' hP _ G1 H1 (b.growM q1 n1) ⟨e1, (r.sl.mono q1.ex).set i r1, o1⟩
theorem do_asg {i : Nat} (h : Ev K te ss os d) (k : Nx K B D.nx (ss.set i (some d)) os) : Do K B (tAsg te (gName i)) ss os D := fun σ G H b r =>
  h σ G H r _ fun v G1 H1 q1 e1 r1 => k _ G1 H1 (b.grow q1) ⟨e1, (r.sl.mono q1.ex).set i r1, r.ow.grow q1 e1⟩
theorem do_retM {P : Dt → Own → Prop} (h : EvM K te ss os P) (k : ∀ d os', P d os' → Rt K B D.rt d os') : Do K B (tRet te) ss os D := fun σ G H b r =>
  h σ G H r _ fun d os' v G1 H1 hP q1 e1 o1 n1 r1 => k d os' hP v G1 H1 (b.growM q1 n1) e1 o1 r1
theorem do_ret (h : Ev K te ss os d) (k : Rt K B D.rt d os) : Do K B (tRet te) ss os D := fun σ G H b r =>
  h σ G H r _ fun v G1 H1 q1 e1 r1 => k v G1 H1 (b.grow q1) e1 (r.ow.grow q1 e1) r1
theorem do_retN (k : Rt K B D.rt .non os) : Do K B tRetN ss os D := fun σ G H b r => k _ G H b r.gh r.ow .non
theorem do_dropM {P : Dt → Own → Prop} (h : EvM K te ss os P) (k : ∀ d os', P d os' → Nx K B D.nx ss os') : Do K B (tDrop te) ss os D := fun σ G H b r =>
  h σ G H r _ fun d os' v G1 H1 hP q1 e1 o1 n1 r1 => k d os' hP _ G1 H1 (b.growM q1 n1) ⟨e1, r.sl.mono q1.ex, o1⟩
theorem do_drop (h : Ev K te ss os d) (k : Nx K B D.nx ss os) : Do K B (tDrop te) ss os D := fun σ G H b r =>
  h σ G H r _ fun v G1 H1 q1 e1 r1 => k _ G1 H1 (b.grow q1) (r.grow q1 e1)
theorem do_if {b : Bool} (h : EvT K tt ss os b) (h1 : b = true → Do K B t ss os D) (h2 : b = false → Do K B u ss os D) : Do K B (tIfS tt t u) ss os D := fun σ G H bb r =>
  h σ G H r _ fun G1 H1 q1 e1 => by
    cases b with
    | true => exact h1 rfl σ G1 H1 (bb.grow q1) (r.grow q1 e1)
    | false => exact h2 rfl σ G1 H1 (bb.grow q1) (r.grow q1 e1)
/-- xs.append(e) upon a list of one's own -/
theorem do_app {p : Addr} (ha : Ev K ta ss os (.adr p)) (m : (p, Cel.lst ds) ∈ os) (h : Ev K te ss os d) (hz : ds.length < 1000000) (k : Nx K B D.nx ss (setC os p (.lst (ds ++ [d])))) : Do K B (tDrop (tBM K "list" rAppend ta (tCons te tNil))) ss os D := fun σ G H b r =>
  ha σ G H r _ fun v G1 H1 q1 e1 r1 => by
    cases r1
    have R1 := r.grow q1 e1
    obtain ⟨_, vs0, h0, _⟩ := R1.ow.at_ _ m
    refine ⟨Or.inl ⟨rfl, vs0, .of h0⟩, h σ G1 H1 R1 _ fun w G2 H2 q2 e2 r2 => ?_⟩
    have R2 := R1.grow q2 e2
    obtain ⟨gp, vs, h1, rv⟩ := R2.ow.at_ _ m
    refine ⟨p, vs, w, rfl, rfl, h1, by rw [rv.length]; exact szl hz, ?_⟩
    obtain ⟨q3, e3⟩ := gq_put (fp := keys os) (o := .lst (vs ++ [w])) R2.gh gp h1 (mem_keys m)
    refine k σ G2 _ (((b.grow q1).grow q2).growM q3 fun x mx => ?_) ⟨e3, R2.sl, R2.ow.put ⟨_, upd_same, rv.append (.one r2)⟩⟩
    right
    have : x.1 ∈ keys (setC os p (.lst (ds ++ [d]))) := mem_keys mx
    rw [keys_setC] at this
    exact this
theorem ixN_at {n j : Nat} {i : Int} (h0 : 0 ≤ i) (h : i < n) : ixN n i = some i.toNat := by
  unfold ixN
  rw [if_pos h0, if_pos h]
/-- xs[i] = e upon a list of one's own -/
theorem do_setL {p : Addr} {i : Int} (h : Ev K te ss os d) (ha : Ev K ta ss os (.adr p)) (m : (p, Cel.lst ds) ∈ os) (hb : Ev K tb ss os (.int i)) (h0 : 0 ≤ i) (hi : i < ds.length) (k : Nx K B D.nx ss (setC os p (.lst (ds.set i.toNat d)))) :
    Do K B (tAsg te (gSub ta tb rSetL)) ss os D := fun σ G H b r =>
  h σ G H r _ fun w G1 H1 q1 e1 r1 => ha σ G1 H1 (r.grow q1 e1) _ fun v G2 H2 q2 e2 r2 => hb σ G2 H2 ((r.grow q1 e1).grow q2 e2) _ fun z G3 H3 q3 e3 r3 => by
    cases r2; cases r3
    have R3 := ((r.grow q1 e1).grow q2 e2).grow q3 e3
    obtain ⟨gp, vs, h1, rv⟩ := R3.ow.at_ _ m
    refine ⟨p, vs, i, i.toNat, rfl, rfl, h1, ?_, ?_⟩
    · rw [rv.length]; exact ixN_at (j := 0) h0 hi
    obtain ⟨q4, e4⟩ := gq_put (fp := keys os) (o := .lst (vs.set i.toNat w)) R3.gh gp h1 (mem_keys m)
    refine k σ G3 _ ((((b.grow q1).grow q2).grow q3).growM q4 fun x mx => ?_) ⟨e4, R3.sl, R3.ow.put ⟨_, upd_same, rv.set ((r1.mono q2.ex).mono q3.ex) _⟩⟩
    right
    have : x.1 ∈ keys (setC os p (.lst (ds.set i.toNat d))) := mem_keys mx
    rw [keys_setC] at this
    exact this
theorem putF_zip {f : Str} {v : V} : ∀ {ns : List Str} {vs : List V}, vs.length = ns.length → ¬ f ∈ ns → putF f v (ns.zip vs) = (ns ++ [f]).zip (vs ++ [v])
  | [], [], _, _ => rfl
  | [], _ :: _, h, _ => by cases h
  | n :: r, [], h, _ => by cases h
  | n :: r, w :: s, h, hf => by
    show (if n = f then _ else (n, w) :: putF f v (r.zip s)) = (n, w) :: ((r ++ [f]).zip (s ++ [v]))
    rw [if_neg (fun z => hf (by simp [z])), putF_zip (by simpa using h) (fun z => hf (List.mem_cons_of_mem _ z))]
theorem Rps.len {vs : List V} (h : Rps K G vs ds) : ds.length = vs.length := h.length.symm
/-- self.f = e, a new field of an instance of one's own -/
theorem do_fld {p C : Addr} {f : Str} {ns : List Str} (c : Cls K C) (na : NoAttr K C f) (h : Ev K te ss os d) (ha : Ev K ta ss os (.adr p)) (m : (p, Cel.ins C ns ds) ∈ os) (hf : ¬ f ∈ ns) (hz : ns.length < 1000) (k : Nx K B D.nx ss (setC os p (.ins C (ns ++ [f]) (ds ++ [d])))) :
    Do K B (sFld K ta te f) ss os D := fun σ G H b r =>
  h σ G H r _ fun w G1 H1 q1 e1 r1 => ha σ G1 H1 (r.grow q1 e1) _ fun v G2 H2 q2 e2 r2 => by
    cases r2
    have R2 := (r.grow q1 e1).grow q2 e2
    obtain ⟨gp, dx, vs, l, h1, rv⟩ := R2.ow.at_ _ m
    refine ⟨p, C, dx, _, rfl, h1, c, na, by rw [List.length_zip, l, Nat.min_self]; exact hz, ?_⟩
    obtain ⟨q3, e3⟩ := gq_put (fp := keys os) (o := .ins C dx (putF f w (ns.zip vs))) R2.gh gp h1 (mem_keys m)
    refine k σ G2 _ (((b.grow q1).grow q2).growM q3 fun x mx => ?_) ⟨e3, R2.sl, R2.ow.put ⟨dx, vs ++ [w], by simp [l], ?_, rv.append (.one (r1.mono q2.ex))⟩⟩
    · right
      have : x.1 ∈ keys (setC os p (.ins C (ns ++ [f]) (ds ++ [d]))) := mem_keys mx
      rw [keys_setC] at this
      exact this
    · rw [upd_same, putF_zip l hf]
/-- as a field, an evaluation that makes cells of one's own -/
theorem do_fldM {p C : Addr} {f : Str} {P : Dt → Own → Prop} (c : Cls K C) (na : NoAttr K C f) (h : EvM K te ss os P) (hp : ss[0]? = some (some (.adr p)))
    (k : ∀ d os', P d os' → ∃ ns ds, (p, Cel.ins C ns ds) ∈ os' ∧ ¬ f ∈ ns ∧ ns.length < 1000 ∧ Nx K B D.nx ss (setC os' p (.ins C (ns ++ [f]) (ds ++ [d])))) :
    Do K B (sFld K (tVar 0) te f) ss os D := fun σ G H b r =>
  h σ G H r _ fun d os' w G1 H1 hP q1 e1 o1 n1 r1 => by
    obtain ⟨ns, ds, m, hf, hz, k⟩ := k d os' hP
    have R1 : Rep K ss os' σ G1 H1 := ⟨e1, r.sl.mono q1.ex, o1⟩
    obtain ⟨v, hv, rv⟩ := R1.sl.2 0 _ hp
    refine ⟨v, hv, ?_⟩
    cases rv
    obtain ⟨gp, dx, vs, l, h1, rv⟩ := R1.ow.at_ _ m
    refine ⟨p, C, dx, _, rfl, h1, c, na, by rw [List.length_zip, l, Nat.min_self]; exact hz, ?_⟩
    obtain ⟨q3, e3⟩ := gq_put (fp := keys os') (o := .ins C dx (putF f w (ns.zip vs))) R1.gh gp h1 (mem_keys m)
    refine k σ G1 _ ((b.growM q1 n1).growM q3 fun x mx => ?_) ⟨e3, R1.sl, R1.ow.put ⟨dx, vs ++ [w], by simp [l], ?_, rv.append (.one r1)⟩⟩
    · right
      have : x.1 ∈ keys (setC os' p (.ins C (ns ++ [f]) (ds ++ [d]))) := mem_keys mx
      rw [keys_setC] at this
      exact this
    · rw [upd_same, putF_zip l hf]
/-! ### freezing -/
mutual
inductive Fz (p : Addr) (d : Dt) : Dt → Dt → Prop
  | same (x : Dt) : Fz p d x x
  | here : Fz p d (.adr p) d
  | lst {xs ys : List Dt} : Fzs p d xs ys → Fz p d (.lst xs) (.lst ys)
  | tup {xs ys : List Dt} : Fzs p d xs ys → Fz p d (.tup xs) (.tup ys)
  | ins {C : Addr} {ns : List Str} {xs ys : List Dt} : Fzs p d xs ys → Fz p d (.ins C ns xs) (.ins C ns ys)
inductive Fzs (p : Addr) (d : Dt) : List Dt → List Dt → Prop
  | nil : Fzs p d [] []
  | cons {x y : Dt} {xs ys : List Dt} : Fz p d x y → Fzs p d xs ys → Fzs p d (x :: xs) (y :: ys)
end
mutual
theorem Rp.frz {p : Addr} (e : Ex G G') (hd : Rp K G' (.ref p) d) : ∀ {x y : Dt} {v : V}, Fz p d x y → Rp K G v x → Rp K G' v y
  | _, _, _, .same _, h => h.mono e
  | _, _, _, .here, h => by cases h; exact hd
  | _, _, _, .lst f, h => by
    cases h with
    | lst h1 h2 => exact .lst (e _ _ h1) (Rps.frz e hd f h2)
  | _, _, _, .tup f, h => by
    cases h with
    | tup h1 h2 => exact .tup (e _ _ h1) (Rps.frz e hd f h2)
  | _, _, _, .ins f, h => by
    cases h with
    | ins h1 h2 => exact .ins (e _ _ h1) (Rps.frz e hd f h2)
theorem Rps.frz {p : Addr} (e : Ex G G') (hd : Rp K G' (.ref p) d) : ∀ {x y : List Dt} {v : List V}, Fzs p d x y → Rps K G v x → Rps K G' v y
  | _, _, _, .nil, h => by cases h; exact .nil
  | _, _, _, .cons f r, h => by
    cases h with
    | cons h1 h2 => exact .cons (Rp.frz e hd f h1) (Rps.frz e hd r h2)
end
inductive FzS (p : Addr) (d : Dt) : SS → SS → Prop
  | nil : FzS p d [] []
  | cons {x y : Dt} {xs ys : SS} : Fz p d x y → FzS p d xs ys → FzS p d (some x :: xs) (some y :: ys)
  | skip {x : Option Dt} {xs ys : SS} : FzS p d xs ys → FzS p d (x :: xs) (none :: ys)
inductive FzC (p : Addr) (d : Dt) : Cel → Cel → Prop
  | same (c : Cel) : FzC p d c c
  | lst {xs ys : List Dt} : Fzs p d xs ys → FzC p d (.lst xs) (.lst ys)
  | ins {C : Addr} {ns : List Str} {xs ys : List Dt} : Fzs p d xs ys → FzC p d (.ins C ns xs) (.ins C ns ys)
inductive FzO (p : Addr) (d : Dt) : Own → Own → Prop
  | nil : FzO p d [] []
  | cons {a : Addr} {c c' : Cel} {xs ys : Own} : FzC p d c c' → FzO p d xs ys → FzO p d ((a, c) :: xs) ((a, c') :: ys)
theorem FzS.slots {p : Addr} (e : Ex G G') (hd : Rp K G' (.ref p) d) : ∀ {σ : St} {ss ss' : SS}, FzS p d ss ss' → Slots K G σ ss → Slots K G' σ ss'
  | σ, _, _, .nil, h => ⟨h.1, fun i d q => by simp at q⟩
  | [], _, _, .cons f r, h => by have := h.1; simp at this
  | [], _, _, .skip r, h => by have := h.1; simp at this
  | w :: σ, _, _, .cons f r, h => by
    have ih := FzS.slots (σ := σ) e hd r ⟨by have := h.1; simpa using this, fun i d q => by simpa using h.2 (i + 1) d (by simpa using q)⟩
    refine ⟨by have := ih.1; simp [this], fun i d q => ?_⟩
    cases i with
    | zero =>
      obtain ⟨v, h1, h2⟩ := h.2 0 _ rfl
      simp at q
      subst q
      exact ⟨v, h1, Rp.frz e hd f h2⟩
    | succ i =>
      obtain ⟨v, h1, h2⟩ := ih.2 i d (by simpa using q)
      exact ⟨v, by simpa using h1, h2⟩
  | w :: σ, _, _, .skip r, h => by
    have ih := FzS.slots (σ := σ) e hd r ⟨by have := h.1; simpa using this, fun i d q => by simpa using h.2 (i + 1) d (by simpa using q)⟩
    refine ⟨by have := ih.1; simp [this], fun i d q => ?_⟩
    cases i with
    | zero => simp at q
    | succ i =>
      obtain ⟨v, h1, h2⟩ := ih.2 i d (by simpa using q)
      exact ⟨v, by simpa using h1, h2⟩
theorem FzO.keys {p : Addr} : ∀ {xs ys : Own}, FzO p d xs ys → keys ys = keys xs
  | _, _, .nil => rfl
  | _, _, .cons _ r => by simp [Cy.keys, r.keys]
theorem FzO.at_ {p : Addr} : ∀ {xs ys : Own}, FzO p d xs ys → ∀ y ∈ ys, ∃ x ∈ xs, x.1 = y.1 ∧ FzC p d x.2 y.2
  | _, _, .nil, y, m => by simp at m
  | _, _, .cons (a := a) (c := c) f r, y, m => by
    rcases List.mem_cons.mp m with rfl | m
    · exact ⟨_, List.mem_cons_self, rfl, f⟩
    · obtain ⟨x, hx, e⟩ := r.at_ y m
      exact ⟨x, List.mem_cons_of_mem _ hx, e⟩
/-- what a cell is as data -/
def Cel.dt : Cel → Dt
  | .lst ds => .lst ds
  | .ins C ns ds => .ins C ns ds
  | .dT _ => .non
  | .dN P w o kbs f => .dct P w o kbs f
theorem frz_rep {p : Addr} {c : Cel} {os0 osr : Own} {σ : St} (r : Rep K ss os σ G H) (hp : os.Perm ((p, c) :: os0)) (hc : ∀ kvs, c ≠ .dT kvs) (hs : FzS p c.dt ss ss') (ho : FzO p c.dt os0 osr) (hn : H p ≠ none → True := fun _ => trivial) :
    ∃ G', Ex G G' ∧ (∀ a o, G' a = some o → G a = some o ∨ a = p) ∧ Rep K ss' osr σ G' H := by
  have ow := r.ow.perm hp
  obtain ⟨gp, cp⟩ := ow.at_ (p, c) List.mem_cons_self
  obtain ⟨o, hpo⟩ := cp.some
  have ex : Ex G (upd G p o) := Ex.new gp
  have hd : Rp K (upd G p o) (.ref p) c.dt := by
    cases c with
    | lst ds =>
      obtain ⟨vs, h1, h2⟩ := cp
      have h1 : H p = some (.lst vs) := h1
      rw [hpo] at h1
      cases h1
      exact .lst upd_same (h2.mono ex)
    | ins C ns ds =>
      obtain ⟨dx, vs, l, h1, h2⟩ := cp
      have h1 : H p = some (.ins C dx (ns.zip vs)) := h1
      rw [hpo] at h1
      cases h1
      exact .ins upd_same (h2.mono ex)
    | dT kvs => exact (hc kvs rfl).elim
    | dN P w o' kbs f =>
      obtain ⟨h1, n, k⟩ := cp
      have h1 : H p = some (exH p o') := h1
      rw [hpo] at h1
      cases h1
      exact .dct upd_same n (k.mono fun a xs => ex a _)
  have nd := ow.nd
  have nd2 : p ∉ keys os0 ∧ (keys os0).Nodup := by
    have : (p :: keys os0).Nodup := nd
    exact List.nodup_cons.mp this
  refine ⟨upd G p o, ex, fun a u h => ?_, ⟨fun a u h => ?_, hs.slots ex hd r.sl, ⟨by rw [ho.keys]; exact nd2.2, fun y m => ?_⟩⟩⟩
  · by_cases ha : a = p
    · exact .inr ha
    · rw [upd_ne ha] at h; exact .inl h
  · by_cases ha : a = p
    · subst ha; rw [upd_same] at h; rw [hpo]; exact h
    · rw [upd_ne ha] at h; exact r.gh _ _ h
  · obtain ⟨x, hx, e1, f⟩ := ho.at_ y m
    obtain ⟨g1, c1⟩ := ow.at_ x (List.mem_cons_of_mem _ hx)
    have ne : x.1 ≠ p := fun z => nd2.1 (z ▸ mem_keys hx)
    refine ⟨by rw [← e1, upd_ne ne]; exact g1, ?_⟩
    rw [← e1]
    generalize x.2 = c0 at f c1
    generalize y.2 = c2 at f
    cases f with
    | same => exact c1.mono ex rfl
    | lst f =>
      obtain ⟨vs, h1, h2⟩ := c1
      exact ⟨vs, h1, Rps.frz ex hd f h2⟩
    | ins f =>
      obtain ⟨dx, vs, l, h1, h2⟩ := c1
      exact ⟨dx, vs, l, h1, Rps.frz ex hd f h2⟩
/-- a cell of one's own is one's own no more: it stays as it is -/
theorem do_frz {p : Addr} {c : Cel} {os0 osr : Own} (hp : os.Perm ((p, c) :: os0)) (hc : ∀ kvs, c ≠ .dT kvs) (hn : p ∉ B.fp) (hs : FzS p c.dt ss ss') (ho : FzO p c.dt os0 osr) (k : Do K B t ss' osr D) : Do K B t ss os D := fun σ G H b r => by
  obtain ⟨G', ex, nw, r'⟩ := frz_rep r hp hc hs ho
  have hpn : B.H0 p = none := by
    rcases b.nw (p, c) (hp.mem_iff.mpr List.mem_cons_self) with z | z
    · exact z
    · exact (hn z).elim
  refine k σ G' H ⟨⟨b.gq.ex.trans ex, fun a o h => ?_, b.gq.keep, b.gq.dom⟩, fun x m => ?_⟩ r'
  · rcases nw a o h with z | z
    · exact b.gq.new a o z
    · exact .inr (.inl (z ▸ hpn))
  · have : x.1 ∈ keys osr := mem_keys m
    rw [ho.keys] at this
    obtain ⟨y, hy, e⟩ := List.mem_map.mp this
    have := b.nw y (hp.mem_iff.mpr (List.mem_cons_of_mem _ hy))
    rw [e] at this
    exact this
theorem nx_frz {p : Addr} {c : Cel} {os0 osr : Own} {Z : St → Hp → Prop} (hp : os.Perm ((p, c) :: os0)) (hc : ∀ kvs, c ≠ .dT kvs) (hn : p ∉ B.fp) (hs : FzS p c.dt ss ss') (ho : FzO p c.dt os0 osr) (k : Nx K B Z ss' osr) : Nx K B Z ss os :=
  do_frz (t := fun _ => Z) (D := ⟨Z, fun _ _ => True, Z, Z⟩) hp hc hn hs ho k
/-- some slots, some cells forgotten -/
inductive Le : SS → SS → Prop
  | nil : Le [] []
  | cons (x : Option Dt) {xs ys : SS} : Le xs ys → Le (x :: xs) (x :: ys)
  | skip {x : Option Dt} {xs ys : SS} : Le xs ys → Le (x :: xs) (none :: ys)
theorem Le.refl : ∀ ss : SS, Le ss ss
  | [] => .nil
  | x :: r => .cons x (Le.refl r)
theorem Le.slots : ∀ {σ : St} {ss ss' : SS}, Le ss ss' → Slots K G σ ss → Slots K G σ ss'
  | σ, _, _, .nil, h => h
  | [], _, _, .cons x r, h => by have := h.1; simp at this
  | [], _, _, .skip r, h => by have := h.1; simp at this
  | w :: σ, _, _, .cons x r, h => by
    have ih := Le.slots (σ := σ) r ⟨by have := h.1; simpa using this, fun i d q => by simpa using h.2 (i + 1) d (by simpa using q)⟩
    refine ⟨by have := ih.1; simp [this], fun i d q => ?_⟩
    cases i with
    | zero => exact h.2 0 d q
    | succ i =>
      obtain ⟨v, h1, h2⟩ := ih.2 i d (by simpa using q)
      exact ⟨v, by simpa using h1, h2⟩
  | w :: σ, _, _, .skip r, h => by
    have ih := Le.slots (σ := σ) r ⟨by have := h.1; simpa using this, fun i d q => by simpa using h.2 (i + 1) d (by simpa using q)⟩
    refine ⟨by have := ih.1; simp [this], fun i d q => ?_⟩
    cases i with
    | zero => simp at q
    | succ i =>
      obtain ⟨v, h1, h2⟩ := ih.2 i d (by simpa using q)
      exact ⟨v, by simpa using h1, h2⟩
theorem do_weak (hs : Le ss ss') (ho : List.Sublist os' os) (k : Do K B t ss' os' D) : Do K B t ss os D := fun σ G H b r =>
  k σ G H ⟨b.gq, fun x m => b.nw x (ho.subset m)⟩ ⟨r.gh, hs.slots r.sl, ⟨(ho.map (·.1)).nodup r.ow.nd, fun x m => r.ow.at_ x (ho.subset m)⟩⟩
/-- one's own in another order -/
theorem do_perm (ho : os.Perm os') (k : Do K B t ss os' D) : Do K B t ss os D := fun σ G H b r =>
  k σ G H ⟨b.gq, fun x m => b.nw x (ho.mem_iff.mpr m)⟩ ⟨r.gh, r.sl, r.ow.perm ho⟩
/-! ### loops -/
theorem do_forR {ta : TA} {j : Nat} {n : Int} (h : EvA K ta ss os [.int n]) (hn : n ≤ 100000) (h0 : -100000 ≤ n) (I : Nat → SS → Own → Prop) (hi : I 0 ss os)
    (hs : ∀ (i : Nat) ss' os', (i : Int) < n → I i ss' os' → Do K B t (ss'.set j (some (.int (i : Int)))) os' { D with nx := At K B (I (i + 1)), ct := At K B (I (i + 1)), bk := D.nx })
    (hd : ∀ ss' os', I n.toNat ss' os' → Nx K B D.nx ss' os') : Do K B (tFor (iRng1 ta) (gName j) t) ss os D := fun σ G H b r =>
  h σ G H r _ fun vs G1 H1 q1 e1 r1 => by
    cases r1 with
    | cons r1 r2 =>
      cases r1; cases r2
      refine ⟨n, rfl, by omega, by omega, for_range (lo := 0) (n := n.toNat) (fun i => At K B (I i)) ⟨ss, os, G1, hi, b.grow q1, r.grow q1 e1⟩ (fun i σ' H' hl p => ?_) (fun σ' H' p => ?_)⟩
      · obtain ⟨ss', os', G', p, b', r'⟩ := p
        have e0 : (0 : Int) + (i : Int) = (i : Int) := Int.zero_add _
        show t _ (σ'.set j (some (.int ((0 : Int) + (i : Int))))) H'
        rw [e0]
        exact hs i ss' os' (by omega) p _ G' H' b' ⟨r'.gh, r'.sl.set j (.int _), r'.ow⟩
      · obtain ⟨ss', os', G', p, b', r'⟩ := p
        exact hd ss' os' p σ' G' H' b' r'
/-- what a target takes: from the item and the slots to the slots -/
def Tg (K : Fg) (g : TG) (d : Dt) (ss ss' : SS) : Prop := ∀ v σ G H (Q : St → Hp → Prop), Ex G H → Slots K G σ ss → Rp K G v d → (∀ σ', Slots K G σ' ss' → Q σ' H) → g v σ H Q
theorem tg_name {j : Nat} : Tg K (gName j) d ss (ss.set j (some d)) := fun v σ G H Q e s r q => q _ (s.set j r)
theorem tg_tup2 {i j : Nat} {a b : Dt} : Tg K (gTup K 2 (gCons (gName i) (gCons (gName j) gNil))) (.tup [a, b]) ss ((ss.set i (some a)).set j (some b)) := fun v σ G H Q e s r q => by
  cases r with
  | tup h1 h2 =>
    cases h2 with
    | cons ra r2 =>
      cases r2 with
      | cons rb r3 =>
        cases r3
        exact ⟨_, _, rfl, .of (e _ _ h1), rfl, _, _, rfl, _, _, rfl, rfl, q _ ((s.set i ra).set j rb)⟩
theorem tg_tup3 {i j k : Nat} {a b c : Dt} : Tg K (gTup K 3 (gCons (gName i) (gCons (gName j) (gCons (gName k) gNil)))) (.tup [a, b, c]) ss (((ss.set i (some a)).set j (some b)).set k (some c)) := fun v σ G H Q e s r q => by
  cases r with
  | tup h1 h2 =>
    cases h2 with
    | cons ra r2 =>
      cases r2 with
      | cons rb r3 =>
        cases r3 with
        | cons rc r4 =>
          cases r4
          exact ⟨_, _, rfl, .of (e _ _ h1), rfl, _, _, rfl, _, _, rfl, _, _, rfl, rfl, q _ (((s.set i ra).set j rb).set k rc)⟩
/-- a base further on -/
structure Bs.Le (B B' : Bs) : Prop where
  fp : B'.fp = B.fp
  ok : ∀ {os G H}, BsOk B' os G H → BsOk B os G H
theorem Bs.Le.refl (B : Bs) : B.Le B := ⟨rfl, fun h => h⟩
theorem Bs.Le.trans {B B1 B2 : Bs} (a : B.Le B1) (b : B1.Le B2) : B.Le B2 := ⟨b.fp.trans a.fp, fun h => a.ok (b.ok h)⟩
/-- the ends of a def: what it hands back, what it raises -/
def Rts (K : Fg) (B : Bs) (Q : VK) (P : Res → Own → Prop) : Prop := ∀ B', B.Le B' → ∀ d os, P (.ok d) os → Rt K B' Q d os
def Xts (K : Fg) (B : Bs) (E : XK) (P : Res → Own → Prop) : Prop := ∀ B', B.Le B' → ∀ C os, P (.er C) os → Xt K B' E C os
theorem Rts.up {B1 : Bs} {Q : VK} {P : Res → Own → Prop} (h : Rts K B Q P) (l : B.Le B1) : Rts K B1 Q P := fun B' l' => h B' (l.trans l')
theorem Xts.up {B1 : Bs} {E : XK} {P : Res → Own → Prop} (h : Xts K B E P) (l : B.Le B1) : Xts K B1 E P := fun B' l' => h B' (l.trans l')
theorem Rts.rt {Q : VK} {P : Res → Own → Prop} (h : Rts K B Q P) (hp : P (.ok d) os) : Rt K B Q d os := h B (Bs.Le.refl B) d os hp
theorem Xts.xt {E : XK} {C : Addr} {P : Res → Own → Prop} (h : Xts K B E P) (hp : P (.er C) os) : Xt K B E C os := h B (Bs.Le.refl B) C os hp
theorem BsOk.later {B : Bs} {G1 : Hp} {os1 : Own} {H1 : Hp} (b1 : BsOk B os1 G1 H1) : B.Le ⟨B.fp, G1, B.H0⟩ := ⟨rfl, fun {os G H} h => ⟨⟨b1.gq.ex.trans h.gq.ex, fun a o e => by
  rcases h.gq.new a o e with q | q
  · exact b1.gq.new a o q
  · exact .inr q, h.gq.keep, h.gq.dom⟩, h.nw⟩⟩
theorem BsOk.lift {B : Bs} {G1 : Hp} (b : BsOk B os G H) (e : Ex G1 G) (e0 : Ex B.G0 G1) : BsOk ⟨B.fp, G1, B.H0⟩ os G H := ⟨⟨e, fun a o h => by
  rcases b.gq.new a o h with q | q
  · exact .inl (e0 _ _ q)
  · exact .inr q, b.gq.keep, b.gq.dom⟩, b.nw⟩
/-- over a list that stays -/
theorem do_forL {tl : TE} {g : TG} (h : Ev K tl ss os (.lst ds)) (I : Nat → SS → Own → Prop) (hi : I 0 ss os)
    (hs : ∀ B1, B.Le B1 → ∀ (i : Nat) (d : Dt) ss' os', ds[i]? = some d → I i ss' os' → ∃ ss2, Tg K g d ss' ss2 ∧ Do K B1 t ss2 os' { D with nx := At K B1 (I (i + 1)), ct := At K B1 (I (i + 1)), bk := D.nx })
    (hd : ∀ ss' os', I ds.length ss' os' → Nx K B D.nx ss' os') : Do K B (tFor (iList K tl) g t) ss os D := fun σ G H b r =>
  h σ G H r _ fun v G1 H1 q1 e1 r1 => by
    have b1 := b.grow q1
    have le := b1.later
    cases r1 with
    | lst g1 rs =>
      rename_i a vs
      refine ⟨a, rfl, ⟨vs, .of (e1 _ _ g1)⟩, for_list (xs := vs) (fun i => At K ⟨B.fp, G1, B.H0⟩ (I i)) ⟨ss, os, G1, hi, b1.lift (Ex.refl _) b1.gq.ex, r.grow q1 e1⟩ (fun i σ' H' _ p => ?_) (fun i x σ' H' hx p => ?_) (fun σ' H' p => ?_)⟩
      · obtain ⟨ss', os', G', p, b', r'⟩ := p
        exact .of (r'.gh _ _ (b'.gq.ex _ _ g1))
      · obtain ⟨ss', os', G', p, b', r'⟩ := p
        obtain ⟨d, hd1, rd⟩ := rs.get' hx
        obtain ⟨ss2, tg, dd⟩ := hs _ le i d ss' os' hd1 p
        exact tg x σ' G' H' _ r'.gh r'.sl (rd.mono b'.gq.ex) fun σ2 s2 => dd σ2 G' H' b' ⟨r'.gh, s2, r'.ow⟩
      · obtain ⟨ss', os', G', p, b', r'⟩ := p
        rw [rs.length] at p
        exact hd ss' os' p σ' G' H' (le.ok b') r'
/-- while, by a word and a measure -/
theorem do_while (I : Nat → SS → Own → Prop) (m0 : Nat) (hi : I m0 ss os)
    (hs : ∀ m ss' os', I m ss' os' → ∃ b, EvT K tt ss' os' b ∧ (b = true → Do K B t ss' os' { D with nx := At K B (fun s o => ∃ m', m' < m ∧ I m' s o), ct := At K B (fun s o => ∃ m', m' < m ∧ I m' s o), bk := D.nx }) ∧ (b = false → Nx K B D.nx ss' os')) : Do K B (tWhile tt t) ss os D := fun σ G H b r =>
  ⟨fun m => At K B (I m), ⟨m0, ss, os, G, hi, b, r⟩, fun m σ' H' p => by
    obtain ⟨ss', os', G', p, b', r'⟩ := p
    obtain ⟨bb, et, h1, h2⟩ := hs m ss' os' p
    refine et σ' G' H' r' _ fun G2 H2 q2 e2 => ?_
    cases bb with
    | true => exact ⟨_, fun σ3 H3 ⟨s3, o3, G3, ⟨m', hm, p3⟩, b3, r3⟩ => ⟨m', hm, s3, o3, G3, p3, b3, r3⟩, h1 rfl σ' G2 H2 (b'.grow q2) (r'.grow q2 e2)⟩
    | false => exact h2 rfl σ' G2 H2 (b'.grow q2) (r'.grow q2 e2)⟩
/-! ### defs -/
/-- a body that keeps a contract: N slots, n of them parameters -/
theorem body_ok {n : Nat} {c : Ct} {N : List Str} {t : TS} (hd : ∀ ds os P, ds.length = n → c ds os P → ∀ B D, B.fp = keys os → Rts K B D.rt P → (∀ B', B.Le B' → ∀ ss os, P (.ok .non) os → Nx K B' D.nx ss os) → Do K B t (ds.map some ++ List.replicate (N.length - n) none) os D)
    (vs : List V) (H : Hp) (Q : VK) (E : XK) (h : spC K n c vs H Q E) : t { nx := fun _ H' => Q .non H', rt := Q } (start N vs) H := by
  obtain ⟨hl, ds, os, P, G, ex, rs, ow, hc, hP⟩ := h
  have el : ds.length = n := by rw [← rs.length]; exact hl
  have base : ∀ {B' : Bs}, Bs.Le ⟨keys os, G, H⟩ B' → ∀ {os' G' H'}, BsOk B' os' G' H' → Gq (keys os) G H G' H' ∧ ∀ x ∈ os', H x.1 = none ∨ x.1 ∈ keys os := by
    intro B' le os' G' H' b
    exact ⟨(le.ok b).gq, (le.ok b).nw⟩
  refine hd ds os P el hc ⟨keys os, G, H⟩ _ rfl (fun B' le d os' p v G' H' b e o r => ?_) (fun B' le ss os' p σ G' H' b r => ?_) (start N vs) G H ⟨Gq.refl _ _, fun x m => .inr (mem_keys m)⟩ ⟨ex, ?_, ow⟩
  · obtain ⟨g, nw⟩ := base le b
    exact hP (.ok d) os' G' H' p g e o nw v r
  · obtain ⟨g, nw⟩ := base le b
    exact hP (.ok .non) os' G' H' p g r.gh r.ow nw .non .non
  · have := Slots.start (N := N) rs
    rw [el] at this
    exact this
/-- .. that may raise: the reading hangs on the wish -/
theorem body_okX {n : Nat} {c : Ct} {N : List Str} {t : XK → TS} (hd : ∀ ds os P E, ds.length = n → c ds os P → ∀ B D, B.fp = keys os → Rts K B D.rt P → Xts K B E P → (∀ B', B.Le B' → ∀ ss os, P (.ok .non) os → Nx K B' D.nx ss os) → Do K B (t E) (ds.map some ++ List.replicate (N.length - n) none) os D)
    (vs : List V) (H : Hp) (Q : VK) (E : XK) (h : spC K n c vs H Q E) : t E { nx := fun _ H' => Q .non H', rt := Q } (start N vs) H := by
  obtain ⟨hl, ds, os, P, G, ex, rs, ow, hc, hP⟩ := h
  have el : ds.length = n := by rw [← rs.length]; exact hl
  have base : ∀ {B' : Bs}, Bs.Le ⟨keys os, G, H⟩ B' → ∀ {os' G' H'}, BsOk B' os' G' H' → Gq (keys os) G H G' H' ∧ ∀ x ∈ os', H x.1 = none ∨ x.1 ∈ keys os := by
    intro B' le os' G' H' b
    exact ⟨(le.ok b).gq, (le.ok b).nw⟩
  refine hd ds os P E el hc ⟨keys os, G, H⟩ _ rfl (fun B' le d os' p v G' H' b e o r => ?_) (fun B' le C os' p G' H' b e o => ?_) (fun B' le ss os' p σ G' H' b r => ?_) (start N vs) G H ⟨Gq.refl _ _, fun x m => .inr (mem_keys m)⟩ ⟨ex, ?_, ow⟩
  · obtain ⟨g, nw⟩ := base le b
    exact hP (.ok d) os' G' H' p g e o nw v r
  · obtain ⟨g, nw⟩ := base le b
    exact hP (.er C) os' G' H' p g e o nw
  · obtain ⟨g, nw⟩ := base le b
    exact hP (.ok .non) os' G' H' p g r.gh r.ow nw .non .non
  · have := Slots.start (N := N) rs
    rw [el] at this
    exact this
/-- raise C('..') -/
def tRaise (E : XK) (C : Addr) : TS := fun _ _ H => E (.ref C) none H
theorem do_raise {E : XK} {C : Addr} (h : Xt K B E C os) : Do K B (tRaise E C) ss os D := fun σ G H b r => h G H b r.gh r.ow
/-- a call that may raise, at a statement of its own -/
theorem do_callX {n : Nat} {c : Ct} {E : XK} {osp osr : Own} {P : Res → Own → Prop} {ta : TA} (ha : EvA K ta ss os ds) (hn : ds.length = n) (hp : os.Perm (osp ++ osr)) (hc : c ds osp P)
    (h1 : ∀ d os1, P (.ok d) os1 → Nx K B D.nx ss (os1 ++ osr)) (h2 : ∀ C os1, P (.er C) os1 → Xt K B E C (os1 ++ osr)) : Do K B (tDrop (tCall (spC K n c) [] E ta)) ss os D := fun σ G H b r => ha σ G H r _ fun vs G1 H1 q1 e1 r1 => by
  have R1 := r.grow q1 e1
  have ow1 := R1.ow.perm hp
  refine ⟨by rw [List.append_nil, r1.length, hn], ds, osp, P, G1, e1, by rw [List.append_nil]; exact r1, ow1.left, hc, ?_⟩
  intro rr os1 G2 H2 hP q2 e2 o2 n2
  have q2' : Gq (keys os) G1 H1 G2 H2 := q2.wk fun p m => .inl (keys_sub hp p m)
  have b2 : BsOk B (os1 ++ osr) G2 H2 := (b.grow q1).growM q2' (new_back hp n2)
  have o2' := ow1.back q2 e2 o2 n2
  cases rr with
  | er C => exact h2 C os1 hP G2 H2 b2 e2 o2'
  | ok d => exact fun v rv => h1 d os1 hP _ G2 H2 b2 ⟨e2, R1.sl.mono q2.ex, o2'⟩
/-! ### the same, something behind -/
theorem q_asg {i : Nat} (h : Ev K te ss os d) (k : Do K B u (ss.set i (some d)) os D) : Do K B (tSeq (tAsg te (gName i)) u) ss os D := do_asg (D := { D with nx := u D }) h k
theorem q_asgM {i : Nat} {P : Dt → Own → Prop} (h : EvM K te ss os P) (k : ∀ d os', P d os' → Do K B u (ss.set i (some d)) os' D) : Do K B (tSeq (tAsg te (gName i)) u) ss os D := do_asgM (D := { D with nx := u D }) h k
theorem q_dropM {P : Dt → Own → Prop} (h : EvM K te ss os P) (k : ∀ d os', P d os' → Do K B u ss os' D) : Do K B (tSeq (tDrop te) u) ss os D := do_dropM (D := { D with nx := u D }) h k
theorem q_drop (h : Ev K te ss os d) (k : Do K B u ss os D) : Do K B (tSeq (tDrop te) u) ss os D := do_drop (D := { D with nx := u D }) h k
theorem q_if {b : Bool} {w : TS} (h : EvT K tt ss os b) (h1 : b = true → Do K B t ss os { D with nx := u D }) (h2 : b = false → Do K B w ss os { D with nx := u D }) : Do K B (tSeq (tIfS tt t w) u) ss os D := do_if (D := { D with nx := u D }) h h1 h2
/-- an if whose body leaves -/
theorem q_when {b : Bool} (h : EvT K tt ss os b) (h1 : b = true → Do K B t ss os { D with nx := u D }) (h2 : b = false → Do K B u ss os D) : Do K B (tSeq (tIfS tt t tNext) u) ss os D := do_if (D := { D with nx := u D }) h h1 h2
theorem q_app {p : Addr} (ha : Ev K ta ss os (.adr p)) (m : (p, Cel.lst ds) ∈ os) (h : Ev K te ss os d) (hz : ds.length < 1000000) (k : Do K B u ss (setC os p (.lst (ds ++ [d]))) D) : Do K B (tSeq (tDrop (tBM K "list" rAppend ta (tCons te tNil))) u) ss os D :=
  do_app (D := { D with nx := u D }) ha m h hz k
theorem q_setL {p : Addr} {i : Int} (h : Ev K te ss os d) (ha : Ev K ta ss os (.adr p)) (m : (p, Cel.lst ds) ∈ os) (hb : Ev K tb ss os (.int i)) (h0 : 0 ≤ i) (hi : i < ds.length) (k : Do K B u ss (setC os p (.lst (ds.set i.toNat d))) D) :
    Do K B (tSeq (tAsg te (gSub ta tb rSetL)) u) ss os D := do_setL (D := { D with nx := u D }) h ha m hb h0 hi k
theorem q_fld {p C : Addr} {f : Str} {ns : List Str} (c : Cls K C) (na : NoAttr K C f) (h : Ev K te ss os d) (ha : Ev K ta ss os (.adr p)) (m : (p, Cel.ins C ns ds) ∈ os) (hf : ¬ f ∈ ns) (hz : ns.length < 1000) (k : Do K B u ss (setC os p (.ins C (ns ++ [f]) (ds ++ [d]))) D) :
    Do K B (tSeq (sFld K ta te f) u) ss os D := do_fld (D := { D with nx := u D }) c na h ha m hf hz k
theorem q_fldM {p C : Addr} {f : Str} {P : Dt → Own → Prop} (c : Cls K C) (na : NoAttr K C f) (h : EvM K te ss os P) (hp : ss[0]? = some (some (.adr p)))
    (k : ∀ d os', P d os' → ∃ ns ds, (p, Cel.ins C ns ds) ∈ os' ∧ ¬ f ∈ ns ∧ ns.length < 1000 ∧ Do K B u ss (setC os' p (.ins C (ns ++ [f]) (ds ++ [d]))) D) : Do K B (tSeq (sFld K (tVar 0) te f) u) ss os D := do_fldM (D := { D with nx := u D }) c na h hp k
theorem q_forR {ta : TA} {j : Nat} {n : Int} (h : EvA K ta ss os [.int n]) (hn : n ≤ 100000) (h0 : -100000 ≤ n) (I : Nat → SS → Own → Prop) (hi : I 0 ss os)
    (hs : ∀ (i : Nat) ss' os', (i : Int) < n → I i ss' os' → Do K B t (ss'.set j (some (.int (i : Int)))) os' { D with nx := At K B (I (i + 1)), ct := At K B (I (i + 1)), bk := u D })
    (hd : ∀ ss' os', I n.toNat ss' os' → Do K B u ss' os' D) : Do K B (tSeq (tFor (iRng1 ta) (gName j) t) u) ss os D := do_forR (D := { D with nx := u D }) h hn h0 I hi hs hd
theorem q_forL {tl : TE} {g : TG} (h : Ev K tl ss os (.lst ds)) (I : Nat → SS → Own → Prop) (hi : I 0 ss os)
    (hs : ∀ B1, B.Le B1 → ∀ (i : Nat) (d : Dt) ss' os', ds[i]? = some d → I i ss' os' → ∃ ss2, Tg K g d ss' ss2 ∧ Do K B1 t ss2 os' { D with nx := At K B1 (I (i + 1)), ct := At K B1 (I (i + 1)), bk := u D })
    (hd : ∀ ss' os', I ds.length ss' os' → Do K B u ss' os' D) : Do K B (tSeq (tFor (iList K tl) g t) u) ss os D := do_forL (D := { D with nx := u D }) h I hi hs hd
theorem q_while (I : Nat → SS → Own → Prop) (m0 : Nat) (hi : I m0 ss os)
    (hs : ∀ m ss' os', I m ss' os' → ∃ b, EvT K tt ss' os' b ∧ (b = true → Do K B t ss' os' { D with nx := At K B (fun s o => ∃ m', m' < m ∧ I m' s o), ct := At K B (fun s o => ∃ m', m' < m ∧ I m' s o), bk := u D }) ∧ (b = false → Do K B u ss' os' D)) : Do K B (tSeq (tWhile tt t) u) ss os D := do_while (D := { D with nx := u D }) I m0 hi hs
theorem q_callX {n : Nat} {c : Ct} {E : XK} {osp osr : Own} {P : Res → Own → Prop} {ta : TA} (ha : EvA K ta ss os ds) (hn : ds.length = n) (hp : os.Perm (osp ++ osr)) (hc : c ds osp P)
    (h1 : ∀ d os1, P (.ok d) os1 → Do K B u ss (os1 ++ osr) D) (h2 : ∀ C os1, P (.er C) os1 → Xt K B E C (os1 ++ osr)) : Do K B (tSeq (tDrop (tCall (spC K n c) [] E ta)) u) ss os D := do_callX (D := { D with nx := u D }) ha hn hp hc h1 h2
/-- loops over data that are a map -/
theorem q_forM {α : Type} {xs : List α} {f0 : α → Dt} {tl : TE} {g : TG} (h : Ev K tl ss os (.lst (xs.map f0))) (I : Nat → SS → Own → Prop) (hi : I 0 ss os)
    (hs : ∀ B1, B.Le B1 → ∀ (i : Nat) (x : α) ss' os', xs[i]? = some x → I i ss' os' → ∃ ss2, Tg K g (f0 x) ss' ss2 ∧ Do K B1 t ss2 os' { D with nx := At K B1 (I (i + 1)), ct := At K B1 (I (i + 1)), bk := u D })
    (hd : ∀ ss' os', I xs.length ss' os' → Do K B u ss' os' D) : Do K B (tSeq (tFor (iList K tl) g t) u) ss os D :=
  q_forL h I hi (fun B1 hB i d ss' os' hd hI => by
    rw [List.getElem?_map] at hd
    cases e : xs[i]? with
    | none => rw [e] at hd; cases hd
    | some x => rw [e] at hd; cases hd; exact hs B1 hB i x ss' os' e hI) (fun ss' os' hI => hd ss' os' (by rw [List.length_map] at hI; exact hI))
theorem do_forM {α : Type} {xs : List α} {f0 : α → Dt} {tl : TE} {g : TG} (h : Ev K tl ss os (.lst (xs.map f0))) (I : Nat → SS → Own → Prop) (hi : I 0 ss os)
    (hs : ∀ B1, B.Le B1 → ∀ (i : Nat) (x : α) ss' os', xs[i]? = some x → I i ss' os' → ∃ ss2, Tg K g (f0 x) ss' ss2 ∧ Do K B1 t ss2 os' { D with nx := At K B1 (I (i + 1)), ct := At K B1 (I (i + 1)), bk := D.nx })
    (hd : ∀ ss' os', I xs.length ss' os' → Nx K B D.nx ss' os') : Do K B (tFor (iList K tl) g t) ss os D :=
  do_forL h I hi (fun B1 hB i d ss' os' hd hI => by
    rw [List.getElem?_map] at hd
    cases e : xs[i]? with
    | none => rw [e] at hd; cases hd
    | some x => rw [e] at hd; cases hd; exact hs B1 hB i x ss' os' e hI) (fun ss' os' hI => hd ss' os' (by rw [List.length_map] at hI; exact hI))
end
end Cy

namespace Cy
open PySem L2
open Evl (Ex Ex.refl Ex.trans Ex.new Ex.mut)

/-! ### comprehensions -/
def wipeS (ss : SS) : List Nat → SS
  | [] => ss
  | v :: vs => (wipeS ss vs).set v none
theorem wipeS_length (ss : SS) : ∀ vs, (wipeS ss vs).length = ss.length
  | [] => rfl
  | v :: vs => by unfold wipeS; rw [List.length_set, wipeS_length ss vs]
theorem wipe_in {σ : St} {i : Nat} : ∀ {vs : List Nat}, i ∈ vs → i < σ.length → (wipe σ vs)[i]? = some none
  | [], h, _ => by simp at h
  | v :: vs, h, hl => by
    unfold wipe
    by_cases e : v = i
    · subst e
      rw [List.getElem?_set_self (by rw [wipe_length]; exact hl)]
    · rw [List.getElem?_set_ne e]
      exact wipe_in ((List.mem_cons.mp h).resolve_left fun z => e z.symm) hl
theorem wipe_ext {σ τ : St} {vs : List Nat} (hl : σ.length = τ.length) (h : ∀ i, i ∉ vs → σ[i]? = τ[i]?) : wipe σ vs = wipe τ vs := by
  refine List.ext_getElem? fun i => ?_
  by_cases m : i ∈ vs
  · by_cases l : i < σ.length
    · rw [wipe_in m l, wipe_in m (hl ▸ l)]
    · rw [List.getElem?_eq_none (by rw [wipe_length]; omega), List.getElem?_eq_none (by rw [wipe_length]; omega)]
  · rw [wipe_out m, wipe_out m]
    exact h i m
theorem wipe_wipe (σ : St) (vs : List Nat) : wipe (wipe σ vs) vs = wipe σ vs := wipe_ext (wipe_length σ vs) fun i m => wipe_out m
section
variable {K : Fg} {G H : Hp} {ss ss' ss2 : SS} {os : Own} {σ : St} {vs : List Nat} {d : Dt} {g : TG} {tt : TT} {te tl : TE} {ta : TA}
theorem wipeS_some {i : Nat} {x : Dt} : ∀ {vs : List Nat}, (wipeS ss vs)[i]? = some (some x) → ss[i]? = some (some x) ∧ i ∉ vs
  | [], h => ⟨h, by simp⟩
  | v :: vs, h => by
    unfold wipeS at h
    by_cases e : v = i
    · subst e
      by_cases l : v < (wipeS ss vs).length
      · rw [List.getElem?_set_self l] at h
        cases h
      · rw [List.getElem?_eq_none (by rw [List.length_set]; omega)] at h
        cases h
    · rw [List.getElem?_set_ne e] at h
      obtain ⟨a, b⟩ := wipeS_some h
      exact ⟨a, fun m => (List.mem_cons.mp m).elim (fun z => e z.symm) b⟩
theorem Slots.wipe (h : Slots K G σ ss) (vs : List Nat) : Slots K G (wipe σ vs) (wipeS ss vs) := ⟨by rw [wipe_length, wipeS_length, h.1], fun i d q => by
  obtain ⟨a, b⟩ := wipeS_some q
  obtain ⟨v, h1, h2⟩ := h.2 i d a
  exact ⟨v, by rw [wipe_out b]; exact h1, h2⟩⟩
/-- a target in a comprehension's block -/
def TgW (K : Fg) (g : TG) (d : Dt) (ss ss' : SS) (vs : List Nat) : Prop := ∀ v σ G H (Q : St → Hp → Prop), Ex G H → Slots K G σ ss → Rp K G v d → (∀ σ', Slots K G σ' ss' → L2.wipe σ' vs = L2.wipe σ vs → Q σ' H) → g v σ H Q
theorem wipe_set {j : Nat} {x : Option V} (m : j ∈ vs) : L2.wipe (σ.set j x) vs = L2.wipe σ vs := wipe_ext (by rw [List.length_set]) fun i n => by
  rw [List.getElem?_set_ne]
  rintro rfl
  exact n m
theorem tw_name {j : Nat} (m : j ∈ vs := by decide) : TgW K (gName j) d ss (ss.set j (some d)) vs := fun v σ G H Q e s r q => q _ (s.set j r) (wipe_set m)
theorem tw_tup2 {i j : Nat} {a b : Dt} (mi : i ∈ vs := by decide) (mj : j ∈ vs := by decide) : TgW K (gTup K 2 (gCons (gName i) (gCons (gName j) gNil))) (.tup [a, b]) ss ((ss.set i (some a)).set j (some b)) vs := fun v σ G H Q e s r q => by
  cases r with
  | tup h1 h2 =>
    cases h2 with
    | cons ra r2 =>
      cases r2 with
      | cons rb r3 =>
        cases r3
        exact ⟨_, _, rfl, .of (e _ _ h1), rfl, _, _, rfl, _, _, rfl, rfl, q _ ((s.set i ra).set j rb) (by rw [wipe_set mj, wipe_set mi])⟩
theorem lc_turn {G1 H1 : Hp} {D : Addr} {acc : List Dt} {H' : Hp} {y : Dt} {b : Bool} (hD : H1 D = none) (R : Rep K ss2 os σ G1 H1 → True)
    (G' : Hp) (accv : List V) (q1 : Gq [] G1 H1 G' H') (e1 : Ex G' H') (gD : G' D = none) (hH : H' D = some (.lst accv)) (ra : Rps K G' accv acc) (R' : Rep K ss2 os σ G' H')
    (hz : acc.length < 1000000) (ht : EvT K tt ss2 os b) (he : b = true → Ev K te ss2 os y) (Pn : Hp → Prop)
    (hp1 : b = true → ∀ G'' H'' accv', Gq [] G1 H1 G'' H'' → Ex G'' H'' → G'' D = none → H'' D = some (.lst accv') → Rps K G'' accv' (acc ++ [y]) → Pn H'')
    (hp0 : b = false → ∀ G'' H'', Gq [] G1 H1 G'' H'' → Ex G'' H'' → G'' D = none → H'' D = some (.lst accv) → Rps K G'' accv acc → Pn H'') :
    tt σ H' fun b H3 => if b = true then te σ H3 fun y H4 => ∃ acc, H4 D = some (.lst acc) ∧ acc.length < sizeLine ∧ Pn (upd H4 D (.lst (acc ++ [y]))) else Pn H3 := by
  have frD : ∀ {G' H' G'' H'' : Hp} {ws : List V}, Gq [] G' H' G'' H'' → Ex G'' H'' → G' D = none → H' D = some (.lst ws) → G'' D = none := fun {G' H' G'' H'' ws} q ex g h => by
    cases e : G'' D with
    | none => rfl
    | some u =>
      rcases q.new _ _ e with z | z | ⟨xs, z⟩
      · rw [g] at z; cases z
      · rw [h] at z; cases z
      · have h2 := (q.exH _ _ h).symm.trans (ex _ _ e)
        rw [z] at h2
        cases h2
  refine ht σ G' H' R' _ fun G3 H3 q3 e3 => ?_
  cases b with
  | false => exact hp0 rfl G3 H3 (q1.trans q3 (by simp)) e3 (frD q3 e3 gD hH) (q3.exH _ _ hH) (ra.mono q3.ex)
  | true =>
    refine he rfl σ G3 H3 (R'.grow q3 e3) _ fun v G4 H4 q4 e4 r4 => ?_
    have h4 : H4 D = some (.lst accv) := q4.exH _ _ (q3.exH _ _ hH)
    have g4 : G4 D = none := frD q4 e4 (frD q3 e3 gD hH) (q3.exH _ _ hH)
    refine ⟨accv, h4, by rw [ra.length]; exact szl hz, ?_⟩
    obtain ⟨q5, e5⟩ := gq_put (fp := [D]) (o := .lst (accv ++ [v])) e4 g4 h4 (by simp)
    refine hp1 rfl G4 _ (accv ++ [v]) (((q1.trans q3 (by simp)).trans q4 (by simp)).trans q5 fun p m => .inr ?_) e5 g4 upd_same (((ra.mono q3.ex).mono q4.ex).append (.one r4))
    have : p = D := by simpa using m
    rw [this]; exact hD
theorem filter_snoc {α : Type} (b : α → Bool) (y : α → Dt) (xs : List α) (i : Nat) (x : α) (h : xs[i]? = some x) :
    ((xs.take (i + 1)).filter b).map y = if b x = true then ((xs.take i).filter b).map y ++ [y x] else ((xs.take i).filter b).map y := by
  rw [List.take_add_one, h, List.filter_append, List.map_append]
  by_cases e : b x = true
  · rw [if_pos e]; simp [e]
  · rw [if_neg e]; simp [e]
theorem ef_lcL {α : Type} {xs : List α} {f0 : α → Dt} {x0 : Dt} (b : α → Bool) (y : α → Dt) (h : Ev K tl ss os x0) (l : LV os x0 (xs.map f0))
    (hb : ∀ x ∈ xs, ∃ ss2, TgW K g (f0 x) (wipeS ss vs) ss2 vs ∧ EvT K tt ss2 os (b x) ∧ (b x = true → Ev K te ss2 os (y x))) (hz : xs.length < 1000000) :
    EvF K (tLc (iList K tl) g tt te vs) ss os ((xs.filter b).map y) := fun σ G H R Q q => h σ G H R _ fun v G1 H1 q1 e1 r1 => by
  have R1 := R.grow q1 e1
  obtain ⟨a, ws, rfl, hs, rs⟩ := R1.list l r1
  refine ⟨a, rfl, ⟨ws, hs⟩, fun D hD => ?_⟩
  have hlen : ws.length = xs.length := by rw [rs.length, List.length_map]
  refine lc_list (xs := ws) (fun i H' => ∃ G' accv, Gq [] G1 H1 G' H' ∧ Ex G' H' ∧ G' D = none ∧ H' D = some (.lst accv) ∧ Rps K G' accv (((xs.take i).filter b).map y)) ?_ (fun i H' _ p => ?_) (fun i x H' hx p => ?_) (fun H' p => ?_)
  · obtain ⟨q2, e2⟩ := gq_own (fp := []) (o := .lst []) e1 hD
    exact ⟨G1, [], q2, e2, Evl.fresh_back e1 hD, upd_same, .nil⟩
  · obtain ⟨G', accv, q2, _⟩ := p
    exact Evl.ex_l q2.exH hs
  · obtain ⟨G', accv, q2, e2, gD, hH, ra⟩ := p
    obtain ⟨d, hd, rd⟩ := rs.get' hx
    rw [List.getElem?_map] at hd
    cases ex : xs[i]? with
    | none => rw [ex] at hd; cases hd
    | some x' =>
      rw [ex] at hd
      cases hd
      obtain ⟨ss2, tg, ht, he⟩ := hb x' (List.mem_of_getElem? ex)
      have R2 := R1.grow q2 e2
      refine tg x (L2.wipe σ vs) G' H' _ e2 (R2.sl.wipe vs) (rd.mono q2.ex) fun σ2 s2 hw => ⟨by rw [hw, wipe_wipe], ?_⟩
      refine lc_turn (ss2 := ss2) (os := os) (acc := ((xs.take i).filter b).map y) (y := y x') hD (fun _ => trivial) G' accv q2 e2 gD hH ra ⟨e2, s2, R2.ow⟩ ?_ ht he _ (fun eb G'' H'' accv' q3 e3 g3 h3 r3 => ⟨G'', accv', q3, e3, g3, h3, ?_⟩) (fun eb G'' H'' q3 e3 g3 h3 r3 => ⟨G'', accv, q3, e3, g3, h3, ?_⟩)
      · rw [List.length_map]
        refine Nat.lt_of_le_of_lt (List.length_filter_le _ _) ?_
        rw [List.length_take]
        omega
      · rw [filter_snoc b y xs i x' ex, if_pos eb]; exact r3
      · rw [filter_snoc b y xs i x' ex, if_neg (by rw [eb]; decide)]; exact r3
  · obtain ⟨G', accv, q2, e2, gD, hH, ra⟩ := p
    rw [hlen, List.take_length] at ra
    exact q D accv G' H' (q1.dom _ hD) (q1.trans q2 (by simp)) e2 gD hH ra
theorem ef_lcR {n lo : Int} (b : Nat → Bool) (y : Nat → Dt) {R2 : It → Hp → Prop} (hz : n ≤ 100000)
    (hb : ∀ i : Nat, (i : Int) < n - lo → ∃ ss2, TgW K g (.int (lo + i)) (wipeS ss vs) ss2 vs ∧ EvT K tt ss2 os (b i) ∧ (b i = true → Ev K te ss2 os (y i))) (hlo : -100000 ≤ lo)
    {σ : St} {G1 H1 : Hp} (R1 : Rep K ss os σ G1 H1) (Q : VK)
    (q : ∀ p vs' G' H', H1 p = none → Gq [] G1 H1 G' H' → Ex G' H' → G' p = none → H' p = some (.lst vs') → Rps K G' vs' ((((List.range (n - lo).toNat)).filter b).map y) → Q (.ref p) H') :
    ∀ D, H1 D = none → ∃ W : Nat → Nat → Hp → Prop, (∃ m, W 0 m (upd H1 D (.lst []))) ∧ ∀ i m H, W i m H →
      ((Itr lo (n - lo).toNat).stop i H ∧ Q (.ref D) H) ∨ ((Itr lo (n - lo).toNat).go i H ∧ ∃ Nx : Hp → Prop, (∀ H', Nx H' → ∃ m', m' < m ∧ W (i + 1) m' H') ∧ ∀ x H', (Itr lo (n - lo).toNat).yld i H x H' → g x (L2.wipe σ vs) H' fun σ2 H2 => L2.wipe σ2 vs = L2.wipe σ vs ∧ tt σ2 H2 fun b H3 =>
        if b = true then te σ2 H3 fun y H4 => ∃ acc, H4 D = some (.lst acc) ∧ acc.length < sizeLine ∧ Nx (upd H4 D (.lst (acc ++ [y]))) else Nx H3) := fun D hD => by
  have e1 := R1.gh
  refine lc_range (fun i H' => ∃ G' accv, Gq [] G1 H1 G' H' ∧ Ex G' H' ∧ G' D = none ∧ H' D = some (.lst accv) ∧ Rps K G' accv ((((List.range (n - lo).toNat).take i).filter b).map y)) ?_ (fun i H' hi p => ?_) (fun H' p => ?_)
  · obtain ⟨q2, e2⟩ := gq_own (fp := []) (o := .lst []) e1 hD
    exact ⟨G1, [], q2, e2, Evl.fresh_back e1 hD, upd_same, .nil⟩
  · obtain ⟨G', accv, q2, e2, gD, hH, ra⟩ := p
    have ex : (List.range (n - lo).toNat)[i]? = some i := by rw [List.getElem?_range hi]
    obtain ⟨ss2, tg, ht, he⟩ := hb i (by omega)
    have R2 := R1.grow q2 e2
    refine tg _ (L2.wipe σ vs) G' H' _ e2 (R2.sl.wipe vs) (.int _) fun σ2 s2 hw => ⟨by rw [hw, wipe_wipe], ?_⟩
    refine lc_turn (ss2 := ss2) (os := os) (acc := (((List.range (n - lo).toNat).take i).filter b).map y) (y := y i) hD (fun _ => trivial) G' accv q2 e2 gD hH ra ⟨e2, s2, R2.ow⟩ ?_ ht he _ (fun eb G'' H'' accv' q3 e3 g3 h3 r3 => ⟨G'', accv', q3, e3, g3, h3, ?_⟩) (fun eb G'' H'' q3 e3 g3 h3 r3 => ⟨G'', accv, q3, e3, g3, h3, ?_⟩)
    · rw [List.length_map]
      refine Nat.lt_of_le_of_lt (List.length_filter_le _ _) ?_
      rw [List.length_take, List.length_range]
      omega
    · rw [filter_snoc b y _ i i ex, if_pos eb]; exact r3
    · rw [filter_snoc b y _ i i ex, if_neg (by rw [eb]; decide)]; exact r3
  · obtain ⟨G', accv, q2, e2, gD, hH, ra⟩ := p
    rw [List.take_of_length_le (by rw [List.length_range]; omega)] at ra
    exact q D accv G' H' hD q2 e2 gD hH ra
theorem ef_lcR1 {n : Int} (b : Nat → Bool) (y : Nat → Dt) (h : EvA K ta ss os [.int n]) (h0 : -100000 ≤ n) (hz : n ≤ 100000)
    (hb : ∀ i : Nat, (i : Int) < n → ∃ ss2, TgW K g (.int (i : Int)) (wipeS ss vs) ss2 vs ∧ EvT K tt ss2 os (b i) ∧ (b i = true → Ev K te ss2 os (y i))) :
    EvF K (tLc (iRng1 ta) g tt te vs) ss os (((List.range n.toNat).filter b).map y) := fun σ G H R Q q => h σ G H R _ fun v G1 H1 q1 e1 r1 => by
  cases r1 with
  | cons r1 r2 =>
    cases r1; cases r2
    refine ⟨n, rfl, by omega, by omega, ?_⟩
    have e : (n - 0).toNat = n.toNat := by rw [Int.sub_zero]
    have := ef_lcR (K := K) (ss := ss) (os := os) (g := g) (tt := tt) (te := te) (vs := vs) (n := n) (lo := 0) (R2 := fun _ _ => True) b y hz (fun i hi => by rw [Int.zero_add]; exact hb i (by omega)) (by omega) (R.grow q1 e1) Q (fun p vs' G' H' n1 q2 e2 g2 h2 r2 => q p vs' G' H' (q1.dom _ n1) (q1.trans q2 (by simp)) e2 g2 h2 (by rw [e] at r2; exact r2))
    rw [e] at this
    exact this
/-- no test -/
theorem filter_all {α : Type} {b : α → Bool} {xs : List α} {y : α → Dt} (h : ∀ x, b x = true) : (xs.filter b).map y = xs.map y := by
  rw [List.filter_eq_self.mpr fun x _ => h x]
theorem ef_mapL {α : Type} {xs : List α} {f0 : α → Dt} {x0 : Dt} (y : α → Dt) (h : Ev K tl ss os x0) (l : LV os x0 (xs.map f0))
    (hb : ∀ x ∈ xs, ∃ ss2, TgW K g (f0 x) (wipeS ss vs) ss2 vs ∧ Ev K te ss2 os (y x)) (hz : xs.length < 1000000) : EvF K (tLc (iList K tl) g tYes te vs) ss os (xs.map y) := by
  have := ef_lcL (K := K) (g := g) (tt := tYes) (te := te) (vs := vs) (fun _ => true) y h l (fun x m => let ⟨s, a, c⟩ := hb x m; ⟨s, a, et_yes, fun _ => c⟩) hz
  rw [filter_all fun _ => rfl] at this
  exact this
theorem ef_mapR {n : Int} (y : Nat → Dt) (h : EvA K ta ss os [.int n]) (h0 : -100000 ≤ n) (hz : n ≤ 100000)
    (hb : ∀ i : Nat, (i : Int) < n → ∃ ss2, TgW K g (.int (i : Int)) (wipeS ss vs) ss2 vs ∧ Ev K te ss2 os (y i)) : EvF K (tLc (iRng1 ta) g tYes te vs) ss os ((List.range n.toNat).map y) := by
  have := ef_lcR1 (K := K) (g := g) (tt := tYes) (te := te) (vs := vs) (fun _ => true) y h h0 hz fun i hi => let ⟨s, a, c⟩ := hb i hi; ⟨s, a, et_yes, fun _ => c⟩
  rw [filter_all fun _ => rfl] at this
  exact this
end
end Cy
namespace Cy
open PySem L2
section
variable {K : Fg} {ss : SS} {os : Own} {vs : List Nat} {g : TG} {te tl : TE} {ta : TA}
theorem ef_mapRi {n : Int} (y : Nat → Int) (h : EvA K ta ss os [.int n]) (h0 : -100000 ≤ n) (hz : n ≤ 100000)
    (hb : ∀ i : Nat, (i : Int) < n → ∃ ss2, TgW K g (.int (i : Int)) (wipeS ss vs) ss2 vs ∧ Ev K te ss2 os (.int (y i))) : EvF K (tLc (iRng1 ta) g tYes te vs) ss os (((List.range n.toNat).map y).map Dt.int) := by
  rw [List.map_map]
  exact ef_mapR (fun i => .int (y i)) h h0 hz hb
theorem ef_mapLi {α : Type} {xs : List α} {f0 : α → Dt} {x0 : Dt} (y : α → Int) (h : Ev K tl ss os x0) (l : LV os x0 (xs.map f0))
    (hb : ∀ x ∈ xs, ∃ ss2, TgW K g (f0 x) (wipeS ss vs) ss2 vs ∧ Ev K te ss2 os (.int (y x))) (hz : xs.length < 1000000) : EvF K (tLc (iList K tl) g tYes te vs) ss os ((xs.map y).map Dt.int) := by
  rw [List.map_map]
  exact ef_mapL (fun x => .int (y x)) h l hb hz
end
end Cy

/-! the mirror: what the defs reckon, over plain data -/
namespace Cy
/-- n turns -/
def iter {σ : Type} (step : Nat → σ → σ) (s : σ) : Nat → σ
  | 0 => s
  | n + 1 => step n (iter step s n)
def withinB (ns : List Int) (m : Int) : Bool := ns.all fun n => decide (0 ≤ n) && decide (n ≤ m)
def M31 : Int := 2147483647
def cellD (ns : List Int) (k : Int) : Int := if 0 < ns.length then ns.getD (k % (ns.length : Int)).toNat 0 else 7
@[irreducible] def drawn (ns : List Int) (k many : Int) : Int :=
  let s1 := (cellD ns k * 48271 + (k + 1) * 7919 + (ns.length : Int)) % 2147483647
  let s2 := (s1 * s1 + k * 16807 + 11) % 2147483647
  ((s2 * 48271 % 2147483647).fdiv 16) % many
theorem drawn_pos (ns : List Int) (k : Int) {many : Int} (h : 0 < many) : 0 ≤ drawn ns k many ∧ drawn ns k many < many := by
  unfold drawn
  exact ⟨Int.emod_nonneg _ (by omega), Int.emod_lt_of_pos _ h⟩
abbrev Day := List Int × List Int
def manyBy (ns : List Int) (b : Int) : Nat := (1 + drawn ns b 4).toNat
def topBy (ns : List Int) (b : Int) : Int := ([4, 12, 51] : List Int).getD (drawn ns (b + 1) 3).toNat 0
def roomsBy (ns : List Int) (b : Int) : List Int := (List.range (manyBy ns b)).map fun (k : Nat) => drawn ns (b + 2 + k) (topBy ns b)
def watersBy (ns : List Int) (b : Int) : List Int := (List.range (manyBy ns b)).map fun (k : Nat) => drawn ns (b + 6 + k) ((roomsBy ns b).getD k 0 + 1)
def dtopBy (ns : List Int) (b : Int) : Int := ([4, 10, 31] : List Int).getD (drawn ns b 3).toNat 0
def rainBy (ns : List Int) (b : Int) (many : Nat) (n : Nat) : List Int := (List.range many).map fun (k : Nat) => drawn ns (b + 10 + 8 * n + k) (dtopBy ns b)
def wishesBy (ns : List Int) (b : Int) (many : Nat) (n : Nat) : List Int :=
  let w := (List.range many).map fun (k : Nat) => drawn ns (b + 14 + 8 * n + k) (dtopBy ns b)
  if drawn ns (b + 2) 3 = 1 then w.map fun one => min 30 (2 * one) else w
def daysBy (ns : List Int) (b : Int) (many : Nat) (bound : Int) : List Day := (List.range (drawn ns (b + 1) (bound + 1)).toNat).map fun n => (rainBy ns b many n, wishesBy ns b many n)
/-- one tank's turn of a day: drawn, held, what runs on -/
structure DayS where
  drawn : List Int
  held : List Int
  over : Int
def dayStep (rooms rain wishes : List Int) (k : Nat) (s : DayS) : DayS :=
  let water := s.held.getD k 0 + rain.getD k 0 + s.over
  let d := min water (wishes.getD k 0)
  let h := min (water - d) (rooms.getD k 0)
  ⟨s.drawn ++ [d], s.held.set k h, water - d - h⟩
def dayRun (rooms held rain wishes : List Int) : DayS := iter (dayStep rooms rain wishes) ⟨[], held, 0⟩ rooms.length
theorem withinB_iff {ns : List Int} {m : Int} : withinB ns m = true ↔ ∀ x ∈ ns, 0 ≤ x ∧ x ≤ m := by
  simp [withinB]
end Cy
namespace Cy
theorem getD_some {xs : List Int} {i : Nat} (h : i < xs.length) : xs[i]? = some (xs.getD i 0) := by
  rw [List.getD_eq_getElem?_getD, List.getElem?_eq_getElem h]; rfl
def lOk (n : Nat) (xs : List Int) : Bool := decide (xs.length = n) && withinB xs 30
def dayOk (n : Nat) (d : Day) : Bool := lOk n d.1 && lOk n d.2
def daysOk (n : Nat) (ds : List Day) : Bool := decide (ds.length ≤ 8) && ds.all (dayOk n)
def yardOk (rooms waters : List Int) : Bool := decide (1 ≤ rooms.length) && (decide (rooms.length ≤ 4) && (decide (waters.length = rooms.length) && (withinB rooms 50 && (List.range rooms.length).all fun k => decide (0 ≤ waters.getD k 0) && decide (waters.getD k 0 ≤ rooms.getD k 0))))
section
variable {rooms rain wishes : List Int}
theorem dayStep_drawn (k : Nat) (s : DayS) : (dayStep rooms rain wishes k s).drawn.length = s.drawn.length + 1 := by simp [dayStep]
theorem dayStep_held (k : Nat) (s : DayS) : (dayStep rooms rain wishes k s).held.length = s.held.length := by simp [dayStep]
theorem iter_drawn (s : DayS) : ∀ n, (iter (dayStep rooms rain wishes) s n).drawn.length = s.drawn.length + n
  | 0 => rfl
  | n + 1 => by rw [iter, dayStep_drawn, iter_drawn s n]; omega
theorem iter_held (s : DayS) : ∀ n, (iter (dayStep rooms rain wishes) s n).held.length = s.held.length
  | 0 => rfl
  | n + 1 => by rw [iter, dayStep_held, iter_held s n]
end
theorem lOk_iff {n : Nat} {xs : List Int} : lOk n xs = true ↔ xs.length = n ∧ withinB xs 30 = true := by simp [lOk]
theorem dayOk_iff {n : Nat} {d : Day} : dayOk n d = true ↔ lOk n d.1 = true ∧ lOk n d.2 = true := by simp [dayOk]
theorem daysOk_iff {n : Nat} {ds : List Day} : daysOk n ds = true ↔ ds.length ≤ 8 ∧ ∀ d ∈ ds, dayOk n d = true := by simp [daysOk]
end Cy
namespace Cy
def overAt (held rain drawn kept : List Int) : Nat → Int := iter (fun k o => held.getD k 0 + rain.getD k 0 + o - drawn.getD k 0 - kept.getD k 0) 0
def tankOk (rooms held : List Int) (day p : Day) (k : Nat) : Bool :=
  decide (0 ≤ p.1.getD k 0) && (decide (0 ≤ p.2.getD k 0) && (decide (0 ≤ overAt held day.1 p.1 p.2 (k + 1)) && (decide (p.1.getD k 0 ≤ day.2.getD k 0) && decide (p.2.getD k 0 ≤ rooms.getD k 0))))
def dayHolds (rooms held : List Int) (day p : Day) : Bool := decide (p.1.length = held.length) && (decide (p.2.length = held.length) && (List.range held.length).all (tankOk rooms held day p))
def heldAt (held : List Int) (plan : List Day) : Nat → List Int
  | 0 => held
  | n + 1 => (plan.getD n ([], [])).2
def holdsB (rooms held : List Int) (days plan : List Day) : Bool :=
  decide (plan.length = days.length) && (List.range days.length).all fun n => dayHolds rooms (heldAt held plan n) (days.getD n ([], [])) (plan.getD n ([], []))
def drawnBy (plan : List Day) : Int := (plan.map fun p => p.1.sum).sum
theorem getDay {xs : List Day} {i : Nat} (h : i < xs.length) : xs[i]? = some (xs.getD i ([], [])) := by
  rw [List.getD_eq_getElem?_getD, List.getElem?_eq_getElem h]; rfl
theorem tankOk_iff {rooms held : List Int} {day p : Day} {k : Nat} : tankOk rooms held day p k = true ↔
    0 ≤ p.1.getD k 0 ∧ 0 ≤ p.2.getD k 0 ∧ 0 ≤ overAt held day.1 p.1 p.2 (k + 1) ∧ p.1.getD k 0 ≤ day.2.getD k 0 ∧ p.2.getD k 0 ≤ rooms.getD k 0 := by
  simp [tankOk, -List.getD_eq_getElem?_getD]
theorem dayHolds_iff {rooms held : List Int} {day p : Day} : dayHolds rooms held day p = true ↔ p.1.length = held.length ∧ p.2.length = held.length ∧ ∀ k, k < held.length → tankOk rooms held day p k = true := by
  simp [dayHolds]
theorem holdsB_iff {rooms held : List Int} {days plan : List Day} : holdsB rooms held days plan = true ↔
    plan.length = days.length ∧ ∀ n, n < days.length → dayHolds rooms (heldAt held plan n) (days.getD n ([], [])) (plan.getD n ([], [])) = true := by
  simp [holdsB, -List.getD_eq_getElem?_getD]
end Cy

namespace Cy
open PySem L2
/-- where the classes stand -/
structure Ad where
  Yard : Addr
  Stream : Addr
  YardError : Addr
  BadYard : Addr
  BadDays : Addr
  BadLine : Addr
  BadText : Addr
def ad (K : Fg) : Ad := ⟨He.ga K "Yard", He.ga K "Stream", He.ga K "YardError", He.ga K "BadYard", He.ga K "BadDays", He.ga K "BadLine", He.ga K "BadText"⟩
/-- what is known of the class Yard -/
structure YardF (K : Fg) (A : Ad) : Prop where
  cls : Cls K A.Yard
  sizes : NoAttr K A.Yard "sizes"
  held : NoAttr K A.Yard "held"
/-- a def that may be called -/
structure Cal (P : Program) (w : World) (K : Fg) (mg : Str → Option Value) (base : Heap) (CX : CXT) (x : Str) (k : Nat) (ps : List Str) (sp : Sp) : Prop where
  ex : ∃ f fd, FnOk P w K mg base CX k f fd ps sp ∧ mg x = some (.ref f) ∧ PySem.W.keepIn K (.ref f) = true ∧ Binds K fd ps []
structure Met (P : Program) (w : World) (K : Fg) (mg : Str → Option Value) (base : Heap) (CX : CXT) (C : Addr) (m : Str) (k : Nat) (ps : List Str) (sp : Sp) : Prop where
  ex : ∃ f fd, FnOk P w K mg base CX k f fd ps sp ∧ Meth K C m f ∧ Binds K fd ps []
  cls : Cls K C
structure Mak (P : Program) (w : World) (K : Fg) (mg : Str → Option Value) (base : Heap) (CX : CXT) (x : Str) (C : Addr) (k : Nat) (ps : List Str) (sp : Sp) : Prop where
  ex : ∃ f fd, FnOk P w K mg base CX k f fd ps sp ∧ Mk K C f ∧ Binds K fd ps []
  glo : mg x = some (.ref C)
section
variable {X : Cx} {CX : CXT} {k : Nat} {C : Addr} {ps : List Str} {sp : Sp} {E : XK} {x m : Str} {p pos apos : Pos} {e o : Expr} {es : List Expr} {ta : TE} {t : TA}
theorem pe_cal (c : Cal X.prog X.w X.K X.mg X.base CX x k ps sp) (hr : Room k X.A) (hg : Gl X x) (hx : Passes CX X E) (ha : PA X (e :: es) t) (hdb : (x == ("__debug__" : Str)) = false := by decide)
    (he : starEach (e :: es) X.env = (false, eval e X.env) :: starEach es X.env := by rfl) (hpl : (backTo pos (starEach es X.env)).any (·.1) = false := by rfl) : PE X (.Call (.Name x p) (e :: es) [] pos) (tCall sp [] E t) := by
  obtain ⟨f, fd, F, hm, hk, hb⟩ := c.ex
  exact pe_call F hr hg hm hk hb .nil hx ha hdb he hpl
theorem pe_met {pl : Sem Bool} (c : Met X.prog X.w X.K X.mg X.base CX C m k ps sp) (hr : Room k X.A) (hx : Passes CX X E) (he : PE X o ta) (ha : PA X (e :: es) t)
    (hst : starEach (e :: es) X.env = (false, eval e X.env) :: starEach es X.env := by rfl) (hpl : (backTo pos (starEach es X.env)).any (·.1) = false := by rfl)
    (ht : eval (.Call (.Attribute o m apos) (e :: es) [] pos) X.env = (do
      let ov ← eval o X.env
      standAt apos.atName
      let (f, first) ← holding [ov] (getMethod ov m pl)
      callWith pos f first (backTo pos (starEach (e :: es) X.env)) (backToKw pos (keywordEach [] X.env))) := by rfl) : PE X (.Call (.Attribute o m apos) (e :: es) [] pos) (tMeth C m sp [] E ta t) := by
  obtain ⟨f, fd, F, hm, hb⟩ := c.ex
  exact pe_meth (pl := pl) he c.cls hm F hr hb .nil hx ha hst hpl ht
theorem pe_met0 {pl : Sem Bool} (c : Met X.prog X.w X.K X.mg X.base CX C m k ps sp) (hr : Room k X.A) (hx : Passes CX X E) (he : PE X o ta)
    (ht : eval (.Call (.Attribute o m apos) [] [] pos) X.env = (do
      let ov ← eval o X.env
      standAt apos.atName
      let (f, first) ← holding [ov] (getMethod ov m pl)
      callWith pos f first (backTo pos (starEach [] X.env)) (backToKw pos (keywordEach [] X.env))) := by rfl) : PE X (.Call (.Attribute o m apos) [] [] pos) (tMeth C m sp [] E ta tNil) := by
  obtain ⟨f, fd, F, hm, hb⟩ := c.ex
  exact pe_meth0 (pl := pl) he c.cls hm F hr hb .nil hx ht
theorem pe_mak (c : Mak X.prog X.w X.K X.mg X.base CX x C k ps sp) (hr : Room (k + 1) X.A) (hg : Gl X x) (hx : Passes CX X E) (ha : PA X (e :: es) t) (hdb : (x == ("__debug__" : Str)) = false := by decide)
    (he : starEach (e :: es) X.env = (false, eval e X.env) :: starEach es X.env := by rfl) (hpl : (backTo pos (starEach es X.env)).any (·.1) = false := by rfl) : PE X (.Call (.Name x p) (e :: es) [] pos) (tMake C sp [] E t) := by
  obtain ⟨f, fd, F, M, hb⟩ := c.ex
  exact pe_make M F hr hg c.glo hb .nil hx ha hdb he hpl
theorem pe_gint {i : Int} (hg : Gl X x) (h : ∃ t, X.mg x = some (.int i t)) (hd : (x == ("__debug__" : Str)) = false := by decide) : PE X (.Name x pos) (tC (.int i)) := by
  obtain ⟨t, e⟩ := h
  exact pe_glob hg e ⟨t, rfl⟩ hd
/-- an own class of errors -/
structure ExcF (K : Fg) (mg : Str → Option Value) (x : Str) (C : Addr) : Prop where
  glo : mg x = some (.ref C)
  exc : PySem.W.excIn K C He.veBase "ValueError.__new__" = true
  keep : PySem.W.keepIn K (.ref C) = true
  sub : PySem.W.subIn K (.ref C) (.type "BaseException") = some true
  ty : PySem.W.typeIn K (.ref C) = some (.type "type")
theorem pmk_ex {x m : Str} {j : Nat} {p p2 pos : Pos} (F : ExcF X.K X.mg x C) (hg : Gl X x) (hdb : (x == ("__debug__" : Str)) = false := by decide) : PMk X (.Call (.Name x p) [.Constant (.str m) j p2] [] pos) (fun _ H Q => Q (.ref C) none H) :=
  pmk_own PySem.F.excBase_ValueError F.exc F.glo F.keep (raises_own F.sub F.ty) hg hdb
end
abbrev iL (ns : List Int) : Dt := .lst (ns.map Dt.int)
abbrev dayD (d : Day) : Dt := .tup [iL d.1, iL d.2]
abbrev daysD (ds : List Day) : Dt := .lst (ds.map dayD)
/-- a yard that stays; one whose water is one's own -/
abbrev yardD (A : Ad) (rooms held : List Int) : Dt := .ins A.Yard ["sizes", "held"] [iL rooms, iL held]
abbrev yardO (A : Ad) (rooms : List Int) (h : Addr) : Dt := .ins A.Yard ["sizes", "held"] [iL rooms, .adr h]
end Cy

namespace Cy
open PySem L2
open Evl (Ex Ex.refl Ex.trans Ex.new Ex.mut)

/-! ### cells lent to a callee, to be read -/
mutual
inductive Thin : Dt → Prop
  | non : Thin .non
  | bl (b : Bool) : Thin (.bl b)
  | int (i : Int) : Thin (.int i)
  | str (x : Str) : Thin (.str x)
  | adr (a : Addr) : Thin (.adr a)
  | tup {xs : List Dt} : Thins xs → Thin (.tup xs)
inductive Thins : List Dt → Prop
  | nil : Thins []
  | cons {x : Dt} {xs : List Dt} : Thin x → Thins xs → Thins (x :: xs)
end
theorem Thins.ints : ∀ ns : List Int, Thins (ns.map Dt.int)
  | [] => .nil
  | n :: r => .cons (.int n) (Thins.ints r)
theorem Thins.map {α : Type} {f : α → Dt} (h : ∀ x, Thin (f x)) : ∀ xs : List α, Thins (xs.map f)
  | [] => .nil
  | x :: r => .cons (h x) (Thins.map h r)
def ThinC : Cel → Prop
  | .lst ds => Thins ds
  | .dT kvs => Thins (kvs.map (·.2))
  | .ins _ _ ds => Thins ds
  | .dN _ _ _ _ _ => True
section
variable {K : Fg} {G G' H H' : Hp} {os osl : Own}
mutual
theorem Rp.thin (h : ∀ a xs, G a = some (.tup xs) → G' a = some (.tup xs)) : ∀ {v : V} {d : Dt}, Thin d → Rp K G v d → Rp K G' v d
  | _, _, .non, r => by cases r; exact .non
  | _, _, .bl b, r => by cases r; exact .bl b
  | _, _, .int b, r => by cases r; exact .int b
  | _, _, .str b, r => by cases r; exact .str b
  | _, _, .adr b, r => by cases r; exact .adr b
  | _, _, .tup t, r => by
    cases r with
    | tup h1 h2 => exact .tup (h _ _ h1) (Rps.thin h t h2)
theorem Rps.thin (h : ∀ a xs, G a = some (.tup xs) → G' a = some (.tup xs)) : ∀ {v : List V} {d : List Dt}, Thins d → Rps K G v d → Rps K G' v d
  | _, _, .nil, r => by cases r; exact .nil
  | _, _, .cons a b, r => by
    cases r with
    | cons h1 h2 => exact .cons (Rp.thin h a h1) (Rps.thin h b h2)
end
theorem CelOk.thin (h : ∀ a xs, G a = Option.some (HO.tup xs) → G' a = Option.some (HO.tup xs)) {p : Addr} : ∀ {c : Cel}, ThinC c → CelOk K G H p c → CelOk K G' H p c
  | .lst ds, t, ⟨vs, a, b⟩ => ⟨vs, a, Rps.thin h t b⟩
  | .dT ds, t, ⟨vs, l, a, b⟩ => ⟨vs, l, a, Rps.thin h t b⟩
  | .ins C ns ds, t, ⟨dx, vs, l, a, b⟩ => ⟨dx, vs, l, a, Rps.thin h t b⟩
  | .dN P w o kbs f, t, ⟨a, n, k⟩ => ⟨a, n, k.mono h⟩
/- one's cells as data -/
mutual
inductive Fm (os : Own) : Dt → Dt → Prop
  | same (x : Dt) : Fm os x x
  | lst {p : Addr} {ds : List Dt} : (p, Cel.lst ds) ∈ os → Fm os (.adr p) (.lst ds)
  | lstN {p : Addr} {ds es : List Dt} : (p, Cel.lst ds) ∈ os → Fms os ds es → Fm os (.adr p) (.lst es)
  | ins {p C : Addr} {ns : List Str} {ds es : List Dt} : (p, Cel.ins C ns ds) ∈ os → Fms os ds es → Fm os (.adr p) (.ins C ns es)
  | tupI {xs ys : List Dt} : Fms os xs ys → Fm os (.tup xs) (.tup ys)
  | insI {C : Addr} {ns : List Str} {xs ys : List Dt} : Fms os xs ys → Fm os (.ins C ns xs) (.ins C ns ys)
inductive Fms (os : Own) : List Dt → List Dt → Prop
  | nil : Fms os [] []
  | cons {x y : Dt} {xs ys : List Dt} : Fm os x y → Fms os xs ys → Fms os (x :: xs) (y :: ys)
end
mutual
theorem Rp.fm (e : Ex G G') (hl : ∀ p ds, (p, Cel.lst ds) ∈ os → ∃ vs, G' p = some (.lst vs) ∧ Rps K G' vs ds) (hn : ∀ p ds, (p, Cel.lst ds) ∈ os → ∃ vs, G' p = some (.lst vs) ∧ Rps K G vs ds) (hi : ∀ p C ns ds, (p, Cel.ins C ns ds) ∈ os → ∃ dx vs, G' p = some (.ins C dx (ns.zip vs)) ∧ Rps K G vs ds) : ∀ {x y : Dt} {v : V}, Fm os x y → Rp K G v x → Rp K G' v y
  | _, _, _, .same _, h => h.mono e
  | _, _, _, .lst m, h => by
    cases h
    obtain ⟨vs, h1, h2⟩ := hl _ _ m
    exact .lst h1 h2
  | _, _, _, .lstN m f, h => by
    cases h
    obtain ⟨vs, h1, h2⟩ := hn _ _ m
    exact .lst h1 (Rps.fm e hl hn hi f h2)
  | _, _, _, .ins m f, h => by
    cases h
    obtain ⟨dx, vs, h1, h2⟩ := hi _ _ _ _ m
    exact .ins h1 (Rps.fm e hl hn hi f h2)
  | _, _, _, .tupI f, h => by
    cases h with
    | tup h1 h2 => exact .tup (e _ _ h1) (Rps.fm e hl hn hi f h2)
  | _, _, _, .insI f, h => by
    cases h with
    | ins h1 h2 => exact .ins (e _ _ h1) (Rps.fm e hl hn hi f h2)
theorem Rps.fm (e : Ex G G') (hl : ∀ p ds, (p, Cel.lst ds) ∈ os → ∃ vs, G' p = some (.lst vs) ∧ Rps K G' vs ds) (hn : ∀ p ds, (p, Cel.lst ds) ∈ os → ∃ vs, G' p = some (.lst vs) ∧ Rps K G vs ds) (hi : ∀ p C ns ds, (p, Cel.ins C ns ds) ∈ os → ∃ dx vs, G' p = some (.ins C dx (ns.zip vs)) ∧ Rps K G vs ds) : ∀ {x y : List Dt} {v : List V}, Fms os x y → Rps K G v x → Rps K G' v y
  | _, _, _, .nil, h => by cases h; exact .nil
  | _, _, _, .cons f r, h => by
    cases h with
    | cons h1 h2 => exact .cons (Rp.fm e hl hn hi f h1) (Rps.fm e hl hn hi r h2)
end
/-- all of one's cells lent -/
theorem lend (ow : OwnOk K G H os) (ex : Ex G H) : ∃ Gl, Ex G Gl ∧ Ex Gl H ∧ (∀ {x y : List Dt} {v : List V}, Fms os x y → Rps K G v x → Rps K Gl v y) ∧
    ∀ G2 H2, Gq [] Gl H G2 H2 → Ex G2 H2 → ∃ G3, Gq [] G H G3 H2 ∧ Ex G3 H2 ∧ (∀ a xs, G2 a = some (.tup xs) → G3 a = some (.tup xs)) ∧ (∀ a, G2 a = none → G3 a = none) ∧ Ex G3 G2 ∧ (∀ a o, H a = none → G2 a = some o → G3 a = some o) := by
  classical
  let Gl : Hp := fun a => if a ∈ keys os then H a else G a
  have key : ∀ {a}, a ∈ keys os → G a = none ∧ ∃ c, (a, c) ∈ os ∧ CelOk K G H a c := fun {a} m => by
    obtain ⟨x, hx, e⟩ := List.mem_map.mp m
    obtain ⟨h1, h2⟩ := ow.at_ x hx
    subst e
    exact ⟨h1, x.2, hx, h2⟩
  have gi : ∀ {a}, a ∈ keys os → Gl a = H a := fun m => if_pos m
  have go : ∀ {a}, a ∉ keys os → Gl a = G a := fun m => if_neg m
  have e1 : Ex G Gl := fun a o h => by
    by_cases m : a ∈ keys os
    · rw [(key m).1] at h; cases h
    · rw [go m]; exact h
  have e2 : Ex Gl H := fun a o h => by
    by_cases m : a ∈ keys os
    · rw [gi m] at h; exact h
    · rw [go m] at h; exact ex _ _ h
  have hl : ∀ p ds, (p, Cel.lst ds) ∈ os → ∃ vs, Gl p = some (.lst vs) ∧ Rps K Gl vs ds := fun p ds m => by
    obtain ⟨_, vs, h1, h2⟩ := ow.at_ _ m
    exact ⟨vs, (gi (mem_keys m)).trans h1, h2.mono e1⟩
  have hn : ∀ p ds, (p, Cel.lst ds) ∈ os → ∃ vs, Gl p = some (.lst vs) ∧ Rps K G vs ds := fun p ds m => by
    obtain ⟨_, vs, h1, h2⟩ := ow.at_ _ m
    exact ⟨vs, (gi (mem_keys m)).trans h1, h2⟩
  have hi : ∀ p C ns ds, (p, Cel.ins C ns ds) ∈ os → ∃ dx vs, Gl p = some (.ins C dx (ns.zip vs)) ∧ Rps K G vs ds := fun p C ns ds m => by
    obtain ⟨_, dx, vs, _, h1, h2⟩ := ow.at_ _ m
    exact ⟨dx, vs, (gi (mem_keys m)).trans h1, h2⟩
  refine ⟨Gl, e1, e2, fun f r => Rps.fm e1 hl hn hi f r, fun G2 H2 q ex2 => ?_⟩
  let G3 : Hp := fun a => if a ∈ keys os then none else G2 a
  have g3i : ∀ {a}, a ∈ keys os → G3 a = none := fun m => if_pos m
  have g3o : ∀ {a}, a ∉ keys os → G3 a = G2 a := fun m => if_neg m
  refine ⟨G3, ⟨fun a o h => ?_, fun a o h => ?_, q.keep, q.dom⟩, fun a o h => ?_, fun a xs h => ?_, fun a h => ?_, fun a o h => ?_, fun a o n h => ?_⟩
  · have m : a ∉ keys os := fun m => by rw [(key m).1] at h; cases h
    rw [g3o m]; exact q.ex _ _ (e1 _ _ h)
  · by_cases m : a ∈ keys os
    · rw [g3i m] at h; cases h
    · rw [g3o m] at h
      rcases q.new a o h with z | z
      · rw [go m] at z; exact .inl z
      · exact .inr z
  · by_cases m : a ∈ keys os
    · rw [g3i m] at h; cases h
    · rw [g3o m] at h; exact ex2 _ _ h
  · have m : a ∉ keys os := fun m => by
      obtain ⟨_, c, mc, ck⟩ := key m
      have : G2 a = H a := by
        obtain ⟨o, ho⟩ := ck.some
        rw [ho]
        exact q.ex _ _ ((gi m).trans ho)
      rw [this] at h
      cases c with
      | lst ds => obtain ⟨vs, z, _⟩ := ck; rw [z] at h; cases h
      | dT ds => obtain ⟨vs, l, z, _⟩ := ck; rw [z] at h; cases h
      | ins C ns ds => obtain ⟨dx, vs, l, z, _⟩ := ck; rw [z] at h; cases h
      | dN P w o kbs f => obtain ⟨z, _⟩ := ck; rw [z] at h; cases h
    rw [g3o m]; exact h
  · by_cases m : a ∈ keys os
    · exact g3i m
    · rw [g3o m]; exact h
  · by_cases m : a ∈ keys os
    · rw [g3i m] at h; cases h
    · rw [g3o m] at h; exact h
  · have m : a ∉ keys os := fun m => by
      obtain ⟨_, c, mc, ck⟩ := key m
      obtain ⟨o', ho⟩ := ck.some
      rw [n] at ho; cases ho
    rw [g3o m]; exact h
end
/-- a fresh list is handed back -/
def MadeR (ds : List Dt) : Res → Own → Prop := fun r os' => ∃ p, r = .ok (.adr p) ∧ os' = [(p, .lst ds)]
section
variable {K : Fg} {ss : SS} {os : Own} {ta : TA} {tx : TE} {ds es rs : List Dt} {d x x' : Dt} {E : XK} {n : Nat} {c : Ct}
/-- a call to which one's cells are lent: what it hands back, and what is new of one's own -/
theorem em_callL {P : Res → Own → Prop} (ha : EvA K ta ss os ds) (hf : Fms os ds es) (hn : es.length = n) (hc : c es [] P) (hE : ∀ C os', P (.er C) os' → False) (ht : ∀ d os', P (.ok d) os' → Thin d ∧ ∀ y ∈ os', ThinC y.2) :
    EvM K (tCall (spC K n c) [] E ta) ss os (CallP P os) := fun σ G H R Q q => ha σ G H R _ fun vs G1 H1 q1 e1 r1 => by
  have ow1 := R.ow.grow q1 e1
  obtain ⟨Gl, l1, l2, lf, lb⟩ := lend ow1 e1
  have r2 := lf hf r1
  refine ⟨by rw [List.append_nil, r2.length, hn], es, [], P, Gl, l2, by rw [List.append_nil]; exact r2, ownOk_nil, hc, ?_⟩
  intro r os1 G2 H2 hP q2 e2 o2 n2
  cases r with
  | er C => exact (hE C os1 hP).elim
  | ok d =>
    intro v rv
    obtain ⟨t1, t2⟩ := ht d os1 hP
    obtain ⟨G3, q3, e3, tu, no, _, _⟩ := lb G2 H2 q2 e2
    have o3 : OwnOk K G3 H2 os1 := ⟨o2.nd, fun y m => ⟨no _ (o2.at_ y m).1, CelOk.thin tu (t2 y m) (o2.at_ y m).2⟩⟩
    have ob : OwnOk K G3 H2 (os1 ++ os) := OwnOk.back (osp := []) (by simpa using ow1) (by simpa using q3) e3 o3 (by simpa using n2)
    refine q d _ v G3 H2 ⟨os1, hP, rfl⟩ ((q1.trans q3 (by simp)).wk (by simp)) e3 ob (fun y m => ?_) (Rp.thin tu t1 rv)
    rcases List.mem_append.mp m with m | m
    · rcases n2 y m with z | z
      · exact .inl (q1.dom _ z)
      · simp at z
    · exact .inr (mem_keys m)
theorem ef_callL (ha : EvA K ta ss os ds) (hf : Fms os ds es) (hn : es.length = n) (hc : c es [] (MadeR rs)) (ht : Thins rs) : EvF K (tCall (spC K n c) [] E ta) ss os rs := fun σ G H R Q q => ha σ G H R _ fun vs G1 H1 q1 e1 r1 => by
  have ow1 := R.ow.grow q1 e1
  obtain ⟨Gl, l1, l2, lf, lb⟩ := lend ow1 e1
  have r2 := lf hf r1
  refine ⟨by rw [List.append_nil, r2.length, hn], es, [], MadeR rs, Gl, l2, by rw [List.append_nil]; exact r2, ownOk_nil, hc, ?_⟩
  rintro r os1 G2 H2 ⟨p, rfl, rfl⟩ q2 e2 o2 n2
  intro v rv
  cases rv
  obtain ⟨G3, q3, e3, tu, no, _, _⟩ := lb G2 H2 q2 e2
  obtain ⟨g, ws, h1, h2⟩ := o2.at_ _ List.mem_cons_self
  have np : H1 p = none := by
    rcases n2 _ List.mem_cons_self with z | z
    · exact z
    · simp at z
  exact q p ws G3 H2 (q1.dom _ np) (q1.trans q3 (by simp)) e3 (no _ g) h1 (Rps.thin tu ht h2)
theorem ev_callL (ha : EvA K ta ss os ds) (hf : Fms os ds es) (hn : es.length = n) (hc : c es [] (fun r os' => r = .ok d ∧ os' = [])) (ht : Thin d) : Ev K (tCall (spC K n c) [] E ta) ss os d := fun σ G H R Q q => ha σ G H R _ fun vs G1 H1 q1 e1 r1 => by
  have ow1 := R.ow.grow q1 e1
  obtain ⟨Gl, l1, l2, lf, lb⟩ := lend ow1 e1
  have r2 := lf hf r1
  refine ⟨by rw [List.append_nil, r2.length, hn], es, [], _, Gl, l2, by rw [List.append_nil]; exact r2, ownOk_nil, hc, ?_⟩
  rintro r os1 G2 H2 ⟨rfl, rfl⟩ q2 e2 o2 n2
  intro v rv
  obtain ⟨G3, q3, e3, tu, no, _, _⟩ := lb G2 H2 q2 e2
  exact q v G3 H2 (q1.trans q3 (by simp)) e3 (Rp.thin tu ht rv)
/-- methods -/
theorem ef_methL {C : Addr} {m : Str} {ns : List Str} {fs : List Dt} (hx : Ev K tx ss os x) (l : IV os x C ns fs) (hm : ¬ m ∈ ns) (ha : EvA K ta ss os ds) (hf : Fms os (x :: ds) (x' :: es)) (hn : es.length + 1 = n) (hc : c (x' :: es) [] (MadeR rs)) (ht : Thins rs) :
    EvF K (tMeth C m (spC K n c) [] E tx ta) ss os rs := fun σ G H R Q q => hx σ G H R _ fun xv G0 H0 q0 e0 r0 => by
  obtain ⟨a, dx, vs0, rfl, g, rs0⟩ := (R.grow q0 e0).ins l r0
  refine ⟨a, dx, _, rfl, g, look_no hm, ha σ G0 H0 (R.grow q0 e0) _ fun vs G1 H1 q1' e1 r1 => ?_⟩
  have q1 := q0.trans q1' (by simp)
  have ow1 := R.ow.grow q1 e1
  obtain ⟨Gl, l1, l2, lf, lb⟩ := lend ow1 e1
  have r2 := lf hf (.cons (r0.mono q1'.ex) r1)
  refine ⟨by rw [List.append_nil, r2.length, List.length_cons, hn], x' :: es, [], MadeR rs, Gl, l2, by rw [List.append_nil]; exact r2, ownOk_nil, hc, ?_⟩
  rintro r os1 G2 H2 ⟨p, rfl, rfl⟩ q2 e2 o2 n2
  intro v rv
  cases rv
  obtain ⟨G3, q3, e3, tu, no, _, _⟩ := lb G2 H2 q2 e2
  obtain ⟨g, ws, h1, h2⟩ := o2.at_ _ List.mem_cons_self
  have np : H1 p = none := by
    rcases n2 _ List.mem_cons_self with z | z
    · exact z
    · simp at z
  exact q p ws G3 H2 (q1.dom _ np) (q1.trans q3 (by simp)) e3 (no _ g) h1 (Rps.thin tu ht h2)
/-- a call that hands back a fresh list -/
theorem ef_call (ha : EvA K ta ss os ds) (hn : ds.length = n) (hc : c ds [] (MadeR rs)) : EvF K (tCall (spC K n c) [] E ta) ss os rs := fun σ G H R Q q => ha σ G H R _ fun vs G1 H1 q1 e1 r1 => by
  refine ⟨by rw [List.append_nil, r1.length, hn], ds, [], MadeR rs, G1, e1, by rw [List.append_nil]; exact r1, ownOk_nil, hc, ?_⟩
  rintro r os1 G2 H2 ⟨p, rfl, rfl⟩ q2 e2 o2 n2
  intro v rv
  cases rv
  obtain ⟨g, ws, h1, h2⟩ := o2.at_ _ List.mem_cons_self
  have np : H1 p = none := by
    rcases n2 _ List.mem_cons_self with z | z
    · exact z
    · simp at z
  exact q p ws G2 H2 (q1.dom _ np) (q1.trans q2 (by simp)) e2 g h1 h2
theorem Fms.refl : ∀ ds : List Dt, Fms os ds ds
  | [] => .nil
  | x :: r => .cons (.same x) (Fms.refl r)
end
/-- the end of a def that hands back a fresh list -/
theorem do_retF {K : Fg} {B : Bs} {D : Ends} {te : TE} {ss : SS} {os : Own} {ds : List Dt} (h : EvF K te ss os ds) (k : ∀ p, p ∉ keys os → Rt K B D.rt (.adr p) (os ++ [(p, .lst ds)])) : Do K B (tRet te) ss os D :=
  do_retM (em_F h) fun d os' hp => by
    obtain ⟨p, np, rfl, rfl⟩ := hp
    exact k p np
theorem rt_sub {K : Fg} {B : Bs} {Q : VK} {d : Dt} {os os' : Own} (h : Rt K B Q d os') (hs : ∀ x ∈ os', x ∈ os) (hd : (keys os').Nodup) : Rt K B Q d os := fun v G H b e o r =>
  h v G H ⟨b.gq, fun x m => b.nw x (hs x m)⟩ e ⟨hd, fun x m => o.at_ x (hs x m)⟩ r
end Cy

namespace Cy
open PySem L2
local macro_rules | `(tactic| walk_at "lv") => `(tactic| first | exact LV.lst | exact LV.scr | exact LV.own List.mem_cons_self | exact LV.own (List.mem_cons_of_mem _ List.mem_cons_self) | exact LV.own (List.mem_cons_of_mem _ (List.mem_cons_of_mem _ List.mem_cons_self)) | exact LV.own (List.mem_cons_of_mem _ (List.mem_cons_of_mem _ (List.mem_cons_of_mem _ List.mem_cons_self))))
local macro_rules | `(tactic| walk_at "at") => `(tactic| first | exact at_mapN (by assumption) | exact at_map (by omega) (by assumption) | rfl | exact at_of (by omega) (by assumption))
local macro_rules | `(tactic| walk_at "side") => `(tactic| first | assumption | omega | decide)
local macro_rules | `(tactic| walk_at "ea") => `(tactic| first | exact ea_nil | (apply ea_cons; walk_at "ev"; walk_at "ea"))
local macro_rules | `(tactic| walk_at "et") => `(tactic| first
  | exact et_yes
  | (apply et_B; walk_at "ev")
  | (apply et_T; walk_at "ev")
  | (apply et_not; walk_at "et"))
local macro_rules | `(tactic| walk_at "ev") => `(tactic| first
  | exact ev_var rfl
  | exact ev_cint | exact ev_cbl | exact ev_cstr | exact ev_cnon
  | (apply ev_ii; walk_at "ev"; walk_at "ev")
  | (apply ev_ib; walk_at "ev"; walk_at "ev")
  | (apply ev_eqI; walk_at "ev"; walk_at "ev")
  | (apply ev_neI; walk_at "ev"; walk_at "ev")
  | (apply ev_ixL; walk_at "ev"; walk_at "lv"; walk_at "ev"; walk_at "at")
  | (apply ev_ixT; walk_at "ev"; walk_at "ev"; walk_at "at")
  | (apply ev_len; walk_at "ev"; walk_at "lv")
  | (apply ev_lenT; walk_at "ev")
  | (apply ev_min2; walk_at "ev"; walk_at "ev")
  | (apply ev_max2; walk_at "ev"; walk_at "ev")
  | (apply ev_tup; walk_at "ea"; (first | decide | simp | skip))
  | (apply ev_iC; walk_at "ev"; walk_at "ev"; walk_at "cond")
  | (apply ev_fldI; walk_at "cls"; walk_at "cls"; walk_at "ev"; walk_at "iv"; rfl; rfl; rfl)
  | (apply ev_F; walk_at "ef")
  | walk_at "call")
local macro_rules | `(tactic| walk_at "ef") => `(tactic| first
  | (apply ef_list; walk_at "ev"; walk_at "lv")
  | (apply ef_lst; walk_at "ea"; (first | decide | simp | skip)))
local macro_rules | `(tactic| walk_at "iv") => `(tactic| first | exact IV.ins | exact IV.own List.mem_cons_self | exact IV.own (List.mem_cons_of_mem _ List.mem_cons_self) | exact IV.own (List.mem_cons_of_mem _ (List.mem_cons_of_mem _ List.mem_cons_self)) | exact IV.own (List.mem_cons_of_mem _ (List.mem_cons_of_mem _ (List.mem_cons_of_mem _ List.mem_cons_self))))
local macro_rules | `(tactic| walk_at "cond") => `(tactic| first | exact Or.inr (by decide) | exact Or.inl (by decide) | (exact ⟨by decide, by decide⟩) | (show (0 : Int) < _; first | decide | assumption | omega))
local macro_rules | `(tactic| walk_at "cls") => `(tactic| first | assumption | exact YardF.cls (by assumption) | exact YardF.sizes (by assumption) | exact YardF.held (by assumption))
local macro_rules | `(tactic| walk_at "call") => `(tactic| fail "no call")
theorem at_getD {xs : List Int} {i : Nat} (h : i < xs.length) : atI (xs.map Dt.int) (i : Int) = some (.int (xs.getD i 0)) := at_mapN (getD_some h)
theorem len_int (xs : List Int) : ((xs.map Dt.int).length : Int) = (xs.length : Int) := by rw [List.length_map]
abbrev yd (A : Ad) (rooms : List Int) (x : Dt) : Dt := .ins A.Yard ["sizes", "held"] [iL rooms, x]
def c_within (A : Ad) : Ct := pureC (α := List Int × Int) (fun _ => True) (fun x => [iL x.1, .int x.2]) fun x => .ok (.bl (withinB x.1 x.2))
def rd_within (K : Fg) (A : Ad) : TS :=
  tSeq (tFor (iList K (tVar 0)) (gName 2) 
        (tIfS (tOr (tTest (tOp (rI0 fun i j => V.bl (decide (i < j))) (tVar 2) (tC (V.int 0)))) (tTest (tOp (rI0 fun i j => V.bl (decide (j < i))) (tVar 2) (tVar 1)))) (tRet (tC (V.bl false))) (tNext))) 
      (tRet (tC (V.bl true)))
theorem sem_within {K : Fg} {A : Ad} : ∀ vs H Q E, spC K 2 (c_within A) vs H Q E → rd_within K A { nx := fun _ H' => Q .non H', rt := Q } (start ["numbers", "most", "number"] vs) H :=
  body_ok fun ds os P hl hc B D hfp hR hN => by
    obtain ⟨⟨ns, m⟩, _, rfl, rfl, rfl⟩ := hc
    refine q_forM (ev_var rfl) (fun i ss os => (∃ o, ss = [some (iL ns), some (.int m), o]) ∧ os = [] ∧ ∀ x ∈ ns.take i, 0 ≤ x ∧ x ≤ m) ⟨⟨_, rfl⟩, rfl, by simp⟩ (fun B1 hB i n ss os hn hI => ?_) (fun ss os hI => ?_)
    · obtain ⟨⟨o, rfl⟩, rfl, hx⟩ := hI
      refine ⟨_, tg_name, do_if (et_or (by walk_at "et") fun _ => by walk_at "et") (fun hb => ?_) (fun hb => ?_)⟩
      · refine do_ret ev_cbl ((hR.up hB).rt ⟨?_, rfl⟩)
        have : withinB ns m = false := by
          refine Bool.eq_false_iff.mpr fun h => ?_
          have := withinB_iff.mp h n (List.mem_of_getElem? hn)
          simp at hb
          omega
        show Res.ok _ = Res.ok (.bl (withinB ns m))
        rw [this]
      · refine do_nx (nx_at ⟨⟨_, rfl⟩, rfl, fun x hm => ?_⟩)
        rw [List.take_add_one, hn] at hm
        rcases List.mem_append.mp hm with hm | hm
        · exact hx x hm
        · simp at hb
          have : x = n := by simpa using hm
          omega
    · obtain ⟨⟨o, rfl⟩, rfl, hx⟩ := hI
      rw [List.take_length] at hx
      refine do_ret ev_cbl (hR.rt ⟨?_, rfl⟩)
      show Res.ok _ = Res.ok (.bl (withinB ns m))
      rw [withinB_iff.mpr hx]
def c_l_drawn (A : Ad) : Ct := pureC (α := List Int × Int × Int) (fun x => 0 < x.2.2) (fun x => [.scr x.1, .int x.2.1, .int x.2.2]) fun x => .ok (.int (drawn x.1 x.2.1 x.2.2))
def rd_l_drawn (K : Fg) (A : Ad) : TS :=
  tSeq (tAsg (tC (V.int 7)) (gName 3)) 
      (Evl.tCut (tIfS (tTest (tOp (rI0 fun i j => V.bl (decide (j < i))) (tCB (Evl.rLenS K) (tCons (tVar 0) (tNil))) (tC (V.int 0)))) (tAsg (tOp (rIxL K) (tVar 0) (tOp (rI (fun _ j => 0 < j) fun i j => V.int (i % j)) (tVar 1) (tCB (Evl.rLenS K) (tCons (tVar 0) (tNil))))) (gName 3)) (tNext)) 
      (tSeq (tAsg (tOp (rI (fun _ j => 0 < j) fun i j => V.int (i % j)) (tOp (rI0 fun i j => V.int (i + j)) (tOp (rI0 fun i j => V.int (i + j)) (tOp (rI CMul fun i j => V.int (i * j)) (tVar 3) (tC (V.int 48271))) (tOp (rI CMul fun i j => V.int (i * j)) (tOp (rI0 fun i j => V.int (i + j)) (tVar 1) (tC (V.int 1))) (tC (V.int 7919)))) (tCB (Evl.rLenS K) (tCons (tVar 0) (tNil)))) (tC (V.int 2147483647))) (gName 4)) 
      (tSeq (tAsg (tOp (rI (fun _ j => 0 < j) fun i j => V.int (i % j)) (tOp (rI0 fun i j => V.int (i + j)) (tOp (rI0 fun i j => V.int (i + j)) (tOp (rI CMul fun i j => V.int (i * j)) (tVar 4) (tVar 4)) (tOp (rI CMul fun i j => V.int (i * j)) (tVar 1) (tC (V.int 16807)))) (tC (V.int 11))) (tC (V.int 2147483647))) (gName 4)) 
      (tRet (tOp (rI (fun _ j => 0 < j) fun i j => V.int (i % j)) (tOp (rI CDivN fun i j => V.int (i.fdiv j)) (tOp (rI (fun _ j => 0 < j) fun i j => V.int (i % j)) (tOp (rI CMul fun i j => V.int (i * j)) (tVar 4) (tC (V.int 48271))) (tC (V.int 2147483647))) (tC (V.int 16))) (tVar 2))))))
theorem cmul_sq {a : Int} (h : 0 ≤ a ∧ a < 2147483647) : CMul a a := .inl ⟨by omega, by omega⟩
theorem sem_l_drawn {K : Fg} {A : Ad} : ∀ vs H Q E, spC K 3 (c_l_drawn A) vs H Q E → rd_l_drawn K A { nx := fun _ H' => Q .non H', rt := Q } (start ["script", "k", "many", "cell", "stir"] vs) H :=
  body_ok fun ds os P hl hc B D hfp hR hN => by
    obtain ⟨⟨ns, k, many⟩, hm, rfl, rfl, rfl⟩ := hc
    have hm : 0 < many := hm
    refine q_asg ev_cint (do_cut (fun ss os => ss = [some (.scr ns), some (.int k), some (.int many), some (.int (cellD ns k)), none] ∧ os = []) (do_if (by walk_at "et") (fun hb => ?_) (fun hb => ?_)) ?_)
    · have hl : 0 < ns.length := by simpa using hb
      have hp : (0 : Int) < (ns.length : Int) := by omega
      have h1 := Int.emod_nonneg k (show (ns.length : Int) ≠ 0 by omega)
      have h2 := Int.emod_lt_of_pos k hp
      have hg : ns[(k % (ns.length : Int)).toNat]? = some (cellD ns k) := by
        unfold cellD
        rw [if_pos hl]
        exact getD_some (by omega)
      refine do_asg (ev_ixL (ev_var rfl) LV.scr (ev_iC (by walk_at "ev") (by walk_at "ev") (by simpa using hp)) (by
        have := at_map (f := Dt.int) h1 hg
        simpa using this)) (nx_at ⟨rfl, rfl⟩)
    · have hl : ¬ 0 < ns.length := by simpa using hb
      refine do_nx (nx_at ⟨?_, rfl⟩)
      unfold cellD
      rw [if_neg hl]
      rfl
    · rintro ss os ⟨rfl, rfl⟩
      refine q_asg (by walk_at "ev") ?_
      refine q_asg (ev_iC (ev_ii (ev_ii (ev_iC (ev_var rfl) (ev_var rfl) (cmul_sq ⟨Int.emod_nonneg _ (by decide), Int.emod_lt_of_pos _ (by decide)⟩)) (by walk_at "ev")) ev_cint) ev_cint (by decide)) ?_
      refine do_ret (ev_iC (by walk_at "ev") (ev_var rfl) hm) (hR.rt ⟨?_, rfl⟩)
      show Res.ok _ = Res.ok (.int (drawn ns k many))
      unfold drawn
      simp only [List.length_map]
def c_see_day (A : Ad) : Ct := pureC (α := List Int × Dt × Day) (fun _ => True) (fun x => [yd A x.1 x.2.1, dayD x.2.2]) fun x => if dayOk x.1.length x.2.2 then .ok .non else .er A.BadDays
def rd_see_day (K : Fg) (A : Ad) (E : XK) : TS :=
  tFor (iList K (tLst (tCons (tOp (rIxT K) (tVar 1) (tC (V.int 0))) (tCons (tOp (rIxT K) (tVar 1) (tC (V.int 1))) (tNil))))) (gName 2) 
        (tIfS (tOr (tTest (tOp (rNe) (tCB (Evl.rLenS K) (tCons (tVar 2) (tNil))) (tCB (Evl.rLenS K) (tCons (tFld K (tVar 0) "sizes") (tNil))))) (tNot (tB (tCall (spC K 2 (c_within A)) [] E0 (tCons (tVar 2) (tCons (tC (V.int 30)) (tNil))))))) (tRaise E A.BadDays) (tNext))
theorem sem_see_day {K : Fg} {A : Ad} (Y : YardF K A) : ∀ vs H Q E, spC K 2 (c_see_day A) vs H Q E → rd_see_day K A E { nx := fun _ H' => Q .non H', rt := Q } (start ["yard", "day", "numbers"] vs) H :=
  body_okX fun ds os P E hl hc B D hfp hR hE hN => by
    obtain ⟨⟨rooms, x, r, w⟩, _, rfl, rfl, rfl⟩ := hc
    refine do_forM (xs := [r, w]) (f0 := iL) (ev_F (ef_lst (ea_cons (ev_ixT (ev_var rfl) ev_cint rfl) (ea_cons (ev_ixT (ev_var rfl) ev_cint rfl) ea_nil)) (by simp))) (fun i ss os => (∃ o, ss = [some (yd A rooms x), some (dayD (r, w)), o]) ∧ os = [] ∧ ∀ z ∈ [r, w].take i, lOk rooms.length z = true) ⟨⟨_, rfl⟩, rfl, by simp⟩ (fun B1 hB i z ss os hz hI => ?_) (fun ss os hI => ?_)
    · obtain ⟨⟨o, rfl⟩, rfl, hx⟩ := hI
      refine ⟨_, tg_name, do_if (et_or (by walk_at "et") fun _ => et_not (et_B (ev_call (z, 30) (by walk_at "ea") rfl trivial rfl))) (fun hb => ?_) (fun hb => ?_)⟩
      · refine do_raise ((hE.up hB).xt ⟨?_, rfl⟩)
        have : dayOk rooms.length (r, w) = false := by
          refine Bool.eq_false_iff.mpr fun h => ?_
          have h1 := dayOk_iff.mp h
          have h2 : lOk rooms.length z = true := by
            have := List.mem_of_getElem? hz
            simp at this
            rcases this with rfl | rfl
            · exact h1.1
            · exact h1.2
          have h3 := lOk_iff.mp h2
          simp [h3.2] at hb
          omega
        show Res.er _ = if dayOk rooms.length (r, w) then Res.ok .non else .er A.BadDays
        rw [this]
        rfl
      · refine do_nx (nx_at ⟨⟨_, rfl⟩, rfl, fun y hm => ?_⟩)
        rw [List.take_add_one, hz] at hm
        rcases List.mem_append.mp hm with hm | hm
        · exact hx y hm
        · have : y = z := by simpa using hm
          subst this
          simp at hb
          exact lOk_iff.mpr ⟨by omega, hb.2⟩
    · obtain ⟨⟨o, rfl⟩, rfl, hx⟩ := hI
      have : dayOk rooms.length (r, w) = true := dayOk_iff.mpr ⟨hx r (by simp), hx w (by simp)⟩
      refine hN _ (Bs.Le.refl _) _ _ ⟨?_, rfl⟩
      show Res.ok .non = if dayOk rooms.length (r, w) then Res.ok .non else .er A.BadDays
      rw [this]
      rfl
def c_see_days (A : Ad) : Ct := pureC (α := List Int × Dt × List Day) (fun _ => True) (fun x => [yd A x.1 x.2.1, daysD x.2.2]) fun x => if daysOk x.1.length x.2.2 then .ok .non else .er A.BadDays
def rd_see_days (K : Fg) (A : Ad) (E : XK) : TS :=
  tSeq (tIfS (tTest (tOp (rI0 fun i j => V.bl (decide (j < i))) (tCB (Evl.rLenS K) (tCons (tVar 1) (tNil))) (tC (V.int 8)))) (tRaise E A.BadDays) (tNext)) 
      (tFor (iList K (tVar 1)) (gName 2) 
        (tDrop (tCall (spC K 2 (c_see_day A)) [] E (tCons (tVar 0) (tCons (tVar 2) (tNil))))))
theorem sem_see_days {K : Fg} {A : Ad} (Y : YardF K A) : ∀ vs H Q E, spC K 2 (c_see_days A) vs H Q E → rd_see_days K A E { nx := fun _ H' => Q .non H', rt := Q } (start ["yard", "days", "day"] vs) H :=
  body_okX fun ds os P E hl hc B D hfp hR hE hN => by
    obtain ⟨⟨rooms, x, days⟩, _, rfl, rfl, rfl⟩ := hc
    refine q_when (by walk_at "et") (fun hb => do_raise (hE.xt ⟨?_, rfl⟩)) (fun hb => ?_)
    · have : daysOk rooms.length days = false := by
        refine Bool.eq_false_iff.mpr fun h => ?_
        have := (daysOk_iff.mp h).1
        simp at hb
        omega
      show Res.er _ = if daysOk rooms.length days then Res.ok .non else .er A.BadDays
      rw [this]
      rfl
    · have h8 : days.length ≤ 8 := by simp at hb; omega
      refine do_forM (ev_var rfl) (fun i ss os => (∃ o, ss = [some (yd A rooms x), some (daysD days), o]) ∧ os = [] ∧ ∀ z ∈ days.take i, dayOk rooms.length z = true) ⟨⟨_, rfl⟩, rfl, by simp⟩ (fun B1 hB i z ss os hz hI => ?_) (fun ss os hI => ?_)
      · obtain ⟨⟨o, rfl⟩, rfl, hx⟩ := hI
        refine ⟨_, tg_name, do_callX (ds := [yd A rooms x, dayD z]) (osp := []) (osr := []) (by walk_at "ea") rfl (List.Perm.refl _) ⟨(rooms, x, z), trivial, rfl, rfl, rfl⟩ (fun d os1 h => ?_) (fun C os1 h => ?_)⟩
        · obtain ⟨h, rfl⟩ := h
          have hz2 : dayOk rooms.length z = true := by
            cases e : dayOk rooms.length z with
            | true => rfl
            | false =>
              have h : Res.ok d = if dayOk rooms.length z then Res.ok .non else .er A.BadDays := h
              rw [e] at h; cases h
          refine nx_at ⟨⟨_, rfl⟩, rfl, fun y hm => ?_⟩
          rw [List.take_add_one, hz] at hm
          rcases List.mem_append.mp hm with hm | hm
          · exact hx y hm
          · have : y = z := by simpa using hm
            subst this
            exact hz2
        · obtain ⟨h, rfl⟩ := h
          have h : Res.er C = if dayOk rooms.length z then Res.ok .non else .er A.BadDays := h
          cases e : dayOk rooms.length z with
          | true => rw [e] at h; cases h
          | false =>
            rw [e] at h
            cases h
            refine (hE.up hB).xt ⟨?_, rfl⟩
            have : daysOk rooms.length days = false := by
              refine Bool.eq_false_iff.mpr fun h => ?_
              have := (daysOk_iff.mp h).2 z (List.mem_of_getElem? hz)
              rw [e] at this; cases this
            show Res.er _ = if daysOk rooms.length days then Res.ok .non else .er A.BadDays
            rw [this]
            rfl
      · obtain ⟨⟨o, rfl⟩, rfl, hx⟩ := hI
        rw [List.take_length] at hx
        refine hN _ (Bs.Le.refl _) _ _ ⟨?_, rfl⟩
        show Res.ok .non = if daysOk rooms.length days then Res.ok .non else .er A.BadDays
        rw [daysOk_iff.mpr ⟨h8, hx⟩]
        rfl
end Cy

namespace Cy
open PySem L2
local macro_rules | `(tactic| walk_at "lv") => `(tactic| first | exact LV.lst | exact LV.scr | exact LV.own List.mem_cons_self | exact LV.own (List.mem_cons_of_mem _ List.mem_cons_self) | exact LV.own (List.mem_cons_of_mem _ (List.mem_cons_of_mem _ List.mem_cons_self)) | exact LV.own (List.mem_cons_of_mem _ (List.mem_cons_of_mem _ (List.mem_cons_of_mem _ List.mem_cons_self))))
local macro_rules | `(tactic| walk_at "at") => `(tactic| first | exact at_mapN (by assumption) | exact at_map (by omega) (by assumption) | rfl | exact at_of (by omega) (by assumption))
local macro_rules | `(tactic| walk_at "side") => `(tactic| first | assumption | omega | decide)
local macro_rules | `(tactic| walk_at "ea") => `(tactic| first | exact ea_nil | (apply ea_cons; walk_at "ev"; walk_at "ea"))
local macro_rules | `(tactic| walk_at "et") => `(tactic| first
  | exact et_yes
  | (apply et_B; walk_at "ev")
  | (apply et_T; walk_at "ev")
  | (apply et_not; walk_at "et"))
local macro_rules | `(tactic| walk_at "ev") => `(tactic| first
  | exact ev_var rfl
  | exact ev_cint | exact ev_cbl | exact ev_cstr | exact ev_cnon
  | (apply ev_ii; walk_at "ev"; walk_at "ev")
  | (apply ev_ib; walk_at "ev"; walk_at "ev")
  | (apply ev_eqI; walk_at "ev"; walk_at "ev")
  | (apply ev_neI; walk_at "ev"; walk_at "ev")
  | (apply ev_ixL; walk_at "ev"; walk_at "lv"; walk_at "ev"; walk_at "at")
  | (apply ev_ixT; walk_at "ev"; walk_at "ev"; walk_at "at")
  | (apply ev_len; walk_at "ev"; walk_at "lv")
  | (apply ev_lenT; walk_at "ev")
  | (apply ev_min2; walk_at "ev"; walk_at "ev")
  | (apply ev_max2; walk_at "ev"; walk_at "ev")
  | (apply ev_tup; walk_at "ea"; (first | decide | simp | skip))
  | (apply ev_iC; walk_at "ev"; walk_at "ev"; walk_at "cond")
  | (apply ev_fldI; walk_at "cls"; walk_at "cls"; walk_at "ev"; walk_at "iv"; rfl; rfl; rfl)
  | (apply ev_F; walk_at "ef")
  | walk_at "call")
local macro_rules | `(tactic| walk_at "ef") => `(tactic| first
  | (apply ef_list; walk_at "ev"; walk_at "lv")
  | (apply ef_lst; walk_at "ea"; (first | decide | simp | skip)))
local macro_rules | `(tactic| walk_at "iv") => `(tactic| first | exact IV.ins | exact IV.own List.mem_cons_self | exact IV.own (List.mem_cons_of_mem _ List.mem_cons_self) | exact IV.own (List.mem_cons_of_mem _ (List.mem_cons_of_mem _ List.mem_cons_self)) | exact IV.own (List.mem_cons_of_mem _ (List.mem_cons_of_mem _ (List.mem_cons_of_mem _ List.mem_cons_self))))
local macro_rules | `(tactic| walk_at "cond") => `(tactic| first | exact Or.inr (by decide) | exact Or.inl (by decide) | (exact ⟨by decide, by decide⟩) | (show (0 : Int) < _; first | decide | assumption | omega))
local macro_rules | `(tactic| walk_at "cls") => `(tactic| first | assumption | exact YardF.cls (by assumption) | exact YardF.sizes (by assumption) | exact YardF.held (by assumption))
local macro_rules | `(tactic| walk_at "call") => `(tactic| fail "no call")
local macro_rules | `(tactic| walk_at "at") => `(tactic| exact at_getD (by first | assumption | omega))
theorem setC_one {p : Addr} {c c' : Cel} : setC [(p, c)] p c' = [(p, c')] := by simp [setC]
theorem setC_fst {p : Addr} {c c' : Cel} {r : Own} (h : p ∉ keys r) : setC ((p, c) :: r) p c' = (p, c') :: r := by
  unfold setC
  rw [List.map_cons]
  congr 1
  · simp
  · have : ∀ x ∈ r, (if x.1 = p then (p, c') else x) = x := fun x m => if_neg fun (e : x.1 = p) => h (by rw [← e]; exact mem_keys m)
    rw [List.map_congr_left this, List.map_id'']
    intro x; rfl
theorem setC_snd {p q : Addr} {c d' : Cel} {r : Own} (h : p ≠ q) : setC ((p, c) :: r) q d' = (p, c) :: setC r q d' := by
  unfold setC
  rw [List.map_cons]
  congr 1
  simp [h]
theorem yardOk_iff {rooms waters : List Int} : yardOk rooms waters = true ↔ (1 ≤ rooms.length ∧ rooms.length ≤ 4 ∧ waters.length = rooms.length ∧ withinB rooms 50 = true ∧ ∀ k, k < rooms.length → 0 ≤ waters.getD k 0 ∧ waters.getD k 0 ≤ rooms.getD k 0) := by
  simp [yardOk]
def c_Yard_init (A : Ad) : Ct := fun ds os P => ∃ p rooms waters, ds = [.adr p, iL rooms, iL waters] ∧ os = [(p, .ins A.Yard [] [])] ∧ P = fun r os' =>
  if yardOk rooms waters then r = .ok .non ∧ ∃ h, h ≠ p ∧ os' = [(p, .ins A.Yard ["sizes", "held"] [iL rooms, .adr h]), (h, .lst (waters.map Dt.int))] else r = .er A.BadYard
def rd_Yard_init (K : Fg) (A : Ad) (E : XK) : TS :=
  tSeq (tIfS (tOr (tTest (tOp (rI0 fun i j => V.bl (decide (i < j))) (tCB (Evl.rLenS K) (tCons (tVar 1) (tNil))) (tC (V.int 1)))) (tOr (tTest (tOp (rI0 fun i j => V.bl (decide (j < i))) (tCB (Evl.rLenS K) (tCons (tVar 1) (tNil))) (tC (V.int 4)))) (tTest (tOp (rNe) (tCB (Evl.rLenS K) (tCons (tVar 2) (tNil))) (tCB (Evl.rLenS K) (tCons (tVar 1) (tNil))))))) (tRaise E A.BadYard) (tNext)) 
      (tSeq (tIfS (tNot (tB (tCall (spC K 2 (c_within A)) [] E0 (tCons (tVar 1) (tCons (tC (V.int 50)) (tNil)))))) (tRaise E A.BadYard) (tNext)) 
      (tSeq (tFor (iRng1 (tCons (tCB (Evl.rLenS K) (tCons (tVar 1) (tNil))) (tNil))) (gName 3) 
        (tIfS (tOr (tTest (tOp (rI0 fun i j => V.bl (decide (i < j))) (tOp (rIxL K) (tVar 2) (tVar 3)) (tC (V.int 0)))) (tTest (tOp (rI0 fun i j => V.bl (decide (j < i))) (tOp (rIxL K) (tVar 2) (tVar 3)) (tOp (rIxL K) (tVar 1) (tVar 3))))) (tRaise E A.BadYard) (tNext))) 
      (tSeq (sFld K (tVar 0) (tCB (Evl.rListS K) (tCons (tVar 1) (tNil))) "sizes") 
      (sFld K (tVar 0) (tCB (Evl.rListS K) (tCons (tVar 2) (tNil))) "held"))))
theorem sem_Yard_init {K : Fg} {A : Ad} (Y : YardF K A) : ∀ vs H Q E, spC K 3 (c_Yard_init A) vs H Q E → rd_Yard_init K A E { nx := fun _ H' => Q .non H', rt := Q } (start ["self", "rooms", "waters", "k"] vs) H :=
  body_okX fun ds os P E hl hc B D hfp hR hE hN => by
    obtain ⟨p, rooms, waters, rfl, rfl, rfl⟩ := hc
    have bad : ¬ yardOk rooms waters = true → ∀ {B' os}, B.Le B' → Xt K B' E A.BadYard os := fun h B' os le => hE B' le A.BadYard os (by simp only [if_neg h])
    refine q_when (et_or (by walk_at "et") fun _ => et_or (by walk_at "et") fun _ => by walk_at "et") (fun hb => do_raise (bad ?_ (Bs.Le.refl _))) (fun hb => ?_)
    · intro h
      obtain ⟨h1, h2, h3, _⟩ := yardOk_iff.mp h
      simp at hb
      omega
    simp at hb
    refine q_when (et_not (et_B (ev_call (rooms, 50) (by walk_at "ea") rfl trivial rfl))) (fun h5 => do_raise (bad ?_ (Bs.Le.refl _))) (fun h5 => ?_)
    · intro h
      obtain ⟨_, _, _, h4, _⟩ := yardOk_iff.mp h
      simp [h4] at h5
    have h5 : withinB rooms 50 = true := by simpa using h5
    have hw : waters.length = rooms.length := by omega
    refine q_forR (ea_cons (by walk_at "ev") ea_nil) (by rw [len_int]; omega) (by rw [len_int]; omega) (fun i ss os => (∃ o, ss = [some (.adr p), some (iL rooms), some (iL waters), o]) ∧ os = [(p, .ins A.Yard [] [])] ∧ ∀ k, k < i → 0 ≤ waters.getD k 0 ∧ waters.getD k 0 ≤ rooms.getD k 0) ⟨⟨_, rfl⟩, rfl, by omega⟩ (fun i ss os hi hI => ?_) (fun ss os hI => ?_)
    · obtain ⟨⟨o, rfl⟩, rfl, hx⟩ := hI
      have hi : i < rooms.length := by simpa using hi
      have hi2 : i < waters.length := by omega
      refine do_if (et_or (by walk_at "et") fun _ => by walk_at "et") (fun hb => do_raise (bad ?_ (Bs.Le.refl _))) (fun hb => do_nx (nx_at ⟨⟨_, rfl⟩, rfl, fun k hk => ?_⟩))
      · intro h
        have := (yardOk_iff.mp h).2.2.2.2 i hi
        simp [-List.getD_eq_getElem?_getD] at hb
        omega
      · by_cases e : k = i
        · subst e
          simp [-List.getD_eq_getElem?_getD] at hb
          omega
        · exact hx k (by omega)
    · obtain ⟨⟨o, rfl⟩, rfl, hx⟩ := hI
      have hx : ∀ k, k < rooms.length → 0 ≤ waters.getD k 0 ∧ waters.getD k 0 ≤ rooms.getD k 0 := fun k hk => hx k (by simpa using hk)
      have ok : yardOk rooms waters = true := yardOk_iff.mpr ⟨by omega, by omega, hw, h5, hx⟩
      refine q_fld Y.cls Y.sizes (by walk_at "ev") (ev_var rfl) List.mem_cons_self (by simp) (by simp) ?_
      rw [setC_one]
      refine do_fldM Y.cls Y.held (em_F (ef_list (ev_var rfl) LV.lst)) rfl fun d os' hd => ?_
      obtain ⟨h, nh, rfl, rfl⟩ := hd
      have ne : h ≠ p := by simpa using nh
      refine ⟨_, _, List.mem_append_left _ List.mem_cons_self, by decide, by simp, ?_⟩
      refine hN _ (Bs.Le.refl _) _ _ ?_
      show (if yardOk rooms waters = true then _ else _)
      rw [if_pos ok]
      refine ⟨rfl, h, ne, ?_⟩
      show setC ((p, _) :: [(h, _)]) p _ = _
      rw [setC_fst (by simpa using ne.symm)]
      rfl
def c_Yard_rooms (A : Ad) : Ct := fun ds os P => ∃ rooms x, ds = [yd A rooms x] ∧ os = [] ∧ P = MadeR (rooms.map Dt.int)
def rd_Yard_rooms (K : Fg) (A : Ad) : TS :=
  tRet (tCB (Evl.rListS K) (tCons (tFld K (tVar 0) "sizes") (tNil)))
theorem sem_Yard_rooms {K : Fg} {A : Ad} (Y : YardF K A) : ∀ vs H Q E, spC K 1 (c_Yard_rooms A) vs H Q E → rd_Yard_rooms K A { nx := fun _ H' => Q .non H', rt := Q } (start ["self"] vs) H :=
  body_ok fun ds os P hl hc B D hfp hR hN => by
    obtain ⟨rooms, x, rfl, rfl, rfl⟩ := hc
    exact do_retF (ef_list (by walk_at "ev") LV.lst) fun p _ => hR.rt ⟨p, rfl, rfl⟩
def c_Yard_waters (A : Ad) : Ct := fun ds os P => ∃ rooms held, ds = [yardD A rooms held] ∧ os = [] ∧ P = MadeR (held.map Dt.int)
def rd_Yard_waters (K : Fg) (A : Ad) : TS :=
  tRet (tCB (Evl.rListS K) (tCons (tFld K (tVar 0) "held") (tNil)))
theorem sem_Yard_waters {K : Fg} {A : Ad} (Y : YardF K A) : ∀ vs H Q E, spC K 1 (c_Yard_waters A) vs H Q E → rd_Yard_waters K A { nx := fun _ H' => Q .non H', rt := Q } (start ["self"] vs) H :=
  body_ok fun ds os P hl hc B D hfp hR hN => by
    obtain ⟨rooms, x, rfl, rfl, rfl⟩ := hc
    exact do_retF (ef_list (by walk_at "ev") LV.lst) fun p _ => hR.rt ⟨p, rfl, rfl⟩
def c_Yard_day (A : Ad) : Ct := fun ds os P => ∃ rooms held h day, held.length = rooms.length ∧ rooms.length ≤ 4 ∧ ds = [yardO A rooms h, iL (Prod.fst day), iL (Prod.snd day)] ∧ os = [(h, .lst (held.map Dt.int))] ∧ P = fun r os' =>
  if dayOk rooms.length day then let s := dayRun rooms held day.1 day.2; ∃ q, q ≠ h ∧ r = .ok (.tup [.adr q, .int s.over]) ∧ os' = [(h, .lst (s.held.map Dt.int)), (q, .lst (s.drawn.map Dt.int))]
  else r = .er A.BadDays ∧ os' = [(h, .lst (held.map Dt.int))]
def rd_Yard_day (K : Fg) (A : Ad) (E : XK) : TS :=
  tSeq (tDrop (tCall (spC K 2 (c_see_day A)) [] E (tCons (tVar 0) (tCons (tTup (tCons (tVar 1) (tCons (tVar 2) (tNil)))) (tNil))))) 
      (tSeq (tAsg (tLst (tNil)) (gName 3)) 
      (tSeq (tAsg (tC (V.int 0)) (gName 4)) 
      (tSeq (tFor (iRng1 (tCons (tCB (Evl.rLenS K) (tCons (tFld K (tVar 0) "sizes") (tNil))) (tNil))) (gName 5) 
        (tSeq (tAsg (tOp (rI0 fun i j => V.int (i + j)) (tOp (rI0 fun i j => V.int (i + j)) (tOp (rIxL K) (tFld K (tVar 0) "held") (tVar 5)) (tOp (rIxL K) (tVar 1) (tVar 5))) (tVar 4)) (gName 6)) 
        (tSeq (tDrop (tBM K "list" rAppend (tVar 3) (tCons (tCB (rMin2) (tCons (tVar 6) (tCons (tOp (rIxL K) (tVar 2) (tVar 5)) (tNil)))) (tNil)))) 
        (tSeq (tAsg (tOp (rI0 fun i j => V.int (i - j)) (tVar 6) (tOp (rIxL K) (tVar 3) (tVar 5))) (gName 6)) 
        (tSeq (tAsg (tCB (rMin2) (tCons (tVar 6) (tCons (tOp (rIxL K) (tFld K (tVar 0) "sizes") (tVar 5)) (tNil)))) (gSub (tFld K (tVar 0) "held") (tVar 5) rSetL)) 
        (tAsg (tOp (rI0 fun i j => V.int (i - j)) (tVar 6) (tOp (rIxL K) (tFld K (tVar 0) "held") (tVar 5))) (gName 4))))))) 
      (tRet (tTup (tCons (tVar 3) (tCons (tVar 4) (tNil))))))))
theorem sem_Yard_day {K : Fg} {A : Ad} (Y : YardF K A) : ∀ vs H Q E, spC K 3 (c_Yard_day A) vs H Q E → rd_Yard_day K A E { nx := fun _ H' => Q .non H', rt := Q } (start ["self", "rain", "wishes", "drawn", "over", "k", "water"] vs) H :=
  body_okX fun ds os P E hl hc B D hfp hR hE hN => by
    obtain ⟨rooms, held, h, ⟨rain, wishes⟩, hh, h4, rfl, rfl, rfl⟩ := hc
    refine q_callX (ds := [yardO A rooms h, dayD (rain, wishes)]) (osp := []) (osr := [(h, .lst (held.map Dt.int))]) (by walk_at "ea") rfl (List.Perm.refl _) ⟨(rooms, .adr h, rain, wishes), trivial, rfl, rfl, rfl⟩ (fun d os1 hr => ?_) (fun C os1 hr => ?_)
    case refine_2 =>
      obtain ⟨hr, rfl⟩ := hr
      have hr : Res.er C = if dayOk rooms.length (rain, wishes) then Res.ok .non else .er A.BadDays := hr
      cases e : dayOk rooms.length (rain, wishes) with
      | true => rw [e] at hr; cases hr
      | false =>
        rw [e] at hr
        cases hr
        exact hE.xt (by rw [if_neg (by rw [e]; decide)]; exact ⟨rfl, rfl⟩)
    obtain ⟨hr, rfl⟩ := hr
    have ok : dayOk rooms.length (rain, wishes) = true := by
      cases e : dayOk rooms.length (rain, wishes) with
      | true => rfl
      | false =>
        have hr : Res.ok d = if dayOk rooms.length (rain, wishes) then Res.ok .non else .er A.BadDays := hr
        rw [e] at hr; cases hr
    have h1 : rain.length = rooms.length := (lOk_iff.mp (dayOk_iff.mp ok).1).1
    have h2 : wishes.length = rooms.length := (lOk_iff.mp (dayOk_iff.mp ok).2).1
    refine q_asgM (em_F (ef_lst ea_nil (by decide))) fun d os' hd => ?_
    obtain ⟨q, nq, rfl, rfl⟩ := hd
    have nq : q ≠ h := by simpa using nq
    refine q_asg ev_cint ?_
    refine q_forR (ea_cons (by walk_at "ev") ea_nil) (by rw [len_int]; omega) (by rw [len_int]; omega) (fun i ss os => let s := iter (dayStep rooms rain wishes) ⟨[], held, 0⟩ i
      (∃ o1 o2, ss = [some (yardO A rooms h), some (iL rain), some (iL wishes), some (.adr q), some (.int s.over), o1, o2]) ∧ os = [(h, .lst (s.held.map Dt.int)), (q, .lst (s.drawn.map Dt.int))]) ⟨⟨_, _, rfl⟩, rfl⟩ (fun i ss os hi hI => ?_) (fun ss os hI => ?_)
    · obtain ⟨⟨o1, o2, rfl⟩, rfl⟩ := hI
      have hi : i < rooms.length := by simpa using hi
      have l1 := iter_held (rooms := rooms) (rain := rain) (wishes := wishes) ⟨[], held, 0⟩ i
      have l2 := iter_drawn (rooms := rooms) (rain := rain) (wishes := wishes) ⟨[], held, 0⟩ i
      have es : iter (dayStep rooms rain wishes) ⟨[], held, 0⟩ (i + 1) = dayStep rooms rain wishes i (iter (dayStep rooms rain wishes) ⟨[], held, 0⟩ i) := rfl
      generalize iter (dayStep rooms rain wishes) ⟨[], held, 0⟩ i = s at l1 l2 es ⊢
      have l1 : s.held.length = held.length := l1
      have l2 : s.drawn.length = i := by simpa using l2
      have i1 : i < s.held.length := by omega
      have i2 : i < rain.length := by omega
      have i3 : i < wishes.length := by omega
      refine q_asg (by walk_at "ev") ?_
      refine q_app (ev_var rfl) (List.mem_cons_of_mem _ List.mem_cons_self) (by walk_at "ev") (by rw [List.length_map]; omega) ?_
      rw [setC_snd nq.symm, setC_one]
      have e2 : ∀ z : Int, s.drawn.map Dt.int ++ [Dt.int z] = (s.drawn ++ [z]).map Dt.int := fun z => by simp
      rw [e2]
      refine q_asg (ev_ii (ev_var rfl) (ev_ixL (ev_var rfl) (.own (List.mem_cons_of_mem _ List.mem_cons_self)) (ev_var rfl) (at_mapN (f := Dt.int) (v := min (s.held.getD i 0 + rain.getD i 0 + s.over) (wishes.getD i 0)) (by rw [← l2]; simp)))) ?_
      refine q_setL (by walk_at "ev") (by walk_at "ev") List.mem_cons_self (ev_var rfl) (by omega) (by rw [List.length_map]; omega) ?_
      rw [setC_fst (by simpa using nq.symm), List.map_set.symm, Int.toNat_natCast]
      refine do_asg (ev_ii (ev_var rfl) (ev_ixL (by walk_at "ev") (.own List.mem_cons_self) (ev_var rfl) (at_mapN (f := Dt.int) (v := min (s.held.getD i 0 + rain.getD i 0 + s.over - min (s.held.getD i 0 + rain.getD i 0 + s.over) (wishes.getD i 0)) (rooms.getD i 0)) (by simp [i1])))) (nx_at ?_)
      show (∃ o1 o2, _ = _) ∧ _ = _
      rw [es]
      exact ⟨⟨_, _, rfl⟩, rfl⟩
    · obtain ⟨⟨o1, o2, rfl⟩, rfl⟩ := hI
      refine do_ret (by walk_at "ev") (hR.rt ?_)
      rw [if_pos ok]
      refine ⟨q, nq, ?_, ?_⟩
      · rw [List.length_map, Int.toNat_natCast]
        rfl
      · rw [List.length_map, Int.toNat_natCast]
        rfl
end Cy

namespace Cy
open PySem L2
theorem ev_drawn {K : Fg} {A : Ad} {ta tb tc : TE} {ss : SS} {os : Own} {E : XK} {ns : List Int} {k many : Int} (ha : Ev K ta ss os (.scr ns)) (hb : Ev K tb ss os (.int k)) (hc : Ev K tc ss os (.int many)) (h : 0 < many) :
    Ev K (tCall (spC K 3 (c_l_drawn A)) [] E (tCons ta (tCons tb (tCons tc tNil)))) ss os (.int (drawn ns k many)) := ev_call (ns, k, many) (ea_cons ha (ea_cons hb (ea_cons hc ea_nil))) rfl h rfl
local macro_rules | `(tactic| walk_at "lv") => `(tactic| first | exact LV.lst | exact LV.scr | exact LV.own List.mem_cons_self | exact LV.own (List.mem_cons_of_mem _ List.mem_cons_self) | exact LV.own (List.mem_cons_of_mem _ (List.mem_cons_of_mem _ List.mem_cons_self)) | exact LV.own (List.mem_cons_of_mem _ (List.mem_cons_of_mem _ (List.mem_cons_of_mem _ List.mem_cons_self))))
local macro_rules | `(tactic| walk_at "at") => `(tactic| first | exact at_mapN (by assumption) | exact at_map (by omega) (by assumption) | rfl | exact at_of (by omega) (by assumption))
local macro_rules | `(tactic| walk_at "side") => `(tactic| first | assumption | omega | decide)
local macro_rules | `(tactic| walk_at "ea") => `(tactic| first | exact ea_nil | (apply ea_cons; walk_at "ev"; walk_at "ea"))
local macro_rules | `(tactic| walk_at "et") => `(tactic| first
  | exact et_yes
  | (apply et_B; walk_at "ev")
  | (apply et_T; walk_at "ev")
  | (apply et_not; walk_at "et"))
local macro_rules | `(tactic| walk_at "ev") => `(tactic| first
  | exact ev_var rfl
  | exact ev_cint | exact ev_cbl | exact ev_cstr | exact ev_cnon
  | (apply ev_ii; walk_at "ev"; walk_at "ev")
  | (apply ev_ib; walk_at "ev"; walk_at "ev")
  | (apply ev_eqI; walk_at "ev"; walk_at "ev")
  | (apply ev_neI; walk_at "ev"; walk_at "ev")
  | (apply ev_ixL; walk_at "ev"; walk_at "lv"; walk_at "ev"; walk_at "at")
  | (apply ev_ixT; walk_at "ev"; walk_at "ev"; walk_at "at")
  | (apply ev_len; walk_at "ev"; walk_at "lv")
  | (apply ev_lenT; walk_at "ev")
  | (apply ev_min2; walk_at "ev"; walk_at "ev")
  | (apply ev_max2; walk_at "ev"; walk_at "ev")
  | (apply ev_tup; walk_at "ea"; (first | decide | simp | skip))
  | (apply ev_iC; walk_at "ev"; walk_at "ev"; walk_at "cond")
  | (apply ev_fldI; walk_at "cls"; walk_at "cls"; walk_at "ev"; walk_at "iv"; rfl; rfl; rfl)
  | (apply ev_F; walk_at "ef")
  | walk_at "call")
local macro_rules | `(tactic| walk_at "ef") => `(tactic| first
  | (apply ef_list; walk_at "ev"; walk_at "lv")
  | (apply ef_lst; walk_at "ea"; (first | decide | simp | skip)))
local macro_rules | `(tactic| walk_at "iv") => `(tactic| first | exact IV.ins | exact IV.own List.mem_cons_self | exact IV.own (List.mem_cons_of_mem _ List.mem_cons_self) | exact IV.own (List.mem_cons_of_mem _ (List.mem_cons_of_mem _ List.mem_cons_self)) | exact IV.own (List.mem_cons_of_mem _ (List.mem_cons_of_mem _ (List.mem_cons_of_mem _ List.mem_cons_self))))
local macro_rules | `(tactic| walk_at "cond") => `(tactic| first | exact Or.inr (by decide) | exact Or.inl (by decide) | (exact ⟨by decide, by decide⟩) | (show (0 : Int) < _; first | decide | assumption | omega))
local macro_rules | `(tactic| walk_at "cls") => `(tactic| first | assumption | exact YardF.cls (by assumption) | exact YardF.sizes (by assumption) | exact YardF.held (by assumption))
local macro_rules | `(tactic| walk_at "call") => `(tactic| fail "no call")
local macro_rules | `(tactic| walk_at "at") => `(tactic| exact at_getD (by first | assumption | omega))
local macro_rules | `(tactic| walk_at "call") => `(tactic| (apply ev_drawn; walk_at "ev"; walk_at "ev"; walk_at "ev"; walk_at "side"))
theorem top_at {b : Int} {x y z : Int} {ns : List Int} : atI ([.int x, .int y, .int z] : List Dt) (drawn ns b 3) = some (.int (([x, y, z] : List Int).getD (drawn ns b 3).toNat 0)) := by
  have h := drawn_pos ns b (many := 3) (by decide)
  exact at_of (xs := [Dt.int x, .int y, .int z]) h.1 (by
    have : ([Dt.int x, .int y, .int z] : List Dt) = ([x, y, z] : List Int).map Dt.int := rfl
    rw [this, List.getElem?_map, getD_some (show (drawn ns b 3).toNat < ([x, y, z] : List Int).length by simp; omega)]
    rfl)
theorem three_pos {x y z : Int} (hx : 0 < x) (hy : 0 < y) (hz : 0 < z) {i : Nat} (h : i < 3) : 0 < ([x, y, z] : List Int).getD i 0 := by
  match i, h with
  | 0, _ => exact hx
  | 1, _ => exact hy
  | 2, _ => exact hz
theorem topBy_pos (ns : List Int) (b : Int) : 0 < topBy ns b := three_pos (by decide) (by decide) (by decide) (by have := drawn_pos ns (b + 1) (many := 3) (by decide); omega)
theorem dtopBy_pos (ns : List Int) (b : Int) : 0 < dtopBy ns b := three_pos (by decide) (by decide) (by decide) (by have := drawn_pos ns b (many := 3) (by decide); omega)
theorem roomsBy_len (ns : List Int) (b : Int) : (roomsBy ns b).length = manyBy ns b := by simp [roomsBy]
theorem roomsBy_at {ns : List Int} {b : Int} {k : Nat} (h : k < manyBy ns b) : (roomsBy ns b).getD k 0 = drawn ns (b + 2 + k) (topBy ns b) := by
  rw [List.getD_eq_getElem?_getD, roomsBy, List.getElem?_map, List.getElem?_range h]; rfl
theorem manyBy_le (ns : List Int) (b : Int) : 1 ≤ manyBy ns b ∧ manyBy ns b ≤ 4 ∧ ((manyBy ns b : Nat) : Int) = 1 + drawn ns b 4 := by
  have h := drawn_pos ns b (many := 4) (by decide)
  unfold manyBy
  omega
def c_l_yard_by (A : Ad) : Ct := pureC (α := List Int × Int) (fun _ => True) (fun x => [.scr x.1, .int x.2]) fun x => .ok (.tup [iL (roomsBy x.1 x.2), iL (watersBy x.1 x.2)])
def rd_l_yard_by (K : Fg) (A : Ad) : TS :=
  tSeq (tAsg (tOp (rI0 fun i j => V.int (i + j)) (tC (V.int 1)) (tCall (spC K 3 (c_l_drawn A)) [] E0 (tCons (tVar 0) (tCons (tVar 1) (tCons (tC (V.int 4)) (tNil)))))) (gName 2)) 
      (tSeq (tAsg (tOp (rIxL K) (tLst (tCons (tC (V.int 4)) (tCons (tC (V.int 12)) (tCons (tC (V.int 51)) (tNil))))) (tCall (spC K 3 (c_l_drawn A)) [] E0 (tCons (tVar 0) (tCons (tOp (rI0 fun i j => V.int (i + j)) (tVar 1) (tC (V.int 1))) (tCons (tC (V.int 3)) (tNil)))))) (gName 3)) 
      (tSeq (tAsg (tLc (iRng1 (tCons (tVar 2) (tNil))) (gName 6) (tYes) (tCall (spC K 3 (c_l_drawn A)) [] E0 (tCons (tVar 0) (tCons (tOp (rI0 fun i j => V.int (i + j)) (tOp (rI0 fun i j => V.int (i + j)) (tVar 1) (tC (V.int 2))) (tVar 6)) (tCons (tVar 3) (tNil))))) ([6] : List Nat)) (gName 4)) 
      (tSeq (tAsg (tLc (iRng1 (tCons (tVar 2) (tNil))) (gName 6) (tYes) (tCall (spC K 3 (c_l_drawn A)) [] E0 (tCons (tVar 0) (tCons (tOp (rI0 fun i j => V.int (i + j)) (tOp (rI0 fun i j => V.int (i + j)) (tVar 1) (tC (V.int 6))) (tVar 6)) (tCons (tOp (rI0 fun i j => V.int (i + j)) (tOp (rIxL K) (tVar 4) (tVar 6)) (tC (V.int 1))) (tNil))))) ([6] : List Nat)) (gName 5)) 
      (tRet (tTup (tCons (tVar 4) (tCons (tVar 5) (tNil))))))))
theorem sem_l_yard_by {K : Fg} {A : Ad} : ∀ vs H Q E, spC K 2 (c_l_yard_by A) vs H Q E → rd_l_yard_by K A { nx := fun _ H' => Q .non H', rt := Q } (start ["script", "base", "many", "top", "rooms", "waters", "k"] vs) H :=
  body_ok fun ds os P hl hc B D hfp hR hN => by
    obtain ⟨⟨ns, b⟩, _, rfl, rfl, rfl⟩ := hc
    have hm := manyBy_le ns b
    have ht := topBy_pos ns b
    refine q_asg (d := .int (1 + drawn ns b 4)) (by walk_at "ev") ?_
    refine q_asg (d := .int (topBy ns b)) (ev_ixL (ev_F (ef_lst (by walk_at "ea") (by decide))) LV.lst (by walk_at "ev") top_at) ?_
    refine q_asg (d := iL (roomsBy ns b)) (ev_F (ef_mapRi (fun k => drawn ns (b + 2 + k) (topBy ns b)) (ea_cons (ev_var rfl) ea_nil) (by omega) (by omega) fun j hj => ⟨_, tw_name, ?_⟩)) ?_
    · walk_at "ev"
    refine q_asg (d := iL (watersBy ns b)) (ev_F (ef_mapRi (fun k => drawn ns (b + 6 + k) ((roomsBy ns b).getD k 0 + 1)) (ea_cons (ev_var rfl) ea_nil) (by omega) (by omega) fun i hi => ⟨_, tw_name, ?_⟩)) ?_
    · have hk : i < manyBy ns b := by omega
      have h1 := (drawn_pos ns (b + 2 + i) ht).1
      have h2 : 0 < (roomsBy ns b).getD i 0 + 1 := by rw [roomsBy_at hk]; omega
      have h3 : i < (roomsBy ns b).length := by rw [roomsBy_len]; exact hk
      walk_at "ev"
    · exact do_ret (by walk_at "ev") (hR.rt ⟨rfl, rfl⟩)
def c_l_days_by (A : Ad) : Ct := fun ds os P => ∃ (ns : List Int) (b : Int) (many : Nat) (bound : Int), 0 ≤ bound ∧ bound ≤ 100 ∧ many ≤ 100 ∧ ds = [.scr ns, .int b, .int (many : Int), .int bound] ∧ os = [] ∧ P = MadeR ((daysBy ns b many bound).map dayD)
def rd_l_days_by (K : Fg) (A : Ad) : TS :=
  tSeq (tAsg (tOp (rIxL K) (tLst (tCons (tC (V.int 4)) (tCons (tC (V.int 10)) (tCons (tC (V.int 31)) (tNil))))) (tCall (spC K 3 (c_l_drawn A)) [] E0 (tCons (tVar 0) (tCons (tVar 1) (tCons (tC (V.int 3)) (tNil)))))) (gName 4)) 
      (tSeq (tAsg (tLst (tNil)) (gName 5)) 
      (tSeq (tFor (iRng1 (tCons (tCall (spC K 3 (c_l_drawn A)) [] E0 (tCons (tVar 0) (tCons (tOp (rI0 fun i j => V.int (i + j)) (tVar 1) (tC (V.int 1))) (tCons (tOp (rI0 fun i j => V.int (i + j)) (tVar 3) (tC (V.int 1))) (tNil))))) (tNil))) (gName 6) 
        (tSeq (tAsg (tLc (iRng1 (tCons (tVar 2) (tNil))) (gName 9) (tYes) (tCall (spC K 3 (c_l_drawn A)) [] E0 (tCons (tVar 0) (tCons (tOp (rI0 fun i j => V.int (i + j)) (tOp (rI0 fun i j => V.int (i + j)) (tOp (rI0 fun i j => V.int (i + j)) (tVar 1) (tC (V.int 10))) (tOp (rI CMul fun i j => V.int (i * j)) (tC (V.int 8)) (tVar 6))) (tVar 9)) (tCons (tVar 4) (tNil))))) ([9] : List Nat)) (gName 7)) 
        (tSeq (tAsg (tLc (iRng1 (tCons (tVar 2) (tNil))) (gName 9) (tYes) (tCall (spC K 3 (c_l_drawn A)) [] E0 (tCons (tVar 0) (tCons (tOp (rI0 fun i j => V.int (i + j)) (tOp (rI0 fun i j => V.int (i + j)) (tOp (rI0 fun i j => V.int (i + j)) (tVar 1) (tC (V.int 14))) (tOp (rI CMul fun i j => V.int (i * j)) (tC (V.int 8)) (tVar 6))) (tVar 9)) (tCons (tVar 4) (tNil))))) ([9] : List Nat)) (gName 8)) 
        (Evl.tCut (tIfS (tTest (tOp (rEq) (tCall (spC K 3 (c_l_drawn A)) [] E0 (tCons (tVar 0) (tCons (tOp (rI0 fun i j => V.int (i + j)) (tVar 1) (tC (V.int 2))) (tCons (tC (V.int 3)) (tNil))))) (tC (V.int 1)))) (tAsg (tLc (iList K (tVar 8)) (gName 10) (tYes) (tCB (rMin2) (tCons (tC (V.int 30)) (tCons (tOp (rI CMul fun i j => V.int (i * j)) (tC (V.int 2)) (tVar 10)) (tNil)))) ([10] : List Nat)) (gName 8)) (tNext)) 
        (tDrop (tBM K "list" rAppend (tVar 5) (tCons (tTup (tCons (tVar 7) (tCons (tVar 8) (tNil)))) (tNil)))))))) 
      (tRet (tVar 5))))
theorem sem_l_days_by {K : Fg} {A : Ad} : ∀ vs H Q E, spC K 4 (c_l_days_by A) vs H Q E → rd_l_days_by K A { nx := fun _ H' => Q .non H', rt := Q } (start ["script", "base", "many", "bound", "top", "days", "number", "rain", "wishes", "k", "one"] vs) H :=
  body_ok fun ds os P hl hc B D hfp hR hN => by
    obtain ⟨ns, b, many, bound, hb0, hb1, hm, rfl, rfl, rfl⟩ := hc
    have ht := dtopBy_pos ns b
    have hdr := drawn_pos ns (b + 1) (many := bound + 1) (by omega)
    refine q_asg (d := .int (dtopBy ns b)) (ev_ixL (ev_F (ef_lst (by walk_at "ea") (by decide))) LV.lst (by walk_at "ev") top_at) ?_
    refine q_asgM (em_F (ef_lst ea_nil (by decide))) fun d os' hd => ?_
    obtain ⟨p, np, rfl, rfl⟩ := hd
    refine q_forR (n := drawn ns (b + 1) (bound + 1)) (ea_cons (by walk_at "ev") ea_nil) (by omega) (by omega) (fun i ss os => (∃ o1 o2 o3 o4 o5, ss = [some (.scr ns), some (.int b), some (.int many), some (.int bound), some (.int (dtopBy ns b)), some (.adr p), o1, o2, o3, o4, o5]) ∧
      os = [(p, .lst (((List.range i).map fun n => (rainBy ns b many n, wishesBy ns b many n)).map dayD))]) ⟨⟨_, _, _, _, _, rfl⟩, rfl⟩ (fun i ss os hi hI => ?_) (fun ss os hI => ?_)
    · obtain ⟨⟨o1, o2, o3, o4, o5, rfl⟩, rfl⟩ := hI
      have hm2 : (many : Int) ≤ 100 := by omega
      refine q_asg (d := iL (rainBy ns b many i)) (ev_F (ef_mapRi (n := (many : Int)) (fun k => drawn ns (b + 10 + 8 * i + k) (dtopBy ns b)) (ea_cons (ev_var rfl) ea_nil) (by omega) (by omega) fun j hj => ⟨_, tw_name, ?_⟩)) ?_
      · walk_at "ev"
      refine q_asg (d := iL ((List.range many).map fun (k : Nat) => drawn ns (b + 14 + 8 * i + k) (dtopBy ns b))) (ev_F (ef_mapRi (n := (many : Int)) (fun k => drawn ns (b + 14 + 8 * i + k) (dtopBy ns b)) (ea_cons (ev_var rfl) ea_nil) (by omega) (by omega) fun j hj => ⟨_, tw_name, ?_⟩)) ?_
      · walk_at "ev"
      refine do_cut (fun ss os => (∃ o3 o4, ss = [some (.scr ns), some (.int b), some (.int many), some (.int bound), some (.int (dtopBy ns b)), some (.adr p), some (.int i), some (iL (rainBy ns b many i)), some (iL (wishesBy ns b many i)), o3, o4]) ∧
        os = [(p, .lst (((List.range i).map fun n => (rainBy ns b many n, wishesBy ns b many n)).map dayD))]) (do_if (by walk_at "et") (fun hb => ?_) (fun hb => ?_)) ?_
      · refine do_asg (d := iL (wishesBy ns b many i)) ?_ (nx_at ⟨⟨_, _, rfl⟩, rfl⟩)
        have e : wishesBy ns b many i = ((List.range many).map fun (k : Nat) => drawn ns (b + 14 + 8 * i + k) (dtopBy ns b)).map fun one => min 30 (2 * one) := by
          unfold wishesBy
          rw [if_pos (by simpa using hb)]
        rw [e]
        refine ev_F (ef_mapLi (fun one => min 30 (2 * one)) (ev_var rfl) LV.lst (fun x _ => ⟨_, tw_name, ?_⟩) (by simp; omega))
        walk_at "ev"
      · refine do_nx (nx_at ⟨⟨o4, o5, ?_⟩, rfl⟩)
        have e : wishesBy ns b many i = (List.range many).map fun (k : Nat) => drawn ns (b + 14 + 8 * i + k) (dtopBy ns b) := by
          unfold wishesBy
          rw [if_neg (by simpa using hb)]
        rw [e]
        rfl
      · rintro ss os ⟨⟨o3, o4, rfl⟩, rfl⟩
        refine do_app (ev_var rfl) List.mem_cons_self (by walk_at "ev") (by simp; omega) (nx_at ⟨⟨_, _, _, _, _, rfl⟩, ?_⟩)
        rw [setC_one, List.range_succ]
        simp
    · obtain ⟨⟨o1, o2, o3, o4, o5, rfl⟩, rfl⟩ := hI
      exact do_ret (ev_var rfl) (hR.rt ⟨p, rfl, rfl⟩)
def c_drawn_by (A : Ad) : Ct := pureC (α := List Day) (fun x => x.length < 1000) (fun x => [daysD x]) fun x => .ok (.int (drawnBy x))
def rd_drawn_by (K : Fg) (A : Ad) : TS :=
  tRet (tCB (rSum K) (tCons (tLc (iList K (tVar 0)) (gName 1) (tYes) (tCB (rSum K) (tCons (tOp (rIxT K) (tVar 1) (tC (V.int 0))) (tNil))) ([1] : List Nat)) (tNil)))
theorem sem_drawn_by {K : Fg} {A : Ad} : ∀ vs H Q E, spC K 1 (c_drawn_by A) vs H Q E → rd_drawn_by K A { nx := fun _ H' => Q .non H', rt := Q } (start ["plan", "day"] vs) H :=
  body_ok fun ds os P hl hc B D hfp hR hN => by
    obtain ⟨plan, hx, rfl, rfl, rfl⟩ := hc
    exact do_ret (ev_sum (ns := plan.map fun p => p.1.sum) (ev_F (ef_mapLi (fun (p : Day) => p.1.sum) (ev_var rfl) LV.lst (fun x _ => ⟨_, tw_name, ev_sum (ev_ixT (ev_var rfl) ev_cint rfl) LV.lst⟩) (by omega))) LV.lst) (hR.rt ⟨rfl, rfl⟩)
theorem at_day {xs : List Day} {i : Nat} (h : i < xs.length) : atI (xs.map dayD) (i : Int) = some (dayD (xs.getD i ([], []))) := at_mapN (getDay h)
local macro_rules | `(tactic| walk_at "at") => `(tactic| first | exact at_getD (by first | assumption | omega) | exact at_day (by first | assumption | omega) | rfl)
def c_holds (A : Ad) : Ct := pureC (α := List Int × List Int × List Day × List Day) (fun x => x.2.1.length = x.1.length ∧ x.1.length ≤ 4) (fun x => [yardD A x.1 x.2.1, daysD x.2.2.1, daysD x.2.2.2])
  fun x => if daysOk x.1.length x.2.2.1 then .ok (.bl (holdsB x.1 x.2.1 x.2.2.1 x.2.2.2)) else .er A.BadDays
def rd_holds (K : Fg) (A : Ad) (E : XK) : TS :=
  tSeq (tDrop (tCall (spC K 2 (c_see_days A)) [] E (tCons (tVar 0) (tCons (tVar 1) (tNil))))) 
      (tSeq (tIfS (tTest (tOp (rNe) (tCB (Evl.rLenS K) (tCons (tVar 2) (tNil))) (tCB (Evl.rLenS K) (tCons (tVar 1) (tNil))))) (tRet (tC (V.bl false))) (tNext)) 
      (tSeq (tAsg (tMeth A.Yard "waters" (spC K 1 (c_Yard_waters A)) [] E0 (tVar 0) tNil) (gName 3)) 
      (tSeq (tFor (iRng1 (tCons (tCB (Evl.rLenS K) (tCons (tVar 1) (tNil))) (tNil))) (gName 4) 
        (tSeq (tAsg (tOp (rIxT K) (tOp (rIxL K) (tVar 2) (tVar 4)) (tC (V.int 0))) (gName 5)) 
        (tSeq (tAsg (tOp (rIxT K) (tOp (rIxL K) (tVar 2) (tVar 4)) (tC (V.int 1))) (gName 6)) 
        (tSeq (tIfS (tOr (tTest (tOp (rNe) (tCB (Evl.rLenS K) (tCons (tVar 5) (tNil))) (tCB (Evl.rLenS K) (tCons (tVar 3) (tNil))))) (tTest (tOp (rNe) (tCB (Evl.rLenS K) (tCons (tVar 6) (tNil))) (tCB (Evl.rLenS K) (tCons (tVar 3) (tNil)))))) (tRet (tC (V.bl false))) (tNext)) 
        (tSeq (tAsg (tC (V.int 0)) (gName 7)) 
        (tSeq (tFor (iRng1 (tCons (tCB (Evl.rLenS K) (tCons (tVar 3) (tNil))) (tNil))) (gName 8) 
          (tSeq (tAsg (tOp (rI0 fun i j => V.int (i - j)) (tOp (rI0 fun i j => V.int (i - j)) (tOp (rI0 fun i j => V.int (i + j)) (tOp (rI0 fun i j => V.int (i + j)) (tOp (rIxL K) (tVar 3) (tVar 8)) (tOp (rIxL K) (tOp (rIxT K) (tOp (rIxL K) (tVar 1) (tVar 4)) (tC (V.int 0))) (tVar 8))) (tVar 7)) (tOp (rIxL K) (tVar 5) (tVar 8))) (tOp (rIxL K) (tVar 6) (tVar 8))) (gName 7)) 
          (tSeq (tIfS (tOr (tTest (tOp (rI0 fun i j => V.bl (decide (i < j))) (tOp (rIxL K) (tVar 5) (tVar 8)) (tC (V.int 0)))) (tOr (tTest (tOp (rI0 fun i j => V.bl (decide (i < j))) (tOp (rIxL K) (tVar 6) (tVar 8)) (tC (V.int 0)))) (tTest (tOp (rI0 fun i j => V.bl (decide (i < j))) (tVar 7) (tC (V.int 0)))))) (tRet (tC (V.bl false))) (tNext)) 
          (tIfS (tOr (tTest (tOp (rI0 fun i j => V.bl (decide (j < i))) (tOp (rIxL K) (tVar 5) (tVar 8)) (tOp (rIxL K) (tOp (rIxT K) (tOp (rIxL K) (tVar 1) (tVar 4)) (tC (V.int 1))) (tVar 8)))) (tTest (tOp (rI0 fun i j => V.bl (decide (j < i))) (tOp (rIxL K) (tVar 6) (tVar 8)) (tOp (rIxL K) (tFld K (tVar 0) "sizes") (tVar 8))))) (tRet (tC (V.bl false))) (tNext))))) 
        (tAsg (tCB (Evl.rListS K) (tCons (tVar 6) (tNil))) (gName 3)))))))) 
      (tRet (tC (V.bl true))))))
theorem sem_holds {K : Fg} {A : Ad} (Y : YardF K A) : ∀ vs H Q E, spC K 3 (c_holds A) vs H Q E → rd_holds K A E { nx := fun _ H' => Q .non H', rt := Q } (start ["yard", "days", "plan", "held", "number", "drawn", "kept", "over", "k"] vs) H :=
  body_okX fun ds os P E hl hc B D hfp hR hE hN => by
    obtain ⟨⟨rooms, held, days, plan⟩, ⟨hh, h4⟩, rfl, rfl, rfl⟩ := hc
    have hh : held.length = rooms.length := hh
    have h4 : rooms.length ≤ 4 := h4
    refine q_callX (ds := [yardD A rooms held, daysD days]) (osp := []) (osr := []) (by walk_at "ea") rfl (List.Perm.refl _) ⟨(rooms, iL held, days), trivial, rfl, rfl, rfl⟩ (fun d os1 hr => ?_) (fun C os1 hr => ?_)
    case refine_2 =>
      obtain ⟨hr, rfl⟩ := hr
      have hr : Res.er C = if daysOk rooms.length days then Res.ok .non else .er A.BadDays := hr
      cases e : daysOk rooms.length days with
      | true => rw [e] at hr; cases hr
      | false =>
        rw [e] at hr
        cases hr
        refine hE.xt ⟨?_, rfl⟩
        show _ = if daysOk rooms.length days then Res.ok _ else .er A.BadDays
        rw [e]
        rfl
    obtain ⟨hr, rfl⟩ := hr
    have ok : daysOk rooms.length days = true := by
      cases e : daysOk rooms.length days with
      | true => rfl
      | false =>
        have hr : Res.ok d = if daysOk rooms.length days then Res.ok .non else .er A.BadDays := hr
        rw [e] at hr; cases hr
    obtain ⟨hd8, hdd⟩ := daysOk_iff.mp ok
    have hR : ∀ {B'}, B.Le B' → ∀ {b : Bool}, holdsB rooms held days plan = b → Rt K B' D.rt (.bl b) [] := fun {B'} le {b} e => hR B' le _ _ ⟨by
      show _ = if daysOk rooms.length days then Res.ok _ else .er A.BadDays
      rw [ok, ← e]
      rfl, rfl⟩
    refine q_when (by walk_at "et") (fun hb => do_ret ev_cbl (hR (Bs.Le.refl _) ?_)) (fun hb => ?_)
    · refine Bool.eq_false_iff.mpr fun h => ?_
      have := (holdsB_iff.mp h).1
      simp at hb
      omega
    have hp : plan.length = days.length := by simp at hb; omega
    refine q_asg (d := iL held) (ev_F (ef_methL (ev_var rfl) IV.ins (by decide +kernel) ea_nil (Fms.refl _) rfl ⟨rooms, held, rfl, rfl, rfl⟩ (Thins.ints _))) ?_
    refine q_forR (n := ((days.map dayD).length : Int)) (ea_cons (by walk_at "ev") ea_nil) (by rw [List.length_map]; omega) (by rw [List.length_map]; omega) (fun i ss os => (∃ o1 o2 o3 o4 o5, ss = [some (yardD A rooms held), some (daysD days), some (daysD plan), some (iL (heldAt held plan i)), o1, o2, o3, o4, o5]) ∧ os = [] ∧ (heldAt held plan i).length = rooms.length ∧
      ∀ n, n < i → dayHolds rooms (heldAt held plan n) (days.getD n ([], [])) (plan.getD n ([], [])) = true) ⟨⟨_, _, _, _, _, rfl⟩, rfl, hh, by omega⟩ (fun i ss os hi hI => ?_) (fun ss os hI => ?_)
    · obtain ⟨⟨o1, o2, o3, o4, o5, rfl⟩, rfl, hl, hall⟩ := hI
      have hi : i < days.length := by simpa using hi
      have hip : i < plan.length := by omega
      have hday := hdd _ (List.mem_of_getElem? (getDay hi))
      have hheld : heldAt held plan (i + 1) = (plan.getD i ([], [])).2 := rfl
      have gp := getDay hip
      have gd := getDay hi
      have bad : dayHolds rooms (heldAt held plan i) (days.getD i ([], [])) (plan.getD i ([], [])) ≠ true → holdsB rooms held days plan = false := fun h => Bool.eq_false_iff.mpr fun z => h ((holdsB_iff.mp z).2 i hi)
      obtain ⟨day, ed⟩ : ∃ d, days.getD i ([], []) = d := ⟨_, rfl⟩
      obtain ⟨pl, ep⟩ : ∃ d, plan.getD i ([], []) = d := ⟨_, rfl⟩
      obtain ⟨hd, eh⟩ : ∃ d, heldAt held plan i = d := ⟨_, rfl⟩
      rw [ed] at hday gd
      rw [ep] at gp hheld
      rw [ed, ep, eh] at bad
      rw [eh] at hl ⊢
      have hr1 : day.1.length = rooms.length := (lOk_iff.mp (dayOk_iff.mp hday).1).1
      have hr2 : day.2.length = rooms.length := (lOk_iff.mp (dayOk_iff.mp hday).2).1
      have ad : atI (days.map dayD) (i : Int) = some (dayD day) := at_mapN gd
      have ap : atI (plan.map dayD) (i : Int) = some (dayD pl) := at_mapN gp
      refine q_asg (d := iL pl.1) (ev_ixT (ev_ixL (ev_var rfl) LV.lst (ev_var rfl) ap) ev_cint rfl) ?_
      refine q_asg (d := iL pl.2) (ev_ixT (ev_ixL (ev_var rfl) LV.lst (ev_var rfl) ap) ev_cint rfl) ?_
      refine q_when (et_or (by walk_at "et") fun _ => by walk_at "et") (fun hb => do_ret ev_cbl (hR (Bs.Le.refl _) (bad fun h => ?_))) (fun hb => ?_)
      · obtain ⟨h1, h2, _⟩ := dayHolds_iff.mp h
        simp at hb
        omega
      simp at hb
      have k1 : pl.1.length = rooms.length := by omega
      have k2 : pl.2.length = rooms.length := by omega
      refine q_asg ev_cint ?_
      refine q_forR (ea_cons (by walk_at "ev") ea_nil) (by rw [List.length_map]; omega) (by rw [List.length_map]; omega) (fun k ss os => (∃ o5, ss = [some (yardD A rooms held), some (daysD days), some (daysD plan), some (iL hd), some (.int i), some (iL pl.1), some (iL pl.2), some (.int (overAt hd day.1 pl.1 pl.2 k)), o5]) ∧ os = [] ∧ ∀ j, j < k → tankOk rooms hd day pl j = true)
        ⟨⟨_, rfl⟩, rfl, by omega⟩ (fun k ss os hk hI => ?_) (fun ss os hI => ?_)
      · obtain ⟨⟨o5, rfl⟩, rfl, hx⟩ := hI
        have hk : k < hd.length := by simpa using hk
        have i1 : k < day.1.length := by omega
        have i2 : k < day.2.length := by omega
        have i3 : k < pl.1.length := by omega
        have i4 : k < pl.2.length := by omega
        have i5 : k < rooms.length := by omega
        have hrain : ∀ ss, ss[1]? = some (some (daysD days)) → ss[4]? = some (some (.int (i : Int))) → ss[8]? = some (some (.int (k : Int))) → Ev K (tOp (rIxL K) (tOp (rIxT K) (tOp (rIxL K) (tVar 1) (tVar 4)) (tC (V.int 0))) (tVar 8)) ss [] (.int (day.1.getD k 0)) := fun ss s1 s4 s8 =>
          ev_ixL (ev_ixT (ev_ixL (ev_var s1) LV.lst (ev_var s4) ad) ev_cint rfl) LV.lst (ev_var s8) (at_getD i1)
        have hwish : ∀ ss, ss[1]? = some (some (daysD days)) → ss[4]? = some (some (.int (i : Int))) → ss[8]? = some (some (.int (k : Int))) → Ev K (tOp (rIxL K) (tOp (rIxT K) (tOp (rIxL K) (tVar 1) (tVar 4)) (tC (V.int 1))) (tVar 8)) ss [] (.int (day.2.getD k 0)) := fun ss s1 s4 s8 =>
          ev_ixL (ev_ixT (ev_ixL (ev_var s1) LV.lst (ev_var s4) ad) ev_cint rfl) LV.lst (ev_var s8) (at_getD i2)
        refine q_asg (ev_ii (ev_ii (ev_ii (ev_ii (by walk_at "ev") (hrain _ rfl rfl rfl)) (ev_var rfl)) (by walk_at "ev")) (by walk_at "ev")) ?_
        have eo : overAt hd day.1 pl.1 pl.2 (k + 1) = hd.getD k 0 + day.1.getD k 0 + overAt hd day.1 pl.1 pl.2 k - pl.1.getD k 0 - pl.2.getD k 0 := rfl
        rw [← eo]
        refine q_when (et_or (by walk_at "et") fun _ => et_or (by walk_at "et") fun _ => by walk_at "et") (fun hb => do_ret ev_cbl (hR (Bs.Le.refl _) (bad fun h => ?_))) (fun hb => ?_)
        · have := tankOk_iff.mp ((dayHolds_iff.mp h).2.2 k hk)
          simp [-List.getD_eq_getElem?_getD] at hb
          omega
        refine do_if (et_or (et_T (ev_ib (by walk_at "ev") (hwish _ rfl rfl rfl))) fun _ => by walk_at "et") (fun hb2 => do_ret ev_cbl (hR (Bs.Le.refl _) (bad fun h => ?_))) (fun hb2 => ?_)
        · have := tankOk_iff.mp ((dayHolds_iff.mp h).2.2 k hk)
          simp [-List.getD_eq_getElem?_getD] at hb2
          omega
        refine do_nx (nx_at ⟨⟨_, rfl⟩, rfl, fun j hj => ?_⟩)
        by_cases e : j = k
        · subst e
          simp [-List.getD_eq_getElem?_getD] at hb hb2
          exact tankOk_iff.mpr (by omega)
        · exact hx j (by omega)
      · obtain ⟨⟨o5, rfl⟩, rfl, hx⟩ := hI
        have hx : ∀ j, j < hd.length → tankOk rooms hd day pl j = true := fun j hj => hx j (by simpa using hj)
        refine do_asg (d := iL pl.2) (by walk_at "ev") (nx_at ⟨⟨_, _, _, _, _, by rw [hheld]; rfl⟩, rfl, by rw [hheld]; exact k2, fun n hn => ?_⟩)
        by_cases e : n = i
        · subst e
          rw [eh, ed, ep]
          exact dayHolds_iff.mpr ⟨by omega, by omega, hx⟩
        · exact hall n (by omega)
    · obtain ⟨⟨o1, o2, o3, o4, o5, rfl⟩, rfl, hl, hall⟩ := hI
      refine do_ret ev_cbl (hR (Bs.Le.refl _) (holdsB_iff.mpr ⟨hp, fun n hn => hall n (by simpa using hn)⟩))
end Cy

namespace Cy
open PySem L2
open Evl (Ex Ex.refl Ex.trans Ex.new Ex.mut)
/-! ### == of data -/
mutual
inductive Ql : Nat → Dt → PyData → Prop
  | non {n : Nat} : Ql n .non .none
  | bl {n : Nat} (b : Bool) : Ql n (.bl b) (.bool b)
  | int {n : Nat} (i : Int) : Ql n (.int i) (.int i)
  | str {n : Nat} (x : Str) (h : (PyData.str x).canLay0 = true) : Ql n (.str x) (.str x)
  | lst {n : Nat} {ds : List Dt} {ps : List PyData} : Qls n ds ps → Ql (n + 1) (.lst ds) (.list ps)
  | tup {n : Nat} {ds : List Dt} {ps : List PyData} : Qls n ds ps → Ql (n + 1) (.tup ds) (.tuple ps)
inductive Qls : Nat → List Dt → List PyData → Prop
  | nil {n : Nat} : Qls n [] []
  | cons {n : Nat} {d : Dt} {p : PyData} {ds : List Dt} {ps : List PyData} : Ql n d p → Qls n ds ps → Qls n (d :: ds) (p :: ps)
end
section
variable {K : Fg} {G H : Hp}
mutual
theorem Ql.dp (e : Ex G H) : ∀ {n : Nat} {d : Dt} {p : PyData} {v : V}, Ql n d p → Rp K G v d → Dp K H v p
  | _, _, _, _, .non, h => by cases h; exact .non
  | _, _, _, _, .bl b, h => by cases h; exact .bl b
  | _, _, _, _, .int i, h => by cases h; exact .int i
  | _, _, _, _, .str x _, h => by cases h; exact .str x
  | _, _, _, _, .lst q, h => by
    cases h with
    | lst h1 h2 => exact .lst (.of (e _ _ h1)) (Qls.dp e q h2)
  | _, _, _, _, .tup q, h => by
    cases h with
    | tup h1 h2 => exact .tup (.of (e _ _ h1)) (Qls.dp e q h2)
theorem Qls.dp (e : Ex G H) : ∀ {n : Nat} {d : List Dt} {p : List PyData} {v : List V}, Qls n d p → Rps K G v d → DpAll K H v p
  | _, _, _, _, .nil, h => by cases h; exact .nil
  | _, _, _, _, .cons a b, h => by
    cases h with
    | cons h1 h2 => exact .cons (Ql.dp e a h1) (Qls.dp e b h2)
end
mutual
theorem Ql.lay : ∀ {n : Nat} {d : Dt} {p : PyData}, Ql n d p → p.canLay0 = true ∧ p.depth ≤ n
  | _, _, _, .non => by simp [PyData.canLay0, PyData.depth]
  | _, _, _, .bl b => by simp [PyData.canLay0, PyData.depth]
  | _, _, _, .int b => by simp [PyData.canLay0, PyData.depth]
  | _, _, _, .str b h => ⟨h, by simp [PyData.depth]⟩
  | _, _, _, .lst q => by
    have := Qls.lay q
    simp only [PyData.canLay0, PyData.depth]
    exact ⟨this.1, by omega⟩
  | _, _, _, .tup q => by
    have := Qls.lay q
    simp only [PyData.canLay0, PyData.depth]
    exact ⟨this.1, by omega⟩
theorem Qls.lay : ∀ {n : Nat} {d : List Dt} {p : List PyData}, Qls n d p → PyData.canLayAll0 p = true ∧ PyData.depthAll p ≤ n
  | _, _, _, .nil => by simp [PyData.canLayAll0, PyData.depthAll]
  | _, _, _, .cons a b => by
    have h1 := Ql.lay a
    have h2 := Qls.lay b
    simp only [PyData.canLayAll0, PyData.depthAll, Bool.and_eq_true]
    exact ⟨⟨h1.1, h2.1⟩, by omega⟩
end
theorem Ql.shaped {n : Nat} {d : Dt} {p : PyData} (q : Ql n d p) (h : n ≤ 64) : SeqAt.shaped p = true := by
  have := q.lay
  unfold SeqAt.shaped
  rw [this.1, Bool.true_and]
  exact decide_eq_true (by omega)
theorem Qls.ints {n : Nat} : ∀ ns : List Int, Qls n (ns.map Dt.int) (ns.map PyData.int)
  | [] => .nil
  | i :: r => .cons (.int i) (Qls.ints r)
theorem Ql.iL {n : Nat} (ns : List Int) : Ql (n + 1) (iL ns) (.list (ns.map PyData.int)) := .lst (.ints ns)
theorem Ql.day {n : Nat} (d : Day) : Ql (n + 2) (dayD d) (.tuple [.list (d.1.map PyData.int), .list (d.2.map PyData.int)]) := .tup (.cons (.iL _) (.cons (.iL _) .nil))
theorem Qls.days {n : Nat} : ∀ ds : List Day, Qls (n + 2) (ds.map dayD) (ds.map fun d => .tuple [.list (d.1.map PyData.int), .list (d.2.map PyData.int)])
  | [] => .nil
  | d :: r => .cons (.day d) (Qls.days r)
theorem Ql.days {n : Nat} (ds : List Day) : Ql (n + 3) (daysD ds) (.list (ds.map fun d => .tuple [.list (d.1.map PyData.int), .list (d.2.map PyData.int)])) := .lst (.days ds)
theorem eqv_ints : ∀ xs ys : List Int, PyData.eqvAll (xs.map PyData.int) (ys.map PyData.int) = decide (xs = ys)
  | [], [] => by simp [PyData.eqvAll]
  | [], _ :: _ => by simp [PyData.eqvAll]
  | _ :: _, [] => by simp [PyData.eqvAll]
  | x :: r, y :: s => by
    rw [List.map_cons, List.map_cons, PyData.eqvAll, eqv_ints r s, PyData.eqv]
    by_cases h : x = y <;> by_cases h2 : r = s <;> simp [h, h2]
theorem eqv_iL (xs ys : List Int) : PyData.eqv (.list (xs.map PyData.int)) (.list (ys.map PyData.int)) = decide (xs = ys) := by rw [PyData.eqv, eqv_ints]
end
section
variable {K : Fg} {ss : SS} {os : Own} {ta tb te tx : TE} {t u : TT} {d x y z : Dt} {p q : PyData} {n m : Nat}
theorem ev_eqD (ha : Ev K ta ss os x) (hb : Ev K tb ss os y) (hx : Ql n x p) (hy : Ql m y q) (hn : n ≤ 64) (hm : m ≤ 64) : Ev K (tOp (rEqD K) ta tb) ss os (.bl (PyData.eqv p q)) :=
  ev_op ha hb fun ss σ G H R a b ra rb Q k => ⟨p, q, hx.dp R.gh ra, hy.dp R.gh rb, hx.shaped hn, hy.shaped hm, k _ G H (Gq.refl G H) R.gh (.bl _)⟩
theorem ev_neD (ha : Ev K ta ss os x) (hb : Ev K tb ss os y) (hx : Ql n x p) (hy : Ql m y q) (hn : n ≤ 64) (hm : m ≤ 64) : Ev K (tOp (rNeD K) ta tb) ss os (.bl (!PyData.eqv p q)) :=
  ev_op ha hb fun ss σ G H R a b ra rb Q k => ⟨p, q, hx.dp R.gh ra, hy.dp R.gh rb, hx.shaped hn, hy.shaped hm, k _ G H (Gq.refl G H) R.gh (.bl _)⟩
theorem ev_eqIL {xs ys : List Int} (ha : Ev K ta ss os (iL xs)) (hb : Ev K tb ss os (iL ys)) : Ev K (tOp (rEqD K) ta tb) ss os (.bl (decide (xs = ys))) := by
  have := ev_eqD ha hb (.iL (n := 0) xs) (.iL (n := 0) ys) (by decide) (by decide)
  rw [eqv_iL] at this
  exact this
theorem ev_neIL {xs ys : List Int} (ha : Ev K ta ss os (iL xs)) (hb : Ev K tb ss os (iL ys)) : Ev K (tOp (rNeD K) ta tb) ss os (.bl (!decide (xs = ys))) := by
  have := ev_neD ha hb (.iL (n := 0) xs) (.iL (n := 0) ys) (by decide) (by decide)
  rw [eqv_iL] at this
  exact this
theorem ev_isB {a b : Bool} (ha : Ev K ta ss os (.bl a)) (hb : Ev K tb ss os (.bl b)) : Ev K (tOp rIsB ta tb) ss os (.bl (decide (a = b))) :=
  ev_op ha hb fun ss σ G H R v w ra rb Q k => by
    cases ra; cases rb
    exact ⟨a, b, rfl, rfl, k _ G H (Gq.refl G H) R.gh (.bl _)⟩
end
theorem excF_of {K : Fg} {mg : Str → Option Value} {x : Str} {C : Addr} (h : mg x = some (.ref C)) (e : PySem.W.excIn K C He.veBase "ValueError.__new__" = true ∧ PySem.W.keepIn K (.ref C) = true ∧ PySem.W.subIn K (.ref C) (.type "BaseException") = some true ∧
    PySem.W.typeIn K (.ref C) = some (.type "type")) : ExcF K mg x C := ⟨h, e.1, e.2.1, e.2.2.1, e.2.2.2⟩
theorem FzS.refl {p : Addr} {d : Dt} : ∀ ss : SS, FzS p d ss ss
  | [] => .nil
  | none :: r => .skip (FzS.refl r)
  | some x :: r => .cons (.same x) (FzS.refl r)
theorem FzS.set {p : Addr} {d x y : Dt} (h : Fz p d x y) : ∀ (ss : SS) (i : Nat), FzS p d (ss.set i (some x)) (ss.set i (some y))
  | [], _ => .nil
  | none :: r, 0 => .cons h (FzS.refl r)
  | some z :: r, 0 => .cons h (FzS.refl r)
  | none :: r, i + 1 => .skip (FzS.set h r i)
  | some z :: r, i + 1 => .cons (.same z) (FzS.set h r i)
theorem FzO.refl {p : Addr} {d : Dt} : ∀ os : Own, FzO p d os os
  | [] => .nil
  | (a, c) :: r => .cons (.same c) (FzO.refl r)
/-- the law's start -/
def c_law (A : Ad) : Ct := pureC (α := List Int) (fun ns => ns.length ≤ 63) (fun ns => [.scr ns]) fun _ => .ok (.bl true)
theorem law_start {K : Fg} {A : Ad} {H : Hp} {a : Addr} {ns : List Int} (hS : SqL K H a (ns.map V.int)) (hl : ns.length ≤ 63) : spC K 1 (c_law A) [.ref a] H (fun v _ => v = .bl true) fun _ _ _ => False := by
  refine ⟨rfl, [.scr ns], [], _, H, Ex.refl H, .cons (.scr hS) .nil, ownOk_nil, ⟨ns, hl, rfl, rfl, rfl⟩, ?_⟩
  rintro r os' G' H' ⟨rfl, rfl⟩ _ _ _ _ v rv
  cases rv
  rfl
end Cy

namespace Cy
/-! a day's run -/
section
variable {rooms held rain wishes : List Int}
abbrev runTo (rooms held rain wishes : List Int) (n : Nat) : DayS := iter (dayStep rooms rain wishes) ⟨[], held, 0⟩ n
theorem getD_set {l : List Int} {i j : Nat} {v : Int} (h : i < l.length) : (l.set i v).getD j 0 = if j = i then v else l.getD j 0 := by
  rw [List.getD_eq_getElem?_getD, List.getElem?_set, List.getD_eq_getElem?_getD]
  by_cases e : i = j
  · subst e; simp [h]
  · rw [if_neg e, if_neg (fun z => e z.symm)]
theorem getD_snoc {l : List Int} {j : Nat} {v : Int} : (l ++ [v]).getD j 0 = if j = l.length then v else l.getD j 0 := by
  rw [List.getD_eq_getElem?_getD, List.getD_eq_getElem?_getD]
  by_cases e : j = l.length
  · subst e; simp
  · rw [if_neg e]
    by_cases h : j < l.length
    · rw [List.getElem?_append_left h]
    · rw [List.getElem?_eq_none (by simp; omega), List.getElem?_eq_none (by omega)]
theorem runTo_facts (hw : wishes.length = rooms.length) (hh : held.length = rooms.length) : ∀ n, n ≤ rooms.length →
    (runTo rooms held rain wishes n).drawn.length = n ∧ (runTo rooms held rain wishes n).held.length = rooms.length ∧
    (∀ k, n ≤ k → (runTo rooms held rain wishes n).held.getD k 0 = held.getD k 0) ∧
    (∀ k, k < n → (runTo rooms held rain wishes n).drawn.getD k 0 = min (held.getD k 0 + rain.getD k 0 + (runTo rooms held rain wishes k).over) (wishes.getD k 0) ∧
      (runTo rooms held rain wishes n).held.getD k 0 = min (held.getD k 0 + rain.getD k 0 + (runTo rooms held rain wishes k).over - min (held.getD k 0 + rain.getD k 0 + (runTo rooms held rain wishes k).over) (wishes.getD k 0)) (rooms.getD k 0) ∧
      (runTo rooms held rain wishes (k + 1)).over = held.getD k 0 + rain.getD k 0 + (runTo rooms held rain wishes k).over - min (held.getD k 0 + rain.getD k 0 + (runTo rooms held rain wishes k).over) (wishes.getD k 0)
        - min (held.getD k 0 + rain.getD k 0 + (runTo rooms held rain wishes k).over - min (held.getD k 0 + rain.getD k 0 + (runTo rooms held rain wishes k).over) (wishes.getD k 0)) (rooms.getD k 0))
  | 0, _ => ⟨rfl, hh, fun _ _ => rfl, fun k h => absurd h (by omega)⟩
  | n + 1, hn => by
    obtain ⟨h1, h2, h3, h4⟩ := runTo_facts hw hh n (by omega)
    have e : runTo rooms held rain wishes (n + 1) = dayStep rooms rain wishes n (runTo rooms held rain wishes n) := rfl
    have en := h3 n (Nat.le_refl _)
    refine ⟨by rw [e, dayStep_drawn, h1], by rw [e, dayStep_held, h2], fun k hk => ?_, fun k hk => ?_⟩
    · rw [e]
      show ((runTo rooms held rain wishes n).held.set n _).getD k 0 = _
      rw [getD_set (by omega), if_neg (by omega)]
      exact h3 k (by omega)
    · by_cases ek : k = n
      · subst ek
        rw [e]
        refine ⟨?_, ?_, ?_⟩
        · show ((runTo rooms held rain wishes k).drawn ++ [_]).getD k 0 = _
          rw [getD_snoc, if_pos h1.symm, en]
        · show ((runTo rooms held rain wishes k).held.set k _).getD k 0 = _
          rw [getD_set (by omega), if_pos rfl, en]
        · show (runTo rooms held rain wishes k).held.getD k 0 + _ + _ - _ - _ = _
          rw [en]
      · obtain ⟨a, b, c⟩ := h4 k (by omega)
        refine ⟨?_, ?_, c⟩
        · rw [e]
          show ((runTo rooms held rain wishes n).drawn ++ [_]).getD k 0 = _
          rw [getD_snoc, if_neg (by omega)]
          exact a
        · rw [e]
          show ((runTo rooms held rain wishes n).held.set n _).getD k 0 = _
          rw [getD_set (by omega), if_neg ek]
          exact b
theorem runTo_over (hw : wishes.length = rooms.length) (hh : held.length = rooms.length) (p1 : ∀ k, k < rooms.length → 0 ≤ held.getD k 0) (p2 : ∀ k, k < rooms.length → 0 ≤ rain.getD k 0) :
    ∀ n, n ≤ rooms.length → 0 ≤ (runTo rooms held rain wishes n).over
  | 0, _ => Int.le_refl 0
  | n + 1, hn => by
    have ih := runTo_over hw hh p1 p2 n (by omega)
    obtain ⟨_, _, h3⟩ := (runTo_facts (rain := rain) hw hh (n + 1) hn).2.2.2 n (by omega)
    have := p1 n (by omega)
    have := p2 n (by omega)
    rw [h3]
    omega
theorem runTo_sum (hw : wishes.length = rooms.length) (hh : held.length = rooms.length) (hr : rain.length = rooms.length) : ∀ n, n ≤ rooms.length →
    (runTo rooms held rain wishes n).drawn.sum + (runTo rooms held rain wishes n).over + (runTo rooms held rain wishes n).held.sum = held.sum + (rain.take n).sum
  | 0, _ => by
    show ([] : List Int).sum + 0 + held.sum = held.sum + ([] : List Int).sum
    simp
  | n + 1, hn => by
    have ih := runTo_sum hw hh hr n (by omega)
    obtain ⟨h1, h2, h3, _⟩ := runTo_facts (rain := rain) hw hh n (by omega)
    have e : runTo rooms held rain wishes (n + 1) = dayStep rooms rain wishes n (runTo rooms held rain wishes n) := rfl
    generalize runTo rooms held rain wishes n = s at *
    rw [e]
    show (s.drawn ++ [_]).sum + _ + (s.held.set n _).sum = _
    rw [L2.sum_set (getD_some (show n < s.held.length by omega)), L2.sum_take (getD_some (show n < rain.length by omega)), List.sum_append]
    show _ + ([_] : List Int).sum + (_ - _ - _) + _ = _
    simp only [List.sum_cons, List.sum_nil]
    omega
theorem dayRun_sum (hw : wishes.length = rooms.length) (hh : held.length = rooms.length) (hr : rain.length = rooms.length) :
    (dayRun rooms held rain wishes).drawn.sum + (dayRun rooms held rain wishes).over + (dayRun rooms held rain wishes).held.sum = held.sum + rain.sum := by
  have := runTo_sum hw hh hr rooms.length (Nat.le_refl _)
  rw [← hr, List.take_length, hr] at this
  exact this
theorem dayRun_len (hw : wishes.length = rooms.length) (hh : held.length = rooms.length) : (dayRun rooms held rain wishes).drawn.length = rooms.length ∧ (dayRun rooms held rain wishes).held.length = rooms.length :=
  let h := runTo_facts (rain := rain) hw hh rooms.length (Nat.le_refl _)
  ⟨h.1, h.2.1⟩
theorem dayRun_overAt (hw : wishes.length = rooms.length) (hh : held.length = rooms.length) : ∀ n, n ≤ rooms.length →
    overAt held rain (dayRun rooms held rain wishes).drawn (dayRun rooms held rain wishes).held n = (runTo rooms held rain wishes n).over
  | 0, _ => rfl
  | n + 1, hn => by
    have ih := dayRun_overAt hw hh n (by omega)
    show held.getD n 0 + rain.getD n 0 + overAt _ _ _ _ n - _ - _ = _
    rw [ih]
    obtain ⟨a, b, c⟩ := (runTo_facts (rain := rain) hw hh rooms.length (Nat.le_refl _)).2.2.2 n (by omega)
    rw [c]
    show _ - (runTo rooms held rain wishes rooms.length).drawn.getD n 0 - (runTo rooms held rain wishes rooms.length).held.getD n 0 = _
    rw [a, b]
/-- what holds of a yard: rooms, water -/
structure YardWf (rooms held : List Int) : Prop where
  len : held.length = rooms.length
  pos : 1 ≤ rooms.length
  four : rooms.length ≤ 4
  room : ∀ k, k < rooms.length → 0 ≤ rooms.getD k 0 ∧ rooms.getD k 0 ≤ 50
  water : ∀ k, k < rooms.length → 0 ≤ held.getD k 0 ∧ held.getD k 0 ≤ rooms.getD k 0
theorem getD_mem' {l : List Int} {k : Nat} (h : k < l.length) : l.getD k 0 ∈ l := by
  have := getD_some h
  exact List.mem_of_getElem? this
theorem lOk_at {n : Nat} {xs : List Int} (h : lOk n xs = true) {k : Nat} (hk : k < n) : 0 ≤ xs.getD k 0 ∧ xs.getD k 0 ≤ 30 := by
  obtain ⟨h1, h2⟩ := lOk_iff.mp h
  exact withinB_iff.mp h2 _ (getD_mem' (by omega))
theorem lOk_len {n : Nat} {xs : List Int} (h : lOk n xs = true) : xs.length = n := (lOk_iff.mp h).1
theorem dayRun_holds (Y : YardWf rooms held) (hd : dayOk rooms.length (rain, wishes) = true) : dayHolds rooms held (rain, wishes) ((dayRun rooms held rain wishes).drawn, (dayRun rooms held rain wishes).held) = true := by
  obtain ⟨h1, h2⟩ := dayOk_iff.mp hd
  have h1 : lOk rooms.length rain = true := h1
  have h2 : lOk rooms.length wishes = true := h2
  have hw := lOk_len h2
  obtain ⟨l1, l2⟩ := dayRun_len (rain := rain) hw Y.len
  refine dayHolds_iff.mpr ⟨by rw [Y.len]; exact l1, by rw [Y.len]; exact l2, fun k hk => ?_⟩
  have hk : k < rooms.length := by rw [Y.len] at hk; exact hk
  obtain ⟨a, b, c⟩ := (runTo_facts (rain := rain) hw Y.len rooms.length (Nat.le_refl _)).2.2.2 k hk
  have ov := runTo_over (rain := rain) hw Y.len (fun k hk => (Y.water k hk).1) (fun k hk => (lOk_at h1 hk).1)
  have o1 := ov k (by omega)
  have o2 := ov (k + 1) (by omega)
  have w1 := Y.water k hk
  have w2 := (lOk_at h1 hk).1
  have w3 := (lOk_at h2 hk).1
  have w4 := (Y.room k hk).1
  refine tankOk_iff.mpr ?_
  show 0 ≤ (runTo rooms held rain wishes rooms.length).drawn.getD k 0 ∧ 0 ≤ (runTo rooms held rain wishes rooms.length).held.getD k 0 ∧ 0 ≤ overAt held rain (dayRun rooms held rain wishes).drawn (dayRun rooms held rain wishes).held (k + 1) ∧
    (runTo rooms held rain wishes rooms.length).drawn.getD k 0 ≤ wishes.getD k 0 ∧ (runTo rooms held rain wishes rooms.length).held.getD k 0 ≤ rooms.getD k 0
  rw [dayRun_overAt hw Y.len (k + 1) (by omega), a, b]
  have w2 : 0 ≤ rain.getD k 0 := w2
  have w3 : 0 ≤ wishes.getD k 0 := w3
  omega
theorem dayRun_wf (Y : YardWf rooms held) (hd : dayOk rooms.length (rain, wishes) = true) : YardWf rooms (dayRun rooms held rain wishes).held := by
  have h := dayHolds_iff.mp (dayRun_holds Y hd)
  have hw : wishes.length = rooms.length := lOk_len (dayOk_iff.mp hd).2
  obtain ⟨l1, l2⟩ := dayRun_len (rain := rain) hw Y.len
  refine ⟨l2, Y.pos, Y.four, Y.room, fun k hk => ?_⟩
  have := tankOk_iff.mp (h.2.2 k (by rw [Y.len]; exact hk))
  exact ⟨this.2.1, this.2.2.2.2⟩
end
/-- days that go by, one behind another -/
def hAt (rooms held : List Int) (days : List Day) : Nat → List Int := iter (fun n h => (dayRun rooms h (days.getD n ([], [])).1 (days.getD n ([], [])).2).held) held
def pAt (rooms held : List Int) (days : List Day) (n : Nat) : DayS := dayRun rooms (hAt rooms held days n) (days.getD n ([], [])).1 (days.getD n ([], [])).2
def planTo (rooms held : List Int) (days : List Day) (n : Nat) : List Day := (List.range n).map fun k => ((pAt rooms held days k).drawn, (pAt rooms held days k).held)
theorem hAt_succ (rooms held : List Int) (days : List Day) (n : Nat) : hAt rooms held days (n + 1) = (pAt rooms held days n).held := rfl
theorem hAt_wf {rooms held : List Int} {days : List Day} (Y : YardWf rooms held) (hd : ∀ d ∈ days, dayOk rooms.length d = true) : ∀ n, n ≤ days.length → YardWf rooms (hAt rooms held days n)
  | 0, _ => Y
  | n + 1, h => dayRun_wf (hAt_wf Y hd n (by omega)) (hd _ (List.mem_of_getElem? (getDay (show n < days.length by omega))))
theorem planTo_at {rooms held : List Int} {days : List Day} {n k : Nat} (h : k < n) : (planTo rooms held days n).getD k ([], []) = ((pAt rooms held days k).drawn, (pAt rooms held days k).held) := by
  rw [List.getD_eq_getElem?_getD, planTo, List.getElem?_map, List.getElem?_range h]; rfl
theorem heldAt_plan {rooms held : List Int} {days : List Day} {n : Nat} : ∀ k, k ≤ n → heldAt held (planTo rooms held days n) k = hAt rooms held days k
  | 0, _ => rfl
  | k + 1, h => by
    show ((planTo rooms held days n).getD k ([], [])).2 = _
    rw [planTo_at (by omega)]
    rfl
theorem plan_holds {rooms held : List Int} {days : List Day} (Y : YardWf rooms held) (hd : ∀ d ∈ days, dayOk rooms.length d = true) : holdsB rooms held days (planTo rooms held days days.length) = true := by
  refine holdsB_iff.mpr ⟨by simp [planTo], fun n hn => ?_⟩
  rw [heldAt_plan n (by omega), planTo_at hn]
  exact dayRun_holds (hAt_wf Y hd n (by omega)) (hd _ (List.mem_of_getElem? (getDay hn)))
theorem sum_map_range {f : Nat → Int} (n : Nat) : ((List.range (n + 1)).map f).sum = ((List.range n).map f).sum + f n := by
  rw [List.range_succ, List.map_append, List.sum_append]; simp
/-! the drawn yards and days -/
end Cy

namespace Cy
open PySem L2
/-! ### the drawn yards and days -/
theorem three_le {x y z m : Int} (hx : x ≤ m) (hy : y ≤ m) (hz : z ≤ m) {i : Nat} (h : i < 3) : ([x, y, z] : List Int).getD i 0 ≤ m := by
  match i, h with
  | 0, _ => exact hx
  | 1, _ => exact hy
  | 2, _ => exact hz
theorem topBy_le (ns : List Int) (b : Int) : topBy ns b ≤ 51 := three_le (by decide) (by decide) (by decide) (by have := drawn_pos ns (b + 1) (many := 3) (by decide); omega)
theorem dtopBy_le (ns : List Int) (b : Int) : dtopBy ns b ≤ 31 := three_le (by decide) (by decide) (by decide) (by have := drawn_pos ns b (many := 3) (by decide); omega)
theorem watersBy_len (ns : List Int) (b : Int) : (watersBy ns b).length = manyBy ns b := by simp [watersBy]
theorem watersBy_at {ns : List Int} {b : Int} {k : Nat} (h : k < manyBy ns b) : (watersBy ns b).getD k 0 = drawn ns (b + 6 + k) ((roomsBy ns b).getD k 0 + 1) := by
  rw [List.getD_eq_getElem?_getD, watersBy, List.getElem?_map, List.getElem?_range h]; rfl
theorem yardBy_wf (ns : List Int) (b : Int) : YardWf (roomsBy ns b) (watersBy ns b) := by
  have hm := manyBy_le ns b
  have h : ∀ k, k < (roomsBy ns b).length → 0 ≤ (roomsBy ns b).getD k 0 ∧ (roomsBy ns b).getD k 0 ≤ 50 := fun k hk => by
    rw [roomsBy_len] at hk
    rw [roomsBy_at hk]
    have := drawn_pos ns (b + 2 + k) (topBy_pos ns b)
    have := topBy_le ns b
    omega
  refine ⟨by rw [roomsBy_len, watersBy_len], by rw [roomsBy_len]; omega, by rw [roomsBy_len]; omega, h, fun k hk => ?_⟩
  have h1 := h k hk
  rw [roomsBy_len] at hk
  rw [watersBy_at hk]
  have := drawn_pos ns (b + 6 + k) (many := (roomsBy ns b).getD k 0 + 1) (by omega)
  omega
theorem withinB_of {ns : List Int} {m : Int} (h : ∀ k, k < ns.length → 0 ≤ ns.getD k 0 ∧ ns.getD k 0 ≤ m) : withinB ns m = true := withinB_iff.mpr fun x hx => by
  obtain ⟨i, hi, e⟩ := List.getElem_of_mem hx
  have := h i hi
  rw [List.getD_eq_getElem?_getD, List.getElem?_eq_getElem hi, e] at this
  exact this
theorem YardWf.ok {rooms held : List Int} (Y : YardWf rooms held) : yardOk rooms held = true := yardOk_iff.mpr ⟨Y.pos, Y.four, Y.len, withinB_of Y.room, Y.water⟩
theorem lOk_map {n : Nat} {f : Nat → Int} (h : ∀ k, k < n → 0 ≤ f k ∧ f k ≤ 30) : lOk n ((List.range n).map f) = true := by
  refine lOk_iff.mpr ⟨by simp, withinB_iff.mpr fun x hx => ?_⟩
  obtain ⟨k, hk, rfl⟩ := List.mem_map.mp hx
  exact h k (List.mem_range.mp hk)
theorem daysBy_ok (ns : List Int) (b : Int) (many : Nat) : daysOk many (daysBy ns b many 8) = true := by
  have hd := drawn_pos ns (b + 1) (many := 8 + 1) (by decide)
  have hp := dtopBy_pos ns b
  have hl := dtopBy_le ns b
  refine daysOk_iff.mpr ⟨by unfold daysBy; rw [List.length_map, List.length_range]; omega, fun d hd => ?_⟩
  obtain ⟨n, hn, rfl⟩ := List.mem_map.mp hd
  have hw : ∀ k, 0 ≤ drawn ns (b + 14 + 8 * n + k) (dtopBy ns b) ∧ drawn ns (b + 14 + 8 * n + k) (dtopBy ns b) ≤ 30 := fun k => by
    have := drawn_pos ns (b + 14 + 8 * n + k) hp
    omega
  refine dayOk_iff.mpr ⟨lOk_map fun k hk => ?_, ?_⟩
  · have := drawn_pos ns (b + 10 + 8 * n + k) hp
    omega
  · show lOk many (wishesBy ns b many n) = true
    unfold wishesBy
    split
    · rw [List.map_map]
      refine lOk_map fun k hk => ?_
      have := hw k
      show 0 ≤ min 30 (2 * drawn ns (b + 14 + 8 * n + k) (dtopBy ns b)) ∧ min 30 (2 * drawn ns (b + 14 + 8 * n + k) (dtopBy ns b)) ≤ 30
      omega
    · exact lOk_map fun k hk => hw k
theorem daysBy_ok' (ns : List Int) (b b2 : Int) : daysOk (roomsBy ns b2).length (daysBy ns b (manyBy ns b2) 8) = true := by
  rw [roomsBy_len]; exact daysBy_ok ns b _
section
variable {K : Fg} {A : Ad} {B : Bs} {D : Ends} {ss : SS} {os : Own} {u : TS} {ta tb tx : TE} {E : XK}
/-- x = Yard(rooms, waters) -/
theorem q_yard {i : Nat} {rooms waters : List Int} {tA : TA} (Y : yardOk rooms waters = true) (hB : B.fp = []) (ha : EvA K tA ss os [iL rooms, iL waters])
    (k : ∀ h, h ∉ keys os → Do K B u (ss.set i (some (yardO A rooms h))) ((h, .lst (waters.map Dt.int)) :: os) D) : Do K B (tSeq (tAsg (tMake A.Yard (spC K 3 (c_Yard_init A)) [] E tA) (gName i)) u) ss os D := by
  refine q_asgM (em_make (P := fun p r os' => if yardOk rooms waters then r = .ok .non ∧ ∃ h, h ≠ p ∧ os' = [(p, .ins A.Yard ["sizes", "held"] [iL rooms, .adr h]), (h, .lst (waters.map Dt.int))] else r = .er A.BadYard) ha rfl (fun p => ⟨p, rooms, waters, rfl, rfl, rfl⟩)
    (fun p C os' h => by rw [if_pos Y] at h; cases h.1) (fun p d os' h => by rw [if_pos Y] at h; cases h.1; rfl)) fun d os' hd => ?_
  obtain ⟨p, os1, rfl, np, hP, rfl⟩ := hd
  rw [if_pos Y] at hP
  obtain ⟨_, h, ne, rfl⟩ := hP
  intro σ G H b r
  have nd := r.ow.nd
  have nh : h ∉ keys os := fun m => by
    have : (p :: h :: keys os).Nodup := nd
    exact (List.nodup_cons.mp (List.nodup_cons.mp this).2).1 m
  exact do_frz (p := p) (c := .ins A.Yard ["sizes", "held"] [iL rooms, .adr h]) (os0 := (h, .lst (waters.map Dt.int)) :: os) (List.Perm.refl _) (fun _ z => by cases z) (by rw [hB]; simp) (FzS.set .here _ _) (FzO.refl _) (k h nh) σ G H b r
/-- x = yard.day(rain, wishes) -/
theorem q_day {i : Nat} {rooms held : List Int} {h : Addr} {d : Day} {tA : TA} {tail : Own} (Y : YardWf rooms held) (hd : dayOk rooms.length d = true) (hB : B.fp = []) (hx : Ev K tx ss os (yardO A rooms h)) (hp : os.Perm ((h, .lst (held.map Dt.int)) :: tail))
    (ha : EvA K tA ss os [iL d.1, iL d.2])
    (k : ∀ q, q ∉ keys os → Do K B u (ss.set i (some (.tup [iL (dayRun rooms held d.1 d.2).drawn, .int (dayRun rooms held d.1 d.2).over]))) ((h, .lst ((dayRun rooms held d.1 d.2).held.map Dt.int)) :: tail) D) :
    Do K B (tSeq (tAsg (tMeth A.Yard "day" (spC K 3 (c_Yard_day A)) [] E tx tA) (gName i)) u) ss os D := by
  refine q_asgM (em_meth (osp := [(h, .lst (held.map Dt.int))]) (osr := tail) hx IV.ins (by decide +kernel) ha rfl hp ⟨rooms, held, h, d, Y.len, Y.four, rfl, rfl, rfl⟩ (fun C os' h => by rw [if_pos hd] at h; obtain ⟨q, _, z, _⟩ := h; cases z)) fun dd os' hdd => ?_
  obtain ⟨os1, hP, rfl⟩ := hdd
  rw [if_pos hd] at hP
  obtain ⟨q, nq, e, rfl⟩ := hP
  cases e
  intro σ G H b r
  have nqo : q ∉ keys os := fun m => by
    have m2 : q ∈ keys ((h, Cel.lst (held.map Dt.int)) :: tail) := (hp.map (·.1)).mem_iff.mp m
    have nd : (h :: q :: keys tail).Nodup := r.ow.nd
    rcases List.mem_cons.mp m2 with z | z
    · exact nq z
    · exact (List.nodup_cons.mp (List.nodup_cons.mp nd).2).1 z
  refine do_frz (p := q) (c := .lst ((dayRun rooms held d.1 d.2).drawn.map Dt.int)) (os0 := (h, .lst ((dayRun rooms held d.1 d.2).held.map Dt.int)) :: tail) (List.Perm.swap _ _ _) (fun _ z => by cases z) (by rw [hB]; simp) (FzS.set (.tup (.cons .here (.cons (.same _) .nil))) _ _) (FzO.refl _) (k q nqo) σ G H b r
/-- yard.waters(), the water one's own: a new list -/
theorem ef_waters {rooms held : List Int} {h : Addr} (hx : Ev K tx ss os (yardO A rooms h)) (m : (h, Cel.lst (held.map Dt.int)) ∈ os) : EvF K (tMeth A.Yard "waters" (spC K 1 (c_Yard_waters A)) [] E tx tNil) ss os (held.map Dt.int) :=
  ef_methL (x' := yardD A rooms held) hx IV.ins (by decide +kernel) ea_nil (.cons (.insI (.cons (.same _) (.cons (.lst m) .nil))) .nil) rfl ⟨rooms, held, rfl, rfl, rfl⟩ (Thins.ints _)
theorem ef_watersD {rooms held : List Int} (hx : Ev K tx ss os (yardD A rooms held)) : EvF K (tMeth A.Yard "waters" (spC K 1 (c_Yard_waters A)) [] E tx tNil) ss os (held.map Dt.int) :=
  ef_methL hx IV.ins (by decide +kernel) ea_nil (Fms.refl _) rfl ⟨rooms, held, rfl, rfl, rfl⟩ (Thins.ints _)
end
end Cy

namespace Cy
open PySem L2
open Evl (Ex Ex.refl Ex.trans Ex.new Ex.mut)
/-! ### many cells frozen at once -/
inductive FmS (os : Own) : SS → SS → Prop
  | nil : FmS os [] []
  | cons {x y : Dt} {xs ys : SS} : Fm os x y → FmS os xs ys → FmS os (some x :: xs) (some y :: ys)
  | skip {x : Option Dt} {xs ys : SS} : FmS os xs ys → FmS os (x :: xs) (none :: ys)
inductive FmC (os : Own) : Cel → Cel → Prop
  | same (c : Cel) : FmC os c c
  | lst {xs ys : List Dt} : Fms os xs ys → FmC os (.lst xs) (.lst ys)
  | ins {C : Addr} {ns : List Str} {xs ys : List Dt} : Fms os xs ys → FmC os (.ins C ns xs) (.ins C ns ys)
inductive FmO (os : Own) : Own → Own → Prop
  | nil : FmO os [] []
  | cons {a : Addr} {c c' : Cel} {xs ys : Own} : FmC os c c' → FmO os xs ys → FmO os ((a, c) :: xs) ((a, c') :: ys)
theorem FmS.refl {os : Own} : ∀ ss : SS, FmS os ss ss
  | [] => .nil
  | none :: r => .skip (FmS.refl r)
  | some x :: r => .cons (.same x) (FmS.refl r)
theorem FmS.set {os : Own} {x y : Dt} (h : Fm os x y) : ∀ (ss : SS) (i : Nat), FmS os (ss.set i (some x)) (ss.set i (some y))
  | [], _ => .nil
  | none :: r, 0 => .cons h (FmS.refl r)
  | some z :: r, 0 => .cons h (FmS.refl r)
  | none :: r, i + 1 => .skip (FmS.set h r i)
  | some z :: r, i + 1 => .cons (.same z) (FmS.set h r i)
theorem FmO.refl {os : Own} : ∀ o : Own, FmO os o o
  | [] => .nil
  | (a, c) :: r => .cons (.same c) (FmO.refl r)
theorem FmO.keys {os : Own} : ∀ {xs ys : Own}, FmO os xs ys → keys ys = keys xs
  | _, _, .nil => rfl
  | _, _, .cons _ r => by simp [Cy.keys, r.keys]
theorem FmO.at_ {os : Own} : ∀ {xs ys : Own}, FmO os xs ys → ∀ y ∈ ys, ∃ x ∈ xs, x.1 = y.1 ∧ FmC os x.2 y.2
  | _, _, .nil, y, m => by simp at m
  | _, _, .cons (a := a) (c := c) f r, y, m => by
    rcases List.mem_cons.mp m with rfl | m
    · exact ⟨_, List.mem_cons_self, rfl, f⟩
    · obtain ⟨x, hx, e⟩ := r.at_ y m
      exact ⟨x, List.mem_cons_of_mem _ hx, e⟩
section
variable {K : Fg} {G G' H H' : Hp} {os osf os0 osr : Own} {ss ss' : SS} {B : Bs} {t : TS} {D : Ends}
theorem FmS.slots (hh : ∀ {x y : List Dt} {v : List V}, Fms os x y → Rps K G v x → Rps K G' v y) : ∀ {σ : St} {ss ss' : SS}, FmS os ss ss' → Slots K G σ ss → Slots K G' σ ss'
  | σ, _, _, .nil, h => ⟨h.1, fun i d q => by simp at q⟩
  | [], _, _, .cons f r, h => by have := h.1; simp at this
  | [], _, _, .skip r, h => by have := h.1; simp at this
  | w :: σ, _, _, .cons f r, h => by
    have ih := FmS.slots (σ := σ) hh r ⟨by have := h.1; simpa using this, fun i d q => by simpa using h.2 (i + 1) d (by simpa using q)⟩
    refine ⟨by have := ih.1; simp [this], fun i d q => ?_⟩
    cases i with
    | zero =>
      obtain ⟨v, h1, h2⟩ := h.2 0 _ rfl
      simp at q
      subst q
      have := hh (.cons f .nil) (.cons h2 .nil)
      cases this with
      | cons a b => exact ⟨v, h1, a⟩
    | succ i =>
      obtain ⟨v, h1, h2⟩ := ih.2 i d (by simpa using q)
      exact ⟨v, by simpa using h1, h2⟩
  | w :: σ, _, _, .skip r, h => by
    have ih := FmS.slots (σ := σ) hh r ⟨by have := h.1; simpa using this, fun i d q => by simpa using h.2 (i + 1) d (by simpa using q)⟩
    refine ⟨by have := ih.1; simp [this], fun i d q => ?_⟩
    cases i with
    | zero => simp at q
    | succ i =>
      obtain ⟨v, h1, h2⟩ := ih.2 i d (by simpa using q)
      exact ⟨v, by simpa using h1, h2⟩
theorem do_frzM (hp : os.Perm (osf ++ os0)) (hn : ∀ x ∈ osf, x.1 ∉ B.fp) (hs : FmS osf ss ss') (ho : FmO osf os0 osr) (k : Do K B t ss' osr D) : Do K B t ss os D := fun σ G H b r => by
  classical
  have ow := r.ow.perm hp
  have ol := ow.left
  let Gl : Hp := fun a => if a ∈ keys osf then H a else G a
  have key : ∀ {a}, a ∈ keys osf → G a = none ∧ (∃ c, (a, c) ∈ osf ∧ CelOk K G H a c) := fun {a} m => by
    obtain ⟨x, hx, e⟩ := List.mem_map.mp m
    obtain ⟨h1, h2⟩ := ol.at_ x hx
    subst e
    exact ⟨h1, x.2, hx, h2⟩
  have gi : ∀ {a}, a ∈ keys osf → Gl a = H a := fun m => if_pos m
  have go : ∀ {a}, a ∉ keys osf → Gl a = G a := fun m => if_neg m
  have e1 : Ex G Gl := fun a o h => by
    by_cases m : a ∈ keys osf
    · rw [(key m).1] at h; cases h
    · rw [go m]; exact h
  have e2 : Ex Gl H := fun a o h => by
    by_cases m : a ∈ keys osf
    · rw [gi m] at h; exact h
    · rw [go m] at h; exact r.gh _ _ h
  have hn2 : ∀ p ds, (p, Cel.lst ds) ∈ osf → ∃ vs, Gl p = some (.lst vs) ∧ Rps K G vs ds := fun p ds m => by
    obtain ⟨_, vs, h1, h2⟩ := ol.at_ _ m
    exact ⟨vs, (gi (mem_keys m)).trans h1, h2⟩
  have hl : ∀ p ds, (p, Cel.lst ds) ∈ osf → ∃ vs, Gl p = some (.lst vs) ∧ Rps K Gl vs ds := fun p ds m => by
    obtain ⟨vs, h1, h2⟩ := hn2 p ds m
    exact ⟨vs, h1, h2.mono e1⟩
  have hi : ∀ p C ns ds, (p, Cel.ins C ns ds) ∈ osf → ∃ dx vs, Gl p = some (.ins C dx (ns.zip vs)) ∧ Rps K G vs ds := fun p C ns ds m => by
    obtain ⟨_, dx, vs, _, h1, h2⟩ := ol.at_ _ m
    exact ⟨dx, vs, (gi (mem_keys m)).trans h1, h2⟩
  have hh : ∀ {x y : List Dt} {v : List V}, Fms osf x y → Rps K G v x → Rps K Gl v y := fun f r => Rps.fm e1 hl hn2 hi f r
  have nd := ow.nd
  rw [keys, List.map_append] at nd
  obtain ⟨n1, n2, n3⟩ := List.nodup_append.mp nd
  refine k σ Gl H ⟨⟨b.gq.ex.trans e1, fun a o h => ?_, b.gq.keep, b.gq.dom⟩, fun x m => ?_⟩ ⟨e2, hs.slots hh r.sl, ⟨by rw [ho.keys]; exact n2, fun y m => ?_⟩⟩
  · by_cases m : a ∈ keys osf
    · right
      obtain ⟨x, hx, e⟩ := List.mem_map.mp m
      rcases b.nw x (hp.mem_iff.mpr (List.mem_append_left _ hx)) with z | z
      · left; rw [← e]; exact z
      · exact (hn x hx z).elim
    · rw [go m] at h; exact b.gq.new a o h
  · have : x.1 ∈ keys osr := mem_keys m
    rw [ho.keys] at this
    obtain ⟨y, hy, e⟩ := List.mem_map.mp this
    have := b.nw y (hp.mem_iff.mpr (List.mem_append_right _ hy))
    rw [e] at this
    exact this
  · obtain ⟨x, hx, q1, f⟩ := ho.at_ y m
    obtain ⟨g1, c1⟩ := ow.at_ x (List.mem_append_right _ hx)
    have ne : x.1 ∉ keys osf := fun z => n3 _ z _ (mem_keys hx) rfl
    refine ⟨by rw [← q1, go ne]; exact g1, ?_⟩
    rw [← q1]
    generalize x.2 = c0 at f c1
    generalize y.2 = c2 at f
    cases f with
    | same => exact c1.mono e1 rfl
    | lst f =>
      obtain ⟨vs, h1, h2⟩ := c1
      exact ⟨vs, h1, hh f h2⟩
    | ins f =>
      obtain ⟨dx, vs, l, h1, h2⟩ := c1
      exact ⟨dx, vs, l, h1, hh f h2⟩
theorem nx_frzM {Z : St → Hp → Prop} (hp : os.Perm (osf ++ os0)) (hn : ∀ x ∈ osf, x.1 ∉ B.fp) (hs : FmS osf ss ss') (ho : FmO osf os0 osr) (k : Nx K B Z ss' osr) : Nx K B Z ss os :=
  do_frzM (t := fun _ => Z) (D := ⟨Z, fun _ _ => True, Z, Z⟩) hp hn hs ho k
end
theorem set_same {ss : SS} {i : Nat} {x : Dt} (h : ss[i]? = some (some x)) : ss.set i (some x) = ss := by
  refine List.ext_getElem? fun j => ?_
  by_cases e : i = j
  · subst e
    rw [List.getElem?_set_self (List.getElem?_eq_some_iff.mp h).1, h]
  · rw [List.getElem?_set_ne e]
theorem FzS.at {p : Addr} {d x y : Dt} {ss : SS} (i : Nat) (h : ss[i]? = some (some x)) (f : Fz p d x y) : FzS p d ss (ss.set i (some y)) := by
  have := FzS.set f ss i
  rw [set_same h] at this
  exact this
theorem FmS.at {os : Own} {x y : Dt} {ss : SS} (i : Nat) (h : ss[i]? = some (some x)) (f : Fm os x y) : FmS os ss (ss.set i (some y)) := by
  have := FmS.set f ss i
  rw [set_same h] at this
  exact this
/-! ### isinstance -/
inductive TyD (os : Own) : Dt → String → Prop
  | non : TyD os .non "NoneType"
  | bl (b : Bool) : TyD os (.bl b) "bool"
  | int (b : Int) : TyD os (.int b) "int"
  | str (b : Str) : TyD os (.str b) "str"
  | lst (b : List Dt) : TyD os (.lst b) "list"
  | tup (b : List Dt) : TyD os (.tup b) "tuple"
  | own {p : Addr} {ds : List Dt} : (p, Cel.lst ds) ∈ os → TyD os (.adr p) "list"
section
variable {K : Fg} {ss : SS} {os : Own} {ta tb te tx : TE} {d x : Dt} {ds : List Dt} {B : Bs} {D : Ends} {t u : TS}
theorem ev_isi {T n : String} {b : Bool} (ha : Ev K ta ss os x) (ht : TyD os x T) (hk : PySem.W.kitOne K (.type T) (.type n) = some b) : Ev K (tCB (rIsi K) (tCons ta (tCons (tC (V.ty n)) tNil))) ss os (.bl b) := fun σ G H R Q q => ha σ G H R _ fun v G1 H1 q1 e1 r1 => by
  refine ⟨v, .ty n, .type T, .type n, b, rfl, .ty n, .base ?_, hk, q _ G1 H1 q1 e1 (.bl _)⟩
  cases ht with
  | non => cases r1; exact .non
  | bl => cases r1; exact .bl _
  | int => cases r1; exact .int _
  | str => cases r1; exact .str _
  | lst =>
    cases r1 with
    | lst h1 h2 => exact .lst (e1 _ _ h1)
  | tup =>
    cases r1 with
    | tup h1 h2 => exact .tup (e1 _ _ h1)
  | own m =>
    cases r1
    obtain ⟨_, vs, h1, _⟩ := (R.ow.grow q1 e1).at_ _ m
    exact .lst h1
theorem kit_bb : PySem.W.kitOne K (.type "bool") (.type "bool") = some true := by rfl
theorem kit_ib : PySem.W.kitOne K (.type "int") (.type "bool") = some false := by rfl
theorem kit_ii : PySem.W.kitOne K (.type "int") (.type "int") = some true := by rfl
theorem kit_ll : PySem.W.kitOne K (.type "list") (.type "list") = some true := by rfl
theorem kit_tt : PySem.W.kitOne K (.type "tuple") (.type "tuple") = some true := by rfl
theorem ev_eqB {i j : Bool} (ha : Ev K ta ss os (.bl i)) (hb : Ev K tb ss os (.bl j)) : Ev K (tOp rEq ta tb) ss os (.bl (decide (i = j))) := by
  have := ev_op ha hb (rv_eq (K := K) (os := os) (x := .bl i) (y := .bl j) (a := .bl i) (b := .bl j) rfl rfl rfl)
  have e : decide (V.bl i = V.bl j) = decide (i = j) := by
    by_cases h : i = j
    · subst h; simp
    · simp [h]
  rw [e] at this
  exact this
/-! ### pop -/
theorem em_pop {p : Addr} (ha : Ev K ta ss os (.adr p)) (m : (p, Cel.lst ds) ∈ os) (h : ds[ds.length - 1]? = some d) : EvM K (tBM0 K "list" rPop ta) ss os (fun d' os' => d' = d ∧ os' = setC os p (.lst ds.dropLast)) := fun σ G H r Q q =>
  ha σ G H r _ fun v G1 H1 q1 e1 r1 => by
    cases r1
    have R1 := r.grow q1 e1
    obtain ⟨gp, vs, h1, rv⟩ := R1.ow.at_ _ m
    obtain ⟨w, hw, rw_⟩ := rv.get h
    refine ⟨Or.inl ⟨rfl, vs, .of h1⟩, p, vs, w, rfl, rfl, h1, by rw [rv.length]; exact hw, ?_⟩
    obtain ⟨q3, e3⟩ := gq_put (fp := keys os) (o := .lst vs.dropLast) R1.gh gp h1 (mem_keys m)
    refine q d _ w G1 _ ⟨rfl, rfl⟩ ((q1.wk (by simp)).trans q3 fun p m => .inl m) e3 (R1.ow.put ⟨_, upd_same, rv.dropLast⟩) (fun x mx => ?_) rw_
    right
    have : x.1 ∈ keys (setC os p (.lst ds.dropLast)) := mem_keys mx
    rw [keys_setC] at this
    exact this
theorem em_popAt {p : Addr} {i : Int} {k : Nat} (ha : Ev K ta ss os (.adr p)) (m : (p, Cel.lst ds) ∈ os) (hb : Ev K tb ss os (.int i)) (h0 : -(2 ^ 63) ≤ i) (h1 : i < 2 ^ 63) (hk : seqIndex? i ds.length = some k) (h : ds[k]? = some d) :
    EvM K (tBM K "list" rPopAt ta (tCons tb tNil)) ss os (fun d' os' => d' = d ∧ os' = setC os p (.lst (ds.eraseIdx k))) := fun σ G H r Q q =>
  ha σ G H r _ fun v G1 H1 q1 e1 r1 => by
    cases r1
    have R1 := r.grow q1 e1
    obtain ⟨_, vs0, h00, _⟩ := R1.ow.at_ _ m
    refine ⟨Or.inl ⟨rfl, vs0, .of h00⟩, hb σ G1 H1 R1 _ fun z G2 H2 q2 e2 r2 => ?_⟩
    cases r2
    have R2 := R1.grow q2 e2
    obtain ⟨gp, vs, hh, rv⟩ := R2.ow.at_ _ m
    obtain ⟨w, hw, rw_⟩ := rv.get h
    refine ⟨p, vs, i, k, w, rfl, rfl, hh, h0, h1, by rw [rv.length]; exact hk, hw, ?_⟩
    obtain ⟨q3, e3⟩ := gq_put (fp := keys os) (o := .lst (vs.eraseIdx k)) R2.gh gp hh (mem_keys m)
    refine q d _ w G2 _ ⟨rfl, rfl⟩ (((q1.trans q2 (by simp)).wk (by simp)).trans q3 fun p m => .inl m) e3 (R2.ow.put ⟨_, upd_same, rv.eraseIdx k⟩) (fun x mx => ?_) rw_
    right
    have : x.1 ∈ keys (setC os p (.lst (ds.eraseIdx k))) := mem_keys mx
    rw [keys_setC] at this
    exact this
end
/-! ### days whose lists are one's own -/
def cellsOf (as : List (Addr × Addr)) (ds : List Day) : Own := (as.zip ds).flatMap fun x => [(x.1.1, .lst (x.2.1.map Dt.int)), (x.1.2, .lst (x.2.2.map Dt.int))]
def spine (as : List (Addr × Addr)) : List Dt := as.map fun a => .tup [.adr a.1, .adr a.2]
def MadeDays (days : List Day) : Res → Own → Prop := fun r os' => ∃ p as, as.length = days.length ∧ r = .ok (.adr p) ∧ os' = (p, .lst (spine as)) :: cellsOf as days
theorem cells_mem {as : List (Addr × Addr)} {ds : List Day} {i : Nat} {a : Addr × Addr} {d : Day} (ha : as[i]? = some a) (hd : ds[i]? = some d) : (a.1, Cel.lst (d.1.map Dt.int)) ∈ cellsOf as ds ∧ (a.2, Cel.lst (d.2.map Dt.int)) ∈ cellsOf as ds := by
  have : (a, d) ∈ as.zip ds := List.mem_of_getElem? (i := i) (by rw [List.getElem?_zip_eq_some]; exact ⟨ha, hd⟩)
  exact ⟨List.mem_flatMap.mpr ⟨_, this, by simp⟩, List.mem_flatMap.mpr ⟨_, this, by simp⟩⟩
theorem cells_snoc {as : List (Addr × Addr)} {ds : List Day} (h : as.length = ds.length) (a : Addr × Addr) (d : Day) : cellsOf (as ++ [a]) (ds ++ [d]) = cellsOf as ds ++ [(a.1, .lst (d.1.map Dt.int)), (a.2, .lst (d.2.map Dt.int))] := by
  unfold cellsOf
  rw [List.zip_append h, List.flatMap_append]
  rfl
theorem setC_out {os : Own} {p : Addr} {c : Cel} (h : p ∉ keys os) : setC os p c = os := by
  unfold setC
  have : ∀ x ∈ os, (if x.1 = p then (p, c) else x) = x := fun x m => if_neg fun e : x.1 = p => h (by rw [← e]; exact mem_keys m)
  rw [List.map_congr_left this, List.map_id'']
  intro x; rfl
theorem setC_append {o1 o2 : Own} {p : Addr} {c : Cel} : setC (o1 ++ o2) p c = setC o1 p c ++ setC o2 p c := by
  unfold setC; rw [List.map_append]
theorem cells_fms {osl : Own} : ∀ {as : List (Addr × Addr)} {ds : List Day}, as.length = ds.length → (∀ x ∈ cellsOf as ds, x ∈ osl) → Fms osl (spine as) (ds.map dayD)
  | [], [], _, _ => .nil
  | [], _ :: _, h, _ => by simp at h
  | _ :: _, [], h, _ => by simp at h
  | a :: as, d :: ds, h, m => .cons (.tupI (.cons (.lst (m _ (by show _ ∈ [(a.1, Cel.lst (d.1.map Dt.int)), (a.2, Cel.lst (d.2.map Dt.int))] ++ cellsOf as ds; simp))) (.cons (.lst (m _ (by show _ ∈ [(a.1, Cel.lst (d.1.map Dt.int)), (a.2, Cel.lst (d.2.map Dt.int))] ++ cellsOf as ds; simp))) .nil)))
      (cells_fms (by simpa using h) fun x hx => m x (List.mem_append_right _ hx))
theorem days_fm {osl : Own} {as : List (Addr × Addr)} {ds : List Day} {p : Addr} (h : as.length = ds.length) (m : ∀ x ∈ (p, Cel.lst (spine as)) :: cellsOf as ds, x ∈ osl) : Fm osl (.adr p) (daysD ds) :=
  .lstN (m _ List.mem_cons_self) (cells_fms h fun x hx => m x (List.mem_cons_of_mem _ hx))
theorem spine_at {as : List (Addr × Addr)} {i : Nat} {a : Addr × Addr} (h : as[i]? = some a) : atI (spine as) (i : Int) = some (.tup [.adr a.1, .adr a.2]) := at_mapN (f := fun a : Addr × Addr => Dt.tup [.adr a.1, .adr a.2]) h
theorem spine_len (as : List (Addr × Addr)) : (spine as).length = as.length := by simp [spine]
/-- one of the lists is another one -/
theorem cells_set1 : ∀ {as : List (Addr × Addr)} {ds : List Day} {i : Nat} {a : Addr × Addr} {d : Day} {xs : List Int}, as[i]? = some a → ds[i]? = some d → (keys (cellsOf as ds)).Nodup →
    setC (cellsOf as ds) a.1 (.lst (xs.map Dt.int)) = cellsOf as (ds.set i (xs, d.2)) ∧ setC (cellsOf as ds) a.2 (.lst (xs.map Dt.int)) = cellsOf as (ds.set i (d.1, xs))
  | [], _, _, _, _, _, h, _, _ => by simp at h
  | _ :: _, [], _, _, _, _, _, h, _ => by simp at h
  | b :: as, e :: ds, 0, a, d, xs, ha, hd, nd => by
    simp at ha hd
    subst ha hd
    have nd : (b.1 :: b.2 :: keys (cellsOf as ds)).Nodup := nd
    obtain ⟨n1, n2⟩ := List.nodup_cons.mp nd
    obtain ⟨n3, n4⟩ := List.nodup_cons.mp n2
    have ne : b.1 ≠ b.2 := fun z => n1 (by rw [z]; exact List.mem_cons_self)
    have n5 : b.1 ∉ keys (cellsOf as ds) := fun z => n1 (List.mem_cons_of_mem _ z)
    have e1 : ∀ d' : Day, cellsOf (b :: as) (d' :: ds) = [(b.1, .lst (d'.1.map Dt.int)), (b.2, .lst (d'.2.map Dt.int))] ++ cellsOf as ds := fun _ => rfl
    rw [List.set_cons_zero, List.set_cons_zero, e1, e1, e1, setC_append, setC_append, setC_out n5, setC_out n3]
    constructor
    · congr 1
      simp [setC, ne.symm]
    · congr 1
      simp [setC, ne]
  | b :: as, e :: ds, i + 1, a, d, xs, ha, hd, nd => by
    have nd : (b.1 :: b.2 :: keys (cellsOf as ds)).Nodup := nd
    obtain ⟨n1, n2⟩ := List.nodup_cons.mp nd
    obtain ⟨n3, n4⟩ := List.nodup_cons.mp n2
    have ha : as[i]? = some a := by simpa using ha
    have hd : ds[i]? = some d := by simpa using hd
    obtain ⟨h1, h2⟩ := cells_set1 (xs := xs) ha hd n4
    obtain ⟨m1, m2⟩ := cells_mem ha hd
    have k1 : a.1 ∈ keys (cellsOf as ds) := mem_keys m1
    have k2 : a.2 ∈ keys (cellsOf as ds) := mem_keys m2
    have e1 : cellsOf (b :: as) (e :: ds) = [(b.1, .lst (e.1.map Dt.int)), (b.2, .lst (e.2.map Dt.int))] ++ cellsOf as ds := rfl
    have e2 : ∀ ds', cellsOf (b :: as) (e :: ds') = [(b.1, .lst (e.1.map Dt.int)), (b.2, .lst (e.2.map Dt.int))] ++ cellsOf as ds' := fun _ => rfl
    have o1 : a.1 ∉ keys ([(b.1, .lst (e.1.map Dt.int)), (b.2, .lst (e.2.map Dt.int))] : Own) := fun z => by
      simp at z
      rcases z with z | z
      · exact n1 (List.mem_cons_of_mem _ (z ▸ k1))
      · exact n3 (z ▸ k1)
    have o2 : a.2 ∉ keys ([(b.1, .lst (e.1.map Dt.int)), (b.2, .lst (e.2.map Dt.int))] : Own) := fun z => by
      simp at z
      rcases z with z | z
      · exact n1 (List.mem_cons_of_mem _ (z ▸ k2))
      · exact n3 (z ▸ k2)
    rw [List.set_cons_succ, List.set_cons_succ, e1, e2, e2, setC_append, setC_append, setC_out o1, setC_out o2, h1, h2]
    exact ⟨rfl, rfl⟩
theorem keys_cells {as : List (Addr × Addr)} : ∀ {ds es : List Day}, as.length = ds.length → as.length = es.length → keys (cellsOf as ds) = keys (cellsOf as es) := by
  induction as with
  | nil => intro ds es h1 h2; simp [cellsOf]
  | cons a as ih =>
    intro ds es h1 h2
    cases ds with
    | nil => simp at h1
    | cons d ds =>
      cases es with
      | nil => simp at h2
      | cons e es =>
        show a.1 :: a.2 :: keys (cellsOf as ds) = a.1 :: a.2 :: keys (cellsOf as es)
        rw [ih (by simpa using h1) (by simpa using h2)]
theorem alike_ints : ∀ xs : List Int, PyData.eqvAll (xs.map PyData.int) (xs.map PyData.int) = true := fun xs => by rw [eqv_ints]; simp
def dayP (d : Day) : PyData := .tuple [.list (d.1.map PyData.int), .list (d.2.map PyData.int)]
def daysP (ds : List Day) : PyData := .list (ds.map dayP)
theorem Ql.daysP {n : Nat} (ds : List Day) : Ql (n + 3) (daysD ds) (daysP ds) := Ql.days ds
theorem Ql.dayP {n : Nat} (d : Day) : Ql (n + 2) (dayD d) (dayP d) := Ql.day d
theorem eqv_day (d : Day) : PyData.eqv (dayP d) (dayP d) = true := by
  unfold dayP
  rw [PyData.eqv, PyData.eqvAll, PyData.eqvAll, PyData.eqvAll, eqv_iL, eqv_iL]
  simp
theorem eqv_dayAll : ∀ ds : List Day, PyData.eqvAll (ds.map dayP) (ds.map dayP) = true
  | [] => by simp [PyData.eqvAll]
  | d :: r => by rw [List.map_cons, PyData.eqvAll, eqv_day, eqv_dayAll r]; rfl
theorem eqv_days (ds : List Day) : PyData.eqv (daysP ds) (daysP ds) = true := by
  unfold daysP
  rw [PyData.eqv, eqv_dayAll]
end Cy

namespace Cy
open PySem L2
local macro_rules | `(tactic| walk_at "lv") => `(tactic| first | exact LV.lst | exact LV.scr | exact LV.own List.mem_cons_self | exact LV.own (List.mem_cons_of_mem _ List.mem_cons_self) | exact LV.own (List.mem_cons_of_mem _ (List.mem_cons_of_mem _ List.mem_cons_self)) | exact LV.own (List.mem_cons_of_mem _ (List.mem_cons_of_mem _ (List.mem_cons_of_mem _ List.mem_cons_self))))
local macro_rules | `(tactic| walk_at "at") => `(tactic| first | exact at_mapN (by assumption) | exact at_map (by omega) (by assumption) | rfl | exact at_of (by omega) (by assumption))
local macro_rules | `(tactic| walk_at "side") => `(tactic| first | assumption | omega | decide)
local macro_rules | `(tactic| walk_at "ea") => `(tactic| first | exact ea_nil | (apply ea_cons; walk_at "ev"; walk_at "ea"))
local macro_rules | `(tactic| walk_at "et") => `(tactic| first
  | exact et_yes
  | (apply et_B; walk_at "ev")
  | (apply et_T; walk_at "ev")
  | (apply et_not; walk_at "et"))
local macro_rules | `(tactic| walk_at "ev") => `(tactic| first
  | exact ev_var rfl
  | exact ev_cint | exact ev_cbl | exact ev_cstr | exact ev_cnon
  | (apply ev_ii; walk_at "ev"; walk_at "ev")
  | (apply ev_ib; walk_at "ev"; walk_at "ev")
  | (apply ev_eqI; walk_at "ev"; walk_at "ev")
  | (apply ev_neI; walk_at "ev"; walk_at "ev")
  | (apply ev_ixL; walk_at "ev"; walk_at "lv"; walk_at "ev"; walk_at "at")
  | (apply ev_ixT; walk_at "ev"; walk_at "ev"; walk_at "at")
  | (apply ev_len; walk_at "ev"; walk_at "lv")
  | (apply ev_lenT; walk_at "ev")
  | (apply ev_min2; walk_at "ev"; walk_at "ev")
  | (apply ev_max2; walk_at "ev"; walk_at "ev")
  | (apply ev_tup; walk_at "ea"; (first | decide | simp | skip))
  | (apply ev_iC; walk_at "ev"; walk_at "ev"; walk_at "cond")
  | (apply ev_fldI; walk_at "cls"; walk_at "cls"; walk_at "ev"; walk_at "iv"; rfl; rfl; rfl)
  | (apply ev_F; walk_at "ef")
  | walk_at "call")
local macro_rules | `(tactic| walk_at "ef") => `(tactic| first
  | (apply ef_list; walk_at "ev"; walk_at "lv")
  | (apply ef_lst; walk_at "ea"; (first | decide | simp | skip)))
local macro_rules | `(tactic| walk_at "iv") => `(tactic| first | exact IV.ins | exact IV.own List.mem_cons_self | exact IV.own (List.mem_cons_of_mem _ List.mem_cons_self) | exact IV.own (List.mem_cons_of_mem _ (List.mem_cons_of_mem _ List.mem_cons_self)) | exact IV.own (List.mem_cons_of_mem _ (List.mem_cons_of_mem _ (List.mem_cons_of_mem _ List.mem_cons_self))))
local macro_rules | `(tactic| walk_at "cond") => `(tactic| first | exact Or.inr (by decide) | exact Or.inl (by decide) | (exact ⟨by decide, by decide⟩) | (show (0 : Int) < _; first | decide | assumption | omega))
local macro_rules | `(tactic| walk_at "cls") => `(tactic| first | assumption | exact YardF.cls (by assumption) | exact YardF.sizes (by assumption) | exact YardF.held (by assumption))
local macro_rules | `(tactic| walk_at "call") => `(tactic| fail "no call")
local macro_rules | `(tactic| walk_at "at") => `(tactic| first | exact at_getD (by first | assumption | omega) | exact at_day (by first | assumption | omega) | rfl)
local macro_rules | `(tactic| walk_at "call") => `(tactic| (apply ev_drawn; walk_at "ev"; walk_at "ev"; walk_at "ev"; walk_at "side"))
def c_l_copied (A : Ad) : Ct := fun ds os P => ∃ days : List Day, days.length < 1000 ∧ ds = [daysD days] ∧ os = [] ∧ P = MadeR (days.map dayD)
def rd_l_copied (K : Fg) (A : Ad) : TS :=
  tRet (tLc (iList K (tVar 0)) (gName 1) (tYes) (tTup (tCons (tCB (Evl.rListS K) (tCons (tOp (rIxT K) (tVar 1) (tC (V.int 0))) (tNil))) (tCons (tCB (Evl.rListS K) (tCons (tOp (rIxT K) (tVar 1) (tC (V.int 1))) (tNil))) (tNil)))) ([1] : List Nat))
theorem sem_l_copied {K : Fg} {A : Ad} : ∀ vs H Q E, spC K 1 (c_l_copied A) vs H Q E → rd_l_copied K A { nx := fun _ H' => Q .non H', rt := Q } (start ["days", "day"] vs) H :=
  body_ok fun ds os P hl hc B D hfp hR hN => by
    obtain ⟨days, hx, rfl, rfl, rfl⟩ := hc
    refine do_retF (ef_mapL dayD (ev_var rfl) LV.lst (fun x _ => ⟨_, tw_name, ?_⟩) (by omega)) fun p _ => hR.rt ⟨p, rfl, rfl⟩
    exact ev_tup (ea_cons (ev_F (ef_list (ev_ixT (ev_var rfl) ev_cint rfl) LV.lst)) (ea_cons (ev_F (ef_list (ev_ixT (ev_var rfl) ev_cint rfl) LV.lst)) ea_nil)) (by simp)
def runD (s : DayS) : Dt := .tup [iL s.drawn, iL s.held, .int s.over]
def runL (rooms waters : List Int) (days : List Day) (n : Nat) : List Dt := (List.range n).map fun k => runD (pAt rooms waters days k)
structure RunPre (rooms waters : List Int) (days : List Day) : Prop where
  len : waters.length = rooms.length
  four : rooms.length ≤ 4
  many : days.length ≤ 1000
  row : ∀ d ∈ days, d.1.length = rooms.length ∧ d.2.length = rooms.length
theorem hAt_len {rooms waters : List Int} {days : List Day} (P : RunPre rooms waters days) : ∀ n, n ≤ days.length → (hAt rooms waters days n).length = rooms.length
  | 0, _ => P.len
  | n + 1, h => by
    have ih := hAt_len P n (by omega)
    have hd := P.row _ (List.mem_of_getElem? (getDay (show n < days.length by omega)))
    exact (dayRun_len (rain := (days.getD n ([], [])).1) hd.2 ih).2
def c_l_run (A : Ad) : Ct := pureC (α := List Int × List Int × List Day) (fun x => RunPre x.1 x.2.1 x.2.2) (fun x => [iL x.1, iL x.2.1, daysD x.2.2]) fun x => .ok (.lst (runL x.1 x.2.1 x.2.2 x.2.2.length))
def rd_l_run (K : Fg) (A : Ad) : TS :=
  tSeq (tAsg (tCB (Evl.rListS K) (tCons (tVar 1) (tNil))) (gName 3)) 
      (tSeq (tAsg (tLst (tNil)) (gName 4)) 
      (tSeq (tFor (iList K (tVar 2)) (gTup K 2 (gCons (gName 5) (gCons (gName 6) (gNil)))) 
        (tSeq (tAsg (tLst (tNil)) (gName 7)) 
        (tSeq (tAsg (tC (V.int 0)) (gName 8)) 
        (tSeq (tFor (iRng1 (tCons (tCB (Evl.rLenS K) (tCons (tVar 0) (tNil))) (tNil))) (gName 9) 
          (tSeq (tAsg (tOp (rI0 fun i j => V.int (i + j)) (tOp (rI0 fun i j => V.int (i + j)) (tOp (rIxL K) (tVar 3) (tVar 9)) (tOp (rIxL K) (tVar 5) (tVar 9))) (tVar 8)) (gName 10)) 
          (tSeq (tDrop (tBM K "list" rAppend (tVar 7) (tCons (tCB (rMin2) (tCons (tVar 10) (tCons (tOp (rIxL K) (tVar 6) (tVar 9)) (tNil)))) (tNil)))) 
          (tSeq (tAsg (tCB (rMin2) (tCons (tOp (rI0 fun i j => V.int (i - j)) (tVar 10) (tOp (rIxL K) (tVar 7) (tVar 9))) (tCons (tOp (rIxL K) (tVar 0) (tVar 9)) (tNil)))) (gSub (tVar 3) (tVar 9) rSetL)) 
          (tAsg (tOp (rI0 fun i j => V.int (i - j)) (tOp (rI0 fun i j => V.int (i - j)) (tVar 10) (tOp (rIxL K) (tVar 7) (tVar 9))) (tOp (rIxL K) (tVar 3) (tVar 9))) (gName 8)))))) 
        (tDrop (tBM K "list" rAppend (tVar 4) (tCons (tTup (tCons (tVar 7) (tCons (tCB (Evl.rListS K) (tCons (tVar 3) (tNil))) (tCons (tVar 8) (tNil))))) (tNil)))))))) 
      (tRet (tVar 4))))
theorem sem_l_run {K : Fg} {A : Ad} : ∀ vs H Q E, spC K 3 (c_l_run A) vs H Q E → rd_l_run K A { nx := fun _ H' => Q .non H', rt := Q } (start ["rooms", "waters", "days", "held", "plan", "rain", "wishes", "drawn", "over", "k", "water"] vs) H :=
  body_ok fun ds os P hl hc B D hfp hR hN => by
    obtain ⟨⟨rooms, waters, days⟩, hp, rfl, rfl, rfl⟩ := hc
    have hp : RunPre rooms waters days := hp
    have hB : B.fp = [] := hfp
    refine q_asgM (em_F (ef_list (ev_var rfl) LV.lst)) fun d os' hd => ?_
    obtain ⟨h, nh, rfl, rfl⟩ := hd
    refine q_asgM (em_F (ef_lst ea_nil (by decide))) fun d os' hd => ?_
    obtain ⟨p, np, rfl, rfl⟩ := hd
    have np : p ≠ h := by simpa using np
    refine q_forM (ev_var rfl) (fun i ss os => (∃ o5 o6 o7 o8 o9 o10, ss = [some (iL rooms), some (iL waters), some (daysD days), some (.adr h), some (.adr p), o5, o6, o7, o8, o9, o10]) ∧
      os = [(h, .lst ((hAt rooms waters days i).map Dt.int)), (p, .lst (runL rooms waters days i))]) ⟨⟨_, _, _, _, _, _, rfl⟩, rfl⟩ (fun B1 hB1 i z ss os hz hI => ?_) (fun ss os hI => ?_)
    · obtain ⟨⟨o5, o6, o7, o8, o9, o10, rfl⟩, rfl⟩ := hI
      have hi : i < days.length := (List.getElem?_eq_some_iff.mp hz).1
      have ez : days.getD i ([], []) = z := by
        have := getDay hi
        rw [hz] at this
        exact (Option.some.inj this).symm
      have hrow := hp.row z (List.mem_of_getElem? hz)
      have hlen := hAt_len hp i (by omega)
      have eh : hAt rooms waters days (i + 1) = (dayRun rooms (hAt rooms waters days i) z.1 z.2).held := by
        show (dayRun rooms (hAt rooms waters days i) (days.getD i ([], [])).1 (days.getD i ([], [])).2).held = _
        rw [ez]
      have ep : runL rooms waters days (i + 1) = runL rooms waters days i ++ [runD (dayRun rooms (hAt rooms waters days i) z.1 z.2)] := by
        unfold runL
        rw [List.range_succ, List.map_append]
        show _ ++ [runD (pAt rooms waters days i)] = _
        unfold pAt
        rw [ez]
      have lp : (runL rooms waters days i).length = i := by simp [runL]
      rw [eh, ep]
      generalize hAt rooms waters days i = held at hlen ⊢
      generalize runL rooms waters days i = pl at lp ⊢
      obtain ⟨rain, wishes⟩ := z
      have h1 : rain.length = rooms.length := hrow.1
      have h2 : wishes.length = rooms.length := hrow.2
      refine ⟨_, tg_tup2, ?_⟩
      refine q_asgM (em_F (ef_lst ea_nil (by decide))) fun d os' hd => ?_
      obtain ⟨q, nq, rfl, rfl⟩ := hd
      have nq : q ≠ h ∧ q ≠ p := by simpa using nq
      refine q_asg ev_cint ?_
      refine q_forR (ea_cons (by walk_at "ev") ea_nil) (by have := hp.four; rw [len_int]; omega) (by rw [len_int]; omega) (fun i ss os => let s := iter (dayStep rooms rain wishes) ⟨[], held, 0⟩ i
        (∃ o9 o10, ss = [some (iL rooms), some (iL waters), some (daysD days), some (.adr h), some (.adr p), some (iL rain), some (iL wishes), some (.adr q), some (.int s.over), o9, o10]) ∧ os = [(h, .lst (s.held.map Dt.int)), (p, .lst pl), (q, .lst (s.drawn.map Dt.int))]) ⟨⟨_, _, rfl⟩, rfl⟩ (fun i ss os hi hI => ?_) (fun ss os hI => ?_)
      · obtain ⟨⟨o1, o2, rfl⟩, rfl⟩ := hI
        have hi : i < rooms.length := by simpa using hi
        have l1 := iter_held (rooms := rooms) (rain := rain) (wishes := wishes) ⟨[], held, 0⟩ i
        have l2 := iter_drawn (rooms := rooms) (rain := rain) (wishes := wishes) ⟨[], held, 0⟩ i
        have es : iter (dayStep rooms rain wishes) ⟨[], held, 0⟩ (i + 1) = dayStep rooms rain wishes i (iter (dayStep rooms rain wishes) ⟨[], held, 0⟩ i) := rfl
        generalize iter (dayStep rooms rain wishes) ⟨[], held, 0⟩ i = s at l1 l2 es ⊢
        have l1 : s.held.length = held.length := l1
        have l2 : s.drawn.length = i := by simpa using l2
        have i1 : i < s.held.length := by omega
        have i2 : i < rain.length := by omega
        have i3 : i < wishes.length := by omega
        have hp4 := hp.four
        refine q_asg (by walk_at "ev") ?_
        refine q_app (ev_var rfl) (List.mem_cons_of_mem _ (List.mem_cons_of_mem _ List.mem_cons_self)) (by walk_at "ev") (by rw [List.length_map]; omega) ?_
        rw [setC_snd nq.1.symm, setC_snd nq.2.symm, setC_one]
        have e2 : ∀ z : Int, s.drawn.map Dt.int ++ [Dt.int z] = (s.drawn ++ [z]).map Dt.int := fun z => by simp
        rw [e2]
        have ed : ∀ ss, ss[7]? = some (some (.adr q)) → ss[9]? = some (some (.int (i : Int))) → ∀ hc, Ev K (tOp (rIxL K) (tVar 7) (tVar 9)) ss [(h, .lst hc), (p, .lst pl), (q, .lst ((s.drawn ++ [min (s.held.getD i 0 + rain.getD i 0 + s.over) (wishes.getD i 0)]).map Dt.int))] (.int (min (s.held.getD i 0 + rain.getD i 0 + s.over) (wishes.getD i 0))) := fun ss s7 s9 hc =>
          ev_ixL (ev_var s7) (.own (List.mem_cons_of_mem _ (List.mem_cons_of_mem _ List.mem_cons_self))) (ev_var s9) (at_mapN (f := Dt.int) (by rw [← l2]; simp))
        refine q_setL (ev_min2 (ev_ii (ev_var rfl) (ed _ rfl rfl _)) (by walk_at "ev")) (by walk_at "ev") List.mem_cons_self (ev_var rfl) (by omega) (by rw [List.length_map]; omega) ?_
        rw [setC_fst (by simpa using ⟨np.symm, nq.1.symm⟩), List.map_set.symm, Int.toNat_natCast]
        refine do_asg (ev_ii (ev_ii (ev_var rfl) (ed _ rfl rfl _)) (ev_ixL (by walk_at "ev") (.own List.mem_cons_self) (ev_var rfl) (at_mapN (f := Dt.int) (v := min (s.held.getD i 0 + rain.getD i 0 + s.over - min (s.held.getD i 0 + rain.getD i 0 + s.over) (wishes.getD i 0)) (rooms.getD i 0)) (by simp [i1])))) (nx_at ?_)
        show (∃ o1 o2, _ = _) ∧ _ = _
        rw [es]
        exact ⟨⟨_, _, rfl⟩, rfl⟩
      · obtain ⟨⟨o9, o10, rfl⟩, rfl⟩ := hI
        have en : iter (dayStep rooms rain wishes) ⟨[], held, 0⟩ ((rooms.map Dt.int).length : Int).toNat = dayRun rooms held rain wishes := by
          rw [List.length_map, Int.toNat_natCast]; rfl
        rw [en]
        generalize dayRun rooms held rain wishes = s
        refine do_frz (p := q) (c := .lst (s.drawn.map Dt.int)) (os0 := [(h, .lst (s.held.map Dt.int)), (p, .lst pl)]) (.trans (.cons _ (List.Perm.swap _ _ _)) (List.Perm.swap _ _ _)) (fun _ z => by cases z) (by rw [hB1.fp, hB]; simp) (FzS.at 7 rfl .here) (FzO.refl _) ?_
        refine do_app (ev_var rfl) (List.mem_cons_of_mem _ List.mem_cons_self) (ev_tup (ea_cons (ev_var rfl) (ea_cons (ev_F (ef_list (ev_var rfl) (.own List.mem_cons_self))) (ea_cons (ev_var rfl) ea_nil))) (by simp)) (by have := hp.many; omega) (nx_at ⟨⟨_, _, _, _, _, _, rfl⟩, ?_⟩)
        rw [setC_snd np.symm, setC_one]
        rfl
    · obtain ⟨⟨o5, o6, o7, o8, o9, o10, rfl⟩, rfl⟩ := hI
      refine do_frz (p := p) (c := .lst (runL rooms waters days days.length)) (os0 := [(h, .lst ((hAt rooms waters days days.length).map Dt.int))]) (List.Perm.swap _ _ _) (fun _ z => by cases z) (by rw [hB]; simp) (FzS.at 4 rfl .here) (FzO.refl _) ?_
      exact do_ret (ev_var rfl) (rt_sub (hR.rt ⟨rfl, rfl⟩) (by simp) (by simp))
/-! lived -/
def rainL (ns : List Int) (many : Nat) (n : Nat) : List Int := (List.range many).map fun (k : Nat) => drawn ns (402 + 8 * n + k) 31
def wishL (ns : List Int) (many : Nat) (n : Nat) : List Int := (List.range many).map fun (k : Nat) => drawn ns (406 + 8 * n + k) 31
def liveTo (ns rooms waters : List Int) (n : Nat) : List Int := iter (fun n h => (dayRun rooms h (rainL ns rooms.length n) (wishL ns rooms.length n)).held) waters n
def lived (ns rooms waters : List Int) : List Int := liveTo ns rooms waters (drawn ns 400 3).toNat
theorem dayL_ok (ns : List Int) (many n : Nat) : dayOk many (rainL ns many n, wishL ns many n) = true :=
  dayOk_iff.mpr ⟨lOk_map fun k _ => by have := drawn_pos ns (402 + 8 * n + k) (many := 31) (by decide); omega, lOk_map fun k _ => by have := drawn_pos ns (406 + 8 * n + k) (many := 31) (by decide); omega⟩
theorem liveTo_wf {ns rooms waters : List Int} (Y : YardWf rooms waters) : ∀ n, YardWf rooms (liveTo ns rooms waters n)
  | 0 => Y
  | n + 1 => dayRun_wf (liveTo_wf Y n) (dayL_ok ns _ n)
theorem lived_wf {ns rooms waters : List Int} (Y : YardWf rooms waters) : YardWf rooms (lived ns rooms waters) := liveTo_wf Y _
section
variable {K : Fg} {A : Ad} {B : Bs} {D : Ends} {ss : SS} {os : Own} {u : TS} {ta tb tx : TE} {E : XK}
/-- yard.day(rain, wishes), what it tells dropped -/
theorem q_dayN {rooms held : List Int} {h : Addr} {d : Day} {tA : TA} {tail : Own} (Y : YardWf rooms held) (hd : dayOk rooms.length d = true) (hx : Ev K tx ss os (yardO A rooms h)) (hp : os.Perm ((h, .lst (held.map Dt.int)) :: tail))
    (ha : EvA K tA ss os [iL d.1, iL d.2]) (k : Do K B u ss ((h, .lst ((dayRun rooms held d.1 d.2).held.map Dt.int)) :: tail) D) :
    Do K B (tSeq (tDrop (tMeth A.Yard "day" (spC K 3 (c_Yard_day A)) [] E tx tA)) u) ss os D := by
  refine q_dropM (em_meth (osp := [(h, .lst (held.map Dt.int))]) (osr := tail) hx IV.ins (by decide +kernel) ha rfl hp ⟨rooms, held, h, d, Y.len, Y.four, rfl, rfl, rfl⟩ (fun C os' h => by rw [if_pos hd] at h; obtain ⟨q, _, z, _⟩ := h; cases z)) fun dd os' hdd => ?_
  obtain ⟨os1, hP, rfl⟩ := hdd
  rw [if_pos hd] at hP
  obtain ⟨q, nq, e, rfl⟩ := hP
  exact do_weak (Le.refl _) (.cons_cons _ (.cons _ (List.Sublist.refl _))) k
end
def c_l_lived (A : Ad) : Ct := fun ds os P => ∃ ns rooms waters, YardWf rooms waters ∧ ds = [.scr ns, iL rooms, iL waters] ∧ os = [] ∧ P = fun r os' => ∃ h, r = .ok (.tup [yardO A rooms h, iL (lived ns rooms waters)]) ∧ os' = [(h, .lst ((lived ns rooms waters).map Dt.int))]
def rd_l_lived (K : Fg) (A : Ad) : TS :=
  tSeq (tAsg (tMake A.Yard (spC K 3 (c_Yard_init A)) [] E0 (tCons (tCB (Evl.rListS K) (tCons (tVar 1) (tNil))) (tCons (tCB (Evl.rListS K) (tCons (tVar 2) (tNil))) (tNil)))) (gName 3)) 
      (tSeq (tAsg (tCB (Evl.rListS K) (tCons (tVar 2) (tNil))) (gName 4)) 
      (tSeq (tFor (iRng1 (tCons (tCall (spC K 3 (c_l_drawn A)) [] E0 (tCons (tVar 0) (tCons (tC (V.int 400)) (tCons (tC (V.int 3)) (tNil))))) (tNil))) (gName 5) 
        (tSeq (tAsg (tLc (iRng1 (tCons (tCB (Evl.rLenS K) (tCons (tVar 1) (tNil))) (tNil))) (gName 8) (tYes) (tCall (spC K 3 (c_l_drawn A)) [] E0 (tCons (tVar 0) (tCons (tOp (rI0 fun i j => V.int (i + j)) (tOp (rI0 fun i j => V.int (i + j)) (tC (V.int 402)) (tOp (rI CMul fun i j => V.int (i * j)) (tC (V.int 8)) (tVar 5))) (tVar 8)) (tCons (tC (V.int 31)) (tNil))))) ([8] : List Nat)) (gName 6)) 
        (tSeq (tAsg (tLc (iRng1 (tCons (tCB (Evl.rLenS K) (tCons (tVar 1) (tNil))) (tNil))) (gName 8) (tYes) (tCall (spC K 3 (c_l_drawn A)) [] E0 (tCons (tVar 0) (tCons (tOp (rI0 fun i j => V.int (i + j)) (tOp (rI0 fun i j => V.int (i + j)) (tC (V.int 406)) (tOp (rI CMul fun i j => V.int (i * j)) (tC (V.int 8)) (tVar 5))) (tVar 8)) (tCons (tC (V.int 31)) (tNil))))) ([8] : List Nat)) (gName 7)) 
        (tSeq (tDrop (tMeth A.Yard "day" (spC K 3 (c_Yard_day A)) [] E0 (tVar 3) (tCons (tVar 6) (tCons (tVar 7) (tNil))))) 
        (tAsg (tOp (rIxT K) (tOp (rIxL K) (tCall (spC K 3 (c_l_run A)) [] E0 (tCons (tVar 1) (tCons (tVar 4) (tCons (tLst (tCons (tTup (tCons (tVar 6) (tCons (tVar 7) (tNil)))) (tNil))) (tNil))))) (tC (V.int 0))) (tC (V.int 1))) (gName 4)))))) 
      (tRet (tTup (tCons (tVar 3) (tCons (tVar 4) (tNil)))))))
theorem sem_l_lived {K : Fg} {A : Ad} : ∀ vs H Q E, spC K 3 (c_l_lived A) vs H Q E → rd_l_lived K A { nx := fun _ H' => Q .non H', rt := Q } (start ["script", "rooms", "waters", "side", "held", "number", "rain", "wishes", "k"] vs) H :=
  body_ok fun ds os P hl hc B D hfp hR hN => by
    obtain ⟨ns, rooms, waters, Y, rfl, rfl, rfl⟩ := hc
    have hB : B.fp = [] := hfp
    have hdr := drawn_pos ns 400 (many := 3) (by decide)
    refine q_yard Y.ok hB (ea_cons (by walk_at "ev") (ea_cons (by walk_at "ev") ea_nil)) fun h nh => ?_
    refine q_asg (d := iL waters) (by walk_at "ev") ?_
    refine q_forR (n := drawn ns 400 3) (ea_cons (by walk_at "ev") ea_nil) (by omega) (by omega) (fun i ss os => (∃ o5 o6 o7 o8, ss = [some (.scr ns), some (iL rooms), some (iL waters), some (yardO A rooms h), some (iL (liveTo ns rooms waters i)), o5, o6, o7, o8]) ∧
      os = [(h, .lst ((liveTo ns rooms waters i).map Dt.int))]) ⟨⟨_, _, _, _, rfl⟩, rfl⟩ (fun i ss os hi hI => ?_) (fun ss os hI => ?_)
    · obtain ⟨⟨o5, o6, o7, o8, rfl⟩, rfl⟩ := hI
      have Yi := liveTo_wf (ns := ns) Y i
      have el : liveTo ns rooms waters (i + 1) = (dayRun rooms (liveTo ns rooms waters i) (rainL ns rooms.length i) (wishL ns rooms.length i)).held := rfl
      rw [el]
      generalize liveTo ns rooms waters i = held at Yi ⊢
      have h4 := Yi.four
      have hok := dayL_ok ns rooms.length i
      refine q_asg (d := iL (rainL ns rooms.length i)) (ev_F (ef_mapRi (n := (rooms.length : Int)) (fun k => drawn ns (402 + 8 * i + k) 31) (ea_cons (ev_is (by walk_at "ev") (by rw [len_int])) ea_nil) (by omega) (by omega) fun j hj => ⟨_, tw_name, by walk_at "ev"⟩)) ?_
      refine q_asg (d := iL (wishL ns rooms.length i)) (ev_F (ef_mapRi (n := (rooms.length : Int)) (fun k => drawn ns (406 + 8 * i + k) 31) (ea_cons (ev_is (by walk_at "ev") (by rw [len_int])) ea_nil) (by omega) (by omega) fun j hj => ⟨_, tw_name, by walk_at "ev"⟩)) ?_
      generalize rainL ns rooms.length i = rain at hok ⊢
      generalize wishL ns rooms.length i = wishes at hok ⊢
      refine q_dayN (d := (rain, wishes)) (tail := []) Yi hok (ev_var rfl) (List.Perm.refl _) (ea_cons (ev_var rfl) (ea_cons (ev_var rfl) ea_nil)) ?_
      have rp : RunPre rooms held [(rain, wishes)] := ⟨Yi.len, Yi.four, by simp, fun d m => by
        have : d = (rain, wishes) := by simpa using m
        subst this
        exact ⟨lOk_len (dayOk_iff.mp hok).1, lOk_len (dayOk_iff.mp hok).2⟩⟩
      have e1 : runL rooms held [(rain, wishes)] [(rain, wishes)].length = [runD (dayRun rooms held rain wishes)] := rfl
      refine do_asg (d := iL (dayRun rooms held rain wishes).held) (ev_ixT (ev_ixL (ev_call (rooms, held, [(rain, wishes)]) (ea_cons (ev_var rfl) (ea_cons (ev_var rfl) (ea_cons (ev_F (ef_lst (ea_cons (ev_tup (ea_cons (ev_var rfl) (ea_cons (ev_var rfl) ea_nil)) (by simp)) ea_nil) (by simp))) ea_nil))) rfl rp rfl) LV.lst ev_cint rfl) ev_cint rfl) (nx_at ⟨⟨_, _, _, _, rfl⟩, rfl⟩)
    · obtain ⟨⟨o5, o6, o7, o8, rfl⟩, rfl⟩ := hI
      exact do_ret (ev_tup (ea_cons (ev_var rfl) (ea_cons (ev_var rfl) ea_nil)) (by simp)) (hR.rt ⟨h, rfl, rfl⟩)
/-! the law's own holds -/
def c_l_holds (A : Ad) : Ct := pureC (α := List Int × List Int × List Day × List Day) (fun x => RunPre x.1 x.2.1 x.2.2.1) (fun x => [iL x.1, iL x.2.1, daysD x.2.2.1, daysD x.2.2.2]) fun x => .ok (.bl (holdsB x.1 x.2.1 x.2.2.1 x.2.2.2))
def rd_l_holds (K : Fg) (A : Ad) : TS :=
  tSeq (tAsg (tCB (Evl.rListS K) (tCons (tVar 1) (tNil))) (gName 4)) 
      (tSeq (tIfS (tTest (tOp (rNe) (tCB (Evl.rLenS K) (tCons (tVar 3) (tNil))) (tCB (Evl.rLenS K) (tCons (tVar 2) (tNil))))) (tRet (tC (V.bl false))) (tNext)) 
      (tSeq (tFor (iRng1 (tCons (tCB (Evl.rLenS K) (tCons (tVar 2) (tNil))) (tNil))) (gName 5) 
        (tSeq (tAsg (tC (V.int 0)) (gName 6)) 
        (tSeq (tIfS (tOr (tTest (tOp (rNe) (tCB (Evl.rLenS K) (tCons (tOp (rIxT K) (tOp (rIxL K) (tVar 3) (tVar 5)) (tC (V.int 0))) (tNil))) (tCB (Evl.rLenS K) (tCons (tVar 0) (tNil))))) (tTest (tOp (rNe) (tCB (Evl.rLenS K) (tCons (tOp (rIxT K) (tOp (rIxL K) (tVar 3) (tVar 5)) (tC (V.int 1))) (tNil))) (tCB (Evl.rLenS K) (tCons (tVar 0) (tNil)))))) (tRet (tC (V.bl false))) (tNext)) 
        (tSeq (tFor (iRng1 (tCons (tCB (Evl.rLenS K) (tCons (tVar 0) (tNil))) (tNil))) (gName 7) 
          (tSeq (tAsg (tOp (rIxL K) (tOp (rIxT K) (tOp (rIxL K) (tVar 3) (tVar 5)) (tC (V.int 0))) (tVar 7)) (gName 8)) 
          (tSeq (tAsg (tOp (rIxL K) (tOp (rIxT K) (tOp (rIxL K) (tVar 3) (tVar 5)) (tC (V.int 1))) (tVar 7)) (gName 9)) 
          (tSeq (tAsg (tOp (rI0 fun i j => V.int (i - j)) (tOp (rI0 fun i j => V.int (i - j)) (tOp (rI0 fun i j => V.int (i + j)) (tOp (rI0 fun i j => V.int (i + j)) (tOp (rIxL K) (tVar 4) (tVar 7)) (tOp (rIxL K) (tOp (rIxT K) (tOp (rIxL K) (tVar 2) (tVar 5)) (tC (V.int 0))) (tVar 7))) (tVar 6)) (tVar 8)) (tVar 9)) (gName 6)) 
          (tIfS (tOr (tTest (tOp (rI0 fun i j => V.bl (decide (i < j))) (tVar 6) (tC (V.int 0)))) (tOr (tTest (tOp (rI0 fun i j => V.bl (decide (i < j))) (tVar 8) (tC (V.int 0)))) (tOr (tTest (tOp (rI0 fun i j => V.bl (decide (i < j))) (tVar 9) (tC (V.int 0)))) (tOr (tTest (tOp (rI0 fun i j => V.bl (decide (j < i))) (tVar 8) (tOp (rIxL K) (tOp (rIxT K) (tOp (rIxL K) (tVar 2) (tVar 5)) (tC (V.int 1))) (tVar 7)))) (tTest (tOp (rI0 fun i j => V.bl (decide (j < i))) (tVar 9) (tOp (rIxL K) (tVar 0) (tVar 7)))))))) (tRet (tC (V.bl false))) (tNext)))))) 
        (tAsg (tCB (Evl.rListS K) (tCons (tOp (rIxT K) (tOp (rIxL K) (tVar 3) (tVar 5)) (tC (V.int 1))) (tNil))) (gName 4)))))) 
      (tRet (tC (V.bl true)))))
theorem sem_l_holds {K : Fg} {A : Ad} : ∀ vs H Q E, spC K 4 (c_l_holds A) vs H Q E → rd_l_holds K A { nx := fun _ H' => Q .non H', rt := Q } (start ["rooms", "waters", "days", "plan", "held", "number", "over", "k", "drawn", "kept"] vs) H :=
  body_ok fun ds os P hl hc B D hfp hR0 hN => by
    obtain ⟨⟨rooms, waters, days, plan⟩, hpre, rfl, rfl, rfl⟩ := hc
    have hpre : RunPre rooms waters days := hpre
    have h4 := hpre.four
    have hm : days.length ≤ 1000 := hpre.many
    have hR : ∀ {B' : Bs}, B.Le B' → ∀ {b : Bool} {os : Own}, holdsB rooms waters days plan = b → os = [] → Rt K B' D.rt (.bl b) os := fun {B'} le {b os} e eo => (hR0.up le).rt ⟨by show Res.ok _ = Res.ok (.bl (holdsB rooms waters days plan)); rw [e], eo⟩
    have bad : ∀ {n}, n < days.length → ¬ dayHolds rooms (heldAt waters plan n) (days.getD n ([], [])) (plan.getD n ([], [])) = true → holdsB rooms waters days plan = false := fun {n} hn h => Bool.eq_false_iff.mpr fun z => h ((holdsB_iff.mp z).2 n hn)
    refine q_asg (d := iL waters) (by walk_at "ev") ?_
    refine q_when (by walk_at "et") (fun hb => do_ret ev_cbl (hR (Bs.Le.refl _) (Bool.eq_false_iff.mpr fun z => ?_) rfl)) (fun hb => ?_)
    · have := (holdsB_iff.mp z).1
      simp at hb
      omega
    have hp : plan.length = days.length := by simp at hb; omega
    refine q_forR (n := (days.length : Int)) (ea_cons (ev_is (by walk_at "ev") (by rw [List.length_map])) ea_nil) (by omega) (by omega) (fun i ss os => (∃ o5 o6 o7 o8 o9, ss = [some (iL rooms), some (iL waters), some (daysD days), some (daysD plan), some (iL (heldAt waters plan i)), o5, o6, o7, o8, o9]) ∧ os = [] ∧
      (heldAt waters plan i).length = rooms.length ∧ ∀ n, n < i → dayHolds rooms (heldAt waters plan n) (days.getD n ([], [])) (plan.getD n ([], [])) = true) ⟨⟨_, _, _, _, _, rfl⟩, rfl, hpre.len, by omega⟩ (fun i ss os hi hI => ?_) (fun ss os hI => ?_)
    · obtain ⟨⟨o5, o6, o7, o8, o9, rfl⟩, rfl, hl, hall⟩ := hI
      have hi : i < days.length := by simpa using hi
      have hip : i < plan.length := by omega
      have gd := getDay hi
      have gp := getDay hip
      have hrow := hpre.row _ (List.mem_of_getElem? gd)
      have bad := bad hi
      have hheld : heldAt waters plan (i + 1) = (plan.getD i ([], [])).2 := rfl
      generalize ed : days.getD i ([], []) = day at gd bad hrow
      generalize ep : plan.getD i ([], []) = pl at gp bad hheld
      generalize eh : heldAt waters plan i = hd at bad hl ⊢
      have ad : atI (days.map dayD) (i : Int) = some (dayD day) := at_mapN gd
      have ap : atI (plan.map dayD) (i : Int) = some (dayD pl) := at_mapN gp
      have hr1 : day.1.length = rooms.length := hrow.1
      have hr2 : day.2.length = rooms.length := hrow.2
      have epd : ∀ {ss}, ss[3]? = some (some (daysD plan)) → ss[5]? = some (some (.int (i : Int))) → Ev K (tOp (rIxT K) (tOp (rIxL K) (tVar 3) (tVar 5)) (tC (V.int 0))) ss [] (iL pl.1) := fun s3 s5 => ev_ixT (ev_ixL (ev_var s3) LV.lst (ev_var s5) ap) ev_cint rfl
      have epk : ∀ {ss}, ss[3]? = some (some (daysD plan)) → ss[5]? = some (some (.int (i : Int))) → Ev K (tOp (rIxT K) (tOp (rIxL K) (tVar 3) (tVar 5)) (tC (V.int 1))) ss [] (iL pl.2) := fun s3 s5 => ev_ixT (ev_ixL (ev_var s3) LV.lst (ev_var s5) ap) ev_cint rfl
      have edr : ∀ {ss}, ss[2]? = some (some (daysD days)) → ss[5]? = some (some (.int (i : Int))) → Ev K (tOp (rIxT K) (tOp (rIxL K) (tVar 2) (tVar 5)) (tC (V.int 0))) ss [] (iL day.1) := fun s3 s5 => ev_ixT (ev_ixL (ev_var s3) LV.lst (ev_var s5) ad) ev_cint rfl
      have edw : ∀ {ss}, ss[2]? = some (some (daysD days)) → ss[5]? = some (some (.int (i : Int))) → Ev K (tOp (rIxT K) (tOp (rIxL K) (tVar 2) (tVar 5)) (tC (V.int 1))) ss [] (iL day.2) := fun s3 s5 => ev_ixT (ev_ixL (ev_var s3) LV.lst (ev_var s5) ad) ev_cint rfl
      refine q_asg ev_cint ?_
      refine q_when (et_or (et_T (ev_neI (ev_len (epd rfl rfl) LV.lst) (by walk_at "ev"))) fun _ => et_T (ev_neI (ev_len (epk rfl rfl) LV.lst) (by walk_at "ev"))) (fun hb => do_ret ev_cbl (hR (Bs.Le.refl _) (bad fun h => ?_) rfl)) (fun hb => ?_)
      · obtain ⟨h1, h2, _⟩ := dayHolds_iff.mp h
        simp at hb
        omega
      simp at hb
      have k1 : pl.1.length = rooms.length := by omega
      have k2 : pl.2.length = rooms.length := by omega
      refine q_forR (ea_cons (by walk_at "ev") ea_nil) (by rw [List.length_map]; omega) (by rw [List.length_map]; omega) (fun k ss os => (∃ o7 o8 o9, ss = [some (iL rooms), some (iL waters), some (daysD days), some (daysD plan), some (iL hd), some (.int (i : Int)), some (.int (overAt hd day.1 pl.1 pl.2 k)), o7, o8, o9]) ∧ os = [] ∧ ∀ j, j < k → tankOk rooms hd day pl j = true)
        ⟨⟨_, _, _, rfl⟩, rfl, by omega⟩ (fun k ss os hk hI => ?_) (fun ss os hI => ?_)
      · obtain ⟨⟨o7, o8, o9, rfl⟩, rfl, hx⟩ := hI
        have hk : k < rooms.length := by simpa using hk
        have i0 : k < hd.length := by omega
        have i1 : k < day.1.length := by omega
        have i2 : k < day.2.length := by omega
        have i3 : k < pl.1.length := by omega
        have i4 : k < pl.2.length := by omega
        refine q_asg (ev_ixL (epd rfl rfl) LV.lst (ev_var rfl) (at_getD i3)) ?_
        refine q_asg (ev_ixL (epk rfl rfl) LV.lst (ev_var rfl) (at_getD i4)) ?_
        refine q_asg (ev_ii (ev_ii (ev_ii (ev_ii (by walk_at "ev") (ev_ixL (edr rfl rfl) LV.lst (ev_var rfl) (at_getD i1))) (ev_var rfl)) (ev_var rfl)) (ev_var rfl)) ?_
        have eo : overAt hd day.1 pl.1 pl.2 (k + 1) = hd.getD k 0 + day.1.getD k 0 + overAt hd day.1 pl.1 pl.2 k - pl.1.getD k 0 - pl.2.getD k 0 := rfl
        rw [← eo]
        refine do_if (et_or (by walk_at "et") fun _ => et_or (by walk_at "et") fun _ => et_or (by walk_at "et") fun _ => et_or (et_T (ev_ib (ev_var rfl) (ev_ixL (edw rfl rfl) LV.lst (ev_var rfl) (at_getD i2)))) fun _ => by walk_at "et") (fun hb => do_ret ev_cbl (hR (Bs.Le.refl _) (bad fun h => ?_) rfl)) (fun hb => ?_)
        · have := tankOk_iff.mp ((dayHolds_iff.mp h).2.2 k i0)
          simp [-List.getD_eq_getElem?_getD] at hb
          omega
        refine do_nx (nx_at ⟨⟨_, _, _, rfl⟩, rfl, fun j hj => ?_⟩)
        by_cases e : j = k
        · subst e
          simp [-List.getD_eq_getElem?_getD] at hb
          exact tankOk_iff.mpr (by omega)
        · exact hx j (by omega)
      · obtain ⟨⟨o7, o8, o9, rfl⟩, rfl, hx⟩ := hI
        have hx : ∀ j, j < rooms.length → tankOk rooms hd day pl j = true := fun j hj => hx j (by simpa using hj)
        refine do_asg (d := iL pl.2) (ev_F (ef_list (epk rfl rfl) LV.lst)) (nx_at ⟨⟨_, _, _, _, _, by rw [hheld]; rfl⟩, rfl, by rw [hheld]; exact k2, fun n hn => ?_⟩)
        by_cases e : n = i
        · subst e
          rw [eh, ed, ep]
          exact dayHolds_iff.mpr ⟨by omega, by omega, fun j hj => hx j (by omega)⟩
        · exact hall n (by omega)
    · obtain ⟨⟨o5, o6, o7, o8, o9, rfl⟩, rfl, hl, hall⟩ := hI
      refine do_ret ev_cbl (hR (Bs.Le.refl _) (holdsB_iff.mpr ⟨hp, fun n hn => hall n (by simpa using hn)⟩) rfl)
end Cy

namespace Cy
open PySem L2
open Evl (Ex Ex.refl Ex.trans Ex.new Ex.mut)
section
variable {K : Fg} {ss ss' : SS} {os os' : Own} {ta tb te tx : TE} {d x : Dt} {ds es : List Dt} {B : Bs} {D : Ends} {t u : TS} {Z : St → Hp → Prop}
theorem ev_neg {i : Int} (ha : Ev K ta ss os (.int i)) : Ev K (tUn (rU fun i => V.int (-i)) ta) ss os (.int (-i)) := fun σ G H R Q q => ha σ G H R _ fun v G1 H1 q1 e1 r1 => by
  cases r1
  exact ⟨i, rfl, q _ G1 H1 q1 e1 (.int _)⟩
theorem do_nd (k : (keys os).Nodup → Do K B t ss os D) : Do K B t ss os D := fun σ G H b r => k r.ow.nd σ G H b r
theorem nx_nd (k : (keys os).Nodup → Nx K B Z ss os) : Nx K B Z ss os := fun σ G H b r => k r.ow.nd σ G H b r
theorem nx_perm (ho : os.Perm os') (k : Nx K B Z ss os') : Nx K B Z ss os := fun σ G H b r =>
  k σ G H ⟨b.gq, fun x m => b.nw x (ho.mem_iff.mpr m)⟩ ⟨r.gh, r.sl, r.ow.perm ho⟩
theorem nx_weak (hs : Le ss ss') (ho : List.Sublist os' os) (k : Nx K B Z ss' os') : Nx K B Z ss os :=
  do_weak (t := fun _ => Z) (D := ⟨Z, fun _ _ => True, Z, Z⟩) hs ho k
theorem Fms.dropLast : ∀ {xs ys : List Dt}, Fms os xs ys → Fms os xs.dropLast ys.dropLast
  | _, _, .nil => .nil
  | _, _, .cons a .nil => .nil
  | _, _, .cons a (.cons b c) => .cons a (Fms.dropLast (.cons b c))
theorem Fms.append : ∀ {xs ys zs ws : List Dt}, Fms os xs ys → Fms os zs ws → Fms os (xs ++ zs) (ys ++ ws)
  | _, _, _, _, .nil, h => h
  | _, _, _, _, .cons a b, h => .cons a (b.append h)
mutual
theorem Fm.mono {os' : Own} (h : ∀ x ∈ os, x ∈ os') : ∀ {x y : Dt}, Fm os x y → Fm os' x y
  | _, _, .same x => .same x
  | _, _, .lst m => .lst (h _ m)
  | _, _, .lstN m f => .lstN (h _ m) (Fms.mono h f)
  | _, _, .ins m f => .ins (h _ m) (Fms.mono h f)
  | _, _, .tupI f => .tupI (Fms.mono h f)
  | _, _, .insI f => .insI (Fms.mono h f)
theorem Fms.mono {os' : Own} (h : ∀ x ∈ os, x ∈ os') : ∀ {x y : List Dt}, Fms os x y → Fms os' x y
  | _, _, .nil => .nil
  | _, _, .cons a b => .cons (Fm.mono h a) (Fms.mono h b)
end
theorem Fms.length : ∀ {xs ys : List Dt}, Fms os xs ys → xs.length = ys.length
  | _, _, .nil => rfl
  | _, _, .cons _ b => by rw [List.length_cons, List.length_cons, b.length]
/-- days of one's own, however they lie -/
structure OwnDays (days : List Day) (p : Addr) (os : Own) : Prop where
  ex : ∃ sp osx, os.Perm ((p, .lst sp) :: osx) ∧ Fms os sp (days.map dayD)
theorem OwnDays.of {days : List Day} {p : Addr} {as : List (Addr × Addr)} (h : as.length = days.length) : OwnDays days p ((p, .lst (spine as)) :: cellsOf as days) := ⟨_, _, List.Perm.refl _, cells_fms h fun x m => List.mem_cons_of_mem _ m⟩
theorem OwnDays.fm {days : List Day} {p : Addr} (h : OwnDays days p os) : Fm os (.adr p) (daysD days) := by
  obtain ⟨sp, osx, hp, f⟩ := h.ex
  exact .lstN (hp.mem_iff.mpr List.mem_cons_self) f
/-- own days go by frozen -/
theorem do_frzDays {days : List Day} {p : Addr} {osr : Own} (i : Nat) (h : OwnDays days p os) (hB : B.fp = []) (hs : ss[i]? = some (some (.adr p))) (k : Do K B t (ss.set i (some (daysD days))) osr D) : Do K B t ss (os ++ osr) D :=
  do_frzM (osf := os) (os0 := osr) (List.Perm.refl _) (fun _ _ => by rw [hB]; simp) (FmS.at i hs h.fm) (FmO.refl _) k
end
theorem perm_two (os : Own) (x y : Addr × Cel) : (os ++ [x] ++ [y]).Perm (x :: y :: os) := by
  have h1 : (os ++ [x] ++ [y]).Perm (y :: (os ++ [x])) := List.perm_append_comm (l₁ := os ++ [x]) (l₂ := [y])
  have h2 : (os ++ [x]).Perm (x :: os) := List.perm_append_comm (l₁ := os) (l₂ := [x])
  exact h1.trans ((h2.cons _).trans (List.Perm.swap _ _ _))
theorem perm_one (os : Own) (x : Addr × Cel) : (os ++ [x]).Perm (x :: os) := List.perm_append_comm (l₁ := os) (l₂ := [x])
/-- a number of one of the lists -/
theorem pick_at {as : List (Addr × Addr)} {pl : List Day} {i : Nat} {c : Int} (hl : as.length = pl.length) (hi : i < pl.length) (h0 : 0 ≤ c) (h2 : c < 2) (nd : (keys (cellsOf as pl)).Nodup) :
    ∃ (a : Addr × Addr) (x : Addr) (xs : List Int) (f : List Int → List Day), as[i]? = some a ∧ atI [Dt.adr a.1, Dt.adr a.2] c = some (.adr x) ∧ (x, Cel.lst (xs.map Dt.int)) ∈ cellsOf as pl ∧
      (∀ ys : List Int, setC (cellsOf as pl) x (.lst (ys.map Dt.int)) = cellsOf as (f ys) ∧ f ys = pl.set i (if c = 0 then (ys, (pl.getD i ([], [])).2) else ((pl.getD i ([], [])).1, ys))) ∧
      xs = (if c = 0 then (pl.getD i ([], [])).1 else (pl.getD i ([], [])).2) := by
  have ha : as[i]? = some as[i] := List.getElem?_eq_getElem (by omega)
  have hd := getDay hi
  generalize as[i] = a at ha
  generalize pl.getD i ([], []) = d at hd
  obtain ⟨m1, m2⟩ := cells_mem ha hd
  by_cases e : c = 0
  · subst e
    exact ⟨a, a.1, d.1, fun ys => pl.set i (ys, d.2), ha, rfl, m1, fun ys => ⟨(cells_set1 ha hd nd).1, by simp⟩, by simp⟩
  · have e1 : c = 1 := by omega
    subst e1
    exact ⟨a, a.2, d.2, fun ys => pl.set i (d.1, ys), ha, rfl, m2, fun ys => ⟨(cells_set1 ha hd nd).2, by simp⟩, by simp⟩
end Cy

namespace Cy
open PySem L2
open Evl (Ex Ex.refl Ex.trans Ex.new Ex.mut)
/-! ### try: own rules -/
def tMethS (C : Addr) (m : Str) (sp : Sp) (E : St → XK) (ta : TE) (t : TA) : TE := fun σ H Q => ta σ H fun x H1 => ∃ a dx fs, x = .ref a ∧ H1 a = some (.ins C dx fs) ∧ fs.lookup m = none ∧ t σ H1 fun vs H2 => sp (x :: vs) H2 Q (E σ)
section
variable {X : Cx} {CX : CXT} {k : Nat} {C : Addr} {ps : List Str} {sp : Sp} {E : St → XK} {x m : Str} {p pos apos : Pos} {e o : Expr} {es : List Expr} {ta : TE} {t : TA}
theorem pe_calS (c : Cal X.prog X.w X.K X.mg X.base CX x k ps sp) (hr : Room k X.A) (hg : Gl X x) (hx : ∀ σ, PassesAt CX X σ (E σ)) (ha : PA X (e :: es) t) (hdb : (x == ("__debug__" : Str)) = false := by decide)
    (he : starEach (e :: es) X.env = (false, eval e X.env) :: starEach es X.env := by rfl) (hpl : (backTo pos (starEach es X.env)).any (·.1) = false := by rfl) : PE X (.Call (.Name x p) (e :: es) [] pos) (tCallS sp E t) := by
  obtain ⟨f, fd, F, hm, hk, hb⟩ := c.ex
  exact pe_callS F hr hg hm hk hb hx ha hdb he hpl
theorem pe_metS {pl : Sem Bool} (c : Met X.prog X.w X.K X.mg X.base CX C m k ps sp) (hr : Room k X.A) (hx : ∀ σ, PassesAt CX X σ (E σ)) (he : PE X o ta) (ha : PA X (e :: es) t)
    (hst : starEach (e :: es) X.env = (false, eval e X.env) :: starEach es X.env := by rfl) (hpl : (backTo pos (starEach es X.env)).any (·.1) = false := by rfl)
    (ht : eval (.Call (.Attribute o m apos) (e :: es) [] pos) X.env = (do
      let ov ← eval o X.env
      standAt apos.atName
      let (f, first) ← holding [ov] (getMethod ov m pl)
      callWith pos f first (backTo pos (starEach (e :: es) X.env)) (backToKw pos (keywordEach [] X.env))) := by rfl) : PE X (.Call (.Attribute o m apos) (e :: es) [] pos) (tMethS C m sp E ta t) := by
  obtain ⟨f, fd, F, hm, hb⟩ := c.ex
  refine ⟨fun pins s σ H Q I h => ?_⟩
  refine PySem.W.methodCall_KW (pl := pl) (thn (he.run pins s σ H _ I h) fun u s1 ⟨x, H1, I1, rx, a, dx, fs, ex, ea, l, q⟩ => ?_) ht
  subst ex
  obtain rfl : u = Value.ref a := rx
  refine getmeth_ok I1 ea c.cls hm l ?_
  refine PySem.W.callWith_K (first := [.ref a]) (h₀ := X.base) I.ok.mod.kin hm.kp (thn (ha.run pos pins s1 σ H1 _ I1 q) fun us s2 ⟨vs, H2, I2, r, q2⟩ => ⟨I2.kIn, ?_⟩) hst hpl
  exact run_fnS (us := .ref a :: us) (vs := .ref a :: vs) F hr hb (hx σ) I2 (.cons rfl r) q2
/-- isinstance(e, c), e the error that the suite holds -/
def tIsE (K : Fg) (cls : Value) (d : Option Addr) (a : Addr) (te : TE) (c : V) : TE := fun σ H Q => ∃ D, cls = .ref D ∧ d = none ∧ ExcC K D ∧ tCB (rIsE K D a) (tCons te (tCons (tC c) tNil)) σ H Q
theorem pe_isE {a : Addr} {oe : Obj} {cls : Value} {d : Option Addr} {pn : List (Addr × Obj)} {te : TE} {c : V} (hz : Zc cls d oe) (hf : ∃ vs, oe.data = .fields vs) (hg : Gl (X.suite a ((a, oe) :: pn)) "isinstance") (hm : X.mg "isinstance" = none)
    (ha : PA (X.suite a ((a, oe) :: pn)) (e :: es) (tCons te (tCons (tC c) tNil)))
    (hst : starEach (e :: es) X.env = (false, eval e X.env) :: starEach es X.env := by rfl) (hpl : (backTo pos (starEach es X.env)).any (·.1) = false := by rfl) :
    PE (X.suite a ((a, oe) :: pn)) (.Call (.Name "isinstance" p) (e :: es) [] pos) (tIsE X.K cls d a te c) := ⟨fun pins s σ H Q I h => by
  obtain ⟨D, h1, h2, hC, h⟩ := h
  subst h1 h2
  exact (pe_callB (X := X.suite a ((a, oe) :: pn)) (call_isE (X := X) hC hz hf) hg hm rfl ha (by decide) (by decide) hst hpl).run pins s σ H Q I h⟩
end
section
variable {K : Fg} {ss ss' : SS} {os os' osp osr : Own} {ta : TA} {te tx : TE} {d x : Dt} {ds : List Dt} {B : Bs} {D : Ends} {t u : TS} {Z : St → Hp → Prop} {W Wout : WX} {C : Addr} {n : Nat} {c : Ct}
theorem ev_isE {D a : Addr} {c : V} {cv : Value} {b : Bool} (hC : ExcC K D) (h : Ev K te ss os (.adr a)) (hc : ClsV c cv) (hk : PySem.W.kitOne K (.ref D) cv = some b) : Ev K (tIsE K (.ref D) none a te c) ss os (.bl b) := fun σ G H R Q q => ⟨D, rfl, rfl, hC, h σ G H R _ fun v G1 H1 q1 e1 r1 => by
  cases r1
  exact ⟨c, cv, b, rfl, fun u hu => hc.eq hu, hk, q _ G1 H1 q1 e1 (.bl _)⟩⟩
/-- an error of the class C leaves the body at this state -/
def XtS (K : Fg) (B : Bs) (W : WX) (C : Addr) (ss : SS) (os : Own) : Prop := ∀ σ G H, BsOk B os G H → Rep K ss os σ G H → W (.ref C) none σ H
theorem Slots.setN {G : Hp} {σ : St} {i : Nat} (h : Slots K G σ ss) : Slots K G (σ.set i none) (ss.set i none) := by
  refine ⟨by rw [List.length_set, List.length_set]; exact h.1, fun j e q => ?_⟩
  by_cases hj : i = j
  · subst hj
    by_cases hl : i < ss.length
    · rw [List.getElem?_set_self hl] at q
      cases q
    · rw [List.getElem?_eq_none (by rw [List.length_set]; omega)] at q
      cases q
  · rw [List.getElem?_set_ne hj] at q
    rw [List.getElem?_set_ne hj]
    exact h.2 j e q
def dropD (i : Nat) (D : Ends) : Ends := { nx := fun σ H => D.nx (σ.set i none) H, rt := D.rt, bk := fun σ H => D.bk (σ.set i none) H, ct := fun σ H => D.ct (σ.set i none) H }
theorem nx_dropD {i : Nat} (h : Nx K B Z (ss.set i none) os) : Nx K B (fun σ H => Z (σ.set i none) H) ss os := fun σ G H b r => h _ G H b ⟨r.gh, r.sl.setN, r.ow⟩
theorem xts_as {cv : Value} {i : Nat} {ts : Addr → Value → Option Addr → TS} (h : PySem.W.exmOne K (.ref C) cv = some true) (k : ∀ a, Do K B (ts a (.ref C) none) (ss.set i (some (.adr a))) os (dropD i D)) : XtS K B (wAs K cv i ts Wout D) C ss os := fun σ G H b r =>
  ⟨true, h, fun _ a _ => k a _ G H b ⟨r.gh, r.sl.set i (.adr a), r.ow⟩, fun z => by cases z⟩
theorem xts_only {cv : Value} {ts : Addr → Value → Option Addr → TS} (h : PySem.W.exmOne K (.ref C) cv = some true) (k : ∀ a, Do K B (ts a (.ref C) none) ss os D) : XtS K B (wOnly K cv ts Wout D) C ss os := fun σ G H b r =>
  ⟨true, h, fun _ a _ => k a _ G H b r, fun z => by cases z⟩
theorem xts_onlyN {cv : Value} {ts : Addr → Value → Option Addr → TS} (h : PySem.W.exmOne K (.ref C) cv = some false) (k : XtS K B Wout C ss os) : XtS K B (wOnly K cv ts Wout D) C ss os := fun σ G H b r =>
  Exists.intro false ⟨h, fun z => Bool.noConfusion z, fun _ => k σ G H b r⟩
theorem Xt.s {E : XK} (h : Xt K B E C os) : XtS K B (fun cls d _ H => E cls d H) C ss os := fun σ G H b r => h G H b r.gh r.ow
/-- an evaluation that may raise: what comes back, by P; what is raised, by P -/
def EvX (K : Fg) (te : TE) (ss : SS) (os : Own) (W : WX) (P : Res → Own → Prop) : Prop := ∀ (B : Bs) σ G H, BsOk B os G H → Rep K ss os σ G H → ∀ Q : VK,
  (∀ d os' v G' H', P (.ok d) os' → Gq (keys os) G H G' H' → Ex G' H' → OwnOk K G' H' os' → (∀ x ∈ os', H x.1 = none ∨ x.1 ∈ keys os) → Rp K G' v d → Q v H') →
  (∀ C os', P (.er C) os' → XtS K B W C ss os') → te σ H Q
theorem ex_call {P : Res → Own → Prop} (ha : EvA K ta ss os ds) (hn : ds.length = n) (hp : os.Perm (osp ++ osr)) (hc : c ds osp P) : EvX K (tCallS (spC K n c) (WE W) ta) ss os W (fun r os' => ∃ os1, P r os1 ∧ os' = os1 ++ osr) := fun B σ G H b R Q q qx => ha σ G H R _ fun vs G1 H1 q1 e1 r1 => by
  have R1 := R.grow q1 e1
  have ow1 := R1.ow.perm hp
  refine ⟨by rw [r1.length, hn], ds, osp, P, G1, e1, r1, ow1.left, hc, ?_⟩
  intro r os1 G2 H2 hP q2 e2 o2 n2
  have q2' : Gq (keys os) G1 H1 G2 H2 := q2.wk fun p m => .inl (keys_sub hp p m)
  cases r with
  | er C => exact qx C _ ⟨os1, hP, rfl⟩ σ G2 H2 ((b.grow q1).growM q2' (new_back hp n2)) ⟨e2, R1.sl.mono q2.ex, ow1.back q2 e2 o2 n2⟩
  | ok d =>
    intro v rv
    exact q d _ v G2 H2 ⟨os1, hP, rfl⟩ ((q1.wk (by simp)).trans q2 fun p m => .inl (keys_sub hp p m)) e2 (ow1.back q2 e2 o2 n2) (fun x m => (new_back hp n2 x m).imp (q1.dom _) id) rv
theorem ex_meth {P : Res → Own → Prop} {Cl : Addr} {m : Str} {ns : List Str} {fs : List Dt} (hx : Ev K tx ss os x) (l : IV os x Cl ns fs) (hm : ¬ m ∈ ns) (ha : EvA K ta ss os ds) (hn : ds.length + 1 = n) (hp : os.Perm (osp ++ osr)) (hc : c (x :: ds) osp P) :
    EvX K (tMethS Cl m (spC K n c) (WE W) tx ta) ss os W (fun r os' => ∃ os1, P r os1 ∧ os' = os1 ++ osr) := fun B σ G H b R Q q qx => hx σ G H R _ fun xv G0 H0 q0 e0 r0 => by
  obtain ⟨a, dx, vs0, rfl, g, rs⟩ := (R.grow q0 e0).ins l r0
  refine ⟨a, dx, _, rfl, g, look_no hm, ha σ G0 H0 (R.grow q0 e0) _ fun vs G1 H1 q1' e1 r1 => ?_⟩
  have q1 := q0.trans q1' (by simp)
  have R1 := R.grow q1 e1
  have ow1 := R1.ow.perm hp
  refine ⟨by rw [List.length_cons, r1.length, hn], x :: ds, osp, P, G1, e1, .cons (r0.mono q1'.ex) r1, ow1.left, hc, ?_⟩
  intro r os1 G2 H2 hP q2 e2 o2 n2
  have q2' : Gq (keys os) G1 H1 G2 H2 := q2.wk fun p m => .inl (keys_sub hp p m)
  cases r with
  | er C => exact qx C _ ⟨os1, hP, rfl⟩ σ G2 H2 ((b.grow q1).growM q2' (new_back hp n2)) ⟨e2, R1.sl.mono q2.ex, ow1.back q2 e2 o2 n2⟩
  | ok d =>
    intro v rv
    exact q d _ v G2 H2 ⟨os1, hP, rfl⟩ ((q1.wk (by simp)).trans q2 fun p m => .inl (keys_sub hp p m)) e2 (ow1.back q2 e2 o2 n2) (fun x m => (new_back hp n2 x m).imp (q1.dom _) id) rv
/-- a call that may raise, one's cells lent, its outcome of thin data -/
theorem ex_callL {P : Res → Own → Prop} {es : List Dt} (ha : EvA K ta ss os ds) (hf : Fms os ds es) (hn : es.length = n) (hc : c es [] P) (ht : ∀ d os', P (.ok d) os' → Thin d ∧ ∀ y ∈ os', ThinC y.2) (hE : ∀ C os', P (.er C) os' → os' = []) :
    EvX K (tCallS (spC K n c) (WE W) ta) ss os W (fun r os' => ∃ os1, P r os1 ∧ os' = os1 ++ os) := fun B σ G H b R Q q qx => ha σ G H R _ fun vs G1 H1 q1 e1 r1 => by
  have R1 := R.grow q1 e1
  have ow1 := R1.ow
  obtain ⟨Gl, l1, l2, lf, lb⟩ := lend ow1 e1
  have r2 := lf hf r1
  refine ⟨by rw [r2.length, hn], es, [], P, Gl, l2, r2, ownOk_nil, hc, ?_⟩
  intro r os1 G2 H2 hP q2 e2 o2 n2
  obtain ⟨G3, q3, e3, tu, no, _, _⟩ := lb G2 H2 q2 e2
  cases r with
  | er C =>
    have e := hE C os1 hP
    subst e
    exact qx C _ ⟨[], hP, rfl⟩ σ G3 H2 ((b.grow q1).grow q3) (R1.grow q3 e3)
  | ok d =>
    intro v rv
    obtain ⟨t1, t2⟩ := ht d os1 hP
    have o3 : OwnOk K G3 H2 os1 := ⟨o2.nd, fun y m => ⟨no _ (o2.at_ y m).1, CelOk.thin tu (t2 y m) (o2.at_ y m).2⟩⟩
    have ob : OwnOk K G3 H2 (os1 ++ os) := OwnOk.back (osp := []) (by simpa using ow1) (by simpa using q3) e3 o3 (by simpa using n2)
    refine q d _ v G3 H2 ⟨os1, hP, rfl⟩ ((q1.trans q3 (by simp)).wk (by simp)) e3 ob (fun y m => ?_) (Rp.thin tu t1 rv)
    rcases List.mem_append.mp m with m | m
    · rcases n2 y m with z | z
      · exact .inl (q1.dom _ z)
      · simp at z
    · exact .inr (mem_keys m)
theorem do_asgX {i : Nat} {P : Res → Own → Prop} (h : EvX K te ss os W P) (k : ∀ d os', P (.ok d) os' → Nx K B D.nx (ss.set i (some d)) os') (kx : ∀ C os', P (.er C) os' → XtS K B W C ss os') : Do K B (tAsg te (gName i)) ss os D := fun σ G H b r =>
  h B σ G H b r _ (fun d os' v G1 H1 hP q1 e1 o1 n1 r1 => k d os' hP _ G1 H1 (b.growM q1 n1) ⟨e1, (r.sl.mono q1.ex).set i r1, o1⟩) kx
theorem do_dropX {P : Res → Own → Prop} (h : EvX K te ss os W P) (k : ∀ d os', P (.ok d) os' → Nx K B D.nx ss os') (kx : ∀ C os', P (.er C) os' → XtS K B W C ss os') : Do K B (tDrop te) ss os D := fun σ G H b r =>
  h B σ G H b r _ (fun d os' v G1 H1 hP q1 e1 o1 n1 r1 => k d os' hP _ G1 H1 (b.growM q1 n1) ⟨e1, r.sl.mono q1.ex, o1⟩) kx
theorem do_retX {P : Res → Own → Prop} (h : EvX K te ss os W P) (k : ∀ d os', P (.ok d) os' → Rt K B D.rt d os') (kx : ∀ C os', P (.er C) os' → XtS K B W C ss os') : Do K B (tRet te) ss os D := fun σ G H b r =>
  h B σ G H b r _ (fun d os' v G1 H1 hP q1 e1 o1 n1 r1 => k d os' hP _ G1 H1 (b.growM q1 n1) e1 o1 r1) kx
end
abbrev tTryAs (K : Fg) (c : Value) (i : Nat) (tb : WX → TS) (ts : Addr → Value → Option Addr → TS) (Wout : WX) : TS := fun D σ H => tb (wAs K c i ts Wout D) D σ H
theorem do_try {K : Fg} {B : Bs} {c : Value} {i : Nat} {tb : WX → TS} {ts : Addr → Value → Option Addr → TS} {Wout : WX} {ss : SS} {os : Own} {D : Ends} (h : Do K B (tb (wAs K c i ts Wout D)) ss os D) : Do K B (tTryAs K c i tb ts Wout) ss os D := h
/-! ### what is known of the errors -/
def ErrO (K : Fg) (D C : Addr) : Option Bool → Prop
  | none => True
  | some b => PySem.W.kitOne K (.ref D) (.ref C) = some b
def errO (K : Fg) (D C : Addr) : Option Bool → Bool
  | none => true
  | some b => decide (PySem.W.kitOne K (.ref D) (.ref C) = some b)
theorem errO_ok {K : Fg} {D C : Addr} {o : Option Bool} (h : errO K D C o = true) : ErrO K D C o := by
  cases o with
  | none => trivial
  | some b =>
    have : PySem.W.kitOne K (.ref D) (.ref C) = some b := of_decide_eq_true h
    exact this
structure ErrF (K : Fg) (D : Addr) (YE BY BD BL BT : Addr) (by_ bd bl bt : Option Bool) : Prop where
  cls : ExcC K D
  ye : PySem.W.exmOne K (.ref D) (.ref YE) = some true
  ve : PySem.W.kitOne K (.ref D) (.type "ValueError") = some true
  by_ : ErrO K D BY by_
  bd : ErrO K D BD bd
  bl : ErrO K D BL bl
  bt : ErrO K D BT bt
def errB (K : Fg) (D : Addr) (YE BY BD BL BT : Addr) (by_ bd bl bt : Option Bool) : Bool :=
  decide (PySem.W.findIn K (.ref D) "__getattribute__" = some (some (.builtin "BaseException.__getattribute__"))) && (decide (PySem.W.findIn K (.ref D) "__getattr__" = some none) && (decide (PySem.W.subIn K (.ref D) (.type "BaseException") = some true) &&
  (PySem.W.hasDictIn K D && (decide (PySem.W.findIn K (.ref D) "__class__" = some (some (.builtin "object.__class__"))) && (decide (PySem.W.specialIn K (.builtin "object.__class__") "__get__" = some (some (.builtin "getset_descriptor.__get__"))) &&
  (decide (PySem.W.takesIn K (.builtin "object.__class__") = some true) && (decide (PySem.W.mroIn K D (.type "object") = some true) && (decide (PySem.W.exmOne K (.ref D) (.ref YE) = some true) && (decide (PySem.W.kitOne K (.ref D) (.type "ValueError") = some true) &&
  (errO K D BY by_ && (errO K D BD bd && (errO K D BL bl && errO K D BT bt))))))))))))
theorem errB_ok {K : Fg} {D YE BY BD BL BT : Addr} {b1 b2 b3 b4 : Option Bool} (h : errB K D YE BY BD BL BT b1 b2 b3 b4 = true) : ErrF K D YE BY BD BL BT b1 b2 b3 b4 := by
  unfold errB at h
  simp only [Bool.and_eq_true, decide_eq_true_eq] at h
  obtain ⟨h1, h2, h3, h4, h5, h6, h7, h8, h9, h10, h11, h12, h13, h14⟩ := h
  exact ⟨⟨h1, h2, h3, h4, h5, h6, h7, h8⟩, h9, h10, errO_ok h11, errO_ok h12, errO_ok h13, errO_ok h14⟩
/-! ### the head, with facts of one's own -/
def hookX (n : Nat) (fa : List He.Fa) (fx : Fg → Bool) (fn : List He.DefD) : PySem.W.Hook where
  α := Bool × He.AlD
  obs := fun s => let K := He.frG s.heap.get? (He.asD s.heap.get? n); (fx K, He.obsD fa fn K)
  val := fun _ => (true, He.valD fn)
  says := fun _ h => ∃ K : PySem.W.Frag, K.In h ∧ (fx K = true ∧ He.SaysD fa fn K)
  of := fun _ _ e => ⟨_, He.frG_in, congrArg (fun z : Bool × He.AlD => z.1) e, congrArg (fun z : Bool × He.AlD => z.2) e⟩
  keeps := fun _ _ _ ⟨K, hK, c⟩ k => ⟨K, PySem.W.Frag.In.keeps hK k, c⟩
def obX (n : Nat) (fa : List He.Fa) (fx : Fg → Bool) (fn : List He.DefD) (g : Addr → Option Obj) : Bool × He.AlD := let K := He.frG g (He.asD g n); (fx K, He.obsD fa fn K)
theorem obX_eq {n : Nat} {fa : List He.Fa} {fx : Fg → Bool} {fn : List He.DefD} {g : Addr → Option Obj} {s : Shared} (h : ∀ a, g a = s.heap.get? a) : obX n fa fx fn g = (hookX n fa fx fn).obs s := by
  have e : g = s.heap.get? := funext h
  rw [e] <;> rfl
end Cy

namespace Cy
open PySem L2
local macro_rules | `(tactic| walk_at "lv") => `(tactic| first | exact LV.lst | exact LV.scr | exact LV.own List.mem_cons_self | exact LV.own (List.mem_cons_of_mem _ List.mem_cons_self) | exact LV.own (List.mem_cons_of_mem _ (List.mem_cons_of_mem _ List.mem_cons_self)) | exact LV.own (List.mem_cons_of_mem _ (List.mem_cons_of_mem _ (List.mem_cons_of_mem _ List.mem_cons_self))))
local macro_rules | `(tactic| walk_at "at") => `(tactic| first | exact at_mapN (by assumption) | exact at_map (by omega) (by assumption) | rfl | exact at_of (by omega) (by assumption))
local macro_rules | `(tactic| walk_at "side") => `(tactic| first | assumption | omega | decide)
local macro_rules | `(tactic| walk_at "ea") => `(tactic| first | exact ea_nil | (apply ea_cons; walk_at "ev"; walk_at "ea"))
local macro_rules | `(tactic| walk_at "et") => `(tactic| first
  | exact et_yes
  | (apply et_B; walk_at "ev")
  | (apply et_T; walk_at "ev")
  | (apply et_not; walk_at "et"))
local macro_rules | `(tactic| walk_at "ev") => `(tactic| first
  | exact ev_var rfl
  | exact ev_cint | exact ev_cbl | exact ev_cstr | exact ev_cnon
  | (apply ev_ii; walk_at "ev"; walk_at "ev")
  | (apply ev_ib; walk_at "ev"; walk_at "ev")
  | (apply ev_eqI; walk_at "ev"; walk_at "ev")
  | (apply ev_neI; walk_at "ev"; walk_at "ev")
  | (apply ev_ixL; walk_at "ev"; walk_at "lv"; walk_at "ev"; walk_at "at")
  | (apply ev_ixT; walk_at "ev"; walk_at "ev"; walk_at "at")
  | (apply ev_len; walk_at "ev"; walk_at "lv")
  | (apply ev_lenT; walk_at "ev")
  | (apply ev_min2; walk_at "ev"; walk_at "ev")
  | (apply ev_max2; walk_at "ev"; walk_at "ev")
  | (apply ev_tup; walk_at "ea"; (first | decide | simp | skip))
  | (apply ev_iC; walk_at "ev"; walk_at "ev"; walk_at "cond")
  | (apply ev_fldI; walk_at "cls"; walk_at "cls"; walk_at "ev"; walk_at "iv"; rfl; rfl; rfl)
  | (apply ev_F; walk_at "ef")
  | walk_at "call")
local macro_rules | `(tactic| walk_at "ef") => `(tactic| first
  | (apply ef_list; walk_at "ev"; walk_at "lv")
  | (apply ef_lst; walk_at "ea"; (first | decide | simp | skip)))
local macro_rules | `(tactic| walk_at "iv") => `(tactic| first | exact IV.ins | exact IV.own List.mem_cons_self | exact IV.own (List.mem_cons_of_mem _ List.mem_cons_self) | exact IV.own (List.mem_cons_of_mem _ (List.mem_cons_of_mem _ List.mem_cons_self)) | exact IV.own (List.mem_cons_of_mem _ (List.mem_cons_of_mem _ (List.mem_cons_of_mem _ List.mem_cons_self))))
local macro_rules | `(tactic| walk_at "cond") => `(tactic| first | exact Or.inr (by decide) | exact Or.inl (by decide) | (exact ⟨by decide, by decide⟩) | (show (0 : Int) < _; first | decide | assumption | omega))
local macro_rules | `(tactic| walk_at "cls") => `(tactic| first | assumption | exact YardF.cls (by assumption) | exact YardF.sizes (by assumption) | exact YardF.held (by assumption))
local macro_rules | `(tactic| walk_at "call") => `(tactic| fail "no call")
local macro_rules | `(tactic| walk_at "at") => `(tactic| first | exact at_getD (by first | assumption | omega) | exact at_day (by first | assumption | omega) | rfl)
local macro_rules | `(tactic| walk_at "call") => `(tactic| (apply ev_drawn; walk_at "ev"; walk_at "ev"; walk_at "ev"; walk_at "side"))
def c_l_whole (A : Ad) : Ct := pureC (α := Int) (fun _ => True) (fun x => [.int x]) fun x => .ok (.bl true)
def rd_l_whole (K : Fg) (A : Ad) : TS :=
  tRet (tAndV (tCB (rIsi K) (tCons (tVar 0) (tCons (tC (V.ty "int")) tNil))) (tNotV (tCB (rIsi K) (tCons (tVar 0) (tCons (tC (V.ty "bool")) tNil)))))
theorem sem_l_whole {K : Fg} {A : Ad} : ∀ vs H Q E, spC K 1 (c_l_whole A) vs H Q E → rd_l_whole K A { nx := fun _ H' => Q .non H', rt := Q } (start ["found"] vs) H :=
  body_ok fun ds os P hl hc B D hfp hR hN => by
    obtain ⟨x, hx, rfl, rfl, rfl⟩ := hc
    exact do_ret (d := .bl true) (ev_andV (a := true) (b := true) (ev_isi (ev_var rfl) (.int _) kit_ii) fun _ => ev_notV (a := false) (ev_isi (ev_var rfl) (.int _) kit_ib)) (hR.rt ⟨rfl, rfl⟩)
def c_l_row (A : Ad) : Ct := pureC (α := List Int × List Int) (fun x => x.2.length < 1000) (fun x => [iL x.1, iL x.2]) fun x => .ok (.bl (decide (x.1 = x.2)))
def rd_l_row (K : Fg) (A : Ad) : TS :=
  tSeq (tIfS (tOr (tNot (tB (tCB (rIsi K) (tCons (tVar 0) (tCons (tC (V.ty "list")) tNil))))) (tTest (tOp (rNe) (tCB (Evl.rLenS K) (tCons (tVar 0) (tNil))) (tCB (Evl.rLenS K) (tCons (tVar 1) (tNil)))))) (tRet (tC (V.bl false))) (tNext)) 
      (tSeq (tFor (iRng1 (tCons (tCB (Evl.rLenS K) (tCons (tVar 1) (tNil))) (tNil))) (gName 2) 
        (tIfS (tOr (tNot (tB (tCall (spC K 1 (c_l_whole A)) [] E0 (tCons (tOp (rIxL K) (tVar 0) (tVar 2)) (tNil))))) (tTest (tOp (rNe) (tOp (rIxL K) (tVar 0) (tVar 2)) (tOp (rIxL K) (tVar 1) (tVar 2))))) (tRet (tC (V.bl false))) (tNext))) 
      (tRet (tC (V.bl true))))
theorem sem_l_row {K : Fg} {A : Ad} : ∀ vs H Q E, spC K 2 (c_l_row A) vs H Q E → rd_l_row K A { nx := fun _ H' => Q .non H', rt := Q } (start ["found", "due", "k"] vs) H :=
  body_ok fun ds os P hl hc B D hfp hR hN => by
    obtain ⟨⟨xs, ys⟩, hx, rfl, rfl, rfl⟩ := hc
    have hx : ys.length < 1000 := hx
    have hR : ∀ {B' : Bs}, B.Le B' → ∀ {b : Bool} {os : Own}, decide (xs = ys) = b → os = [] → Rt K B' D.rt (.bl b) os := fun {B'} le {b os} e eo => (hR.up le).rt ⟨by show Res.ok _ = Res.ok (.bl (decide (xs = ys))); rw [e], eo⟩
    refine q_when (et_or (et_not (et_B (ev_isi (ev_var rfl) (.lst _) kit_ll))) fun _ => by walk_at "et") (fun hb => do_ret ev_cbl (hR (Bs.Le.refl _) ?_ rfl)) (fun hb => ?_)
    · refine decide_eq_false fun e => ?_
      subst e
      simp at hb
    have hlen : xs.length = ys.length := by
      simp at hb
      omega
    refine q_forR (n := (ys.length : Int)) (ea_cons (ev_is (by walk_at "ev") (by rw [List.length_map])) ea_nil) (by omega) (by omega) (fun i ss os => (∃ o, ss = [some (iL xs), some (iL ys), o]) ∧ os = [] ∧ ∀ k, k < i → xs.getD k 0 = ys.getD k 0) ⟨⟨_, rfl⟩, rfl, by omega⟩ (fun i ss os hi hI => ?_) (fun ss os hI => ?_)
    · obtain ⟨⟨o, rfl⟩, rfl, hk⟩ := hI
      have i1 : i < ys.length := by omega
      have i2 : i < xs.length := by omega
      refine do_if (et_or (et_not (et_B (ev_call (xs.getD i 0) (by walk_at "ea") rfl trivial rfl))) fun _ => by walk_at "et") (fun hb => do_ret ev_cbl (hR (Bs.Le.refl _) ?_ rfl)) (fun hb => do_nx (nx_at ⟨⟨_, rfl⟩, rfl, fun k hk2 => ?_⟩))
      · refine decide_eq_false fun e => ?_
        subst e
        simp at hb
      · by_cases e : k = i
        · subst e
          simpa [-List.getD_eq_getElem?_getD] using hb
        · exact hk k (by omega)
    · obtain ⟨⟨o, rfl⟩, rfl, hk⟩ := hI
      refine do_ret ev_cbl (hR (Bs.Le.refl _) (decide_eq_true (List.ext_getElem hlen fun k h1 h2 => ?_)) rfl)
      have := hk k (by simpa using h2)
      rw [List.getD_eq_getElem?_getD, List.getD_eq_getElem?_getD, List.getElem?_eq_getElem h1, List.getElem?_eq_getElem h2] at this
      exact this
def c_l_days_byO (A : Ad) : Ct := fun ds os P => ∃ (ns : List Int) (b : Int) (many : Nat) (bound : Int), 0 ≤ bound ∧ bound ≤ 100 ∧ many ≤ 100 ∧ ds = [.scr ns, .int b, .int (many : Int), .int bound] ∧ os = [] ∧
  P = fun r os' => ∃ p as, as.length = (daysBy ns b many bound).length ∧ r = .ok (.adr p) ∧ os'.Perm ((p, .lst (spine as)) :: cellsOf as (daysBy ns b many bound))
def rd_l_days_byO (K : Fg) (A : Ad) : TS :=
  tSeq (tAsg (tOp (rIxL K) (tLst (tCons (tC (V.int 4)) (tCons (tC (V.int 10)) (tCons (tC (V.int 31)) (tNil))))) (tCall (spC K 3 (c_l_drawn A)) [] E0 (tCons (tVar 0) (tCons (tVar 1) (tCons (tC (V.int 3)) (tNil)))))) (gName 4)) 
      (tSeq (tAsg (tLst (tNil)) (gName 5)) 
      (tSeq (tFor (iRng1 (tCons (tCall (spC K 3 (c_l_drawn A)) [] E0 (tCons (tVar 0) (tCons (tOp (rI0 fun i j => V.int (i + j)) (tVar 1) (tC (V.int 1))) (tCons (tOp (rI0 fun i j => V.int (i + j)) (tVar 3) (tC (V.int 1))) (tNil))))) (tNil))) (gName 6) 
        (tSeq (tAsg (tLc (iRng1 (tCons (tVar 2) (tNil))) (gName 9) (tYes) (tCall (spC K 3 (c_l_drawn A)) [] E0 (tCons (tVar 0) (tCons (tOp (rI0 fun i j => V.int (i + j)) (tOp (rI0 fun i j => V.int (i + j)) (tOp (rI0 fun i j => V.int (i + j)) (tVar 1) (tC (V.int 10))) (tOp (rI CMul fun i j => V.int (i * j)) (tC (V.int 8)) (tVar 6))) (tVar 9)) (tCons (tVar 4) (tNil))))) ([9] : List Nat)) (gName 7)) 
        (tSeq (tAsg (tLc (iRng1 (tCons (tVar 2) (tNil))) (gName 9) (tYes) (tCall (spC K 3 (c_l_drawn A)) [] E0 (tCons (tVar 0) (tCons (tOp (rI0 fun i j => V.int (i + j)) (tOp (rI0 fun i j => V.int (i + j)) (tOp (rI0 fun i j => V.int (i + j)) (tVar 1) (tC (V.int 14))) (tOp (rI CMul fun i j => V.int (i * j)) (tC (V.int 8)) (tVar 6))) (tVar 9)) (tCons (tVar 4) (tNil))))) ([9] : List Nat)) (gName 8)) 
        (Evl.tCut (tIfS (tTest (tOp (rEq) (tCall (spC K 3 (c_l_drawn A)) [] E0 (tCons (tVar 0) (tCons (tOp (rI0 fun i j => V.int (i + j)) (tVar 1) (tC (V.int 2))) (tCons (tC (V.int 3)) (tNil))))) (tC (V.int 1)))) (tAsg (tLc (iList K (tVar 8)) (gName 10) (tYes) (tCB (rMin2) (tCons (tC (V.int 30)) (tCons (tOp (rI CMul fun i j => V.int (i * j)) (tC (V.int 2)) (tVar 10)) (tNil)))) ([10] : List Nat)) (gName 8)) (tNext)) 
        (tDrop (tBM K "list" rAppend (tVar 5) (tCons (tTup (tCons (tVar 7) (tCons (tVar 8) (tNil)))) (tNil)))))))) 
      (tRet (tVar 5))))
theorem sem_l_days_byO {K : Fg} {A : Ad} : ∀ vs H Q E, spC K 4 (c_l_days_byO A) vs H Q E → rd_l_days_byO K A { nx := fun _ H' => Q .non H', rt := Q } (start ["script", "base", "many", "bound", "top", "days", "number", "rain", "wishes", "k", "one"] vs) H :=
  body_ok fun ds os P hl hc B D hfp hR hN => by
    obtain ⟨ns, b, many, bound, hb0, hb1, hm, rfl, rfl, rfl⟩ := hc
    have ht := dtopBy_pos ns b
    have hdr := drawn_pos ns (b + 1) (many := bound + 1) (by omega)
    have hm2 : (many : Int) ≤ 100 := by omega
    refine q_asg (d := .int (dtopBy ns b)) (ev_ixL (ev_F (ef_lst (by walk_at "ea") (by decide))) LV.lst (by walk_at "ev") top_at) ?_
    refine q_asgM (em_F (ef_lst ea_nil (by decide))) fun d os' hd => ?_
    obtain ⟨p, np, rfl, rfl⟩ := hd
    refine q_forR (n := drawn ns (b + 1) (bound + 1)) (ea_cons (by walk_at "ev") ea_nil) (by omega) (by omega) (fun i ss os => ∃ as o1 o2 o3 o4 o5, as.length = i ∧ ss = [some (.scr ns), some (.int b), some (.int many), some (.int bound), some (.int (dtopBy ns b)), some (.adr p), o1, o2, o3, o4, o5] ∧
      os.Perm ((p, .lst (spine as)) :: cellsOf as ((List.range i).map fun n => (rainBy ns b many n, wishesBy ns b many n)))) ⟨[], _, _, _, _, _, rfl, rfl, List.Perm.refl _⟩ (fun i ss os hi hI => ?_) (fun ss os hI => ?_)
    · obtain ⟨as, o1, o2, o3, o4, o5, hl, rfl, hperm⟩ := hI
      have epl : (List.range (i + 1)).map (fun n => (rainBy ns b many n, wishesBy ns b many n)) = (List.range i).map (fun n => (rainBy ns b many n, wishesBy ns b many n)) ++ [(rainBy ns b many i, wishesBy ns b many i)] := by rw [List.range_succ, List.map_append]; rfl
      have hpl : ((List.range i).map fun n => (rainBy ns b many n, wishesBy ns b many n)).length = i := by simp
      rw [epl]
      generalize (List.range i).map (fun n => (rainBy ns b many n, wishesBy ns b many n)) = pl at hperm hpl ⊢
      refine do_perm hperm ?_
      refine q_asgM (em_F (ds := (rainBy ns b many i).map Dt.int) (ef_mapRi (n := (many : Int)) (fun k => drawn ns (b + 10 + 8 * i + k) (dtopBy ns b)) (ea_cons (ev_var rfl) ea_nil) (by omega) (by omega) fun j hj => ⟨_, tw_name, ?_⟩)) fun d os' hd => ?_
      · walk_at "ev"
      obtain ⟨a, na, rfl, rfl⟩ := hd
      refine q_asgM (em_F (ds := ((List.range many).map fun (k : Nat) => drawn ns (b + 14 + 8 * i + k) (dtopBy ns b)).map Dt.int) (ef_mapRi (n := (many : Int)) (fun k => drawn ns (b + 14 + 8 * i + k) (dtopBy ns b)) (ea_cons (ev_var rfl) ea_nil) (by omega) (by omega) fun j hj => ⟨_, tw_name, ?_⟩)) fun d os' hd => ?_
      · walk_at "ev"
      obtain ⟨w, nw, rfl, rfl⟩ := hd
      refine do_perm (perm_two _ _ _) ?_
      refine do_cut (fun ss os => ∃ w o3 o4, ss = [some (.scr ns), some (.int b), some (.int many), some (.int bound), some (.int (dtopBy ns b)), some (.adr p), some (.int i), some (.adr a), some (.adr w), o3, o4] ∧
        os.Perm ((a, .lst ((rainBy ns b many i).map Dt.int)) :: (w, .lst ((wishesBy ns b many i).map Dt.int)) :: (p, .lst (spine as)) :: cellsOf as pl)) (do_if (by walk_at "et") (fun hb => ?_) (fun hb => ?_)) ?_
      · have e : wishesBy ns b many i = ((List.range many).map fun (k : Nat) => drawn ns (b + 14 + 8 * i + k) (dtopBy ns b)).map fun one => min 30 (2 * one) := by
          unfold wishesBy
          rw [if_pos (by simpa using hb)]
        refine do_asgM (em_F (ds := (wishesBy ns b many i).map Dt.int) ?_) fun d os' hd => ?_
        · rw [e]
          refine ef_mapLi (fun one => min 30 (2 * one)) (ev_var rfl) (.own (List.mem_cons_of_mem _ List.mem_cons_self)) (fun x _ => ⟨_, tw_name, ?_⟩) (by simp; omega)
          walk_at "ev"
        · obtain ⟨w2, nw2, rfl, rfl⟩ := hd
          refine nx_perm (perm_one _ _) (nx_perm (List.Perm.swap _ _ _) ?_)
          exact nx_weak (Le.refl _) (.cons_cons _ (.cons_cons _ (.cons _ (List.Sublist.refl _)))) (nx_at ⟨w2, _, _, rfl, List.Perm.refl _⟩)
      · refine do_nx (nx_at ⟨w, o4, o5, rfl, ?_⟩)
        have e : wishesBy ns b many i = (List.range many).map fun (k : Nat) => drawn ns (b + 14 + 8 * i + k) (dtopBy ns b) := by
          unfold wishesBy
          rw [if_neg (by simpa using hb)]
        rw [e]
      · rintro ss os ⟨w, o3, o4, rfl, hperm2⟩
        refine do_perm hperm2 ?_
        refine do_nd fun nd => ?_
        have npa : a ≠ p := fun z => (List.nodup_cons.mp nd).1 (by rw [z]; exact List.mem_cons_of_mem _ List.mem_cons_self)
        have npb : w ≠ p := fun z => (List.nodup_cons.mp (List.nodup_cons.mp nd).2).1 (by rw [z]; exact List.mem_cons_self)
        have npc := (List.nodup_cons.mp (List.nodup_cons.mp (List.nodup_cons.mp nd).2).2).1
        refine do_app (ev_var rfl) (List.mem_cons_of_mem _ (List.mem_cons_of_mem _ List.mem_cons_self)) (ev_tup (ea_cons (ev_var rfl) (ea_cons (ev_var rfl) ea_nil)) (by simp)) (by rw [spine_len]; omega) ?_
        rw [setC_snd npa, setC_snd npb, setC_fst npc]
        refine nx_at ⟨as ++ [(a, w)], _, _, _, _, _, by simp [hl], rfl, ?_⟩
        rw [cells_snoc (by omega)]
        have es : spine (as ++ [(a, w)]) = spine as ++ [.tup [.adr a, .adr w]] := by simp [spine]
        rw [es]
        exact (((List.Perm.swap _ _ _).cons _).trans ((List.Perm.swap _ _ _).trans ((List.perm_append_comm (l₁ := [(a, Cel.lst ((rainBy ns b many i).map Dt.int)), (w, .lst ((wishesBy ns b many i).map Dt.int))])).cons _)))
    · obtain ⟨as, o1, o2, o3, o4, o5, hl, rfl, hperm⟩ := hI
      exact do_ret (ev_var rfl) (hR.rt ⟨p, as, by rw [hl]; simp [daysBy], rfl, hperm⟩)
end Cy

namespace Cy
/-! sums, lines -/
def sumTo (f : Nat → Int) : Nat → Int
  | 0 => 0
  | n + 1 => sumTo f n + f n
theorem sumTo_add (f g : Nat → Int) : ∀ n, sumTo (fun k => f k + g k) n = sumTo f n + sumTo g n
  | 0 => rfl
  | n + 1 => by
    show sumTo (fun k => f k + g k) n + (f n + g n) = sumTo f n + f n + (sumTo g n + g n)
    rw [sumTo_add f g n]; omega
theorem sumTo_congr {f g : Nat → Int} : ∀ {n : Nat}, (∀ k, k < n → f k = g k) → sumTo f n = sumTo g n
  | 0, _ => rfl
  | n + 1, h => by
    show sumTo f n + f n = sumTo g n + g n
    rw [sumTo_congr fun k hk => h k (by omega), h n (by omega)]
theorem sumTo_le {f g : Nat → Int} : ∀ {n : Nat}, (∀ k, k < n → f k ≤ g k) → sumTo f n ≤ sumTo g n
  | 0, _ => Int.le_refl _
  | n + 1, h => by
    show sumTo f n + f n ≤ sumTo g n + g n
    have := sumTo_le (n := n) fun k hk => h k (by omega)
    have := h n (by omega)
    omega
theorem sumTo_zero : ∀ n, sumTo (fun _ => 0) n = 0
  | 0 => rfl
  | n + 1 => by show sumTo (fun _ => 0) n + 0 = 0; rw [sumTo_zero n]; rfl
theorem sumTo_nn {f : Nat → Int} {n : Nat} (h : ∀ k, k < n → 0 ≤ f k) : 0 ≤ sumTo f n := by
  have := sumTo_le (f := fun _ => 0) (g := f) (n := n) h
  rw [sumTo_zero] at this
  exact this
theorem sumTo_mul (c : Int) (f : Nat → Int) : ∀ n, sumTo (fun k => c * f k) n = c * sumTo f n
  | 0 => by show (0 : Int) = c * 0; simp
  | n + 1 => by
    show sumTo (fun k => c * f k) n + c * f n = c * (sumTo f n + f n)
    rw [sumTo_mul c f n, Int.mul_add]
theorem take_sum {xs : List Int} : ∀ {n : Nat}, n ≤ xs.length → (xs.take n).sum = sumTo (fun k => xs.getD k 0) n
  | 0, _ => by simp [sumTo]
  | n + 1, h => by
    rw [L2.sum_take (getD_some (show n < xs.length by omega)), take_sum (n := n) (by omega)]
    rfl
theorem sum_sumTo (xs : List Int) : xs.sum = sumTo (fun k => xs.getD k 0) xs.length := by
  rw [← take_sum (Nat.le_refl _), List.take_length]
theorem sum_range (f : Nat → Int) : ∀ n, ((List.range n).map f).sum = sumTo f n
  | 0 => rfl
  | n + 1 => by rw [sum_map_range, sum_range f n]; rfl
theorem sum_filter (p : Nat → Bool) (f : Nat → Int) : ∀ n, (((List.range n).filter p).map f).sum = sumTo (fun k => if p k = true then f k else 0) n
  | 0 => rfl
  | n + 1 => by
    rw [List.range_succ, List.filter_append, List.map_append, List.sum_append, sum_filter p f n]
    show _ = sumTo _ n + (if p n = true then f n else 0)
    congr 1
    by_cases h : p n = true
    · simp [h]
    · simp [h]
theorem sumTo_cut {f : Nat → Int} {m : Nat} : ∀ {n : Nat}, m ≤ n → (∀ k, m ≤ k → k < n → f k = 0) → sumTo f n = sumTo f m
  | 0, h, _ => by rw [show m = 0 by omega]
  | n + 1, h, hz => by
    by_cases e : m = n + 1
    · rw [e]
    · show sumTo f n + f n = _
      rw [sumTo_cut (n := n) (by omega) fun k h1 h2 => hz k h1 (by omega), hz n (by omega) (by omega)]
      omega
def lineOk (many nd : Nat) (line : List Int) : Bool := decide (line.length = nd) && line.all fun f => decide (0 ≤ f) && decide (f ≤ (many : Int))
theorem lineOk_iff {many nd : Nat} {line : List Int} : lineOk many nd line = true ↔ line.length = nd ∧ ∀ f ∈ line, 0 ≤ f ∧ f ≤ (many : Int) := by simp [lineOk]
def lN (line : List Int) (n : Nat) : Nat := (line.getD n 0).toNat
theorem lN_int {many nd : Nat} {line : List Int} (h : lineOk many nd line = true) {n : Nat} (hn : n < nd) : line.getD n 0 = (lN line n : Int) ∧ lN line n ≤ many := by
  obtain ⟨h1, h2⟩ := lineOk_iff.mp h
  have := h2 _ (getD_mem' (show n < line.length by omega))
  unfold lN
  omega
abbrev rn (days : List Day) (n k : Nat) : Int := (days.getD n ([], [])).1.getD k 0
abbrev ws (days : List Day) (n k : Nat) : Int := (days.getD n ([], [])).2.getD k 0
/-- what falls or lies above: the tank k, the day n, the line's place the day before -/
def abv (rooms held : List Int) (days : List Day) (b n k : Nat) : Int := rn days n k + (if n = 0 then held.getD k 0 else if b ≤ k then rooms.getD k 0 else 0)
def waterAb (rooms held : List Int) (days : List Day) (L : Nat → Nat) (N : Nat) : Int := sumTo (fun n => sumTo (abv rooms held days (L (n - 1)) n) (L n)) N
def wishAb (days : List Day) (L : Nat → Nat) (N : Nat) : Int := sumTo (fun n => sumTo (ws days n) (L n)) N
def stepIn (rooms : List Int) (b f : Int) : Int := (((List.range rooms.length).filter fun (k : Nat) => decide (b ≤ (k : Int)) && decide ((k : Int) < f)).map fun k => rooms.getD k 0).sum
def rainAb (held : List Int) (days : List Day) (n f : Nat) : Int := ((days.getD n ([], [])).1.take f).sum + if n = 0 then (held.take f).sum else 0
theorem stepIn_eq {rooms : List Int} {b f : Nat} (h : f ≤ rooms.length) : stepIn rooms b f = sumTo (fun k => if b ≤ k then rooms.getD k 0 else 0) f := by
  unfold stepIn
  rw [sum_filter, sumTo_cut h fun k h1 h2 => by rw [if_neg]; simp; omega]
  refine sumTo_congr fun k hk => ?_
  by_cases e : b ≤ k
  · rw [if_pos e, if_pos (by simp; omega)]
  · rw [if_neg e, if_neg (by simp; omega)]
theorem rainAb_zero {rooms held : List Int} {days : List Day} {b f : Nat} (hr : (days.getD 0 ([], [])).1.length = rooms.length) (hh : held.length = rooms.length) (h : f ≤ rooms.length) : rainAb held days 0 f = sumTo (abv rooms held days b 0) f := by
  unfold rainAb
  rw [if_pos rfl, take_sum (by omega), take_sum (by omega), ← sumTo_add]
  rfl
theorem rainAb_succ {rooms held : List Int} {days : List Day} {b f n : Nat} (hn : n ≠ 0) (hr : (days.getD n ([], [])).1.length = rooms.length) (h : f ≤ rooms.length) : rainAb held days n f + stepIn rooms b f = sumTo (abv rooms held days b n) f := by
  unfold rainAb
  rw [if_neg hn, take_sum (by omega), stepIn_eq h, Int.add_zero, ← sumTo_add]
  refine sumTo_congr fun k hk => ?_
  unfold abv
  rw [if_neg hn]
end Cy

namespace Cy
open PySem L2
open Evl (Ex Ex.refl Ex.trans Ex.new Ex.mut)
/-! ### min, max with a default -/
def minL (d : Int) : List Int → Int
  | [] => d
  | x :: r => PySem.W.minOf x r
def maxL (d : Int) : List Int → Int
  | [] => d
  | x :: r => PySem.W.maxOf x r
theorem minOf_le : ∀ (r : List Int) (x : Int), PySem.W.minOf x r ≤ x ∧ (∀ y ∈ r, PySem.W.minOf x r ≤ y) ∧ (PySem.W.minOf x r = x ∨ PySem.W.minOf x r ∈ r)
  | [], x => ⟨Int.le_refl _, by simp, .inl rfl⟩
  | y :: r, x => by
    have e : PySem.W.minOf x (y :: r) = PySem.W.minOf (if PySem.W.DatumOrd.lt y x = true then y else x) r := rfl
    have hlt : PySem.W.DatumOrd.lt y x = decide (y < x) := rfl
    rw [e, hlt]
    by_cases h : y < x
    · rw [if_pos (by simpa using h)]
      obtain ⟨h1, h2, h3⟩ := minOf_le r y
      refine ⟨by omega, fun z hz => ?_, .inr ?_⟩
      · rcases List.mem_cons.mp hz with rfl | hz
        · exact h1
        · exact h2 z hz
      · rcases h3 with h3 | h3
        · rw [h3]; exact List.mem_cons_self
        · exact List.mem_cons_of_mem _ h3
    · rw [if_neg (by simpa using h)]
      obtain ⟨h1, h2, h3⟩ := minOf_le r x
      refine ⟨h1, fun z hz => ?_, ?_⟩
      · rcases List.mem_cons.mp hz with rfl | hz
        · omega
        · exact h2 z hz
      · rcases h3 with h3 | h3
        · exact .inl h3
        · exact .inr (List.mem_cons_of_mem _ h3)
theorem maxOf_le : ∀ (r : List Int) (x : Int), x ≤ PySem.W.maxOf x r ∧ (∀ y ∈ r, y ≤ PySem.W.maxOf x r) ∧ (PySem.W.maxOf x r = x ∨ PySem.W.maxOf x r ∈ r)
  | [], x => ⟨Int.le_refl _, by simp, .inl rfl⟩
  | y :: r, x => by
    have e : PySem.W.maxOf x (y :: r) = PySem.W.maxOf (if PySem.W.DatumOrd.lt x y = true then y else x) r := rfl
    have hlt : PySem.W.DatumOrd.lt x y = decide (x < y) := rfl
    rw [e, hlt]
    by_cases h : x < y
    · rw [if_pos (by simpa using h)]
      obtain ⟨h1, h2, h3⟩ := maxOf_le r y
      refine ⟨by omega, fun z hz => ?_, .inr ?_⟩
      · rcases List.mem_cons.mp hz with rfl | hz
        · exact h1
        · exact h2 z hz
      · rcases h3 with h3 | h3
        · rw [h3]; exact List.mem_cons_self
        · exact List.mem_cons_of_mem _ h3
    · rw [if_neg (by simpa using h)]
      obtain ⟨h1, h2, h3⟩ := maxOf_le r x
      refine ⟨h1, fun z hz => ?_, ?_⟩
      · rcases List.mem_cons.mp hz with rfl | hz
        · omega
        · exact h2 z hz
      · rcases h3 with h3 | h3
        · exact .inl h3
        · exact .inr (List.mem_cons_of_mem _ h3)
def rMinDef (K : Fg) : List V → List V → Hp → VK → Prop := fun xs zs H Q => ∃ (a : Addr) (ns : List Int) (d : Int), xs = [.ref a] ∧ zs = [.int d] ∧ SqL K H a (ns.map V.int) ∧ Q (.int (minL d ns)) H
def rMaxDef (K : Fg) : List V → List V → Hp → VK → Prop := fun xs zs H Q => ∃ (a : Addr) (ns : List Int) (d : Int), xs = [.ref a] ∧ zs = [.int d] ∧ SqL K H a (ns.map V.int) ∧ Q (.int (maxL d ns)) H
section
variable {X : Cx}
theorem dp0 : PySem.W.Datum.depth Int = 0 := rfl
theorem cr_minDef (hc : X.calm = true) (hu : X.A.units + 64 < cLine) : CallRK X (.builtin "min") ["default"] (rMinDef X.K) := by
  intro pins s σ H xs zs us ws Q I r1 r2 h
  obtain ⟨a, ns, d, rfl, rfl, hs, q⟩ := h
  obtain ⟨its, rv, hl, _⟩ := I.list hs
  rw [Vals.ref1 r1]
  cases r2 with
  | cons rd r2 =>
    cases r2
    obtain ⟨t, rfl⟩ := rd
    have hi := rv.ints
    refine PySem.W.min_list_datum_default (α := Int) (xs := ns) (I.ok.hd hc) hl.isList ⟨_, PyProof.Rows.IntsAre.reads _ (by simpa using hi)⟩ (by rw [dp0]; omega) (fun e h' tk hk => ?_) (fun y ys i v h' tk e hv hh hk => ?_)
    · subst e
      exact ⟨.int d, H, I.kept hk, ⟨t, rfl⟩, q⟩
    · subst e
      obtain ⟨as, hr⟩ := hh
      obtain ⟨t', e, _⟩ := PyProof.Rows.reads_int_inv (n := PySem.W.minOf y ys) hr
      subst e
      exact ⟨.int _, H, I.kept hk, ⟨t', rfl⟩, q⟩
theorem cr_maxDef (hc : X.calm = true) (hu : X.A.units + 64 < cLine) : CallRK X (.builtin "max") ["default"] (rMaxDef X.K) := by
  intro pins s σ H xs zs us ws Q I r1 r2 h
  obtain ⟨a, ns, d, rfl, rfl, hs, q⟩ := h
  obtain ⟨its, rv, hl, _⟩ := I.list hs
  rw [Vals.ref1 r1]
  cases r2 with
  | cons rd r2 =>
    cases r2
    obtain ⟨t, rfl⟩ := rd
    have hi := rv.ints
    refine PySem.W.max_list_datum_default (α := Int) (xs := ns) (I.ok.hd hc) hl.isList ⟨_, PyProof.Rows.IntsAre.reads _ (by simpa using hi)⟩ (by rw [dp0]; omega) (fun e h' tk hk => ?_) (fun y ys i v h' tk e hv hh hk => ?_)
    · subst e
      exact ⟨.int d, H, I.kept hk, ⟨t, rfl⟩, q⟩
    · subst e
      obtain ⟨as, hr⟩ := hh
      obtain ⟨t', e, _⟩ := PyProof.Rows.reads_int_inv (n := PySem.W.maxOf y ys) hr
      subst e
      exact ⟨.int _, H, I.kept hk, ⟨t', rfl⟩, q⟩
/-! ### min of a list of data -/
/-- a list of (worth, line) -/
abbrev WL := Int × List Int
def rMinW (K : Fg) : List V → Hp → VK → Prop := fun vs H Q => ∃ (a : Addr) (ws : List V) (x : WL) (xs : List WL), vs = [.ref a] ∧ SqL K H a ws ∧ DpAll K H ws ((x :: xs).map PySem.W.Datum.toD) ∧
  ∀ (i : Nat) (v : V), ws[i]? = some v → (x :: xs)[i]? = some (PySem.W.minOf x xs) → Q v H
theorem vals_get : ∀ {vs : List V} {us : List Value} {i : Nat} {u : Value}, Vals vs us → us[i]? = some u → ∃ v, vs[i]? = some v ∧ RelV v u
  | _, _, _, _, .nil, h => by simp at h
  | _, _, 0, _, .cons r _, h => by simp at h; subst h; exact ⟨_, rfl, r⟩
  | _, _, i + 1, _, .cons _ t, h => by
    obtain ⟨v, h1, h2⟩ := vals_get (i := i) t (by simpa using h)
    exact ⟨v, by simpa using h1, h2⟩
theorem cr_minW (hc : X.calm = true) (hu : X.A.units + 64 < cLine) : CallR X (.builtin "min") (rMinW X.K) := by
  intro pins s σ H vs us Q I r h
  obtain ⟨a, ws, x, xs, rfl, hs, hd, q⟩ := h
  obtain ⟨its, rv, hl, _⟩ := I.list hs
  rw [Vals.ref1 r]
  obtain ⟨as, ra⟩ := Dp.readsAll I _ _ _ hd rv
  have dd : PySem.W.Datum.depth WL ≤ 8 := by decide
  refine PySem.W.min_list_datum (α := WL) (I.ok.hd hc) hl.isList ⟨as, ra⟩ (by omega) fun i v h' tk hv hh hk => ?_
  obtain ⟨w, hw, rw_⟩ := vals_get rv (by simpa using hv)
  obtain ⟨bs, hr⟩ := hh
  obtain ⟨cs, r2, hlt, _, _⟩ := PySem.W.readsAll_at ra i v (by simpa using hv)
  have e := (PyProof.Rows.reads_det (fun b o hb _ => hk b o hb) r2 hr).1
  have hlt : i < (x :: xs).length := by rw [List.length_map] at hlt; exact hlt
  have e2 : (x :: xs)[i]? = some (PySem.W.minOf x xs) := by
    rw [List.getElem?_eq_getElem hlt]
    congr 1
    have e3 : ((x :: xs).map PySem.W.Datum.toD).getD i .none = PySem.W.Datum.toD (x :: xs)[i] := by
      rw [List.getD_eq_getElem?_getD, List.getElem?_map, List.getElem?_eq_getElem hlt]; rfl
    rw [e3] at e
    have := PySem.W.Datum.eqv (x :: xs)[i] (PySem.W.minOf x xs)
    rw [← e, PySem.W.Datum.eqv] at this
    simpa using this
  exact ⟨w, H, I.kept hk, rw_, q i w hw e2⟩
end
section
variable {K : Fg} {ss : SS} {os : Own} {ta tb te tx : TE} {d x : Dt} {ds es : List Dt}
theorem ev_minDef {ns : List Int} {d0 : Int} (ha : Ev K ta ss os x) (l : LV os x (ns.map Dt.int)) (hb : Ev K tb ss os (.int d0)) : Ev K (tCKw (rMinDef K) (tCons ta tNil) (tCons tb tNil)) ss os (.int (minL d0 ns)) := fun σ G H R Q q => ha σ G H R _ fun v G1 H1 q1 e1 r1 => hb σ G1 H1 (R.grow q1 e1) _ fun w G2 H2 q2 e2 r2 => by
  cases r2
  obtain ⟨a, vs, rfl, hs, rs⟩ := ((R.grow q1 e1).grow q2 e2).list l (r1.mono q2.ex)
  have e := rs.to_ints
  subst e
  exact ⟨a, ns, d0, rfl, rfl, hs, q _ G2 H2 (q1.trans q2 (by simp)) e2 (.int _)⟩
theorem ev_maxDef {ns : List Int} {d0 : Int} (ha : Ev K ta ss os x) (l : LV os x (ns.map Dt.int)) (hb : Ev K tb ss os (.int d0)) : Ev K (tCKw (rMaxDef K) (tCons ta tNil) (tCons tb tNil)) ss os (.int (maxL d0 ns)) := fun σ G H R Q q => ha σ G H R _ fun v G1 H1 q1 e1 r1 => hb σ G1 H1 (R.grow q1 e1) _ fun w G2 H2 q2 e2 r2 => by
  cases r2
  obtain ⟨a, vs, rfl, hs, rs⟩ := ((R.grow q1 e1).grow q2 e2).list l (r1.mono q2.ex)
  have e := rs.to_ints
  subst e
  exact ⟨a, ns, d0, rfl, rfl, hs, q _ G2 H2 (q1.trans q2 (by simp)) e2 (.int _)⟩
def wlD (x : WL) : Dt := .tup [.int x.1, iL x.2]
theorem Ql.wl {n : Nat} (x : WL) : Ql (n + 2) (wlD x) (PySem.W.Datum.toD x) := .tup (.cons (.int _) (.cons (.iL _) .nil))
theorem Qls.wls {n : Nat} : ∀ xs : List WL, Qls (n + 2) (xs.map wlD) (xs.map PySem.W.Datum.toD)
  | [] => .nil
  | x :: r => .cons (.wl x) (Qls.wls r)
theorem ev_minW {y : WL} {ys : List WL} (ha : Ev K ta ss os x) (l : LV os x ((y :: ys).map wlD)) : Ev K (tCB (rMinW K) (tCons ta tNil)) ss os (wlD (PySem.W.minOf y ys)) := fun σ G H R Q q => ha σ G H R _ fun v G1 H1 q1 e1 r1 => by
  obtain ⟨a, vs, rfl, hs, rs⟩ := (R.grow q1 e1).list l r1
  refine ⟨a, vs, y, ys, rfl, hs, Qls.dp e1 (Qls.wls (n := 0) (y :: ys)) rs, fun i v hv he => ?_⟩
  obtain ⟨d, hd, rd⟩ := rs.get' hv
  rw [List.getElem?_map, he] at hd
  cases hd
  exact q v G1 H1 q1 e1 rd
/-- what the least of them is -/
theorem minW_spec : ∀ (ys : List WL) (y : WL), (PySem.W.minOf y ys = y ∨ PySem.W.minOf y ys ∈ ys) ∧ (PySem.W.minOf y ys).1 ≤ y.1 ∧ ∀ z ∈ ys, (PySem.W.minOf y ys).1 ≤ z.1
  | [], y => ⟨.inl rfl, Int.le_refl _, by simp⟩
  | z :: r, y => by
    have e : PySem.W.minOf y (z :: r) = PySem.W.minOf (if PySem.W.DatumOrd.lt z y = true then z else y) r := rfl
    rw [e]
    have hlt : PySem.W.DatumOrd.lt z y = if z.1 = y.1 then PySem.W.DatumOrd.lt z.2 y.2 else decide (z.1 < y.1) := rfl
    by_cases h : PySem.W.DatumOrd.lt z y = true
    · rw [if_pos h]
      have hzy : z.1 ≤ y.1 := by
        rw [hlt] at h
        by_cases e2 : z.1 = y.1
        · omega
        · rw [if_neg e2] at h
          have := of_decide_eq_true h
          omega
      obtain ⟨h1, h2, h3⟩ := minW_spec r z
      refine ⟨.inr ?_, by omega, fun w hw => ?_⟩
      · rcases h1 with h1 | h1
        · rw [h1]; exact List.mem_cons_self
        · exact List.mem_cons_of_mem _ h1
      · rcases List.mem_cons.mp hw with rfl | hw
        · exact h2
        · exact h3 w hw
    · rw [if_neg h]
      have hzy : y.1 ≤ z.1 := by
        rw [hlt] at h
        by_cases e2 : z.1 = y.1
        · omega
        · rw [if_neg e2] at h
          simp at h
          omega
      obtain ⟨h1, h2, h3⟩ := minW_spec r y
      refine ⟨?_, h2, fun w hw => ?_⟩
      · rcases h1 with h1 | h1
        · exact .inl h1
        · exact .inr (List.mem_cons_of_mem _ h1)
      · rcases List.mem_cons.mp hw with rfl | hw
        · omega
        · exact h3 w hw
/-! ### lists put together -/
theorem ef_cat {y : Dt} (ha : Ev K ta ss os x) (l : LV os x ds) (hb : Ev K tb ss os y) (l2 : LV os y es) (hns : ∀ ns, x ≠ .scr ns) (hns2 : ∀ ns, y ≠ .scr ns) (hz : ds.length + es.length ≤ 1000000) : EvF K (tOp rCat ta tb) ss os (ds ++ es) := fun σ G H R Q q => ha σ G H R _ fun v G1 H1 q1 e1 r1 => hb σ G1 H1 (R.grow q1 e1) _ fun w G2 H2 q2 e2 r2 => by
  have R2 := (R.grow q1 e1).grow q2 e2
  have key : ∀ {x : Dt} {ds : List Dt} {v : V}, LV os x ds → (∀ ns, x ≠ .scr ns) → Rp K G2 v x → ∃ a vs, v = .ref a ∧ H2 a = some (.lst vs) ∧ Rps K G2 vs ds := fun {x ds v} l hn r => by
    cases l with
    | lst =>
      cases r with
      | lst h1 h2 => exact ⟨_, _, rfl, e2 _ _ h1, h2⟩
    | own m =>
      cases r
      obtain ⟨_, vs, e, q⟩ := R2.ow.at_ _ m
      exact ⟨_, vs, rfl, e, q⟩
    | scr => exact (hn _ rfl).elim
  obtain ⟨a, vs, rfl, ha1, ra⟩ := key l hns (r1.mono q2.ex)
  obtain ⟨b, ws, rfl, hb1, rb⟩ := key l2 hns2 r2
  refine ⟨a, b, vs, ws, rfl, rfl, ha1, hb1, by rw [ra.length, rb.length]; exact sz _ hz, fun p hp => ?_⟩
  obtain ⟨q3, e3⟩ := gq_own (fp := []) (o := .lst (vs ++ ws)) e2 hp
  have q12 := q1.trans q2 (by simp)
  exact q p (vs ++ ws) G2 _ (q12.dom p hp) (q12.trans q3 (by simp)) e3 (Evl.fresh_back e2 hp) upd_same (ra.append rb)
/-- [e] * n -/
theorem ef_rep1 {n : Int} {z : Dt} (ha : Ev K ta ss os (.lst [z])) (hb : Ev K tb ss os (.int n)) (h0 : 0 ≤ n) (hz : n ≤ 100000) : EvF K (tOp rRep ta tb) ss os (List.replicate n.toNat z) := fun σ G H R Q q => ha σ G H R _ fun v G1 H1 q1 e1 r1 => hb σ G1 H1 (R.grow q1 e1) _ fun w G2 H2 q2 e2 r2 => by
  cases r2
  cases r1 with
  | lst h1 h2 =>
    cases h2 with
    | cons h3 h4 =>
      cases h4
      rename_i a v
      refine ⟨a, n, [v], rfl, rfl, e2 _ _ (q2.ex _ _ h1), by omega, by omega, sz _ (by simp; omega), fun p hp => ?_⟩
      obtain ⟨q3, e3⟩ := gq_own (fp := []) (o := .lst (List.replicate n.toNat [v]).flatten) e2 hp
      have q12 := q1.trans q2 (by simp)
      refine q p _ G2 _ (q12.dom p hp) (q12.trans q3 (by simp)) e3 (Evl.fresh_back e2 hp) upd_same ?_
      have e4 : ∀ k : Nat, (List.replicate k [v]).flatten = List.replicate k v := fun k => by
        induction k with
        | zero => rfl
        | succ k ih => rw [List.replicate_succ, List.flatten_cons, ih, List.replicate_succ]; rfl
      rw [e4]
      exact Rps.repl (h3.mono q2.ex) _
end
end Cy

namespace Cy
open PySem L2
local macro_rules | `(tactic| walk_at "lv") => `(tactic| first | exact LV.lst | exact LV.scr | exact LV.own List.mem_cons_self | exact LV.own (List.mem_cons_of_mem _ List.mem_cons_self) | exact LV.own (List.mem_cons_of_mem _ (List.mem_cons_of_mem _ List.mem_cons_self)) | exact LV.own (List.mem_cons_of_mem _ (List.mem_cons_of_mem _ (List.mem_cons_of_mem _ List.mem_cons_self))))
local macro_rules | `(tactic| walk_at "at") => `(tactic| first | exact at_mapN (by assumption) | exact at_map (by omega) (by assumption) | rfl | exact at_of (by omega) (by assumption))
local macro_rules | `(tactic| walk_at "side") => `(tactic| first | assumption | omega | decide)
local macro_rules | `(tactic| walk_at "ea") => `(tactic| first | exact ea_nil | (apply ea_cons; walk_at "ev"; walk_at "ea"))
local macro_rules | `(tactic| walk_at "et") => `(tactic| first
  | exact et_yes
  | (apply et_B; walk_at "ev")
  | (apply et_T; walk_at "ev")
  | (apply et_not; walk_at "et"))
local macro_rules | `(tactic| walk_at "ev") => `(tactic| first
  | exact ev_var rfl
  | exact ev_cint | exact ev_cbl | exact ev_cstr | exact ev_cnon
  | (apply ev_ii; walk_at "ev"; walk_at "ev")
  | (apply ev_ib; walk_at "ev"; walk_at "ev")
  | (apply ev_eqI; walk_at "ev"; walk_at "ev")
  | (apply ev_neI; walk_at "ev"; walk_at "ev")
  | (apply ev_ixL; walk_at "ev"; walk_at "lv"; walk_at "ev"; walk_at "at")
  | (apply ev_ixT; walk_at "ev"; walk_at "ev"; walk_at "at")
  | (apply ev_len; walk_at "ev"; walk_at "lv")
  | (apply ev_lenT; walk_at "ev")
  | (apply ev_min2; walk_at "ev"; walk_at "ev")
  | (apply ev_max2; walk_at "ev"; walk_at "ev")
  | (apply ev_tup; walk_at "ea"; (first | decide | simp | skip))
  | (apply ev_iC; walk_at "ev"; walk_at "ev"; walk_at "cond")
  | (apply ev_fldI; walk_at "cls"; walk_at "cls"; walk_at "ev"; walk_at "iv"; rfl; rfl; rfl)
  | (apply ev_F; walk_at "ef")
  | walk_at "call")
local macro_rules | `(tactic| walk_at "ef") => `(tactic| first
  | (apply ef_list; walk_at "ev"; walk_at "lv")
  | (apply ef_lst; walk_at "ea"; (first | decide | simp | skip)))
local macro_rules | `(tactic| walk_at "iv") => `(tactic| first | exact IV.ins | exact IV.own List.mem_cons_self | exact IV.own (List.mem_cons_of_mem _ List.mem_cons_self) | exact IV.own (List.mem_cons_of_mem _ (List.mem_cons_of_mem _ List.mem_cons_self)) | exact IV.own (List.mem_cons_of_mem _ (List.mem_cons_of_mem _ (List.mem_cons_of_mem _ List.mem_cons_self))))
local macro_rules | `(tactic| walk_at "cond") => `(tactic| first | exact Or.inr (by decide) | exact Or.inl (by decide) | (exact ⟨by decide, by decide⟩) | (show (0 : Int) < _; first | decide | assumption | omega))
local macro_rules | `(tactic| walk_at "cls") => `(tactic| first | assumption | exact YardF.cls (by assumption) | exact YardF.sizes (by assumption) | exact YardF.held (by assumption))
local macro_rules | `(tactic| walk_at "call") => `(tactic| fail "no call")
local macro_rules | `(tactic| walk_at "at") => `(tactic| first | exact at_getD (by first | assumption | omega) | exact at_day (by first | assumption | omega) | rfl)
local macro_rules | `(tactic| walk_at "call") => `(tactic| (apply ev_drawn; walk_at "ev"; walk_at "ev"; walk_at "ev"; walk_at "side"))
/-- what a list of days and a line are told -/
def seeR (A : Ad) (n : Nat) (days : List Day) (line : List Int) (d : Dt) : Res := if daysOk n days = true then (if lineOk n days.length line = true then .ok d else .er A.BadLine) else .er A.BadDays
def c_see_line (A : Ad) : Ct := pureC (α := List Int × Dt × List Day × List Int) (fun _ => True) (fun x => [yd A x.1 x.2.1, daysD x.2.2.1, iL x.2.2.2]) fun x => seeR A x.1.length x.2.2.1 x.2.2.2 .non
def rd_see_line (K : Fg) (A : Ad) (E : XK) : TS :=
  tSeq (tDrop (tCall (spC K 2 (c_see_days A)) [] E (tCons (tVar 0) (tCons (tVar 1) (tNil))))) 
      (tSeq (tIfS (tTest (tOp (rNe) (tCB (Evl.rLenS K) (tCons (tVar 2) (tNil))) (tCB (Evl.rLenS K) (tCons (tVar 1) (tNil))))) (tRaise E A.BadLine) (tNext)) 
      (tFor (iList K (tVar 2)) (gName 3) 
        (tIfS (tOr (tTest (tOp (rI0 fun i j => V.bl (decide (i < j))) (tVar 3) (tC (V.int 0)))) (tTest (tOp (rI0 fun i j => V.bl (decide (j < i))) (tVar 3) (tCB (Evl.rLenS K) (tCons (tFld K (tVar 0) "sizes") (tNil)))))) (tRaise E A.BadLine) (tNext))))
theorem sem_see_line {K : Fg} {A : Ad} (Y : YardF K A) : ∀ vs H Q E, spC K 3 (c_see_line A) vs H Q E → rd_see_line K A E { nx := fun _ H' => Q .non H', rt := Q } (start ["yard", "days", "line", "first"] vs) H :=
  body_okX fun ds os P E hl hc B D hfp hR hE hN => by
    obtain ⟨⟨rooms, x, days, line⟩, _, rfl, rfl, rfl⟩ := hc
    refine q_callX (ds := [yd A rooms x, daysD days]) (osp := []) (osr := []) (by walk_at "ea") rfl (List.Perm.refl _) ⟨(rooms, x, days), trivial, rfl, rfl, rfl⟩ (fun d os1 h => ?_) (fun C os1 h => ?_)
    case refine_2 =>
      obtain ⟨h, rfl⟩ := h
      have h : Res.er C = if daysOk rooms.length days then Res.ok .non else .er A.BadDays := h
      refine hE.xt ⟨?_, rfl⟩
      show _ = seeR A rooms.length days line .non
      unfold seeR
      cases e : daysOk rooms.length days with
      | true => rw [e] at h; cases h
      | false => rw [e] at h; cases h; rfl
    obtain ⟨h, rfl⟩ := h
    have hd : daysOk rooms.length days = true := by
      cases e : daysOk rooms.length days with
      | true => rfl
      | false =>
        have h : Res.ok d = if daysOk rooms.length days then Res.ok .non else .er A.BadDays := h
        rw [e] at h; cases h
    have bad : ¬ lineOk rooms.length days.length line = true → ∀ {B' os}, B.Le B' → os = [] → Xt K B' E A.BadLine os := fun h B' os le eo => (hE.up le).xt ⟨by show _ = seeR A rooms.length days line .non; unfold seeR; rw [if_pos hd, if_neg h], eo⟩
    refine q_when (by walk_at "et") (fun hb => do_raise (bad (fun h => ?_) (Bs.Le.refl _) rfl)) (fun hb => ?_)
    · have := (lineOk_iff.mp h).1
      simp at hb
      omega
    have hlen : line.length = days.length := by simp at hb; omega
    refine do_forM (xs := line) (f0 := Dt.int) (ev_var rfl) (fun i ss os => (∃ o, ss = [some (yd A rooms x), some (daysD days), some (iL line), o]) ∧ os = [] ∧ ∀ z ∈ line.take i, 0 ≤ z ∧ z ≤ (rooms.length : Int)) ⟨⟨_, rfl⟩, rfl, by simp⟩ (fun B1 hB i z ss os hz hI => ?_) (fun ss os hI => ?_)
    · obtain ⟨⟨o, rfl⟩, rfl, hx⟩ := hI
      refine ⟨_, tg_name, do_if (et_or (by walk_at "et") fun _ => by walk_at "et") (fun hb => do_raise (bad (fun h => ?_) hB rfl)) (fun hb => ?_)⟩
      · have := (lineOk_iff.mp h).2 z (List.mem_of_getElem? hz)
        simp at hb
        omega
      · refine do_nx (nx_at ⟨⟨_, rfl⟩, rfl, fun y hm => ?_⟩)
        rw [List.take_add_one, hz] at hm
        rcases List.mem_append.mp hm with hm | hm
        · exact hx y hm
        · have : y = z := by simpa using hm
          subst this
          simp at hb
          omega
    · obtain ⟨⟨o, rfl⟩, rfl, hx⟩ := hI
      rw [List.take_length] at hx
      refine hN _ (Bs.Le.refl _) _ _ ⟨?_, rfl⟩
      show _ = seeR A rooms.length days line .non
      unfold seeR
      rw [if_pos hd, if_pos (lineOk_iff.mpr ⟨hlen, hx⟩)]
def c_step_in (A : Ad) : Ct := pureC (α := List Int × Dt × Int × Int) (fun x => x.1.length ≤ 4) (fun x => [yd A x.1 x.2.1, .int x.2.2.1, .int x.2.2.2]) fun x => .ok (.int (stepIn x.1 x.2.2.1 x.2.2.2))
def rd_step_in (K : Fg) (A : Ad) : TS :=
  tRet (tCB (rSum K) (tCons (tLc (iRng1 (tCons (tCB (Evl.rLenS K) (tCons (tFld K (tVar 0) "sizes") (tNil))) (tNil))) (gName 3) (tAnd (tTest (tOp (rI0 fun i j => V.bl (decide (i ≤ j))) (tVar 1) (tVar 3))) (tTest (tOp (rI0 fun i j => V.bl (decide (i < j))) (tVar 3) (tVar 2)))) (tOp (rIxL K) (tFld K (tVar 0) "sizes") (tVar 3)) ([3] : List Nat)) (tNil)))
theorem sem_step_in {K : Fg} {A : Ad} (Y : YardF K A) : ∀ vs H Q E, spC K 3 (c_step_in A) vs H Q E → rd_step_in K A { nx := fun _ H' => Q .non H', rt := Q } (start ["yard", "before", "first", "k"] vs) H :=
  body_ok fun ds os P hl hc B D hfp hR hN => by
    obtain ⟨⟨rooms, x, b, f⟩, h4, rfl, rfl, rfl⟩ := hc
    have h4 : rooms.length ≤ 4 := h4
    refine do_ret (d := .int (stepIn rooms b f)) (ev_sum (x := .lst (((List.range rooms.length).filter fun (k : Nat) => decide (b ≤ (k : Int)) && decide ((k : Int) < f)).map fun k => .int (rooms.getD k 0))) (ev_F ?_) ?_) (hR.rt ⟨rfl, rfl⟩)
    · have := ef_lcR1 (K := K) (n := (rooms.length : Int)) (ss := [some (yd A rooms x), some (.int b), some (.int f), none]) (os := []) (g := gName 3) (tt := tAnd (tTest (tOp (rI0 fun i j => V.bl (decide (i ≤ j))) (tVar 1) (tVar 3))) (tTest (tOp (rI0 fun i j => V.bl (decide (i < j))) (tVar 3) (tVar 2)))) (te := tOp (rIxL K) (tFld K (tVar 0) "sizes") (tVar 3)) (vs := [3]) (ta := tCons (tCB (Evl.rLenS K) (tCons (tFld K (tVar 0) "sizes") (tNil))) (tNil))
        (fun (k : Nat) => decide (b ≤ (k : Int)) && decide ((k : Int) < f)) (fun k => .int (rooms.getD k 0)) (ea_cons (ev_is (by walk_at "ev") (by rw [List.length_map])) ea_nil) (by omega) (by omega) (fun i hi => ⟨_, tw_name, et_and (by walk_at "et") (fun _ => by walk_at "et"), fun _ => ev_ixL (by walk_at "ev") LV.lst (ev_var rfl) (at_getD (by omega))⟩)
      rw [Int.toNat_natCast] at this
      exact this
    · have e : (((List.range rooms.length).filter fun (k : Nat) => decide (b ≤ (k : Int)) && decide ((k : Int) < f)).map fun k => Dt.int (rooms.getD k 0)) = (((List.range rooms.length).filter fun (k : Nat) => decide (b ≤ (k : Int)) && decide ((k : Int) < f)).map fun k => rooms.getD k 0).map Dt.int := by rw [List.map_map]; rfl
      rw [e]
      exact LV.lst
def c_rain_above (A : Ad) : Ct := pureC (α := List Int × List Int × List Day × Nat × Nat) (fun x => x.2.2.2.1 < x.2.2.1.length) (fun x => [yardD A x.1 x.2.1, daysD x.2.2.1, .int x.2.2.2.1, .int x.2.2.2.2]) fun x => .ok (.int (rainAb x.2.1 x.2.2.1 x.2.2.2.1 x.2.2.2.2))
theorem cut_ints {xs : List Int} {f : Nat} : cutD (xs.map Dt.int) none (some (f : Int)) = (xs.take f).map Dt.int := by
  rw [cutD_to _ (by omega), Int.toNat_natCast, List.map_take]
def rd_rain_above (K : Fg) (A : Ad) : TS :=
  tSeq (tAsg (tCB (rSum K) (tCons (tSl (rSlL K) (tOp (rIxT K) (tOp (rIxL K) (tVar 1) (tVar 2)) (tC (V.int 0))) (tNoPart) (tPart (tVar 3))) (tNil))) (gName 4)) 
      (Evl.tCut (tIfS (tTest (tOp (rEq) (tVar 2) (tC (V.int 0)))) (tAsg (tOp (rI0 fun i j => V.int (i + j)) (tVar 4) (tCB (rSum K) (tCons (tSl (rSlL K) (tFld K (tVar 0) "held") (tNoPart) (tPart (tVar 3))) (tNil)))) (gName 4)) (tNext)) 
      (tRet (tVar 4)))
theorem sem_rain_above {K : Fg} {A : Ad} (Y : YardF K A) : ∀ vs H Q E, spC K 4 (c_rain_above A) vs H Q E → rd_rain_above K A { nx := fun _ H' => Q .non H', rt := Q } (start ["yard", "days", "number", "first", "fallen"] vs) H :=
  body_ok fun ds os P hl hc B D hfp hR hN => by
    obtain ⟨⟨rooms, held, days, n, f⟩, hn, rfl, rfl, rfl⟩ := hc
    have hn : n < days.length := hn
    refine q_asg (d := .int ((days.getD n ([], [])).1.take f).sum) (ev_sum (ev_F (ef_sl (ev_ixT (ev_ixL (ev_var rfl) LV.lst (ev_var rfl) (at_day hn)) ev_cint rfl) LV.lst eo_none (eo_some (ev_var rfl)))) (by rw [cut_ints]; exact LV.lst)) ?_
    refine do_cut (fun ss os => ss = [some (yardD A rooms held), some (daysD days), some (.int (n : Int)), some (.int (f : Int)), some (.int (rainAb held days n f))] ∧ os = []) (do_if (by walk_at "et") (fun hb => ?_) (fun hb => ?_)) ?_
    · have hn0 : n = 0 := by simpa using hb
      refine do_asg (d := .int (rainAb held days n f)) (ev_is (ev_ii (ev_var rfl) (ev_sum (ns := held.take f) (ev_F (ef_sl (by walk_at "ev") LV.lst eo_none (eo_some (ev_var rfl)))) (by rw [cut_ints]; exact LV.lst))) ?_) (nx_at ⟨rfl, rfl⟩)
      unfold rainAb
      rw [if_pos hn0]
    · have hn0 : n ≠ 0 := by simpa using hb
      refine do_nx (nx_at ⟨?_, rfl⟩)
      have : rainAb held days n f = ((days.getD n ([], [])).1.take f).sum := by
        unfold rainAb
        rw [if_neg hn0]; simp
      rw [this]
      rfl
    · rintro ss os ⟨rfl, rfl⟩
      exact do_ret (ev_var rfl) (hR.rt ⟨rfl, rfl⟩)
/-- yards and days that go together -/
structure YD (rooms held : List Int) (days : List Day) : Prop where
  len : held.length = rooms.length
  four : rooms.length ≤ 4
  eight : days.length ≤ 8
  row : ∀ n, n < days.length → (days.getD n ([], [])).1.length = rooms.length ∧ (days.getD n ([], [])).2.length = rooms.length
theorem yd_of {rooms held : List Int} {days : List Day} (h : held.length = rooms.length) (h4 : rooms.length ≤ 4) (hd : daysOk rooms.length days = true) : YD rooms held days := by
  obtain ⟨h8, hdo⟩ := daysOk_iff.mp hd
  exact ⟨h, h4, h8, fun n hn => by
    have := hdo _ (List.mem_of_getElem? (getDay hn))
    exact ⟨lOk_len (dayOk_iff.mp this).1, lOk_len (dayOk_iff.mp this).2⟩⟩
theorem seeR_cases {A : Ad} {n : Nat} {days : List Day} {line : List Int} {d : Dt} {r : Res} (h : r = seeR A n days line .non) : (daysOk n days = true ∧ lineOk n days.length line = true ∧ r = .ok .non ∧ seeR A n days line d = .ok d) ∨ (∃ C, r = .er C ∧ seeR A n days line d = .er C) := by
  unfold seeR at h ⊢
  by_cases h1 : daysOk n days = true
  · rw [if_pos h1] at h ⊢
    by_cases h2 : lineOk n days.length line = true
    · rw [if_pos h2] at h ⊢
      exact .inl ⟨h1, h2, h, rfl⟩
    · rw [if_neg h2] at h ⊢
      exact .inr ⟨_, h, rfl⟩
  · rw [if_neg h1] at h ⊢
    exact .inr ⟨_, h, rfl⟩
def c_water_above (A : Ad) : Ct := pureC (α := List Int × List Int × List Day × List Int) (fun x => x.2.1.length = x.1.length ∧ x.1.length ≤ 4) (fun x => [yardD A x.1 x.2.1, daysD x.2.2.1, iL x.2.2.2]) fun x => seeR A x.1.length x.2.2.1 x.2.2.2 (.int (waterAb x.1 x.2.1 x.2.2.1 (lN x.2.2.2) x.2.2.1.length))
def rd_water_above (K : Fg) (A : Ad) (E : XK) : TS :=
  tSeq (tDrop (tCall (spC K 3 (c_see_line A)) [] E (tCons (tVar 0) (tCons (tVar 1) (tCons (tVar 2) (tNil)))))) 
      (tSeq (tAsg (tC (V.int 0)) (gName 3)) 
      (tSeq (tFor (iRng1 (tCons (tCB (Evl.rLenS K) (tCons (tVar 2) (tNil))) (tNil))) (gName 4) 
        (tSeq (tAsg (tOp (rI0 fun i j => V.int (i + j)) (tVar 3) (tCall (spC K 4 (c_rain_above A)) [] E0 (tCons (tVar 0) (tCons (tVar 1) (tCons (tVar 4) (tCons (tOp (rIxL K) (tVar 2) (tVar 4)) (tNil))))))) (gName 3)) 
        (tIfS (tTest (tOp (rI0 fun i j => V.bl (decide (j < i))) (tVar 4) (tC (V.int 0)))) (tAsg (tOp (rI0 fun i j => V.int (i + j)) (tVar 3) (tCall (spC K 3 (c_step_in A)) [] E0 (tCons (tVar 0) (tCons (tOp (rIxL K) (tVar 2) (tOp (rI0 fun i j => V.int (i - j)) (tVar 4) (tC (V.int 1)))) (tCons (tOp (rIxL K) (tVar 2) (tVar 4)) (tNil)))))) (gName 3)) (tNext)))) 
      (tRet (tVar 3))))
theorem sem_water_above {K : Fg} {A : Ad} (Y : YardF K A) : ∀ vs H Q E, spC K 3 (c_water_above A) vs H Q E → rd_water_above K A E { nx := fun _ H' => Q .non H', rt := Q } (start ["yard", "days", "line", "total", "number"] vs) H :=
  body_okX fun ds os P E hl hc B D hfp hR hE hN => by
    obtain ⟨⟨rooms, held, days, line⟩, ⟨hh, h4⟩, rfl, rfl, rfl⟩ := hc
    have hh : held.length = rooms.length := hh
    have h4 : rooms.length ≤ 4 := h4
    refine q_callX (ds := [yardD A rooms held, daysD days, iL line]) (osp := []) (osr := []) (by walk_at "ea") rfl (List.Perm.refl _) ⟨(rooms, iL held, days, line), trivial, rfl, rfl, rfl⟩ (fun d os1 h => ?_) (fun C os1 h => ?_)
    case refine_2 =>
      obtain ⟨h, rfl⟩ := h
      rcases seeR_cases (d := .int (waterAb rooms held days (lN line) days.length)) h with ⟨_, _, z, _⟩ | ⟨C', z, z2⟩
      · cases z
      · cases z
        exact hE.xt ⟨z2.symm, rfl⟩
    obtain ⟨h, rfl⟩ := h
    rcases seeR_cases (d := .int (waterAb rooms held days (lN line) days.length)) h with ⟨hd, hln, _, hres⟩ | ⟨C', z, _⟩
    case inr => cases z
    have yd : YD rooms held days := yd_of hh h4 hd
    have h8 : days.length ≤ 8 := yd.eight
    have hln : lineOk rooms.length days.length line = true := hln
    have hlen : line.length = days.length := (lineOk_iff.mp hln).1
    refine q_asg ev_cint ?_
    refine q_forR (n := (days.length : Int)) (ea_cons (ev_is (by walk_at "ev") (by rw [List.length_map, hlen])) ea_nil) (by omega) (by omega) (fun i ss os => (∃ o, ss = [some (yardD A rooms held), some (daysD days), some (iL line), some (.int (waterAb rooms held days (lN line) i)), o]) ∧ os = []) ⟨⟨_, rfl⟩, rfl⟩ (fun i ss os hi hI => ?_) (fun ss os hI => ?_)
    · obtain ⟨⟨o, rfl⟩, rfl⟩ := hI
      have hi : i < days.length := by omega
      have hil : i < line.length := by omega
      obtain ⟨e1, e2⟩ := lN_int hln hi
      have hrow := yd.row i hi
      have ew : waterAb rooms held days (lN line) (i + 1) = waterAb rooms held days (lN line) i + sumTo (abv rooms held days (lN line (i - 1)) i) (lN line i) := rfl
      have hx : ∀ {ss : SS}, ss[2]? = some (some (iL line)) → ss[4]? = some (some (.int (i : Int))) → Ev K (tOp (rIxL K) (tVar 2) (tVar 4)) ss [] (.int (lN line i : Int)) := fun h1 h2 => ev_ixL (ev_var h1) LV.lst (ev_var h2) (by rw [at_getD hil, e1])
      refine q_asg (ev_ii (ev_var rfl) (ev_call (rooms, held, days, i, lN line i) (ea_cons (ev_var rfl) (ea_cons (ev_var rfl) (ea_cons (ev_var rfl) (ea_cons (hx rfl rfl) ea_nil)))) rfl hi rfl)) ?_
      refine do_if (by walk_at "et") (fun hb => ?_) (fun hb => ?_)
      · have hn0 : i ≠ 0 := by simp at hb; omega
        obtain ⟨e3, e4⟩ := lN_int hln (show i - 1 < days.length by omega)
        refine do_asg (ev_ii (ev_var rfl) (ev_call (rooms, iL held, (lN line (i - 1) : Int), (lN line i : Int)) (ea_cons (ev_var rfl) (ea_cons (ev_ixL (ev_var rfl) LV.lst (ev_is (ev_ii (ev_var rfl) ev_cint) (show Dt.int ((i : Int) - 1) = Dt.int ((i - 1 : Nat) : Int) by congr 1; omega)) (by rw [at_getD (show i - 1 < line.length by omega), e3])) (ea_cons (hx rfl rfl) ea_nil))) rfl h4 rfl)) (nx_at ⟨⟨some (.int (i : Int)), ?_⟩, rfl⟩)
        rw [ew, ← rainAb_succ hn0 hrow.1 e2, ← Int.add_assoc]
        rfl
      · have hn0 : i = 0 := by simp at hb; omega
        subst hn0
        refine do_nx (nx_at ⟨⟨some (.int ((0 : Nat) : Int)), ?_⟩, rfl⟩)
        rw [ew, ← rainAb_zero hrow.1 hh e2]
        rfl
    · obtain ⟨⟨o, rfl⟩, rfl⟩ := hI
      exact do_ret (ev_var rfl) (hR.rt ⟨hres.symm, rfl⟩)
def c_wishes_above (A : Ad) : Ct := pureC (α := List Int × Dt × List Day × List Int) (fun x => x.1.length ≤ 4) (fun x => [yd A x.1 x.2.1, daysD x.2.2.1, iL x.2.2.2]) fun x => seeR A x.1.length x.2.2.1 x.2.2.2 (.int (wishAb x.2.2.1 (lN x.2.2.2) x.2.2.1.length))
def rd_wishes_above (K : Fg) (A : Ad) (E : XK) : TS :=
  tSeq (tDrop (tCall (spC K 3 (c_see_line A)) [] E (tCons (tVar 0) (tCons (tVar 1) (tCons (tVar 2) (tNil)))))) 
      (tRet (tCB (rSum K) (tCons (tLc (iRng1 (tCons (tCB (Evl.rLenS K) (tCons (tVar 2) (tNil))) (tNil))) (gName 3) (tYes) (tCB (rSum K) (tCons (tSl (rSlL K) (tOp (rIxT K) (tOp (rIxL K) (tVar 1) (tVar 3)) (tC (V.int 1))) (tNoPart) (tPart (tOp (rIxL K) (tVar 2) (tVar 3)))) (tNil))) ([3] : List Nat)) (tNil))))
theorem sem_wishes_above {K : Fg} {A : Ad} : ∀ vs H Q E, spC K 3 (c_wishes_above A) vs H Q E → rd_wishes_above K A E { nx := fun _ H' => Q .non H', rt := Q } (start ["yard", "days", "line", "number"] vs) H :=
  body_okX fun ds os P E hl hc B D hfp hR hE hN => by
    obtain ⟨⟨rooms, x, days, line⟩, h4, rfl, rfl, rfl⟩ := hc
    have h4 : rooms.length ≤ 4 := h4
    refine q_callX (ds := [yd A rooms x, daysD days, iL line]) (osp := []) (osr := []) (by walk_at "ea") rfl (List.Perm.refl _) ⟨(rooms, x, days, line), trivial, rfl, rfl, rfl⟩ (fun d os1 h => ?_) (fun C os1 h => ?_)
    case refine_2 =>
      obtain ⟨h, rfl⟩ := h
      rcases seeR_cases (d := .int (wishAb days (lN line) days.length)) h with ⟨_, _, z, _⟩ | ⟨C', z, z2⟩
      · cases z
      · cases z
        exact hE.xt ⟨z2.symm, rfl⟩
    obtain ⟨h, rfl⟩ := h
    rcases seeR_cases (d := .int (wishAb days (lN line) days.length)) h with ⟨hd, hln, _, hres⟩ | ⟨C', z, _⟩
    case inr => cases z
    have yd : YD rooms rooms days := yd_of (held := rooms) rfl h4 hd
    have h8 : days.length ≤ 8 := yd.eight
    have hln : lineOk rooms.length days.length line = true := hln
    have hlen : line.length = days.length := (lineOk_iff.mp hln).1
    have es : wishAb days (lN line) days.length = ((List.range days.length).map fun n => ((days.getD n ([], [])).2.take (lN line n)).sum).sum := by
      rw [sum_range]
      unfold wishAb
      exact sumTo_congr fun n hn => (take_sum (by rw [(yd.row n hn).2]; exact (lN_int hln hn).2)).symm
    refine do_ret (d := .int (wishAb days (lN line) days.length)) (ev_is (ev_sum (ns := (List.range (days.length : Int).toNat).map fun n => ((days.getD n ([], [])).2.take (lN line n)).sum) (ev_F (ef_mapRi (n := (days.length : Int)) (fun n => ((days.getD n ([], [])).2.take (lN line n)).sum) (ea_cons (ev_is (by walk_at "ev") (by rw [List.length_map, hlen])) ea_nil) (by omega) (by omega) fun i hi => ⟨_, tw_name, ?_⟩)) LV.lst) ?_) (hR.rt ⟨hres.symm, rfl⟩)
    · have hi : i < days.length := by omega
      obtain ⟨e1, e2⟩ := lN_int hln hi
      exact ev_sum (ev_F (ef_sl (ev_ixT (ev_ixL (ev_var rfl) LV.lst (ev_var rfl) (at_day hi)) ev_cint rfl) LV.lst eo_none (eo_some (ev_ixL (ev_var rfl) LV.lst (ev_var rfl) (by rw [at_getD (show i < line.length by omega), e1]))))) (by rw [cut_ints]; exact LV.lst)
    · rw [Int.toNat_natCast, es]
end Cy

namespace Cy
/-! the least line -/
section
variable (rooms held : List Int) (days : List Day) (top under : Int)
def stepC (n b f : Nat) : Int := under * sumTo (abv rooms held days b n) f - top * sumTo (ws days n) f
def cost (L : Nat → Nat) (N : Nat) : Int := sumTo (fun n => stepC rooms held days top under n (L (n - 1)) (L n)) N
theorem cost_eq (L : Nat → Nat) (N : Nat) : cost rooms held days top under L N = under * waterAb rooms held days L N - top * wishAb days L N := by
  unfold cost waterAb wishAb
  rw [← sumTo_mul, ← sumTo_mul]
  have : ∀ n, sumTo (fun n => stepC rooms held days top under n (L (n - 1)) (L n)) n + sumTo (fun n => top * sumTo (ws days n) (L n)) n = sumTo (fun n => under * sumTo (abv rooms held days (L (n - 1)) n) (L n)) n := fun n => by
    rw [← sumTo_add]
    refine sumTo_congr fun k _ => ?_
    unfold stepC
    omega
  have := this N
  omega
/-- the best line of n days that ends at f -/
structure El (n f : Nat) (w : Int × List Int) : Prop where
  ok : lineOk rooms.length n w.2 = true
  end_ : lN w.2 (n - 1) = f
  worth : w.1 = cost rooms held days top under (lN w.2) n
  least : ∀ L : Nat → Nat, (∀ i, i < n → L i ≤ rooms.length) → L (n - 1) = f → w.1 ≤ cost rooms held days top under L n
end
section
variable {rooms held : List Int} {days : List Day} {top under : Int}
theorem cost_congr {L M : Nat → Nat} {N : Nat} (h : ∀ i, i < N → L i = M i) : cost rooms held days top under L N = cost rooms held days top under M N := by
  unfold cost
  refine sumTo_congr fun n hn => ?_
  rw [h n hn, h (n - 1) (by omega)]
theorem lN_snoc {l : List Int} {f : Nat} {i : Nat} (h : i < l.length) : lN (l ++ [(f : Int)]) i = lN l i := by
  unfold lN
  rw [getD_snoc, if_neg (by omega)]
theorem lN_last {l : List Int} {f : Nat} : lN (l ++ [(f : Int)]) l.length = f := by
  unfold lN
  rw [getD_snoc, if_pos rfl]
  exact Int.toNat_natCast f
theorem lineOk_snoc {m n : Nat} {l : List Int} {f : Nat} (h : lineOk m n l = true) (hf : f ≤ m) : lineOk m (n + 1) (l ++ [(f : Int)]) = true := by
  obtain ⟨h1, h2⟩ := lineOk_iff.mp h
  refine lineOk_iff.mpr ⟨by simp [h1], fun x hx => ?_⟩
  rcases List.mem_append.mp hx with hx | hx
  · exact h2 x hx
  · have : x = (f : Int) := by simpa using hx
    omega
theorem El.first {f : Nat} (hf : f ≤ rooms.length) (hr : (days.getD 0 ([], [])).1.length = rooms.length) (hw : (days.getD 0 ([], [])).2.length = rooms.length) (hh : held.length = rooms.length) :
    El rooms held days top under 1 f (under * rainAb held days 0 f - top * ((days.getD 0 ([], [])).2.take f).sum, [(f : Int)]) := by
  have e : ∀ b, under * rainAb held days 0 f - top * ((days.getD 0 ([], [])).2.take f).sum = stepC rooms held days top under 0 b f := fun b => by
    unfold stepC
    rw [rainAb_zero (b := b) hr hh hf, take_sum (by omega)]
  have l0 : lN [(f : Int)] 0 = f := by unfold lN; simp
  refine ⟨lineOk_snoc (l := []) (n := 0) (lineOk_iff.mpr ⟨rfl, by simp⟩) hf, l0, ?_, fun L hL hf2 => ?_⟩
  · show _ = 0 + stepC rooms held days top under 0 (lN [(f : Int)] (0 - 1)) (lN [(f : Int)] 0)
    rw [l0, ← e]
    exact (Int.zero_add _).symm
  · show _ ≤ 0 + stepC rooms held days top under 0 (L (0 - 1)) (L 0)
    have hf2 : L 0 = f := hf2
    rw [hf2, ← e]
    exact Int.le_of_eq (Int.zero_add _).symm
theorem El.step {n f k0 : Nat} {cs : List (Int × List Int)} {wls : List (Int × List Int)} {m : Int × List Int} (hn : 0 < n) (hf : f ≤ rooms.length) (hr : (days.getD n ([], [])).1.length = rooms.length) (hw : (days.getD n ([], [])).2.length = rooms.length)
    (hB : ∀ k, k ≤ rooms.length → El rooms held days top under n k (wls.getD k (0, [])))
    (hk0 : k0 ≤ rooms.length) (hm : m = ((wls.getD k0 (0, [])).1 + under * stepIn rooms k0 f, (wls.getD k0 (0, [])).2))
    (hmin : ∀ k, k ≤ rooms.length → m.1 ≤ (wls.getD k (0, [])).1 + under * stepIn rooms k f) :
    El rooms held days top under (n + 1) f (under * rainAb held days n f - top * ((days.getD n ([], [])).2.take f).sum + m.1, m.2 ++ [(f : Int)]) := by
  have e : ∀ b : Nat, under * rainAb held days n f - top * ((days.getD n ([], [])).2.take f).sum + under * stepIn rooms b f = stepC rooms held days top under n b f := fun b => by
    have ew : ((days.getD n ([], [])).2.take f).sum = sumTo (ws days n) f := take_sum (by omega)
    unfold stepC
    rw [← rainAb_succ (rooms := rooms) (b := b) (by omega) hr hf, ew, Int.mul_add]
    omega
  have E0 := hB k0 hk0
  have hl : m.2.length = n := by rw [hm]; exact (lineOk_iff.mp E0.ok).1
  have e2 : m.2 = (wls.getD k0 (0, [])).2 := by rw [hm]
  refine ⟨lineOk_snoc (by rw [e2]; exact E0.ok) hf, ?_, ?_, fun L hL hf2 => ?_⟩
  · show lN (m.2 ++ [(f : Int)]) n = f
    rw [← hl]; exact lN_last
  · show _ = cost rooms held days top under (lN (m.2 ++ [(f : Int)])) n + stepC rooms held days top under n (lN (m.2 ++ [(f : Int)]) (n - 1)) (lN (m.2 ++ [(f : Int)]) n)
    rw [cost_congr (M := lN m.2) fun i hi => lN_snoc (by omega), lN_snoc (by omega)]
    have e3 : lN (m.2 ++ [(f : Int)]) n = f := by rw [← hl]; exact lN_last
    rw [e3, e2, E0.end_, ← E0.worth, ← e k0]
    have e4 : m.1 = (wls.getD k0 (0, [])).1 + under * stepIn rooms k0 f := by rw [hm]
    show under * rainAb held days n f - top * ((days.getD n ([], [])).2.take f).sum + m.1 = _
    rw [e4]
    omega
  · have hf2 : L n = f := hf2
    show under * rainAb held days n f - top * ((days.getD n ([], [])).2.take f).sum + m.1 ≤ cost rooms held days top under L n + stepC rooms held days top under n (L (n - 1)) (L n)
    have hk := hL (n - 1) (by omega)
    have h1 := (hB (L (n - 1)) hk).least L (fun i hi => hL i (by omega)) rfl
    have h2 := hmin (L (n - 1)) hk
    rw [hf2, ← e (L (n - 1))]
    omega
/-- what a least line is -/
structure Least (rooms held : List Int) (days : List Day) (top under : Int) (line : List Int) : Prop where
  ok : lineOk rooms.length days.length line = true
  least : ∀ L : Nat → Nat, (∀ i, i < days.length → L i ≤ rooms.length) → cost rooms held days top under (lN line) days.length ≤ cost rooms held days top under L days.length
theorem El.last {wls : List (Int × List Int)} {k0 : Nat} {m : Int × List Int} (hn : 0 < days.length) (hB : ∀ k, k ≤ rooms.length → El rooms held days top under days.length k (wls.getD k (0, []))) (hk0 : k0 ≤ rooms.length) (hm : m = wls.getD k0 (0, [])) (hmin : ∀ k, k ≤ rooms.length → m.1 ≤ (wls.getD k (0, [])).1) :
    Least rooms held days top under m.2 := by
  have E0 := hB k0 hk0
  rw [← hm] at E0
  refine ⟨E0.ok, fun L hL => ?_⟩
  rw [← E0.worth]
  have hk := hL (days.length - 1) (by omega)
  have h1 := (hB _ hk).least L hL rfl
  have h2 := hmin _ hk
  omega
end
end Cy

namespace Cy
open PySem L2
open Evl (Ex Ex.refl Ex.trans Ex.new Ex.mut)
/-- one of several values comes back -/
def EvP (K : Fg) (te : TE) (ss : SS) (os : Own) (P : Dt → Prop) : Prop := ∀ σ G H, Rep K ss os σ G H → ∀ Q : VK, (∀ v d G' H', P d → Gq [] G H G' H' → Ex G' H' → Rp K G' v d → Q v H') → te σ H Q
section
variable {K : Fg} {ss ss' : SS} {os os' : Own} {ta tb te tx : TE} {d x z : Dt} {ds es : List Dt} {B : Bs} {D : Ends} {t u : TS} {P R : Dt → Prop}
theorem ev_p (h : EvP K te ss os P) (hp : ∀ d', P d' → d' = d) : Ev K te ss os d := fun σ G H R Q q => h σ G H R Q fun v d' G' H' p q1 e1 r1 => q v G' H' q1 e1 (hp d' p ▸ r1)
theorem em_p (h : EvP K te ss os P) : EvM K te ss os (fun d os' => P d ∧ os' = os) := fun σ G H R Q q => h σ G H R Q fun v d G1 H1 p q1 e1 r1 =>
  q d os v G1 H1 ⟨p, rfl⟩ (q1.wk (by simp)) e1 (R.ow.grow q1 e1) (fun x m => .inr (mem_keys m)) r1
/-- (..)[j] of one of several tuples -/
theorem ep_ixT {j : Int} (h : EvP K te ss os P) (hp : ∀ d, P d → ∃ ts z, d = .tup ts ∧ atI ts j = some z ∧ R z) : EvP K (tOp (rIxT K) te (tC (V.int j))) ss os R := fun σ G H Rr Q q => h σ G H Rr _ fun v d G1 H1 p q1 e1 r1 => by
  obtain ⟨ts, z, rfl, hz, hR⟩ := hp d p
  cases r1 with
  | tup h1 h2 =>
    obtain ⟨w, hw, rw_⟩ := atI_rps h2 hz
    exact ⟨_, _, j, w, rfl, rfl, .of (e1 _ _ h1), hw, q w _ G1 H1 hR q1 e1 rw_⟩
/-- min(xs), the lists in it one's own -/
theorem ep_minO {y : WL} {ys : List WL} (ha : Ev K ta ss os x) (l : LV os x ds) (hf : Fms os ds ((y :: ys).map wlD)) : EvP K (tCB (rMinW K) (tCons ta tNil)) ss os (fun d => ∃ i : Nat, ds[i]? = some d ∧ (y :: ys)[i]? = some (PySem.W.minOf y ys)) := fun σ G H R Q q => ha σ G H R _ fun v G1 H1 q1 e1 r1 => by
  have R1 := R.grow q1 e1
  obtain ⟨a, vs, rfl, hs, rs⟩ := R1.list l r1
  obtain ⟨Gl, l1, l2, lf, _⟩ := lend R1.ow e1
  refine ⟨a, vs, y, ys, rfl, hs, Qls.dp l2 (Qls.wls (n := 0) (y :: ys)) (lf hf rs), fun i v hv he => ?_⟩
  obtain ⟨d, hd, rd⟩ := rs.get' hv
  exact q v d G1 H1 ⟨i, hd, he⟩ q1 e1 rd
/-- (e, [..]): the list one's own -/
theorem em_tup2F (ha : Ev K ta ss os x) (hb : EvF K tb ss os ds) : EvM K (tTup (tCons ta (tCons tb tNil))) ss os (fun d os' => ∃ q, q ∉ keys os ∧ d = .tup [x, .adr q] ∧ os' = os ++ [(q, .lst ds)]) := fun σ G H R Q q => ha σ G H R _ fun v G1 H1 q1 e1 r1 => hb σ G1 H1 (R.grow q1 e1) _ fun p vs G2 H2 n2 q2 e2 g2 h2 r2 => by
  have q12 := q1.trans q2 (by simp)
  have np : p ∉ keys os := (R.grow q1 e1).ow.ne n2
  have ow2 : OwnOk K G2 H2 os := R.ow.grow q12 e2
  refine ⟨by show 2 ≤ sizeLine; exact sz 2, fun t ht => ?_⟩
  obtain ⟨q3, e3⟩ := gq_new (fp := []) (o := .tup [v, .ref p]) e2 ht
  have npt : p ≠ t := fun z => by rw [z, ht] at h2; cases h2
  have ow3 : OwnOk K (upd G2 t (.tup [v, .ref p])) (upd H2 t (.tup [v, .ref p])) os := ow2.grow q3 e3
  have hu : upd (upd H2 t (.tup [v, .ref p])) p (.lst vs) = upd H2 t (.tup [v, .ref p]) := by
    funext a
    by_cases ha : a = p
    · subst ha; rw [upd_same, upd_ne npt, h2]
    · rw [upd_ne ha]
  have := ow3.add (c := .lst ds) (o := .lst vs) np (by rw [upd_ne npt]; exact g2) ⟨vs, upd_same, r2.mono q3.ex⟩
  rw [hu] at this
  refine q (.tup [x, .adr p]) (os ++ [(p, .lst ds)]) _ _ _ ⟨p, np, rfl, rfl⟩ ((q12.trans q3 (by simp)).wk (by simp)) e3 this (fun y m => ?_) (.tup upd_same (.cons ((r1.mono q2.ex).mono q3.ex) (.cons (.adr p) .nil)))
  rcases List.mem_append.mp m with m | m
  · exact .inr (mem_keys m)
  · have e : y = (p, .lst ds) := by simpa using m
    subst e
    exact .inl (q1.dom _ n2)
/-- xs.append(e), e making cells of one's own -/
theorem do_appM {p : Addr} {P : Dt → Own → Prop} (ha : Ev K ta ss os (.adr p)) (hm : (p, Cel.lst ds) ∈ os) (h : EvM K te ss os P) (hz : ds.length < 1000000) (k : ∀ d os', P d os' → (p, Cel.lst ds) ∈ os' ∧ Nx K B D.nx ss (setC os' p (.lst (ds ++ [d])))) : Do K B (tDrop (tBM K "list" rAppend ta (tCons te tNil))) ss os D := fun σ G H b r =>
  ha σ G H r _ fun v G1 H1 q1 e1 r1 => by
    cases r1
    have R1 := r.grow q1 e1
    obtain ⟨_, vs0, h0, _⟩ := R1.ow.at_ _ hm
    refine ⟨Or.inl ⟨rfl, vs0, .of h0⟩, h σ G1 H1 R1 _ fun d os' w G2 H2 hP q2 e2 o2 n2 r2 => ?_⟩
    obtain ⟨m, kk⟩ := k d os' hP
    obtain ⟨gp, vs, h1, rv⟩ := o2.at_ _ m
    refine ⟨p, vs, w, rfl, rfl, h1, by rw [rv.length]; exact szl hz, ?_⟩
    obtain ⟨q3, e3⟩ := gq_put (fp := keys os') (o := .lst (vs ++ [w])) e2 gp h1 (mem_keys m)
    refine kk σ G2 _ (((b.grow q1).growM q2 n2).growM q3 fun x mx => ?_) ⟨e3, R1.sl.mono q2.ex, o2.put ⟨_, upd_same, rv.append (.one r2)⟩⟩
    right
    have : x.1 ∈ keys (setC os' p (.lst (ds ++ [d]))) := mem_keys mx
    rw [keys_setC] at this
    exact this
end
/-- lines of one's own with their worths -/
def wSp (qs : List Addr) (wls : List WL) : List Dt := (qs.zip wls).map fun x => .tup [.int x.2.1, .adr x.1]
def wCells (qs : List Addr) (wls : List WL) : Own := (qs.zip wls).map fun x => (x.1, .lst (x.2.2.map Dt.int))
theorem wSp_len {qs : List Addr} {wls : List WL} (h : qs.length = wls.length) : (wSp qs wls).length = wls.length := by simp [wSp, h]
theorem wSp_at {qs : List Addr} {wls : List WL} {i : Nat} {q : Addr} {w : WL} (h1 : qs[i]? = some q) (h2 : wls[i]? = some w) : (wSp qs wls)[i]? = some (.tup [.int w.1, .adr q]) := by
  have : (qs.zip wls)[i]? = some (q, w) := by rw [List.getElem?_zip_eq_some]; exact ⟨h1, h2⟩
  unfold wSp
  rw [List.getElem?_map, this]; rfl
theorem wSp_inv {qs : List Addr} {wls : List WL} {i : Nat} {d : Dt} {w : WL} (h1 : (wSp qs wls)[i]? = some d) (h2 : wls[i]? = some w) : ∃ q, qs[i]? = some q ∧ d = .tup [.int w.1, .adr q] := by
  unfold wSp at h1
  rw [List.getElem?_map] at h1
  cases e : (qs.zip wls)[i]? with
  | none => rw [e] at h1; cases h1
  | some x =>
    obtain ⟨e1, e2⟩ := List.getElem?_zip_eq_some.mp e
    rw [e] at h1
    rw [h2] at e2
    cases e2
    exact ⟨x.1, e1, (Option.some.inj h1).symm⟩
theorem wCells_mem {qs : List Addr} {wls : List WL} {i : Nat} {q : Addr} {w : WL} (h1 : qs[i]? = some q) (h2 : wls[i]? = some w) : (q, Cel.lst (w.2.map Dt.int)) ∈ wCells qs wls := by
  have : (qs.zip wls)[i]? = some (q, w) := by rw [List.getElem?_zip_eq_some]; exact ⟨h1, h2⟩
  exact List.mem_map.mpr ⟨_, List.mem_of_getElem? this, rfl⟩
theorem wFms {os : Own} {g : WL → Int} : ∀ {qs : List Addr} {wls : List WL}, qs.length = wls.length → (∀ x ∈ wCells qs wls, x ∈ os) → Fms os ((qs.zip wls).map fun x => .tup [.int (g x.2), .adr x.1]) ((wls.map fun w => (g w, w.2)).map wlD)
  | [], [], _, _ => .nil
  | [], _ :: _, h, _ => by simp at h
  | _ :: _, [], h, _ => by simp at h
  | q :: qs, w :: wls, h, m => .cons (.tupI (.cons (.same _) (.cons (.lst (m _ List.mem_cons_self)) .nil))) (wFms (by simpa using h) fun x hx => m x (List.mem_cons_of_mem _ hx))
end Cy

namespace Cy
open PySem L2
local macro_rules | `(tactic| walk_at "lv") => `(tactic| first | exact LV.lst | exact LV.scr | exact LV.own List.mem_cons_self | exact LV.own (List.mem_cons_of_mem _ List.mem_cons_self) | exact LV.own (List.mem_cons_of_mem _ (List.mem_cons_of_mem _ List.mem_cons_self)) | exact LV.own (List.mem_cons_of_mem _ (List.mem_cons_of_mem _ (List.mem_cons_of_mem _ List.mem_cons_self))))
local macro_rules | `(tactic| walk_at "at") => `(tactic| first | exact at_mapN (by assumption) | exact at_map (by omega) (by assumption) | rfl | exact at_of (by omega) (by assumption))
local macro_rules | `(tactic| walk_at "side") => `(tactic| first | assumption | omega | decide)
local macro_rules | `(tactic| walk_at "ea") => `(tactic| first | exact ea_nil | (apply ea_cons; walk_at "ev"; walk_at "ea"))
local macro_rules | `(tactic| walk_at "et") => `(tactic| first
  | exact et_yes
  | (apply et_B; walk_at "ev")
  | (apply et_T; walk_at "ev")
  | (apply et_not; walk_at "et"))
local macro_rules | `(tactic| walk_at "ev") => `(tactic| first
  | exact ev_var rfl
  | exact ev_cint | exact ev_cbl | exact ev_cstr | exact ev_cnon
  | (apply ev_ii; walk_at "ev"; walk_at "ev")
  | (apply ev_ib; walk_at "ev"; walk_at "ev")
  | (apply ev_eqI; walk_at "ev"; walk_at "ev")
  | (apply ev_neI; walk_at "ev"; walk_at "ev")
  | (apply ev_ixL; walk_at "ev"; walk_at "lv"; walk_at "ev"; walk_at "at")
  | (apply ev_ixT; walk_at "ev"; walk_at "ev"; walk_at "at")
  | (apply ev_len; walk_at "ev"; walk_at "lv")
  | (apply ev_lenT; walk_at "ev")
  | (apply ev_min2; walk_at "ev"; walk_at "ev")
  | (apply ev_max2; walk_at "ev"; walk_at "ev")
  | (apply ev_tup; walk_at "ea"; (first | decide | simp | skip))
  | (apply ev_iC; walk_at "ev"; walk_at "ev"; walk_at "cond")
  | (apply ev_fldI; walk_at "cls"; walk_at "cls"; walk_at "ev"; walk_at "iv"; rfl; rfl; rfl)
  | (apply ev_F; walk_at "ef")
  | walk_at "call")
local macro_rules | `(tactic| walk_at "ef") => `(tactic| first
  | (apply ef_list; walk_at "ev"; walk_at "lv")
  | (apply ef_lst; walk_at "ea"; (first | decide | simp | skip)))
local macro_rules | `(tactic| walk_at "iv") => `(tactic| first | exact IV.ins | exact IV.own List.mem_cons_self | exact IV.own (List.mem_cons_of_mem _ List.mem_cons_self) | exact IV.own (List.mem_cons_of_mem _ (List.mem_cons_of_mem _ List.mem_cons_self)) | exact IV.own (List.mem_cons_of_mem _ (List.mem_cons_of_mem _ (List.mem_cons_of_mem _ List.mem_cons_self))))
local macro_rules | `(tactic| walk_at "cond") => `(tactic| first | exact Or.inr (by decide) | exact Or.inl (by decide) | (exact ⟨by decide, by decide⟩) | (show (0 : Int) < _; first | decide | assumption | omega))
local macro_rules | `(tactic| walk_at "cls") => `(tactic| first | assumption | exact YardF.cls (by assumption) | exact YardF.sizes (by assumption) | exact YardF.held (by assumption))
local macro_rules | `(tactic| walk_at "call") => `(tactic| fail "no call")
local macro_rules | `(tactic| walk_at "at") => `(tactic| first | exact at_getD (by first | assumption | omega) | exact at_day (by first | assumption | omega) | rfl)
local macro_rules | `(tactic| walk_at "call") => `(tactic| (apply ev_drawn; walk_at "ev"; walk_at "ev"; walk_at "ev"; walk_at "side"))
theorem Fms.range {os : Own} {y z : Nat → Dt} : ∀ {n : Nat}, (∀ k, k < n → Fm os (y k) (z k)) → Fms os ((List.range n).map y) ((List.range n).map z)
  | 0, _ => .nil
  | n + 1, h => by
    rw [List.range_succ, List.map_append, List.map_append]
    exact (Fms.range fun k hk => h k (by omega)).append (.cons (h n (by omega)) .nil)
theorem range_at {α : Type} {y : Nat → α} {n i : Nat} {d : α} (h : ((List.range n).map y)[i]? = some d) : i < n ∧ d = y i := by
  rw [List.getElem?_map] at h
  by_cases hi : i < n
  · rw [List.getElem?_range hi] at h
    exact ⟨hi, (Option.some.inj h).symm⟩
  · rw [List.getElem?_eq_none (by rw [List.length_range]; omega)] at h
    cases h
theorem wSp_snoc {qs : List Addr} {wls : List WL} (h : qs.length = wls.length) (q : Addr) (w : WL) : wSp (qs ++ [q]) (wls ++ [w]) = wSp qs wls ++ [.tup [.int w.1, .adr q]] := by
  unfold wSp
  rw [List.zip_append h, List.map_append]; rfl
theorem wCells_snoc {qs : List Addr} {wls : List WL} (h : qs.length = wls.length) (q : Addr) (w : WL) : wCells (qs ++ [q]) (wls ++ [w]) = wCells qs wls ++ [(q, .lst (w.2.map Dt.int))] := by
  unfold wCells
  rw [List.zip_append h, List.map_append]; rfl
theorem wl_snoc {wls : List WL} {w : WL} {k : Nat} : (wls ++ [w]).getD k (0, []) = if k = wls.length then w else wls.getD k (0, []) := by
  rw [List.getD_eq_getElem?_getD, List.getD_eq_getElem?_getD]
  by_cases e : k = wls.length
  · subst e; simp
  · rw [if_neg e]
    by_cases h : k < wls.length
    · rw [List.getElem?_append_left h]
    · rw [List.getElem?_eq_none (by simp; omega), List.getElem?_eq_none (by omega)]
/-- the best lines so far -/
def BestSt (rooms held : List Int) (days : List Day) (top under : Int) (i : Nat) (bd : Dt) (os : Own) : Prop :=
  (i = 0 ∧ bd = .non ∧ os = []) ∨ (0 < i ∧ ∃ pb qs wls, qs.length = wls.length ∧ wls.length = rooms.length + 1 ∧ (∀ k, k ≤ rooms.length → El rooms held days top under i k (wls.getD k (0, []))) ∧ bd = .adr pb ∧ os.Perm ((pb, .lst (wSp qs wls)) :: wCells qs wls))
def c_least_line (A : Ad) : Ct := fun ds os P => ∃ rooms held days top under, YardWf rooms held ∧ daysOk rooms.length days = true ∧ (-(2 ^ 60) < top ∧ top < 2 ^ 60) ∧ (-(2 ^ 60) < under ∧ under < 2 ^ 60) ∧ ds = [yardD A rooms held, daysD days, .int top, .int under] ∧ os = [] ∧
  P = fun r os' => ∃ p line, r = .ok (.adr p) ∧ os' = [(p, .lst (line.map Dt.int))] ∧ Least rooms held days top under line
def rd_least_line (K : Fg) (A : Ad) : TS :=
  tSeq (tAsg (tCB (Evl.rLenS K) (tCons (tFld K (tVar 0) "sizes") (tNil))) (gName 4)) 
      (tSeq (tAsg (tC V.non) (gName 5)) 
      (tSeq (tFor (iRng1 (tCons (tCB (Evl.rLenS K) (tCons (tVar 1) (tNil))) (tNil))) (gName 6) 
        (tSeq (tAsg (tVar 5) (gName 7)) 
        (tSeq (tAsg (tLst (tNil)) (gName 5)) 
        (tFor (iRng1 (tCons (tOp (rI0 fun i j => V.int (i + j)) (tVar 4) (tC (V.int 1))) (tNil))) (gName 8) 
          (tSeq (tAsg (tOp (rI0 fun i j => V.int (i - j)) (tOp (rI CMul fun i j => V.int (i * j)) (tVar 3) (tCall (spC K 4 (c_rain_above A)) [] E0 (tCons (tVar 0) (tCons (tVar 1) (tCons (tVar 6) (tCons (tVar 8) (tNil))))))) (tOp (rI CMul fun i j => V.int (i * j)) (tVar 2) (tCB (rSum K) (tCons (tSl (rSlL K) (tOp (rIxT K) (tOp (rIxL K) (tVar 1) (tVar 6)) (tC (V.int 1))) (tNoPart) (tPart (tVar 8))) (tNil))))) (gName 9)) 
          (tSeq (tAsg (tLst (tNil)) (gName 10)) 
          (Evl.tCut (tIfS (tB (tNotN (tVar 7))) (tSeq (tAsg (tLc (iRng1 (tCons (tOp (rI0 fun i j => V.int (i + j)) (tVar 4) (tC (V.int 1))) (tNil))) (gName 12) (tYes) (tTup (tCons (tOp (rI0 fun i j => V.int (i + j)) (tOp (rIxT K) (tOp (rIxL K) (tVar 7) (tVar 12)) (tC (V.int 0))) (tOp (rI CMul fun i j => V.int (i * j)) (tVar 3) (tCall (spC K 3 (c_step_in A)) [] E0 (tCons (tVar 0) (tCons (tVar 12) (tCons (tVar 8) (tNil))))))) (tCons (tOp (rIxT K) (tOp (rIxL K) (tVar 7) (tVar 12)) (tC (V.int 1))) (tNil)))) ([12] : List Nat)) (gName 11)) 
            (tSeq (tAsg (tOp (rI0 fun i j => V.int (i + j)) (tVar 9) (tOp (rIxT K) (tCB (rMinW K) (tCons (tVar 11) (tNil))) (tC (V.int 0)))) (gName 9)) 
            (tAsg (tOp (rIxT K) (tCB (rMinW K) (tCons (tVar 11) (tNil))) (tC (V.int 1))) (gName 10)))) (tNext)) 
          (tDrop (tBM K "list" rAppend (tVar 5) (tCons (tTup (tCons (tVar 9) (tCons (tOp (rCat) (tVar 10) (tLst (tCons (tVar 8) (tNil)))) (tNil)))) (tNil))))))))))) 
      (tSeq (tIfS (tB (tIsN (tVar 5))) (tRet (tLst (tNil))) (tNext)) 
      (tRet (tOp (rIxT K) (tCB (rMinW K) (tCons (tVar 5) (tNil))) (tC (V.int 1)))))))
theorem sem_least_line {K : Fg} {A : Ad} (Y : YardF K A) : ∀ vs H Q E, spC K 4 (c_least_line A) vs H Q E → rd_least_line K A { nx := fun _ H' => Q .non H', rt := Q } (start ["yard", "days", "top", "under", "many", "best", "number", "ahead", "first", "worth", "line", "some", "k"] vs) H :=
  body_ok fun ds os P hl hc B D hfp hR hN => by
    obtain ⟨rooms, held, days, top, under, Yw, hdd, ht, hu, rfl, rfl, rfl⟩ := hc
    have hB : B.fp = [] := hfp
    have yd : YD rooms held days := yd_of Yw.len Yw.four hdd
    have h8 := yd.eight
    have h4 := yd.four
    have hh := yd.len
    have cu : ∀ j, CMul under j := fun j => .inl ⟨by omega, by omega⟩
    have ct : ∀ j, CMul top j := fun j => .inl ⟨by omega, by omega⟩
    refine q_asg (d := .int (rooms.length : Int)) (ev_is (by walk_at "ev") (by rw [List.length_map])) ?_
    refine q_asg ev_cnon ?_
    refine q_forR (n := (days.length : Int)) (ea_cons (ev_is (by walk_at "ev") (by rw [List.length_map])) ea_nil) (by omega) (by omega) (fun i ss os => ∃ bd o6 o7 o8 o9 o10 o11 o12, ss = [some (yardD A rooms held), some (daysD days), some (.int top), some (.int under), some (.int (rooms.length : Int)), some bd, o6, o7, o8, o9, o10, o11, o12] ∧ BestSt rooms held days top under i bd os)
      ⟨_, _, _, _, _, _, _, _, rfl, .inl ⟨rfl, rfl, rfl⟩⟩ (fun i ss os0 hi hI => ?_) (fun ss os hI => ?_)
    · obtain ⟨bd, o6, o7, o8, o9, o10, o11, o12, rfl, hbs⟩ := hI
      have hi : i < days.length := by omega
      obtain ⟨hr1, hr2⟩ := yd.row i hi
      refine q_asg (ev_var rfl) ?_
      refine q_asgM (em_F (ef_lst ea_nil (by decide))) fun d os' hd => ?_
      obtain ⟨pn, npn, rfl, rfl⟩ := hd
      refine do_perm (perm_one _ _) ?_
      refine do_forR (n := ((rooms.length + 1 : Nat) : Int)) (ea_cons (ev_is (ev_ii (i := (rooms.length : Int)) (j := 1) (ev_var rfl) ev_cint) (show Dt.int ((rooms.length : Int) + 1) = Dt.int ((rooms.length + 1 : Nat) : Int) from rfl)) ea_nil) (by omega) (by omega) (fun f ss os => ∃ qs wls o8 o9 o10 o11 o12, qs.length = wls.length ∧ wls.length = f ∧ (∀ k, k < f → El rooms held days top under (i + 1) k (wls.getD k (0, []))) ∧
        ss = [some (yardD A rooms held), some (daysD days), some (.int top), some (.int under), some (.int (rooms.length : Int)), some (.adr pn), some (.int (i : Int)), some bd, o8, o9, o10, o11, o12] ∧ os.Perm ((pn, .lst (wSp qs wls)) :: (wCells qs wls ++ os0)))
        ⟨[], [], _, _, _, _, _, rfl, rfl, by omega, rfl, List.Perm.refl _⟩ (fun f ss os hf hJ => ?_) (fun ss os hJ => ?_)
      · obtain ⟨qs, wls, o8, o9, o10, o11, o12, hql, hwl, hEl, rfl, hperm⟩ := hJ
        have hf : f ≤ rooms.length := by omega
        refine do_perm hperm ?_
        refine q_asg (d := .int (under * rainAb held days i f - top * ((days.getD i ([], [])).2.take f).sum)) (ev_ii (ev_iC (ev_var rfl) (ev_call (rooms, held, days, i, f) (ea_cons (ev_var rfl) (ea_cons (ev_var rfl) (ea_cons (ev_var rfl) (ea_cons (ev_var rfl) ea_nil)))) rfl hi rfl) (cu _)) (ev_iC (ev_var rfl) (ev_sum (ev_F (ef_sl (ev_ixT (ev_ixL (ev_var rfl) LV.lst (ev_var rfl) (at_day hi)) ev_cint rfl) LV.lst eo_none (eo_some (ev_var rfl)))) (by rw [cut_ints]; exact LV.lst)) (ct _))) ?_
        refine q_asg (d := .lst []) (ev_F (ef_lst ea_nil (by simp))) ?_
        refine do_cut (fun ss os => ∃ ld lns w o11 o12, LV os ld (lns.map Dt.int) ∧ (∀ ns, ld ≠ .scr ns) ∧ El rooms held days top under (i + 1) f (w, lns ++ [(f : Int)]) ∧
          ss = [some (yardD A rooms held), some (daysD days), some (.int top), some (.int under), some (.int (rooms.length : Int)), some (.adr pn), some (.int (i : Int)), some bd, some (.int (f : Int)), some (.int w), some ld, o11, o12] ∧ os = (pn, .lst (wSp qs wls)) :: (wCells qs wls ++ os0))
          (do_if (et_B (ev_notN (ev_var rfl))) (fun hb => ?_) (fun hb => ?_)) ?_
        · rcases hbs with ⟨_, rfl, _⟩ | ⟨hi0, pb, qs0, wls0, hql0, hwl0, hEl0, rfl, hperm0⟩
          · cases hb
          have hm0 : ∀ x ∈ (pb, Cel.lst (wSp qs0 wls0)) :: wCells qs0 wls0, x ∈ (pn, Cel.lst (wSp qs wls)) :: (wCells qs wls ++ os0) := fun x hx => List.mem_cons_of_mem _ (List.mem_append_right _ (hperm0.mem_iff.mpr hx))
          have hq : ∀ {k}, k ≤ rooms.length → ∃ q, qs0[k]? = some q := fun {k} hk => ⟨_, List.getElem?_eq_getElem (by omega)⟩
          have hw : ∀ {k}, k ≤ rooms.length → wls0[k]? = some (wls0.getD k (0, [])) := fun {k} hk => by
            rw [List.getD_eq_getElem?_getD, List.getElem?_eq_getElem (show k < wls0.length by omega)]; rfl
          have hsp : ∀ {k}, k ≤ rooms.length → ∀ q, qs0[k]? = some q → atI (wSp qs0 wls0) (k : Int) = some (.tup [.int (wls0.getD k (0, [])).1, .adr q]) := fun {k} hk q hq => at_of (by omega) (by rw [Int.toNat_natCast]; exact wSp_at hq (hw hk))
          have eq0 : ∀ {k}, k ≤ rooms.length → qs0[k]? = some (qs0.getD k 0) := fun {k} hk => by
            rw [List.getD_eq_getElem?_getD, List.getElem?_eq_getElem (show k < qs0.length by omega)]; rfl
          refine q_asg (d := .lst ((List.range (rooms.length + 1)).map fun k => .tup [.int ((wls0.getD k (0, [])).1 + under * stepIn rooms k f), .adr (qs0.getD k 0)])) (ev_F ?_) ?_
          · exact ef_mapR (n := ((rooms.length + 1 : Nat) : Int)) (fun k => .tup [.int ((wls0.getD k (0, [])).1 + under * stepIn rooms k f), .adr (qs0.getD k 0)]) (ea_cons (ev_is (ev_ii (i := (rooms.length : Int)) (j := 1) (ev_var rfl) ev_cint) (show Dt.int ((rooms.length : Int) + 1) = Dt.int ((rooms.length + 1 : Nat) : Int) from rfl)) ea_nil) (by omega) (by omega) fun k hk => ⟨_, tw_name, by
              have hk : k ≤ rooms.length := by omega
              have hg := hsp hk _ (eq0 hk)
              have hx : Ev K (tOp (rIxL K) (tVar 7) (tVar 12)) [some (yardD A rooms held), some (daysD days), some (.int top), some (.int under), some (.int (rooms.length : Int)), some (.adr pn), some (.int (i : Int)), some (.adr pb), some (.int (f : Int)), some (.int (under * rainAb held days i f - top * ((days.getD i ([], [])).2.take f).sum)), some (.lst []), o11, some (.int (k : Int))] ((pn, .lst (wSp qs wls)) :: (wCells qs wls ++ os0)) (.tup [.int (wls0.getD k (0, [])).1, .adr (qs0.getD k 0)]) :=
                ev_ixL (ev_var rfl) (.own (hm0 _ List.mem_cons_self)) (ev_var rfl) hg
              exact ev_tup (ea_cons (ev_ii (ev_ixT hx ev_cint rfl) (ev_iC (ev_var rfl) (ev_callL (es := [yardD A rooms held, .int (k : Int), .int (f : Int)]) (d := .int (stepIn rooms k f)) (ea_cons (ev_var rfl) (ea_cons (ev_var rfl) (ea_cons (ev_var rfl) ea_nil))) (Fms.refl _) rfl ⟨(rooms, iL held, (k : Int), (f : Int)), h4, rfl, rfl, rfl⟩ (.int _)) (cu _))) (ea_cons (ev_ixT hx ev_cint rfl) ea_nil)) (by simp)⟩
          have hfm : Fms ((pn, Cel.lst (wSp qs wls)) :: (wCells qs wls ++ os0)) ((List.range (rooms.length + 1)).map fun k => .tup [.int ((wls0.getD k (0, [])).1 + under * stepIn rooms k f), .adr (qs0.getD k 0)]) (((List.range (rooms.length + 1)).map fun (k : Nat) => ((wls0.getD k (0, [])).1 + under * stepIn rooms k f, (wls0.getD k (0, [])).2)).map wlD) := by
            rw [List.map_map]
            exact Fms.range fun k hk => .tupI (.cons (.same _) (.cons (.lst (hm0 _ (List.mem_cons_of_mem _ (wCells_mem (w := wls0.getD k (0, [])) (eq0 (by omega)) (hw (by omega)))))) .nil))
          generalize hcs : ((List.range (rooms.length + 1)).map fun (k : Nat) => ((wls0.getD k (0, [])).1 + under * stepIn rooms k f, (wls0.getD k (0, [])).2)) = cs at hfm
          obtain ⟨c0, cr, rfl⟩ : ∃ c0 cr, cs = c0 :: cr := by
            cases cs with
            | nil => have := congrArg List.length hcs; simp at this
            | cons c0 cr => exact ⟨c0, cr, rfl⟩
          have hspec := minW_spec cr c0
          generalize hmn : PySem.W.minOf c0 cr = mn at hspec
          have hmin : ∀ k, k ≤ rooms.length → mn.1 ≤ (wls0.getD k (0, [])).1 + under * stepIn rooms k f := fun k hk => by
            have hm1 : ((wls0.getD k (0, [])).1 + under * stepIn rooms k f, (wls0.getD k (0, [])).2) ∈ c0 :: cr := by
              rw [← hcs]; exact List.mem_map.mpr ⟨k, List.mem_range.mpr (by omega), rfl⟩
            rcases List.mem_cons.mp hm1 with e | e
            · have := hspec.2.1; rw [← e] at this; exact this
            · exact hspec.2.2 _ e
          have hpick : ∀ {d : Dt} {j : Nat}, ((List.range (rooms.length + 1)).map fun k => Dt.tup [.int ((wls0.getD k (0, [])).1 + under * stepIn rooms k f), .adr (qs0.getD k 0)])[j]? = some d → (c0 :: cr)[j]? = some mn → j ≤ rooms.length ∧ mn = ((wls0.getD j (0, [])).1 + under * stepIn rooms j f, (wls0.getD j (0, [])).2) ∧ d = .tup [.int mn.1, .adr (qs0.getD j 0)] := fun {d j} h1 h2 => by
            obtain ⟨hj, rfl⟩ := range_at h1
            rw [← hcs] at h2
            obtain ⟨_, e⟩ := range_at h2
            refine ⟨by omega, e, ?_⟩
            rw [e]
          have hp : ∀ {ss}, ss[11]? = some (some (.lst ((List.range (rooms.length + 1)).map fun k => Dt.tup [.int ((wls0.getD k (0, [])).1 + under * stepIn rooms k f), .adr (qs0.getD k 0)]))) → EvP K (tCB (rMinW K) (tCons (tVar 11) (tNil))) ss ((pn, Cel.lst (wSp qs wls)) :: (wCells qs wls ++ os0)) (fun d => ∃ j, j ≤ rooms.length ∧ mn = ((wls0.getD j (0, [])).1 + under * stepIn rooms j f, (wls0.getD j (0, [])).2) ∧ d = .tup [.int mn.1, .adr (qs0.getD j 0)]) := fun {ss} h11 σ G H R Q q => by
            refine ep_minO (ev_var h11) LV.lst hfm σ G H R Q fun v d G' H' hd => ?_
            obtain ⟨j, h1, h2⟩ := hd
            rw [hmn] at h2
            exact q v d G' H' ⟨j, hpick h1 h2⟩
          refine q_asg (ev_ii (ev_var rfl) (ev_p (d := .int mn.1) (ep_ixT (R := fun z => z = .int mn.1) (hp rfl) fun d hd => by
            obtain ⟨j, _, _, rfl⟩ := hd
            exact ⟨_, _, rfl, rfl, rfl⟩) fun _ h => h)) ?_
          refine do_asgM (em_p (ep_ixT (R := fun z => ∃ j, j ≤ rooms.length ∧ mn = ((wls0.getD j (0, [])).1 + under * stepIn rooms j f, (wls0.getD j (0, [])).2) ∧ z = .adr (qs0.getD j 0)) (hp rfl) fun d hd => by
            obtain ⟨j, h1, h2, rfl⟩ := hd
            exact ⟨_, _, rfl, rfl, j, h1, h2, rfl⟩)) fun d os' hd => ?_
          obtain ⟨⟨j, hj, hmj, rfl⟩, rfl⟩ := hd
          refine nx_at ⟨_, mn.2, _, _, _, .own (hm0 _ (List.mem_cons_of_mem _ ?_)), (by simp), El.step hi0 hf hr1 hr2 hEl0 hj hmj hmin (cs := []), rfl, rfl⟩
          rw [hmj]
          exact wCells_mem (w := wls0.getD j (0, [])) (eq0 hj) (hw hj)
        · rcases hbs with ⟨rfl, rfl, _⟩ | ⟨hi0, pb, qs0, wls0, hql0, hwl0, hEl0, rfl, hperm0⟩
          · exact do_nx (nx_at ⟨.lst [], [], _, _, _, LV.lst, by simp, El.first hf hr1 hr2 hh, rfl, rfl⟩)
          · cases hb
        · rintro ss os ⟨ld, lns, w, o11, o12, hlv, hns, hE, rfl, rfl⟩
          have hlnl : lns.length ≤ 100 := by
            have := (lineOk_iff.mp hE.ok).1
            simp at this
            omega
          have hwl8 : wls.length ≤ 100 := by omega
          refine do_nd fun nd => do_appM (ev_var rfl) List.mem_cons_self (em_tup2F (ev_var rfl) (ef_cat (ev_var rfl) hlv (ev_F (ef_lst (ea_cons (ev_var rfl) ea_nil) (by simp))) LV.lst hns (by simp) (by simp; omega))) (by rw [wSp_len hql]; omega) fun d os' hd => ?_
          obtain ⟨q, nq, rfl, rfl⟩ := hd
          refine ⟨List.mem_append_left _ List.mem_cons_self, ?_⟩
          have npn2 := (List.nodup_cons.mp nd).1
          have nqp : pn ≠ q := fun z => nq (by rw [← z]; exact List.mem_cons_self)
          rw [setC_append, setC_fst npn2, setC_out (by simpa using nqp)]
          refine nx_at ⟨qs ++ [q], wls ++ [(w, lns ++ [(f : Int)])], _, _, _, _, _, by simp [hql], by simp [hwl], fun k hk => ?_, rfl, ?_⟩
          · rw [wl_snoc]
            by_cases e : k = wls.length
            · rw [if_pos e, e, hwl]; exact hE
            · rw [if_neg e]; exact hEl k (by omega)
          · rw [wSp_snoc hql, wCells_snoc hql]
            refine List.Perm.cons _ ?_
            rw [List.map_append]
            show (wCells qs wls ++ os0 ++ [(q, Cel.lst (lns.map Dt.int ++ [Dt.int (f : Int)]))]).Perm (wCells qs wls ++ [(q, Cel.lst (lns.map Dt.int ++ [Dt.int (f : Int)]))] ++ os0)
            rw [List.append_assoc, List.append_assoc]
            exact List.perm_append_comm.append_left _
      · obtain ⟨qs, wls, o8, o9, o10, o11, o12, hql, hwl, hEl, rfl, hperm⟩ := hJ
        refine nx_perm hperm (nx_weak (os' := (pn, .lst (wSp qs wls)) :: wCells qs wls) (Le.refl _) (.cons_cons _ (List.sublist_append_left _ _)) (nx_at ⟨_, _, _, _, _, _, _, _, rfl, .inr ⟨by omega, pn, qs, wls, hql, by omega, fun k hk => hEl k (by omega), rfl, List.Perm.refl _⟩⟩))
    · obtain ⟨bd, o6, o7, o8, o9, o10, o11, o12, rfl, hbs⟩ := hI
      rw [Int.toNat_natCast] at hbs
      refine q_when (et_B (ev_isN (ev_var rfl))) (fun hb => ?_) (fun hb => ?_)
      · rcases hbs with ⟨hd0, rfl, rfl⟩ | ⟨hi0, pb, qs0, wls0, hql0, hwl0, hEl0, rfl, hperm0⟩
        · refine do_retF (ds := ([] : List Int).map Dt.int) (ef_lst ea_nil (by simp)) fun p _ => hR.rt ⟨p, [], rfl, rfl, ⟨lineOk_iff.mpr ⟨by simp [hd0], by simp⟩, fun L hL => ?_⟩⟩
          rw [hd0]
          exact Int.le_refl _
        · cases hb
      · rcases hbs with ⟨hd0, rfl, rfl⟩ | ⟨hi0, pb, qs0, wls0, hql0, hwl0, hEl0, rfl, hperm0⟩
        · cases hb
        refine do_perm hperm0 ?_
        obtain ⟨c0, cr, rfl⟩ : ∃ c0 cr, wls0 = c0 :: cr := by
          cases wls0 with
          | nil => simp at hwl0
          | cons c0 cr => exact ⟨c0, cr, rfl⟩
        have hfm : Fms ((pb, Cel.lst (wSp qs0 (c0 :: cr))) :: wCells qs0 (c0 :: cr)) (wSp qs0 (c0 :: cr)) ((c0 :: cr).map wlD) := by
          have := wFms (g := fun w => w.1) (os := (pb, Cel.lst (wSp qs0 (c0 :: cr))) :: wCells qs0 (c0 :: cr)) hql0 fun x hx => List.mem_cons_of_mem _ hx
          have e : ((c0 :: cr).map fun w : WL => (w.1, w.2)) = c0 :: cr := List.map_id' _
          rw [e] at this
          exact this
        have hspec := minW_spec cr c0
        refine do_retM (em_p (ep_ixT (R := fun z => ∃ j q, (c0 :: cr)[j]? = some (PySem.W.minOf c0 cr) ∧ qs0[j]? = some q ∧ z = .adr q) (ep_minO (ev_var rfl) (.own List.mem_cons_self) hfm) fun d hd => by
          obtain ⟨j, h1, h2⟩ := hd
          obtain ⟨q, h3, rfl⟩ := wSp_inv h1 h2
          exact ⟨_, _, rfl, rfl, j, q, h2, h3, rfl⟩)) fun d os' hd => ?_
        obtain ⟨⟨j, q, h1, h2, rfl⟩, rfl⟩ := hd
        have hj : j < (c0 :: cr).length := (List.getElem?_eq_some_iff.mp h1).1
        have hg : PySem.W.minOf c0 cr = (c0 :: cr).getD j (0, []) := by rw [List.getD_eq_getElem?_getD, h1]; rfl
        refine rt_sub (hR.rt ⟨q, (PySem.W.minOf c0 cr).2, rfl, rfl, El.last hi0 hEl0 (show j ≤ rooms.length by omega) hg fun k hk => ?_⟩) (fun x hx => ?_) (by simp)
        · have hm1 : (c0 :: cr).getD k (0, []) ∈ c0 :: cr := by
            rw [List.getD_eq_getElem?_getD, List.getElem?_eq_getElem (show k < (c0 :: cr).length by omega)]
            exact List.getElem_mem _
          rcases List.mem_cons.mp hm1 with e | e
          · rw [e]; exact hspec.2.1
          · exact hspec.2.2 _ e
        · have : x = (q, .lst ((PySem.W.minOf c0 cr).2.map Dt.int)) := by simpa using hx
          subst this
          exact List.mem_cons_of_mem _ (wCells_mem h2 h1)
end Cy

namespace Cy
/-! plans and lines -/
def totW (days : List Day) : Int := (days.map fun d => d.2.sum).sum
def lineV (rooms held : List Int) (days : List Day) (L : Nat → Nat) : Int := waterAb rooms held days L days.length + totW days - wishAb days L days.length
/-- v is what most tells -/
def IsMost (rooms held : List Int) (days : List Day) (v : Int) : Prop := ∃ line, Least rooms held days 1 1 line ∧ v = lineV rooms held days (lN line)
theorem lineV_cost (rooms held : List Int) (days : List Day) (L : Nat → Nat) : lineV rooms held days L = cost rooms held days 1 1 L days.length + totW days := by
  rw [cost_eq]
  unfold lineV
  omega
theorem IsMost.le {rooms held : List Int} {days : List Day} {v : Int} (h : IsMost rooms held days v) {L : Nat → Nat} (hL : ∀ i, i < days.length → L i ≤ rooms.length) : v ≤ lineV rooms held days L := by
  obtain ⟨line, hl, rfl⟩ := h
  rw [lineV_cost, lineV_cost]
  have := hl.least L hL
  omega
theorem Least.le {rooms held : List Int} {days : List Day} {top under : Int} {line : List Int} (h : Least rooms held days top under line) : ∀ i, i < days.length → lN line i ≤ rooms.length := fun i hi => (lN_int h.ok hi).2
theorem IsMost.unique {rooms held : List Int} {days : List Day} {v w : Int} (h : IsMost rooms held days v) (h2 : IsMost rooms held days w) : v = w := by
  obtain ⟨line, hl, e⟩ := id h
  obtain ⟨line2, hl2, e2⟩ := id h2
  have a := h.le hl2.le
  have b := h2.le hl.le
  omega
theorem days_sum (f : Day → Int) : ∀ days : List Day, (days.map f).sum = sumTo (fun n => f (days.getD n ([], []))) days.length := fun days => by
  rw [sum_sumTo, List.length_map]
  refine sumTo_congr fun k hk => ?_
  rw [List.getD_eq_getElem?_getD, List.getElem?_map, getDay hk]
  rfl
theorem totW_eq {rooms held : List Int} {days : List Day} (hr : ∀ n, n < days.length → (days.getD n ([], [])).2.length = rooms.length) : totW days = sumTo (fun n => sumTo (ws days n) rooms.length) days.length := by
  unfold totW
  rw [days_sum]
  refine sumTo_congr fun n hn => ?_
  rw [sum_sumTo, hr n hn]
/-- what is drawn above a line -/
def drawAb (plan : List Day) (L : Nat → Nat) (N : Nat) : Int := sumTo (fun n => sumTo (fun k => (plan.getD n ([], [])).1.getD k 0) (L n)) N
theorem over_sum {held rain dr kp : List Int} : ∀ f, sumTo (fun k => dr.getD k 0) f + sumTo (fun k => kp.getD k 0) f + overAt held rain dr kp f = sumTo (fun k => held.getD k 0) f + sumTo (fun k => rain.getD k 0) f
  | 0 => rfl
  | f + 1 => by
    have ih := over_sum (held := held) (rain := rain) (dr := dr) (kp := kp) f
    show sumTo (fun k => dr.getD k 0) f + dr.getD f 0 + (sumTo (fun k => kp.getD k 0) f + kp.getD f 0) + (held.getD f 0 + rain.getD f 0 + overAt held rain dr kp f - dr.getD f 0 - kp.getD f 0) = sumTo (fun k => held.getD k 0) f + held.getD f 0 + (sumTo (fun k => rain.getD k 0) f + rain.getD f 0)
    omega
theorem over_nn {rooms held : List Int} {day p : Day} (h : dayHolds rooms held day p = true) : ∀ f, f ≤ held.length → 0 ≤ overAt held day.1 p.1 p.2 f
  | 0, _ => Int.le_refl _
  | f + 1, hf => (tankOk_iff.mp ((dayHolds_iff.mp h).2.2 f (by omega))).2.2.1
theorem split_le {g r : Nat → Int} {b : Nat} : ∀ {f : Nat}, (∀ k, k < f → 0 ≤ g k ∧ g k ≤ r k) → (∀ k, k < b → 0 ≤ g k) → sumTo g f ≤ sumTo g b + sumTo (fun k => if b ≤ k then r k else 0) f
  | 0, _, h2 => by
    have := sumTo_nn h2
    show (0 : Int) ≤ sumTo g b + 0
    omega
  | f + 1, h1, h2 => by
    have ih := split_le (f := f) (fun k hk => h1 k (by omega)) h2
    have := h1 f (by omega)
    show sumTo g f + g f ≤ sumTo g b + (sumTo (fun k => if b ≤ k then r k else 0) f + if b ≤ f then r f else 0)
    by_cases e : b ≤ f
    · rw [if_pos e]; omega
    · rw [if_neg e]
      -- f + 1 ≤ b
      have h3 : sumTo g (f + 1) ≤ sumTo g b := by
        have : ∀ m, f + 1 ≤ m → m ≤ b → sumTo g (f + 1) ≤ sumTo g m := fun m => by
          induction m with
          | zero => intro h; omega
          | succ m ihm =>
            intro h hm
            by_cases q : f + 1 = m + 1
            · rw [q]; exact Int.le_refl _
            · have := ihm (by omega) (by omega)
              have := h2 m (by omega)
              show _ ≤ sumTo g m + g m
              omega
        exact this b (by omega) (Nat.le_refl _)
      have h4 : sumTo (fun k => if b ≤ k then r k else 0) f = 0 := by
        rw [sumTo_congr (g := fun _ => 0) fun k hk => by rw [if_neg (by omega)], sumTo_zero]
      rw [h4]
      have h5 : sumTo g (f + 1) = sumTo g f + g f := rfl
      omega
/-- no plan draws more above a line than water can come there -/
theorem drawAb_le {rooms held : List Int} {days plan : List Day} (hh : held.length = rooms.length) (hp : holdsB rooms held days plan = true) {L : Nat → Nat} : ∀ N, N ≤ days.length → (∀ i, i < N → L i ≤ rooms.length) →
    drawAb plan L N + (if N = 0 then 0 else sumTo (fun k => (plan.getD (N - 1) ([], [])).2.getD k 0) (L (N - 1))) ≤ waterAb rooms held days L N
  | 0, _, _ => Int.le_refl _
  | n + 1, hN, hL => by
    have ih := drawAb_le hh hp (L := L) n (by omega) fun i hi => hL i (by omega)
    have hd := (holdsB_iff.mp hp).2 n (by omega)
    have hf := hL n (by omega)
    have hheld : (heldAt held plan n).length = rooms.length := by
      cases n with
      | zero => exact hh
      | succ m =>
        have : ∀ j, j < days.length → (plan.getD j ([], [])).2.length = rooms.length := fun j => by
          induction j with
          | zero => intro hj; exact ((dayHolds_iff.mp ((holdsB_iff.mp hp).2 0 hj)).2.1).trans hh
          | succ j ihj => intro hj; exact ((dayHolds_iff.mp ((holdsB_iff.mp hp).2 (j + 1) hj)).2.1).trans (ihj (by omega))
        exact this m (by omega)
    have hsum := over_sum (held := heldAt held plan n) (rain := (days.getD n ([], [])).1) (dr := (plan.getD n ([], [])).1) (kp := (plan.getD n ([], [])).2) (L n)
    have hov := over_nn hd (L n) (by omega)
    rw [if_neg (by omega)]
    show drawAb plan L n + sumTo (fun k => (plan.getD n ([], [])).1.getD k 0) (L n) + sumTo (fun k => (plan.getD (n + 1 - 1) ([], [])).2.getD k 0) (L (n + 1 - 1)) ≤ waterAb rooms held days L n + sumTo (abv rooms held days (L (n - 1)) n) (L n)
    rw [show n + 1 - 1 = n by omega]
    have key : sumTo (fun k => (heldAt held plan n).getD k 0) (L n) + sumTo (fun k => (days.getD n ([], [])).1.getD k 0) (L n) ≤ (if n = 0 then 0 else sumTo (fun k => (plan.getD (n - 1) ([], [])).2.getD k 0) (L (n - 1))) + sumTo (abv rooms held days (L (n - 1)) n) (L n) := by
      cases n with
      | zero =>
        rw [if_pos rfl]
        have e : sumTo (abv rooms held days (L (0 - 1)) 0) (L 0) = sumTo (fun k => (days.getD 0 ([], [])).1.getD k 0) (L 0) + sumTo (fun k => held.getD k 0) (L 0) := by
          rw [← sumTo_add]; rfl
        rw [e]
        show sumTo (fun k => held.getD k 0) (L 0) + _ ≤ _
        omega
      | succ m =>
        rw [if_neg (by omega), show m + 1 - 1 = m by omega]
        have e : sumTo (abv rooms held days (L m) (m + 1)) (L (m + 1)) = sumTo (fun k => (days.getD (m + 1) ([], [])).1.getD k 0) (L (m + 1)) + sumTo (fun k => if L m ≤ k then rooms.getD k 0 else 0) (L (m + 1)) := by
          rw [← sumTo_add]
          refine sumTo_congr fun k _ => ?_
          unfold abv
          rw [if_neg (by omega)]
        have hpm := (holdsB_iff.mp hp).2 m (by omega)
        have hheldm : (heldAt held plan m).length = rooms.length := by
          have : ∀ j, j ≤ m → (heldAt held plan j).length = rooms.length := fun j => by
            induction j with
            | zero => intro _; exact hh
            | succ j ihj => intro hj; exact ((dayHolds_iff.mp ((holdsB_iff.mp hp).2 j (by omega))).2.1).trans (ihj (by omega))
          exact this m (Nat.le_refl _)
        have tk : ∀ k, k < rooms.length → 0 ≤ (plan.getD m ([], [])).2.getD k 0 ∧ (plan.getD m ([], [])).2.getD k 0 ≤ rooms.getD k 0 := fun k hk => by
          have := tankOk_iff.mp ((dayHolds_iff.mp hpm).2.2 k (by omega))
          exact ⟨this.2.1, this.2.2.2.2⟩
        have hb := hL m (by omega)
        have := split_le (g := fun k => (plan.getD m ([], [])).2.getD k 0) (r := fun k => rooms.getD k 0) (b := L m) (f := L (m + 1)) (fun k hk => tk k (by omega)) (fun k hk => (tk k (by omega)).1)
        rw [e]
        show sumTo (fun k => (plan.getD m ([], [])).2.getD k 0) (L (m + 1)) + _ ≤ _
        omega
    omega
theorem drawAb_water {rooms held : List Int} {days plan : List Day} (hh : held.length = rooms.length) (hp : holdsB rooms held days plan = true) {L : Nat → Nat} (hL : ∀ i, i < days.length → L i ≤ rooms.length) : drawAb plan L days.length ≤ waterAb rooms held days L days.length := by
  have h := drawAb_le hh hp days.length (Nat.le_refl _) hL
  by_cases e : days.length = 0
  · rw [if_pos e] at h; omega
  · rw [if_neg e] at h
    have hheld : ∀ j, j < days.length → (plan.getD j ([], [])).2.length = rooms.length := fun j => by
      induction j with
      | zero => intro hj; exact ((dayHolds_iff.mp ((holdsB_iff.mp hp).2 0 hj)).2.1).trans hh
      | succ j ihj => intro hj; exact ((dayHolds_iff.mp ((holdsB_iff.mp hp).2 (j + 1) hj)).2.1).trans (ihj (by omega))
    have hn : 0 ≤ sumTo (fun k => (plan.getD (days.length - 1) ([], [])).2.getD k 0) (L (days.length - 1)) := sumTo_nn fun k hk => by
      have h1 := (holdsB_iff.mp hp).2 (days.length - 1) (by omega)
      have h2 := hL (days.length - 1) (by omega)
      have h3 : (heldAt held plan (days.length - 1)).length = rooms.length := by
        rw [← hheld (days.length - 1) (by omega), (dayHolds_iff.mp h1).2.1]
      exact (tankOk_iff.mp ((dayHolds_iff.mp h1).2.2 k (by omega))).2.1
    omega
theorem plan_lens {rooms held : List Int} {days plan : List Day} (hh : held.length = rooms.length) (hp : holdsB rooms held days plan = true) : ∀ n, n ≤ days.length → (heldAt held plan n).length = rooms.length
  | 0, _ => hh
  | n + 1, h => ((dayHolds_iff.mp ((holdsB_iff.mp hp).2 n (by omega))).2.1).trans (plan_lens hh hp n (by omega))
theorem tank_of {rooms held : List Int} {days plan : List Day} (hh : held.length = rooms.length) (hp : holdsB rooms held days plan = true) {n k : Nat} (hn : n < days.length) (hk : k < rooms.length) : tankOk rooms (heldAt held plan n) (days.getD n ([], [])) (plan.getD n ([], [])) k = true :=
  (dayHolds_iff.mp ((holdsB_iff.mp hp).2 n hn)).2.2 k (by rw [plan_lens hh hp n (by omega)]; exact hk)
theorem drawnBy_eq {rooms held : List Int} {days plan : List Day} (hh : held.length = rooms.length) (hp : holdsB rooms held days plan = true) : drawnBy plan = sumTo (fun n => sumTo (fun k => (plan.getD n ([], [])).1.getD k 0) rooms.length) days.length := by
  unfold drawnBy
  rw [days_sum, (holdsB_iff.mp hp).1]
  refine sumTo_congr fun n hn => ?_
  rw [sum_sumTo, (dayHolds_iff.mp ((holdsB_iff.mp hp).2 n hn)).1, plan_lens hh hp n (by omega)]
theorem sumTo_split (f : Nat → Int) {m n : Nat} (h : m ≤ n) : sumTo f n = sumTo f m + sumTo (fun k => if m ≤ k then f k else 0) n := by
  induction n with
  | zero => rw [show m = 0 by omega]; rfl
  | succ n ih =>
    show sumTo f n + f n = sumTo f m + (sumTo (fun k => if m ≤ k then f k else 0) n + if m ≤ n then f n else 0)
    by_cases e : m = n + 1
    · rw [if_neg (by omega), sumTo_congr (f := fun k => if m ≤ k then f k else 0) (g := fun _ => 0) fun k hk => by rw [if_neg (by omega)], sumTo_zero, e]
      show sumTo f n + f n = sumTo f n + f n + _
      omega
    · rw [if_pos (by omega), ih (by omega)]
      omega
/-- no plan draws more than a line's number -/
theorem drawn_le {rooms held : List Int} {days plan : List Day} (hh : held.length = rooms.length) (hr : ∀ n, n < days.length → (days.getD n ([], [])).2.length = rooms.length) (hp : holdsB rooms held days plan = true) {L : Nat → Nat} (hL : ∀ i, i < days.length → L i ≤ rooms.length) : drawnBy plan ≤ lineV rooms held days L := by
  rw [drawnBy_eq hh hp]
  have h1 := drawAb_water hh hp hL
  unfold lineV
  rw [totW_eq (held := held) hr]
  unfold wishAb
  unfold drawAb at h1
  have h2 : sumTo (fun n => sumTo (fun k => (plan.getD n ([], [])).1.getD k 0) rooms.length) days.length + sumTo (fun n => sumTo (ws days n) (L n)) days.length ≤ sumTo (fun n => sumTo (fun k => (plan.getD n ([], [])).1.getD k 0) (L n)) days.length + sumTo (fun n => sumTo (ws days n) rooms.length) days.length := by
    rw [← sumTo_add, ← sumTo_add]
    refine sumTo_le fun n hn => ?_
    rw [sumTo_split (fun k => (plan.getD n ([], [])).1.getD k 0) (hL n hn), sumTo_split (ws days n) (hL n hn)]
    have : sumTo (fun k => if L n ≤ k then (plan.getD n ([], [])).1.getD k 0 else 0) rooms.length ≤ sumTo (fun k => if L n ≤ k then ws days n k else 0) rooms.length := sumTo_le fun k hk => by
      by_cases e : L n ≤ k
      · rw [if_pos e, if_pos e]
        exact (tankOk_iff.mp (tank_of hh hp hn hk)).2.2.2.1
      · rw [if_neg e, if_neg e]; exact Int.le_refl _
    omega
  omega
theorem IsMost.total {rooms held : List Int} {days : List Day} {v : Int} (h : IsMost rooms held days v) : v ≤ totW days := by
  have := h.le (L := fun _ => 0) fun _ _ => Nat.zero_le _
  have e1 : waterAb rooms held days (fun _ => 0) days.length = 0 := by
    exact (sumTo_congr (f := fun n => sumTo (abv rooms held days 0 n) 0) (g := fun _ => 0) fun n _ => rfl).trans (sumTo_zero _)
  have e2 : wishAb days (fun _ => 0) days.length = 0 := by
    exact (sumTo_congr (f := fun n => sumTo (ws days n) 0) (g := fun _ => 0) fun n _ => rfl).trans (sumTo_zero _)
  unfold lineV at this
  omega
end Cy

namespace Cy
open PySem L2
local macro_rules | `(tactic| walk_at "lv") => `(tactic| first | exact LV.lst | exact LV.scr | exact LV.own List.mem_cons_self | exact LV.own (List.mem_cons_of_mem _ List.mem_cons_self) | exact LV.own (List.mem_cons_of_mem _ (List.mem_cons_of_mem _ List.mem_cons_self)) | exact LV.own (List.mem_cons_of_mem _ (List.mem_cons_of_mem _ (List.mem_cons_of_mem _ List.mem_cons_self))))
local macro_rules | `(tactic| walk_at "at") => `(tactic| first | exact at_mapN (by assumption) | exact at_map (by omega) (by assumption) | rfl | exact at_of (by omega) (by assumption))
local macro_rules | `(tactic| walk_at "side") => `(tactic| first | assumption | omega | decide)
local macro_rules | `(tactic| walk_at "ea") => `(tactic| first | exact ea_nil | (apply ea_cons; walk_at "ev"; walk_at "ea"))
local macro_rules | `(tactic| walk_at "et") => `(tactic| first
  | exact et_yes
  | (apply et_B; walk_at "ev")
  | (apply et_T; walk_at "ev")
  | (apply et_not; walk_at "et"))
local macro_rules | `(tactic| walk_at "ev") => `(tactic| first
  | exact ev_var rfl
  | exact ev_cint | exact ev_cbl | exact ev_cstr | exact ev_cnon
  | (apply ev_ii; walk_at "ev"; walk_at "ev")
  | (apply ev_ib; walk_at "ev"; walk_at "ev")
  | (apply ev_eqI; walk_at "ev"; walk_at "ev")
  | (apply ev_neI; walk_at "ev"; walk_at "ev")
  | (apply ev_ixL; walk_at "ev"; walk_at "lv"; walk_at "ev"; walk_at "at")
  | (apply ev_ixT; walk_at "ev"; walk_at "ev"; walk_at "at")
  | (apply ev_len; walk_at "ev"; walk_at "lv")
  | (apply ev_lenT; walk_at "ev")
  | (apply ev_min2; walk_at "ev"; walk_at "ev")
  | (apply ev_max2; walk_at "ev"; walk_at "ev")
  | (apply ev_tup; walk_at "ea"; (first | decide | simp | skip))
  | (apply ev_iC; walk_at "ev"; walk_at "ev"; walk_at "cond")
  | (apply ev_fldI; walk_at "cls"; walk_at "cls"; walk_at "ev"; walk_at "iv"; rfl; rfl; rfl)
  | (apply ev_F; walk_at "ef")
  | walk_at "call")
local macro_rules | `(tactic| walk_at "ef") => `(tactic| first
  | (apply ef_list; walk_at "ev"; walk_at "lv")
  | (apply ef_lst; walk_at "ea"; (first | decide | simp | skip)))
local macro_rules | `(tactic| walk_at "iv") => `(tactic| first | exact IV.ins | exact IV.own List.mem_cons_self | exact IV.own (List.mem_cons_of_mem _ List.mem_cons_self) | exact IV.own (List.mem_cons_of_mem _ (List.mem_cons_of_mem _ List.mem_cons_self)) | exact IV.own (List.mem_cons_of_mem _ (List.mem_cons_of_mem _ (List.mem_cons_of_mem _ List.mem_cons_self))))
local macro_rules | `(tactic| walk_at "cond") => `(tactic| first | exact Or.inr (by decide) | exact Or.inl (by decide) | (exact ⟨by decide, by decide⟩) | (show (0 : Int) < _; first | decide | assumption | omega))
local macro_rules | `(tactic| walk_at "cls") => `(tactic| first | assumption | exact YardF.cls (by assumption) | exact YardF.sizes (by assumption) | exact YardF.held (by assumption))
local macro_rules | `(tactic| walk_at "call") => `(tactic| fail "no call")
def c_most (A : Ad) : Ct := fun ds os P => ∃ rooms held days, YardWf rooms held ∧ ds = [yardD A rooms held, daysD days] ∧ os = [] ∧
  P = fun r os' => if daysOk rooms.length days = true then ∃ p line, r = .ok (.tup [.int (lineV rooms held days (lN line)), .adr p]) ∧ os' = [(p, .lst (line.map Dt.int))] ∧ Least rooms held days 1 1 line else r = .er A.BadDays ∧ os' = []
def rd_most (K : Fg) (A : Ad) (E : XK) : TS :=
  tSeq (tDrop (tCall (spC K 2 (c_see_days A)) [] E (tCons (tVar 0) (tCons (tVar 1) (tNil))))) 
      (tSeq (tAsg (tCall (spC K 4 (c_least_line A)) [] E0 (tCons (tVar 0) (tCons (tVar 1) (tCons (tC (V.int 1)) (tCons (tC (V.int 1)) (tNil)))))) (gName 2)) 
      (tSeq (tAsg (tOp (rI0 fun i j => V.int (i - j)) (tCB (rSum K) (tCons (tLc (iList K (tVar 1)) (gName 4) (tYes) (tCB (rSum K) (tCons (tOp (rIxT K) (tVar 4) (tC (V.int 1))) (tNil))) ([4] : List Nat)) (tNil))) (tCall (spC K 3 (c_wishes_above A)) [] E (tCons (tVar 0) (tCons (tVar 1) (tCons (tVar 2) (tNil)))))) (gName 3)) 
      (tRet (tTup (tCons (tOp (rI0 fun i j => V.int (i + j)) (tCall (spC K 3 (c_water_above A)) [] E (tCons (tVar 0) (tCons (tVar 1) (tCons (tVar 2) (tNil))))) (tVar 3)) (tCons (tVar 2) (tNil)))))))
theorem sem_most {K : Fg} {A : Ad} : ∀ vs H Q E, spC K 2 (c_most A) vs H Q E → rd_most K A E { nx := fun _ H' => Q .non H', rt := Q } (start ["yard", "days", "line", "below", "day"] vs) H :=
  body_okX fun ds os P E hl hc B D hfp hR hE hN => by
    obtain ⟨rooms, held, days, Yw, rfl, rfl, rfl⟩ := hc
    refine q_callX (ds := [yardD A rooms held, daysD days]) (osp := []) (osr := []) (by walk_at "ea") rfl (List.Perm.refl _) ⟨(rooms, iL held, days), trivial, rfl, rfl, rfl⟩ (fun d os1 h => ?_) (fun C os1 h => ?_)
    case refine_2 =>
      obtain ⟨h, rfl⟩ := h
      have h : Res.er C = if daysOk rooms.length days then Res.ok .non else .er A.BadDays := h
      cases e : daysOk rooms.length days with
      | true => rw [e] at h; cases h
      | false =>
        rw [e] at h; cases h
        refine hE.xt ?_
        rw [if_neg (by rw [e]; decide)]
        exact ⟨rfl, rfl⟩
    obtain ⟨h, rfl⟩ := h
    have hd : daysOk rooms.length days = true := by
      cases e : daysOk rooms.length days with
      | true => rfl
      | false =>
        have h : Res.ok d = if daysOk rooms.length days then Res.ok .non else .er A.BadDays := h
        rw [e] at h; cases h
    have h8 := (daysOk_iff.mp hd).1
    refine q_asgM (em_call (osp := []) (osr := []) (ds := [yardD A rooms held, daysD days, .int 1, .int 1]) (ea_cons (ev_var rfl) (ea_cons (ev_var rfl) (ea_cons ev_cint (ea_cons ev_cint ea_nil)))) rfl (List.Perm.refl _) ⟨rooms, held, days, 1, 1, Yw, hd, ⟨by decide, by decide⟩, ⟨by decide, by decide⟩, rfl, rfl, rfl⟩ (fun C os' h => by obtain ⟨_, _, z, _⟩ := h; cases z)) fun d os' hdd => ?_
    obtain ⟨os1, ⟨p, line, e, rfl, hL⟩, rfl⟩ := hdd
    cases e
    have hres : ∀ v, seeR A rooms.length days line v = .ok v := fun v => by unfold seeR; rw [if_pos hd, if_pos hL.ok]
    refine q_asg (d := .int (totW days - wishAb days (lN line) days.length)) (ev_ii (ev_sum (ns := days.map fun d => d.2.sum) (ev_F (ef_mapLi (fun (d : Day) => d.2.sum) (ev_var rfl) LV.lst (fun x _ => ⟨_, tw_name, ev_sum (ev_ixT (ev_var rfl) ev_cint rfl) LV.lst⟩) (by omega))) LV.lst)
      (ev_callL (es := [yardD A rooms held, daysD days, iL line]) (d := .int (wishAb days (lN line) days.length)) (ea_cons (ev_var rfl) (ea_cons (ev_var rfl) (ea_cons (ev_var rfl) ea_nil))) (.cons (.same _) (.cons (.same _) (.cons (.lst List.mem_cons_self) .nil))) rfl ⟨(rooms, iL held, days, line), Yw.four, rfl, rfl, by funext r os'; show _ = (r = seeR A rooms.length days line (.int (wishAb days (lN line) days.length)) ∧ os' = []); rw [hres]⟩ (.int _))) ?_
    refine do_ret (d := .tup [.int (lineV rooms held days (lN line)), .adr p]) (ev_tup (ea_cons (ev_is (ev_ii (ev_callL (es := [yardD A rooms held, daysD days, iL line]) (d := .int (waterAb rooms held days (lN line) days.length)) (ea_cons (ev_var rfl) (ea_cons (ev_var rfl) (ea_cons (ev_var rfl) ea_nil))) (.cons (.same _) (.cons (.same _) (.cons (.lst List.mem_cons_self) .nil))) rfl ⟨(rooms, held, days, line), ⟨Yw.len, Yw.four⟩, rfl, rfl, by funext r os'; show _ = (r = seeR A rooms.length days line (.int (waterAb rooms held days (lN line) days.length)) ∧ os' = []); rw [hres]⟩ (.int _)) (ev_var rfl)) (by unfold lineV; congr 1; omega)) (ea_cons (ev_var rfl) ea_nil)) (by simp)) (hR.rt ?_)
    rw [if_pos hd]
    exact ⟨p, line, rfl, rfl, hL⟩
end Cy

namespace Cy
open PySem L2
open Evl (Ex Ex.refl Ex.trans Ex.new Ex.mut)
section
variable {K : Fg} {ss ss' : SS} {os os' : Own} {ta tb te tx : TE} {d x z : Dt} {ds es : List Dt}
theorem em_ixT {j : Int} {P : Dt → Own → Prop} (h : EvM K te ss os P) (hp : ∀ d os', P d os' → ∃ ts z, d = .tup ts ∧ atI ts j = some z) : EvM K (tOp (rIxT K) te (tC (V.int j))) ss os (fun z os' => ∃ ts, P (.tup ts) os' ∧ atI ts j = some z) := fun σ G H R Q q => h σ G H R _ fun d os' v G1 H1 hP q1 e1 o1 n1 r1 => by
  obtain ⟨ts, z, rfl, hz⟩ := hp d os' hP
  cases r1 with
  | tup h1 h2 =>
    obtain ⟨w, hw, rw_⟩ := atI_rps h2 hz
    exact ⟨_, _, j, w, rfl, rfl, .of (e1 _ _ h1), hw, q z os' w _ H1 ⟨ts, hP, hz⟩ q1 e1 o1 n1 rw_⟩
theorem ev_neB {i j : Bool} (ha : Ev K ta ss os (.bl i)) (hb : Ev K tb ss os (.bl j)) : Ev K (tOp rNe ta tb) ss os (.bl (!decide (i = j))) := by
  have := ev_op ha hb (rv_ne (K := K) (os := os) (x := .bl i) (y := .bl j) (a := .bl i) (b := .bl j) rfl rfl rfl)
  have e : decide (V.bl i = V.bl j) = decide (i = j) := by
    by_cases h : i = j
    · subst h; simp
    · simp [h]
  rw [e] at this
  exact this
theorem ev_notB {a b : Bool} (ha : Ev K ta ss os (.bl a)) (hb : Ev K tb ss os (.bl b)) : Ev K (tOp rNotB ta tb) ss os (.bl (!decide (a = b))) :=
  ev_op ha hb fun ss σ G H R v w ra rb Q k => by
    cases ra; cases rb
    exact ⟨a, b, rfl, rfl, k _ G H (Gq.refl G H) R.gh (.bl _)⟩
end
end Cy

namespace Cy
open PySem L2
open Evl (Ex Ex.refl Ex.trans Ex.new Ex.mut)
section
variable {K : Fg} {ss ss' : SS} {os os' : Own} {ta : TE} {tb te tx : TE} {tA : TA} {d x z : Dt} {ds es : List Dt} {n : Nat} {c : Ct} {E : XK}
theorem em_tup2M {P1 : Dt → Own → Prop} {P2 : Dt → Dt → Own → Prop} (ha : EvM K ta ss os P1) (hb : ∀ d os1, P1 d os1 → EvM K tb ss os1 (P2 d)) : EvM K (tTup (tCons ta (tCons tb tNil))) ss os (fun z os2 => ∃ d e, z = .tup [d, e] ∧ ∃ os1, P1 d os1 ∧ P2 d e os2) := fun σ G H R Q q =>
  ha σ G H R _ fun d os1 v G1 H1 p1 q1 e1 o1 n1 r1 => hb d os1 p1 σ G1 H1 ⟨e1, R.sl.mono q1.ex, o1⟩ _ fun e os2 w G2 H2 p2 q2 e2 o2 n2 r2 => by
    refine ⟨by show 2 ≤ sizeLine; exact sz 2, fun t ht => ?_⟩
    obtain ⟨q3, e3⟩ := gq_new (fp := []) (o := .tup [v, w]) e2 ht
    have hk : ∀ p ∈ keys os1, p ∈ keys os ∨ H p = none := fun p m => by
      obtain ⟨y, hy, ey⟩ := List.mem_map.mp m
      rcases n1 y hy with z | z
      · exact .inr (ey ▸ z)
      · exact .inl (ey ▸ z)
    refine q (.tup [d, e]) os2 _ _ _ ⟨d, e, rfl, os1, p1, p2⟩ ((q1.trans q2 hk).trans q3 (by simp)) e3 (o2.grow q3 e3) (fun y m => ?_) (.tup upd_same (.cons ((r1.mono q2.ex).mono q3.ex) (.cons (r2.mono q3.ex) .nil)))
    rcases n2 y m with z | z
    · exact .inl (q1.dom _ z)
    · exact (hk _ z).symm
/-- a call that lends, one of several values back -/
theorem ep_callL {P : Res → Own → Prop} {R : Dt → Prop} (ha : EvA K tA ss os ds) (hf : Fms os ds es) (hn : es.length = n) (hc : c es [] P) (hP : ∀ r os', P r os' → ∃ d, r = .ok d ∧ os' = [] ∧ R d ∧ Thin d) : EvP K (tCall (spC K n c) [] E tA) ss os R := fun σ G H Rr Q q => ha σ G H Rr _ fun vs G1 H1 q1 e1 r1 => by
  have ow1 := Rr.ow.grow q1 e1
  obtain ⟨Gl, l1, l2, lf, lb⟩ := lend ow1 e1
  have r2 := lf hf r1
  refine ⟨by rw [List.append_nil, r2.length, hn], es, [], P, Gl, l2, by rw [List.append_nil]; exact r2, ownOk_nil, hc, ?_⟩
  intro r os1 G2 H2 hp q2 e2 o2 n2
  obtain ⟨d, rfl, rfl, hR, ht⟩ := hP r os1 hp
  intro v rv
  obtain ⟨G3, q3, e3, tu, no, _, _⟩ := lb G2 H2 q2 e2
  exact q v d G3 H2 hR (q1.trans q3 (by simp)) e3 (Rp.thin tu ht rv)
end
end Cy

namespace Cy
open PySem L2
open Evl (Ex Ex.refl Ex.trans Ex.new Ex.mut)
section
variable {K : Fg} {ss ss' : SS} {os os' : Own} {ta : TE} {tb te tx : TE} {tA : TA} {d x z : Dt} {ds es : List Dt} {n : Nat} {c : Ct} {E : XK}
/-- a call that lends, one of several values back; what is new of one's own is let go -/
theorem ep_callN {P : Res → Own → Prop} {R : Dt → Prop} (ha : EvA K tA ss os ds) (hf : Fms os ds es) (hn : es.length = n) (hc : c es [] P) (hP : ∀ r os', P r os' → ∃ d, r = .ok d ∧ R d ∧ Thin d) : EvP K (tCall (spC K n c) [] E tA) ss os R := fun σ G H Rr Q q => ha σ G H Rr _ fun vs G1 H1 q1 e1 r1 => by
  have ow1 := Rr.ow.grow q1 e1
  obtain ⟨Gl, l1, l2, lf, lb⟩ := lend ow1 e1
  have r2 := lf hf r1
  refine ⟨by rw [List.append_nil, r2.length, hn], es, [], P, Gl, l2, by rw [List.append_nil]; exact r2, ownOk_nil, hc, ?_⟩
  intro r os1 G2 H2 hp q2 e2 o2 n2
  obtain ⟨d, rfl, hR, ht⟩ := hP r os1 hp
  intro v rv
  obtain ⟨G3, q3, e3, tu, no, _, _⟩ := lb G2 H2 q2 e2
  exact q v d G3 H2 hR (q1.trans q3 (by simp)) e3 (Rp.thin tu ht rv)
end
theorem kit_ss {K : Fg} : PySem.W.kitOne K (.type "str") (.type "str") = some true := by rfl
end Cy

namespace Cy
open PySem L2
open Evl (Ex Ex.refl Ex.trans Ex.new Ex.mut)
section
variable {K : Fg} {ss ss' : SS} {os os' osp osr : Own} {ta tb te tx : TE} {tA tr : TA} {d x z : Dt} {ds es : List Dt} {n : Nat} {c : Ct} {E : XK} {B : Bs} {D : Ends} {t u : TS}
/-- x = f(..)[j], a call that may raise -/
theorem q_asgCallIx {i : Nat} {j : Int} {P : Res → Own → Prop} (ha : EvA K tA ss os ds) (hn : ds.length = n) (hp : os.Perm (osp ++ osr)) (hc : c ds osp P)
    (h1 : ∀ d os1, P (.ok d) os1 → ∃ ts z, d = .tup ts ∧ atI ts j = some z ∧ Do K B u (ss.set i (some z)) (os1 ++ osr) D) (h2 : ∀ C os1, P (.er C) os1 → Xt K B E C (os1 ++ osr)) : Do K B (tSeq (tAsg (tOp (rIxT K) (tCall (spC K n c) [] E tA) (tC (V.int j))) (gName i)) u) ss os D := fun σ G H b r => ha σ G H r _ fun vs G1 H1 q1 e1 r1 => by
  have R1 := r.grow q1 e1
  have ow1 := R1.ow.perm hp
  refine ⟨by rw [List.append_nil, r1.length, hn], ds, osp, P, G1, e1, by rw [List.append_nil]; exact r1, ow1.left, hc, ?_⟩
  intro rr os1 G2 H2 hP q2 e2 o2 n2
  have q2' : Gq (keys os) G1 H1 G2 H2 := q2.wk fun p m => .inl (keys_sub hp p m)
  have b2 : BsOk B (os1 ++ osr) G2 H2 := (b.grow q1).growM q2' (new_back hp n2)
  have o2' := ow1.back q2 e2 o2 n2
  cases rr with
  | er C => exact h2 C os1 hP G2 H2 b2 e2 o2'
  | ok d =>
    intro v rv
    obtain ⟨ts, z, rfl, hz, k⟩ := h1 d os1 hP
    cases rv with
    | tup g1 g2 =>
      obtain ⟨w, hw, rw_⟩ := atI_rps g2 hz
      exact ⟨_, _, j, w, rfl, rfl, .of (e2 _ _ g1), hw, k _ G2 H2 b2 ⟨e2, (R1.sl.mono q2.ex).set i rw_, o2'⟩⟩
/-- a call that lends; what it hands back stays as it is -/
theorem ep_callZ {P : Res → Own → Prop} {R : Dt → Prop} (ha : EvA K tA ss os ds) (hf : Fms os ds es) (hn : es.length = n) (hc : c es [] P)
    (hP : ∀ r os1, P r os1 → ∃ d d', r = .ok d ∧ Fm os1 d d' ∧ R d' ∧ Thin d ∧ ∀ y ∈ os1, ThinC y.2) : EvP K (tCall (spC K n c) [] E tA) ss os R := fun σ G H Rr Q q => ha σ G H Rr _ fun vs G1 H1 q1 e1 r1 => by
  have ow1 := Rr.ow.grow q1 e1
  obtain ⟨Gl, l1, l2, lf, lb⟩ := lend ow1 e1
  have r2 := lf hf r1
  refine ⟨by rw [List.append_nil, r2.length, hn], es, [], P, Gl, l2, by rw [List.append_nil]; exact r2, ownOk_nil, hc, ?_⟩
  intro r os1 G2 H2 hp q2 e2 o2 n2
  obtain ⟨d, d', rfl, hfd, hR, ht, htc⟩ := hP r os1 hp
  intro v rv
  obtain ⟨G3, q3, e3, tu, no, _, _⟩ := lb G2 H2 q2 e2
  have o3 : OwnOk K G3 H2 os1 := ⟨o2.nd, fun y m => ⟨no _ (o2.at_ y m).1, CelOk.thin tu (htc y m) (o2.at_ y m).2⟩⟩
  have rv3 : Rps K G3 [v] [d] := .one (Rp.thin tu ht rv)
  -- the new cells stay
  classical
  obtain ⟨G4, m1, m2, mf, _⟩ := lend o3 e3
  have rv4 := mf (.cons hfd .nil) rv3
  cases rv4 with
  | cons rv4 _ =>
    have nk : ∀ a ∈ keys os1, H1 a = none := fun a m => by
      obtain ⟨y, hy, e⟩ := List.mem_map.mp m
      rcases n2 y hy with z | z
      · rw [← e]; exact z
      · simp at z
    -- G4 is G3 with these cells
    let G5 : Hp := fun a => if a ∈ keys os1 then H2 a else G3 a
    have gi : ∀ {a}, a ∈ keys os1 → G5 a = H2 a := fun m => if_pos m
    have go : ∀ {a}, a ∉ keys os1 → G5 a = G3 a := fun m => if_neg m
    have e35 : Ex G3 G5 := fun a o h => by
      by_cases m : a ∈ keys os1
      · rw [gi m]; exact e3 _ _ h
      · rw [go m]; exact h
    have e52 : Ex G5 H2 := fun a o h => by
      by_cases m : a ∈ keys os1
      · rw [gi m] at h; exact h
      · rw [go m] at h; exact e3 _ _ h
    have hl : ∀ p ds, (p, Cel.lst ds) ∈ os1 → ∃ vs, G5 p = some (.lst vs) ∧ Rps K G5 vs ds := fun p ds m => by
      obtain ⟨_, vs, h1, h2⟩ := o3.at_ _ m
      exact ⟨vs, (gi (mem_keys m)).trans h1, h2.mono e35⟩
    have hn5 : ∀ p ds, (p, Cel.lst ds) ∈ os1 → ∃ vs, G5 p = some (.lst vs) ∧ Rps K G3 vs ds := fun p ds m => by
      obtain ⟨_, vs, h1, h2⟩ := o3.at_ _ m
      exact ⟨vs, (gi (mem_keys m)).trans h1, h2⟩
    have hi : ∀ p C ns ds, (p, Cel.ins C ns ds) ∈ os1 → ∃ dx vs, G5 p = some (.ins C dx (ns.zip vs)) ∧ Rps K G3 vs ds := fun p C ns ds m => by
      obtain ⟨_, dx, vs, _, h1, h2⟩ := o3.at_ _ m
      exact ⟨dx, vs, (gi (mem_keys m)).trans h1, h2⟩
    have rv5 : Rp K G5 v d' := Rp.fm e35 hl hn5 hi hfd (Rp.thin tu ht rv)
    have q5 : Gq [] G1 H1 G5 H2 := ⟨q3.ex.trans e35, fun a o h => by
      by_cases m : a ∈ keys os1
      · exact .inr (.inl (nk a m))
      · rw [go m] at h; exact q3.new a o h, q3.keep, q3.dom⟩
    exact q v d' G5 H2 hR (q1.trans q5 (by simp)) e52 rv5
/-- arguments that may be one of several -/
def EvAP (K : Fg) (ta : TA) (ss : SS) (os : Own) (P : List Dt → Prop) : Prop := ∀ σ G H, Rep K ss os σ G H → ∀ Q : List V → Hp → Prop, (∀ vs ds G' H', P ds → Gq [] G H G' H' → Ex G' H' → Rps K G' vs ds → Q vs H') → ta σ H Q
theorem eap_nil : EvAP K tNil ss os (fun ds => ds = []) := fun σ G H R Q q => q [] [] G H rfl (Gq.refl G H) R.gh .nil
theorem eap_cons {P : Dt → Prop} {PL : List Dt → Prop} (h : EvP K te ss os P) (hr : EvAP K tr ss os PL) : EvAP K (tCons te tr) ss os (fun ds => ∃ x r, ds = x :: r ∧ P x ∧ PL r) := fun σ G H R Q q =>
  h σ G H R _ fun v d G1 H1 p1 q1 e1 r1 => hr σ G1 H1 (R.grow q1 e1) _ fun vs ds G2 H2 p2 q2 e2 r2 => q (v :: vs) (d :: ds) G2 H2 ⟨d, ds, rfl, p1, p2⟩ (q1.trans q2 (by simp)) e2 (.cons (r1.mono q2.ex) r2)
theorem ep_ev (h : Ev K te ss os d) : EvP K te ss os (fun x => x = d) := fun σ G H R Q q => h σ G H R Q fun v G1 H1 q1 e1 r1 => q v d G1 H1 rfl q1 e1 r1
theorem ev_callAP {PL : List Dt → Prop} (ha : EvAP K tA ss os PL) (hn : ∀ ds, PL ds → ds.length = n) (hc : ∀ ds, PL ds → c ds [] (fun r os' => r = .ok d ∧ os' = [])) : Ev K (tCall (spC K n c) [] E tA) ss os d := fun σ G H R Q q => ha σ G H R _ fun vs ds G1 H1 p1 q1 e1 r1 => by
  refine ⟨by rw [List.append_nil, r1.length, hn ds p1], ds, [], _, G1, e1, by rw [List.append_nil]; exact r1, ownOk_nil, hc ds p1, ?_⟩
  rintro r os' G2 H2 ⟨rfl, rfl⟩ q2 e2 _ _ v rv
  exact q v G2 H2 (q1.trans q2 (by simp)) e2 rv
/-- over a list of one's own that holds the same meanwhile -/
theorem do_forO {tl : TE} {g : TG} {p : Addr} (h : Ev K tl ss os (.adr p)) (I : Nat → SS → Own → Prop) (hi : I 0 ss os) (hm : ∀ i ss' os', I i ss' os' → (p, Cel.lst ds) ∈ os')
    (hs : ∀ (i : Nat) (d : Dt) ss' os', ds[i]? = some d → I i ss' os' → ∃ ss2, Tg K g d ss' ss2 ∧ Do K B t ss2 os' { D with nx := At K B (I (i + 1)), ct := At K B (I (i + 1)), bk := D.nx })
    (hd : ∀ ss' os', I ds.length ss' os' → Nx K B D.nx ss' os') : Do K B (tFor (iList K tl) g t) ss os D := fun σ G H b r =>
  h σ G H r _ fun v G1 H1 q1 e1 r1 => by
    cases r1
    have b1 := b.grow q1
    have R1 := r.grow q1 e1
    obtain ⟨_, vs, h1, rs⟩ := R1.ow.at_ _ (hm 0 ss os hi)
    refine ⟨p, rfl, ⟨vs, .of h1⟩, fun i m σ H => m = ds.length - i ∧ i ≤ ds.length ∧ At K B (I i) σ H, ⟨ds.length, by simp, Nat.zero_le _, ss, os, G1, hi, b1, R1⟩, ?_⟩
    rintro i m σ H ⟨rfl, hil, ss', os', G', hI, b', r'⟩
    obtain ⟨_, ws, hw, rw_⟩ := r'.ow.at_ _ (hm i ss' os' hI)
    have hlen : ws.length = ds.length := rw_.length
    by_cases hlt : i < ds.length
    · refine .inr ⟨⟨ws, ws[i], .of hw, by simp [hlen, hlt]⟩, At K B (I (i + 1)), fun σ' H' p' => ⟨ds.length - (i + 1), by omega, rfl, hlt, p'⟩, fun x H' y => ?_⟩
      obtain ⟨e, y⟩ := y
      subst e
      have hx := y ws (.of hw)
      obtain ⟨d, hd1, rd⟩ := rw_.get' hx
      obtain ⟨ss2, tg, dd⟩ := hs i d ss' os' hd1 hI
      exact tg x σ G' _ _ r'.gh r'.sl rd fun σ2 s2 => dd σ2 G' _ b' ⟨r'.gh, s2, r'.ow⟩
    · have e : i = ds.length := by omega
      subst e
      exact .inl ⟨⟨ws, .of hw, by omega⟩, hd ss' os' hI σ G' H b' r'⟩
theorem q_forO {tl : TE} {g : TG} {p : Addr} (h : Ev K tl ss os (.adr p)) (I : Nat → SS → Own → Prop) (hi : I 0 ss os) (hm : ∀ i ss' os', I i ss' os' → (p, Cel.lst ds) ∈ os')
    (hs : ∀ (i : Nat) (d : Dt) ss' os', ds[i]? = some d → I i ss' os' → ∃ ss2, Tg K g d ss' ss2 ∧ Do K B t ss2 os' { D with nx := At K B (I (i + 1)), ct := At K B (I (i + 1)), bk := u D })
    (hd : ∀ ss' os', I ds.length ss' os' → Do K B u ss' os' D) : Do K B (tSeq (tFor (iList K tl) g t) u) ss os D := do_forO (D := { D with nx := u D }) h I hi hm hs hd
theorem em_mono {P R : Dt → Own → Prop} (h : EvM K te ss os P) (hp : ∀ d os', P d os' → R d os') : EvM K te ss os R := fun σ G H Rr Q q => h σ G H Rr Q fun d os' v G' H' p q1 e1 o1 n1 r1 => q d os' v G' H' (hp d os' p) q1 e1 o1 n1 r1
/-- ([..], [..]): both lists one's own -/
theorem em_tup2FF {xs ys : List Dt} (ha : EvF K ta ss os xs) (hb : ∀ q, EvF K tb ss (os ++ [(q, .lst xs)]) ys) : EvM K (tTup (tCons ta (tCons tb tNil))) ss os (fun z os2 => ∃ a b, z = .tup [.adr a, .adr b] ∧ os2 = os ++ [(a, .lst xs)] ++ [(b, .lst ys)]) :=
  em_mono (em_tup2M (P1 := MadeL os xs) (P2 := fun d e os2 => ∃ a b, d = .adr a ∧ e = .adr b ∧ os2 = os ++ [(a, .lst xs)] ++ [(b, .lst ys)]) (em_F ha) fun d os1 h1 => by
    obtain ⟨a, na, rfl, rfl⟩ := h1
    exact em_mono (em_F (hb a)) fun e os2 h2 => by
      obtain ⟨b, nb, rfl, rfl⟩ := h2
      exact ⟨a, b, rfl, rfl, rfl⟩) fun z os2 h => by
    obtain ⟨d, e, rfl, os1, _, a, b, rfl, rfl, rfl⟩ := h
    exact ⟨a, b, rfl, rfl⟩
end
end Cy

namespace Cy
open PySem L2
open Evl (Ex Ex.refl Ex.trans Ex.new Ex.mut)
/-! ### dicts of one's own, keys tuples of ints -/
section
variable {β : Type}
def look (kvs : List (List Int × β)) (k : List Int) : Option β := (kvs.find? fun q => decide (q.1 = k)).map (·.2)
def put (kvs : List (List Int × β)) (k : List Int) (v : β) : List (List Int × β) := if (kvs.any fun q => decide (q.1 = k)) = true then kvs.map (fun q => if q.1 = k then (q.1, v) else q) else kvs ++ [(k, v)]
theorem look_pos {p : List Int × β} {r : List (List Int × β)} {k : List Int} (e : p.1 = k) : look (p :: r) k = some p.2 := by simp [look, List.find?_cons, e]
theorem look_neg {p : List Int × β} {r : List (List Int × β)} {k : List Int} (e : ¬ p.1 = k) : look (p :: r) k = look r k := by simp [look, List.find?_cons, e]
theorem look_any (k : List Int) : ∀ kvs : List (List Int × β), (kvs.any fun q => decide (q.1 = k)) = (look kvs k).isSome
  | [] => rfl
  | p :: r => by
    rw [List.any_cons]
    by_cases e : p.1 = k
    · simp [look_pos e, e]
    · rw [look_neg e, look_any k r]; simp [e]
theorem look_map {γ : Type} (f : β → γ) (k : List Int) : ∀ kvs : List (List Int × β), look (kvs.map fun q => (q.1, f q.2)) k = (look kvs k).map f
  | [] => rfl
  | p :: r => by
    rw [List.map_cons]
    by_cases e : p.1 = k
    · rw [look_pos (p := (p.1, f p.2)) e, look_pos e]; rfl
    · rw [look_neg (p := (p.1, f p.2)) e, look_neg e, look_map f k r]
theorem look_snoc (k j : List Int) (v : β) : ∀ kvs : List (List Int × β), look kvs k = none → look (kvs ++ [(k, v)]) j = if j = k then some v else look kvs j
  | [], _ => by
    by_cases e : k = j
    · rw [if_pos e.symm]; exact look_pos (p := (k, v)) e
    · rw [if_neg (fun z => e z.symm)]; exact look_neg (p := (k, v)) e
  | p :: r, h => by
    rw [List.cons_append]
    have hk : ¬ p.1 = k := fun z => by rw [look_pos z] at h; cases h
    rw [look_neg hk] at h
    by_cases e : p.1 = j
    · rw [look_pos e, look_pos e, if_neg (fun z => hk (e.trans z))]
    · rw [look_neg e, look_neg e, look_snoc k j v r h]
theorem look_repl (k j : List Int) (v : β) : ∀ kvs : List (List Int × β), look (kvs.map fun q => if q.1 = k then (q.1, v) else q) j = (look kvs j).map fun x => if j = k then v else x
  | [] => rfl
  | p :: r => by
    have ih := look_repl k j v r
    rw [List.map_cons]
    by_cases h : p.1 = k
    · rw [if_pos h]
      by_cases e : p.1 = j
      · rw [look_pos (p := (p.1, v)) e, look_pos e, Option.map_some, if_pos (e.symm.trans h)]
      · rw [look_neg (p := (p.1, v)) e, look_neg e, ih]
    · rw [if_neg h]
      by_cases e : p.1 = j
      · rw [look_pos e, look_pos e, Option.map_some, if_neg (fun z => h (e.trans z))]
      · rw [look_neg e, look_neg e, ih]
theorem look_put (kvs : List (List Int × β)) (k j : List Int) (v : β) : look (put kvs k v) j = if j = k then some v else look kvs j := by
  unfold put
  by_cases a : (kvs.any fun q => decide (q.1 = k)) = true
  · rw [if_pos a, look_repl]
    rw [look_any] at a
    by_cases e : j = k
    · obtain ⟨x, hx⟩ := Option.isSome_iff_exists.mp a
      rw [if_pos e, e, hx]; simp
    · rw [if_neg e]
      cases look kvs j <;> simp [e]
  · rw [if_neg a]
    rw [look_any] at a
    exact look_snoc k j v kvs (by cases h : look kvs k with | none => rfl | some x => rw [h] at a; exact absurd rfl a)
theorem put_new {kvs : List (List Int × β)} {k : List Int} (v : β) (h : look kvs k = none) : put kvs k v = kvs ++ [(k, v)] := by
  unfold put
  rw [look_any, h]; rfl
theorem put_keys (kvs : List (List Int × β)) (k : List Int) (v : β) : (put kvs k v).map (·.1) = if (look kvs k).isSome = true then kvs.map (·.1) else kvs.map (·.1) ++ [k] := by
  unfold put
  rw [look_any]
  split
  · rw [List.map_map]
    refine List.map_congr_left fun q _ => ?_
    show (if q.1 = k then (q.1, v) else q).1 = q.1
    split <;> rfl
  · rw [List.map_append]; rfl
theorem put_map {γ : Type} (f : β → γ) (kvs : List (List Int × β)) (k : List Int) (v : β) : put (kvs.map fun q => (q.1, f q.2)) k (f v) = (put kvs k v).map fun q => (q.1, f q.2) := by
  have h := look_map f k kvs
  unfold put
  rw [look_any, look_any, h, Option.isSome_map]
  split
  · rw [List.map_map, List.map_map]
    refine List.map_congr_left fun q _ => ?_
    show (if q.1 = k then (q.1, f v) else (q.1, f q.2)) = ((if q.1 = k then (q.1, v) else q).1, f (if q.1 = k then (q.1, v) else q).2)
    split <;> rfl
  · rw [List.map_append]; rfl
theorem put_len (kvs : List (List Int × β)) (k : List Int) (v : β) : (put kvs k v).length ≤ kvs.length + 1 := by
  unfold put
  split
  · rw [List.length_map]; omega
  · simp
theorem look_mem {kvs : List (List Int × β)} {k : List Int} {v : β} (h : look kvs k = some v) : (k, v) ∈ kvs := by
  unfold look at h
  cases e : kvs.find? fun q => decide (q.1 = k) with
  | none => rw [e] at h; cases h
  | some q =>
    rw [e] at h
    cases h
    have := List.find?_some e
    have e2 : q.1 = k := by simpa using this
    rw [← e2]
    exact List.mem_of_find?_eq_some e
theorem look_of_mem {kvs : List (List Int × β)} {k : List Int} (h : k ∈ kvs.map (·.1)) : ∃ v, look kvs k = some v := by
  obtain ⟨q, hq, e⟩ := List.mem_map.mp h
  have : (kvs.any fun q => decide (q.1 = k)) = true := List.any_eq_true.mpr ⟨q, hq, by simpa using e⟩
  rw [look_any] at this
  exact Option.isSome_iff_exists.mp this
end
theorem ky_inj {a b : List Int} (h : ky a = ky b) : a = b := by
  have : ∀ {a b : List Int}, a.map (Sum.inl : Int → Key) = b.map Sum.inl → a = b := fun {a} => by
    induction a with
    | nil => intro b h; cases b with
      | nil => rfl
      | cons y s => simp at h
    | cons x r ih => intro b h; cases b with
      | nil => simp at h
      | cons y s =>
        rw [List.map_cons, List.map_cons] at h
        injection h with h1 h2
        injection h1 with h1
        rw [h1, ih h2]
  exact this h
abbrev keyD (k : List Int) : Dt := .tup (k.map Dt.int)
section
variable {K : Fg} {G H : Hp}
theorem valV_zip (k : List Int) : ∀ {kvs : List (List Int × Dt)} {vs : List V}, Rps K G vs (kvs.map (·.2)) →
    (look kvs k = none ∧ valV ((kvs.map fun q => ky q.1).zip vs) (ky k) = none) ∨ ∃ d v, look kvs k = some d ∧ valV ((kvs.map fun q => ky q.1).zip vs) (ky k) = some v ∧ Rp K G v d
  | [], _, h => .inl ⟨rfl, by cases h; rfl⟩
  | p :: r, vs, h => by
    cases h with
    | cons h1 h2 =>
      rename_i v vs
      rw [List.map_cons, List.zip_cons_cons]
      by_cases e : p.1 = k
      · exact .inr ⟨p.2, v, look_pos e, valV_pos (p := (ky p.1, v)) (by rw [e]), h1⟩
      · have e' : ¬ ky p.1 = ky k := fun z => e (ky_inj z)
        rw [look_neg e, valV_neg (p := (ky p.1, v)) e']
        exact valV_zip k h2
theorem putK_zip {k : List Int} {v : V} {d : Dt} (hv : Rp K G v d) {kvs : List (List Int × Dt)} {vs : List V} (h : Rps K G vs (kvs.map (·.2))) :
    ∃ vs', vs'.length = (put kvs k d).length ∧ putK ((kvs.map fun q => ky q.1).zip vs) (ky k) v = ((put kvs k d).map fun q => ky q.1).zip vs' ∧ Rps K G vs' ((put kvs k d).map (·.2)) := by
  have hl : vs.length = kvs.length := by rw [h.length, List.length_map]
  have ha : (((kvs.map fun q => ky q.1).zip vs).any fun kv => decide (kv.1 = ky k)) = kvs.any fun q => decide (q.1 = k) := by
    rw [valV_any, look_any]
    rcases valV_zip k h with ⟨a, b⟩ | ⟨d, v, a, b, _⟩ <;> rw [a, b] <;> rfl
  unfold putK put
  rw [ha]
  split
  · have key : ∀ {kvs : List (List Int × Dt)} {vs : List V}, Rps K G vs (kvs.map (·.2)) → ∃ vs', vs'.length = (kvs.map fun q => if q.1 = k then (q.1, d) else q).length ∧
        ((kvs.map fun q => ky q.1).zip vs).map (fun kv => if kv.1 = ky k then (kv.1, v) else kv) = ((kvs.map fun q => if q.1 = k then (q.1, d) else q).map fun q => ky q.1).zip vs' ∧ Rps K G vs' ((kvs.map fun q => if q.1 = k then (q.1, d) else q).map (·.2)) := fun {kvs} => by
      induction kvs with
      | nil => intro vs h; cases h; exact ⟨[], rfl, rfl, .nil⟩
      | cons p r ih =>
        intro vs h
        cases h with
        | cons h1 h2 =>
          rename_i w ws
          obtain ⟨vs', l, e, rr⟩ := ih h2
          by_cases q : p.1 = k
          · refine ⟨v :: vs', by simp at l ⊢; exact l, ?_, ?_⟩
            · rw [List.map_cons, List.zip_cons_cons, List.map_cons, List.map_cons, List.map_cons, if_pos (by rw [q]), if_pos q, List.zip_cons_cons, e]
            · rw [List.map_cons, List.map_cons, if_pos q]; exact .cons hv rr
          · refine ⟨w :: vs', by simp at l ⊢; exact l, ?_, ?_⟩
            · rw [List.map_cons, List.zip_cons_cons, List.map_cons, List.map_cons, List.map_cons, if_neg (fun z => q (ky_inj z)), if_neg q, List.zip_cons_cons, e]
            · rw [List.map_cons, List.map_cons, if_neg q]; exact .cons h1 rr
    exact key h
  · refine ⟨vs ++ [v], by simp [hl], ?_, ?_⟩
    · rw [List.map_append, List.zip_append (by rw [List.length_map, hl])]; rfl
    · rw [List.map_append]; exact h.append (.one hv)
theorem Rp.key {v : V} {k : List Int} (h : Rp K G v (keyD k)) : ∃ b, v = .ref b ∧ G b = some (.tup ((ky k).map kV)) := by
  cases h with
  | tup h1 h2 =>
    refine ⟨_, rfl, ?_⟩
    rw [h1, h2.to_ints]
    congr 2
    unfold ky
    rw [List.map_map]; rfl
end
section
variable {K : Fg} {ss ss' : SS} {os os' : Own} {ta tb td ty te tx : TE} {d x z : Dt} {ds es : List Dt} {B : Bs} {D : Ends} {t u : TS} {p : Addr} {kvs : List (List Int × Dt)} {k : List Int}
/-- d[k], there -/
theorem ev_dget (hd : Ev K td ss os (.adr p)) (m : (p, Cel.dT kvs) ∈ os) (hy : Ev K ty ss os (keyD k)) (hk : look kvs k = some z) : Ev K (tDGet td ty) ss os z := fun σ G H R Q q =>
  hd σ G H R _ fun v G1 H1 q1 e1 r1 => hy σ G1 H1 (R.grow q1 e1) _ fun w G2 H2 q2 e2 r2 => by
    cases r1
    have R2 := (R.grow q1 e1).grow q2 e2
    obtain ⟨_, vs, l, h1, rs⟩ := R2.ow.at_ _ m
    obtain ⟨b, rfl, hb⟩ := r2.key
    rcases valV_zip k rs with ⟨a, _⟩ | ⟨d, v, a, c, rv⟩
    · rw [a] at hk; cases hk
    · rw [a] at hk; cases hk
      refine ⟨p, v, rfl, ?_, q v G2 H2 (q1.trans q2 (by simp)) e2 rv⟩
      have := DGet.t (k := ky k) h1 (e2 _ _ hb)
      rw [c] at this
      exact this
/-- d.get(k, x) -/
theorem ev_dget2 {y : Dt} (hd : Ev K td ss os (.adr p)) (m : (p, Cel.dT kvs) ∈ os) (hy : Ev K ty ss os (keyD k)) (hx : Ev K tx ss os y) (hz : (look kvs k).getD y = z) : Ev K (tDGet2 td ty tx) ss os z := fun σ G H R Q q =>
  hd σ G H R _ fun v G1 H1 q1 e1 r1 => by
    cases r1
    have R1 := R.grow q1 e1
    obtain ⟨_, vs0, l0, h0, _⟩ := R1.ow.at_ _ m
    refine ⟨p, rfl, .inr ⟨_, .of h0⟩, hy σ G1 H1 R1 _ fun w G2 H2 q2 e2 r2 => hx σ G2 H2 (R1.grow q2 e2) _ fun u G3 H3 q3 e3 r3 => ?_⟩
    have R3 := (R1.grow q2 e2).grow q3 e3
    obtain ⟨_, vs, l, h1, rs⟩ := R3.ow.at_ _ m
    obtain ⟨b, rfl, hb⟩ := (r2.mono q3.ex).key
    have q13 := (q1.trans q2 (by simp)).trans q3 (by simp)
    have dg := DGet.t (k := ky k) h1 (e3 _ _ hb)
    rcases valV_zip k rs with ⟨a, c⟩ | ⟨d, v, a, c, rv⟩
    · rw [c] at dg
      rw [a] at hz
      subst hz
      exact ⟨_, dg, q u G3 H3 q13 e3 r3⟩
    · rw [c] at dg
      rw [a] at hz
      subst hz
      exact ⟨_, dg, q v G3 H3 q13 e3 rv⟩
theorem ev_din (hy : Ev K ty ss os (keyD k)) (hd : Ev K td ss os (.adr p)) (m : (p, Cel.dT kvs) ∈ os) : Ev K (tDIn ty td) ss os (.bl (look kvs k).isSome) := fun σ G H R Q q =>
  hy σ G H R _ fun w G1 H1 q1 e1 r1 => hd σ G1 H1 (R.grow q1 e1) _ fun v G2 H2 q2 e2 r2 => by
    cases r2
    have R2 := (R.grow q1 e1).grow q2 e2
    obtain ⟨_, vs, l, h1, rs⟩ := R2.ow.at_ _ m
    obtain ⟨b, rfl, hb⟩ := (r1.mono q2.ex).key
    have dg := DGet.t (k := ky k) h1 (e2 _ _ hb)
    rcases valV_zip k rs with ⟨a, c⟩ | ⟨d, v, a, c, rv⟩
    · rw [c] at dg
      rw [a] at q
      exact ⟨p, _, rfl, dg, q _ G2 H2 (q1.trans q2 (by simp)) e2 (.bl _)⟩
    · rw [c] at dg
      rw [a] at q
      exact ⟨p, _, rfl, dg, q _ G2 H2 (q1.trans q2 (by simp)) e2 (.bl _)⟩
theorem ev_dnin (hy : Ev K ty ss os (keyD k)) (hd : Ev K td ss os (.adr p)) (m : (p, Cel.dT kvs) ∈ os) : Ev K (tDNotIn ty td) ss os (.bl (!(look kvs k).isSome)) := fun σ G H R Q q =>
  hy σ G H R _ fun w G1 H1 q1 e1 r1 => hd σ G1 H1 (R.grow q1 e1) _ fun v G2 H2 q2 e2 r2 => by
    cases r2
    have R2 := (R.grow q1 e1).grow q2 e2
    obtain ⟨_, vs, l, h1, rs⟩ := R2.ow.at_ _ m
    obtain ⟨b, rfl, hb⟩ := (r1.mono q2.ex).key
    have dg := DGet.t (k := ky k) h1 (e2 _ _ hb)
    rcases valV_zip k rs with ⟨a, c⟩ | ⟨d, v, a, c, rv⟩
    · rw [c] at dg
      rw [a] at q
      exact ⟨p, _, rfl, dg, q _ G2 H2 (q1.trans q2 (by simp)) e2 (.bl _)⟩
    · rw [c] at dg
      rw [a] at q
      exact ⟨p, _, rfl, dg, q _ G2 H2 (q1.trans q2 (by simp)) e2 (.bl _)⟩
/-- d[k] = e -/
theorem do_dput (he : Ev K te ss os d) (hd : Ev K td ss os (.adr p)) (m : (p, Cel.dT kvs) ∈ os) (hy : Ev K ty ss os (keyD k)) (hz : kvs.length < 1000000) (kk : Nx K B D.nx ss (setC os p (.dT (put kvs k d)))) : Do K B (sDPut td ty te) ss os D := fun σ G H b r =>
  he σ G H r _ fun v G1 H1 q1 e1 r1 => hd σ G1 H1 (r.grow q1 e1) _ fun x G2 H2 q2 e2 r2 => hy σ G2 H2 ((r.grow q1 e1).grow q2 e2) _ fun w G3 H3 q3 e3 r3 => by
    cases r2
    have R3 := ((r.grow q1 e1).grow q2 e2).grow q3 e3
    obtain ⟨gp, vs, l, h1, rs⟩ := R3.ow.at_ _ m
    obtain ⟨bb, rfl, hb⟩ := r3.key
    have rv := (r1.mono q2.ex).mono q3.ex
    obtain ⟨vs', l', e', rs'⟩ := putK_zip (k := k) rv rs
    refine ⟨p, _, rfl, DPut.t (k := ky k) h1 (e3 _ _ hb) (by rw [List.length_zip, List.length_map, l, Nat.min_self]; exact szl hz), ?_⟩
    obtain ⟨q4, e4⟩ := gq_put (fp := keys os) (o := .dT (putK ((kvs.map fun q => ky q.1).zip vs) (ky k) v)) R3.gh gp h1 (mem_keys m)
    refine kk σ G3 _ ((((b.grow q1).grow q2).grow q3).growM q4 fun x mx => ?_) ⟨e4, R3.sl, R3.ow.put ⟨vs', l', by rw [upd_same, e'], rs'⟩⟩
    right
    have : x.1 ∈ keys (setC os p (.dT (put kvs k d))) := mem_keys mx
    rw [keys_setC] at this
    exact this
theorem q_dput (he : Ev K te ss os d) (hd : Ev K td ss os (.adr p)) (m : (p, Cel.dT kvs) ∈ os) (hy : Ev K ty ss os (keyD k)) (hz : kvs.length < 1000000) (kk : Do K B u ss (setC os p (.dT (put kvs k d))) D) : Do K B (tSeq (sDPut td ty te) u) ss os D :=
  do_dput (D := { D with nx := u D }) he hd m hy hz kk
def MadeD (os : Own) (kvs : List (List Int × Dt)) : Dt → Own → Prop := fun d os' => ∃ p, p ∉ keys os ∧ d = .adr p ∧ os' = os ++ [(p, .dT kvs)]
/-- {} -/
theorem em_dnew : EvM K tDNewT ss os (MadeD os []) := fun σ G H R Q q => fun p hp => by
  have np := R.ow.ne hp
  obtain ⟨q1, e1⟩ := gq_own (fp := []) (o := .dT []) R.gh hp
  refine q (.adr p) _ _ G _ ⟨p, np, rfl, rfl⟩ (q1.wk (by simp)) e1 (R.ow.add np (Evl.fresh_back R.gh hp) ⟨[], rfl, upd_same, .nil⟩) (fun x m => ?_) (.adr p)
  rcases List.mem_append.mp m with m | m
  · exact .inr (mem_keys m)
  · have e : x = (p, .dT []) := by simpa using m
    subst e
    exact .inl hp
end
/-! ### {k: v}, k a tuple -/
def tDispT (tk tv : TE) : TE := fun σ H Q => ∀ p, H p = none → tPairs [(tk, tv)] σ (upd H p (.dT [])) fun ps H2 => H2 p = some (.dT []) ∧ ∃ b ks v, ps = [(.ref b, v)] ∧ H2 b = some (.tup (ks.map kV)) ∧ Q (.ref p) (upd H2 p (.dT [(ks, v)]))
theorem pe_dispT {X : Cx} {pos : Pos} {k v : Expr} {tk tv : TE} (hu : X.A.units + 1 < cLine) (hk : PE X k tk) (hv : PE X v tv) : PE X (.Dict [some k] [v] pos) (tDispT tk tv) := by
  refine ⟨fun pins s σ H Q I q => ?_⟩
  have hn := I.hok.fresh (Nat.le_refl s.heap.objs.size)
  have I1 := I.laid (a := s.heap.objs.size) (o := .dT []) (h' := s.heap.push { cls := .type "dict", data := .dict #[] }) (t' := s.toks) (fun _ _ q => Heap.get?_push_of_some _ q) (Nat.le_refl _) (dt_empty s.heap I.big)
  have hp : PPs X pos [some k] [v] [(tk, tv)] := pps_cons hk hv pps_nil
  rw [arm_eval_Dict, zip_pairTrees [some k] [v] X.env pos rfl rfl, dictDisplay_pairs (pairTrees [some k] [v] X.env pos) (by simp [pairTrees]) (by simp [pairTrees])]
  refine wpAny_bind (wpAny_standAt (wpAny_bind (wpAny_subDictH (knd := tupleKind (mixKind X.prog X.w)) (Q := fun d s' => wpAny (model X.prog X.w) X.A (pure (Value.ref d)) (fun u s' => ∃ y H', Inv X pins σ H' s' ∧ RelV y u ∧ Q y H') X.xe s') (show X.A.units < cLine by omega) (by simp [pairTrees])
    (thn (hp.run pins _ σ _ _ I1 (q _ hn)) fun ws s2 ⟨ps, H2, I2, rel, e, b, ks, w, ep, eb, q2⟩ => ?_))))
  subst ep
  obtain ⟨u1, u2, rfl, r1, r2⟩ : ∃ u1 u2, ws = [(u1, u2)] ∧ RelV (.ref b) u1 ∧ RelV w u2 := by
    cases rel with
    | cons h1 h2 =>
      cases h2
      exact ⟨_, _, rfl, h1.1, h1.2⟩
  · have r1 : u1 = Value.ref b := r1
    subst r1
    obtain ⟨z, hd, xs, rel0, dd⟩ := dt_of I2.hok e
    cases rel0
    refine ⟨[(ks, b, u2)], ⟨rfl, rfl, key_of I2.hok eb, trivial⟩, dd, fun h' tkk dd' hs => wpAny_pure ⟨.ref s.heap.objs.size, _, ?_, rfl, q2⟩⟩
    obtain ⟨qo, es, epp, hq, hx2, hx3, hx4, _, hx5⟩ := dd'
    refine d_write I2 (by rw [e]; exact True.intro) hs ⟨qo, hq⟩ ⟨by show 1 ≤ sizeLine; exact sz 1, hd, [(ks, b, u2)], .cons ⟨rfl, ?_, r2⟩ .nil, qo, es, epp, hq, hx2, hx3, hx4, hx5⟩
    show upd H2 s.heap.objs.size _ b = _
    rw [upd_ne (ne_of eb e (fun z => nomatch z))]
    exact eb
section
variable {K : Fg} {ss ss' : SS} {os os' : Own} {ta tb td ty te tx : TE} {d x z : Dt} {ds es : List Dt} {B : Bs} {D : Ends} {t u : TS} {p : Addr} {kvs : List (List Int × Dt)} {k : List Int}
theorem em_disp (hk : Ev K ta ss os (keyD k)) (hv : Ev K tb ss os d) (hh : ∀ p, p ∉ keys os → Ev K ta ss (os ++ [(p, .dT [])]) (keyD k) ∧ Ev K tb ss (os ++ [(p, .dT [])]) d) : EvM K (tDispT ta tb) ss os (MadeD os [(k, d)]) := fun σ G H R Q q => fun p hp => by
  have np := R.ow.ne hp
  obtain ⟨h1, h2⟩ := hh p np
  obtain ⟨q0, e0⟩ := gq_own (fp := []) (o := .dT []) R.gh hp
  have R0 : Rep K ss (os ++ [(p, .dT [])]) σ G (upd H p (.dT [])) := ⟨e0, R.sl, R.ow.add np (Evl.fresh_back R.gh hp) ⟨[], rfl, upd_same, .nil⟩⟩
  refine h1 σ G _ R0 _ fun v G1 H1 q1 e1 r1 => h2 σ G1 H1 (R0.grow q1 e1) _ fun w G2 H2 q2 e2 r2 => ?_
  have R2 := (R0.grow q1 e1).grow q2 e2
  obtain ⟨b, rfl, hb⟩ := (r1.mono q2.ex).key
  obtain ⟨gp, vs, l, hh1, rs⟩ := R2.ow.at_ (p, .dT []) (by simp)
  have hh1 : H2 p = some (.dT []) := by
    rw [hh1]; rfl
  refine ⟨hh1, b, ky k, w, rfl, e2 _ _ hb, ?_⟩
  obtain ⟨q4, e4⟩ := gq_put (fp := [p]) (o := .dT [(ky k, w)]) e2 gp hh1 (by simp)
  have ow := R2.ow.put (p := p) (c := .dT [(k, d)]) (o := .dT [(ky k, w)]) ⟨[w], rfl, upd_same, .one r2⟩
  have hs : setC (os ++ [(p, .dT [])]) p (.dT [(k, d)]) = os ++ [(p, .dT [(k, d)])] := by
    rw [setC_append, setC_out np]
    simp [setC]
  rw [hs] at ow
  refine q (.adr p) _ _ G2 _ ⟨p, np, rfl, rfl⟩ ((((q0.trans q1 (by simp)).trans q2 (by simp)).trans q4 fun a m => ?_).wk (fun a m => ?_)) e4 ow (fun x m => ?_) (.adr p)
  · have : a = p := by simpa using m
    rw [this]; exact .inr hp
  · simp at m
  · rcases List.mem_append.mp m with m | m
    · exact .inr (mem_keys m)
    · have e : x = (p, .dT [(k, d)]) := by simpa using m
      subst e
      exact .inl hp
end
/-! ### sorted(list(d)) -/
def rListT : List V → Hp → VK → Prop := fun xs H Q => ∃ d kvs, xs = [V.ref d] ∧ Rd H d (.dT kvs) ∧ ∀ p bs, H p = none → IsKeys H kvs bs → Q (.ref p) (upd H p (.lst (bs.map V.ref)))
section
variable {K : Fg} {ss ss' : SS} {os os' : Own} {ta tb td ty te tx : TE} {d x z : Dt} {ds es : List Dt} {B : Bs} {D : Ends} {t u : TS} {p : Addr} {kvs : List (List Int × Dt)} {k : List Int}
/-- tuples that stand are data -/
theorem frz_tups {G H : Hp} (e : Ex G H) (bs : List Addr) (hb : ∀ b ∈ bs, ∃ xs, H b = some (.tup xs)) : ∃ G', Gq [] G H G' H ∧ Ex G' H ∧ ∀ b ∈ bs, G' b = H b := by
  classical
  let G' : Hp := fun a => if a ∈ bs then H a else G a
  have gi : ∀ {a}, a ∈ bs → G' a = H a := fun m => if_pos m
  have go : ∀ {a}, a ∉ bs → G' a = G a := fun m => if_neg m
  refine ⟨G', ⟨fun a o h => ?_, fun a o h => ?_, fun a o _ h => h, fun a h => h⟩, fun a o h => ?_, fun b m => gi m⟩
  · by_cases m : a ∈ bs
    · rw [gi m]; exact e _ _ h
    · rw [go m]; exact h
  · by_cases m : a ∈ bs
    · rw [gi m] at h
      obtain ⟨xs, hx⟩ := hb a m
      rw [hx] at h
      cases h
      exact .inr (.inr ⟨xs, rfl⟩)
    · rw [go m] at h; exact .inl h
  · by_cases m : a ∈ bs
    · rw [gi m] at h; exact h
    · rw [go m] at h; exact e _ _ h
theorem isKeys_at {H : Hp} : ∀ {kvs : List (List Int × Dt)} {vs : List V} {bs : List Addr}, vs.length = kvs.length → IsKeys H ((kvs.map fun q => ky q.1).zip vs) bs → Paired (fun (k : List Int) b => H b = some (.tup (k.map V.int))) (kvs.map (·.1)) bs
  | [], [], _, _, h => by cases h; exact .nil
  | [], _ :: _, _, h, _ => by cases h
  | _ :: _, [], _, h, _ => by cases h
  | q :: r, v :: vs, bs, h, hk => by
    rw [List.map_cons, List.zip_cons_cons] at hk
    cases hk with
    | cons h1 h2 =>
      refine .cons ?_ (isKeys_at (by simpa using h) h2)
      have h1 : _ = some (HO.tup ((ky q.1).map kV)) := h1
      rw [h1]
      unfold ky
      rw [List.map_map]; rfl
theorem paired_perm {H : Hp} : ∀ {ys bs : List Addr}, ys.Perm bs → ∀ {ks : List (List Int)}, Paired (fun (k : List Int) b => H b = some (.tup (k.map V.int))) ks bs → ∃ ks', ks'.Perm ks ∧ Paired (fun (k : List Int) b => H b = some (.tup (k.map V.int))) ks' ys := by
  intro ys bs hp
  induction hp with
  | nil => intro ks h; exact ⟨ks, List.Perm.refl _, h⟩
  | cons x _ ih =>
    intro ks h
    cases h with
    | cons h1 h2 =>
      obtain ⟨ks', p, q⟩ := ih h2
      exact ⟨_ :: ks', p.cons _, .cons h1 q⟩
  | swap x y l =>
    intro ks h
    cases h with
    | cons h1 h2 =>
      cases h2 with
      | cons h3 h4 => exact ⟨_, List.Perm.swap _ _ _, .cons h3 (.cons h1 h4)⟩
  | trans _ _ ih1 ih2 =>
    intro ks h
    obtain ⟨k1, p1, q1⟩ := ih2 h
    obtain ⟨k2, p2, q2⟩ := ih1 q1
    exact ⟨k2, p2.trans p1, q2⟩
theorem paired_rps {G : Hp} : ∀ {ks : List (List Int)} {bs : List Addr}, Paired (fun (k : List Int) b => G b = some (.tup (k.map V.int))) ks bs → Rps K G (bs.map V.ref) (ks.map keyD)
  | _, _, .nil => .nil
  | _, _, .cons h t => .cons (.tup h (.ints _)) (paired_rps t)
theorem paired_mono {R S : List Int → Addr → Prop} : ∀ {ks : List (List Int)} {bs : List Addr}, Paired R ks bs → (∀ b ∈ bs, ∀ k, R k b → S k b) → Paired S ks bs
  | _, _, .nil, _ => .nil
  | _, _, .cons h t, f => .cons (f _ List.mem_cons_self _ h) (paired_mono t fun b m => f b (List.mem_cons_of_mem _ m))
theorem paired_mem {R : List Int → Addr → Prop} : ∀ {ks : List (List Int)} {bs : List Addr}, Paired R ks bs → ∀ b ∈ bs, ∃ k ∈ ks, R k b
  | _, _, .nil, b, m => by simp at m
  | _, _, .cons h t, b, m => by
    rcases List.mem_cons.mp m with rfl | m
    · exact ⟨_, List.mem_cons_self, h⟩
    · obtain ⟨k, hk, r⟩ := paired_mem t b m
      exact ⟨k, List.mem_cons_of_mem _ hk, r⟩
theorem refs_perm {ys : List V} {bs : List Addr} (h : ys.Perm (bs.map V.ref)) : ∃ cs : List Addr, ys = cs.map V.ref ∧ cs.Perm bs := by
  let f : V → Addr := fun v => match v with | .ref a => a | _ => 0
  have h1 : (bs.map V.ref).map f = bs := by rw [List.map_map]; exact List.map_id' _
  refine ⟨ys.map f, ?_, by have := h.map f; rw [h1] at this; exact this⟩
  rw [List.map_map]
  have : ∀ y ∈ ys, (V.ref ∘ f) y = y := fun y hy => by
    obtain ⟨a, _, rfl⟩ := List.mem_map.mp (h.mem_iff.mp hy)
    rfl
  rw [List.map_congr_left this, List.map_id']
theorem ep_sortedT (hd : Ev K td ss os (.adr p)) (m : (p, Cel.dT kvs) ∈ os) (h2 : ∀ q ∈ kvs, ∃ i j, q.1 = [i, j]) : EvP K (tCB (rSortedP K) (tCons (tCB rListT (tCons td tNil)) tNil)) ss os (fun d => ∃ ks : List (List Int), ks.Perm (kvs.map (·.1)) ∧ d = .lst (ks.map keyD)) := fun σ G H R Q q =>
  hd σ G H R _ fun v G1 H1 q1 e1 r1 => by
    cases r1
    have R1 := R.grow q1 e1
    obtain ⟨_, vs, l, h1, rs⟩ := R1.ow.at_ _ m
    refine ⟨p, _, rfl, .of h1, fun a bs ha hk => ?_⟩
    have pk := isKeys_at l hk
    obtain ⟨q2, e2⟩ := gq_own (fp := []) (o := .lst (bs.map V.ref)) e1 ha
    have up : ∀ b ∈ bs, ∀ k : List Int, H1 b = some (.tup (k.map V.int)) → upd H1 a (.lst (bs.map V.ref)) b = some (.tup (k.map V.int)) := fun b _ k hb => by
      rw [upd_ne (ne_of_none hb ha)]; exact hb
    have pk2 := paired_mono (S := fun (k : List Int) b => upd H1 a (.lst (bs.map V.ref)) b = some (.tup (k.map V.int))) pk up
    refine ⟨a, bs.map V.ref, rfl, .of upd_same, fun x hx => ?_, fun ys pp hys hpp => ?_⟩
    · obtain ⟨b, hb, rfl⟩ := List.mem_map.mp hx
      obtain ⟨k, hkk, e⟩ := paired_mem pk2 b hb
      obtain ⟨qq, hq, rfl⟩ := List.mem_map.mp hkk
      obtain ⟨i, j, e3⟩ := h2 qq hq
      rw [e3] at e
      exact ⟨b, i, j, rfl, e⟩
    · obtain ⟨cs, rfl, hcs⟩ := refs_perm hys
      obtain ⟨ks', hks, pk3⟩ := paired_perm hcs pk2
      obtain ⟨G3, q3, e3, hg⟩ := frz_tups e2 cs fun b hb => let ⟨k, _, e⟩ := paired_mem pk3 b hb; ⟨_, e⟩
      have pk4 := paired_mono (S := fun (k : List Int) b => G3 b = some (.tup (k.map V.int))) pk3 fun b hb k e => (hg b hb).trans e
      obtain ⟨q4, e4⟩ := gq_new (fp := []) (o := .lst (cs.map V.ref)) e3 hpp
      exact q _ (.lst (ks'.map keyD)) _ _ ⟨ks', hks, rfl⟩ (((q1.trans q2 (by simp)).trans q3 (by simp)).trans q4 (by simp)) e4 (.lst upd_same (Rps.mono q4.ex (paired_rps pk4)))
/-- over one of several lists that stay -/
theorem do_forP {tl : TE} {g : TG} {P : List Dt → Prop} (h : EvP K tl ss os (fun d => ∃ ds, P ds ∧ d = .lst ds)) (I : List Dt → Nat → SS → Own → Prop) (hi : ∀ ds, P ds → I ds 0 ss os)
    (hs : ∀ ds, P ds → ∀ B1, B.Le B1 → ∀ (i : Nat) (d : Dt) ss' os', ds[i]? = some d → I ds i ss' os' → ∃ ss2, Tg K g d ss' ss2 ∧ Do K B1 t ss2 os' { D with nx := At K B1 (I ds (i + 1)), ct := At K B1 (I ds (i + 1)), bk := D.nx })
    (hd : ∀ ds, P ds → ∀ ss' os', I ds ds.length ss' os' → Nx K B D.nx ss' os') : Do K B (tFor (iList K tl) g t) ss os D := fun σ G H b r =>
  h σ G H r _ fun v d0 G1 H1 hP q1 e1 r1 => by
    obtain ⟨ds, hP, rfl⟩ := hP
    have b1 := b.grow q1
    have le := b1.later
    cases r1 with
    | lst g1 rs =>
      rename_i a vs
      refine ⟨a, rfl, ⟨vs, .of (e1 _ _ g1)⟩, for_list (xs := vs) (fun i => At K ⟨B.fp, G1, B.H0⟩ (I ds i)) ⟨ss, os, G1, hi ds hP, b1.lift (Ex.refl _) b1.gq.ex, r.grow q1 e1⟩ (fun i σ' H' _ p => ?_) (fun i x σ' H' hx p => ?_) (fun σ' H' p => ?_)⟩
      · obtain ⟨ss', os', G', p, b', r'⟩ := p
        exact .of (r'.gh _ _ (b'.gq.ex _ _ g1))
      · obtain ⟨ss', os', G', p, b', r'⟩ := p
        obtain ⟨d, hd1, rd⟩ := rs.get' hx
        obtain ⟨ss2, tg, dd⟩ := hs ds hP _ le i d ss' os' hd1 p
        exact tg x σ' G' H' _ r'.gh r'.sl (rd.mono b'.gq.ex) fun σ2 s2 => dd σ2 G' H' b' ⟨r'.gh, s2, r'.ow⟩
      · obtain ⟨ss', os', G', p, b', r'⟩ := p
        rw [rs.length] at p
        exact hd ds hP ss' os' p σ' G' H' (le.ok b') r'
/-- over a list that a call has made, one's own no more -/
theorem do_forN {tl : TE} {g : TG} {P : Dt → Own → Prop} (h : EvM K tl ss os P) (I : List Dt → Nat → SS → Own → Prop)
    (hP : ∀ d os', P d os' → ∃ q ds osr, d = .adr q ∧ os'.Perm ((q, .lst ds) :: osr) ∧ (∀ x ∈ B.fp, x ∈ keys osr) ∧ I ds 0 ss osr ∧
      (∀ B1, B.Le B1 → ∀ (i : Nat) (d : Dt) ss' os', ds[i]? = some d → I ds i ss' os' → ∃ ss2, Tg K g d ss' ss2 ∧ Do K B1 t ss2 os' { D with nx := At K B1 (I ds (i + 1)), ct := At K B1 (I ds (i + 1)), bk := D.nx }) ∧
      (∀ ss' os', I ds ds.length ss' os' → Nx K B D.nx ss' os')) : Do K B (tFor (iList K tl) g t) ss os D := fun σ G H b r =>
  h σ G H r _ fun d os' v G1 H1 hp q1 e1 o1 n1 r1 => by
    obtain ⟨q, ds, osr, rfl, hpm, hB, hi, hs, hd⟩ := hP d os' hp
    replace o1 := o1.perm hpm
    replace n1 : ∀ x ∈ (q, Cel.lst ds) :: osr, H x.1 = none ∨ x.1 ∈ keys os := fun x m => n1 x (hpm.mem_iff.mpr m)
    have bM := b.growM q1 n1
    have R1 : Rep K ss ((q, .lst ds) :: osr) σ G1 H1 := ⟨e1, r.sl.mono q1.ex, o1⟩
    have nq : q ∉ keys osr := (List.nodup_cons.mp o1.nd).1
    obtain ⟨gq, vs, h1, rs⟩ := o1.at_ _ List.mem_cons_self
    cases r1
    have ex : Ex G1 (upd G1 q (.lst vs)) := Ex.new gq
    have ex2 : Ex (upd G1 q (.lst vs)) H1 := fun a u z => by
      by_cases ha : a = q
      · subst ha; rw [upd_same] at z; rw [h1]; exact z
      · rw [upd_ne ha] at z; exact e1 _ _ z
    have hq0 : B.H0 q = none := by
      rcases bM.nw (q, .lst ds) List.mem_cons_self with z | z
      · exact z
      · exact (nq (hB _ z)).elim
    have R2 : Rep K ss osr σ (upd G1 q (.lst vs)) H1 := ⟨ex2, R1.sl.mono ex, ⟨(List.nodup_cons.mp o1.nd).2, fun y m => by
      obtain ⟨g1, c1⟩ := o1.at_ y (List.mem_cons_of_mem _ m)
      have ne : y.1 ≠ q := fun z => nq (z ▸ mem_keys m)
      exact ⟨by rw [upd_ne ne]; exact g1, c1.mono ex rfl⟩⟩⟩
    have b2 : BsOk B osr (upd G1 q (.lst vs)) H1 := ⟨⟨bM.gq.ex.trans ex, fun a o z => by
      by_cases ha : a = q
      · exact .inr (.inl (by rw [ha]; exact hq0))
      · rw [upd_ne ha] at z; exact bM.gq.new a o z, bM.gq.keep, bM.gq.dom⟩, fun x m => bM.nw x (List.mem_cons_of_mem _ m)⟩
    have le := b2.later
    have g1 : upd G1 q (.lst vs) q = some (.lst vs) := upd_same
    have rs := Rps.mono ex rs
    refine ⟨q, rfl, ⟨vs, .of (ex2 _ _ g1)⟩, for_list (xs := vs) (fun i => At K ⟨B.fp, upd G1 q (.lst vs), B.H0⟩ (I ds i)) ⟨ss, osr, _, hi, b2.lift (Ex.refl _) b2.gq.ex, R2⟩ (fun i σ' H' _ p => ?_) (fun i x σ' H' hx p => ?_) (fun σ' H' p => ?_)⟩
    · obtain ⟨ss', os', G', p, b', r'⟩ := p
      exact .of (r'.gh _ _ (b'.gq.ex _ _ g1))
    · obtain ⟨ss', os', G', p, b', r'⟩ := p
      obtain ⟨d, hd1, rd⟩ := rs.get' hx
      obtain ⟨ss2, tg, dd⟩ := hs _ le i d ss' os' hd1 p
      exact tg x σ' G' H' _ r'.gh r'.sl (rd.mono b'.gq.ex) fun σ2 s2 => dd σ2 G' H' b' ⟨r'.gh, s2, r'.ow⟩
    · obtain ⟨ss', os', G', p, b', r'⟩ := p
      rw [rs.length] at p
      exact hd ss' os' p σ' G' H' (le.ok b') r'
theorem q_forN {tl : TE} {g : TG} {P : Dt → Own → Prop} (h : EvM K tl ss os P) (I : List Dt → Nat → SS → Own → Prop)
    (hP : ∀ d os', P d os' → ∃ q ds osr, d = .adr q ∧ os'.Perm ((q, .lst ds) :: osr) ∧ (∀ x ∈ B.fp, x ∈ keys osr) ∧ I ds 0 ss osr ∧
      (∀ B1, B.Le B1 → ∀ (i : Nat) (d : Dt) ss' os', ds[i]? = some d → I ds i ss' os' → ∃ ss2, Tg K g d ss' ss2 ∧ Do K B1 t ss2 os' { D with nx := At K B1 (I ds (i + 1)), ct := At K B1 (I ds (i + 1)), bk := u D }) ∧
      (∀ ss' os', I ds ds.length ss' os' → Do K B u ss' os' D)) : Do K B (tSeq (tFor (iList K tl) g t) u) ss os D := do_forN (D := { D with nx := u D }) h I hP
end
end Cy

namespace Cy
open PySem L2
open Evl (Ex Ex.refl Ex.trans Ex.new Ex.mut)
/-! ### the keys of a dict, one after the other -/
section
variable {P : Program} {w : World} {K : PySem.W.Frag} {tg : Expr} {d : Addr} {o : Obj} {kbs : List (NestedKey × Addr)} {f : NestedKey → Int} {es : Array DictEntry} {ep : Nat}
theorem NDI.ents (n : NDI P w d o kbs f) (hod : o.data = .dict es ep) : es.size = kbs.length ∧ ∀ (i : Nat) q, kbs[i]? = some q → ∃ en, es[i]? = some en ∧ en.key = .ref q.2 := by
  obtain ⟨es', ep', xs, h1, h2, h3, h4, h5⟩ := n.ex
  obtain ⟨rfl, rfl⟩ := dict_ep hod h2
  refine ⟨by rw [← Array.length_toList, h3, List.length_map]; exact (Paired.length h5).symm, fun i q e => ?_⟩
  obtain ⟨b, hb, e1, e2, _⟩ := L2.paired_get h5 e
  refine ⟨entryOfKey (nestedKind P w) b, ?_, ?_⟩
  · rw [← Array.getElem?_toList, h3, List.getElem?_map, hb]; rfl
  · show Value.ref b.2.1 = _
    rw [e2]
theorem turn_keysN (n : NDI P w d o kbs f) (it : Addr) (hod : o.data = .dict es ep) : Turn P w K tg (Itn d o kbs) [it] it (fun i h => h.IsKeyIter it d i kbs.length ep) where
  mem := by simp
  obj := fun i h st b hb => by
    have e : b = it := by simpa using hb
    subst e
    obtain ⟨oi, e, c, dd⟩ := st
    exact ⟨oi, e, fun v z => by rw [dd] at z; cases z⟩
  keep := fun i h h' st k => st.at fun oi e => k it (by simp) oi e
  item := by
    intro X hP hw hK hc i pins s σ H E I hf st hg
    subst hP hw hK
    obtain ⟨hd, hi⟩ := hg
    obtain ⟨f0, f1, f2, f3, f4, f5⟩ := hf it (by simp)
    have hgd : s.heap.get? d = some o := (show ObjOk X.prog X.w H s.heap d (exH d o) from I.hok d _ hd).1
    obtain ⟨hsz, ent⟩ := n.ents hod
    obtain ⟨q, hq⟩ : ∃ p, kbs[i]? = some p := ⟨kbs[i], List.getElem?_eq_getElem hi⟩
    obtain ⟨en, hen, hkey⟩ := ent i q hq
    refine next_key_item st hgd hod hsz hen fun h' st' sb => ?_
    have I1 : Inv X pins σ H { s with heap := h' } := I.turned (t' := s.toks) (fun b ob hb e => (sb.2 b hb).trans e) f0 f1 f3 f4 f5
    obtain ⟨oi, e, c, dd⟩ := id st'
    exact ⟨en.key, rfl, go_of (s := { s with heap := h' }) e c dd (by decide) ⟨.ref q.2, H, I1, hkey, ⟨rfl, q, hq, rfl⟩, st', fun b hb => (hf b hb).1⟩⟩
  done := by
    intro X hP hw hK hc i pins s σ H E I hf st hg
    subst hP hw hK
    obtain ⟨hd, hi⟩ := hg
    obtain ⟨f0, f1, f2, f3, f4, f5⟩ := hf it (by simp)
    have hgd : s.heap.get? d = some o := (show ObjOk X.prog X.w H s.heap d (exH d o) from I.hok d _ hd).1
    obtain ⟨hsz, ent⟩ := n.ents hod
    exact next_key_end (I.ok.hd hc) st hgd hod hsz hi fun h' eb => ⟨rfl, I.turned (t' := s.toks) (fun b ob hb e => eb b ob hb e) f0 f1 f3 f4 f5⟩
  self := (turn_keysT (P := P) (w := w) (K := K) (tg := tg) (d := d) (kvs := kbs.map fun _ => ([], V.non)) it hod).self |> fun z => by
    intro A i s Q E st h
    exact z A i s Q E (by rw [List.length_map]; exact st) h
end
theorem pi_nkeys {X : Cx} {tg e : Expr} {td : TE} (he : PE X e td) : PI X tg e (iNKeys X.prog X.w td) := by
  refine ⟨fun pins s σ H R I h => ?_⟩
  refine thn (he.run pins s σ H _ I h) fun u s1 ⟨x, H1, I1, rx, d, o, kbs, f, ex, hd, n, q⟩ => ?_
  subst ex
  obtain rfl : u = Value.ref d := rx
  obtain ⟨es, ep, xs, h1, h2, h3, h4, h5⟩ := n.ex
  have hgd : s1.heap.get? d = some o := (show ObjOk X.prog X.w H1 s1.heap d (exH d o) from I1.hok d _ hd).1
  refine iter_keys n.ns hgd h1 h2 (pi_one (tk := s1.toks) I1 _ (turn_keysN n _ h2) ⟨_, Heap.get?_push_size _ rfl, rfl, ?_⟩ q)
  rw [(n.ents h2).1] <;> rfl
/-! ### keys as data -/
mutual
def nkD : NestedKey → Dt
  | .none => .non
  | .num i => .int i
  | .text x => .str x
  | .tup ks => .tup (nkDs ks)
def nkDs : List NestedKey → List Dt
  | [] => []
  | k :: ks => nkD k :: nkDs ks
end
section
variable {K : Fg} {G H : Hp}
mutual
theorem nk_rp : ∀ {k : NestedKey} {v : V}, NKey G k v → Rp K G v (nkD k)
  | _, _, .none => by rw [nkD]; exact .non
  | _, _, .num i => by rw [nkD]; exact .int i
  | _, _, .text x => by rw [nkD]; exact .str x
  | _, _, .tup e ks => by rw [nkD]; exact .tup e (nks_rp ks)
theorem nks_rp : ∀ {k : List NestedKey} {v : List V}, NKeys G k v → Rps K G v (nkDs k)
  | _, _, .nil => by rw [nkDs]; exact .nil
  | _, _, .cons a b => by rw [nkDs]; exact .cons (nk_rp a) (nks_rp b)
end
mutual
theorem rp_nk : ∀ (k : NestedKey) {v : V}, Rp K G v (nkD k) → NKey G k v
  | .none, _, r => by rw [nkD] at r; cases r; exact .none
  | .num i, _, r => by rw [nkD] at r; cases r; exact .num i
  | .text x, _, r => by rw [nkD] at r; cases r; exact .text x
  | .tup ks, _, r => by
    rw [nkD] at r
    cases r with
    | tup h1 h2 => exact .tup h1 (rps_nk ks h2)
theorem rps_nk : ∀ (k : List NestedKey) {v : List V}, Rps K G v (nkDs k) → NKeys G k v
  | [], _, r => by rw [nkDs] at r; cases r; exact .nil
  | k :: ks, _, r => by
    rw [nkDs] at r
    cases r with
    | cons h1 h2 => exact .cons (rp_nk k h1) (rps_nk ks h2)
end
end
/-! ### dicts of one's own, keys lists of numbers as they are written -/
structure EncOk (enc : List Int → NestedKey) : Prop where
  inj : ∀ a b, enc a = enc b → a = b
  tup : ∀ a, ∃ ks, enc a = .tup ks
  dep : ∀ a, (enc a).depth ≤ 8
abbrev Dc := List (List Int × Int)
def NC (P : Program) (w : World) (enc : List Int → NestedKey) (d : Dc) (c : Cel) : Prop :=
  ∃ o kbs f, c = .dN P w o kbs f ∧ kbs.map (·.1) = d.map (fun p => enc p.1) ∧ ∀ p ∈ d, f (enc p.1) = p.2
theorem mem_put {d : Dc} {k : List Int} {v : Int} {p : List Int × Int} (h : p ∈ put d k v) : p = (k, v) ∨ (p ∈ d ∧ p.1 ≠ k) := by
  unfold put at h
  split at h
  · obtain ⟨q, hq, e⟩ := List.mem_map.mp h
    by_cases z : q.1 = k
    · rw [if_pos z] at e
      exact .inl (by rw [← e, z])
    · rw [if_neg z] at e
      exact .inr ⟨e ▸ hq, e ▸ z⟩
  · rename_i n
    rcases List.mem_append.mp h with m | m
    · refine .inr ⟨m, fun z => n ?_⟩
      exact List.any_eq_true.mpr ⟨p, m, by simpa using z⟩
    · exact .inl (by simpa using m)
theorem put_mem (d : Dc) (k : List Int) (v : Int) : (k, v) ∈ put d k v := by
  unfold put
  split
  · rename_i n
    obtain ⟨q, hq, e⟩ := List.any_eq_true.mp n
    have e : q.1 = k := by simpa using e
    exact List.mem_map.mpr ⟨q, hq, by rw [if_pos e, e]⟩
  · simp
theorem put_old {d : Dc} {k : List Int} {v : Int} {p : List Int × Int} (h : p ∈ d) (n : p.1 ≠ k) : p ∈ put d k v := by
  unfold put
  split
  · exact List.mem_map.mpr ⟨p, h, by rw [if_neg n]⟩
  · exact List.mem_append_left _ h
section
variable {P : Program} {w : World} {K : Fg} {ss ss' : SS} {os os' : Own} {ta tb td ty te tx : TE} {x z : Dt} {ds es : List Dt} {B : Bs} {D : Ends} {t u : TS} {p : Addr} {k : List Int} {v i : Int} {d : Dc} {c : Cel} {enc : List Int → NestedKey}
theorem ev_nget (hd : Ev K td ss os (.adr p)) (m : (p, c) ∈ os) (n : NC P w enc d c) (e : EncOk enc) (hy : Ev K ty ss os (nkD (enc k))) (hk : (k, v) ∈ d) : Ev K (tNGet P w td ty) ss os (.int v) := fun σ G H R Q q =>
  hd σ G H R _ fun v1 G1 H1 q1 e1 r1 => hy σ G1 H1 (R.grow q1 e1) _ fun w1 G2 H2 q2 e2 r2 => by
    cases r1
    have R2 := (R.grow q1 e1).grow q2 e2
    obtain ⟨o, kbs, f, rfl, hk1, hf⟩ := n
    obtain ⟨_, h1, nd, ko⟩ := R2.ow.at_ _ m
    obtain ⟨ks, hks⟩ := e.tup k
    have nk := rp_nk _ r2
    rw [hks] at nk
    have dp := e.dep k
    rw [hks] at dp
    have hv : f (enc k) = v := hf _ hk
    rw [hks] at hv
    refine ⟨p, o, kbs, f, ks, rfl, h1, nd, ko.mono (fun a xs => e2 a _), nk.mono (fun a xs => e2 a _), dp, ?_, ?_⟩
    · rw [← hks, hk1]; exact List.mem_map.mpr ⟨_, hk, rfl⟩
    · rw [hv]; exact q _ G2 H2 (q1.trans q2 (by simp)) e2 (.int _)
theorem nc_mem {kbs : List (NestedKey × Addr)} (e : EncOk enc) (h : kbs.map (·.1) = d.map (fun p => enc p.1)) : enc k ∈ kbs.map (·.1) ↔ (look d k).isSome = true := by
  rw [h]
  constructor
  · intro m
    obtain ⟨q, hq, eq⟩ := List.mem_map.mp m
    obtain ⟨v, hv⟩ := look_of_mem (kvs := d) (List.mem_map.mpr ⟨q, hq, e.inj _ _ eq⟩)
    rw [hv]; rfl
  · intro m
    obtain ⟨v, hv⟩ := Option.isSome_iff_exists.mp m
    exact List.mem_map.mpr ⟨_, look_mem hv, rfl⟩
theorem ev_nget2 {y : Int} (hd : Ev K td ss os (.adr p)) (m : (p, c) ∈ os) (n : NC P w enc d c) (e : EncOk enc) (hy : Ev K ty ss os (nkD (enc k))) (hx : Ev K tx ss os (.int y)) : Ev K (tNGet2 P w td ty tx) ss os (.int ((look d k).getD y)) := fun σ G H R Q q =>
  hd σ G H R _ fun v1 G1 H1 q1 e1 r1 => by
    cases r1
    have R1 := R.grow q1 e1
    obtain ⟨o, kbs, f, rfl, hk1, hf⟩ := n
    obtain ⟨_, h0, nd, ko0⟩ := R1.ow.at_ _ m
    refine ⟨p, rfl, ⟨o, kbs, f, h0, nd⟩, hy σ G1 H1 R1 _ fun w1 G2 H2 q2 e2 r2 => hx σ G2 H2 (R1.grow q2 e2) _ fun u1 G3 H3 q3 e3 r3 => ?_⟩
    have R3 := (R1.grow q2 e2).grow q3 e3
    obtain ⟨_, h1, _, ko⟩ := R3.ow.at_ _ m
    obtain ⟨ks, hks⟩ := e.tup k
    have nk := rp_nk _ (r2.mono q3.ex)
    rw [hks] at nk
    have dp := e.dep k
    rw [hks] at dp
    have q13 := (q1.trans q2 (by simp)).trans q3 (by simp)
    refine ⟨o, kbs, f, ks, h1, nd, ko.mono (fun a xs => e3 a _), nk.mono (fun a xs => e3 a _), dp, ?_⟩
    cases r3
    have hm := nc_mem (k := k) e hk1
    rw [hks] at hm
    cases hl : look d k with
    | none =>
      rw [hl] at hm q
      rw [if_neg (fun z => by have := hm.mp z; cases this)]
      exact q _ G3 H3 q13 e3 (.int _)
    | some v =>
      rw [hl] at hm q
      have hv : f (enc k) = v := hf _ (look_mem hl)
      rw [hks] at hv
      rw [if_pos (hm.mpr rfl), hv]
      exact q _ G3 H3 q13 e3 (.int _)
/-- d[k] = i -/
theorem do_nput (he : Ev K te ss os (.int i)) (hd : Ev K td ss os (.adr p)) (m : (p, c) ∈ os) (n : NC P w enc d c) (e : EncOk enc) (hy : Ev K ty ss os (nkD (enc k))) (hz : d.length < 1000000) (kk : ∀ c', NC P w enc (put d k i) c' → Nx K B D.nx ss (setC os p c')) : Do K B (sNPut P w td ty te) ss os D := fun σ G H b r =>
  he σ G H r _ fun v1 G1 H1 q1 e1 r1 => hd σ G1 H1 (r.grow q1 e1) _ fun x1 G2 H2 q2 e2 r2 => hy σ G2 H2 ((r.grow q1 e1).grow q2 e2) _ fun w1 G3 H3 q3 e3 r3 => by
    cases r2
    cases r1
    have R3 := ((r.grow q1 e1).grow q2 e2).grow q3 e3
    obtain ⟨o, kbs, f, rfl, hk1, hf⟩ := n
    obtain ⟨gp, h1, nd, ko⟩ := R3.ow.at_ _ m
    obtain ⟨ks, hks⟩ := e.tup k
    have nk := rp_nk _ r3
    have nk0 := nk
    rw [hks] at nk0
    have dp := e.dep k
    have dp0 := dp
    rw [hks] at dp0
    cases nk0 with
    | @tup bb vs _ hb hvs =>
      have hkl : kbs.length = d.length := by have := congrArg List.length hk1; simpa using this
      refine ⟨p, o, kbs, f, ks, bb, i, rfl, rfl, rfl, h1, nd, ko.mono (fun a xs => e3 a _), (NKey.tup hb hvs).mono (fun a xs => e3 a _), dp0, by rw [hkl]; exact szl hz, fun o' nd' => ?_⟩
      rw [← hks] at nd'
      have hm := nc_mem (k := k) e hk1
      have ncn : NC P w enc (put d k i) (.dN P w o' (putB kbs (enc k) bb) (putF2 f (enc k) i)) := by
        refine ⟨o', _, _, rfl, ?_, fun q hq => ?_⟩
        · have hpk := put_keys d k i
          have e1 : (put d k i).map (fun p => enc p.1) = ((put d k i).map (·.1)).map enc := by rw [List.map_map]; rfl
          rw [e1, hpk]
          unfold putB
          by_cases z : (look d k).isSome = true
          · rw [if_pos (hm.mpr z), if_pos z, hk1, List.map_map]; rfl
          · rw [if_neg (fun y => z (hm.mp y)), if_neg z, List.map_append, List.map_append, hk1, List.map_map]; rfl
        · rcases mem_put hq with rfl | ⟨h2, h3⟩
          · exact if_pos rfl
          · exact (if_neg (fun y => h3 (e.inj _ _ y))).trans (hf _ h2)
      have kon : KeysOk G3 (putB kbs (enc k) bb) := by
        unfold putB
        split
        · exact ko
        · intro q hq
          rcases List.mem_append.mp hq with hq | hq
          · exact ko q hq
          · have : q = (enc k, bb) := by simpa using hq
            subst this
            exact ⟨nk, dp⟩
      obtain ⟨q4, e4⟩ := gq_put (fp := keys os) (o := exH p o') R3.gh gp h1 (mem_keys m)
      refine kk _ ncn σ G3 _ ((((b.grow q1).grow q2).grow q3).growM q4 fun x mx => ?_) ⟨e4, R3.sl, R3.ow.put ⟨upd_same, nd', kon⟩⟩
      right
      have : x.1 ∈ keys (setC os p _) := mem_keys mx
      rw [keys_setC] at this
      exact this
theorem q_nput (he : Ev K te ss os (.int i)) (hd : Ev K td ss os (.adr p)) (m : (p, c) ∈ os) (n : NC P w enc d c) (e : EncOk enc) (hy : Ev K ty ss os (nkD (enc k))) (hz : d.length < 1000000) (kk : ∀ c', NC P w enc (put d k i) c' → Do K B u ss (setC os p c') D) : Do K B (tSeq (sNPut P w td ty te) u) ss os D :=
  do_nput (D := { D with nx := u D }) he hd m n e hy hz kk
def MadeN (P : Program) (w : World) (enc : List Int → NestedKey) (os : Own) (d : Dc) : Dt → Own → Prop := fun z os' => ∃ p c, p ∉ keys os ∧ z = .adr p ∧ os' = os ++ [(p, c)] ∧ NC P w enc d c
/-- {} -/
theorem em_nnew (enc : List Int → NestedKey) : EvM K (tNNew P w) ss os (MadeN P w enc os []) := fun σ G H R Q q => fun p o hp nd => by
  have np := R.ow.ne hp
  obtain ⟨q1, e1⟩ := gq_own (fp := []) (o := exH p o) R.gh hp
  refine q (.adr p) _ _ G _ ⟨p, .dN P w o [] (fun _ => 0), np, rfl, rfl, o, [], _, rfl, rfl, fun _ h => by simp at h⟩ (q1.wk (by simp)) e1 (R.ow.add np (Evl.fresh_back R.gh hp) ⟨upd_same, nd _, fun _ h => by simp at h⟩) (fun x m => ?_) (.adr p)
  rcases List.mem_append.mp m with m | m
  · exact .inr (mem_keys m)
  · have e : x = (p, .dN P w o [] (fun _ => 0)) := by simpa using m
    subst e
    exact .inl hp
/-- {k: i} -/
theorem em_ndisp (e : EncOk enc) (hk : Ev K ta ss os (nkD (enc k))) (hv : Ev K tb ss os (.int i)) : EvM K (tNDisp P w ta tb) ss os (MadeN P w enc os [(k, i)]) := fun σ G H R Q q => fun p o0 hp => by
  have np := R.ow.ne hp
  obtain ⟨q0, e0⟩ := gq_own (fp := []) (o := exH p o0) R.gh hp
  have gp0 : G p = none := Evl.fresh_back R.gh hp
  have R0 : Rep K ss os σ G (upd H p (exH p o0)) := ⟨e0, R.sl, R.ow.grow q0 e0⟩
  refine hk σ G _ R0 _ fun v1 G1 H1 q1 e1 r1 => hv σ G1 H1 (R0.grow q1 e1) _ fun w1 G2 H2 q2 e2 r2 => ?_
  have R2 := (R0.grow q1 e1).grow q2 e2
  have q12 := q1.trans q2 (fq := []) (by simp)
  have hp2 : H2 p = some (exH p o0) := q12.exH _ _ upd_same
  have gp2 : G2 p = none := by
    cases g : G2 p with
    | none => rfl
    | some u =>
      rcases q12.new _ _ g with z | z | ⟨xs, z⟩
      · rw [gp0] at z; cases z
      · rw [upd_same] at z; cases z
      · have := e2 _ _ g
        rw [hp2, z] at this
        cases this
  cases r2
  have nk := rp_nk _ (r1.mono q2.ex)
  obtain ⟨ks, hks⟩ := e.tup k
  have nk0 := nk
  rw [hks] at nk0
  have dp := e.dep k
  have dp0 := dp
  rw [hks] at dp0
  cases nk0 with
  | @tup bb vs _ hb hvs =>
    refine ⟨hp2, bb, ks, i, rfl, (NKey.tup hb hvs).mono (fun a xs => e2 a _), dp0, fun o' nd' => ?_⟩
    rw [← hks] at nd'
    obtain ⟨q4, e4⟩ := gq_put (fp := [p]) (o := exH p o') e2 gp2 hp2 (by simp)
    have ow := R2.ow.add (p := p) (c := .dN P w o' [(enc k, bb)] (fun _ => i)) (o := exH p o') np gp2 ⟨upd_same, nd', fun q hq => by
      have : q = (enc k, bb) := by simpa using hq
      subst this
      exact ⟨nk, dp⟩⟩
    refine q (.adr p) _ _ G2 _ ⟨p, _, np, rfl, rfl, o', _, _, rfl, rfl, fun q hq => ?_⟩ (((q0.trans q12 (by simp)).trans q4 fun a m => ?_).wk (fun a m => ?_)) e4 ow (fun x m => ?_) (.adr p)
    · have : q = (k, i) := by simpa using hq
      rw [this]
    · have : a = p := by simpa using m
      rw [this]; exact .inr hp
    · simp at m
    · rcases List.mem_append.mp m with m | m
      · exact .inr (mem_keys m)
      · have e : x.1 = p := by
          have : x = (p, Cel.dN P w o' [(enc k, bb)] (fun _ => i)) := by simpa using m
          rw [this]
        rw [e]; exact .inl hp
/-- for k in d -/
theorem nc_at {o : Obj} {kbs : List (NestedKey × Addr)} {f : NestedKey → Int} (h : kbs.map (·.1) = d.map (fun p => enc p.1)) {j : Nat} {q : NestedKey × Addr} (hq : kbs[j]? = some q) : ∃ x, d[j]? = some x ∧ q.1 = enc x.1 := by
  have h1 : (kbs.map (·.1))[j]? = some q.1 := by rw [List.getElem?_map, hq]; rfl
  rw [h, List.getElem?_map] at h1
  cases e : d[j]? with
  | none => rw [e] at h1; cases h1
  | some x => rw [e] at h1; exact ⟨x, rfl, (Option.some.inj h1).symm⟩
theorem do_forD {g : TG} (h : Ev K td ss os (.adr p)) (n : NC P w enc d c) (I : Nat → SS → Own → Prop) (hi : I 0 ss os) (hm : ∀ i ss' os', I i ss' os' → (p, c) ∈ os')
    (hs : ∀ (i : Nat) (x : List Int × Int) ss' os', d[i]? = some x → I i ss' os' → ∃ ss2, Tg K g (nkD (enc x.1)) ss' ss2 ∧ Do K B t ss2 os' { D with nx := At K B (I (i + 1)), ct := At K B (I (i + 1)), bk := D.nx })
    (hd : ∀ ss' os', I d.length ss' os' → Nx K B D.nx ss' os') : Do K B (tFor (iNKeys P w td) g t) ss os D := fun σ G H b r =>
  h σ G H r _ fun v1 G1 H1 q1 e1 r1 => by
    cases r1
    have b1 := b.grow q1
    have R1 := r.grow q1 e1
    obtain ⟨o, kbs, f, rfl, hk1, hf⟩ := n
    have hkl : kbs.length = d.length := by have := congrArg List.length hk1; simpa using this
    obtain ⟨_, h1, nd, _⟩ := R1.ow.at_ _ (hm 0 ss os hi)
    refine ⟨p, o, kbs, f, rfl, h1, nd, fun i m σ H => m = d.length - i ∧ i ≤ d.length ∧ At K B (I i) σ H, ⟨d.length, by simp, Nat.zero_le _, ss, os, G1, hi, b1, R1⟩, ?_⟩
    rintro i m σ H ⟨rfl, hil, ss', os', G', hI, b', r'⟩
    obtain ⟨_, h2, _, ko⟩ := r'.ow.at_ _ (hm i ss' os' hI)
    by_cases hlt : i < d.length
    · refine .inr ⟨⟨h2, by omega⟩, At K B (I (i + 1)), fun σ' H' p' => ⟨d.length - (i + 1), by omega, rfl, hlt, p'⟩, fun x H' y => ?_⟩
      obtain ⟨e, q, hq, rfl⟩ := y
      subst e
      obtain ⟨x, hx, ex⟩ := nc_at (o := o) (f := f) hk1 hq
      obtain ⟨ss2, tg, dd⟩ := hs i x ss' os' hx hI
      have rd : Rp K G' (.ref q.2) (nkD (enc x.1)) := by rw [← ex]; exact nk_rp (ko q (List.mem_of_getElem? hq)).1
      exact tg _ σ G' _ _ r'.gh r'.sl rd fun σ2 s2 => dd σ2 G' _ b' ⟨r'.gh, s2, r'.ow⟩
    · have e : i = d.length := by omega
      subst e
      exact .inl ⟨⟨h2, by omega⟩, hd ss' os' hI σ G' H b' r'⟩
theorem q_forD {g : TG} (h : Ev K td ss os (.adr p)) (n : NC P w enc d c) (I : Nat → SS → Own → Prop) (hi : I 0 ss os) (hm : ∀ i ss' os', I i ss' os' → (p, c) ∈ os')
    (hs : ∀ (i : Nat) (x : List Int × Int) ss' os', d[i]? = some x → I i ss' os' → ∃ ss2, Tg K g (nkD (enc x.1)) ss' ss2 ∧ Do K B t ss2 os' { D with nx := At K B (I (i + 1)), ct := At K B (I (i + 1)), bk := u D })
    (hd : ∀ ss' os', I d.length ss' os' → Do K B u ss' os' D) : Do K B (tSeq (tFor (iNKeys P w td) g t) u) ss os D := do_forD (D := { D with nx := u D }) h n I hi hm hs hd
/-- [.. for k in d] -/
theorem ef_mapN {vs : List Nat} {g : TG} (h : Ev K td ss os (.adr p)) (m : (p, c) ∈ os) (n : NC P w enc d c) (y : List Int × Int → Dt)
    (hb : ∀ x ∈ d, ∃ ss2, TgW K g (nkD (enc x.1)) (wipeS ss vs) ss2 vs ∧ Ev K te ss2 os (y x)) (hz : d.length < 1000000) : EvF K (tLc (iNKeys P w td) g tYes te vs) ss os (d.map y) := fun σ G H R Q q => h σ G H R _ fun v1 G1 H1 q1 e1 r1 => by
  cases r1
  have R1 := R.grow q1 e1
  obtain ⟨o, kbs, f, rfl, hk1, hf⟩ := n
  have hkl : kbs.length = d.length := by have := congrArg List.length hk1; simpa using this
  obtain ⟨_, h1, nd, ko⟩ := R1.ow.at_ _ m
  refine ⟨p, o, kbs, f, rfl, h1, nd, fun D hD => ⟨fun i mm H' => mm = d.length - i ∧ i ≤ d.length ∧ ∃ G' accv, Gq [] G1 H1 G' H' ∧ Ex G' H' ∧ G' D = none ∧ H' D = some (.lst accv) ∧ Rps K G' accv (((d.take i).filter fun _ => true).map y), ?_, ?_⟩⟩
  · obtain ⟨q2, e2⟩ := gq_own (fp := []) (o := .lst []) e1 hD
    exact ⟨d.length, by simp, Nat.zero_le _, G1, [], q2, e2, Evl.fresh_back e1 hD, upd_same, .nil⟩
  · rintro i mm H' ⟨rfl, hil, G', accv, q2, e2, gD, hH, ra⟩
    have h2 : H' p = some (exH p o) := q2.exH _ _ h1
    by_cases hlt : i < d.length
    · refine .inr ⟨⟨h2, by omega⟩, fun H'' => ∃ G' accv, Gq [] G1 H1 G' H'' ∧ Ex G' H'' ∧ G' D = none ∧ H'' D = some (.lst accv) ∧ Rps K G' accv (((d.take (i + 1)).filter fun _ => true).map y), fun H'' p' => ⟨d.length - (i + 1), by omega, rfl, hlt, p'⟩, fun x H'' yy => ?_⟩
      obtain ⟨e, qq, hq, rfl⟩ := yy
      subst e
      obtain ⟨x, hx, ex⟩ := nc_at (o := o) (f := f) hk1 hq
      obtain ⟨ss2, tg, he⟩ := hb x (List.mem_of_getElem? hx)
      have R2 := R1.grow q2 e2
      have rd : Rp K G' (.ref qq.2) (nkD (enc x.1)) := by rw [← ex]; exact nk_rp ((ko qq (List.mem_of_getElem? hq)).1.mono fun a xs => q2.ex a _)
      refine tg _ (L2.wipe σ vs) G' _ _ e2 (R2.sl.wipe vs) rd fun σ2 s2 hw => ⟨by rw [hw, wipe_wipe], ?_⟩
      refine lc_turn (ss2 := ss2) (os := os) (acc := ((d.take i).filter fun _ => true).map y) (y := y x) (b := true) (tt := tYes) hD (fun _ => trivial) G' accv q2 e2 gD hH ra ⟨e2, s2, R2.ow⟩ ?_ et_yes (fun _ => he) _ (fun eb G'' H'' accv' q3 e3 g3 h3 r3 => ⟨G'', accv', q3, e3, g3, h3, ?_⟩) (fun eb => by cases eb)
      · rw [List.length_map]
        refine Nat.lt_of_le_of_lt (List.length_filter_le _ _) ?_
        rw [List.length_take]
        omega
      · rw [filter_snoc (fun _ => true) y d i x hx, if_pos rfl]; exact r3
    · have e : i = d.length := by omega
      subst e
      rw [List.take_length, filter_all fun _ => rfl] at ra
      exact .inl ⟨⟨h2, by omega⟩, q D accv G' _ (q1.dom _ hD) (q1.trans q2 (by simp)) e2 gD hH ra⟩
/-- t + u -/
theorem ev_catA {xs ys : List Dt} (ha : Ev K ta ss os (.tup xs)) (hb : Ev K tb ss os (.tup ys)) (hz : xs.length + ys.length ≤ 1000000) : Ev K (tOp (rCatA K) ta tb) ss os (.tup (xs ++ ys)) := fun σ G H R Q q =>
  ha σ G H R _ fun v1 G1 H1 q1 e1 r1 => hb σ G1 H1 (R.grow q1 e1) _ fun w1 G2 H2 q2 e2 r2 => by
    have r1 := r1.mono q2.ex
    have q12 := q1.trans q2 (fq := []) (by simp)
    cases r1 with
    | @tup a vs _ h1 s1 =>
      cases r2 with
      | @tup b ws _ h2 s2 =>
        refine ⟨a, b, vs, ws, rfl, rfl, .of (e2 _ _ h1), .of (e2 _ _ h2), by rw [s1.length, s2.length]; exact sz _ hz, fun e => ?_, fun _ e => ?_, fun _ _ pp hp => ?_⟩
        · subst e
          cases s1
          exact q _ G2 H2 q12 e2 (.tup h2 s2)
        · subst e
          cases s2
          rw [List.append_nil] at q
          exact q _ G2 H2 q12 e2 (.tup h1 s1)
        · obtain ⟨q3, e3⟩ := gq_new (fp := []) (o := .tup (vs ++ ws)) e2 hp
          exact q _ _ _ (q12.trans q3 (by simp)) e3 (.tup upd_same ((s1.append s2).mono q3.ex))
end
/-- tuple(xs) -/
def rTupS (K : Fg) : List V → Hp → VK → Prop := fun xs H Q => ∃ p ys, xs = [.ref p] ∧ ((SqL K H p ys ∧ ∀ l, H l = none → Q (.ref l) (upd H l (.tup ys))) ∨ (SqT K H p ys ∧ Q (.ref p) H))
theorem call_tupS {X : Cx} : CallR X (.type "tuple") (rTupS X.K) := call_tuple_of
section
variable {K : Fg} {ss : SS} {os : Own} {ta : TE} {x : Dt} {ds : List Dt}
theorem ev_tupS (ha : Ev K ta ss os x) (l : LV os x ds) : Ev K (tCB (rTupS K) (tCons ta tNil)) ss os (.tup ds) := fun σ G H R Q q => ha σ G H R _ fun v1 G1 H1 q1 e1 r1 => by
  obtain ⟨a, vs, rfl, hs, rs⟩ := (R.grow q1 e1).list l r1
  refine ⟨a, vs, rfl, .inl ⟨hs, fun pp hp => ?_⟩⟩
  obtain ⟨q3, e3⟩ := gq_new (fp := []) (o := .tup vs) e1 hp
  exact q _ _ _ (q1.trans q3 (by simp)) e3 (.tup upd_same (rs.mono q3.ex))
theorem ev_maxL {ns : List Int} {mx : Int} (ha : Ev K ta ss os x) (l : LV os x (ns.map Dt.int)) (hm : mx ∈ ns) (hle : ∀ y ∈ ns, y ≤ mx) : Ev K (tCB (rMax K) (tCons ta tNil)) ss os (.int mx) := fun σ G H R Q q => ha σ G H R _ fun v1 G1 H1 q1 e1 r1 => by
  obtain ⟨a, vs, rfl, hs, rs⟩ := (R.grow q1 e1).list l r1
  rw [rs.to_ints] at hs
  refine ⟨a, ns, rfl, hs, List.length_pos_of_mem hm, fun m' h1 h2 => ?_⟩
  have : m' = mx := Int.le_antisymm (hle _ h1) (h2 _ hm)
  rw [this]
  exact q _ G1 H1 q1 e1 (.int _)
end
end Cy

namespace Cy
open PySem L2
/-! ### the keys -/
def enc1 (l : List Int) : NestedKey := .tup (l.map .num)
def enc2 : List Int → NestedKey
  | [] => .tup []
  | o :: l => .tup [enc1 l, .num o]
theorem nkDs_num : ∀ l : List Int, nkDs (l.map .num) = l.map Dt.int
  | [] => by rw [List.map_nil, nkDs]; rfl
  | x :: l => by rw [List.map_cons, nkDs, nkDs_num l, nkD]; rfl
theorem nkD_enc1 (l : List Int) : nkD (enc1 l) = .tup (l.map Dt.int) := by rw [enc1, nkD, nkDs_num]
theorem nkD_enc2 (o : Int) (l : List Int) : nkD (enc2 (o :: l)) = .tup [.tup (l.map Dt.int), .int o] := by
  rw [enc2, nkD, nkDs, nkDs, nkDs, nkD_enc1, nkD]
theorem num_map_inj : ∀ {a b : List Int}, a.map NestedKey.num = b.map NestedKey.num → a = b
  | [], [], _ => rfl
  | [], _ :: _, h => by simp at h
  | _ :: _, [], h => by simp at h
  | x :: a, y :: b, h => by
    rw [List.map_cons, List.map_cons] at h
    injection h with h1 h2
    injection h1 with h1
    rw [h1, num_map_inj h2]
theorem enc1_inj {a b : List Int} (h : enc1 a = enc1 b) : a = b := by
  unfold enc1 at h
  injection h with h
  exact num_map_inj h
theorem dep_num : ∀ l : List Int, NestedKey.depthAll (l.map .num) = 0
  | [] => by rw [List.map_nil, NestedKey.depthAll]
  | x :: l => by rw [List.map_cons, NestedKey.depthAll, dep_num l, NestedKey.depth]; rfl
theorem dep_enc1 (l : List Int) : (enc1 l).depth = 1 := by rw [enc1, NestedKey.depth, dep_num]
theorem enc1_ok : EncOk enc1 := ⟨fun a b => enc1_inj, fun a => ⟨_, rfl⟩, fun a => by rw [dep_enc1]; omega⟩
theorem enc2_ok : EncOk enc2 := ⟨fun a b h => by
  cases a with
  | nil =>
    cases b with
    | nil => rfl
    | cons y b => rw [enc2, enc2] at h; injection h with h; cases h
  | cons x a =>
    cases b with
    | nil => rw [enc2, enc2] at h; injection h with h; cases h
    | cons y b =>
      rw [enc2, enc2] at h
      injection h with h
      injection h with h1 h2
      injection h2 with h2 h3
      injection h2 with h2
      rw [enc1_inj h1, h2], fun a => by
  cases a with
  | nil => exact ⟨_, rfl⟩
  | cons x a => exact ⟨_, rfl⟩, fun a => by
  cases a with
  | nil => rw [enc2, NestedKey.depth, NestedKey.depthAll]; omega
  | cons x a =>
    rw [enc2, NestedKey.depth, NestedKey.depthAll, NestedKey.depthAll, NestedKey.depthAll, dep_enc1, NestedKey.depth]
    decide⟩
/-! ### the greatest at each key -/
def mput (d : Dc) (k : List Int) (v : Int) : Dc := put d k (max ((look d k).getD 0) v)
def dictOf (L : Dc) : Dc := L.foldl (fun d p => mput d p.1 p.2) []
theorem dictOf_snoc (L : Dc) (p : List Int × Int) : dictOf (L ++ [p]) = mput (dictOf L) p.1 p.2 := by
  unfold dictOf
  rw [List.foldl_append]; rfl
structure DM (d L : Dc) : Prop where
  top : ∀ k v, (k, v) ∈ d → (k, v) ∈ L ∧ ∀ v', (k, v') ∈ L → v' ≤ v
  all : ∀ k v', (k, v') ∈ L → ∃ v, (k, v) ∈ d
theorem DM.step {d L : Dc} (h : DM d L) {k : List Int} {v : Int} (hv : 0 ≤ v) : DM (mput d k v) (L ++ [(k, v)]) := by
  unfold mput
  cases hl : look d k with
  | none =>
    have e : max ((none : Option Int).getD 0) v = v := by show max 0 v = v; omega
    rw [e]
    have hno : ∀ v', (k, v') ∉ L := fun v' m => by
      obtain ⟨u, hu⟩ := h.all k v' m
      obtain ⟨z, hz⟩ := look_of_mem (kvs := d) (List.mem_map.mpr ⟨_, hu, rfl⟩)
      rw [hl] at hz; cases hz
    refine ⟨fun k2 v2 m => ?_, fun k2 v2 m => ?_⟩
    · rcases mem_put m with e2 | ⟨m2, n2⟩
      · cases e2
        refine ⟨by simp, fun v' m' => ?_⟩
        rcases List.mem_append.mp m' with m' | m'
        · exact (hno _ m').elim
        · have : (k, v') = (k, v) := by simpa using m'
          cases this; omega
      · obtain ⟨a, b⟩ := h.top k2 v2 m2
        refine ⟨List.mem_append_left _ a, fun v' m' => ?_⟩
        rcases List.mem_append.mp m' with m' | m'
        · exact b v' m'
        · have : (k2, v') = (k, v) := by simpa using m'
          cases this; exact (n2 rfl).elim
    · rcases List.mem_append.mp m with m | m
      · obtain ⟨u, hu⟩ := h.all k2 v2 m
        exact ⟨u, put_old hu fun (z : k2 = k) => hno v2 (z ▸ m)⟩
      · have : (k2, v2) = (k, v) := by simpa using m
        cases this
        exact ⟨v, put_mem _ _ _⟩
  | some v0 =>
    have e : ((some v0 : Option Int).getD 0) = v0 := rfl
    rw [e]
    obtain ⟨a0, b0⟩ := h.top k v0 (look_mem hl)
    refine ⟨fun k2 v2 m => ?_, fun k2 v2 m => ?_⟩
    · rcases mem_put m with e2 | ⟨m2, n2⟩
      · cases e2
        refine ⟨?_, fun v' m' => ?_⟩
        · by_cases z : v ≤ v0
          · have : max v0 v = v0 := by omega
            rw [this]; exact List.mem_append_left _ a0
          · have : max v0 v = v := by omega
            rw [this]; simp
        · rcases List.mem_append.mp m' with m' | m'
          · have := b0 v' m'; omega
          · have : (k, v') = (k, v) := by simpa using m'
            cases this; omega
      · obtain ⟨a, b⟩ := h.top k2 v2 m2
        refine ⟨List.mem_append_left _ a, fun v' m' => ?_⟩
        rcases List.mem_append.mp m' with m' | m'
        · exact b v' m'
        · have : (k2, v') = (k, v) := by simpa using m'
          cases this; exact (n2 rfl).elim
    · rcases List.mem_append.mp m with m | m
      · obtain ⟨u, hu⟩ := h.all k2 v2 m
        by_cases z : k2 = k
        · subst z; exact ⟨_, put_mem _ _ _⟩
        · exact ⟨u, put_old hu z⟩
      · have : (k2, v2) = (k, v) := by simpa using m
        cases this
        exact ⟨_, put_mem _ _ _⟩
theorem dictOf_dm {L : Dc} (h : ∀ p ∈ L, 0 ≤ p.2) : DM (dictOf L) L := by
  have key : ∀ (M : Dc) (d L0 : Dc), DM d L0 → (∀ p ∈ M, 0 ≤ p.2) → DM (M.foldl (fun d p => mput d p.1 p.2) d) (L0 ++ M) := fun M => by
    induction M with
    | nil => intro d L0 hd _; rw [List.append_nil]; exact hd
    | cons p M ih =>
      intro d L0 hd hn
      have := ih _ _ (hd.step (k := p.1) (hn p List.mem_cons_self)) fun q hq => hn q (List.mem_cons_of_mem _ hq)
      rw [List.append_assoc] at this
      exact this
  exact key L [] [] ⟨fun k v m => by simp at m, fun k v m => by simp at m⟩ h
theorem dictOf_len (L : Dc) : (dictOf L).length ≤ L.length := by
  have key : ∀ (M : Dc) (d : Dc), (M.foldl (fun d p => mput d p.1 p.2) d).length ≤ d.length + M.length := fun M => by
    induction M with
    | nil => intro d; exact Nat.le_refl _
    | cons p M ih =>
      intro d
      refine Nat.le_trans (ih _) ?_
      have := put_len d p.1 (max ((look d p.1).getD 0) p.2)
      show (put d p.1 (max ((look d p.1).getD 0) p.2)).length + M.length ≤ d.length + (M.length + 1)
      omega
  have := key L []
  rw [List.length_nil, Nat.zero_add] at this
  exact this
theorem dictOf_nodup (L : Dc) : ((dictOf L).map (·.1)).Nodup := by
  have key : ∀ (M : Dc) (d : Dc), (d.map (·.1)).Nodup → ((M.foldl (fun d p => mput d p.1 p.2) d).map (·.1)).Nodup := fun M => by
    induction M with
    | nil => intro d hd; exact hd
    | cons p M ih =>
      intro d hd
      refine ih _ ?_
      unfold mput
      rw [put_keys]
      split
      · exact hd
      · rename_i n
        rw [List.nodup_append]
        refine ⟨hd, by simp, fun a ha b hb z => n ?_⟩
        have : b = p.1 := by simpa using hb
        rw [z, this] at ha
        obtain ⟨v, hv⟩ := look_of_mem ha
        rw [hv]; rfl
  exact key L [] List.nodup_nil
theorem dictOf_mem {L : Dc} {k : List Int} (h : k ∈ (dictOf L).map (·.1)) : k ∈ L.map (·.1) := by
  have key : ∀ (M : Dc) (d : Dc), k ∈ ((M.foldl (fun d p => mput d p.1 p.2) d).map (·.1)) → k ∈ d.map (·.1) ∨ k ∈ M.map (·.1) := fun M => by
    induction M with
    | nil => intro d hd; exact .inl hd
    | cons p M ih =>
      intro d hd
      rcases ih _ hd with z | z
      · unfold mput at z
        rw [put_keys] at z
        split at z
        · exact .inl z
        · rcases List.mem_append.mp z with z | z
          · exact .inl z
          · right; rw [List.map_cons]; exact List.mem_cons.mpr (.inl (by simpa using z))
      · right; rw [List.map_cons]; exact List.mem_cons_of_mem _ z
  rcases key L [] h with z | z
  · simp at z
  · exact z
/-! ### one day, tank by tank -/
abbrev St3 := List Int × Int × Int
def stD (s : St3) : Dt := .tup [.tup (s.1.map Dt.int), .int s.2.1, .int s.2.2]
def waterN (held : List Int) (day : Day) (k : Nat) (s : St3) : Int := held.getD k 0 + day.1.getD k 0 + s.2.1
def nightCell (W : Int) (s : St3) (a b : Nat) : List Int × Int := ((W - a - b) :: (s.1 ++ [(b : Int)]), s.2.2 + a)
def nightCol (room W : Int) (s : St3) (a : Nat) : Dc := (List.range (min (W - a) room + 1).toNat).map (nightCell W s a)
def nightRow (rooms held : List Int) (day : Day) (k : Nat) (s : St3) : Dc :=
  (List.range (min (waterN held day k s) (day.2.getD k 0) + 1).toNat).flatMap (nightCol (rooms.getD k 0) (waterN held day k s) s)
def toSt (p : List Int × Int) : St3 := (p.1.tail, p.1.headD 0, p.2)
def nightSts (rooms held : List Int) (day : Day) : Nat → List St3
  | 0 => [([], 0, 0)]
  | k + 1 => (dictOf ((nightSts rooms held day k).flatMap (nightRow rooms held day k))).map toSt
def nights (rooms held : List Int) (day : Day) : Dc := dictOf ((nightSts rooms held day rooms.length).map fun s => (s.1, s.2.2))
structure NightPre (rooms held : List Int) (day : Day) : Prop where
  three : rooms.length ≤ 3
  hl : held.length = rooms.length
  rl : day.1.length = rooms.length
  wl : day.2.length = rooms.length
  room : ∀ k, k < rooms.length → 0 ≤ rooms.getD k 0 ∧ rooms.getD k 0 ≤ 2
  held0 : ∀ k, k < rooms.length → 0 ≤ held.getD k 0
  rain : ∀ k, k < rooms.length → 0 ≤ day.1.getD k 0
  wish : ∀ k, k < rooms.length → 0 ≤ day.2.getD k 0 ∧ day.2.getD k 0 ≤ 2
structure StOk (rooms : List Int) (k : Nat) (s : St3) : Prop where
  len : s.1.length = k
  kept : ∀ j, j < k → 0 ≤ s.1.getD j 0 ∧ s.1.getD j 0 ≤ rooms.getD j 0
  over : 0 ≤ s.2.1
  dr : 0 ≤ s.2.2
theorem getD_snoc_lt {xs : List Int} {x : Int} {j : Nat} (h : j < xs.length) : (xs ++ [x]).getD j 0 = xs.getD j 0 := by
  rw [List.getD_eq_getElem?_getD, List.getElem?_append_left h, ← List.getD_eq_getElem?_getD]
theorem getD_snoc_eq {xs : List Int} {x : Int} : (xs ++ [x]).getD xs.length 0 = x := by
  rw [List.getD_eq_getElem?_getD, List.getElem?_append_right (Nat.le_refl _), Nat.sub_self]; rfl
/-- what is in a row -/
theorem mem_row {rooms held : List Int} {day : Day} {k : Nat} {s : St3} {p : List Int × Int} : p ∈ nightRow rooms held day k s ↔
    ∃ a b : Nat, (a : Int) ≤ min (waterN held day k s) (day.2.getD k 0) ∧ (b : Int) ≤ min (waterN held day k s - a) (rooms.getD k 0) ∧ p = nightCell (waterN held day k s) s a b := by
  unfold nightRow nightCol
  rw [List.mem_flatMap]
  constructor
  · rintro ⟨a, ha, hp⟩
    obtain ⟨b, hb, rfl⟩ := List.mem_map.mp hp
    rw [List.mem_range] at ha hb
    exact ⟨a, b, by omega, by omega, rfl⟩
  · rintro ⟨a, b, ha, hb, rfl⟩
    exact ⟨a, List.mem_range.mpr (by omega), List.mem_map.mpr ⟨b, List.mem_range.mpr (by omega), rfl⟩⟩
theorem row_ok {rooms held : List Int} {day : Day} {k : Nat} {s : St3} {p : List Int × Int} (so : StOk rooms k s) (h : p ∈ nightRow rooms held day k s) : StOk rooms (k + 1) (toSt p) ∧ ∃ o l, p.1 = o :: l := by
  obtain ⟨a, b, h1, h2, rfl⟩ := mem_row.mp h
  refine ⟨⟨?_, fun j hj => ?_, ?_, ?_⟩, _, _, rfl⟩
  · show (s.1 ++ [(b : Int)]).length = k + 1
    rw [List.length_append, so.len]; rfl
  · show 0 ≤ (s.1 ++ [(b : Int)]).getD j 0 ∧ (s.1 ++ [(b : Int)]).getD j 0 ≤ rooms.getD j 0
    by_cases e : j < k
    · rw [getD_snoc_lt (by rw [so.len]; exact e)]
      exact so.kept j e
    · have e : j = s.1.length := by rw [so.len]; omega
      subst e
      rw [getD_snoc_eq]
      rw [so.len]
      omega
  · show 0 ≤ waterN held day k s - a - b
    omega
  · show 0 ≤ s.2.2 + (a : Int)
    have := so.dr
    omega
theorem sts_ok {rooms held : List Int} {day : Day} : ∀ k, ∀ s ∈ nightSts rooms held day k, StOk rooms k s
  | 0, s, hs => by
    have : s = ([], 0, 0) := by simpa [nightSts] using hs
    subst this
    exact ⟨rfl, fun j hj => by omega, Int.le_refl _, Int.le_refl _⟩
  | k + 1, s, hs => by
    rw [nightSts] at hs
    obtain ⟨p, hp, rfl⟩ := List.mem_map.mp hs
    have hn : ∀ q ∈ (nightSts rooms held day k).flatMap (nightRow rooms held day k), 0 ≤ q.2 := fun q hq => by
      obtain ⟨s, hs, hq⟩ := List.mem_flatMap.mp hq
      exact (row_ok (sts_ok k s hs) hq).1.dr
    have hp := ((dictOf_dm hn).top p.1 p.2 hp).1
    obtain ⟨s, hs, hq⟩ := List.mem_flatMap.mp hp
    exact (row_ok (sts_ok k s hs) hq).1
theorem flat_nn {rooms held : List Int} {day : Day} (k : Nat) : ∀ q ∈ (nightSts rooms held day k).flatMap (nightRow rooms held day k), 0 ≤ q.2 ∧ ∃ o l, q.1 = o :: l := fun q hq => by
  obtain ⟨s, hs, hq⟩ := List.mem_flatMap.mp hq
  have := row_ok (sts_ok k s hs) hq
  exact ⟨this.1.dr, this.2⟩
theorem flatMap_len {α β : Type} (f : α → List β) (n : Nat) : ∀ xs : List α, (∀ x ∈ xs, (f x).length ≤ n) → (xs.flatMap f).length ≤ xs.length * n
  | [], _ => by simp
  | x :: xs, h => by
    rw [List.flatMap_cons, List.length_append, List.length_cons]
    have h1 := h x List.mem_cons_self
    have h2 := flatMap_len f n xs fun y hy => h y (List.mem_cons_of_mem _ hy)
    rw [Nat.add_mul]
    omega
theorem col_len {room W : Int} {s : St3} {a : Nat} (h : room ≤ 2) : (nightCol room W s a).length ≤ 3 := by
  unfold nightCol
  rw [List.length_map, List.length_range]
  omega
theorem row_len {rooms held : List Int} {day : Day} {k : Nat} {s : St3} (h1 : rooms.getD k 0 ≤ 2) (h2 : day.2.getD k 0 ≤ 2) : (nightRow rooms held day k s).length ≤ 9 := by
  unfold nightRow
  refine Nat.le_trans (flatMap_len _ 3 _ fun a _ => col_len h1) ?_
  rw [List.length_range]
  omega
theorem sts_len {rooms held : List Int} {day : Day} (np : NightPre rooms held day) : ∀ k, k ≤ rooms.length → (nightSts rooms held day k).length ≤ 9 ^ k
  | 0, _ => by rw [nightSts]; simp
  | k + 1, hk => by
    rw [nightSts, List.length_map]
    refine Nat.le_trans (dictOf_len _) ?_
    refine Nat.le_trans (flatMap_len _ 9 _ fun s _ => row_len (np.room k (by omega)).2 (np.wish k (by omega)).2) ?_
    have := sts_len np k (by omega)
    rw [Nat.pow_succ]
    omega
theorem sts_len3 {rooms held : List Int} {day : Day} (np : NightPre rooms held day) {k : Nat} (hk : k ≤ rooms.length) : (nightSts rooms held day k).length ≤ 729 := by
  refine Nat.le_trans (sts_len np k hk) ?_
  have : k ≤ 3 := by have := np.three; omega
  have : (9 : Nat) ^ k ≤ 9 ^ 3 := Nat.pow_le_pow_right (by decide) this
  exact this
end Cy

namespace Cy
open PySem L2
local macro_rules | `(tactic| walk_at "lv") => `(tactic| first | exact LV.lst | exact LV.scr | exact LV.own List.mem_cons_self | exact LV.own (List.mem_cons_of_mem _ List.mem_cons_self) | exact LV.own (List.mem_cons_of_mem _ (List.mem_cons_of_mem _ List.mem_cons_self)) | exact LV.own (List.mem_cons_of_mem _ (List.mem_cons_of_mem _ (List.mem_cons_of_mem _ List.mem_cons_self))))
local macro_rules | `(tactic| walk_at "at") => `(tactic| first | exact at_mapN (by assumption) | exact at_map (by omega) (by assumption) | rfl | exact at_of (by omega) (by assumption))
local macro_rules | `(tactic| walk_at "side") => `(tactic| first | assumption | omega | decide)
local macro_rules | `(tactic| walk_at "ea") => `(tactic| first | exact ea_nil | (apply ea_cons; walk_at "ev"; walk_at "ea"))
local macro_rules | `(tactic| walk_at "et") => `(tactic| first
  | exact et_yes
  | (apply et_B; walk_at "ev")
  | (apply et_T; walk_at "ev")
  | (apply et_not; walk_at "et"))
local macro_rules | `(tactic| walk_at "ev") => `(tactic| first
  | exact ev_var rfl
  | exact ev_cint | exact ev_cbl | exact ev_cstr | exact ev_cnon
  | (apply ev_ii; walk_at "ev"; walk_at "ev")
  | (apply ev_ib; walk_at "ev"; walk_at "ev")
  | (apply ev_eqI; walk_at "ev"; walk_at "ev")
  | (apply ev_neI; walk_at "ev"; walk_at "ev")
  | (apply ev_ixL; walk_at "ev"; walk_at "lv"; walk_at "ev"; walk_at "at")
  | (apply ev_ixT; walk_at "ev"; walk_at "ev"; walk_at "at")
  | (apply ev_len; walk_at "ev"; walk_at "lv")
  | (apply ev_lenT; walk_at "ev")
  | (apply ev_min2; walk_at "ev"; walk_at "ev")
  | (apply ev_max2; walk_at "ev"; walk_at "ev")
  | (apply ev_tup; walk_at "ea"; (first | decide | simp | skip))
  | (apply ev_iC; walk_at "ev"; walk_at "ev"; walk_at "cond")
  | (apply ev_fldI; walk_at "cls"; walk_at "cls"; walk_at "ev"; walk_at "iv"; rfl; rfl; rfl)
  | (apply ev_F; walk_at "ef")
  | walk_at "call")
local macro_rules | `(tactic| walk_at "ef") => `(tactic| first
  | (apply ef_list; walk_at "ev"; walk_at "lv")
  | (apply ef_lst; walk_at "ea"; (first | decide | simp | skip)))
local macro_rules | `(tactic| walk_at "iv") => `(tactic| first | exact IV.ins | exact IV.own List.mem_cons_self | exact IV.own (List.mem_cons_of_mem _ List.mem_cons_self) | exact IV.own (List.mem_cons_of_mem _ (List.mem_cons_of_mem _ List.mem_cons_self)) | exact IV.own (List.mem_cons_of_mem _ (List.mem_cons_of_mem _ (List.mem_cons_of_mem _ List.mem_cons_self))))
local macro_rules | `(tactic| walk_at "cond") => `(tactic| first | exact Or.inr (by decide) | exact Or.inl (by decide) | (exact ⟨by decide, by decide⟩) | (show (0 : Int) < _; first | decide | assumption | omega))
local macro_rules | `(tactic| walk_at "cls") => `(tactic| first | assumption | exact YardF.cls (by assumption) | exact YardF.sizes (by assumption) | exact YardF.held (by assumption))
local macro_rules | `(tactic| walk_at "call") => `(tactic| fail "no call")
local macro_rules | `(tactic| walk_at "at") => `(tactic| first | exact at_getD (by first | assumption | omega) | rfl)
def c_l_nights (P : Program) (w : World) (A : Ad) : Ct := fun ds os Q => ∃ rooms held day, NightPre rooms held day ∧ ds = [iL rooms, .tup (held.map Dt.int), dayD day] ∧ os = [] ∧
  Q = fun r os' => ∃ p c, r = .ok (.adr p) ∧ os' = [(p, c)] ∧ NC P w enc1 (nights rooms held day) c
def rd_l_nights (P : Program) (w : World) (K : Fg) (A : Ad) : TS :=
  tSeq (tAsg (tLst (tCons (tTup (tCons (tTup (tNil)) (tCons (tC (V.int 0)) (tCons (tC (V.int 0)) (tNil))))) (tNil))) (gName 3)) 
      (tSeq (tFor (iRng1 (tCons (tCB (Evl.rLenS K) (tCons (tVar 0) (tNil))) (tNil))) (gName 4) 
        (tSeq (tAsg (tNNew P w) (gName 5)) 
        (tSeq (tFor (iList K (tVar 3)) (gTup K 3 (gCons (gName 6) (gCons (gName 7) (gCons (gName 8) (gNil))))) 
          (tSeq (tAsg (tOp (rI0 fun i j => V.int (i + j)) (tOp (rI0 fun i j => V.int (i + j)) (tOp (rIxT K) (tVar 1) (tVar 4)) (tOp (rIxL K) (tOp (rIxT K) (tVar 2) (tC (V.int 0))) (tVar 4))) (tVar 7)) (gName 9)) 
          (tFor (iRng1 (tCons (tOp (rI0 fun i j => V.int (i + j)) (tCB (rMin2) (tCons (tVar 9) (tCons (tOp (rIxL K) (tOp (rIxT K) (tVar 2) (tC (V.int 1))) (tVar 4)) (tNil)))) (tC (V.int 1))) (tNil))) (gName 10) 
            (tFor (iRng1 (tCons (tOp (rI0 fun i j => V.int (i + j)) (tCB (rMin2) (tCons (tOp (rI0 fun i j => V.int (i - j)) (tVar 9) (tVar 10)) (tCons (tOp (rIxL K) (tVar 0) (tVar 4)) (tNil)))) (tC (V.int 1))) (tNil))) (gName 11) 
              (tSeq (tAsg (tTup (tCons (tOp (rCatA K) (tVar 6) (tTup (tCons (tVar 11) (tNil)))) (tCons (tOp (rI0 fun i j => V.int (i - j)) (tOp (rI0 fun i j => V.int (i - j)) (tVar 9) (tVar 10)) (tVar 11)) (tNil)))) (gName 12)) 
              (sNPut P w (tVar 5) (tVar 12) (tCB (Evl.rMax2) (tCons (tNGet2 P w (tVar 5) (tVar 12) (tC (V.int 0))) (tCons (tOp (rI0 fun i j => V.int (i + j)) (tVar 8) (tVar 10)) (tNil)))))))))) 
        (tAsg (tLc (iNKeys P w (tVar 5)) (gName 12) (tYes) (tTup (tCons (tOp (rIxT K) (tVar 12) (tC (V.int 0))) (tCons (tOp (rIxT K) (tVar 12) (tC (V.int 1))) (tCons (tNGet P w (tVar 5) (tVar 12)) (tNil))))) ([12] : List Nat)) (gName 3))))) 
      (tSeq (tAsg (tNNew P w) (gName 13)) 
      (tSeq (tFor (iList K (tVar 3)) (gTup K 3 (gCons (gName 6) (gCons (gName 7) (gCons (gName 8) (gNil))))) 
        (sNPut P w (tVar 13) (tVar 6) (tCB (Evl.rMax2) (tCons (tNGet2 P w (tVar 13) (tVar 6) (tC (V.int 0))) (tCons (tVar 8) (tNil)))))) 
      (tRet (tVar 13)))))
theorem sem_l_nights {P : Program} {w : World} {K : Fg} {A : Ad} : ∀ vs H Q E, spC K 3 (c_l_nights P w A) vs H Q E → rd_l_nights P w K A { nx := fun _ H' => Q .non H', rt := Q } (start ["rooms", "held", "day", "states", "k", "further", "kept", "over", "drawn", "water", "some", "stays", "key", "found"] vs) H :=
  body_ok fun ds os Pc hl hc B D hfp hR hN => by
    obtain ⟨rooms, held, day, np, rfl, rfl, rfl⟩ := hc
    have h3 := np.three
    refine q_asg (d := .lst ((nightSts rooms held day 0).map stD)) (ev_F (ef_lst (ea_cons (ev_tup (ea_cons (ev_tup ea_nil (by simp)) (ea_cons ev_cint (ea_cons ev_cint ea_nil))) (by simp)) ea_nil) (by simp [nightSts]))) ?_
    refine q_forR (n := (rooms.length : Int)) (ea_cons (ev_is (ev_len (ev_var rfl) LV.lst) (by rw [List.length_map])) ea_nil) (by omega) (by omega) (fun k ss os => k ≤ rooms.length ∧ ∃ o4 o5 o6 o7 o8 o9 o10 o11 o12 o13, ss = [some (iL rooms), some (.tup (held.map Dt.int)), some (dayD day), some (.lst ((nightSts rooms held day k).map stD)), o4, o5, o6, o7, o8, o9, o10, o11, o12, o13] ∧ os = []) ⟨Nat.zero_le _, _, _, _, _, _, _, _, _, _, _, rfl, rfl⟩ (fun k ss os hk hI => ?_) (fun ss os hI => ?_)
    · obtain ⟨_, o4, o5, o6, o7, o8, o9, o10, o11, o12, o13, rfl, rfl⟩ := hI
      have hk : k < rooms.length := by omega
      have hroom := np.room k hk
      have hwish := np.wish k hk
      have hl3 := sts_len3 np (k := k) (by omega)
      refine q_asgM (em_nnew enc2) fun d os' hd => ?_
      obtain ⟨p, c0, _, rfl, rfl, nc0⟩ := hd
      refine q_forM (xs := nightSts rooms held day k) (f0 := stD) (ev_var rfl) (fun i ss os => ∃ o6 o7 o8 o9 o10 o11 o12 c, ss = [some (iL rooms), some (.tup (held.map Dt.int)), some (dayD day), some (.lst ((nightSts rooms held day k).map stD)), some (.int (k : Int)), some (.adr p), o6, o7, o8, o9, o10, o11, o12, o13] ∧ os = [(p, c)] ∧ NC P w enc2 (dictOf (((nightSts rooms held day k).take i).flatMap (nightRow rooms held day k))) c) ⟨_, _, _, _, _, _, _, c0, rfl, rfl, nc0⟩ (fun B1 hB1 i s ss os hs hI => ?_) (fun ss os hI => ?_)
      · obtain ⟨o6, o7, o8, o9, o10, o11, o12, c, rfl, rfl, nc⟩ := hI
        refine ⟨_, tg_tup3, ?_⟩
        have so := sts_ok k s (List.mem_of_getElem? hs)
        have hi : i < (nightSts rooms held day k).length := (List.getElem?_eq_some_iff.mp hs).1
        have hpre : (((nightSts rooms held day k).take i).flatMap (nightRow rooms held day k)).length ≤ 729 * 9 := by
          refine Nat.le_trans (flatMap_len _ 9 _ fun s _ => row_len hroom.2 hwish.2) ?_
          rw [List.length_take]
          have : min i (nightSts rooms held day k).length ≤ 729 := by omega
          exact Nat.mul_le_mul_right 9 this
        have e2 : ((nightSts rooms held day k).take (i + 1)).flatMap (nightRow rooms held day k) = ((nightSts rooms held day k).take i).flatMap (nightRow rooms held day k) ++ nightRow rooms held day k s := by
          rw [List.take_add_one, hs, List.flatMap_append]
          simp
        rw [e2]
        generalize hpe : ((nightSts rooms held day k).take i).flatMap (nightRow rooms held day k) = pre at nc hpre ⊢
        have hW : waterN held day k s = held.getD k 0 + day.1.getD k 0 + s.2.1 := rfl
        have hW0 : 0 ≤ waterN held day k s := by
          have := np.held0 k hk
          have := np.rain k hk
          have := so.over
          omega
        refine q_asg (d := .int (waterN held day k s)) (ev_is (ev_ii (ev_ii (ev_ixT (ev_var rfl) (ev_var rfl) (at_getD (by rw [np.hl]; exact hk))) (ev_ixL (ev_ixT (ev_var rfl) ev_cint rfl) LV.lst (ev_var rfl) (at_getD (by rw [np.rl]; exact hk)))) (ev_var rfl)) rfl) ?_
        have hrow : nightRow rooms held day k s = (List.range (min (waterN held day k s) (day.2.getD k 0) + 1).toNat).flatMap (nightCol (rooms.getD k 0) (waterN held day k s) s) := rfl
        rw [hrow]
        generalize waterN held day k s = W at hW0 ⊢
        refine do_forR (n := min W (day.2.getD k 0) + 1) (ea_cons (ev_ii (ev_min2 (ev_var rfl) (ev_ixL (ev_ixT (ev_var rfl) ev_cint rfl) LV.lst (ev_var rfl) (at_getD (by rw [np.wl]; exact hk)))) ev_cint) ea_nil) (by omega) (by omega) (fun a ss os => ∃ o10 o11 o12 c, ss = [some (iL rooms), some (.tup (held.map Dt.int)), some (dayD day), some (.lst ((nightSts rooms held day k).map stD)), some (.int (k : Int)), some (.adr p), some (.tup (s.1.map Dt.int)), some (.int s.2.1), some (.int s.2.2), some (.int W), o10, o11, o12, o13] ∧ os = [(p, c)] ∧ NC P w enc2 (dictOf (pre ++ (List.range a).flatMap (nightCol (rooms.getD k 0) W s))) c) ⟨_, _, _, c, rfl, rfl, by simpa using nc⟩ (fun a ss os ha hI => ?_) (fun ss os hI => ?_)
        · obtain ⟨o10, o11, o12, c, rfl, rfl, nc⟩ := hI
          have hp2 : (pre ++ (List.range a).flatMap (nightCol (rooms.getD k 0) W s)).length ≤ 729 * 9 + 9 := by
            rw [List.length_append]
            have := flatMap_len (nightCol (rooms.getD k 0) W s) 3 (List.range a) fun a _ => col_len hroom.2
            rw [List.length_range] at this
            omega
          have e3 : pre ++ (List.range (a + 1)).flatMap (nightCol (rooms.getD k 0) W s) = pre ++ (List.range a).flatMap (nightCol (rooms.getD k 0) W s) ++ (List.range (min (W - a) (rooms.getD k 0) + 1).toNat).map (nightCell W s a) := by
            rw [List.range_succ, List.flatMap_append, List.append_assoc]
            simp [nightCol]
          rw [e3]
          generalize pre ++ (List.range a).flatMap (nightCol (rooms.getD k 0) W s) = pre2 at nc hp2 ⊢
          refine do_forR (n := min (W - a) (rooms.getD k 0) + 1) (ea_cons (ev_ii (ev_min2 (ev_ii (ev_var rfl) (ev_var rfl)) (ev_ixL (ev_var rfl) LV.lst (ev_var rfl) (at_getD hk))) ev_cint) ea_nil) (by omega) (by omega) (fun b ss os => ∃ o11 o12 c, ss = [some (iL rooms), some (.tup (held.map Dt.int)), some (dayD day), some (.lst ((nightSts rooms held day k).map stD)), some (.int (k : Int)), some (.adr p), some (.tup (s.1.map Dt.int)), some (.int s.2.1), some (.int s.2.2), some (.int W), some (.int (a : Int)), o11, o12, o13] ∧ os = [(p, c)] ∧ NC P w enc2 (dictOf (pre2 ++ (List.range b).map (nightCell W s a))) c) ⟨_, _, c, rfl, rfl, by simpa using nc⟩ (fun b ss os hb hI => ?_) (fun ss os hI => ?_)
          · obtain ⟨o11, o12, c, rfl, rfl, nc⟩ := hI
            have hkey : nkD (enc2 (nightCell W s a b).1) = .tup [.tup (s.1.map Dt.int ++ [.int (b : Int)]), .int (W - a - b)] := by
              unfold nightCell
              rw [nkD_enc2, List.map_append]; rfl
            refine q_asg (d := nkD (enc2 (nightCell W s a b).1)) (ev_is (ev_tup (ea_cons (ev_catA (ev_var rfl) (ev_tup (ea_cons (ev_var rfl) ea_nil) (by simp)) (by rw [List.length_map, so.len]; simp; omega)) (ea_cons (ev_ii (ev_ii (ev_var rfl) (ev_var rfl)) (ev_var rfl)) ea_nil)) (by simp)) hkey.symm) ?_
            have e4 : pre2 ++ (List.range (b + 1)).map (nightCell W s a) = pre2 ++ (List.range b).map (nightCell W s a) ++ [nightCell W s a b] := by
              rw [List.range_succ, List.map_append, List.append_assoc]; rfl
            refine do_nput (i := max ((look (dictOf (pre2 ++ (List.range b).map (nightCell W s a))) (nightCell W s a b).1).getD 0) (nightCell W s a b).2) (ev_max2 (ev_nget2 (ev_var rfl) List.mem_cons_self nc enc2_ok (ev_var rfl) ev_cint) (ev_ii (ev_var rfl) (ev_var rfl))) (ev_var rfl) List.mem_cons_self nc enc2_ok (ev_var rfl) ?_ fun c' nc' => ?_
            · refine Nat.lt_of_le_of_lt (dictOf_len _) ?_
              rw [List.length_append, List.length_map, List.length_range]
              omega
            · rw [setC_one]
              refine nx_at ⟨_, _, c', rfl, rfl, ?_⟩
              rw [e4, dictOf_snoc]
              exact nc'
          · obtain ⟨o11, o12, c, rfl, rfl, nc⟩ := hI
            exact nx_at ⟨_, _, _, c, rfl, rfl, nc⟩
        · obtain ⟨o10, o11, o12, c, rfl, rfl, nc⟩ := hI
          exact nx_at ⟨_, _, _, _, _, _, _, c, rfl, rfl, nc⟩
      · obtain ⟨o6, o7, o8, o9, o10, o11, o12, c, rfl, rfl, nc⟩ := hI
        rw [List.take_length] at nc
        have hlen : (dictOf ((nightSts rooms held day k).flatMap (nightRow rooms held day k))).length < 1000000 := by
          refine Nat.lt_of_le_of_lt (dictOf_len _) ?_
          refine Nat.lt_of_le_of_lt (flatMap_len _ 9 _ fun s _ => row_len hroom.2 hwish.2) ?_
          omega
        refine do_asg (d := .lst ((nightSts rooms held day (k + 1)).map stD)) (ev_is (ev_F (ef_mapN (ev_var rfl) List.mem_cons_self nc (fun x => stD (toSt x)) (fun x hx => ⟨_, tw_name, ?_⟩) hlen)) (by rw [nightSts, List.map_map]; rfl)) ?_
        · obtain ⟨o, l, e⟩ := (flat_nn (rooms := rooms) (held := held) (day := day) k x (((dictOf_dm fun q hq => (flat_nn k q hq).1).top x.1 x.2 hx).1)).2
          have ek : nkD (enc2 x.1) = .tup [.tup (l.map Dt.int), .int o] := by rw [e, nkD_enc2]
          have es : stD (toSt x) = .tup [.tup (l.map Dt.int), .int o, .int x.2] := by
            unfold stD toSt
            rw [e]; rfl
          rw [es]
          have hv : ∀ {ss : SS} {os : Own}, ss[12]? = some (some (nkD (enc2 x.1))) → Ev K (tVar 12) ss os (.tup [.tup (l.map Dt.int), .int o]) := fun {ss os} h => by
            rw [← ek]; exact ev_var h
          exact ev_tup (ea_cons (ev_ixT (hv rfl) ev_cint rfl) (ea_cons (ev_ixT (hv rfl) ev_cint rfl) (ea_cons (ev_nget (ev_var rfl) List.mem_cons_self nc enc2_ok (ev_var rfl) hx) ea_nil))) (by simp)
        · exact nx_weak (Le.refl _) (List.nil_sublist _) (nx_at ⟨hk, _, _, _, _, _, _, _, _, _, _, rfl, rfl⟩)
    · obtain ⟨_, o4, o5, o6, o7, o8, o9, o10, o11, o12, o13, rfl, rfl⟩ := hI
      rw [Int.toNat_natCast]
      refine q_asgM (em_nnew enc1) fun d os' hd => ?_
      obtain ⟨p, c0, _, rfl, rfl, nc0⟩ := hd
      have hl3 := sts_len3 np (k := rooms.length) (Nat.le_refl _)
      refine q_forM (xs := nightSts rooms held day rooms.length) (f0 := stD) (ev_var rfl) (fun i ss os => ∃ o6 o7 o8 c, ss = [some (iL rooms), some (.tup (held.map Dt.int)), some (dayD day), some (.lst ((nightSts rooms held day rooms.length).map stD)), o4, o5, o6, o7, o8, o9, o10, o11, o12, some (.adr p)] ∧ os = [(p, c)] ∧ NC P w enc1 (dictOf (((nightSts rooms held day rooms.length).take i).map fun s => (s.1, s.2.2))) c) ⟨_, _, _, c0, rfl, rfl, nc0⟩ (fun B1 hB1 i s ss os hs hI => ?_) (fun ss os hI => ?_)
      · obtain ⟨o6, o7, o8, c, rfl, rfl, nc⟩ := hI
        refine ⟨_, tg_tup3, ?_⟩
        have e2 : ((nightSts rooms held day rooms.length).take (i + 1)).map (fun s => (s.1, s.2.2)) = ((nightSts rooms held day rooms.length).take i).map (fun s => (s.1, s.2.2)) ++ [(s.1, s.2.2)] := by
          rw [List.take_add_one, hs, List.map_append]; rfl
        have hv : ∀ {ss : SS} {os : Own}, ss[6]? = some (some (.tup (s.1.map Dt.int))) → Ev K (tVar 6) ss os (nkD (enc1 s.1)) := fun {ss os} h => by
          rw [nkD_enc1]; exact ev_var h
        refine do_nput (i := max ((look (dictOf (((nightSts rooms held day rooms.length).take i).map fun s => (s.1, s.2.2))) s.1).getD 0) s.2.2) (ev_max2 (ev_nget2 (ev_var rfl) List.mem_cons_self nc enc1_ok (hv rfl) ev_cint) (ev_var rfl)) (ev_var rfl) List.mem_cons_self nc enc1_ok (hv rfl) ?_ fun c' nc' => ?_
        · refine Nat.lt_of_le_of_lt (dictOf_len _) ?_
          rw [List.length_map, List.length_take]
          omega
        · rw [setC_one]
          refine nx_at ⟨_, _, _, c', rfl, rfl, ?_⟩
          rw [e2, dictOf_snoc]
          exact nc'
      · obtain ⟨o6, o7, o8, c, rfl, rfl, nc⟩ := hI
        rw [List.take_length] at nc
        exact do_ret (ev_var rfl) (hR.rt ⟨p, c, rfl, rfl, nc⟩)
end Cy

namespace Cy
/-! plans made tank by tank -/
theorem overAt_ext {held rain d d' k k' : List Int} : ∀ {n : Nat}, (∀ j, j < n → d.getD j 0 = d'.getD j 0 ∧ k.getD j 0 = k'.getD j 0) → overAt held rain d k n = overAt held rain d' k' n
  | 0, _ => rfl
  | n + 1, h => by
    show held.getD n 0 + rain.getD n 0 + overAt held rain d k n - d.getD n 0 - k.getD n 0 = held.getD n 0 + rain.getD n 0 + overAt held rain d' k' n - d'.getD n 0 - k'.getD n 0
    rw [overAt_ext fun j hj => h j (by omega), (h n (by omega)).1, (h n (by omega)).2]
theorem tankOk_ext {rooms held : List Int} {day : Day} {d d' k k' : List Int} {j : Nat} (h : ∀ i, i < j + 1 → d.getD i 0 = d'.getD i 0 ∧ k.getD i 0 = k'.getD i 0) : tankOk rooms held day (d, k) j = tankOk rooms held day (d', k') j := by
  unfold tankOk
  show (decide (0 ≤ d.getD j 0) && (decide (0 ≤ k.getD j 0) && (decide (0 ≤ overAt held day.1 d k (j + 1)) && (decide (d.getD j 0 ≤ day.2.getD j 0) && decide (k.getD j 0 ≤ rooms.getD j 0))))) = _
  rw [overAt_ext h, (h j (by omega)).1, (h j (by omega)).2]
theorem heldAt_ext {held : List Int} {pl : List Day} {d : Day} : ∀ {n : Nat}, n ≤ pl.length → heldAt held (pl ++ [d]) n = heldAt held pl n
  | 0, _ => rfl
  | n + 1, h => by
    show ((pl ++ [d]).getD n ([], [])).2 = (pl.getD n ([], [])).2
    rw [List.getD_eq_getElem?_getD, List.getElem?_append_left (by omega), List.getD_eq_getElem?_getD]
theorem getD_app {pl : List Day} {d : Day} {n : Nat} (h : n < pl.length) : (pl ++ [d]).getD n ([], []) = pl.getD n ([], []) := by
  rw [List.getD_eq_getElem?_getD, List.getElem?_append_left (by omega), List.getD_eq_getElem?_getD]
theorem getD_last {pl : List Day} {d : Day} : (pl ++ [d]).getD pl.length ([], []) = d := by
  rw [List.getD_eq_getElem?_getD, List.getElem?_append_right (by omega)]; simp
/-- how far a drawn plan is -/
structure PlanTo (rooms waters : List Int) (days pl : List Day) (n : Nat) : Prop where
  len : pl.length = n
  wf : YardWf rooms (heldAt waters pl n)
  ok : ∀ m, m < n → dayHolds rooms (heldAt waters pl m) (days.getD m ([], [])) (pl.getD m ([], [])) = true
structure DayTo (rooms held : List Int) (day : Day) (dr kp : List Int) (over : Int) (n : Nat) : Prop where
  ld : dr.length = n
  lk : kp.length = n
  ov : over = overAt held day.1 dr kp n
  pos : 0 ≤ over
  ok : ∀ j, j < n → tankOk rooms held day (dr, kp) j = true
theorem DayTo.step {rooms held : List Int} {day : Day} {dr kp : List Int} {over some stays : Int} {n : Nat} (h : DayTo rooms held day dr kp over n)
    (h1 : 0 ≤ some) (h2 : some ≤ held.getD n 0 + day.1.getD n 0 + over) (h3 : some ≤ day.2.getD n 0) (h4 : 0 ≤ stays) (h5 : stays ≤ held.getD n 0 + day.1.getD n 0 + over - some) (h6 : stays ≤ rooms.getD n 0) :
    DayTo rooms held day (dr ++ [some]) (kp ++ [stays]) (held.getD n 0 + day.1.getD n 0 + over - some - stays) (n + 1) := by
  have e : ∀ i, i < n → dr.getD i 0 = (dr ++ [some]).getD i 0 ∧ kp.getD i 0 = (kp ++ [stays]).getD i 0 := fun i hi => by
    rw [getD_snoc, getD_snoc, if_neg (by rw [h.ld]; omega), if_neg (by rw [h.lk]; omega)]; exact ⟨rfl, rfl⟩
  have e1 : (dr ++ [some]).getD n 0 = some := by rw [getD_snoc, if_pos h.ld.symm]
  have e2 : (kp ++ [stays]).getD n 0 = stays := by rw [getD_snoc, if_pos h.lk.symm]
  have ov : held.getD n 0 + day.1.getD n 0 + over - some - stays = overAt held day.1 (dr ++ [some]) (kp ++ [stays]) (n + 1) := by
    show _ = held.getD n 0 + day.1.getD n 0 + overAt held day.1 (dr ++ [some]) (kp ++ [stays]) n - (dr ++ [some]).getD n 0 - (kp ++ [stays]).getD n 0
    rw [← overAt_ext e, e1, e2, ← h.ov]
  refine ⟨by simp [h.ld], by simp [h.lk], ov, by omega, fun j hj => ?_⟩
  by_cases q : j = n
  · subst q
    refine tankOk_iff.mpr ?_
    show 0 ≤ (dr ++ [some]).getD j 0 ∧ 0 ≤ (kp ++ [stays]).getD j 0 ∧ 0 ≤ overAt held day.1 (dr ++ [some]) (kp ++ [stays]) (j + 1) ∧ (dr ++ [some]).getD j 0 ≤ day.2.getD j 0 ∧ (kp ++ [stays]).getD j 0 ≤ rooms.getD j 0
    rw [e1, e2, ← ov]
    omega
  · rw [← tankOk_ext fun i hi => e i (by omega)]
    exact h.ok j (by omega)
theorem PlanTo.step {rooms waters : List Int} {days pl : List Day} {n : Nat} {dr kp : List Int} {over : Int} (h : PlanTo rooms waters days pl n) (d : DayTo rooms (heldAt waters pl n) (days.getD n ([], [])) dr kp over rooms.length) :
    PlanTo rooms waters days (pl ++ [(dr, kp)]) (n + 1) ∧ heldAt waters (pl ++ [(dr, kp)]) (n + 1) = kp := by
  have e0 : (pl ++ [(dr, kp)]).getD n ([], []) = (dr, kp) := by
    have := getD_last (pl := pl) (d := (dr, kp))
    rw [h.len] at this
    exact this
  have e : heldAt waters (pl ++ [(dr, kp)]) (n + 1) = kp := by
    show ((pl ++ [(dr, kp)]).getD n ([], [])).2 = kp
    rw [e0]
  refine ⟨⟨by simp [h.len], ?_, fun m hm => ?_⟩, e⟩
  · rw [e]
    refine ⟨d.lk, h.wf.pos, h.wf.four, h.wf.room, fun k hk => ?_⟩
    have := tankOk_iff.mp (d.ok k hk)
    exact ⟨this.2.1, this.2.2.2.2⟩
  · rw [heldAt_ext (by have := h.len; omega)]
    by_cases q : m = n
    · subst q
      rw [e0]
      exact dayHolds_iff.mpr ⟨by rw [h.wf.len]; exact d.ld, by rw [h.wf.len]; exact d.lk, fun k hk => d.ok k (by rw [h.wf.len] at hk; exact hk)⟩
    · rw [getD_app (by have := h.len; omega)]
      exact h.ok m (by omega)
end Cy

namespace Cy
/-! shares -/
theorem sumTo_const_le {f : Nat → Int} {c : Int} : ∀ {n : Nat}, (∀ k, k < n → f k ≤ c) → sumTo f n ≤ c * n
  | 0, _ => by simp [sumTo]
  | n + 1, h => by
    have ih := sumTo_const_le (n := n) fun k hk => h k (by omega)
    have := h n (by omega)
    show sumTo f n + f n ≤ c * ((n + 1 : Nat) : Int)
    have e : c * ((n + 1 : Nat) : Int) = c * n + c := by
      rw [Int.natCast_add, Int.mul_add]; simp
    omega
section
variable {rooms held : List Int} {days : List Day}
theorem ws_at (hd : daysOk rooms.length days = true) {n k : Nat} (hn : n < days.length) (hk : k < rooms.length) : 0 ≤ ws days n k ∧ ws days n k ≤ 30 :=
  lOk_at (dayOk_iff.mp ((daysOk_iff.mp hd).2 _ (List.mem_of_getElem? (getDay hn)))).2 hk
theorem rn_at (hd : daysOk rooms.length days = true) {n k : Nat} (hn : n < days.length) (hk : k < rooms.length) : 0 ≤ rn days n k ∧ rn days n k ≤ 30 :=
  lOk_at (dayOk_iff.mp ((daysOk_iff.mp hd).2 _ (List.mem_of_getElem? (getDay hn)))).1 hk
theorem wishAb_nn (hd : daysOk rooms.length days = true) {L : Nat → Nat} (hL : ∀ i, i < days.length → L i ≤ rooms.length) : 0 ≤ wishAb days L days.length :=
  sumTo_nn fun n hn => sumTo_nn fun k hk => (ws_at hd hn (by have := hL n hn; omega)).1
theorem wishAb_le (hd : daysOk rooms.length days = true) (h4 : rooms.length ≤ 4) {L : Nat → Nat} (hL : ∀ i, i < days.length → L i ≤ rooms.length) : wishAb days L days.length ≤ 960 := by
  have h8 := (daysOk_iff.mp hd).1
  have : wishAb days L days.length ≤ 120 * (days.length : Int) := sumTo_const_le fun n hn => by
    have hb : sumTo (ws days n) (L n) ≤ 30 * (L n : Int) := sumTo_const_le fun k hk => (ws_at hd hn (by have := hL n hn; omega)).2
    have := hL n hn
    omega
  omega
theorem waterAb_nn (Y : YardWf rooms held) (hd : daysOk rooms.length days = true) {L : Nat → Nat} (hL : ∀ i, i < days.length → L i ≤ rooms.length) : 0 ≤ waterAb rooms held days L days.length :=
  sumTo_nn fun n hn => sumTo_nn fun k hk => by
    have hk2 : k < rooms.length := by have := hL n hn; omega
    have h1 := (rn_at hd hn hk2).1
    have h2 := (Y.water k hk2).1
    have h3 := (Y.room k hk2).1
    unfold abv
    split
    · omega
    · split <;> omega
theorem wishAb_tot (hd : daysOk rooms.length days = true) {L : Nat → Nat} (hL : ∀ i, i < days.length → L i ≤ rooms.length) : wishAb days L days.length ≤ totW days := by
  rw [totW_eq (rooms := rooms) (held := rooms) fun n hn => lOk_len (dayOk_iff.mp ((daysOk_iff.mp hd).2 _ (List.mem_of_getElem? (getDay hn)))).2]
  refine sumTo_le fun n hn => ?_
  rw [sumTo_split (ws days n) (hL n hn)]
  have : 0 ≤ sumTo (fun k => if L n ≤ k then ws days n k else 0) rooms.length := sumTo_nn fun k hk => by
    split
    · exact (ws_at hd hn hk).1
    · exact Int.le_refl _
  omega
end
/-- Newton's step: the wishes above the line grow less -/
theorem newton {t1 u1 t2 u2 W1 S1 W2 S2 g : Int} (hu1 : 0 < u1) (hS1 : 0 < S1) (hg : 0 < g) (hW : W1 = g * t2) (hS : S1 = g * u2) (hA : u1 * W1 - t1 * S1 ≤ u1 * W2 - t1 * S2) (h1 : u1 * W1 < t1 * S1) (h2 : u2 * W2 < t2 * S2) : S2 < S1 := by
  apply Classical.byContradiction
  intro hc
  have hc : S1 ≤ S2 := by omega
  have c1 : S1 * W2 < W1 * S2 := by
    have := Int.mul_lt_mul_of_pos_left h2 hg
    rw [hW, hS, Int.mul_assoc, Int.mul_assoc]
    exact this
  have c2 : S1 * (u1 * W1 - t1 * S1) ≤ S1 * (u1 * W2 - t1 * S2) := Int.mul_le_mul_of_nonneg_left hA (by omega)
  have c3 : u1 * (S1 * W2) < u1 * (W1 * S2) := Int.mul_lt_mul_of_pos_left c1 hu1
  have e1 : S1 * (u1 * W2 - t1 * S2) = u1 * (S1 * W2) - t1 * (S1 * S2) := by
    rw [Int.mul_sub, Int.mul_left_comm, Int.mul_left_comm S1 t1 S2]
  have e2 : u1 * (W1 * S2) - t1 * (S1 * S2) = S2 * (u1 * W1 - t1 * S1) := by
    rw [Int.mul_sub, Int.mul_comm S2 (u1 * W1), Int.mul_comm S2 (t1 * S1), Int.mul_assoc, Int.mul_assoc]
  have c4 : S1 * (u1 * W1 - t1 * S1) < S2 * (u1 * W1 - t1 * S1) := by omega
  have c5 : S2 * (u1 * W1 - t1 * S1) ≤ S1 * (u1 * W1 - t1 * S1) := Int.mul_le_mul_of_nonpos_right hc (by omega)
  omega
/-- what share tells -/
structure ShareR (rooms held : List Int) (days : List Day) (t u : Int) : Prop where
  pos : 0 ≤ t
  le : t ≤ u
  upos : 0 < u
  low : Nat.gcd t.toNat u.toNat = 1
  small : u ≤ 960
  all : ∀ L : Nat → Nat, (∀ i, i < days.length → L i ≤ rooms.length) → t * wishAb days L days.length ≤ u * waterAb rooms held days L days.length
structure Shown (rooms held : List Int) (days : List Day) (t u : Int) (line : List Int) : Prop where
  ok : lineOk rooms.length days.length line = true
  lt : t < u
  wish : 0 < wishAb days (lN line) days.length
  eq : u * waterAb rooms held days (lN line) days.length = t * wishAb days (lN line) days.length
theorem part_facts {W S : Nat} (hS : 0 < S) : 0 < Nat.gcd W S ∧ W = Nat.gcd W S * (W / Nat.gcd W S) ∧ S = Nat.gcd W S * (S / Nat.gcd W S) ∧ 0 < S / Nat.gcd W S ∧ Nat.gcd (W / Nat.gcd W S) (S / Nat.gcd W S) = 1 := by
  have hg := Nat.gcd_pos_of_pos_right W hS
  have h1 := Nat.mul_div_cancel' (Nat.gcd_dvd_left W S)
  have h2 := Nat.mul_div_cancel' (Nat.gcd_dvd_right W S)
  refine ⟨hg, h1.symm, h2.symm, Nat.div_pos (Nat.le_of_dvd hS (Nat.gcd_dvd_right W S)) hg, ?_⟩
  exact Nat.coprime_div_gcd_div_gcd hg
section
variable {rooms held : List Int} {days : List Day}
theorem totW_le (hd : daysOk rooms.length days = true) (h4 : rooms.length ≤ 4) : 0 ≤ totW days ∧ totW days ≤ 960 := by
  have e : totW days = wishAb days (fun _ => rooms.length) days.length := totW_eq (rooms := rooms) (held := rooms) fun n hn => lOk_len (dayOk_iff.mp ((daysOk_iff.mp hd).2 _ (List.mem_of_getElem? (getDay hn)))).2
  rw [e]
  exact ⟨wishAb_nn hd fun _ _ => Nat.le_refl _, wishAb_le hd h4 fun _ _ => Nat.le_refl _⟩
theorem IsMost.nn (Y : YardWf rooms held) (hd : daysOk rooms.length days = true) {v : Int} (h : IsMost rooms held days v) : 0 ≤ v := by
  obtain ⟨line, hl, rfl⟩ := h
  have h1 := waterAb_nn Y hd hl.le
  have h2 := wishAb_tot hd hl.le
  unfold lineV
  omega
/-- the share of all wishes can be drawn -/
theorem share_most (hd : daysOk rooms.length days = true) {v t u : Int} (h : IsMost rooms held days v) (s : ShareR rooms held days t u) : t * totW days ≤ u * v := by
  obtain ⟨line, hl, rfl⟩ := h
  have h1 := s.all _ hl.le
  have h2 := wishAb_tot hd hl.le
  unfold lineV
  generalize waterAb rooms held days (lN line) days.length = W at *
  generalize wishAb days (lN line) days.length = S at *
  generalize totW days = T at *
  have c1 : t * (T - S) ≤ u * (T - S) := Int.mul_le_mul_of_nonneg_right s.le (by omega)
  have e1 : u * (W + T - S) = u * W + u * (T - S) := by rw [← Int.mul_add]; congr 1; omega
  have e2 : t * T = t * S + t * (T - S) := by rw [← Int.mul_add]; congr 1; omega
  omega
theorem most_one {v t u : Int} (h : IsMost rooms held days v) (s : ShareR rooms held days t u) (f : (t = 1 ∧ u = 1) ∨ ∃ line, Shown rooms held days t u line) : (t = 1 ∧ u = 1) ↔ v = totW days := by
  constructor
  · rintro ⟨rfl, rfl⟩
    have h1 := h.total
    obtain ⟨line, hl, e⟩ := id h
    have h2 := s.all _ hl.le
    unfold lineV at e
    omega
  · intro e
    rcases f with f | ⟨line, f⟩
    · exact f
    · have h1 := h.le (L := lN line) fun i hi => (lN_int f.ok hi).2
      have h2 := f.eq
      have h3 := f.wish
      have h4 := f.lt
      have h5 := s.upos
      unfold lineV at h1
      generalize waterAb rooms held days (lN line) days.length = W at *
      generalize wishAb days (lN line) days.length = S at *
      have c1 : t * S < u * S := Int.mul_lt_mul_of_pos_right h4 h3
      have c2 : u * S ≤ u * W := Int.mul_le_mul_of_nonneg_left (by omega) (by omega)
      omega
end
end Cy

namespace Cy
/-! water that runs: what may still go, rows of ways, what a push does -/
abbrev Spot := Nat × Nat
inductive Kd | keep | fall | unkeep | unfall
abbrev Step := Spot × Kd × Option Int
structure Fl where
  come : Nat → Nat → Int
  asked : Nat → Nat → Int
  kept : Nat → Nat → Int
  fell : Nat → Nat → Int
inductive Way (T N : Nat) (sz : Nat → Int) (s : Fl) : Spot → Spot → Kd → Option Int → Prop
  | keep {k n : Nat} : n + 1 < N → 0 < sz k - s.kept k n → Way T N sz s (k, n) (k, n + 1) .keep (some (sz k - s.kept k n))
  | fall {k n : Nat} : k + 1 < T → Way T N sz s (k, n) (k + 1, n) .fall none
  | unkeep {k n : Nat} : 0 < s.kept k n → Way T N sz s (k, n + 1) (k, n) .unkeep (some (s.kept k n))
  | unfall {k n : Nat} : 0 < s.fell k n → Way T N sz s (k + 1, n) (k, n) .unfall (some (s.fell k n))
inductive Path (W : Spot → Spot → Kd → Option Int → Prop) : Spot → List Step → Spot → List Spot → Prop
  | nil (p : Spot) : Path W p [] p [p]
  | cons {p q g : Spot} {kd : Kd} {mo : Option Int} {r : List Step} {vs : List Spot} : W p q kd mo → Path W q r g vs → p ∉ vs → Path W p ((p, kd, mo) :: r) g (p :: vs)
def addE (f : Nat → Nat → Int) (k n : Nat) (m : Int) : Nat → Nat → Int := fun a b => if a = k ∧ b = n then f a b + m else f a b
def app (m : Int) (st : Fl) (x : Step) : Fl := match x.2.1 with
  | .keep => { st with kept := addE st.kept x.1.1 x.1.2 m }
  | .fall => { st with fell := addE st.fell x.1.1 x.1.2 m }
  | .unkeep => { st with kept := addE st.kept x.1.1 (x.1.2 - 1) (-m) }
  | .unfall => { st with fell := addE st.fell (x.1.1 - 1) x.1.2 (-m) }
def pushTo (m : Int) (st : Fl) (row : List Step) : Fl := row.foldl (app m) st
def pushed (m : Int) (st : Fl) (s g : Spot) (row : List Step) : Fl :=
  { pushTo m st row with come := addE st.come s.1 s.2 (-m), asked := addE st.asked g.1 g.2 (-m) }
/-- what comes into a spot by ways, less what goes out -/
def net (st : Fl) (k n : Nat) : Int := (if n = 0 then 0 else st.kept k (n - 1)) - st.kept k n + (if k = 0 then 0 else st.fell (k - 1) n) - st.fell k n
structure Ok (T N : Nat) (sz : Nat → Int) (st : Fl) : Prop where
  kn : ∀ k n, 0 ≤ st.kept k n
  ks : ∀ k n, st.kept k n ≤ sz k
  kz : ∀ k n, ¬ (k < T ∧ n + 1 < N) → st.kept k n = 0
  fn : ∀ k n, 0 ≤ st.fell k n
  fz : ∀ k n, ¬ (k + 1 < T ∧ n < N) → st.fell k n = 0
abbrev In (T N : Nat) (p : Spot) : Prop := p.1 < T ∧ p.2 < N
section
variable {T N : Nat} {sz : Nat → Int} {st st' st2 : Fl} {p q g s : Spot} {kd : Kd} {mo : Option Int} {m : Int}
theorem Way.inn (h : Way T N sz st p q kd mo) (ok : Ok T N sz st) (hp : In T N p) : In T N q := by
  cases h with
  | keep h1 h2 => exact ⟨hp.1, h1⟩
  | fall h1 => exact ⟨h1, hp.2⟩
  | unkeep h1 => exact ⟨hp.1, by have := hp.2; show _ < N; simp only at this; omega⟩
  | unfall h1 => exact ⟨by have := hp.1; show _ < T; simp only at this; omega, hp.2⟩
theorem Way.ne (h : Way T N sz st p q kd mo) : p ≠ q := by
  cases h <;> intro e <;> have := congrArg Prod.fst e <;> have := congrArg Prod.snd e <;> simp only at * <;> omega
theorem Way.pos (h : Way T N sz st p q kd mo) : ∀ x, mo = some x → 0 < x := by
  cases h <;> intro x e <;> cases e <;> assumption
theorem addE_same (f : Nat → Nat → Int) (k n : Nat) (m : Int) : addE f k n m k n = f k n + m := by simp [addE]
theorem addE_ne (f : Nat → Nat → Int) {k n a b : Nat} (m : Int) (h : ¬ (a = k ∧ b = n)) : addE f k n m a b = f a b := by simp [addE, h]
/-- the ways that touch no spot of S, or end at one that S has not, are as they were -/
structure Unt (S : Spot → Prop) (st st' : Fl) : Prop where
  k : ∀ k n, ¬ S (k, n) ∨ ¬ S (k, n + 1) → st'.kept k n = st.kept k n
  f : ∀ k n, ¬ S (k, n) ∨ ¬ S (k + 1, n) → st'.fell k n = st.fell k n
theorem Unt.refl (S : Spot → Prop) (st : Fl) : Unt S st st := ⟨fun _ _ _ => rfl, fun _ _ _ => rfl⟩
theorem Unt.trans {S : Spot → Prop} (a : Unt S st st') (b : Unt S st' st2) : Unt S st st2 := ⟨fun k n h => (b.k k n h).trans (a.k k n h), fun k n h => (b.f k n h).trans (a.f k n h)⟩
theorem Unt.mono {S S' : Spot → Prop} (h : ∀ p, S p → S' p) (a : Unt S st st') : Unt S' st st' :=
  ⟨fun k n q => a.k k n (q.imp (fun z y => z (h _ y)) (fun z y => z (h _ y))), fun k n q => a.f k n (q.imp (fun z y => z (h _ y)) (fun z y => z (h _ y)))⟩
theorem Way.unt {S : Spot → Prop} (u : Unt S st st') (h : Way T N sz st p q kd mo) (n : ¬ S p ∨ ¬ S q) : Way T N sz st' p q kd mo := by
  cases h with
  | keep h1 h2 => rw [← u.k _ _ n] at h2 ⊢; exact .keep h1 h2
  | fall h1 => exact .fall h1
  | unkeep h1 => rw [← u.k _ _ n.symm] at h1 ⊢; exact .unkeep h1
  | unfall h1 => rw [← u.f _ _ n.symm] at h1 ⊢; exact .unfall h1
theorem Way.back {S : Spot → Prop} (u : Unt S st st') (h : Way T N sz st' p q kd mo) (n : ¬ S p ∨ ¬ S q) : Way T N sz st p q kd mo :=
  h.unt ⟨fun k n h => (u.k k n h).symm, fun k n h => (u.f k n h).symm⟩ n
theorem app_unt (h : Way T N sz st p q kd mo) : Unt (fun z => z = p ∨ z = q) st (app m st (p, kd, mo)) := by
  cases h with
  | keep h1 h2 =>
    refine ⟨fun k n hn => ?_, fun _ _ _ => rfl⟩
    refine addE_ne _ _ fun e => ?_
    obtain ⟨rfl, rfl⟩ := e
    rcases hn with hn | hn
    · exact hn (.inl rfl)
    · exact hn (.inr rfl)
  | fall h1 =>
    refine ⟨fun _ _ _ => rfl, fun k n hn => ?_⟩
    refine addE_ne _ _ fun e => ?_
    obtain ⟨rfl, rfl⟩ := e
    rcases hn with hn | hn
    · exact hn (.inl rfl)
    · exact hn (.inr rfl)
  | unkeep h1 =>
    refine ⟨fun k n hn => ?_, fun _ _ _ => rfl⟩
    refine addE_ne _ _ fun e => ?_
    obtain ⟨rfl, e⟩ := e
    simp only [Nat.add_sub_cancel] at e
    subst e
    rcases hn with hn | hn
    · exact hn (.inr rfl)
    · exact hn (.inl rfl)
  | unfall h1 =>
    refine ⟨fun _ _ _ => rfl, fun k n hn => ?_⟩
    refine addE_ne _ _ fun e => ?_
    obtain ⟨e, rfl⟩ := e
    simp only [Nat.add_sub_cancel] at e
    subst e
    rcases hn with hn | hn
    · exact hn (.inr rfl)
    · exact hn (.inl rfl)
theorem app_ok (h : Way T N sz st p q kd mo) (ok : Ok T N sz st) (hp : In T N p) (h0 : 0 ≤ m) (hm : ∀ x, mo = some x → m ≤ x) : Ok T N sz (app m st (p, kd, mo)) := by
  have hq := h.inn ok hp
  cases h with
  | @keep k n h1 h2 =>
    have := hm _ rfl
    refine ⟨fun a b => ?_, fun a b => ?_, fun a b hz => ?_, ok.fn, ok.fz⟩
    · show 0 ≤ addE _ _ _ _ _ _
      unfold addE; have := ok.kn a b; split <;> omega
    · show addE st.kept k n m a b ≤ _
      unfold addE; have := ok.ks a b
      split
      · rename_i e; obtain ⟨rfl, rfl⟩ := e; omega
      · omega
    · show addE st.kept k n m a b = 0
      rw [addE_ne _ _ (fun e => hz ⟨by rw [e.1]; exact hp.1, by rw [e.2]; exact h1⟩)]
      exact ok.kz a b hz
  | @fall k n h1 =>
    refine ⟨ok.kn, ok.ks, ok.kz, fun a b => ?_, fun a b hz => ?_⟩
    · show 0 ≤ addE _ _ _ _ _ _
      unfold addE; have := ok.fn a b; split <;> omega
    · show addE st.fell k n m a b = 0
      rw [addE_ne _ _ (fun e => hz ⟨by rw [e.1]; exact h1, by rw [e.2]; exact hp.2⟩)]
      exact ok.fz a b hz
  | @unkeep k n h1 =>
    have := hm _ rfl
    refine ⟨fun a b => ?_, fun a b => ?_, fun a b hz => ?_, ok.fn, ok.fz⟩
    · show 0 ≤ addE st.kept k (n + 1 - 1) (-m) a b
      unfold addE; have := ok.kn a b
      split
      · rename_i e; have e1 : a = k := e.1; have e2 : b = n := e.2; subst e1 e2; omega
      · omega
    · show addE st.kept k (n + 1 - 1) (-m) a b ≤ _
      unfold addE; have := ok.ks a b; split <;> omega
    · show addE st.kept k (n + 1 - 1) (-m) a b = 0
      rw [addE_ne _ _ (fun e => ?_)]
      · exact ok.kz a b hz
      · have e1 : a = k := e.1
        have e2 : b = n := e.2
        subst e1 e2
        have := ok.kz _ _ hz
        omega
  | @unfall k n h1 =>
    have := hm _ rfl
    refine ⟨ok.kn, ok.ks, ok.kz, fun a b => ?_, fun a b hz => ?_⟩
    · show 0 ≤ addE st.fell (k + 1 - 1) n (-m) a b
      unfold addE; have := ok.fn a b
      split
      · rename_i e; have e1 : a = k := e.1; have e2 : b = n := e.2; subst e1 e2; omega
      · omega
    · show addE st.fell (k + 1 - 1) n (-m) a b = 0
      rw [addE_ne _ _ (fun e => ?_)]
      · exact ok.fz a b hz
      · have e1 : a = k := e.1
        have e2 : b = n := e.2
        subst e1 e2
        have := ok.fz _ _ hz
        omega
def at1 (p : Spot) (m : Int) (k n : Nat) : Int := if (k, n) = p then m else 0
theorem app_net (h : Way T N sz st p q kd mo) (k n : Nat) : net (app m st (p, kd, mo)) k n = net st k n - at1 p m k n + at1 q m k n := by
  cases h with
  | @keep a b h1 h2 =>
    unfold net at1 app addE
    simp only [Prod.mk.injEq]
    repeat' split
    all_goals omega
  | @fall a b h1 =>
    unfold net at1 app addE
    simp only [Prod.mk.injEq]
    repeat' split
    all_goals omega
  | @unkeep a b h1 =>
    unfold net at1 app addE
    simp only [Prod.mk.injEq, Nat.add_sub_cancel]
    repeat' split
    all_goals omega
  | @unfall a b h1 =>
    unfold net at1 app addE
    simp only [Prod.mk.injEq, Nat.add_sub_cancel]
    repeat' split
    all_goals omega
theorem Path.congr {W W' : Spot → Spot → Kd → Option Int → Prop} : ∀ {row : List Step} {p g : Spot} {vs : List Spot}, Path W p row g vs → (∀ a b kd mo, a ∈ vs → b ∈ vs → W a b kd mo → W' a b kd mo) → Path W' p row g vs
  | _, _, _, _, .nil p, _ => .nil p
  | _, _, _, _, .cons w t n, h => by
    refine .cons (h _ _ _ _ List.mem_cons_self (List.mem_cons_of_mem _ ?_) w) (t.congr fun a b kd mo ha hb => h a b kd mo (List.mem_cons_of_mem _ ha) (List.mem_cons_of_mem _ hb)) n
    cases t <;> exact List.mem_cons_self
theorem Path.fst {W : Spot → Spot → Kd → Option Int → Prop} {row : List Step} {p g : Spot} {vs : List Spot} (h : Path W p row g vs) : p ∈ vs := by
  cases h <;> exact List.mem_cons_self
theorem Path.last {W : Spot → Spot → Kd → Option Int → Prop} : ∀ {row : List Step} {p g : Spot} {vs : List Spot}, Path W p row g vs → g ∈ vs
  | _, _, _, _, .nil p => List.mem_cons_self
  | _, _, _, _, .cons w t n => List.mem_cons_of_mem _ t.last
theorem app_come (x : Step) : (app m st x).come = st.come ∧ (app m st x).asked = st.asked := by
  obtain ⟨p, kd, mo⟩ := x
  cases kd <;> exact ⟨rfl, rfl⟩
theorem push_facts : ∀ {row : List Step} {p g : Spot} {vs : List Spot} {st : Fl}, Path (Way T N sz st) p row g vs → Ok T N sz st → In T N p → 0 ≤ m → (∀ x ∈ row, ∀ y, x.2.2 = some y → m ≤ y) →
    Ok T N sz (pushTo m st row) ∧ (∀ k n, net (pushTo m st row) k n = net st k n - at1 p m k n + at1 g m k n) ∧ Unt (· ∈ vs) st (pushTo m st row) ∧ (pushTo m st row).come = st.come ∧ (pushTo m st row).asked = st.asked ∧ (∀ v ∈ vs, In T N v)
  | _, _, _, _, st, .nil p, ok, hp, h0, hm => ⟨ok, fun k n => by show net st k n = _; omega, Unt.refl _ _, rfl, rfl, fun v hv => by
      have : v = p := by simpa using hv
      rw [this]; exact hp⟩
  | _, _, _, _, st, @Path.cons _ p q g kd mo r vs w t n, ok, hp, h0, hm => by
    have hm1 := hm (p, kd, mo) List.mem_cons_self
    have ok1 := app_ok w ok hp h0 hm1
    have u1 := app_unt (m := m) w
    have hq := w.inn ok hp
    have t1 : Path (Way T N sz (app m st (p, kd, mo))) q r g vs := t.congr fun a b kd' mo' ha hb h => h.unt u1 (by
      apply Classical.byContradiction
      intro hc
      have hc1 : a = p ∨ a = q := Classical.byContradiction fun z => hc (.inl z)
      have hc2 : b = p ∨ b = q := Classical.byContradiction fun z => hc (.inr z)
      have hne := h.ne
      rcases hc1 with rfl | rfl
      · exact n ha
      · rcases hc2 with rfl | rfl
        · exact n hb
        · exact hne rfl)
    obtain ⟨a1, a2, a3, a4, a5, a6⟩ := push_facts t1 ok1 hq h0 fun x hx => hm x (List.mem_cons_of_mem _ hx)
    have e := app_come (st := st) (m := m) (p, kd, mo)
    refine ⟨a1, fun k n => ?_, ?_, a4.trans e.1, a5.trans e.2, fun v hv => ?_⟩
    · have h1 := a2 k n
      have h2 := app_net (m := m) w k n
      show net (pushTo m (app m st (p, kd, mo)) r) k n = _
      omega
    · refine Unt.trans (u1.mono fun z hz => ?_) (a3.mono fun z hz => List.mem_cons_of_mem _ hz)
      rcases hz with rfl | rfl
      · exact List.mem_cons_self
      · exact List.mem_cons_of_mem _ t.fst
    · rcases List.mem_cons.mp hv with rfl | hv
      · exact hp
      · exact a6 v hv
/-! ### what stands between the pushes -/
structure Fine (T N : Nat) (sz : Nat → Int) (come0 asked0 : Nat → Nat → Int) (st : Fl) : Prop where
  ok : Ok T N sz st
  c0 : ∀ k n, k < T → n < N → 0 ≤ st.come k n
  a0 : ∀ k n, k < T → n < N → 0 ≤ st.asked k n
  a1 : ∀ k n, k < T → n < N → st.asked k n ≤ asked0 k n
  bal : ∀ k n, k < T → n < N → come0 k n - st.come k n + net st k n = asked0 k n - st.asked k n
variable {come0 asked0 : Nat → Nat → Int}
theorem Fine.push {row : List Step} {vs : List Spot} (f : Fine T N sz come0 asked0 st) (hs : In T N s) (h : Path (Way T N sz st) s row g vs) (h0 : 0 ≤ m) (h1 : m ≤ st.come s.1 s.2) (h2 : m ≤ st.asked g.1 g.2) (hm : ∀ x ∈ row, ∀ y, x.2.2 = some y → m ≤ y) :
    Fine T N sz come0 asked0 (pushed m st s g row) := by
  obtain ⟨a1, a2, a3, a4, a5, a6⟩ := push_facts h f.ok hs h0 hm
  have hg := a6 _ h.last
  refine ⟨⟨a1.kn, a1.ks, a1.kz, a1.fn, a1.fz⟩, fun k n hk hn => ?_, fun k n hk hn => ?_, fun k n hk hn => ?_, fun k n hk hn => ?_⟩
  · show 0 ≤ addE st.come s.1 s.2 (-m) k n
    have := f.c0 k n hk hn
    unfold addE
    split
    · rename_i e; rw [e.1, e.2]; omega
    · exact this
  · show 0 ≤ addE st.asked g.1 g.2 (-m) k n
    have := f.a0 k n hk hn
    unfold addE
    split
    · rename_i e; rw [e.1, e.2]; omega
    · exact this
  · show addE st.asked g.1 g.2 (-m) k n ≤ _
    have := f.a1 k n hk hn
    unfold addE
    split <;> omega
  · have h3 := f.bal k n hk hn
    have h4 := a2 k n
    show come0 k n - addE st.come s.1 s.2 (-m) k n + net (pushTo m st row) k n = asked0 k n - addE st.asked g.1 g.2 (-m) k n
    rw [h4]
    unfold addE at1
    obtain ⟨s1, s2⟩ := s
    obtain ⟨g1, g2⟩ := g
    simp only [Prod.mk.injEq]
    split <;> split <;> omega
/-- a set that no way leaves and where nothing is asked -/
structure Closed (T N : Nat) (sz : Nat → Int) (st : Fl) (R : Spot → Prop) : Prop where
  out : ∀ a b kd mo, In T N a → R a → Way T N sz st a b kd mo → R b
  no : ∀ a, In T N a → R a → st.asked a.1 a.2 = 0
def Stuck (T N : Nat) (sz : Nat → Int) (st : Fl) (s : Spot) : Prop := st.come s.1 s.2 ≤ 0 ∨ ∃ R, R s ∧ Closed T N sz st R
theorem Path.outside {R : Spot → Prop} (c : Closed T N sz st R) (ok : Ok T N sz st) : ∀ {row : List Step} {p g : Spot} {vs : List Spot}, Path (Way T N sz st) p row g vs → In T N p → 0 < st.asked g.1 g.2 → ∀ v ∈ vs, ¬ R v
  | _, _, _, _, .nil p, hp, hg, v, hv, hR => by
    have : v = p := by simpa using hv
    subst this
    have := c.no _ hp hR
    omega
  | _, _, _, _, .cons w t n, hp, hg, v, hv, hR => by
    have ih := t.outside c ok (w.inn ok hp) hg
    rcases List.mem_cons.mp hv with rfl | hv
    · exact ih _ t.fst (c.out _ _ _ _ hp hR w)
    · exact ih v hv hR
theorem Stuck.push {row : List Step} {vs : List Spot} {z : Spot} (f : Fine T N sz come0 asked0 st) (k : Stuck T N sz st z) (hs : In T N s) (h : Path (Way T N sz st) s row g vs) (h0 : 0 ≤ m) (hg : 0 < st.asked g.1 g.2) (hm : ∀ x ∈ row, ∀ y, x.2.2 = some y → m ≤ y) :
    Stuck T N sz (pushed m st s g row) z := by
  rcases k with k | ⟨R, hR, c⟩
  · left
    show addE st.come s.1 s.2 (-m) z.1 z.2 ≤ 0
    unfold addE
    split <;> omega
  · right
    obtain ⟨a1, a2, a3, a4, a5, a6⟩ := push_facts h f.ok hs h0 hm
    have ho := h.outside c f.ok hs hg
    refine ⟨R, hR, fun a b kd mo ha hRa w => ?_, fun a ha hRa => ?_⟩
    · have w : Way T N sz (pushTo m st row) a b kd mo := by
        cases w with
        | keep h1 h2 => exact .keep h1 h2
        | fall h1 => exact .fall h1
        | unkeep h1 => exact .unkeep h1
        | unfall h1 => exact .unfall h1
      exact c.out _ _ _ _ ha hRa (w.back a3 (.inl fun z => ho _ z hRa))
    · show addE st.asked g.1 g.2 (-m) a.1 a.2 = 0
      rw [addE_ne _ _ fun e => ?_]
      · exact c.no a ha hRa
      · have : a = g := Prod.ext e.1 e.2
        exact ho _ h.last (this ▸ hRa)
end
end Cy

namespace Cy
/-! the line that shows it -/
theorem split_up {R : Nat → Prop} : ∀ T, (∀ k, k + 1 < T → R k → R (k + 1)) → ∃ l, l ≤ T ∧ (∀ k, k < l → ¬ R k) ∧ ∀ k, l ≤ k → k < T → R k
  | 0, _ => ⟨0, Nat.le_refl _, fun k h => by omega, fun k h1 h2 => by omega⟩
  | T + 1, h => by
    obtain ⟨l, h1, h2, h3⟩ := split_up T fun k hk => h k (by omega)
    by_cases e : l < T
    · refine ⟨l, by omega, h2, fun k hk hkT => ?_⟩
      by_cases q : k = T
      · subst q
        have := h3 (k - 1) (by omega) (by omega)
        have := h (k - 1) (by omega) this
        rwa [show k - 1 + 1 = k by omega] at this
      · exact h3 k hk (by omega)
    · have e : l = T := by omega
      subst e
      by_cases q : R l
      · exact ⟨l, by omega, h2, fun k hk hkT => by
          have : k = l := by omega
          rw [this]; exact q⟩
      · refine ⟨l + 1, by omega, fun k hk => ?_, fun k h1 h2 => by omega⟩
        by_cases z : k = l
        · rw [z]; exact q
        · exact h2 k (by omega)
theorem tele {f : Nat → Int} : ∀ l, sumTo (fun k => (if k = 0 then 0 else f (k - 1)) - f k) l = - (if l = 0 then 0 else f (l - 1))
  | 0 => rfl
  | l + 1 => by
    show sumTo (fun k => (if k = 0 then 0 else f (k - 1)) - f k) l + ((if l = 0 then 0 else f (l - 1)) - f l) = _
    rw [tele l, if_neg (show ¬ l + 1 = 0 by omega)]
    show -(if l = 0 then 0 else f (l - 1)) + ((if l = 0 then 0 else f (l - 1)) - f l) = -f l
    omega
theorem split_eq {g r : Nat → Int} {b : Nat} : ∀ {f : Nat}, (∀ k, k < f → b ≤ k → g k = r k) → (∀ k, f ≤ k → k < b → g k = 0) → sumTo g f = sumTo g b + sumTo (fun k => if b ≤ k then r k else 0) f := fun {f} h1 h2 => by
  by_cases e : b ≤ f
  · rw [sumTo_split g e]
    congr 1
    refine sumTo_congr fun k hk => ?_
    by_cases q : b ≤ k
    · rw [if_pos q, if_pos q]; exact h1 k hk q
    · rw [if_neg q, if_neg q]
  · rw [sumTo_cut (m := f) (n := b) (by omega) h2]
    rw [sumTo_congr (f := fun k => if b ≤ k then r k else 0) (g := fun _ => 0) fun k hk => by rw [if_neg (by omega)], sumTo_zero]
    omega
section
variable {T N : Nat} {sz : Nat → Int} {st : Fl} {come0 asked0 : Nat → Nat → Int}
def capW (come0 : Nat → Nat → Int) (sz : Nat → Int) (L : Nat → Nat) (n k : Nat) : Int := come0 k n + if n = 0 then 0 else if L (n - 1) ≤ k then sz k else 0
theorem cut_of (f : Fine T N sz come0 asked0 st) {R : Spot → Prop} (c : Closed T N sz st R) (hc : ∀ k n, k < T → n < N → 0 < st.come k n → R (k, n)) :
    ∃ L : Nat → Nat, (∀ n, n < N → L n ≤ T) ∧ (∀ n k, n < N → L n ≤ k → k < T → st.asked k n = 0) ∧
      sumTo (fun n => sumTo (fun k => asked0 k n - st.asked k n) (L n)) N = sumTo (fun n => sumTo (capW come0 sz L n) (L n)) N := by
  have up : ∀ n, n < N → ∀ k, k + 1 < T → R (k, n) → R (k + 1, n) := fun n hn k hk hR => c.out _ _ _ _ ⟨by show k < T; omega, hn⟩ hR (.fall hk)
  have hL : ∃ L : Nat → Nat, ∀ n, n < N → L n ≤ T ∧ (∀ k, k < L n → ¬ R (k, n)) ∧ ∀ k, L n ≤ k → k < T → R (k, n) := by
    have : ∀ n, ∃ l, n < N → l ≤ T ∧ (∀ k, k < l → ¬ R (k, n)) ∧ ∀ k, l ≤ k → k < T → R (k, n) := fun n => by
      by_cases hn : n < N
      · obtain ⟨l, h⟩ := split_up (R := fun k => R (k, n)) T (up n hn)
        exact ⟨l, fun _ => h⟩
      · exact ⟨0, fun z => absurd z hn⟩
    exact ⟨fun n => Classical.choose (this n), fun n hn => Classical.choose_spec (this n) hn⟩
  obtain ⟨L, hL⟩ := hL
  refine ⟨L, fun n hn => (hL n hn).1, fun n k hn h1 h2 => c.no _ ⟨h2, hn⟩ ((hL n hn).2.2 k h1 h2), ?_⟩
  -- what falls over the line
  have ff : ∀ n, n < N → (if L n = 0 then 0 else st.fell (L n - 1) n) = 0 := fun n hn => by
    by_cases e : L n = 0
    · rw [if_pos e]
    · rw [if_neg e]
      obtain ⟨h1, h2, h3⟩ := hL n hn
      by_cases q : L n < T
      · have hp := f.ok.fn (L n - 1) n
        apply Classical.byContradiction
        intro hne
        have w : Way T N sz st (L n - 1 + 1, n) (L n - 1, n) .unfall _ := .unfall (by omega)
        rw [show L n - 1 + 1 = L n by omega] at w
        exact h2 (L n - 1) (by omega) (c.out _ _ _ _ ⟨q, hn⟩ (h3 _ (Nat.le_refl _) q) w)
      · exact f.ok.fz _ _ (by omega)
  have key : ∀ M, M ≤ N → sumTo (fun n => sumTo (fun k => asked0 k n - st.asked k n) (L n)) M + (if M = 0 then 0 else sumTo (fun k => st.kept k (M - 1)) (L (M - 1))) = sumTo (fun n => sumTo (capW come0 sz L n) (L n)) M := fun M => by
    induction M with
    | zero => intro _; rfl
    | succ n ih =>
      intro hM
      have ih := ih (by omega)
      have hn : n < N := by omega
      obtain ⟨h1, h2, h3⟩ := hL n hn
      have hd : sumTo (fun k => asked0 k n - st.asked k n) (L n) = sumTo (fun k => come0 k n) (L n) + (sumTo (fun k => if n = 0 then 0 else st.kept k (n - 1)) (L n) - sumTo (fun k => st.kept k n) (L n)) := by
        have e1 : sumTo (fun k => asked0 k n - st.asked k n) (L n) + sumTo (fun k => st.kept k n) (L n) = sumTo (fun k => come0 k n) (L n) + sumTo (fun k => if n = 0 then 0 else st.kept k (n - 1)) (L n) + sumTo (fun k => (if k = 0 then 0 else st.fell (k - 1) n) - st.fell k n) (L n) := by
          rw [← sumTo_add, ← sumTo_add, ← sumTo_add]
          refine sumTo_congr fun k hk => ?_
          have hb := f.bal k n (by omega) hn
          have hcm : st.come k n = 0 := by
            have h4 := f.c0 k n (by omega) hn
            apply Classical.byContradiction
            intro hne
            exact h2 k hk (hc k n (by omega) hn (by omega))
          unfold net at hb
          omega
        rw [tele (f := fun k => st.fell k n), ff n hn] at e1
        omega
      rw [if_neg (by omega), show n + 1 - 1 = n by omega]
      show sumTo (fun n => sumTo (fun k => asked0 k n - st.asked k n) (L n)) n + sumTo (fun k => asked0 k n - st.asked k n) (L n) + sumTo (fun k => st.kept k n) (L n) = sumTo (fun n => sumTo (capW come0 sz L n) (L n)) n + sumTo (capW come0 sz L n) (L n)
      rw [← ih, hd]
      cases n with
      | zero =>
        have e : sumTo (capW come0 sz L 0) (L 0) = sumTo (fun k => come0 k 0) (L 0) := sumTo_congr fun k _ => by unfold capW; rw [if_pos rfl]; omega
        rw [e, if_pos rfl]
        have : sumTo (fun k => if (0 : Nat) = 0 then (0 : Int) else st.kept k (0 - 1)) (L 0) = 0 := sumTo_zero _
        rw [this]
        omega
      | succ m =>
        have e : sumTo (capW come0 sz L (m + 1)) (L (m + 1)) = sumTo (fun k => come0 k (m + 1)) (L (m + 1)) + sumTo (fun k => if L m ≤ k then sz k else 0) (L (m + 1)) := by
          rw [← sumTo_add]
          refine sumTo_congr fun k _ => ?_
          unfold capW
          rw [if_neg (by omega), show m + 1 - 1 = m by omega]
        rw [e, if_neg (by omega), show m + 1 - 1 = m by omega]
        obtain ⟨g1, g2, g3⟩ := hL m (by omega)
        have e2 : sumTo (fun k => if m + 1 = 0 then 0 else st.kept k m) (L (m + 1)) = sumTo (fun k => st.kept k m) (L (m + 1)) := sumTo_congr fun k _ => by rw [if_neg (by omega)]
        have e3 := split_eq (g := fun k => st.kept k m) (r := sz) (b := L m) (f := L (m + 1)) (fun k hk hb => by
          have h5 := f.ok.ks k m
          apply Classical.byContradiction
          intro hne
          exact h2 k hk (c.out _ _ _ _ ⟨by show k < T; omega, by show m < N; omega⟩ (g3 k hb (by omega)) (.keep hn (by show 0 < sz k - st.kept k m; omega)))) (fun k hk hb => by
          have h5 := f.ok.kn k m
          apply Classical.byContradiction
          intro hne
          exact g2 k hb (c.out _ _ _ _ ⟨by show k < T; omega, hn⟩ (h3 k hk (by omega)) (.unkeep (by omega))))
        show _ + (_ + (sumTo (fun k => if m + 1 = 0 then 0 else st.kept k m) (L (m + 1)) - _)) + _ = _
        rw [e2]
        omega
  have := key N (Nat.le_refl _)
  by_cases e : N = 0
  · rw [if_pos e] at this; omega
  · rw [if_neg e] at this
    have e2 : sumTo (fun k => st.kept k (N - 1)) (L (N - 1)) = 0 := (sumTo_congr fun k _ => f.ok.kz k (N - 1) (by omega)).trans (sumTo_zero _)
    omega
/-- all that came has gone as far as it could -/
def Full (T N : Nat) (sz : Nat → Int) (st : Fl) : Prop := ∀ k n, k < T → n < N → Stuck T N sz st (k, n)
theorem Full.closed (h : Full T N sz st) : ∃ R, Closed T N sz st R ∧ ∀ k n, k < T → n < N → 0 < st.come k n → R (k, n) := by
  refine ⟨fun z => ∃ R, R z ∧ Closed T N sz st R, ⟨fun a b kd mo ha hR w => ?_, fun a ha hR => ?_⟩, fun k n hk hn hc => ?_⟩
  · obtain ⟨R, h1, h2⟩ := hR
    exact ⟨R, h2.out _ _ _ _ ha h1 w, h2⟩
  · obtain ⟨R, h1, h2⟩ := hR
    exact h2.no a ha h1
  · rcases h k n hk hn with z | z
    · have z : st.come k n ≤ 0 := z
      omega
    · exact z
end
/-! ### the days as a stream -/
section
variable {rooms held : List Int} {days : List Day} {top under : Int} {st : Fl}
def szS (rooms : List Int) (under : Int) (k : Nat) : Int := under * rooms.getD k 0
def comeS (held : List Int) (days : List Day) (under : Int) (k n : Nat) : Int := under * (rn days n k + if n = 0 then held.getD k 0 else 0)
def askS (days : List Day) (top : Int) (k n : Nat) : Int := top * ws days n k
abbrev FineS (rooms held : List Int) (days : List Day) (top under : Int) (st : Fl) : Prop := Fine rooms.length days.length (szS rooms under) (comeS held days under) (askS days top) st
abbrev FullS (rooms : List Int) (days : List Day) (under : Int) (st : Fl) : Prop := Full rooms.length days.length (szS rooms under) st
theorem capW_eq (L : Nat → Nat) (n k : Nat) : capW (comeS held days under) (szS rooms under) L n k = under * abv rooms held days (L (n - 1)) n k := by
  unfold capW comeS szS abv
  by_cases e : n = 0
  · rw [if_pos e, if_pos e, if_pos e]; omega
  · rw [if_neg e, if_neg e, if_neg e]
    split
    · rw [← Int.mul_add, Int.add_zero]
    · rw [Int.add_zero, Int.add_zero]
theorem stream_cut (f : FineS rooms held days top under st) (h : FullS rooms days under st) : ∃ L : Nat → Nat, (∀ n, n < days.length → L n ≤ rooms.length) ∧ (∀ n k, n < days.length → L n ≤ k → k < rooms.length → st.asked k n = 0) ∧
    sumTo (fun n => sumTo (fun k => top * ws days n k - st.asked k n) (L n)) days.length = under * waterAb rooms held days L days.length := by
  obtain ⟨R, c, hc⟩ := h.closed
  obtain ⟨L, h1, h2, h3⟩ := cut_of f c hc
  refine ⟨L, h1, h2, ?_⟩
  have e : sumTo (fun n => sumTo (capW (comeS held days under) (szS rooms under) L n) (L n)) days.length = under * waterAb rooms held days L days.length := by
    unfold waterAb
    rw [← sumTo_mul]
    refine sumTo_congr fun n _ => ?_
    rw [← sumTo_mul]
    exact sumTo_congr fun k _ => capW_eq L n k
  rw [← e]
  exact h3
/-- the share: all is drawn -/
theorem stream_all (f : FineS rooms held days top under st) (h : FullS rooms days under st) (ha : ∀ L : Nat → Nat, (∀ i, i < days.length → L i ≤ rooms.length) → top * wishAb days L days.length ≤ under * waterAb rooms held days L days.length) :
    ∀ k n, k < rooms.length → n < days.length → st.asked k n = 0 := fun k n hk hn => by
  obtain ⟨L, h1, h2, h3⟩ := stream_cut f h
  have h4 := ha L h1
  have e : sumTo (fun n => sumTo (fun k => top * ws days n k - st.asked k n) (L n)) days.length + sumTo (fun n => sumTo (fun k => st.asked k n) (L n)) days.length = top * wishAb days L days.length := by
    unfold wishAb
    rw [← sumTo_mul, ← sumTo_add]
    refine sumTo_congr fun n _ => ?_
    rw [← sumTo_mul, ← sumTo_add]
    exact sumTo_congr fun k _ => by omega
  have h5 : sumTo (fun n => sumTo (fun k => st.asked k n) (L n)) days.length ≤ 0 := by omega
  by_cases q : L n ≤ k
  · exact h2 n k hn q hk
  · have nn : ∀ n, n < days.length → 0 ≤ sumTo (fun k => st.asked k n) (L n) := fun n hn => sumTo_nn fun k hk => f.a0 k n (by have := h1 n hn; omega) hn
    have one : ∀ {g : Nat → Int} {M j : Nat}, (∀ i, i < M → 0 ≤ g i) → j < M → g j ≤ sumTo g M := fun {g M j} hg hj => by
      induction M with
      | zero => omega
      | succ M ih =>
        show g j ≤ sumTo g M + g M
        by_cases e : j = M
        · subst e
          have := sumTo_nn (f := g) (n := j) fun i hi => hg i (by omega)
          omega
        · have := ih (fun i hi => hg i (by omega)) (by omega)
          have := hg M (by omega)
          omega
    have a := one (g := fun n => sumTo (fun k => st.asked k n) (L n)) nn hn
    have b := one (g := fun k => st.asked k n) (M := L n) (fun i hi => f.a0 i n (by have := h1 n hn; omega) hn) (show k < L n by omega)
    have c := f.a0 k n hk hn
    omega
/-! ### the plan -/
def planS (many : Nat) (days : List Day) (top : Int) (st : Fl) (N : Nat) : List Day := (List.range N).map fun n => ((List.range many).map fun k => top * ws days n k - st.asked k n, (List.range many).map fun k => st.kept k n)
theorem range_getD {many : Nat} (f : Nat → Int) {k : Nat} (h : k < many) : ((List.range many).map f).getD k 0 = f k := by
  rw [List.getD_eq_getElem?_getD, List.getElem?_map, List.getElem?_range h]; rfl
theorem planS_at {many N n : Nat} (h : n < N) : (planS many days top st N).getD n ([], []) = ((List.range many).map fun k => top * ws days n k - st.asked k n, (List.range many).map fun k => st.kept k n) := by
  rw [List.getD_eq_getElem?_getD, planS, List.getElem?_map, List.getElem?_range h]; rfl
/-- what runs on, told by what fell and what did not go -/
theorem over_is (f : FineS rooms held days top under st) {n : Nat} (hn : n < days.length) : ∀ k, k ≤ rooms.length →
    sumTo (fun j => (if n = 0 then under * held.getD j 0 else st.kept j (n - 1)) + under * rn days n j - (top * ws days n j - st.asked j n) - st.kept j n) k = sumTo (fun j => st.come j n) k + (if k = 0 then 0 else st.fell (k - 1) n)
  | 0, _ => rfl
  | k + 1, h => by
    have ih := over_is f hn k (by omega)
    have hb := f.bal k n (by omega) hn
    show sumTo _ k + ((if n = 0 then under * held.getD k 0 else st.kept k (n - 1)) + under * rn days n k - (top * ws days n k - st.asked k n) - st.kept k n) = sumTo (fun j => st.come j n) k + st.come k n + (if k + 1 = 0 then 0 else st.fell (k + 1 - 1) n)
    rw [ih, if_neg (show ¬ k + 1 = 0 by omega), show k + 1 - 1 = k by omega]
    unfold net comeS askS at hb
    have e : under * (rn days n k + if n = 0 then held.getD k 0 else 0) = under * rn days n k + (if n = 0 then under * held.getD k 0 else 0) := by
      rw [Int.mul_add]
      congr 1
      split
      · rfl
      · rw [Int.mul_zero]
    rw [e] at hb
    by_cases q : n = 0
    · simp only [if_pos q] at hb ⊢
      omega
    · simp only [if_neg q] at hb ⊢
      omega
theorem over_pos (f : FineS rooms held days top under st) {n : Nat} (hn : n < days.length) {k : Nat} (h : k ≤ rooms.length) :
    0 ≤ sumTo (fun j => (if n = 0 then under * held.getD j 0 else st.kept j (n - 1)) + under * rn days n j - (top * ws days n j - st.asked j n) - st.kept j n) k := by
  rw [over_is f hn k h]
  have h1 : 0 ≤ sumTo (fun j => st.come j n) k := sumTo_nn fun j hj => f.c0 j n (by omega) hn
  split
  · omega
  · have := f.ok.fn (k - 1) n; omega
theorem overAt_sum (h r d p : List Int) : ∀ k, overAt h r d p k = sumTo (fun j => h.getD j 0 + r.getD j 0 - d.getD j 0 - p.getD j 0) k
  | 0 => rfl
  | k + 1 => by
    show h.getD k 0 + r.getD k 0 + overAt h r d p k - d.getD k 0 - p.getD k 0 = _
    rw [overAt_sum h r d p k]
    show _ = sumTo _ k + (h.getD k 0 + r.getD k 0 - d.getD k 0 - p.getD k 0)
    omega
theorem planS_heldAt {N : Nat} (hh : held.length = rooms.length) : ∀ n, n ≤ N → ∀ k, k < rooms.length → (heldAt held (planS rooms.length days top st N) n).getD k 0 = if n = 0 then held.getD k 0 else st.kept k (n - 1)
  | 0, _, k, hk => by rw [if_pos rfl]; rfl
  | n + 1, h, k, hk => by
    show ((planS rooms.length days top st N).getD n ([], [])).2.getD k 0 = _
    rw [planS_at (by omega), if_neg (by omega)]
    exact range_getD (fun k => st.kept k n) hk
theorem planS_holds (hh : held.length = rooms.length) (f : FineS rooms held days 1 1 st) : holdsB rooms held days (planS rooms.length days 1 st days.length) = true := by
  have hlen : ∀ n, n ≤ days.length → (heldAt held (planS rooms.length days 1 st days.length) n).length = rooms.length := fun n hn => by
    cases n with
    | zero => exact hh
    | succ n =>
      show ((planS rooms.length days 1 st days.length).getD n ([], [])).2.length = _
      rw [planS_at (by omega)]; simp
  refine holdsB_iff.mpr ⟨by simp [planS], fun n hn => ?_⟩
  rw [planS_at hn]
  refine dayHolds_iff.mpr ⟨by simp [hlen n (by omega)], by simp [hlen n (by omega)], fun k hk => ?_⟩
  rw [hlen n (by omega)] at hk
  refine tankOk_iff.mpr ?_
  have a0 := f.a0 k n hk hn
  have a1 := f.a1 k n hk hn
  have k0 := f.ok.kn k n
  have k1 := f.ok.ks k n
  have ov := over_pos f hn (show k + 1 ≤ rooms.length by omega)
  unfold askS at a1
  unfold szS at k1
  show 0 ≤ ((List.range rooms.length).map fun k => 1 * ws days n k - st.asked k n).getD k 0 ∧ 0 ≤ ((List.range rooms.length).map fun k => st.kept k n).getD k 0 ∧ 0 ≤ overAt _ (days.getD n ([], [])).1 ((List.range rooms.length).map fun k => 1 * ws days n k - st.asked k n) ((List.range rooms.length).map fun k => st.kept k n) (k + 1) ∧
    ((List.range rooms.length).map fun k => 1 * ws days n k - st.asked k n).getD k 0 ≤ ws days n k ∧ ((List.range rooms.length).map fun k => st.kept k n).getD k 0 ≤ rooms.getD k 0
  rw [range_getD _ hk, range_getD _ hk, overAt_sum]
  refine ⟨by omega, by omega, ?_, by omega, by omega⟩
  refine Int.le_trans ov (Int.le_of_eq (sumTo_congr fun j hj => ?_))
  have hj : j < rooms.length := by omega
  rw [planS_heldAt hh n (by omega) j hj, range_getD _ hj, range_getD _ hj]
  show (if n = 0 then 1 * held.getD j 0 else st.kept j (n - 1)) + 1 * rn days n j - (1 * ws days n j - st.asked j n) - st.kept j n = (if n = 0 then held.getD j 0 else st.kept j (n - 1)) + rn days n j - (1 * ws days n j - st.asked j n) - st.kept j n
  split <;> omega
/-- it draws the most -/
theorem planS_most (hh : held.length = rooms.length) (hd : daysOk rooms.length days = true) (f : FineS rooms held days 1 1 st) (h : FullS rooms days 1 st) {v : Int} (hv : IsMost rooms held days v) : drawnBy (planS rooms.length days 1 st days.length) = v := by
  have hp := planS_holds hh f
  have hr : ∀ n, n < days.length → (days.getD n ([], [])).2.length = rooms.length := fun n hn => lOk_len (dayOk_iff.mp ((daysOk_iff.mp hd).2 _ (List.mem_of_getElem? (getDay hn)))).2
  obtain ⟨line, hl, e⟩ := id hv
  have h1 : drawnBy (planS rooms.length days 1 st days.length) ≤ v := by
    rw [e]
    exact drawn_le hh hr hp hl.le
  obtain ⟨L, g1, g2, g3⟩ := stream_cut f h
  have h2 := hv.le g1
  have h3 : drawnBy (planS rooms.length days 1 st days.length) = lineV rooms held days L := by
    rw [drawnBy_eq hh hp]
    unfold lineV
    rw [totW_eq (held := held) hr]
    unfold wishAb
    have e1 : sumTo (fun n => sumTo (fun k => ((planS rooms.length days 1 st days.length).getD n ([], [])).1.getD k 0) rooms.length) days.length = sumTo (fun n => sumTo (fun k => ws days n k - st.asked k n) rooms.length) days.length := sumTo_congr fun n hn => sumTo_congr fun k hk => by
      rw [planS_at hn]
      show ((List.range rooms.length).map fun k => 1 * ws days n k - st.asked k n).getD k 0 = _
      rw [range_getD _ hk]; omega
    rw [e1]
    have e2 : sumTo (fun n => sumTo (fun k => ws days n k - st.asked k n) rooms.length) days.length + sumTo (fun n => sumTo (ws days n) (L n)) days.length = sumTo (fun n => sumTo (fun k => 1 * ws days n k - st.asked k n) (L n)) days.length + sumTo (fun n => sumTo (ws days n) rooms.length) days.length := by
      rw [← sumTo_add, ← sumTo_add]
      refine sumTo_congr fun n hn => ?_
      rw [sumTo_split (fun k => ws days n k - st.asked k n) (g1 n hn), sumTo_split (ws days n) (g1 n hn)]
      have e3 : sumTo (fun k => if L n ≤ k then ws days n k - st.asked k n else 0) rooms.length = sumTo (fun k => if L n ≤ k then ws days n k else 0) rooms.length := sumTo_congr fun k hk => by
        by_cases q : L n ≤ k
        · rw [if_pos q, if_pos q, g2 n k hn q hk]; omega
        · rw [if_neg q, if_neg q]
      have e4 : sumTo (fun k => 1 * ws days n k - st.asked k n) (L n) = sumTo (fun k => ws days n k - st.asked k n) (L n) := sumTo_congr fun k _ => by omega
      omega
    omega
  omega
/-- the start -/
def startS (held : List Int) (days : List Day) (top under : Int) : Fl := ⟨comeS held days under, askS days top, fun _ _ => 0, fun _ _ => 0⟩
theorem startS_fine (Y : YardWf rooms held) (hd : daysOk rooms.length days = true) (ht : 0 ≤ top) (hu : 0 ≤ under) : FineS rooms held days top under (startS held days top under) := by
  have rm : ∀ k, 0 ≤ rooms.getD k 0 := fun k => by
    by_cases hk : k < rooms.length
    · exact (Y.room k hk).1
    · rw [List.getD_eq_getElem?_getD, List.getElem?_eq_none (by omega)]; exact Int.le_refl _
  refine ⟨⟨fun _ _ => Int.le_refl _, fun k _ => Int.mul_nonneg hu (rm k), fun _ _ _ => rfl, fun _ _ => Int.le_refl _, fun _ _ _ => rfl⟩, fun k n hk hn => ?_, fun k n hk hn => ?_, fun k n hk hn => Int.le_refl _, fun k n hk hn => ?_⟩
  · have h1 := (rn_at hd hn hk).1
    have h2 := (Y.water k hk).1
    exact Int.mul_nonneg hu (by split <;> omega)
  · exact Int.mul_nonneg ht (ws_at hd hn hk).1
  · show comeS held days under k n - comeS held days under k n + net (startS held days top under) k n = askS days top k n - askS days top k n
    unfold net startS
    simp
end
end Cy

namespace Cy
open PySem L2
open Evl (Ex Ex.refl Ex.trans Ex.new Ex.mut)
/-! ### texts -/
def rAddS : R2 := fun x y H Q => ∃ i j, x = .str i ∧ y = .str j ∧ i.length + j.length ≤ sizeLine ∧ Q (.str (i ++ j)) H
def rNotInS : R2 := fun x y H Q => ∃ (c : Nat) (z : Str), x = .str ⟨#[c]⟩ ∧ y = .str z ∧ Q (.bl (!decide (c ∈ z.cps.toList))) H
def rStrI : List V → Hp → VK → Prop := fun xs H Q => ∃ i, xs = [.int i] ∧ i.natAbs.log2 < 1920 ∧ Q (.str (toString i)) H
def rIntS : List V → Hp → VK → Prop := fun xs H Q => ∃ a n, xs = [.str a] ∧ PySem.intText? a = some n ∧ a.length ≤ 640 ∧ Q (.int n) H
def rLenStr : List V → Hp → VK → Prop := fun xs H Q => ∃ z, xs = [.str z] ∧ z.length ≤ sizeLine ∧ Q (.int z.length) H
def tSplit (to te : TE) : TE := tM1 (fun x xs H Q => ∃ a b, x = .str a ∧ xs = [.str b] ∧ (b.length == 0) = false ∧ a.length + 2 ≤ sizeLine ∧ rNewStrs (Txt.split a b) H Q) to te
def tJoin (K : Fg) (to te : TE) : TE := tM1 (fun x xs H Q => ∃ a p, ∃ ys : List Str, x = .str a ∧ xs = [.ref p] ∧ (SqL K H p (ys.map V.str) ∨ SqT K H p (ys.map V.str)) ∧ (ys.map (·.length)).sum + ys.length * a.length ≤ 16777216 ∧ Q (.str (Txt.join a ys)) H) to te
section
variable {K : Fg} {ss ss' : SS} {os os' : Own} {ta tb te tx to : TE} {d x : Dt} {ds es : List Dt} {i j a b : Str}
theorem ev_addS (ha : Ev K ta ss os (.str i)) (hb : Ev K tb ss os (.str j)) (hz : i.length + j.length ≤ 1000000) : Ev K (tOp rAddS ta tb) ss os (.str (i ++ j)) := ev_op ha hb fun ss σ G H R u w ra rb Q k => by
  cases ra; cases rb
  exact ⟨i, j, rfl, rfl, sz _ hz, k _ G H (Gq.refl G H) R.gh (.str _)⟩
theorem ev_notInS {c : Nat} (ha : Ev K ta ss os (.str ⟨#[c]⟩)) (hb : Ev K tb ss os (.str j)) : Ev K (tOp rNotInS ta tb) ss os (.bl (!decide (c ∈ j.cps.toList))) := ev_op ha hb fun ss σ G H R u w ra rb Q k => by
  cases ra; cases rb
  exact ⟨c, j, rfl, rfl, k _ G H (Gq.refl G H) R.gh (.bl _)⟩
theorem ev_strI {n : Int} (ha : Ev K ta ss os (.int n)) (hz : n.natAbs.log2 < 1920) : Ev K (tCB rStrI (tCons ta tNil)) ss os (.str (toString n)) := fun σ G H R Q q => ha σ G H R _ fun v G1 H1 q1 e1 r1 => by
  cases r1
  exact ⟨n, rfl, hz, q _ G1 H1 q1 e1 (.str _)⟩
theorem ev_intS {n : Int} (ha : Ev K ta ss os (.str a)) (hn : PySem.intText? a = some n) (hl : a.length ≤ 640) : Ev K (tCB rIntS (tCons ta tNil)) ss os (.int n) := fun σ G H R Q q => ha σ G H R _ fun v G1 H1 q1 e1 r1 => by
  cases r1
  exact ⟨a, n, rfl, hn, hl, q _ G1 H1 q1 e1 (.int _)⟩
theorem ev_lenStr (ha : Ev K ta ss os (.str a)) (hl : a.length ≤ 1000000) : Ev K (tCB rLenStr (tCons ta tNil)) ss os (.int (a.length : Int)) := fun σ G H R Q q => ha σ G H R _ fun v G1 H1 q1 e1 r1 => by
  cases r1
  exact ⟨a, rfl, sz _ hl, q _ G1 H1 q1 e1 (.int _)⟩
theorem ev_ixS {n : Int} {c : Nat} (ha : Ev K ta ss os (.str a)) (hb : Ev K tb ss os (.int n)) (hl : a.length ≤ 1000000) (h : atI a.cps.toList n = some c) : Ev K (tOp rIxS ta tb) ss os (.str ⟨#[c]⟩) := ev_op ha hb fun ss σ G H R u w ra rb Q k => by
  cases ra; cases rb
  exact ⟨a, n, c, rfl, rfl, sz _ hl, h, k _ G H (Gq.refl G H) R.gh (.str _)⟩
theorem Rps.strs {G : Hp} : ∀ ns : List Str, Rps K G (ns.map V.str) (ns.map Dt.str)
  | [] => .nil
  | n :: r => .cons (.str n) (Rps.strs r)
theorem ef_split (ha : Ev K to ss os (.str a)) (hb : Ev K te ss os (.str b)) (h0 : (b.length == 0) = false) (hl : a.length ≤ 100000) : EvF K (tSplit to te) ss os ((Txt.split a b).map Dt.str) := fun σ G H R Q q => ha σ G H R _ fun v G1 H1 q1 e1 r1 => by
  cases r1
  refine ⟨⟨a, rfl⟩, hb σ G1 H1 (R.grow q1 e1) _ fun w G2 H2 q2 e2 r2 => ?_⟩
  cases r2
  refine ⟨a, b, rfl, rfl, h0, sz _ (by omega), fun p hp => ?_⟩
  obtain ⟨q3, e3⟩ := gq_own (fp := []) (o := .lst ((Txt.split a b).map V.str)) e2 hp
  have q12 := q1.trans q2 (by simp)
  exact q p _ G2 _ (q12.dom p hp) (q12.trans q3 (by simp)) e3 (Evl.fresh_back e2 hp) upd_same (Rps.strs _)
theorem ev_join {ys : List Str} (ha : Ev K to ss os (.str a)) (hb : Ev K te ss os x) (l : LV os x (ys.map Dt.str)) (hz : (ys.map (·.length)).sum + ys.length * a.length ≤ 16777216) : Ev K (tJoin K to te) ss os (.str (Txt.join a ys)) := fun σ G H R Q q => ha σ G H R _ fun v G1 H1 q1 e1 r1 => by
  cases r1
  refine ⟨⟨a, rfl⟩, hb σ G1 H1 (R.grow q1 e1) _ fun w G2 H2 q2 e2 r2 => ?_⟩
  obtain ⟨p, vs, rfl, hs, rs⟩ := ((R.grow q1 e1).grow q2 e2).list l r2
  have e := rs.to_strs
  subst e
  exact ⟨a, p, ys, rfl, rfl, .inl hs, hz, q _ G2 H2 (q1.trans q2 (by simp)) e2 (.str _)⟩
end
/-- over a text -/
theorem do_forS {K : Fg} {ss : SS} {os : Own} {te : TE} {g : TG} {t : TS} {B : Bs} {D : Ends} {a : Str} (h : Ev K te ss os (.str a)) (I : Nat → SS → Own → Prop) (hi : I 0 ss os)
    (hs : ∀ B1, B.Le B1 → ∀ (i c : Nat) ss' os', a.cps[i]? = some c → I i ss' os' → ∃ ss2, Tg K g (.str ⟨#[c]⟩) ss' ss2 ∧ Do K B1 t ss2 os' { D with nx := At K B1 (I (i + 1)), ct := At K B1 (I (i + 1)), bk := D.nx })
    (hd : ∀ ss' os', I a.cps.size ss' os' → Nx K B D.nx ss' os') : Do K B (tFor (iStr te) g t) ss os D := fun σ G H b r =>
  h σ G H r _ fun v G1 H1 q1 e1 r1 => by
    have b1 := b.grow q1
    have le := b1.later
    cases r1
    refine ⟨a, rfl, fun i m σ H => m = a.cps.size - i ∧ i ≤ a.cps.size ∧ At K ⟨B.fp, G1, B.H0⟩ (I i) σ H, ⟨a.cps.size, by simp, Nat.zero_le _, ss, os, G1, hi, b1.lift (Ex.refl _) b1.gq.ex, r.grow q1 e1⟩, ?_⟩
    rintro i m σ' H' ⟨rfl, hle, p⟩
    by_cases hlt : i < a.cps.size
    · refine .inr ⟨hlt, At K ⟨B.fp, G1, B.H0⟩ (I (i + 1)), fun σ2 H2 p2 => ⟨a.cps.size - (i + 1), by omega, rfl, hlt, p2⟩, fun x H2 y => ?_⟩
      obtain ⟨rfl, c, hc, rfl⟩ := y
      obtain ⟨ss', os', G', p, b', r'⟩ := p
      obtain ⟨ss2, tg, dd⟩ := hs _ le i c ss' os' hc p
      exact tg _ σ' G' H2 _ r'.gh r'.sl (.str _) fun σ2 s2 => dd σ2 G' H2 b' ⟨r'.gh, s2, r'.ow⟩
    · have e : i = a.cps.size := by omega
      subst e
      obtain ⟨ss', os', G', p, b', r'⟩ := p
      exact .inl ⟨Nat.le_refl _, hd ss' os' p σ' G' H' (le.ok b') r'⟩
theorem q_forS {K : Fg} {ss : SS} {os : Own} {te : TE} {g : TG} {t u : TS} {B : Bs} {D : Ends} {a : Str} (h : Ev K te ss os (.str a)) (I : Nat → SS → Own → Prop) (hi : I 0 ss os)
    (hs : ∀ B1, B.Le B1 → ∀ (i c : Nat) ss' os', a.cps[i]? = some c → I i ss' os' → ∃ ss2, Tg K g (.str ⟨#[c]⟩) ss' ss2 ∧ Do K B1 t ss2 os' { D with nx := At K B1 (I (i + 1)), ct := At K B1 (I (i + 1)), bk := u D })
    (hd : ∀ ss' os', I a.cps.size ss' os' → Do K B u ss' os' D) : Do K B (tSeq (tFor (iStr te) g t) u) ss os D := do_forS (D := { D with nx := u D }) h I hi hs hd
end Cy

namespace Cy
open PySem L2
/-! numbers in figures -/
def figs : List Nat := [48, 49, 50, 51, 52, 53, 54, 55, 56, 57]
theorem int_one : (figs.all fun a => decide (PySem.intText? ⟨#[a]⟩ = some ((a : Int) - 48))) = true := by decide +kernel
theorem int_two : (figs.all fun a => figs.all fun b => decide (PySem.intText? ⟨#[a, b]⟩ = some (10 * ((a : Int) - 48) + ((b : Int) - 48)))) = true := by decide +kernel
/-- a number that is written as it should be -/
def numOk (w : Str) : Bool := (decide (w.cps.size = 1) || (decide (w.cps.size = 2) && decide (w.cps.toList.head? ≠ some 48))) && w.cps.toList.all fun c => decide (c ∈ figs)
def numV (w : Str) : Int := (PySem.intText? w).getD 0
theorem num_int {w : Str} (h : numOk w = true) : PySem.intText? w = some (numV w) ∧ 0 ≤ numV w ∧ numV w ≤ 99 := by
  obtain ⟨cps⟩ := w
  obtain ⟨l⟩ := cps
  unfold numOk at h
  simp only [Bool.and_eq_true, Bool.or_eq_true, decide_eq_true_eq] at h
  obtain ⟨h1, h2⟩ := h
  have hf : ∀ c ∈ l, 48 ≤ c ∧ c ≤ 57 ∧ c ∈ figs := fun c hc => by
    have := of_decide_eq_true (List.all_eq_true.mp h2 c hc)
    refine ⟨?_, ?_, this⟩ <;> (simp [figs] at this; omega)
  have hl : l.length = 1 ∨ l.length = 2 := by
    rcases h1 with h1 | h1
    · exact .inl h1
    · exact .inr h1.1
  match l, hl with
  | [a], _ =>
    obtain ⟨b1, b2, hm⟩ := hf a (by simp)
    have := of_decide_eq_true (List.all_eq_true.mp int_one a hm)
    have e : numV ⟨⟨[a]⟩⟩ = (a : Int) - 48 := by unfold numV; rw [show (⟨⟨[a]⟩⟩ : Str) = ⟨#[a]⟩ from rfl, this]; rfl
    rw [e]
    exact ⟨this, by omega, by omega⟩
  | [a, b], _ =>
    obtain ⟨b1, b2, hm⟩ := hf a (by simp)
    obtain ⟨c1, c2, hn⟩ := hf b (by simp)
    have := of_decide_eq_true (List.all_eq_true.mp (List.all_eq_true.mp int_two a hm) b hn)
    have e : numV ⟨⟨[a, b]⟩⟩ = 10 * ((a : Int) - 48) + ((b : Int) - 48) := by unfold numV; rw [show (⟨⟨[a, b]⟩⟩ : Str) = ⟨#[a, b]⟩ from rfl, this]; rfl
    rw [e]
    exact ⟨this, by omega, by omega⟩
end Cy

namespace Cy
open PySem L2
/-! texts of a yard -/
theorem small_num : ((List.range 51).all fun n => let t : Str := toString ((n : Nat) : Int); numOk t && decide (numV t = (n : Int)) && decide (t.length ≤ 2) && (TL.tl t).all fun c => decide (c ≠ 32) && decide (c ≠ 10)) = true := by decide +kernel
theorem num_text {i : Int} (h : 0 ≤ i ∧ i ≤ 50) : numOk (toString i) = true ∧ numV (toString i) = i ∧ (toString i : Str).length ≤ 2 ∧ ∀ c ∈ TL.tl (toString i), c ≠ 32 ∧ c ≠ 10 := by
  obtain ⟨n, rfl⟩ : ∃ n : Nat, i = n := ⟨i.toNat, by omega⟩
  have := List.all_eq_true.mp small_num n (List.mem_range.mpr (by omega))
  simp only [Bool.and_eq_true, decide_eq_true_eq, List.all_eq_true] at this
  exact ⟨this.1.1.1, this.1.1.2, this.1.2, this.2⟩
def tankT (rooms held : List Int) (k : Nat) : Str := toString (held.getD k 0) ++ " of " ++ toString (rooms.getD k 0)
def tanksT (rooms held : List Int) (n : Nat) : List Str := (List.range n).map (tankT rooms held)
def writtenT (rooms held : List Int) : Str := Txt.join "\n" (tanksT rooms held rooms.length)
theorem len_append (a b : Str) : (a ++ b).length = a.length + b.length := by
  show (a.cps ++ b.cps).size = a.cps.size + b.cps.size
  exact Array.size_append
theorem tl_of : TL.tl " of " = [32, 111, 102, 32] := by decide +kernel
theorem tl_of0 : TL.tl "of" = [111, 102] := by decide +kernel
theorem tl_bl : TL.tl " " = [32] := by decide +kernel
theorem tl_nl : TL.tl "\n" = [10] := by decide +kernel
theorem tank_join (rooms held : List Int) (k : Nat) : tankT rooms held k = Txt.join " " [toString (held.getD k 0), "of", toString (rooms.getD k 0)] := by
  refine TL.ext_tl ?_
  rw [TL.join_eq, TL.tl_join]
  unfold tankT
  rw [TL.tl_append, TL.tl_append, tl_of, tl_bl]
  show _ = TL.tl _ ++ ([32] ++ (TL.tl "of" ++ ([32] ++ TL.tl _)))
  rw [tl_of0]
  simp
theorem join_snoc (y x : Str) : ∀ xs : List Str, xs ≠ [] → Txt.join y (xs ++ [x]) = Txt.join y xs ++ y ++ x
  | [], h => absurd rfl h
  | [a], _ => by
    refine TL.ext_tl ?_
    rw [TL.tl_append, TL.tl_append, TL.join_eq, TL.tl_join, TL.join_eq, TL.tl_join]
    show TL.tl a ++ (TL.tl y ++ TL.tl x) = TL.tl a ++ TL.tl y ++ TL.tl x
    simp
  | a :: b :: r, _ => by
    have ih := congrArg TL.tl (join_snoc y x (b :: r) (by simp))
    refine TL.ext_tl ?_
    rw [TL.tl_append, TL.tl_append, TL.join_eq, TL.tl_join] at ih
    rw [TL.tl_append, TL.tl_append, TL.join_eq, TL.tl_join, TL.join_eq, TL.tl_join]
    rw [TL.join_eq, TL.tl_join] at ih
    show TL.tl a ++ (TL.tl y ++ TL.joinL (TL.tl y) ((b :: r ++ [x]).map TL.tl)) = TL.tl a ++ (TL.tl y ++ TL.joinL (TL.tl y) ((b :: r).map TL.tl)) ++ TL.tl y ++ TL.tl x
    rw [ih]
    simp
theorem join_one (y x : Str) : Txt.join y [x] = x := by
  refine TL.ext_tl ?_
  rw [TL.join_eq, TL.tl_join]
  rfl
theorem join_nil (y : Str) : Txt.join y [] = "" := by
  refine TL.ext_tl ?_
  rw [TL.join_eq, TL.tl_join]
  have : TL.tl "" = [] := by decide +kernel
  rw [this]
  rfl
theorem tanks_succ (rooms held : List Int) (n : Nat) : tanksT rooms held (n + 1) = tanksT rooms held n ++ [tankT rooms held n] := by
  unfold tanksT
  rw [List.range_succ, List.map_append]
  rfl
theorem empty_app (x : Str) : ("" : Str) ++ x = x := by
  refine TL.ext_tl ?_
  rw [TL.tl_append]
  have : TL.tl "" = [] := by decide +kernel
  rw [this]
  rfl
theorem app_assoc (x y z : Str) : x ++ (y ++ z) = x ++ y ++ z := by
  refine TL.ext_tl ?_
  simp only [TL.tl_append, List.append_assoc]
/-- one line more -/
theorem join_turn (rooms held : List Int) (n : Nat) : Txt.join "\n" (tanksT rooms held (n + 1)) = (if n = 0 then Txt.join "\n" (tanksT rooms held n) else Txt.join "\n" (tanksT rooms held n) ++ "\n") ++ toString (held.getD n 0) ++ " of " ++ toString (rooms.getD n 0) := by
  rw [tanks_succ]
  by_cases h : n = 0
  · subst h
    rw [if_pos rfl]
    show Txt.join "\n" [tankT rooms held 0] = Txt.join "\n" [] ++ _ ++ _ ++ _
    rw [join_one, join_nil, empty_app]
    rfl
  · rw [if_neg h, join_snoc]
    · unfold tankT
      rw [app_assoc, app_assoc]
    · unfold tanksT
      obtain ⟨m, rfl⟩ : ∃ m, n = m + 1 := ⟨n - 1, by omega⟩
      rw [List.range_succ]
      simp
section
variable {rooms held : List Int}
theorem tank_len (Y : YardWf rooms held) {k : Nat} (hk : k < rooms.length) : (tankT rooms held k).length ≤ 8 := by
  have h1 := (num_text (i := held.getD k 0) (by have := Y.water k hk; have := Y.room k hk; omega)).2.2.1
  have h2 := (num_text (Y.room k hk)).2.2.1
  unfold tankT
  rw [len_append, len_append]
  have : (" of " : Str).length = 4 := by decide +kernel
  omega
theorem text_len (Y : YardWf rooms held) : ∀ {n : Nat}, n ≤ rooms.length → (Txt.join "\n" (tanksT rooms held n)).length ≤ 9 * n
  | 0, _ => by
    show (Txt.join "\n" []).length ≤ _
    rw [join_nil]
    decide +kernel
  | n + 1, h => by
    have ih := text_len Y (n := n) (by omega)
    have h1 := (num_text (i := held.getD n 0) (by have := Y.water n (by omega); have := Y.room n (by omega); omega)).2.2.1
    have h2 := (num_text (Y.room n (by omega))).2.2.1
    have h3 : (" of " : Str).length = 4 := by decide +kernel
    have h4 : ("\n" : Str).length = 1 := by decide +kernel
    rw [join_turn, len_append, len_append, len_append]
    split
    · omega
    · rw [len_append]; omega
theorem words_tank (Y : YardWf rooms held) {k : Nat} (hk : k < rooms.length) : Txt.split (tankT rooms held k) " " = ([toString (held.getD k 0), "of", toString (rooms.getD k 0)] : List Str) := by
  rw [tank_join]
  have h1 := (num_text (i := held.getD k 0) (by have := Y.water k hk; have := Y.room k hk; omega)).2.2.2
  have h2 := (num_text (Y.room k hk)).2.2.2
  refine TL.split_join (s := 32) (S := []) tl_bl (by decide +kernel) (by simp) fun p hp => ?_
  simp only [List.mem_cons, List.not_mem_nil, or_false] at hp
  rcases hp with rfl | rfl | rfl
  · exact fun m => (h1 _ m).1 rfl
  · rw [tl_of0]; decide
  · exact fun m => (h2 _ m).1 rfl
theorem lines_text (Y : YardWf rooms held) : Txt.split (writtenT rooms held) "\n" = tanksT rooms held rooms.length := by
  refine TL.split_join (s := 10) (S := []) tl_nl (by decide +kernel) ?_ fun p hp => ?_
  · intro h
    have h1 := congrArg List.length h
    have := Y.pos
    rw [tanksT, List.length_map, List.length_range, List.length_nil] at h1
    omega
  · obtain ⟨k, hk, rfl⟩ := List.mem_map.mp hp
    have hk := List.mem_range.mp hk
    have h1 := (num_text (i := held.getD k 0) (by have := Y.water k hk; have := Y.room k hk; omega)).2.2.2
    have h2 := (num_text (Y.room k hk)).2.2.2
    unfold tankT
    rw [TL.tl_append, TL.tl_append, tl_of]
    intro m
    rcases List.mem_append.mp m with m | m
    · rcases List.mem_append.mp m with m | m
      · exact (h1 _ m).2 rfl
      · simp at m
    · exact (h2 _ m).2 rfl
theorem map_range_getD (xs : List Int) : (List.range xs.length).map (fun k => xs.getD k 0) = xs := by
  refine List.ext_getElem (by simp) fun i h1 h2 => ?_
  simp [h2]
end
/-! the most, as it stands -/
theorem nat_least (P : Nat → Prop) : (∃ n, P n) → ∃ n, P n ∧ ∀ m, P m → n ≤ m := fun ⟨n, h⟩ => by
  classical
  induction n using Nat.strongRecOn with
  | _ n ih =>
    by_cases e : ∃ m, m < n ∧ P m
    · obtain ⟨m, h1, h2⟩ := e
      exact ih m h1 h2
    · exact ⟨n, h, fun m hm => Nat.le_of_not_lt fun z => e ⟨m, z, hm⟩⟩
section
variable {rooms held : List Int} {days : List Day}
theorem line_of (L : Nat → Nat) (N m : Nat) (hL : ∀ i, i < N → L i ≤ m) : ∃ line, lineOk m N line = true ∧ ∀ i, i < N → lN line i = L i := by
  refine ⟨(List.range N).map fun i => (L i : Int), lineOk_iff.mpr ⟨by simp, fun f hf => ?_⟩, fun i hi => ?_⟩
  · obtain ⟨i, hi, rfl⟩ := List.mem_map.mp hf
    have := hL i (List.mem_range.mp hi)
    omega
  · unfold lN
    rw [List.getD_eq_getElem?_getD, List.getElem?_map, List.getElem?_range hi]
    simp
theorem lineV_nn (Y : YardWf rooms held) (hd : daysOk rooms.length days = true) {L : Nat → Nat} (hL : ∀ i, i < days.length → L i ≤ rooms.length) : 0 ≤ lineV rooms held days L := by
  have h1 := waterAb_nn Y hd hL
  have h2 := wishAb_tot hd hL
  unfold lineV
  omega
theorem isMost_ex (Y : YardWf rooms held) (hd : daysOk rooms.length days = true) : ∃ v, IsMost rooms held days v := by
  obtain ⟨n, ⟨L, hL, e⟩, hmin⟩ := nat_least (fun n => ∃ L : Nat → Nat, (∀ i, i < days.length → L i ≤ rooms.length) ∧ lineV rooms held days L = (n : Int)) ⟨(lineV rooms held days fun _ => 0).toNat, fun _ => 0, fun _ _ => Nat.zero_le _, by
    have := lineV_nn Y hd (L := fun _ => 0) fun _ _ => Nat.zero_le _
    omega⟩
  obtain ⟨line, hok, hl⟩ := line_of L days.length rooms.length hL
  have ec : cost rooms held days 1 1 (lN line) days.length = cost rooms held days 1 1 L days.length := cost_congr hl
  refine ⟨_, line, ⟨hok, fun M hM => ?_⟩, rfl⟩
  have h1 := hmin (lineV rooms held days M).toNat ⟨M, hM, by have := lineV_nn Y hd hM; omega⟩
  have h2 := lineV_nn Y hd hM
  rw [lineV_cost] at e h1 h2
  rw [ec]
  omega
end
end Cy

namespace Cy
open PySem L2
section
variable {rooms held : List Int} {day : Day}
theorem take_snoc {xs : List Int} {k : Nat} (h : k < xs.length) : xs.take (k + 1) = xs.take k ++ [xs.getD k 0] := by
  rw [List.take_add_one, getD_some h]; rfl
theorem getD_take {xs : List Int} {j k : Nat} (h : j < k) : (xs.take k).getD j 0 = xs.getD j 0 := by
  rw [List.getD_eq_getElem?_getD, List.getElem?_take, if_pos h, ← List.getD_eq_getElem?_getD]
/-- drawn and kept, so far -/
structure Done (rooms held : List Int) (day : Day) (k : Nat) (d : List Int) (s : St3) : Prop where
  dl : d.length = k
  sum : d.sum = s.2.2
  ov : overAt held day.1 d s.1 k = s.2.1
  ok : ∀ j, j < k → tankOk rooms held day (d, s.1) j = true
theorem sts_sound (k : Nat) : ∀ s ∈ nightSts rooms held day k, ∃ d, Done rooms held day k d s := by
  induction k with
  | zero =>
    intro s hs
    have : s = ([], 0, 0) := by simpa [nightSts] using hs
    subst this
    exact ⟨[], rfl, rfl, rfl, fun j hj => by omega⟩
  | succ k ih =>
    intro s hs
    rw [nightSts] at hs
    obtain ⟨p, hp, rfl⟩ := List.mem_map.mp hs
    have hp := ((dictOf_dm fun q hq => (flat_nn k q hq).1).top p.1 p.2 hp).1
    obtain ⟨s, hs, hq⟩ := List.mem_flatMap.mp hp
    obtain ⟨a, b, h1, h2, e⟩ := mem_row.mp hq
    obtain ⟨d, D⟩ := ih s hs
    have so := sts_ok k s hs
    have e : p = nightCell (waterN held day k s) s a b := e
    subst e
    have ext : ∀ j, j < k → (d ++ [(a : Int)]).getD j 0 = d.getD j 0 ∧ (s.1 ++ [(b : Int)]).getD j 0 = s.1.getD j 0 := fun j hj => ⟨getD_snoc_lt (by rw [D.dl]; exact hj), getD_snoc_lt (by rw [so.len]; exact hj)⟩
    have ed : (d ++ [(a : Int)]).getD k 0 = a := by have := getD_snoc_eq (xs := d) (x := (a : Int)); rw [D.dl] at this; exact this
    have ek : (s.1 ++ [(b : Int)]).getD k 0 = b := by have := getD_snoc_eq (xs := s.1) (x := (b : Int)); rw [so.len] at this; exact this
    have hov : overAt held day.1 (d ++ [(a : Int)]) (s.1 ++ [(b : Int)]) (k + 1) = waterN held day k s - a - b := by
      show held.getD k 0 + day.1.getD k 0 + overAt held day.1 (d ++ [(a : Int)]) (s.1 ++ [(b : Int)]) k - (d ++ [(a : Int)]).getD k 0 - (s.1 ++ [(b : Int)]).getD k 0 = _
      rw [overAt_ext ext, D.ov, ed, ek]; rfl
    refine ⟨d ++ [(a : Int)], ⟨by rw [List.length_append, D.dl]; rfl, ?_, hov, fun j hj => ?_⟩⟩
    · rw [List.sum_append, D.sum]
      show s.2.2 + ((a : Int) + 0) = s.2.2 + (a : Int)
      omega
    · show tankOk rooms held day (d ++ [(a : Int)], s.1 ++ [(b : Int)]) j = true
      by_cases z : j < k
      · rw [tankOk_ext (d' := d) (k' := s.1) fun i hi => ext i (by omega)]
        exact D.ok j z
      · have : j = k := by omega
        subst this
        refine tankOk_iff.mpr ⟨?_, ?_, ?_, ?_, ?_⟩
        · show 0 ≤ (d ++ [(a : Int)]).getD j 0
          rw [ed]; omega
        · show 0 ≤ (s.1 ++ [(b : Int)]).getD j 0
          rw [ek]; omega
        · show 0 ≤ overAt held day.1 (d ++ [(a : Int)]) (s.1 ++ [(b : Int)]) (j + 1)
          rw [hov]; omega
        · show (d ++ [(a : Int)]).getD j 0 ≤ day.2.getD j 0
          rw [ed]; omega
        · show (s.1 ++ [(b : Int)]).getD j 0 ≤ rooms.getD j 0
          rw [ek]; omega
theorem sts_complete {p : Day} (h1 : p.1.length = rooms.length) (h2 : p.2.length = rooms.length) (hk : ∀ k, k < rooms.length → tankOk rooms held day p k = true) : ∀ k, k ≤ rooms.length → ∃ t, (p.2.take k, overAt held day.1 p.1 p.2 k, t) ∈ nightSts rooms held day k ∧ (p.1.take k).sum ≤ t := fun k => by
  induction k with
  | zero => intro _; exact ⟨0, by simp [nightSts, overAt, iter], by simp⟩
  | succ k ih =>
    intro hle
    obtain ⟨t, hs, ht⟩ := ih (by omega)
    obtain ⟨g1, g2, g3, g4, g5⟩ := tankOk_iff.mp (hk k (by omega))
    have g3 : 0 ≤ held.getD k 0 + day.1.getD k 0 + overAt held day.1 p.1 p.2 k - p.1.getD k 0 - p.2.getD k 0 := g3
    have hW : waterN held day k (p.2.take k, overAt held day.1 p.1 p.2 k, t) = held.getD k 0 + day.1.getD k 0 + overAt held day.1 p.1 p.2 k := rfl
    obtain ⟨a, ha⟩ : ∃ a : Nat, p.1.getD k 0 = (a : Int) := ⟨(p.1.getD k 0).toNat, by omega⟩
    obtain ⟨b, hb⟩ : ∃ b : Nat, p.2.getD k 0 = (b : Int) := ⟨(p.2.getD k 0).toNat, by omega⟩
    have hm : nightCell (waterN held day k (p.2.take k, overAt held day.1 p.1 p.2 k, t)) (p.2.take k, overAt held day.1 p.1 p.2 k, t) a b ∈ (nightSts rooms held day k).flatMap (nightRow rooms held day k) :=
      List.mem_flatMap.mpr ⟨_, hs, mem_row.mpr ⟨a, b, by rw [hW]; omega, by rw [hW]; omega, rfl⟩⟩
    have dm := dictOf_dm fun q hq => (flat_nn (rooms := rooms) (held := held) (day := day) k q hq).1
    obtain ⟨v, hv⟩ := dm.all _ _ hm
    have hle2 := (dm.top _ _ hv).2 _ hm
    refine ⟨v, ?_, ?_⟩
    · rw [nightSts]
      refine List.mem_map.mpr ⟨_, hv, ?_⟩
      show (p.2.take k ++ [(b : Int)], waterN held day k (p.2.take k, overAt held day.1 p.1 p.2 k, t) - a - b, v) = _
      rw [take_snoc (by omega : k < p.2.length), hb, hW]
      have : overAt held day.1 p.1 p.2 (k + 1) = held.getD k 0 + day.1.getD k 0 + overAt held day.1 p.1 p.2 k - a - b := by rw [← ha, ← hb]; rfl
      rw [this]
    · rw [take_snoc (by omega : k < p.1.length), ha, List.sum_append]
      have hle2 : t + (a : Int) ≤ v := hle2
      show (p.1.take k).sum + ((a : Int) + 0) ≤ v
      omega
theorem fin_nn : ∀ q ∈ (nightSts rooms held day rooms.length).map (fun s => (s.1, s.2.2)), 0 ≤ q.2 := fun q hq => by
  obtain ⟨s, hs, rfl⟩ := List.mem_map.mp hq
  exact (sts_ok _ s hs).dr
theorem nights_sound (hl : held.length = rooms.length) {kp : List Int} {t : Int} (h : (kp, t) ∈ nights rooms held day) : ∃ p : Day, dayHolds rooms held day p = true ∧ p.2 = kp ∧ p.1.sum = t := by
  have h := ((dictOf_dm fin_nn).top kp t h).1
  obtain ⟨s, hs, e⟩ := List.mem_map.mp h
  cases e
  obtain ⟨d, D⟩ := sts_sound _ s hs
  refine ⟨(d, s.1), dayHolds_iff.mpr ⟨by rw [hl]; exact D.dl, by rw [hl]; exact (sts_ok _ s hs).len, fun k hk => D.ok k (by rw [← hl]; exact hk)⟩, rfl, D.sum⟩
theorem nights_complete (hl : held.length = rooms.length) {p : Day} (h : dayHolds rooms held day p = true) : ∃ t, (p.2, t) ∈ nights rooms held day ∧ p.1.sum ≤ t := by
  obtain ⟨h1, h2, h3⟩ := dayHolds_iff.mp h
  rw [hl] at h1 h2
  obtain ⟨t, hs, ht⟩ := sts_complete h1 h2 (fun k hk => h3 k (by rw [hl]; exact hk)) rooms.length (Nat.le_refl _)
  have dm := dictOf_dm (fin_nn (rooms := rooms) (held := held) (day := day))
  have hm : (p.2, t) ∈ (nightSts rooms held day rooms.length).map (fun s => (s.1, s.2.2)) := List.mem_map.mpr ⟨_, hs, by
    show (p.2.take rooms.length, t) = (p.2, t)
    rw [List.take_of_length_le (by omega)]⟩
  obtain ⟨v, hv⟩ := dm.all _ _ hm
  have := (dm.top _ _ hv).2 _ hm
  rw [List.take_of_length_le (by omega)] at ht
  exact ⟨v, hv, by omega⟩
theorem nights_nn {kp : List Int} {t : Int} (h : (kp, t) ∈ nights rooms held day) : 0 ≤ t ∧ StOk rooms rooms.length (kp, 0, t) := by
  have h := ((dictOf_dm fin_nn).top kp t h).1
  obtain ⟨s, hs, e⟩ := List.mem_map.mp h
  cases e
  have so := sts_ok _ s hs
  exact ⟨so.dr, so.len, so.kept, Int.le_refl _, so.dr⟩
theorem nights_len (np : NightPre rooms held day) : (nights rooms held day).length ≤ 729 := by
  refine Nat.le_trans (dictOf_len _) ?_
  rw [List.length_map]
  exact sts_len3 np (Nat.le_refl _)
end
/-! ### day by day -/
def bestRow (rooms : List Int) (day : Day) (q : List Int × Int) : Dc := (nights rooms q.1 day).map fun p => (p.1, q.2 + p.2)
def bestAt (rooms waters : List Int) (days : List Day) : Nat → Dc
  | 0 => [(waters, 0)]
  | n + 1 => dictOf ((bestAt rooms waters days n).flatMap (bestRow rooms (days.getD n ([], []))))
structure HeldOk (rooms h : List Int) : Prop where
  len : h.length = rooms.length
  water : ∀ k, k < rooms.length → 0 ≤ h.getD k 0 ∧ h.getD k 0 ≤ rooms.getD k 0
section
variable {rooms waters : List Int} {days : List Day}
theorem best_ok (hw : HeldOk rooms waters) : ∀ n, ∀ q ∈ bestAt rooms waters days n, HeldOk rooms q.1 ∧ 0 ≤ q.2
  | 0, q, hq => by
    have : q = (waters, 0) := by simpa [bestAt] using hq
    subst this
    exact ⟨hw, Int.le_refl _⟩
  | n + 1, q, hq => by
    have hn : ∀ q ∈ (bestAt rooms waters days n).flatMap (bestRow rooms (days.getD n ([], []))), HeldOk rooms q.1 ∧ 0 ≤ q.2 := fun q hq => by
      obtain ⟨q0, h0, hq⟩ := List.mem_flatMap.mp hq
      obtain ⟨p, hp, rfl⟩ := List.mem_map.mp hq
      obtain ⟨a, b⟩ := nights_nn hp
      have := (best_ok hw n q0 h0).2
      exact ⟨⟨b.len, b.kept⟩, by show 0 ≤ q0.2 + p.2; omega⟩
    rw [bestAt] at hq
    exact hn q ((dictOf_dm fun q hq => (hn q hq).2).top q.1 q.2 hq).1
theorem row_nn (hw : HeldOk rooms waters) (n : Nat) : ∀ q ∈ (bestAt rooms waters days n).flatMap (bestRow rooms (days.getD n ([], []))), 0 ≤ q.2 := fun q hq => by
  obtain ⟨q0, h0, hq⟩ := List.mem_flatMap.mp hq
  obtain ⟨p, hp, rfl⟩ := List.mem_map.mp hq
  have := (nights_nn hp).1
  have := (best_ok hw n q0 h0).2
  show 0 ≤ q0.2 + p.2
  omega
def box : Nat → List (List Int)
  | 0 => [[]]
  | n + 1 => (box n).flatMap fun l => [0 :: l, 1 :: l, 2 :: l]
theorem mem_box : ∀ {l : List Int}, (∀ k, k < l.length → 0 ≤ l.getD k 0 ∧ l.getD k 0 ≤ 2) → l ∈ box l.length
  | [], _ => by simp [box]
  | x :: l, h => by
    have ih := mem_box (l := l) fun k hk => h (k + 1) (by simpa using hk)
    have h0 : 0 ≤ x ∧ x ≤ 2 := h 0 (by simp)
    show x :: l ∈ (box l.length).flatMap fun l => [0 :: l, 1 :: l, 2 :: l]
    refine List.mem_flatMap.mpr ⟨l, ih, ?_⟩
    have : x = 0 ∨ x = 1 ∨ x = 2 := by omega
    rcases this with rfl | rfl | rfl <;> simp
theorem best_len (hw : HeldOk rooms waters) (h3 : rooms.length ≤ 3) (hr : ∀ k, k < rooms.length → rooms.getD k 0 ≤ 2) (n : Nat) : (bestAt rooms waters days n).length ≤ 27 := by
  have nd : ((bestAt rooms waters days n).map (·.1)).Nodup := by
    cases n with
    | zero => simp [bestAt]
    | succ n => rw [bestAt]; exact dictOf_nodup _
  have sub : (bestAt rooms waters days n).map (·.1) ⊆ box rooms.length := fun l hl => by
    obtain ⟨q, hq, rfl⟩ := List.mem_map.mp hl
    have a := (best_ok hw n q hq).1
    have := mem_box (l := q.1) fun k hk => by
      have h1 := a.water k (by rw [← a.len]; exact hk)
      have h2 := hr k (by rw [← a.len]; exact hk)
      omega
    rw [a.len] at this
    exact this
  have := nd.length_le_of_subset sub
  rw [List.length_map] at this
  refine Nat.le_trans this ?_
  have : ∀ m, m ≤ 3 → (box m).length ≤ 27 := by decide
  exact this _ h3
theorem heldAt_len (hw : HeldOk rooms waters) {plan : List Day} (hp : ∀ m, m < days.length → dayHolds rooms (heldAt waters plan m) (days.getD m ([], [])) (plan.getD m ([], [])) = true) : ∀ n, n ≤ days.length → (heldAt waters plan n).length = rooms.length
  | 0, _ => hw.len
  | n + 1, h => by
    have := (dayHolds_iff.mp (hp n (by omega))).2.1
    rw [heldAt_len hw hp n (by omega)] at this
    exact this
theorem best_sound (hw : HeldOk rooms waters) : ∀ n, n ≤ days.length → ∀ q ∈ bestAt rooms waters days n, ∃ plan : List Day, plan.length = n ∧ (∀ m, m < n → dayHolds rooms (heldAt waters plan m) (days.getD m ([], [])) (plan.getD m ([], [])) = true) ∧ heldAt waters plan n = q.1 ∧ drawnBy plan = q.2
  | 0, _, q, hq => by
    have : q = (waters, 0) := by simpa [bestAt] using hq
    subst this
    exact ⟨[], rfl, fun m hm => by omega, rfl, rfl⟩
  | n + 1, hn, q, hq => by
    rw [bestAt] at hq
    have hq := ((dictOf_dm (row_nn hw n)).top q.1 q.2 hq).1
    obtain ⟨q0, h0, hq⟩ := List.mem_flatMap.mp hq
    obtain ⟨p, hp, e⟩ := List.mem_map.mp hq
    have e : (p.1, q0.2 + p.2) = q := e
    subst e
    obtain ⟨plan, pl, ph, pk, pd⟩ := best_sound hw n (by omega) q0 h0
    obtain ⟨z, hz, z2, z3⟩ := nights_sound (best_ok hw n q0 h0).1.len (kp := p.1) (t := p.2) hp
    refine ⟨plan ++ [z], by simp [pl], fun m hm => ?_, ?_, ?_⟩
    · by_cases e : m < n
      · rw [heldAt_ext (by omega), getD_app (by omega)]
        exact ph m e
      · have : m = n := by omega
        subst this
        rw [heldAt_ext (by omega), pk]
        have : (plan ++ [z]).getD m ([], []) = z := by rw [← pl]; exact getD_last
        rw [this]
        exact hz
    · show ((plan ++ [z]).getD n ([], [])).2 = p.1
      have : (plan ++ [z]).getD n ([], []) = z := by rw [← pl]; exact getD_last
      rw [this, z2]
    · unfold drawnBy at pd ⊢
      rw [List.map_append, List.sum_append, pd]
      show q0.2 + (z.1.sum + 0) = q0.2 + p.2
      omega
theorem drawn_take {plan : List Day} {n : Nat} (h : n < plan.length) : drawnBy (plan.take (n + 1)) = drawnBy (plan.take n) + (plan.getD n ([], [])).1.sum := by
  unfold drawnBy
  rw [List.take_add_one, getDay h, List.map_append, List.sum_append]
  show _ + ((plan.getD n ([], [])).1.sum + 0) = _
  omega
theorem best_complete (hw : HeldOk rooms waters) {plan : List Day} (hp : holdsB rooms waters days plan = true) : ∀ n, n ≤ days.length → ∃ b, (heldAt waters plan n, b) ∈ bestAt rooms waters days n ∧ drawnBy (plan.take n) ≤ b
  | 0, _ => ⟨0, by simp [bestAt, heldAt], by simp [drawnBy]⟩
  | n + 1, hn => by
    obtain ⟨b, hb, hd⟩ := best_complete hw hp n (by omega)
    obtain ⟨pl, ph⟩ := holdsB_iff.mp hp
    obtain ⟨t, ht, hs⟩ := nights_complete (best_ok hw n _ hb).1.len (ph n (by omega))
    have hm : ((plan.getD n ([], [])).2, b + t) ∈ (bestAt rooms waters days n).flatMap (bestRow rooms (days.getD n ([], []))) :=
      List.mem_flatMap.mpr ⟨_, hb, List.mem_map.mpr ⟨_, ht, rfl⟩⟩
    have dm := dictOf_dm (row_nn (days := days) hw n)
    obtain ⟨v, hv⟩ := dm.all _ _ hm
    have := (dm.top _ _ hv).2 _ hm
    refine ⟨v, ?_, ?_⟩
    · rw [bestAt]; exact hv
    · rw [drawn_take (by omega)]; omega
/-- the greatest of all -/
theorem best_most (Y : YardWf rooms waters) (hd : daysOk rooms.length days = true) {v : Int} (hv : IsMost rooms waters days v) {plan : List Day} (hp : holdsB rooms waters days plan = true) (hpv : drawnBy plan = v) :
    v ∈ (bestAt rooms waters days days.length).map (·.2) ∧ ∀ y ∈ (bestAt rooms waters days days.length).map (·.2), y ≤ v := by
  have hw : HeldOk rooms waters := ⟨Y.len, Y.water⟩
  have hall : ∀ y ∈ (bestAt rooms waters days days.length).map (·.2), y ≤ v := fun y hy => by
    obtain ⟨q, hq, rfl⟩ := List.mem_map.mp hy
    obtain ⟨pl, p1, p2, p3, p4⟩ := best_sound hw days.length (Nat.le_refl _) q hq
    obtain ⟨line, hl, e⟩ := hv
    rw [e, ← p4]
    refine drawn_le Y.len (fun n hn => ?_) (holdsB_iff.mpr ⟨p1, p2⟩) hl.le
    have := (daysOk_iff.mp hd).2 _ (List.mem_of_getElem? (getDay hn))
    exact (lOk_iff.mp (dayOk_iff.mp this).2).1
  obtain ⟨b, hb, hle⟩ := best_complete hw hp days.length (Nat.le_refl _)
  have hl := (holdsB_iff.mp hp).1
  rw [List.take_of_length_le (by omega), hpv] at hle
  have hm : b ∈ (bestAt rooms waters days days.length).map (·.2) := List.mem_map.mpr ⟨_, hb, rfl⟩
  have := hall b hm
  have e : b = v := by omega
  exact ⟨e ▸ hm, hall⟩
end
end Cy

namespace Cy
/-! the search -/
theorem nodup_lt : ∀ {m : Nat} {l : List Nat}, l.Nodup → (∀ x ∈ l, x < m) → l.length ≤ m
  | 0, [], _, _ => Nat.le_refl _
  | 0, x :: l, _, h => by have := h x List.mem_cons_self; omega
  | m + 1, l, nd, h => by
    have h1 := nodup_lt (m := m) (l := l.erase m) (nd.erase m) fun x hx => by
      have h2 := h x (List.mem_of_mem_erase hx)
      have h3 : x ≠ m := fun e => by
        rw [e] at hx
        exact (List.Nodup.not_mem_erase nd) hx
      omega
    have h2 := List.length_erase (a := m) (l := l)
    split at h2 <;> omega
theorem grid_len {T N : Nat} {l : List Spot} (nd : l.Nodup) (h : ∀ p ∈ l, In T N p) : l.length ≤ T * N := by
  have h1 : (l.map fun p => p.1 * N + p.2).Nodup := by
    refine List.pairwise_map.mpr (List.Pairwise.imp_of_mem (R := (· ≠ ·)) (fun {a b} ha hb hne he => hne ?_) nd)
    have h1 := (h a ha).2
    have h2 := (h b hb).2
    have hN : 0 < N := by omega
    have e1 : (a.1 * N + a.2) / N = a.1 := by rw [Nat.mul_comm, Nat.mul_add_div hN, Nat.div_eq_of_lt h1]; omega
    have e2 : (b.1 * N + b.2) / N = b.1 := by rw [Nat.mul_comm, Nat.mul_add_div hN, Nat.div_eq_of_lt h2]; omega
    have e3 : (a.1 * N + a.2) % N = a.2 := by rw [Nat.mul_comm, Nat.mul_add_mod, Nat.mod_eq_of_lt h1]
    have e4 : (b.1 * N + b.2) % N = b.2 := by rw [Nat.mul_comm, Nat.mul_add_mod, Nat.mod_eq_of_lt h2]
    have he : a.1 * N + a.2 = b.1 * N + b.2 := he
    rw [he] at e1 e3
    exact Prod.ext (e1.symm.trans e2) (e3.symm.trans e4)
  have h2 := nodup_lt h1 (m := T * N) fun x hx => by
    obtain ⟨p, hp, rfl⟩ := List.mem_map.mp hx
    obtain ⟨a, b⟩ := h p hp
    have : (p.1 + 1) * N ≤ T * N := Nat.mul_le_mul_right N (by omega)
    rw [Nat.succ_mul] at this
    show p.1 * N + p.2 < T * N
    omega
  rwa [List.length_map] at h2
theorem Way.inn' {T N : Nat} {sz : Nat → Int} {st : Fl} {p q : Spot} {kd : Kd} {mo : Option Int} (h : Way T N sz st p q kd mo) (hp : In T N p) : In T N q := by
  cases h with
  | keep h1 h2 => exact ⟨hp.1, h1⟩
  | fall h1 => exact ⟨h1, hp.2⟩
  | unkeep h1 => exact ⟨hp.1, by have := hp.2; show _ < N; simp only at this; omega⟩
  | unfall h1 => exact ⟨by have := hp.1; show _ < T; simp only at this; omega, hp.2⟩
structure Bfs (T N : Nat) (sz : Nat → Int) (st : Fl) (start : Spot) (bk : List (Spot × Option Step)) (d : Nat) : Prop where
  nd : (bk.map (·.1)).Nodup
  inn : ∀ x ∈ bk, In T N x.1
  hd : bk[0]? = some (start, none)
  tl : ∀ i x, bk[i]? = some x → 0 < i → ∃ j p b kd mo, j < i ∧ bk[j]? = some (p, b) ∧ x.2 = some (p, kd, mo) ∧ Way T N sz st p x.1 kd mo
  le : d ≤ bk.length
  dn : ∀ i x, i < d → bk[i]? = some x → st.asked x.1.1 x.1.2 = 0 ∧ ∀ q kd mo, Way T N sz st x.1 q kd mo → q ∈ bk.map (·.1)
section
variable {T N : Nat} {sz : Nat → Int} {st : Fl} {start p q g : Spot} {bk : List (Spot × Option Step)} {d i : Nat} {kd : Kd} {mo : Option Int} {b : Option Step}
theorem Bfs.first (h : In T N start) : Bfs T N sz st start [(start, none)] 0 := by
  refine ⟨by simp, fun x hx => ?_, rfl, fun i x hx hi => ?_, Nat.zero_le _, fun i x hi => by omega⟩
  · have : x = (start, none) := by simpa using hx
    rw [this]; exact h
  · rw [List.getElem?_eq_none (by simp; omega)] at hx; cases hx
theorem Bfs.len (h : Bfs T N sz st start bk d) : bk.length ≤ T * N := by
  have := grid_len (T := T) (N := N) h.nd fun p hp => by
    obtain ⟨x, hx, rfl⟩ := List.mem_map.mp hp
    exact h.inn x hx
  rwa [List.length_map] at this
theorem Bfs.uniq (h : Bfs T N sz st start bk d) {i j : Nat} {x y : Spot × Option Step} (hi : bk[i]? = some x) (hj : bk[j]? = some y) (e : x.1 = y.1) : i = j := by
  have h1 : (bk.map (·.1))[i]? = some x.1 := by rw [List.getElem?_map, hi]; rfl
  have h2 : (bk.map (·.1))[j]? = some x.1 := by rw [List.getElem?_map, hj, e]; rfl
  exact (List.getElem?_inj (List.getElem?_eq_some_iff.mp h1).1 h.nd).mp (h1.trans h2.symm)
theorem Bfs.add (h : Bfs T N sz st start bk d) (hq : q ∉ bk.map (·.1)) (hp : bk[i]? = some (p, b)) (w : Way T N sz st p q kd mo) : Bfs T N sz st start (bk ++ [(q, some (p, kd, mo))]) d := by
  have hil : i < bk.length := (List.getElem?_eq_some_iff.mp hp).1
  have hpi := h.inn _ (List.mem_of_getElem? hp)
  have low : ∀ {j : Nat} {y}, bk[j]? = some y → (bk ++ [(q, some (p, kd, mo))])[j]? = some y := fun {j y} hy => by
    rw [List.getElem?_append_left (List.getElem?_eq_some_iff.mp hy).1]; exact hy
  refine ⟨?_, fun x hx => ?_, low h.hd, fun j x hx hj => ?_, by rw [List.length_append]; have := h.le; omega, fun j x hj hx => ?_⟩
  · rw [List.map_append]
    exact List.nodup_append.mpr ⟨h.nd, by simp, fun a ha c hc e => by
      have : c = q := by simpa using hc
      rw [e, this] at ha
      exact hq ha⟩
  · rcases List.mem_append.mp hx with hx | hx
    · exact h.inn x hx
    · have : x = (q, some (p, kd, mo)) := by simpa using hx
      rw [this]
      exact w.inn' hpi
  · by_cases e : j < bk.length
    · rw [List.getElem?_append_left e] at hx
      obtain ⟨l, p', b', kd', mo', h1, h2, h3, h4⟩ := h.tl j x hx hj
      exact ⟨l, p', b', kd', mo', h1, low h2, h3, h4⟩
    · rw [List.getElem?_append_right (by omega)] at hx
      have hj2 : j - bk.length = 0 := by
        have := (List.getElem?_eq_some_iff.mp hx).1
        simp at this; omega
      rw [hj2] at hx
      cases hx
      exact ⟨i, p, b, kd, mo, by omega, low hp, rfl, w⟩
  · have := h.le
    rw [List.getElem?_append_left (by omega)] at hx
    obtain ⟨h1, h2⟩ := h.dn j x hj hx
    refine ⟨h1, fun q' kd' mo' w' => ?_⟩
    rw [List.map_append]
    exact List.mem_append_left _ (h2 q' kd' mo' w')
theorem Bfs.next (h : Bfs T N sz st start bk d) (hx : bk[d]? = some (p, b)) (h0 : st.asked p.1 p.2 = 0) (hw : ∀ q kd mo, Way T N sz st p q kd mo → q ∈ bk.map (·.1)) : Bfs T N sz st start bk (d + 1) := by
  have hd : d < bk.length := (List.getElem?_eq_some_iff.mp hx).1
  refine ⟨h.nd, h.inn, h.hd, h.tl, by omega, fun i x hi hxi => ?_⟩
  by_cases e : i = d
  · subst e
    rw [hx] at hxi
    cases hxi
    exact ⟨h0, hw⟩
  · exact h.dn i x (by omega) hxi
theorem Bfs.closed (h : Bfs T N sz st start bk bk.length) : ∃ R, R start ∧ Closed T N sz st R := by
  refine ⟨fun p => p ∈ bk.map (·.1), ?_, ⟨fun a c kd mo _ ha w => ?_, fun a _ ha => ?_⟩⟩
  · exact List.mem_map.mpr ⟨_, List.mem_of_getElem? h.hd, rfl⟩
  · obtain ⟨x, hx, rfl⟩ := List.mem_map.mp ha
    obtain ⟨i, hi, e⟩ := List.getElem_of_mem hx
    exact (h.dn i x hi (by rw [List.getElem?_eq_getElem hi, e])).2 c kd mo w
  · obtain ⟨x, hx, rfl⟩ := List.mem_map.mp ha
    obtain ⟨i, hi, e⟩ := List.getElem_of_mem hx
    exact (h.dn i x hi (by rw [List.getElem?_eq_getElem hi, e])).1
/-- the row, from its end -/
structure RowTo (T N : Nat) (sz : Nat → Int) (st : Fl) (bk : List (Spot × Option Step)) (g : Spot) (j : Nat) (p : Spot) (row : List Step) : Prop where
  ex : ∃ vs, Path (Way T N sz st) p row g vs ∧ ∀ v ∈ vs, ∃ l b, j ≤ l ∧ bk[l]? = some (v, b)
  at_ : ∃ b, bk[j]? = some (p, b)
theorem RowTo.first (hx : bk[i]? = some (g, b)) : RowTo T N sz st bk g i g [] := ⟨⟨[g], .nil g, fun v hv => by
  have : v = g := by simpa using hv
  rw [this]; exact ⟨i, b, Nat.le_refl _, hx⟩⟩, b, hx⟩
theorem RowTo.step {j : Nat} {row : List Step} (h : Bfs T N sz st start bk d) (r : RowTo T N sz st bk g j p row) (hx : bk[j]? = some (p, some (q, kd, mo))) : ∃ j', j' < j ∧ RowTo T N sz st bk g j' q ((q, kd, mo) :: row) := by
  obtain ⟨vs, hp, hv⟩ := r.ex
  have hj : 0 < j := by
    apply Classical.byContradiction
    intro hc
    have : j = 0 := by omega
    rw [this, h.hd] at hx
    cases hx
  obtain ⟨j', p', b', kd', mo', h1, h2, h3, h4⟩ := h.tl j _ hx hj
  cases h3
  refine ⟨j', h1, ⟨q :: vs, .cons h4 hp fun hm => ?_, fun v hm => ?_⟩, b', h2⟩
  · obtain ⟨l, b2, hl, hb⟩ := hv _ hm
    have := h.uniq h2 hb rfl
    omega
  · rcases List.mem_cons.mp hm with rfl | hm
    · exact ⟨j', b', Nat.le_refl _, h2⟩
    · obtain ⟨l, b2, hl, hb⟩ := hv _ hm
      exact ⟨l, b2, by omega, hb⟩
theorem RowTo.last {j : Nat} {row : List Step} (h : Bfs T N sz st start bk d) (r : RowTo T N sz st bk g j p row) (hx : bk[j]? = some (p, none)) : ∃ vs, Path (Way T N sz st) start row g vs := by
  obtain ⟨vs, hp, hv⟩ := r.ex
  have hj : j = 0 := by
    apply Classical.byContradiction
    intro hc
    obtain ⟨_, _, _, _, _, _, _, h3, _⟩ := h.tl j _ hx (by omega)
    cases h3
  rw [hj, h.hd] at hx
  cases hx
  exact ⟨vs, hp⟩
/-- the ways, as they are listed -/
def waysAll (T N : Nat) (sz : Nat → Int) (st : Fl) (p : Spot) : List (Spot × Kd × Option Int) :=
  (if p.2 + 1 < N then [((p.1, p.2 + 1), Kd.keep, some (sz p.1 - st.kept p.1 p.2))] else []) ++
  ((if p.1 + 1 < T then [((p.1 + 1, p.2), Kd.fall, none)] else []) ++
  ((if 0 < p.2 ∧ 0 < st.kept p.1 (p.2 - 1) then [((p.1, p.2 - 1), Kd.unkeep, some (st.kept p.1 (p.2 - 1)))] else []) ++
  (if 0 < p.1 ∧ 0 < st.fell (p.1 - 1) p.2 then [((p.1 - 1, p.2), Kd.unfall, some (st.fell (p.1 - 1) p.2))] else [])))
def wayOk (w : Spot × Kd × Option Int) : Bool := match w.2.2 with
  | none => true
  | some x => decide (0 < x)
def waysL (T N : Nat) (sz : Nat → Int) (st : Fl) (p : Spot) : List (Spot × Kd × Option Int) := (waysAll T N sz st p).filter wayOk
theorem waysL_iff : (q, kd, mo) ∈ waysL T N sz st p ↔ Way T N sz st p q kd mo := by
  obtain ⟨k, n⟩ := p
  unfold waysL waysAll
  rw [List.mem_filter]
  constructor
  · rintro ⟨h, ho⟩
    rcases List.mem_append.mp h with h | h
    · split at h
      · rename_i hn
        have e : (q, kd, mo) = ((k, n + 1), Kd.keep, some (sz k - st.kept k n)) := by simpa using h
        cases e
        exact .keep hn (by simpa [wayOk] using ho)
      · cases h
    rcases List.mem_append.mp h with h | h
    · split at h
      · rename_i hn
        have e : (q, kd, mo) = ((k + 1, n), Kd.fall, none) := by simpa using h
        cases e
        exact .fall hn
      · cases h
    rcases List.mem_append.mp h with h | h
    · split at h
      · rename_i hn
        have e : (q, kd, mo) = ((k, n - 1), Kd.unkeep, some (st.kept k (n - 1))) := by simpa using h
        cases e
        have h1 : 0 < n := hn.1
        have w : Way T N sz st (k, n - 1 + 1) (k, n - 1) .unkeep _ := .unkeep hn.2
        rwa [show n - 1 + 1 = n by omega] at w
      · cases h
    · split at h
      · rename_i hn
        have e : (q, kd, mo) = ((k - 1, n), Kd.unfall, some (st.fell (k - 1) n)) := by simpa using h
        cases e
        have h1 : 0 < k := hn.1
        have w : Way T N sz st (k - 1 + 1, n) (k - 1, n) .unfall _ := .unfall hn.2
        rwa [show k - 1 + 1 = k by omega] at w
      · cases h
  · intro w
    cases w with
    | keep h1 h2 => exact ⟨List.mem_append_left _ (by simp [h1]), by simpa [wayOk] using h2⟩
    | fall h1 => exact ⟨List.mem_append_right _ (List.mem_append_left _ (by simp [h1])), rfl⟩
    | unkeep h1 => exact ⟨List.mem_append_right _ (List.mem_append_right _ (List.mem_append_left _ (by simp [h1]))), by simpa [wayOk] using h1⟩
    | unfall h1 => exact ⟨List.mem_append_right _ (List.mem_append_right _ (List.mem_append_right _ (by simp [h1]))), by simpa [wayOk] using h1⟩
/-- behind a step the rest is still a row of ways -/
theorem Path.tail {m : Int} {r : List Step} {vs : List Spot} {x : Step} (h : Path (Way T N sz st) p (x :: r) g vs) : ∃ q kd mo ws, x = (p, kd, mo) ∧ Way T N sz st p q kd mo ∧ Path (Way T N sz (app m st x)) q r g ws := by
  cases h with
  | @cons _ q _ kd mo _ vs w t n =>
    refine ⟨q, kd, mo, vs, rfl, w, t.congr fun a b kd' mo' ha hb h => h.unt (app_unt (m := m) w) ?_⟩
    apply Classical.byContradiction
    intro hc
    have hc1 : a = p ∨ a = q := Classical.byContradiction fun z => hc (.inl z)
    have hc2 : b = p ∨ b = q := Classical.byContradiction fun z => hc (.inr z)
    have hne := h.ne
    rcases hc1 with rfl | rfl
    · exact n ha
    · rcases hc2 with rfl | rfl
      · exact n hb
      · exact hne rfl
theorem Path.inn : ∀ {row : List Step} {p g : Spot} {vs : List Spot}, Path (Way T N sz st) p row g vs → In T N p → In T N g
  | _, _, _, _, .nil p, h => h
  | _, _, _, _, .cons w t n, h => t.inn (w.inn' h)
theorem Path.most : ∀ {row : List Step} {p g : Spot} {vs : List Spot}, Path (Way T N sz st) p row g vs → ∀ x ∈ row, ∀ y, x.2.2 = some y → 0 < y
  | _, _, _, _, .nil p, x, hx, y, hy => by simp at hx
  | _, _, _, _, .cons w t n, x, hx, y, hy => by
    rcases List.mem_cons.mp hx with rfl | hx
    · exact w.pos y hy
    · exact t.most x hx y hy
end
end Cy

namespace Cy
/-! a plan that draws the most -/
section
variable {W : Spot → Spot → Kd → Option Int → Prop}
theorem Path.snoc : ∀ {row : List Step} {p a : Spot} {vs : List Spot}, Path W p row a vs → ∀ {b : Spot} {kd : Kd} {mo : Option Int}, W a b kd mo → b ∉ vs → Path W p (row ++ [(a, kd, mo)]) b (vs ++ [b])
  | _, _, _, _, .nil p, b, kd, mo, w, n => .cons w (.nil b) (by
    intro m
    have : p = b := by simpa using m
    exact n (by rw [this]; simp))
  | _, _, _, _, .cons w' t n', b, kd, mo, w, n => .cons w' (t.snoc w fun m => n (List.mem_cons_of_mem _ m)) (by
    intro m
    rcases List.mem_append.mp m with m | m
    · exact n' m
    · have := List.mem_singleton.mp m
      exact n (by rw [← this]; exact List.mem_cons_self))
theorem Path.cut : ∀ {row : List Step} {p a : Spot} {vs : List Spot}, Path W p row a vs → ∀ {b : Spot}, b ∈ vs → ∃ row' vs', Path W p row' b vs' ∧ ∀ x ∈ vs', x ∈ vs
  | _, _, _, _, .nil p, b, m => by
    have : b = p := by simpa using m
    subst this
    exact ⟨[], [b], .nil b, fun x hx => hx⟩
  | _, _, _, _, @Path.cons _ p q g kd mo r vs w' t n', b, m => by
    by_cases e : b = p
    · subst e
      exact ⟨[], [b], .nil b, fun x hx => by
        have : x = b := by simpa using hx
        rw [this]; exact List.mem_cons_self⟩
    · have m : b ∈ vs := by
        rcases List.mem_cons.mp m with z | z
        · exact (e z).elim
        · exact z
      obtain ⟨r', vs', h1, h2⟩ := t.cut m
      exact ⟨_, _, .cons w' h1 fun z => n' (h2 _ z), fun x hx => by
        rcases List.mem_cons.mp hx with rfl | hx
        · exact List.mem_cons_self
        · exact List.mem_cons_of_mem _ (h2 _ hx)⟩
end
theorem sumTo_add1 (f : Nat → Int) (a : Nat) (m : Int) : ∀ n, sumTo (fun k => if k = a then f k + m else f k) n = sumTo f n + if a < n then m else 0
  | 0 => by simp [sumTo]
  | n + 1 => by
    show sumTo _ n + (if n = a then f n + m else f n) = sumTo f n + f n + if a < n + 1 then m else 0
    rw [sumTo_add1 f a m n]
    by_cases e : n = a
    · rw [if_pos e, if_neg (by omega), if_pos (by omega)]; omega
    · by_cases e2 : a < n
      · rw [if_neg e, if_pos e2, if_pos (by omega)]; omega
      · rw [if_neg e, if_neg e2, if_neg (by omega)]; omega
def allA (T N : Nat) (st : Fl) : Int := sumTo (fun n => sumTo (fun k => st.asked k n) T) N
theorem allA_push {T N : Nat} {st st' : Fl} {a b : Nat} {m : Int} (ha : a < T) (hb : b < N) (h : st'.asked = addE st.asked a b m) : allA T N st' = allA T N st + m := by
  unfold allA
  have e : ∀ n, sumTo (fun k => st'.asked k n) T = if n = b then sumTo (fun k => st.asked k n) T + m else sumTo (fun k => st.asked k n) T := fun n => by
    by_cases e : n = b
    · rw [if_pos e]
      have := sumTo_add1 (fun k => st.asked k n) a m T
      rw [if_pos ha] at this
      rw [← this]
      refine sumTo_congr fun k _ => ?_
      rw [h]
      unfold addE
      by_cases z : k = a
      · rw [if_pos ⟨z, e⟩, if_pos z]
      · rw [if_neg (fun y => z y.1), if_neg z]
    · rw [if_neg e]
      refine sumTo_congr fun k _ => ?_
      rw [h]
      exact addE_ne _ _ fun y => e y.2
  have := sumTo_add1 (fun n => sumTo (fun k => st.asked k n) T) b m N
  rw [if_pos hb] at this
  rw [← this]
  exact sumTo_congr fun n _ => e n
section
variable {T N : Nat} {sz : Nat → Int} {come0 asked0 : Nat → Nat → Int}
theorem full_ex : ∀ (c : Nat) (st : Fl), Fine T N sz come0 asked0 st → (allA T N st).toNat ≤ c → ∃ st', Fine T N sz come0 asked0 st' ∧ Full T N sz st' := fun c => by
  induction c with
  | zero =>
    intro st f hc
    refine ⟨st, f, fun k n hk hn => ?_⟩
    -- nothing is asked any more
    refine .inr ⟨fun _ => True, trivial, ⟨fun _ _ _ _ _ _ _ => trivial, fun a ha _ => ?_⟩⟩
    have h0 : allA T N st ≤ 0 := by omega
    have hnn : ∀ n, n < N → 0 ≤ sumTo (fun k => st.asked k n) T := fun n hn => sumTo_nn fun k hk => f.a0 k n hk hn
    have h1 := f.a0 a.1 a.2 ha.1 ha.2
    -- one asked is at most all
    have le1 : ∀ {g : Nat → Int} {n : Nat}, (∀ k, k < n → 0 ≤ g k) → ∀ j, j < n → g j ≤ sumTo g n := fun {g n} hg => by
      induction n with
      | zero => intro j hj; omega
      | succ n ih =>
        intro j hj
        have := ih fun k hk => hg k (by omega)
        show g j ≤ sumTo g n + g n
        have s0 : 0 ≤ sumTo g n := sumTo_nn fun k hk => hg k (by omega)
        have g0 := hg n (by omega)
        by_cases e : j = n
        · subst e; omega
        · have := this j (by omega)
          omega
    have a1 : st.asked a.1 a.2 ≤ sumTo (fun k => st.asked k a.2) T := le1 (fun k hk => f.a0 k a.2 hk ha.2) a.1 ha.1
    have a2 : sumTo (fun k => st.asked k a.2) T ≤ allA T N st := le1 (g := fun n => sumTo (fun k => st.asked k n) T) hnn a.2 ha.2
    omega
  | succ c ih =>
    intro st f hc
    by_cases hF : Full T N sz st
    · exact ⟨st, f, hF⟩
    · have : ∃ k n, k < T ∧ n < N ∧ ¬ Stuck T N sz st (k, n) := Classical.byContradiction fun z => hF fun k n hk hn => Classical.byContradiction fun y => z ⟨k, n, hk, hn, y⟩
      obtain ⟨k, n, hk, hn, hs⟩ := this
      have hcome : 0 < st.come k n := Int.not_le.mp fun z => hs (.inl z)
      have : ∃ a row vs, Path (Way T N sz st) (k, n) row a vs ∧ In T N a ∧ st.asked a.1 a.2 ≠ 0 := Classical.byContradiction fun z => hs (.inr ⟨fun a => ∃ row vs, Path (Way T N sz st) (k, n) row a vs, ⟨[], _, .nil _⟩, ⟨fun a b kd mo ha ⟨row, vs, hp⟩ w => by
        by_cases m : b ∈ vs
        · obtain ⟨r', vs', h1, _⟩ := hp.cut m
          exact ⟨r', vs', h1⟩
        · exact ⟨_, _, hp.snoc w m⟩, fun a ha ⟨row, vs, hp⟩ => Classical.byContradiction fun y => z ⟨a, row, vs, hp, ha, y⟩⟩⟩)
      obtain ⟨a, row, vs, hp, ha, hask⟩ := this
      have h0 := f.a0 a.1 a.2 ha.1 ha.2
      have f' := f.push (s := (k, n)) (g := a) (m := 1) ⟨hk, hn⟩ hp (by decide) (by show 1 ≤ st.come k n; omega) (by omega) fun x hx y hy => by
        have := hp.most x hx y hy
        omega
      refine ih _ f' ?_
      have e := allA_push (T := T) (N := N) (st := st) (st' := pushed 1 st (k, n) a row) (a := a.1) (b := a.2) (m := -1) ha.1 ha.2 rfl
      omega
end
theorem most_plan {rooms held : List Int} {days : List Day} (Y : YardWf rooms held) (hd : daysOk rooms.length days = true) {v : Int} (hv : IsMost rooms held days v) : ∃ plan, holdsB rooms held days plan = true ∧ drawnBy plan = v := by
  obtain ⟨st, f, h⟩ := full_ex _ _ (startS_fine Y hd (top := 1) (under := 1) (by decide) (by decide)) (Nat.le_refl _)
  exact ⟨_, planS_holds Y.len f, planS_most Y.len hd f h hv⟩
end Cy

namespace Cy
open PySem L2
open Evl (Ex Ex.refl Ex.trans Ex.new Ex.mut)
local macro_rules | `(tactic| walk_at "lv") => `(tactic| first | exact LV.lst | exact LV.scr | exact LV.own List.mem_cons_self | exact LV.own (List.mem_cons_of_mem _ List.mem_cons_self) | exact LV.own (List.mem_cons_of_mem _ (List.mem_cons_of_mem _ List.mem_cons_self)) | exact LV.own (List.mem_cons_of_mem _ (List.mem_cons_of_mem _ (List.mem_cons_of_mem _ List.mem_cons_self))))
local macro_rules | `(tactic| walk_at "at") => `(tactic| first | exact at_mapN (by assumption) | exact at_map (by omega) (by assumption) | rfl | exact at_of (by omega) (by assumption))
local macro_rules | `(tactic| walk_at "side") => `(tactic| first | assumption | omega | decide)
local macro_rules | `(tactic| walk_at "ea") => `(tactic| first | exact ea_nil | (apply ea_cons; walk_at "ev"; walk_at "ea"))
local macro_rules | `(tactic| walk_at "et") => `(tactic| first
  | exact et_yes
  | (apply et_B; walk_at "ev")
  | (apply et_T; walk_at "ev")
  | (apply et_not; walk_at "et"))
local macro_rules | `(tactic| walk_at "ev") => `(tactic| first
  | exact ev_var rfl
  | exact ev_cint | exact ev_cbl | exact ev_cstr | exact ev_cnon
  | (apply ev_ii; walk_at "ev"; walk_at "ev")
  | (apply ev_ib; walk_at "ev"; walk_at "ev")
  | (apply ev_eqI; walk_at "ev"; walk_at "ev")
  | (apply ev_neI; walk_at "ev"; walk_at "ev")
  | (apply ev_ixL; walk_at "ev"; walk_at "lv"; walk_at "ev"; walk_at "at")
  | (apply ev_ixT; walk_at "ev"; walk_at "ev"; walk_at "at")
  | (apply ev_len; walk_at "ev"; walk_at "lv")
  | (apply ev_lenT; walk_at "ev")
  | (apply ev_min2; walk_at "ev"; walk_at "ev")
  | (apply ev_max2; walk_at "ev"; walk_at "ev")
  | (apply ev_tup; walk_at "ea"; (first | decide | simp | skip))
  | (apply ev_iC; walk_at "ev"; walk_at "ev"; walk_at "cond")
  | (apply ev_fldI; walk_at "cls"; walk_at "cls"; walk_at "ev"; walk_at "iv"; rfl; rfl; rfl)
  | (apply ev_F; walk_at "ef")
  | walk_at "call")
local macro_rules | `(tactic| walk_at "ef") => `(tactic| first
  | (apply ef_list; walk_at "ev"; walk_at "lv")
  | (apply ef_lst; walk_at "ea"; (first | decide | simp | skip)))
local macro_rules | `(tactic| walk_at "iv") => `(tactic| first | exact IV.ins | exact IV.own List.mem_cons_self | exact IV.own (List.mem_cons_of_mem _ List.mem_cons_self) | exact IV.own (List.mem_cons_of_mem _ (List.mem_cons_of_mem _ List.mem_cons_self)) | exact IV.own (List.mem_cons_of_mem _ (List.mem_cons_of_mem _ (List.mem_cons_of_mem _ List.mem_cons_self))))
local macro_rules | `(tactic| walk_at "cond") => `(tactic| first | exact Or.inr (by decide) | exact Or.inl (by decide) | (exact ⟨by decide, by decide⟩) | (show (0 : Int) < _; first | decide | assumption | omega))
local macro_rules | `(tactic| walk_at "cls") => `(tactic| first | assumption | exact YardF.cls (by assumption) | exact YardF.sizes (by assumption) | exact YardF.held (by assumption))
local macro_rules | `(tactic| walk_at "call") => `(tactic| fail "no call")
local macro_rules | `(tactic| walk_at "at") => `(tactic| first | exact at_getD (by first | assumption | omega) | exact at_day (by first | assumption | omega) | rfl)
local macro_rules | `(tactic| walk_at "call") => `(tactic| (apply ev_drawn; walk_at "ev"; walk_at "ev"; walk_at "ev"; walk_at "side"))
def rd_law (P : Program) (w : World) (K : Fg) (A : Ad) : TS :=
  tSeq (tAsg (tOp (rI0 fun i j => V.int (i + j)) (tC (V.int 1)) (tCall (spC K 3 (c_l_drawn A)) [] E0 (tCons (tVar 0) (tCons (tC (V.int 0)) (tCons (tC (V.int 3)) (tNil)))))) (gName 1)) 
      (tSeq (tAsg (tLc (iRng1 (tCons (tVar 1) (tNil))) (gName 14) (tYes) (tCall (spC K 3 (c_l_drawn A)) [] E0 (tCons (tVar 0) (tCons (tOp (rI0 fun i j => V.int (i + j)) (tC (V.int 2)) (tVar 14)) (tCons (tC (V.int 3)) (tNil))))) ([14] : List Nat)) (gName 2)) 
      (tSeq (tAsg (tLc (iRng1 (tCons (tVar 1) (tNil))) (gName 14) (tYes) (tCall (spC K 3 (c_l_drawn A)) [] E0 (tCons (tVar 0) (tCons (tOp (rI0 fun i j => V.int (i + j)) (tC (V.int 6)) (tVar 14)) (tCons (tOp (rI0 fun i j => V.int (i + j)) (tOp (rIxL K) (tVar 2) (tVar 14)) (tC (V.int 1))) (tNil))))) ([14] : List Nat)) (gName 3)) 
      (tSeq (tAsg (tLst (tNil)) (gName 4)) 
      (tSeq (tFor (iRng1 (tCons (tCall (spC K 3 (c_l_drawn A)) [] E0 (tCons (tVar 0) (tCons (tC (V.int 1)) (tCons (tC (V.int 5)) (tNil))))) (tNil))) (gName 5) 
        (tSeq (tAsg (tLc (iRng1 (tCons (tVar 1) (tNil))) (gName 14) (tYes) (tCall (spC K 3 (c_l_drawn A)) [] E0 (tCons (tVar 0) (tCons (tOp (rI0 fun i j => V.int (i + j)) (tOp (rI0 fun i j => V.int (i + j)) (tC (V.int 20)) (tOp (rI CMul fun i j => V.int (i * j)) (tC (V.int 8)) (tVar 5))) (tVar 14)) (tCons (tC (V.int 3)) (tNil))))) ([14] : List Nat)) (gName 6)) 
        (tDrop (tBM K "list" rAppend (tVar 4) (tCons (tTup (tCons (tVar 6) (tCons (tLc (iRng1 (tCons (tVar 1) (tNil))) (gName 14) (tYes) (tCall (spC K 3 (c_l_drawn A)) [] E0 (tCons (tVar 0) (tCons (tOp (rI0 fun i j => V.int (i + j)) (tOp (rI0 fun i j => V.int (i + j)) (tC (V.int 24)) (tOp (rI CMul fun i j => V.int (i * j)) (tC (V.int 8)) (tVar 5))) (tVar 14)) (tCons (tC (V.int 3)) (tNil))))) ([14] : List Nat)) (tNil)))) (tNil)))))) 
      (tSeq (tAsg (tNDisp P w (tCB (rTupS K) (tCons (tVar 3) (tNil))) (tC (V.int 0))) (gName 7)) 
      (tSeq (tFor (iList K (tVar 4)) (gName 8) 
        (tSeq (tAsg (tNNew P w) (gName 9)) 
        (tSeq (tFor (iNKeys P w (tVar 7)) (gName 10) 
          (tSeq (tAsg (tCall (spC K 3 (c_l_nights P w A)) [] E0 (tCons (tVar 2) (tCons (tVar 10) (tCons (tVar 8) (tNil))))) (gName 11)) 
          (tFor (iNKeys P w (tVar 11)) (gName 12) 
            (sNPut P w (tVar 9) (tVar 12) (tCB (Evl.rMax2) (tCons (tNGet2 P w (tVar 9) (tVar 12) (tC (V.int 0))) (tCons (tOp (rI0 fun i j => V.int (i + j)) (tNGet P w (tVar 7) (tVar 10)) (tNGet P w (tVar 11) (tVar 12))) (tNil)))))))) 
        (tAsg (tVar 9) (gName 7))))) 
      (tSeq (tAsg (tOp (rIxT K) (tCall (spC K 2 (c_most A)) [] E0 (tCons (tMake A.Yard (spC K 3 (c_Yard_init A)) [] E0 (tCons (tVar 2) (tCons (tVar 3) (tNil)))) (tCons (tVar 4) (tNil)))) (tC (V.int 0))) (gName 13)) 
      (tRet (tOp (rEq) (tVar 13) (tCB (rMax K) (tCons (tLc (iNKeys P w (tVar 7)) (gName 10) (tYes) (tNGet P w (tVar 7) (tVar 10)) ([10] : List Nat)) (tNil))))))))))))
section
variable {K : Fg} {ss : SS} {os : Own} {te ta tb : TE}
/-- the first that is evaluated may make cells of one's own -/
theorem em_hole {F : TE → TE} {P R : Dt → Own → Prop} (hF : ∀ σ H Q, (te σ H fun v H1 => F (tC v) σ H1 Q) → F te σ H Q) (h : EvM K te ss os P) (k : ∀ d os1, P d os1 → ∃ p, d = .adr p ∧ EvM K (F (tC (.ref p))) ss os1 R) : EvM K (F te) ss os R := fun σ G H Rr Q q =>
  hF σ H Q (h σ G H Rr _ fun d os1 v G1 H1 p1 q1 e1 o1 n1 r1 => by
    obtain ⟨p, rfl, h2⟩ := k d os1 p1
    cases r1
    have hk : ∀ p ∈ keys os1, p ∈ keys os ∨ H p = none := fun p m => by
      obtain ⟨y, hy, ey⟩ := List.mem_map.mp m
      rcases n1 y hy with z | z
      · exact .inr (ey ▸ z)
      · exact .inl (ey ▸ z)
    exact h2 σ G1 H1 ⟨e1, Rr.sl.mono q1.ex, o1⟩ _ fun e os2 w G2 H2 p2 q2 e2 o2 n2 r2 => q e os2 w G2 H2 p2 (q1.trans q2 hk) e2 o2 (fun y m => by
      rcases n2 y m with z | z
      · exact .inl (q1.dom _ z)
      · exact (hk _ z).symm) r2)
theorem ev_cadr {p : Addr} : Ev K (tC (V.ref p)) ss os (.adr p) := fun σ G H R Q q => q _ G H (Gq.refl G H) R.gh (.adr p)
/-- most(Yard(rooms, waters), days)[0] -/
theorem em_mostY {A : Ad} {E E' : XK} {tA : TA} {rooms held : List Int} {days : List Day} {v : Int} (Y : YardWf rooms held) (hd : daysOk rooms.length days = true) (hv : IsMost rooms held days v) (ha : EvA K tA ss os [iL rooms, iL held]) (hb : ∀ os', Ev K tb ss os' (daysD days)) :
    EvM K (tOp (rIxT K) (tCall (spC K 2 (c_most A)) [] E (tCons (tMake A.Yard (spC K 3 (c_Yard_init A)) [] E' tA) (tCons tb tNil))) (tC (V.int 0))) ss os (fun d os' => d = .int v ∧ ∃ x y, os' = [x, y] ++ os) :=
  em_hole (F := fun te => tOp (rIxT K) (tCall (spC K 2 (c_most A)) [] E (tCons te (tCons tb tNil))) (tC (V.int 0))) (fun σ H Q h => h)
    (em_make (P := fun p r os' => if yardOk rooms held then r = .ok .non ∧ ∃ h, h ≠ p ∧ os' = [(p, .ins A.Yard ["sizes", "held"] [iL rooms, .adr h]), (h, .lst (held.map Dt.int))] else r = .er A.BadYard) ha rfl (fun p => ⟨p, rooms, held, rfl, rfl, rfl⟩)
      (fun p C os' h => by rw [if_pos Y.ok] at h; cases h.1) (fun p d os' h => by rw [if_pos Y.ok] at h; cases h.1; rfl)) fun d os1 hdd => by
    obtain ⟨p, os2, rfl, np, hP, rfl⟩ := hdd
    rw [if_pos Y.ok] at hP
    obtain ⟨_, h, _, rfl⟩ := hP
    refine ⟨p, rfl, em_mono (em_ev (d := .int v) (ev_p (ep_ixT (R := fun z => ∃ v, z = .int v ∧ IsMost rooms held days v) (ep_callN (R := fun z => ∃ v p, z = .tup [.int v, .adr p] ∧ IsMost rooms held days v) (ds := [.adr p, daysD days]) (es := [yardD A rooms held, daysD days]) (ea_cons ev_cadr (ea_cons (hb _) ea_nil)) (.cons (.ins List.mem_cons_self (.cons (.same _) (.cons (.lst (List.mem_cons_of_mem _ List.mem_cons_self)) .nil))) (.cons (.same _) .nil)) rfl ⟨rooms, held, days, Y, rfl, rfl, rfl⟩ fun r os' hp => ?_) fun d hd => ?_) fun d hd => ?_)) fun d os' hd => ?_⟩
    · rw [if_pos hd] at hp
      obtain ⟨p, line, rfl, _, hL⟩ := hp
      exact ⟨_, rfl, ⟨_, p, rfl, line, hL, rfl⟩, .tup (.cons (.int _) (.cons (.adr _) .nil))⟩
    · obtain ⟨v, p, rfl, h⟩ := hd
      exact ⟨_, _, rfl, rfl, v, rfl, h⟩
    · obtain ⟨w, rfl, hw⟩ := hd
      rw [hw.unique hv]
    · obtain ⟨rfl, rfl⟩ := hd
      exact ⟨rfl, _, _, rfl⟩
end
structure DaySm (n : Nat) (d : Day) : Prop where
  l1 : d.1.length = n
  l2 : d.2.length = n
  v1 : ∀ x ∈ d.1, 0 ≤ x ∧ x ≤ 2
  v2 : ∀ x ∈ d.2, 0 ≤ x ∧ x ≤ 2
theorem DaySm.pre {rooms h : List Int} {d : Day} (s : DaySm rooms.length d) (hh : HeldOk rooms h) (h3 : rooms.length ≤ 3) (hr : ∀ k, k < rooms.length → 0 ≤ rooms.getD k 0 ∧ rooms.getD k 0 ≤ 2) : NightPre rooms h d :=
  ⟨h3, hh.len, s.l1, s.l2, hr, fun k hk => (hh.water k hk).1, fun k hk => (s.v1 _ (getD_mem' (by rw [s.l1]; exact hk))).1, fun k hk => s.v2 _ (getD_mem' (by rw [s.l2]; exact hk))⟩
theorem DaySm.ok {n : Nat} {d : Day} (s : DaySm n d) : dayOk n d = true :=
  dayOk_iff.mpr ⟨lOk_iff.mpr ⟨s.l1, withinB_iff.mpr fun x hx => by have := s.v1 x hx; omega⟩, lOk_iff.mpr ⟨s.l2, withinB_iff.mpr fun x hx => by have := s.v2 x hx; omega⟩⟩
theorem setC_third {a b p : Addr} {x y c c' : Cel} (h1 : a ≠ p) (h2 : b ≠ p) : setC [(a, x), (b, y), (p, c)] p c' = [(a, x), (b, y), (p, c')] := by simp [setC, h1, h2]
theorem sem_law {P : Program} {w : World} {K : Fg} {A : Ad} : ∀ vs H Q E, spC K 1 (c_law A) vs H Q E → rd_law P w K A { nx := fun _ H' => Q .non H', rt := Q } (start ["script", "many", "rooms", "waters", "days", "number", "rain", "best", "day", "further", "held", "told", "kept", "found", "k"] vs) H :=
  body_ok fun ds os Pc hl hc B D hfp hR hN => by
    obtain ⟨ns, hns, rfl, rfl, rfl⟩ := hc
    have hB : B.fp = [] := hfp
    have h1 := drawn_pos ns 0 (many := 3) (by decide)
    obtain ⟨many, hm⟩ : ∃ many : Nat, 1 + drawn ns 0 3 = (many : Int) := ⟨(1 + drawn ns 0 3).toNat, by omega⟩
    have hm1 : 1 ≤ many := by omega
    have hm3 : many ≤ 3 := by omega
    refine q_asg (d := .int (many : Int)) (ev_is (ev_ii ev_cint (ev_drawn (ev_var rfl) ev_cint ev_cint (by decide))) (by rw [hm])) ?_
    refine q_asg (d := iL ((List.range many).map fun (k : Nat) => drawn ns (2 + k) 3)) (ev_F (ef_mapRi (n := (many : Int)) (fun k => drawn ns (2 + k) 3) (ea_cons (ev_var rfl) ea_nil) (by omega) (by omega) fun j hj => ⟨_, tw_name, by walk_at "ev"⟩)) ?_
    have hrl : ((List.range many).map fun (k : Nat) => drawn ns (2 + k) 3).length = many := by simp
    have hr2 : ∀ k, k < many → 0 ≤ ((List.range many).map fun (k : Nat) => drawn ns (2 + k) 3).getD k 0 ∧ ((List.range many).map fun (k : Nat) => drawn ns (2 + k) 3).getD k 0 ≤ 2 := fun k hk => by
      have e : ((List.range many).map fun (k : Nat) => drawn ns (2 + k) 3).getD k 0 = drawn ns (2 + k) 3 := by
        rw [List.getD_eq_getElem?_getD, List.getElem?_map, List.getElem?_range hk]; rfl
      rw [e]
      have := drawn_pos ns (2 + k) (many := 3) (by decide)
      omega
    generalize ((List.range many).map fun (k : Nat) => drawn ns (2 + k) 3) = rooms at hrl hr2 ⊢
    refine q_asg (d := iL ((List.range many).map fun (k : Nat) => drawn ns (6 + k) (rooms.getD k 0 + 1))) (ev_F (ef_mapRi (n := (many : Int)) (fun k => drawn ns (6 + k) (rooms.getD k 0 + 1)) (ea_cons (ev_var rfl) ea_nil) (by omega) (by omega) fun j hj => ⟨_, tw_name, by
      have := hr2 j (by omega)
      exact ev_drawn (ev_var rfl) (by walk_at "ev") (ev_ii (ev_ixL (ev_var rfl) LV.lst (ev_var rfl) (at_getD (by omega))) ev_cint) (by omega)⟩)) ?_
    have Y : YardWf rooms ((List.range many).map fun (k : Nat) => drawn ns (6 + k) (rooms.getD k 0 + 1)) := by
      refine ⟨by simp [hrl], by omega, by omega, fun k hk => ?_, fun k hk => ?_⟩
      · have := hr2 k (by omega)
        omega
      · have e : ((List.range many).map fun (k : Nat) => drawn ns (6 + k) (rooms.getD k 0 + 1)).getD k 0 = drawn ns (6 + k) (rooms.getD k 0 + 1) := by
          rw [List.getD_eq_getElem?_getD, List.getElem?_map, List.getElem?_range (by omega)]; rfl
        rw [e]
        have h1 := hr2 k (by omega)
        have := drawn_pos ns (6 + k) (many := rooms.getD k 0 + 1) (by omega)
        omega
    generalize ((List.range many).map fun (k : Nat) => drawn ns (6 + k) (rooms.getD k 0 + 1)) = waters at Y ⊢
    subst hrl
    have hw : HeldOk rooms waters := ⟨Y.len, Y.water⟩
    refine q_asgM (em_F (ef_lst ea_nil (by decide))) fun d os' hd => ?_
    obtain ⟨p, np, rfl, rfl⟩ := hd
    have h5 := drawn_pos ns 1 (many := 5) (by decide)
    refine q_forR (n := drawn ns 1 5) (ea_cons (by walk_at "ev") ea_nil) (by omega) (by omega) (fun i ss os => ∃ (days : List Day) (o5 o6 : Option Dt), days.length = i ∧ (∀ d ∈ days, DaySm rooms.length d) ∧
      ss = [some (.scr ns), some (.int (rooms.length : Int)), some (iL rooms), some (iL waters), some (.adr p), o5, o6, none, none, none, none, none, none, none, none] ∧ os = [(p, .lst (days.map dayD))]) ⟨[], none, none, rfl, by simp, rfl, rfl⟩ (fun i ss os hi hI => ?_) (fun ss os hI => ?_)
    · obtain ⟨days, o5, o6, hdl, hrow, rfl, rfl⟩ := hI
      refine q_asg (d := iL ((List.range rooms.length).map fun (k : Nat) => drawn ns (20 + 8 * i + k) 3)) (ev_F (ef_mapRi (n := (rooms.length : Int)) (fun k => drawn ns (20 + 8 * i + k) 3) (ea_cons (ev_var rfl) ea_nil) (by omega) (by omega) fun j hj => ⟨_, tw_name, by walk_at "ev"⟩)) ?_
      refine do_app (d := dayD ((List.range rooms.length).map (fun (k : Nat) => drawn ns (20 + 8 * i + k) 3), (List.range rooms.length).map fun (k : Nat) => drawn ns (24 + 8 * i + k) 3)) (ev_var rfl) List.mem_cons_self (ev_tup (ea_cons (ev_var rfl) (ea_cons (ev_F (ef_mapRi (n := (rooms.length : Int)) (fun k => drawn ns (24 + 8 * i + k) 3) (ea_cons (ev_var rfl) ea_nil) (by omega) (by omega) fun j hj => ⟨_, tw_name, by walk_at "ev"⟩)) ea_nil)) (by simp)) (by rw [List.length_map]; omega) ?_
      rw [setC_one]
      refine nx_at ⟨days ++ [((List.range rooms.length).map (fun (k : Nat) => drawn ns (20 + 8 * i + k) 3), (List.range rooms.length).map fun (k : Nat) => drawn ns (24 + 8 * i + k) 3)], _, _, by simp [hdl], fun d hd => ?_, rfl, by rw [List.map_append]; rfl⟩
      rcases List.mem_append.mp hd with hd | hd
      · exact hrow d hd
      · have : d = ((List.range rooms.length).map (fun (k : Nat) => drawn ns (20 + 8 * i + k) 3), (List.range rooms.length).map fun (k : Nat) => drawn ns (24 + 8 * i + k) 3) := by simpa using hd
        subst this
        refine ⟨by simp, by simp, fun x hx => ?_, fun x hx => ?_⟩
        · obtain ⟨k, _, rfl⟩ := List.mem_map.mp hx
          have := drawn_pos ns (20 + 8 * i + k) (many := 3) (by decide)
          omega
        · obtain ⟨k, _, rfl⟩ := List.mem_map.mp hx
          have := drawn_pos ns (24 + 8 * i + k) (many := 3) (by decide)
          omega
    obtain ⟨days, o5, o6, hdl, hrow, rfl, rfl⟩ := hI
    refine do_frz (p := p) (c := .lst (days.map dayD)) (os0 := []) (osr := []) (List.Perm.refl _) (fun _ z => by cases z) (by rw [hB]; simp) (FzS.at 4 rfl .here) (FzO.refl _) ?_
    have hdd : daysOk rooms.length days = true := daysOk_iff.mpr ⟨by omega, fun d hd => (hrow d hd).ok⟩
    obtain ⟨v, hv⟩ := isMost_ex Y hdd
    obtain ⟨plan, hp, hpv⟩ := most_plan Y hdd hv
    obtain ⟨bm1, bm2⟩ := best_most Y hdd hv hp hpv
    have hbl := best_len (days := days) hw hm3 (fun k hk => (hr2 k hk).2)
    refine q_asgM (em_ndisp (k := waters) (i := 0) enc1_ok (by rw [nkD_enc1]; exact ev_tupS (ev_var rfl) LV.lst) ev_cint) fun d os' hd => ?_
    obtain ⟨pb0, cb0, _, rfl, rfl, ncb0⟩ := hd
    refine q_forM (xs := days) (f0 := dayD) (ev_var rfl) (fun n ss os => n ≤ days.length ∧ ∃ (pb : Addr) (c : Cel) (o8 o9 o10 o11 o12 : Option Dt), ss = [some (.scr ns), some (.int (rooms.length : Int)), some (iL rooms), some (iL waters), some (daysD days), o5, o6, some (.adr pb), o8, o9, o10, o11, o12, none, none] ∧ os = [(pb, c)] ∧ NC P w enc1 (bestAt rooms waters days n) c) ⟨Nat.zero_le _, pb0, cb0, none, none, none, none, none, rfl, rfl, ncb0⟩ (fun B1 hB1 n day ss os hday hI => ?_) (fun ss os hI => ?_)
    · obtain ⟨_, pb, c, o8, o9, o10, o11, o12, rfl, rfl, nc⟩ := hI
      refine ⟨_, tg_name, ?_⟩
      have hn : n < days.length := (List.getElem?_eq_some_iff.mp hday).1
      have eday : days.getD n ([], []) = day := by rw [List.getD_eq_getElem?_getD, hday]; rfl
      have ds := hrow day (List.mem_of_getElem? hday)
      refine q_asgM (em_nnew enc1) fun d os' hd => ?_
      obtain ⟨pf, cf0, npf, rfl, rfl, ncf0⟩ := hd
      have hbf : pb ≠ pf := fun z => npf (by rw [← z]; exact List.mem_cons_self)
      refine q_forD (d := bestAt rooms waters days n) (ev_var rfl) nc (fun i ss os => ∃ (o10 o11 o12 : Option Dt) (cf : Cel), ss = [some (.scr ns), some (.int (rooms.length : Int)), some (iL rooms), some (iL waters), some (daysD days), o5, o6, some (.adr pb), some (dayD day), some (.adr pf), o10, o11, o12, none, none] ∧ os = [(pb, c), (pf, cf)] ∧ NC P w enc1 (dictOf (((bestAt rooms waters days n).take i).flatMap (bestRow rooms day))) cf) ⟨_, _, _, cf0, rfl, rfl, ncf0⟩ (fun i ss os hI => by
        obtain ⟨_, _, _, _, _, rfl, _⟩ := hI
        exact List.mem_cons_self) (fun i q ss os hq hI => ?_) (fun ss os hI => ?_)
      · obtain ⟨o10, o11, o12, cf, rfl, rfl, ncf⟩ := hI
        refine ⟨_, tg_name, ?_⟩
        have hqm := List.mem_of_getElem? hq
        have hi : i < (bestAt rooms waters days n).length := (List.getElem?_eq_some_iff.mp hq).1
        have hh := (best_ok hw n q hqm).1
        have npre := ds.pre hh hm3 hr2
        have e2 : ((bestAt rooms waters days n).take (i + 1)).flatMap (bestRow rooms day) = ((bestAt rooms waters days n).take i).flatMap (bestRow rooms day) ++ (nights rooms q.1 day).map fun p => (p.1, q.2 + p.2) := by
          rw [List.take_add_one, hq, List.flatMap_append]
          simp [bestRow]
        have hpre : (((bestAt rooms waters days n).take i).flatMap (bestRow rooms day)).length ≤ 27 * 729 := by
          refine Nat.le_trans (flatMap_len _ 729 _ fun x hx => ?_) ?_
          · unfold bestRow
            rw [List.length_map]
            exact nights_len (ds.pre (best_ok hw n x (List.mem_of_mem_take hx)).1 hm3 hr2)
          · rw [List.length_take]
            have := hbl n
            have : min i (bestAt rooms waters days n).length ≤ 27 := by omega
            exact Nat.mul_le_mul_right 729 this
        rw [e2]
        generalize ((bestAt rooms waters days n).take i).flatMap (bestRow rooms day) = pre at ncf hpre ⊢
        refine q_asgM (em_call (osp := []) (osr := [(pb, c), (pf, cf)]) (ds := [iL rooms, .tup (q.1.map Dt.int), dayD day]) (ea_cons (ev_var rfl) (ea_cons (by rw [← nkD_enc1]; exact ev_var rfl) (ea_cons (ev_var rfl) ea_nil))) rfl (List.Perm.refl _) ⟨rooms, q.1, day, npre, rfl, rfl, rfl⟩ (fun C os' h => by obtain ⟨_, _, z, _⟩ := h; cases z)) fun d os' hd => ?_
        obtain ⟨os1, ⟨pt, ct, e, rfl, nct⟩, rfl⟩ := hd
        cases e
        refine do_nd fun nd => ?_
        have nd : [pt, pb, pf].Nodup := nd
        have htf : pt ≠ pf := fun z => (List.nodup_cons.mp nd).1 (by rw [z]; simp)
        have hnl := nights_len npre
        refine do_forD (d := nights rooms q.1 day) (ev_var rfl) nct (fun j ss os => ∃ (o12 : Option Dt) (cf : Cel), ss = [some (.scr ns), some (.int (rooms.length : Int)), some (iL rooms), some (iL waters), some (daysD days), o5, o6, some (.adr pb), some (dayD day), some (.adr pf), some (nkD (enc1 q.1)), some (.adr pt), o12, none, none] ∧ os = [(pt, ct), (pb, c), (pf, cf)] ∧ NC P w enc1 (dictOf (pre ++ ((nights rooms q.1 day).take j).map fun p => (p.1, q.2 + p.2))) cf) ⟨_, cf, rfl, rfl, by simpa using ncf⟩ (fun j ss os hI => by
          obtain ⟨_, _, _, rfl, _⟩ := hI
          exact List.mem_cons_self) (fun j r ss os hr hI => ?_) (fun ss os hI => ?_)
        · obtain ⟨o12, cf, rfl, rfl, ncf⟩ := hI
          refine ⟨_, tg_name, ?_⟩
          have hrm := List.mem_of_getElem? hr
          have e3 : pre ++ ((nights rooms q.1 day).take (j + 1)).map (fun p => (p.1, q.2 + p.2)) = pre ++ ((nights rooms q.1 day).take j).map (fun p => (p.1, q.2 + p.2)) ++ [(r.1, q.2 + r.2)] := by
            rw [List.take_add_one, hr, List.map_append, List.append_assoc]; rfl
          have m3 : (pf, cf) ∈ [(pt, ct), (pb, c), (pf, cf)] := List.mem_cons_of_mem _ (List.mem_cons_of_mem _ List.mem_cons_self)
          refine do_nput (k := r.1) (i := max ((look (dictOf (pre ++ ((nights rooms q.1 day).take j).map fun p => (p.1, q.2 + p.2))) r.1).getD 0) (q.2 + r.2)) (ev_max2 (ev_nget2 (ev_var rfl) m3 ncf enc1_ok (ev_var rfl) ev_cint) (ev_ii (ev_nget (ev_var rfl) (List.mem_cons_of_mem _ List.mem_cons_self) nc enc1_ok (ev_var rfl) hqm) (ev_nget (ev_var rfl) List.mem_cons_self nct enc1_ok (ev_var rfl) hrm))) (ev_var rfl) m3 ncf enc1_ok (ev_var rfl) ?_ fun c' nc' => ?_
          · refine Nat.lt_of_le_of_lt (dictOf_len _) ?_
            rw [List.length_append, List.length_map, List.length_take]
            omega
          · rw [setC_third htf hbf]
            refine nx_at ⟨_, c', rfl, rfl, ?_⟩
            rw [e3, dictOf_snoc]
            exact nc'
        · obtain ⟨o12, cf, rfl, rfl, ncf⟩ := hI
          rw [List.take_length] at ncf
          exact nx_weak (Le.refl _) (List.sublist_cons_self _ _) (nx_at ⟨_, _, _, cf, rfl, rfl, ncf⟩)
      · obtain ⟨o10, o11, o12, cf, rfl, rfl, ncf⟩ := hI
        rw [List.take_length] at ncf
        refine do_asg (d := .adr pf) (ev_var rfl) (nx_weak (Le.refl _) (List.sublist_cons_self _ _) (nx_at ⟨hn, pf, cf, _, _, _, _, _, rfl, rfl, ?_⟩))
        rw [bestAt, eday]
        exact ncf
    · obtain ⟨_, pb, c, o8, o9, o10, o11, o12, rfl, rfl, nc⟩ := hI
      refine q_asgM (em_mostY Y hdd hv (ea_cons (ev_var rfl) (ea_cons (ev_var rfl) ea_nil)) (fun os' => ev_var rfl)) fun d os' hd => ?_
      obtain ⟨rfl, x, y, rfl⟩ := hd
      have mb : (pb, c) ∈ [x, y] ++ [(pb, c)] := by simp
      have hlist : Dt.lst ((bestAt rooms waters days days.length).map fun x => Dt.int x.2) = .lst (((bestAt rooms waters days days.length).map (·.2)).map Dt.int) := by rw [List.map_map]; rfl
      refine do_ret (d := .bl true) (ev_is (ev_eqI (i := v) (j := v) (ev_var rfl) (ev_maxL (ns := (bestAt rooms waters days days.length).map (·.2)) (ev_is (ev_F (ef_mapN (ev_var rfl) mb nc (fun x => Dt.int x.2) (fun x hx => ⟨_, tw_name, ev_nget (ev_var rfl) mb nc enc1_ok (ev_var rfl) hx⟩) (by have := hbl days.length; omega))) hlist) LV.lst bm1 bm2)) (by simp)) ?_
      exact rt_sub (hR.rt ⟨rfl, rfl⟩) (by simp) (by simp)
end Cy

set_option maxHeartbeats 0
namespace Cy
open PySem L2
/-! ### the text by places -/
def topL (i : Nat) : Stmt := PySem.Challenge.pw_cisternyard_k08_whole_small_yards.main.body.getD i (.Pass ⟨0, 0, 0, 0⟩)
abbrev FnP (K : Fg) (x q : Str) (st : Stmt) (f : Addr) (fd : FuncData) : Prop := FunD K x q (defArgs st) (defBody st) (defScope st) [] [] f fd
abbrev s_l_drawn : Stmt := topL 24
theorem sc_l_drawn : FnScope ["script", "k", "many", "cell", "stir"] ["script", "k", "many"] (defScope s_l_drawn) := ⟨rfl, rfl, rfl, by decide +kernel, rfl, by decide +kernel, by decide +kernel⟩
abbrev s_l_nights : Stmt := topL 25
theorem sc_l_nights : FnScope ["rooms", "held", "day", "states", "k", "further", "kept", "over", "drawn", "water", "some", "stays", "key", "found"] ["rooms", "held", "day"] (defScope s_l_nights) := ⟨rfl, rfl, rfl, by decide +kernel, rfl, by decide +kernel, by decide +kernel⟩
abbrev s_within : Stmt := topL 10
theorem sc_within : FnScope ["numbers", "most", "number"] ["numbers", "most"] (defScope s_within) := ⟨rfl, rfl, rfl, by decide +kernel, rfl, by decide +kernel, by decide +kernel⟩
abbrev s_Yard_init : Stmt := inClass (topL 11) 0
theorem sc_Yard_init : FnScope ["self", "rooms", "waters", "k"] ["self", "rooms", "waters"] (defScope s_Yard_init) := ⟨rfl, rfl, rfl, by decide +kernel, rfl, by decide +kernel, by decide +kernel⟩
abbrev s_see_day : Stmt := topL 12
theorem sc_see_day : FnScope ["yard", "day", "numbers"] ["yard", "day"] (defScope s_see_day) := ⟨rfl, rfl, rfl, by decide +kernel, rfl, by decide +kernel, by decide +kernel⟩
abbrev s_see_days : Stmt := topL 13
theorem sc_see_days : FnScope ["yard", "days", "day"] ["yard", "days"] (defScope s_see_days) := ⟨rfl, rfl, rfl, by decide +kernel, rfl, by decide +kernel, by decide +kernel⟩
abbrev s_rain_above : Stmt := topL 17
theorem sc_rain_above : FnScope ["yard", "days", "number", "first", "fallen"] ["yard", "days", "number", "first"] (defScope s_rain_above) := ⟨rfl, rfl, rfl, by decide +kernel, rfl, by decide +kernel, by decide +kernel⟩
abbrev s_step_in : Stmt := topL 16
theorem sc_step_in : FnScope ["yard", "before", "first", "k"] ["yard", "before", "first"] (defScope s_step_in) := ⟨rfl, rfl, rfl, by decide +kernel, rfl, by decide +kernel, by decide +kernel⟩
abbrev s_least_line : Stmt := topL 20
theorem sc_least_line : FnScope ["yard", "days", "top", "under", "many", "best", "number", "ahead", "first", "worth", "line", "some", "k"] ["yard", "days", "top", "under"] (defScope s_least_line) := ⟨rfl, rfl, rfl, by decide +kernel, rfl, by decide +kernel, by decide +kernel⟩
abbrev s_see_line : Stmt := topL 15
theorem sc_see_line : FnScope ["yard", "days", "line", "first"] ["yard", "days", "line"] (defScope s_see_line) := ⟨rfl, rfl, rfl, by decide +kernel, rfl, by decide +kernel, by decide +kernel⟩
abbrev s_wishes_above : Stmt := topL 19
theorem sc_wishes_above : FnScope ["yard", "days", "line", "number"] ["yard", "days", "line"] (defScope s_wishes_above) := ⟨rfl, rfl, rfl, by decide +kernel, rfl, by decide +kernel, by decide +kernel⟩
abbrev s_water_above : Stmt := topL 18
theorem sc_water_above : FnScope ["yard", "days", "line", "total", "number"] ["yard", "days", "line"] (defScope s_water_above) := ⟨rfl, rfl, rfl, by decide +kernel, rfl, by decide +kernel, by decide +kernel⟩
abbrev s_most : Stmt := topL 22
theorem sc_most : FnScope ["yard", "days", "line", "below", "day"] ["yard", "days"] (defScope s_most) := ⟨rfl, rfl, rfl, by decide +kernel, rfl, by decide +kernel, by decide +kernel⟩
abbrev s_law : Stmt := topL 26
theorem sc_law : FnScope ["script", "many", "rooms", "waters", "days", "number", "rain", "best", "day", "further", "held", "told", "kept", "found", "k"] ["script"] (defScope s_law) := ⟨rfl, rfl, rfl, by decide +kernel, rfl, by decide +kernel, by decide +kernel⟩
/-! ### what the top leaves -/
structure Tx (K : Fg) (mg : Str → Option Value) : Prop where
  free_len : mg "len" = none
  free_range : mg "range" = none
  free_tuple : mg "tuple" = none
  free_min : mg "min" = none
  free_max : mg "max" = none
  int_MOST_TANKS : ∃ t, mg "MOST_TANKS" = some (.int 4 t)
  exc_BadYard : ExcF K mg "BadYard" (ad K).BadYard
  int_MOST_ROOM : ∃ t, mg "MOST_ROOM" = some (.int 50 t)
  free_list : mg "list" = none
  int_MOST_DAYS : ∃ t, mg "MOST_DAYS" = some (.int 8 t)
  exc_BadDays : ExcF K mg "BadDays" (ad K).BadDays
  int_MOST_WATER : ∃ t, mg "MOST_WATER" = some (.int 30 t)
  free_sum : mg "sum" = none
  exc_BadLine : ExcF K mg "BadLine" (ad K).BadLine
  yardF : YardF K (ad K)
section
variable {P : Program} {w : World} {K : Fg} {mg : Str → Option Value} {base : Heap}
set_option maxHeartbeats 8000000 in
theorem k_l_drawn (T : Tx K mg)  {f : Addr} {fd : FuncData} (F : FnP K "_law_drawn" "_law_drawn" s_l_drawn f fd) : FnOk P w K mg base CX0 1 f fd ["script", "k", "many"] (spC K 3 (c_l_drawn (ad K))) :=
  FunD.ok F sc_l_drawn (fun _ _ _ _ h => h.1) (fun cdv A outer s H vs Q E hr h => ⟨rd_l_drawn K (ad K), (PSs.nox (pss_cons (ps_set (i := 3) sc_l_drawn.nd rfl (Or.inl rfl) pe_int)
      (Evl.pss_cut (ps_if (pt_cmpR op_gt (pe_callB call_len_seq (by rfl) T.free_len (by decide +kernel) (pa_cons (pv 0) pa_nil)) pe_int (nomark _)) (pss_one (ps_set (i := 3) sc_l_drawn.nd rfl (Or.inl rfl) (pe_ix ix_list (pv 0) (pe_op op_mod (pv 1) (pe_callB call_len_seq (by rfl) T.free_len (by decide +kernel) (pa_cons (pv 0) pa_nil))) (fun _ _ => rfl)))) pss_nil)
      (pss_cons (ps_set (i := 4) sc_l_drawn.nd rfl (Or.inl rfl) (pe_op op_mod (pe_op op_add (pe_op op_add (pe_op op_mul (pv 3) pe_int) (pe_op op_mul (pe_op op_add (pv 1) pe_int) pe_int)) (pe_callB call_len_seq (by rfl) T.free_len (by decide +kernel) (pa_cons (pv 0) pa_nil))) pe_int))
      (pss_cons (ps_set (i := 4) sc_l_drawn.nd rfl (Or.inl rfl) (pe_op op_mod (pe_op op_add (pe_op op_add (pe_op op_mul (pv 4) (pv 4)) (pe_op op_mul (pv 1) pe_int)) pe_int) pe_int))
      (pss_one (ps_ret (pe_op op_mod (pe_op op_fdivN (pe_op op_mod (pe_op op_mul (pv 4) pe_int) pe_int) pe_int) (pv 2))))))))), sem_l_drawn vs H Q E h⟩)
set_option maxHeartbeats 8000000 in
theorem k_l_nights (T : Tx K mg)  {f : Addr} {fd : FuncData} (F : FnP K "_law_nights" "_law_nights" s_l_nights f fd) : FnOk P w K mg base CX0 1 f fd ["rooms", "held", "day"] (spC K 3 (c_l_nights P w (ad K))) :=
  FunD.ok F sc_l_nights (fun _ _ _ _ h => h.1) (fun cdv A outer s H vs Q E hr h => ⟨rd_l_nights P w K (ad K), (PSs.nox (pss_cons (ps_set (i := 3) sc_l_nights.nd rfl (Or.inl rfl) (pe_lst (pa_cons (pe_tup (pa_cons (pe_tup pa_nil) (pa_cons pe_int (pa_cons pe_int pa_nil)))) pa_nil)))
      (pss_cons (ps_for PassesOwn.never rfl (pi_range1 (by rfl) T.free_range (pa_cons (pe_callB call_len_seq (by rfl) T.free_len (by decide +kernel) (pa_cons (pv 0) pa_nil)) pa_nil)) (pg_name (i := 4) sc_l_nights.nd rfl (Or.inl rfl))
        (pss_cons (ps_set (i := 5) sc_l_nights.nd rfl (Or.inr rfl) pe_nnew)
        (pss_cons (ps_for PassesOwn.never rfl (pi_list (pv 3)) (pg_tup rfl (pgs_cons (pg_name (i := 6) sc_l_nights.nd rfl (Or.inl rfl)) (pgs_cons (pg_name (i := 7) sc_l_nights.nd rfl (Or.inl rfl)) (pgs_cons (pg_name (i := 8) sc_l_nights.nd rfl (Or.inl rfl)) pgs_nil))))
          (pss_cons (ps_set (i := 9) sc_l_nights.nd rfl (Or.inl rfl) (pe_op op_add (pe_op op_add (pe_ix ix_tup (pv 1) (pv 4) (fun _ _ => rfl)) (pe_ix ix_list (pe_ix ix_tup (pv 2) pe_int (fun _ _ => rfl)) (pv 4) (fun _ _ => rfl))) (pv 7)))
          (pss_one (ps_for PassesOwn.never rfl (pi_range1 (by rfl) T.free_range (pa_cons (pe_op op_add (pe_callB (call_min2 rfl) (by rfl) T.free_min (by decide +kernel) (pa_cons (pv 9) (pa_cons (pe_ix ix_list (pe_ix ix_tup (pv 2) pe_int (fun _ _ => rfl)) (pv 4) (fun _ _ => rfl)) pa_nil))) pe_int) pa_nil)) (pg_name (i := 10) sc_l_nights.nd rfl (Or.inl rfl))
            (pss_one (ps_for PassesOwn.never rfl (pi_range1 (by rfl) T.free_range (pa_cons (pe_op op_add (pe_callB (call_min2 rfl) (by rfl) T.free_min (by decide +kernel) (pa_cons (pe_op op_sub (pv 9) (pv 10)) (pa_cons (pe_ix ix_list (pv 0) (pv 4) (fun _ _ => rfl)) pa_nil))) pe_int) pa_nil)) (pg_name (i := 11) sc_l_nights.nd rfl (Or.inl rfl))
              (pss_cons (ps_set (i := 12) sc_l_nights.nd rfl (Or.inl rfl) (pe_tup (pa_cons (pe_op op_catA (pv 6) (pe_tup (pa_cons (pv 11) pa_nil))) (pa_cons (pe_op op_sub (pe_op op_sub (pv 9) (pv 10)) (pv 11)) pa_nil))))
              (pss_one (ps_nput hr.units (pv 5) (pv 12) (pe_callB (call_max2 rfl) (by rfl) T.free_max (by decide +kernel) (pa_cons (pe_nget2 hr.units (pv 5) (pv 12) pe_int ⟨rfl, rfl, rfl, rfl⟩) (pa_cons (pe_op op_add (pv 8) (pv 10)) pa_nil))) rfl)))))))))
        (pss_one (ps_setLc (i := 3) (own := [("key", 12)]) (g := gName 12) (tt := tYes) rfl sc_l_nights.nd rfl rfl (sw_true rfl rfl rfl (by decide +kernel)) (pi_nkeys (pv 5)) (blkOk_by (own := [("key", 12)]) (N := ["rooms", "held", "day", "states", "k", "further", "kept", "over", "drawn", "water", "some", "stays", "key", "found"]) (sc := defScope s_l_nights) (by decide +kernel)) (fun _ _ _ _ _ => (pg_name (i := 12) sc_l_nights.nd rfl (Or.inl rfl))) (fun _ _ _ _ _ => pts_nil) (fun _ _ _ _ _ => (pe_tup (pa_cons (pe_ix ix_tup (pv 12) pe_int (fun _ _ => rfl)) (pa_cons (pe_ix ix_tup (pv 12) pe_int (fun _ _ => rfl)) (pa_cons (pe_nget hr.units (pv 5) (pv 12) (fun _ _ => rfl)) pa_nil))))))))))
      (pss_cons (ps_set (i := 13) sc_l_nights.nd rfl (Or.inl rfl) pe_nnew)
      (pss_cons (ps_for PassesOwn.never rfl (pi_list (pv 3)) (pg_tup rfl (pgs_cons (pg_name (i := 6) sc_l_nights.nd rfl (Or.inl rfl)) (pgs_cons (pg_name (i := 7) sc_l_nights.nd rfl (Or.inl rfl)) (pgs_cons (pg_name (i := 8) sc_l_nights.nd rfl (Or.inl rfl)) pgs_nil))))
        (pss_one (ps_nput hr.units (pv 13) (pv 6) (pe_callB (call_max2 rfl) (by rfl) T.free_max (by decide +kernel) (pa_cons (pe_nget2 hr.units (pv 13) (pv 6) pe_int ⟨rfl, rfl, rfl, rfl⟩) (pa_cons (pv 8) pa_nil))) rfl)))
      (pss_one (ps_ret (pv 13)))))))), sem_l_nights vs H Q E h⟩)
set_option maxHeartbeats 8000000 in
theorem k_within (T : Tx K mg)  {f : Addr} {fd : FuncData} (F : FnP K "within" "within" s_within f fd) : FnOk P w K mg base CX0 1 f fd ["numbers", "most"] (spC K 2 (c_within (ad K))) :=
  FunD.ok F sc_within (fun _ _ _ _ h => h.1) (fun cdv A outer s H vs Q E hr h => ⟨rd_within K (ad K), (PSs.nox (pss_cons (ps_for PassesOwn.never rfl (pi_list (pv 0)) (pg_name (i := 2) sc_within.nd rfl (Or.inl rfl))
        (pss_one (ps_if (PW.pt (pw_or (pt_cmpR op_lt (pv 2) pe_int (nomark _)) (pw_or1 (pt_cmpR op_gt (pv 2) (pv 1) (nomark _))))) (pss_one (ps_ret pe_bl)) pss_nil)))
      (pss_one (ps_ret pe_bl)))), sem_within vs H Q E h⟩)
set_option maxHeartbeats 8000000 in
theorem k_Yard_init (T : Tx K mg) (C_within : Cal P w K mg base CX0 "within" 1 ["numbers", "most"] (spC K 2 (c_within (ad K)))) {f : Addr} {fd : FuncData} (F : FnP K "__init__" "Yard.__init__" s_Yard_init f fd) : FnOk P w K mg base (L2.CX P w) 2 f fd ["self", "rooms", "waters"] (spC K 3 (c_Yard_init (ad K))) :=
  FunD.ok F sc_Yard_init (fun _ _ _ _ h => h.1) (fun cdv A outer s H vs Q E hr h => ⟨rd_Yard_init K (ad K) E, (pss_cons (ps_if (PW.pt (pw_or (pt_cmpR op_lt (pe_callB call_len_seq (by rfl) T.free_len (by decide +kernel) (pa_cons (pv 1) pa_nil)) pe_int (nomark _)) (pw_or (pt_cmpR op_gt (pe_callB call_len_seq (by rfl) T.free_len (by decide +kernel) (pa_cons (pv 1) pa_nil)) (pe_gint (by rfl) T.int_MOST_TANKS) (nomark _)) (pw_or1 (pt_cmpR op_ne (pe_callB call_len_seq (by rfl) T.free_len (by decide +kernel) (pa_cons (pv 2) pa_nil)) (pe_callB call_len_seq (by rfl) T.free_len (by decide +kernel) (pa_cons (pv 1) pa_nil)) (nomark _)))))) (pss_one (ps_raise rfl (takes_of rfl rfl rfl rfl) (pmk_ex T.exc_BadYard (by rfl)))) pss_nil)
      (pss_cons (ps_if (pt_not (pt_val (pe_cal C_within (hr.mono (by decide)) (by rfl) pass0 (pa_cons (pv 1) (pa_cons (pe_gint (by rfl) T.int_MOST_ROOM) pa_nil))))) (pss_one (ps_raise rfl (takes_of rfl rfl rfl rfl) (pmk_ex T.exc_BadYard (by rfl)))) pss_nil)
      (pss_cons (ps_for (passes_of rfl) rfl (pi_range1 (by rfl) T.free_range (pa_cons (pe_callB call_len_seq (by rfl) T.free_len (by decide +kernel) (pa_cons (pv 1) pa_nil)) pa_nil)) (pg_name (i := 3) sc_Yard_init.nd rfl (Or.inl rfl))
        (pss_one (ps_if (PW.pt (pw_or (pt_cmpR op_lt (pe_ix ix_list (pv 2) (pv 3) (fun _ _ => rfl)) pe_int (nomark _)) (pw_or1 (pt_cmpR op_gt (pe_ix ix_list (pv 2) (pv 3) (fun _ _ => rfl)) (pe_ix ix_list (pv 1) (pv 3) (fun _ _ => rfl)) (nomark _))))) (pss_one (ps_raise rfl (takes_of rfl rfl rfl rfl) (pmk_ex T.exc_BadYard (by rfl)))) pss_nil)))
      (pss_cons (ps_fld (pv 0) (pe_callTy call_list_of (by rfl) T.free_list (by decide +kernel) (pa_cons (pv 1) pa_nil)) rfl)
      (pss_one (ps_fld (pv 0) (pe_callTy call_list_of (by rfl) T.free_list (by decide +kernel) (pa_cons (pv 2) pa_nil)) rfl)))))), sem_Yard_init T.yardF vs H Q E h⟩)
set_option maxHeartbeats 8000000 in
theorem k_see_day (T : Tx K mg) (C_within : Cal P w K mg base CX0 "within" 1 ["numbers", "most"] (spC K 2 (c_within (ad K)))) {f : Addr} {fd : FuncData} (F : FnP K "see_day" "see_day" s_see_day f fd) : FnOk P w K mg base (L2.CX P w) 2 f fd ["yard", "day"] (spC K 2 (c_see_day (ad K))) :=
  FunD.ok F sc_see_day (fun _ _ _ _ h => h.1) (fun cdv A outer s H vs Q E hr h => ⟨rd_see_day K (ad K) E, (pss_one (ps_for (passes_of rfl) rfl (pi_list (pe_lst (pa_cons (pe_ix ix_tup (pv 1) pe_int (fun _ _ => rfl)) (pa_cons (pe_ix ix_tup (pv 1) pe_int (fun _ _ => rfl)) pa_nil)))) (pg_name (i := 2) sc_see_day.nd rfl (Or.inl rfl))
        (pss_one (ps_if (PW.pt (pw_or (pt_cmpR op_ne (pe_callB call_len_seq (by rfl) T.free_len (by decide +kernel) (pa_cons (pv 2) pa_nil)) (pe_callB call_len_seq (by rfl) T.free_len (by decide +kernel) (pa_cons (pe_fld (pv 0) rfl) pa_nil)) (nomark _)) (pw_or1 (pt_not (pt_val (pe_cal C_within (hr.mono (by decide)) (by rfl) pass0 (pa_cons (pv 2) (pa_cons (pe_gint (by rfl) T.int_MOST_WATER) pa_nil)))))))) (pss_one (ps_raise rfl (takes_of rfl rfl rfl rfl) (pmk_ex T.exc_BadDays (by rfl)))) pss_nil)))), sem_see_day T.yardF vs H Q E h⟩)
set_option maxHeartbeats 8000000 in
theorem k_see_days (T : Tx K mg) (C_see_day : Cal P w K mg base (L2.CX P w) "see_day" 2 ["yard", "day"] (spC K 2 (c_see_day (ad K)))) {f : Addr} {fd : FuncData} (F : FnP K "see_days" "see_days" s_see_days f fd) : FnOk P w K mg base (L2.CX P w) 3 f fd ["yard", "days"] (spC K 2 (c_see_days (ad K))) :=
  FunD.ok F sc_see_days (fun _ _ _ _ h => h.1) (fun cdv A outer s H vs Q E hr h => ⟨rd_see_days K (ad K) E, (pss_cons (ps_if (pt_cmpR op_gt (pe_callB call_len_seq (by rfl) T.free_len (by decide +kernel) (pa_cons (pv 1) pa_nil)) (pe_gint (by rfl) T.int_MOST_DAYS) (nomark _)) (pss_one (ps_raise rfl (takes_of rfl rfl rfl rfl) (pmk_ex T.exc_BadDays (by rfl)))) pss_nil)
      (pss_one (ps_for (passes_of rfl) rfl (pi_list (pv 1)) (pg_name (i := 2) sc_see_days.nd rfl (Or.inl rfl))
        (pss_one (ps_expr (pe_cal C_see_day (hr.mono (by decide)) (by rfl) (passes_call (takes_of rfl rfl rfl rfl) fun _ _ _ _ h => h) (pa_cons (pv 0) (pa_cons (pv 2) pa_nil)))))))), sem_see_days T.yardF vs H Q E h⟩)
set_option maxHeartbeats 8000000 in
theorem k_rain_above (T : Tx K mg)  {f : Addr} {fd : FuncData} (F : FnP K "rain_above" "rain_above" s_rain_above f fd) : FnOk P w K mg base CX0 1 f fd ["yard", "days", "number", "first"] (spC K 4 (c_rain_above (ad K))) :=
  FunD.ok F sc_rain_above (fun _ _ _ _ h => h.1) (fun cdv A outer s H vs Q E hr h => ⟨rd_rain_above K (ad K), (PSs.nox (pss_cons (ps_set (i := 4) sc_rain_above.nd rfl (Or.inl rfl) (pe_callB (cr_sum rfl) (by rfl) T.free_sum (by decide +kernel) (pa_cons (pe_slice sl_list (pe_ix ix_tup (pe_ix ix_list (pv 1) (pv 2) (fun _ _ => rfl)) pe_int (fun _ _ => rfl)) po_none (po_some (pv 3))) pa_nil)))
      (Evl.pss_cut (ps_if (pt_cmpR op_eq (pv 2) pe_int (nomark _)) (pss_one (ps_set (i := 4) sc_rain_above.nd rfl (Or.inl rfl) (pe_op op_add (pv 4) (pe_callB (cr_sum rfl) (by rfl) T.free_sum (by decide +kernel) (pa_cons (pe_slice sl_list (pe_fld (pv 0) rfl) po_none (po_some (pv 3))) pa_nil))))) pss_nil)
      (pss_one (ps_ret (pv 4)))))), sem_rain_above T.yardF vs H Q E h⟩)
set_option maxHeartbeats 8000000 in
theorem k_step_in (T : Tx K mg)  {f : Addr} {fd : FuncData} (F : FnP K "step_in" "step_in" s_step_in f fd) : FnOk P w K mg base CX0 1 f fd ["yard", "before", "first"] (spC K 3 (c_step_in (ad K))) :=
  FunD.ok F sc_step_in (fun _ _ _ _ h => h.1) (fun cdv A outer s H vs Q E hr h => ⟨rd_step_in K (ad K), (PSs.nox (pss_one (ps_ret (pe_callB (cr_sum rfl) (by rfl) T.free_sum (by decide +kernel) (pa_cons (pe_lc (own := [("k", 3)]) (g := gName 3) (tt := tAnd (tTest (tOp (rI0 fun i j => V.bl (decide (i ≤ j))) (tVar 1) (tVar 3))) (tTest (tOp (rI0 fun i j => V.bl (decide (i < j))) (tVar 3) (tVar 2)))) rfl sc_step_in.nd (pi_range1 (by rfl) T.free_range (pa_cons (pe_callB call_len_seq (by rfl) T.free_len (by decide +kernel) (pa_cons (pe_fld (pv 0) rfl) pa_nil)) pa_nil)) (blkOk_by (own := [("k", 3)]) (N := ["yard", "before", "first", "k"]) (sc := defScope s_step_in) (by decide +kernel)) (fun _ _ _ _ _ => (pg_name (i := 3) sc_step_in.nd rfl (Or.inl rfl))) (fun _ _ _ _ _ => (pts_one (PW.pt (pw_and (pt_cmpR op_le (pv 1) (pv 3) (nomark _)) (pw_and1 (pt_cmpR op_lt (pv 3) (pv 2) (nomark _))))))) (fun _ _ _ _ _ => (pe_ix ix_list (pe_fld (pv 0) rfl) (pv 3) (fun _ _ => rfl)))) pa_nil))))), sem_step_in T.yardF vs H Q E h⟩)
set_option maxHeartbeats 8000000 in
theorem k_least_line (T : Tx K mg) (C_rain_above : Cal P w K mg base CX0 "rain_above" 1 ["yard", "days", "number", "first"] (spC K 4 (c_rain_above (ad K)))) (C_step_in : Cal P w K mg base CX0 "step_in" 1 ["yard", "before", "first"] (spC K 3 (c_step_in (ad K)))) {f : Addr} {fd : FuncData} (F : FnP K "least_line" "least_line" s_least_line f fd) : FnOk P w K mg base CX0 2 f fd ["yard", "days", "top", "under"] (spC K 4 (c_least_line (ad K))) :=
  FunD.ok F sc_least_line (fun _ _ _ _ h => h.1) (fun cdv A outer s H vs Q E hr h => ⟨rd_least_line K (ad K), (PSs.nox (pss_cons (ps_set (i := 4) sc_least_line.nd rfl (Or.inl rfl) (pe_callB call_len_seq (by rfl) T.free_len (by decide +kernel) (pa_cons (pe_fld (pv 0) rfl) pa_nil)))
      (pss_cons (ps_set (i := 5) sc_least_line.nd rfl (Or.inl rfl) pe_non)
      (pss_cons (ps_for PassesOwn.never rfl (pi_range1 (by rfl) T.free_range (pa_cons (pe_callB call_len_seq (by rfl) T.free_len (by decide +kernel) (pa_cons (pv 1) pa_nil)) pa_nil)) (pg_name (i := 6) sc_least_line.nd rfl (Or.inl rfl))
        (pss_cons (ps_set (i := 7) sc_least_line.nd rfl (Or.inr rfl) (pv 5))
        (pss_cons (ps_set (i := 5) sc_least_line.nd rfl (Or.inl rfl) (pe_lst pa_nil))
        (pss_one (ps_for PassesOwn.never rfl (pi_range1 (by rfl) T.free_range (pa_cons (pe_op op_add (pv 4) pe_int) pa_nil)) (pg_name (i := 8) sc_least_line.nd rfl (Or.inr rfl))
          (pss_cons (ps_set (i := 9) sc_least_line.nd rfl (Or.inl rfl) (pe_op op_sub (pe_op op_mul (pv 3) (pe_cal C_rain_above (hr.mono (by decide)) (by rfl) pass0 (pa_cons (pv 0) (pa_cons (pv 1) (pa_cons (pv 6) (pa_cons (pv 8) pa_nil)))))) (pe_op op_mul (pv 2) (pe_callB (cr_sum rfl) (by rfl) T.free_sum (by decide +kernel) (pa_cons (pe_slice sl_list (pe_ix ix_tup (pe_ix ix_list (pv 1) (pv 6) (fun _ _ => rfl)) pe_int (fun _ _ => rfl)) po_none (po_some (pv 8))) pa_nil)))))
          (pss_cons (ps_set (i := 10) sc_least_line.nd rfl (Or.inl rfl) (pe_lst pa_nil))
          (Evl.pss_cut (ps_if (pt_cmp (pc_notN (pv 7)) rfl) (pss_cons (ps_setLc (i := 11) (own := [("k", 12)]) (g := gName 12) (tt := tYes) rfl sc_least_line.nd rfl rfl (sw_true rfl rfl rfl (by decide +kernel)) (pi_range1 (by rfl) T.free_range (pa_cons (pe_op op_add (pv 4) pe_int) pa_nil)) (blkOk_by (own := [("k", 12)]) (N := ["yard", "days", "top", "under", "many", "best", "number", "ahead", "first", "worth", "line", "some", "k"]) (sc := defScope s_least_line) (by decide +kernel)) (fun _ _ _ _ _ => (pg_name (i := 12) sc_least_line.nd rfl (Or.inl rfl))) (fun _ _ _ _ _ => pts_nil) (fun _ _ _ _ _ => (pe_tup (pa_cons (pe_op op_add (pe_ix ix_tup (pe_ix ix_list (pv 7) (pv 12) (fun _ _ => rfl)) pe_int (fun _ _ => rfl)) (pe_op op_mul (pv 3) (pe_cal C_step_in (hr.mono (by decide)) (by rfl) pass0 (pa_cons (pv 0) (pa_cons (pv 12) (pa_cons (pv 8) pa_nil)))))) (pa_cons (pe_ix ix_tup (pe_ix ix_list (pv 7) (pv 12) (fun _ _ => rfl)) pe_int (fun _ _ => rfl)) pa_nil)))))
            (pss_cons (ps_set (i := 9) sc_least_line.nd rfl (Or.inl rfl) (pe_op op_add (pv 9) (pe_ix ix_tup (pe_callB (cr_minW rfl hr.units) (by rfl) T.free_min (by decide +kernel) (pa_cons (pv 11) pa_nil)) pe_int (fun _ _ => rfl))))
            (pss_one (ps_set (i := 10) sc_least_line.nd rfl (Or.inl rfl) (pe_ix ix_tup (pe_callB (cr_minW rfl hr.units) (by rfl) T.free_min (by decide +kernel) (pa_cons (pv 11) pa_nil)) pe_int (fun _ _ => rfl)))))) pss_nil)
          (pss_one (ps_expr (pe_bm PySem.F.plainAttrs_list PySem.F.slot_list_append PySem.F.type_list_append mt_append (pv 5) (pa_cons (pe_tup (pa_cons (pv 9) (pa_cons (pe_op op_cat (pv 10) (pe_lst (pa_cons (pv 8) pa_nil))) pa_nil))) pa_nil))))))))))))
      (pss_cons (ps_if (pt_cmp (pc_isN (pv 5)) rfl) (pss_one (ps_ret (pe_lst pa_nil))) pss_nil)
      (pss_one (ps_ret (pe_ix ix_tup (pe_callB (cr_minW rfl hr.units) (by rfl) T.free_min (by decide +kernel) (pa_cons (pv 5) pa_nil)) pe_int (fun _ _ => rfl))))))))), sem_least_line T.yardF vs H Q E h⟩)
set_option maxHeartbeats 8000000 in
theorem k_see_line (T : Tx K mg) (C_see_days : Cal P w K mg base (L2.CX P w) "see_days" 3 ["yard", "days"] (spC K 2 (c_see_days (ad K)))) {f : Addr} {fd : FuncData} (F : FnP K "see_line" "see_line" s_see_line f fd) : FnOk P w K mg base (L2.CX P w) 4 f fd ["yard", "days", "line"] (spC K 3 (c_see_line (ad K))) :=
  FunD.ok F sc_see_line (fun _ _ _ _ h => h.1) (fun cdv A outer s H vs Q E hr h => ⟨rd_see_line K (ad K) E, (pss_cons (ps_expr (pe_cal C_see_days (hr.mono (by decide)) (by rfl) (passes_call (takes_of rfl rfl rfl rfl) fun _ _ _ _ h => h) (pa_cons (pv 0) (pa_cons (pv 1) pa_nil))))
      (pss_cons (ps_if (pt_cmpR op_ne (pe_callB call_len_seq (by rfl) T.free_len (by decide +kernel) (pa_cons (pv 2) pa_nil)) (pe_callB call_len_seq (by rfl) T.free_len (by decide +kernel) (pa_cons (pv 1) pa_nil)) (nomark _)) (pss_one (ps_raise rfl (takes_of rfl rfl rfl rfl) (pmk_ex T.exc_BadLine (by rfl)))) pss_nil)
      (pss_one (ps_for (passes_of rfl) rfl (pi_list (pv 2)) (pg_name (i := 3) sc_see_line.nd rfl (Or.inl rfl))
        (pss_one (ps_if (PW.pt (pw_or (pt_cmpR op_lt (pv 3) pe_int (nomark _)) (pw_or1 (pt_cmpR op_gt (pv 3) (pe_callB call_len_seq (by rfl) T.free_len (by decide +kernel) (pa_cons (pe_fld (pv 0) rfl) pa_nil)) (nomark _))))) (pss_one (ps_raise rfl (takes_of rfl rfl rfl rfl) (pmk_ex T.exc_BadLine (by rfl)))) pss_nil)))))), sem_see_line T.yardF vs H Q E h⟩)
set_option maxHeartbeats 8000000 in
theorem k_wishes_above (T : Tx K mg) (C_see_line : Cal P w K mg base (L2.CX P w) "see_line" 4 ["yard", "days", "line"] (spC K 3 (c_see_line (ad K)))) {f : Addr} {fd : FuncData} (F : FnP K "wishes_above" "wishes_above" s_wishes_above f fd) : FnOk P w K mg base (L2.CX P w) 5 f fd ["yard", "days", "line"] (spC K 3 (c_wishes_above (ad K))) :=
  FunD.ok F sc_wishes_above (fun _ _ _ _ h => h.1) (fun cdv A outer s H vs Q E hr h => ⟨rd_wishes_above K (ad K) E, (pss_cons (ps_expr (pe_cal C_see_line (hr.mono (by decide)) (by rfl) (passes_call (takes_of rfl rfl rfl rfl) fun _ _ _ _ h => h) (pa_cons (pv 0) (pa_cons (pv 1) (pa_cons (pv 2) pa_nil)))))
      (pss_one (ps_ret (pe_callB (cr_sum rfl) (by rfl) T.free_sum (by decide +kernel) (pa_cons (pe_lc (own := [("number", 3)]) (g := gName 3) (tt := tYes) rfl sc_wishes_above.nd (pi_range1 (by rfl) T.free_range (pa_cons (pe_callB call_len_seq (by rfl) T.free_len (by decide +kernel) (pa_cons (pv 2) pa_nil)) pa_nil)) (blkOk_by (own := [("number", 3)]) (N := ["yard", "days", "line", "number"]) (sc := defScope s_wishes_above) (by decide +kernel)) (fun _ _ _ _ _ => (pg_name (i := 3) sc_wishes_above.nd rfl (Or.inl rfl))) (fun _ _ _ _ _ => pts_nil) (fun _ _ _ _ _ => (pe_callB (cr_sum rfl) (by rfl) T.free_sum (by decide +kernel) (pa_cons (pe_slice sl_list (pe_ix ix_tup (pe_ix ix_list (pv 1) (pv 3) (fun _ _ => rfl)) pe_int (fun _ _ => rfl)) po_none (po_some (pe_ix ix_list (pv 2) (pv 3) (fun _ _ => rfl)))) pa_nil)))) pa_nil))))), sem_wishes_above vs H Q E h⟩)
set_option maxHeartbeats 8000000 in
theorem k_water_above (T : Tx K mg) (C_see_line : Cal P w K mg base (L2.CX P w) "see_line" 4 ["yard", "days", "line"] (spC K 3 (c_see_line (ad K)))) (C_rain_above : Cal P w K mg base CX0 "rain_above" 1 ["yard", "days", "number", "first"] (spC K 4 (c_rain_above (ad K)))) (C_step_in : Cal P w K mg base CX0 "step_in" 1 ["yard", "before", "first"] (spC K 3 (c_step_in (ad K)))) {f : Addr} {fd : FuncData} (F : FnP K "water_above" "water_above" s_water_above f fd) : FnOk P w K mg base (L2.CX P w) 5 f fd ["yard", "days", "line"] (spC K 3 (c_water_above (ad K))) :=
  FunD.ok F sc_water_above (fun _ _ _ _ h => h.1) (fun cdv A outer s H vs Q E hr h => ⟨rd_water_above K (ad K) E, (pss_cons (ps_expr (pe_cal C_see_line (hr.mono (by decide)) (by rfl) (passes_call (takes_of rfl rfl rfl rfl) fun _ _ _ _ h => h) (pa_cons (pv 0) (pa_cons (pv 1) (pa_cons (pv 2) pa_nil)))))
      (pss_cons (ps_set (i := 3) sc_water_above.nd rfl (Or.inl rfl) pe_int)
      (pss_cons (ps_for (passes_of rfl) rfl (pi_range1 (by rfl) T.free_range (pa_cons (pe_callB call_len_seq (by rfl) T.free_len (by decide +kernel) (pa_cons (pv 2) pa_nil)) pa_nil)) (pg_name (i := 4) sc_water_above.nd rfl (Or.inl rfl))
        (pss_cons (ps_set (i := 3) sc_water_above.nd rfl (Or.inl rfl) (pe_op op_add (pv 3) (pe_cal C_rain_above (hr.mono (by decide)) (by rfl) pass0 (pa_cons (pv 0) (pa_cons (pv 1) (pa_cons (pv 4) (pa_cons (pe_ix ix_list (pv 2) (pv 4) (fun _ _ => rfl)) pa_nil)))))))
        (pss_one (ps_if (pt_cmpR op_gt (pv 4) pe_int (nomark _)) (pss_one (ps_set (i := 3) sc_water_above.nd rfl (Or.inl rfl) (pe_op op_add (pv 3) (pe_cal C_step_in (hr.mono (by decide)) (by rfl) pass0 (pa_cons (pv 0) (pa_cons (pe_ix ix_list (pv 2) (pe_op op_sub (pv 4) pe_int) (fun _ _ => rfl)) (pa_cons (pe_ix ix_list (pv 2) (pv 4) (fun _ _ => rfl)) pa_nil))))))) pss_nil))))
      (pss_one (ps_ret (pv 3)))))), sem_water_above T.yardF vs H Q E h⟩)
set_option maxHeartbeats 8000000 in
theorem k_most (T : Tx K mg) (C_see_days : Cal P w K mg base (L2.CX P w) "see_days" 3 ["yard", "days"] (spC K 2 (c_see_days (ad K)))) (C_least_line : Cal P w K mg base CX0 "least_line" 2 ["yard", "days", "top", "under"] (spC K 4 (c_least_line (ad K)))) (C_wishes_above : Cal P w K mg base (L2.CX P w) "wishes_above" 5 ["yard", "days", "line"] (spC K 3 (c_wishes_above (ad K)))) (C_water_above : Cal P w K mg base (L2.CX P w) "water_above" 5 ["yard", "days", "line"] (spC K 3 (c_water_above (ad K)))) {f : Addr} {fd : FuncData} (F : FnP K "most" "most" s_most f fd) : FnOk P w K mg base (L2.CX P w) 6 f fd ["yard", "days"] (spC K 2 (c_most (ad K))) :=
  FunD.ok F sc_most (fun _ _ _ _ h => h.1) (fun cdv A outer s H vs Q E hr h => ⟨rd_most K (ad K) E, (pss_cons (ps_expr (pe_cal C_see_days (hr.mono (by decide)) (by rfl) (passes_call (takes_of rfl rfl rfl rfl) fun _ _ _ _ h => h) (pa_cons (pv 0) (pa_cons (pv 1) pa_nil))))
      (pss_cons (ps_set (i := 2) sc_most.nd rfl (Or.inl rfl) (pe_cal C_least_line (hr.mono (by decide)) (by rfl) pass0 (pa_cons (pv 0) (pa_cons (pv 1) (pa_cons pe_int (pa_cons pe_int pa_nil))))))
      (pss_cons (ps_set (i := 3) sc_most.nd rfl (Or.inl rfl) (pe_op op_sub (pe_callB (cr_sum rfl) (by rfl) T.free_sum (by decide +kernel) (pa_cons (pe_lc (own := [("day", 4)]) (g := gName 4) (tt := tYes) rfl sc_most.nd (pi_list (pv 1)) (blkOk_by (own := [("day", 4)]) (N := ["yard", "days", "line", "below", "day"]) (sc := defScope s_most) (by decide +kernel)) (fun _ _ _ _ _ => (pg_name (i := 4) sc_most.nd rfl (Or.inl rfl))) (fun _ _ _ _ _ => pts_nil) (fun _ _ _ _ _ => (pe_callB (cr_sum rfl) (by rfl) T.free_sum (by decide +kernel) (pa_cons (pe_ix ix_tup (pv 4) pe_int (fun _ _ => rfl)) pa_nil)))) pa_nil)) (pe_cal C_wishes_above (hr.mono (by decide)) (by rfl) (passes_call (takes_of rfl rfl rfl rfl) fun _ _ _ _ h => h) (pa_cons (pv 0) (pa_cons (pv 1) (pa_cons (pv 2) pa_nil))))))
      (pss_one (ps_ret (pe_tup (pa_cons (pe_op op_add (pe_cal C_water_above (hr.mono (by decide)) (by rfl) (passes_call (takes_of rfl rfl rfl rfl) fun _ _ _ _ h => h) (pa_cons (pv 0) (pa_cons (pv 1) (pa_cons (pv 2) pa_nil)))) (pv 3)) (pa_cons (pv 2) pa_nil)))))))), sem_most vs H Q E h⟩)
set_option maxHeartbeats 8000000 in
theorem k_law (T : Tx K mg) (C_l_drawn : Cal P w K mg base CX0 "_law_drawn" 1 ["script", "k", "many"] (spC K 3 (c_l_drawn (ad K)))) (C_l_nights : Cal P w K mg base CX0 "_law_nights" 1 ["rooms", "held", "day"] (spC K 3 (c_l_nights P w (ad K)))) (C_Yard_init : Mak P w K mg base (L2.CX P w) "Yard" (ad K).Yard 2 ["self", "rooms", "waters"] (spC K 3 (c_Yard_init (ad K)))) (C_most : Cal P w K mg base (L2.CX P w) "most" 6 ["yard", "days"] (spC K 2 (c_most (ad K)))) {f : Addr} {fd : FuncData} (F : FnP K "law" "law" s_law f fd) : FnOk P w K mg base CX0 7 f fd ["script"] (spC K 1 (c_law (ad K))) :=
  FunD.ok F sc_law (fun _ _ _ _ h => h.1) (fun cdv A outer s H vs Q E hr h => ⟨rd_law P w K (ad K), (PSs.nox (pss_cons (ps_set (i := 1) sc_law.nd rfl (Or.inl rfl) (pe_op op_add pe_int (pe_cal C_l_drawn (hr.mono (by decide)) (by rfl) pass0 (pa_cons (pv 0) (pa_cons pe_int (pa_cons pe_int pa_nil))))))
      (pss_cons (ps_set (i := 2) sc_law.nd rfl (Or.inr rfl) (pe_lc (own := [("k", 14)]) (g := gName 14) (tt := tYes) rfl sc_law.nd (pi_range1 (by rfl) T.free_range (pa_cons (pv 1) pa_nil)) (blkOk_by (own := [("k", 14)]) (N := ["script", "many", "rooms", "waters", "days", "number", "rain", "best", "day", "further", "held", "told", "kept", "found", "k"]) (sc := defScope s_law) (by decide +kernel)) (fun _ _ _ _ _ => (pg_name (i := 14) sc_law.nd rfl (Or.inl rfl))) (fun _ _ _ _ _ => pts_nil) (fun _ _ _ _ _ => (pe_cal C_l_drawn (hr.mono (by decide)) (by rfl) pass0 (pa_cons (pv 0) (pa_cons (pe_op op_add pe_int (pv 14)) (pa_cons pe_int pa_nil)))))))
      (pss_cons (ps_setLc (i := 3) (own := [("k", 14)]) (g := gName 14) (tt := tYes) rfl sc_law.nd rfl rfl (sw_true rfl rfl rfl (by decide +kernel)) (pi_range1 (by rfl) T.free_range (pa_cons (pv 1) pa_nil)) (blkOk_by (own := [("k", 14)]) (N := ["script", "many", "rooms", "waters", "days", "number", "rain", "best", "day", "further", "held", "told", "kept", "found", "k"]) (sc := defScope s_law) (by decide +kernel)) (fun _ _ _ _ _ => (pg_name (i := 14) sc_law.nd rfl (Or.inl rfl))) (fun _ _ _ _ _ => pts_nil) (fun _ _ _ _ _ => (pe_cal C_l_drawn (hr.mono (by decide)) (by rfl) pass0 (pa_cons (pv 0) (pa_cons (pe_op op_add pe_int (pv 14)) (pa_cons (pe_op op_add (pe_ix ix_list (pv 2) (pv 14) (fun _ _ => rfl)) pe_int) pa_nil))))))
      (pss_cons (ps_set (i := 4) sc_law.nd rfl (Or.inl rfl) (pe_lst pa_nil))
      (pss_cons (ps_for PassesOwn.never rfl (pi_range1 (by rfl) T.free_range (pa_cons (pe_cal C_l_drawn (hr.mono (by decide)) (by rfl) pass0 (pa_cons (pv 0) (pa_cons pe_int (pa_cons pe_int pa_nil)))) pa_nil)) (pg_name (i := 5) sc_law.nd rfl (Or.inr rfl))
        (pss_cons (ps_setLc (i := 6) (own := [("k", 14)]) (g := gName 14) (tt := tYes) rfl sc_law.nd rfl rfl (sw_true rfl rfl rfl (by decide +kernel)) (pi_range1 (by rfl) T.free_range (pa_cons (pv 1) pa_nil)) (blkOk_by (own := [("k", 14)]) (N := ["script", "many", "rooms", "waters", "days", "number", "rain", "best", "day", "further", "held", "told", "kept", "found", "k"]) (sc := defScope s_law) (by decide +kernel)) (fun _ _ _ _ _ => (pg_name (i := 14) sc_law.nd rfl (Or.inl rfl))) (fun _ _ _ _ _ => pts_nil) (fun _ _ _ _ _ => (pe_cal C_l_drawn (hr.mono (by decide)) (by rfl) pass0 (pa_cons (pv 0) (pa_cons (pe_op op_add (pe_op op_add pe_int (pe_op op_mul pe_int (pv 5))) (pv 14)) (pa_cons pe_int pa_nil))))))
        (pss_one (ps_expr (pe_bm PySem.F.plainAttrs_list PySem.F.slot_list_append PySem.F.type_list_append mt_append (pv 4) (pa_cons (pe_tup (pa_cons (pv 6) (pa_cons (pe_lc (own := [("k", 14)]) (g := gName 14) (tt := tYes) rfl sc_law.nd (pi_range1 (by rfl) T.free_range (pa_cons (pv 1) pa_nil)) (blkOk_by (own := [("k", 14)]) (N := ["script", "many", "rooms", "waters", "days", "number", "rain", "best", "day", "further", "held", "told", "kept", "found", "k"]) (sc := defScope s_law) (by decide +kernel)) (fun _ _ _ _ _ => (pg_name (i := 14) sc_law.nd rfl (Or.inl rfl))) (fun _ _ _ _ _ => pts_nil) (fun _ _ _ _ _ => (pe_cal C_l_drawn (hr.mono (by decide)) (by rfl) pass0 (pa_cons (pv 0) (pa_cons (pe_op op_add (pe_op op_add pe_int (pe_op op_mul pe_int (pv 5))) (pv 14)) (pa_cons pe_int pa_nil)))))) pa_nil))) pa_nil))))))
      (pss_cons (ps_set (i := 7) sc_law.nd rfl (Or.inr rfl) (pe_ndisp hr.units (pe_callTy call_tupS (by rfl) T.free_tuple (by decide +kernel) (pa_cons (pv 3) pa_nil)) pe_int))
      (pss_cons (ps_for PassesOwn.never rfl (pi_list (pv 4)) (pg_name (i := 8) sc_law.nd rfl (Or.inl rfl))
        (pss_cons (ps_set (i := 9) sc_law.nd rfl (Or.inl rfl) pe_nnew)
        (pss_cons (ps_for PassesOwn.never rfl (pi_nkeys (pv 7)) (pg_name (i := 10) sc_law.nd rfl (Or.inl rfl))
          (pss_cons (ps_set (i := 11) sc_law.nd rfl (Or.inl rfl) (pe_cal C_l_nights (hr.mono (by decide)) (by rfl) pass0 (pa_cons (pv 2) (pa_cons (pv 10) (pa_cons (pv 8) pa_nil)))))
          (pss_one (ps_for PassesOwn.never rfl (pi_nkeys (pv 11)) (pg_name (i := 12) sc_law.nd rfl (Or.inl rfl))
            (pss_one (ps_nput hr.units (pv 9) (pv 12) (pe_callB (call_max2 rfl) (by rfl) T.free_max (by decide +kernel) (pa_cons (pe_nget2 hr.units (pv 9) (pv 12) pe_int ⟨rfl, rfl, rfl, rfl⟩) (pa_cons (pe_op op_add (pe_nget hr.units (pv 7) (pv 10) (fun _ _ => rfl)) (pe_nget hr.units (pv 11) (pv 12) (fun _ _ => rfl))) pa_nil))) rfl))))))
        (pss_one (ps_set (i := 7) sc_law.nd rfl (Or.inr rfl) (pv 9))))))
      (pss_cons (ps_set (i := 13) sc_law.nd rfl (Or.inl rfl) (pe_ix ix_tup (pe_cal C_most (hr.mono (by decide)) (by rfl) passL (pa_cons (pe_mak C_Yard_init (hr.mono (by decide)) (by rfl) passL (pa_cons (pv 2) (pa_cons (pv 3) pa_nil))) (pa_cons (pv 4) pa_nil))) pe_int (fun _ _ => rfl)))
      (pss_one (ps_ret (pe_cmpR op_eq (pv 13) (pe_callB (cr_max rfl) (by rfl) T.free_max (by decide +kernel) (pa_cons (pe_lc (own := [("held", 10)]) (g := gName 10) (tt := tYes) rfl sc_law.nd (pi_nkeys (pv 7)) (blkOk_by (own := [("held", 10)]) (N := ["script", "many", "rooms", "waters", "days", "number", "rain", "best", "day", "further", "held", "told", "kept", "found", "k"]) (sc := defScope s_law) (by decide +kernel)) (fun _ _ _ _ _ => (pg_name (i := 10) sc_law.nd rfl (Or.inl rfl))) (fun _ _ _ _ _ => pts_nil) (fun _ _ _ _ _ => (pe_nget hr.units (pv 7) (pv 10) (fun _ _ => rfl)))) pa_nil)) (nomark _))))))))))))), sem_law vs H Q E h⟩)
end
/-! ### the head -/
def d_l_drawn : He.DefD := ⟨("_law_drawn", none), "_law_drawn", "_law_drawn", defArgs s_l_drawn, defBody s_l_drawn, defScope s_l_drawn, [], []⟩
def d_l_nights : He.DefD := ⟨("_law_nights", none), "_law_nights", "_law_nights", defArgs s_l_nights, defBody s_l_nights, defScope s_l_nights, [], []⟩
def d_within : He.DefD := ⟨("within", none), "within", "within", defArgs s_within, defBody s_within, defScope s_within, [], []⟩
def d_Yard_init : He.DefD := ⟨("Yard", some "__init__"), "__init__", "Yard.__init__", defArgs s_Yard_init, defBody s_Yard_init, defScope s_Yard_init, [], []⟩
def d_see_day : He.DefD := ⟨("see_day", none), "see_day", "see_day", defArgs s_see_day, defBody s_see_day, defScope s_see_day, [], []⟩
def d_see_days : He.DefD := ⟨("see_days", none), "see_days", "see_days", defArgs s_see_days, defBody s_see_days, defScope s_see_days, [], []⟩
def d_rain_above : He.DefD := ⟨("rain_above", none), "rain_above", "rain_above", defArgs s_rain_above, defBody s_rain_above, defScope s_rain_above, [], []⟩
def d_step_in : He.DefD := ⟨("step_in", none), "step_in", "step_in", defArgs s_step_in, defBody s_step_in, defScope s_step_in, [], []⟩
def d_least_line : He.DefD := ⟨("least_line", none), "least_line", "least_line", defArgs s_least_line, defBody s_least_line, defScope s_least_line, [], []⟩
def d_see_line : He.DefD := ⟨("see_line", none), "see_line", "see_line", defArgs s_see_line, defBody s_see_line, defScope s_see_line, [], []⟩
def d_wishes_above : He.DefD := ⟨("wishes_above", none), "wishes_above", "wishes_above", defArgs s_wishes_above, defBody s_wishes_above, defScope s_wishes_above, [], []⟩
def d_water_above : He.DefD := ⟨("water_above", none), "water_above", "water_above", defArgs s_water_above, defBody s_water_above, defScope s_water_above, [], []⟩
def d_most : He.DefD := ⟨("most", none), "most", "most", defArgs s_most, defBody s_most, defScope s_most, [], []⟩
def d_law : He.DefD := ⟨("law", none), "law", "law", defArgs s_law, defBody s_law, defScope s_law, [], []⟩
def fn : List He.DefD := [d_l_drawn, d_l_nights, d_within, d_Yard_init, d_see_day, d_see_days, d_rain_above, d_step_in, d_least_line, d_see_line, d_wishes_above, d_water_above, d_most, d_law]
def fa : List He.Fa := [.free "len", .free "range", .free "tuple", .free "min", .free "max", .int "MOST_TANKS" 4, .exc "BadYard", .glo "BadYard", .int "MOST_ROOM" 50, .free "list", .int "MOST_DAYS" 8, .exc "BadDays", .glo "BadDays", .int "MOST_WATER" 30, .free "sum", .exc "BadLine", .glo "BadLine", .cls "Yard", .noat "Yard" "sizes", .noat "Yard" "held", .glo "_law_drawn", .glo "_law_nights", .glo "within", .mkr "Yard", .glo "Yard", .glo "see_day", .glo "see_days", .glo "rain_above", .glo "step_in", .glo "least_line", .glo "see_line", .glo "wishes_above", .glo "water_above", .glo "most", .glo "law"]
abbrev Rw : PySem.W.OpenRow := PySem.W.OpenLaw.row PySem.Challenge.rw_cisternyard_k08_whole_small_yards
abbrev hk : PySem.W.Hook := He.hookD 5 fa fn
abbrev SaysX := He.SaysD
def ob (s : PySem.W.SharedT) : He.AlD := He.obsDG 5 fa fn (HandSHeadRun.getT s)
theorem ob_eq (s : PySem.W.SharedT) : ob s = hk.obs s.abs := He.obsDG_eq (HandSHeadRun.getT_eq s)
def loose0 : List Str := ["__name__", "YardError", "BadYard", "BadDays", "BadLine", "MOST_TANKS", "MOST_ROOM", "MOST_WATER", "MOST_DAYS", "within", "Yard", "see_day", "see_days", "see_line", "step_in", "rain_above", "water_above", "wishes_above", "least_line", "most"]
def loose1 : List Str := ["_law_drawn", "_law_nights"]
def looseL : List Str := loose0 ++ loose1
theorem run (w : World) : HandSHeadRun.RunEq Rw (PySem.W.view Rw.prog [26]) hk ob 60000 looseL w := by
  intro os
  kernel_rfl
set_option maxHeartbeats 8000000 in
theorem facts {P : Program} {w : World} {K : Fg} {h : Heap} {mg : Str → Option Value} {f : Addr} (X : K.In h) (G : h.Ns mainGlobals mg) (hfa : mg ("law" : Str) = some (.ref f)) (c : He.SaysD fa fn K) :
    ∃ fd : FuncData, (∀ (s : Shared) (v : Value), BindsTo s fd ⟨[v], []⟩ [("script", v)]) ∧ ∀ base : Heap, K.In base → base.Ns mainGlobals mg → FnOk P w K mg base CX0 7 f fd ["script"] (spC K 1 (c_law (ad K))) := by
  have T : Tx K mg := { free_len := He.free_ok X G (c.fact 0 rfl), free_range := He.free_ok X G (c.fact 1 rfl), free_tuple := He.free_ok X G (c.fact 2 rfl), free_min := He.free_ok X G (c.fact 3 rfl), free_max := He.free_ok X G (c.fact 4 rfl), int_MOST_TANKS := He.int_ok X G (c.fact 5 rfl), exc_BadYard := excF_of (He.glo_ok X G (c.fact 7 rfl)) (He.exc_ok (c.fact 6 rfl)), int_MOST_ROOM := He.int_ok X G (c.fact 8 rfl), free_list := He.free_ok X G (c.fact 9 rfl), int_MOST_DAYS := He.int_ok X G (c.fact 10 rfl), exc_BadDays := excF_of (He.glo_ok X G (c.fact 12 rfl)) (He.exc_ok (c.fact 11 rfl)), int_MOST_WATER := He.int_ok X G (c.fact 13 rfl), free_sum := He.free_ok X G (c.fact 14 rfl), exc_BadLine := excF_of (He.glo_ok X G (c.fact 16 rfl)) (He.exc_ok (c.fact 15 rfl)), yardF := ⟨He.cls_ok (c.fact 17 rfl), He.noat_ok (c.fact 18 rfl), He.noat_ok (c.fact 19 rfl)⟩ }
  obtain ⟨fd_l_drawn, F_l_drawn⟩ := c.def_ 0 (d := d_l_drawn) rfl
  obtain ⟨fd_l_nights, F_l_nights⟩ := c.def_ 1 (d := d_l_nights) rfl
  obtain ⟨fd_within, F_within⟩ := c.def_ 2 (d := d_within) rfl
  obtain ⟨fd_Yard_init, F_Yard_init⟩ := c.def_ 3 (d := d_Yard_init) rfl
  obtain ⟨fd_see_day, F_see_day⟩ := c.def_ 4 (d := d_see_day) rfl
  obtain ⟨fd_see_days, F_see_days⟩ := c.def_ 5 (d := d_see_days) rfl
  obtain ⟨fd_rain_above, F_rain_above⟩ := c.def_ 6 (d := d_rain_above) rfl
  obtain ⟨fd_step_in, F_step_in⟩ := c.def_ 7 (d := d_step_in) rfl
  obtain ⟨fd_least_line, F_least_line⟩ := c.def_ 8 (d := d_least_line) rfl
  obtain ⟨fd_see_line, F_see_line⟩ := c.def_ 9 (d := d_see_line) rfl
  obtain ⟨fd_wishes_above, F_wishes_above⟩ := c.def_ 10 (d := d_wishes_above) rfl
  obtain ⟨fd_water_above, F_water_above⟩ := c.def_ 11 (d := d_water_above) rfl
  obtain ⟨fd_most, F_most⟩ := c.def_ 12 (d := d_most) rfl
  obtain ⟨fd_law, F_law⟩ := c.def_ 13 (d := d_law) rfl
  have e := hfa.symm.trans (He.glo_ok X G (c.fact 34 (f := .glo "law") rfl))
  cases e
  have b := FunD.bindsA (ps := ["script"]) F_law fun _ _ _ _ _ _ us hl => match us, hl with | [_], _ => rfl
  refine ⟨fd_law, fun s v => b s [v] rfl, fun base _ _ => ?_⟩
  have C_l_drawn : Cal P w K mg base CX0 "_law_drawn" 1 ["script", "k", "many"] (spC K 3 (c_l_drawn (ad K))) := ⟨_, _, k_l_drawn T  F_l_drawn, He.glo_ok X G (c.fact 20 (f := .glo "_law_drawn") rfl), F_l_drawn.kp, FunD.bindsN F_l_drawn fun _ _ _ _ _ _ us hl => match us, hl with | [_, _, _], _ => rfl⟩
  have C_l_nights : Cal P w K mg base CX0 "_law_nights" 1 ["rooms", "held", "day"] (spC K 3 (c_l_nights P w (ad K))) := ⟨_, _, k_l_nights T  F_l_nights, He.glo_ok X G (c.fact 21 (f := .glo "_law_nights") rfl), F_l_nights.kp, FunD.bindsN F_l_nights fun _ _ _ _ _ _ us hl => match us, hl with | [_, _, _], _ => rfl⟩
  have C_within : Cal P w K mg base CX0 "within" 1 ["numbers", "most"] (spC K 2 (c_within (ad K))) := ⟨_, _, k_within T  F_within, He.glo_ok X G (c.fact 22 (f := .glo "within") rfl), F_within.kp, FunD.bindsN F_within fun _ _ _ _ _ _ us hl => match us, hl with | [_, _], _ => rfl⟩
  have C_Yard_init : Mak P w K mg base (L2.CX P w) "Yard" (ad K).Yard 2 ["self", "rooms", "waters"] (spC K 3 (c_Yard_init (ad K))) := ⟨⟨_, _, k_Yard_init T C_within F_Yard_init, He.mkr_ok (c.fact 23 (f := .mkr "Yard") rfl), FunD.bindsN F_Yard_init fun _ _ _ _ _ _ us hl => match us, hl with | [_, _, _], _ => rfl⟩, He.glo_ok X G (c.fact 24 (f := .glo "Yard") rfl)⟩
  have C_see_day : Cal P w K mg base (L2.CX P w) "see_day" 2 ["yard", "day"] (spC K 2 (c_see_day (ad K))) := ⟨_, _, k_see_day T C_within F_see_day, He.glo_ok X G (c.fact 25 (f := .glo "see_day") rfl), F_see_day.kp, FunD.bindsN F_see_day fun _ _ _ _ _ _ us hl => match us, hl with | [_, _], _ => rfl⟩
  have C_see_days : Cal P w K mg base (L2.CX P w) "see_days" 3 ["yard", "days"] (spC K 2 (c_see_days (ad K))) := ⟨_, _, k_see_days T C_see_day F_see_days, He.glo_ok X G (c.fact 26 (f := .glo "see_days") rfl), F_see_days.kp, FunD.bindsN F_see_days fun _ _ _ _ _ _ us hl => match us, hl with | [_, _], _ => rfl⟩
  have C_rain_above : Cal P w K mg base CX0 "rain_above" 1 ["yard", "days", "number", "first"] (spC K 4 (c_rain_above (ad K))) := ⟨_, _, k_rain_above T  F_rain_above, He.glo_ok X G (c.fact 27 (f := .glo "rain_above") rfl), F_rain_above.kp, FunD.bindsN F_rain_above fun _ _ _ _ _ _ us hl => match us, hl with | [_, _, _, _], _ => rfl⟩
  have C_step_in : Cal P w K mg base CX0 "step_in" 1 ["yard", "before", "first"] (spC K 3 (c_step_in (ad K))) := ⟨_, _, k_step_in T  F_step_in, He.glo_ok X G (c.fact 28 (f := .glo "step_in") rfl), F_step_in.kp, FunD.bindsN F_step_in fun _ _ _ _ _ _ us hl => match us, hl with | [_, _, _], _ => rfl⟩
  have C_least_line : Cal P w K mg base CX0 "least_line" 2 ["yard", "days", "top", "under"] (spC K 4 (c_least_line (ad K))) := ⟨_, _, k_least_line T C_rain_above C_step_in F_least_line, He.glo_ok X G (c.fact 29 (f := .glo "least_line") rfl), F_least_line.kp, FunD.bindsN F_least_line fun _ _ _ _ _ _ us hl => match us, hl with | [_, _, _, _], _ => rfl⟩
  have C_see_line : Cal P w K mg base (L2.CX P w) "see_line" 4 ["yard", "days", "line"] (spC K 3 (c_see_line (ad K))) := ⟨_, _, k_see_line T C_see_days F_see_line, He.glo_ok X G (c.fact 30 (f := .glo "see_line") rfl), F_see_line.kp, FunD.bindsN F_see_line fun _ _ _ _ _ _ us hl => match us, hl with | [_, _, _], _ => rfl⟩
  have C_wishes_above : Cal P w K mg base (L2.CX P w) "wishes_above" 5 ["yard", "days", "line"] (spC K 3 (c_wishes_above (ad K))) := ⟨_, _, k_wishes_above T C_see_line F_wishes_above, He.glo_ok X G (c.fact 31 (f := .glo "wishes_above") rfl), F_wishes_above.kp, FunD.bindsN F_wishes_above fun _ _ _ _ _ _ us hl => match us, hl with | [_, _, _], _ => rfl⟩
  have C_water_above : Cal P w K mg base (L2.CX P w) "water_above" 5 ["yard", "days", "line"] (spC K 3 (c_water_above (ad K))) := ⟨_, _, k_water_above T C_see_line C_rain_above C_step_in F_water_above, He.glo_ok X G (c.fact 32 (f := .glo "water_above") rfl), F_water_above.kp, FunD.bindsN F_water_above fun _ _ _ _ _ _ us hl => match us, hl with | [_, _, _], _ => rfl⟩
  have C_most : Cal P w K mg base (L2.CX P w) "most" 6 ["yard", "days"] (spC K 2 (c_most (ad K))) := ⟨_, _, k_most T C_see_days C_least_line C_wishes_above C_water_above F_most, He.glo_ok X G (c.fact 33 (f := .glo "most") rfl), F_most.kp, FunD.bindsN F_most fun _ _ _ _ _ _ us hl => match us, hl with | [_, _], _ => rfl⟩
  exact k_law T C_l_drawn C_l_nights C_Yard_init C_most F_law
end Cy
open PySem PySem.W PySem.Calls PyProof.Rows
set_option maxRecDepth 100000 in
set_option maxHeartbeats 0 in
theorem PySem.Challenge.cw_cisternyard_k08_whole_small_yards_holds : PySem.Challenge.rw_cisternyard_k08_whole_small_yards.Holds := by
  w_on; o_law
  refine HandSHeadRun.head_any (r := OpenLaw.row PySem.Challenge.rw_cisternyard_k08_whole_small_yards) (q := view (OpenLaw.row PySem.Challenge.rw_cisternyard_k08_whole_small_yards).prog [26]) (H := Cy.hk) (ob := Cy.ob) (M := 60000) (loose := Cy.looseL) (d := HandSHeadRun.topDef (OpenLaw.row PySem.Challenge.rw_cisternyard_k08_whole_small_yards).prog 26) (kwd := []) Cy.ob_eq
    (by kernel_rfl) (fun s => by kernel_rfl) Cy.run (by kernel_rfl) (by kernel_rfl) (by kernel_rfl) (by rfl) (by first | assumption | decide +kernel) (by decide +kernel) ⟨rfl, rfl, rfl, rfl, rfl, by decide +kernel⟩ ?hw ?hc
  case hw => w_witness2
  case hc =>
    refine L2.walk_ofE (l := PySem.Challenge.rw_cisternyard_k08_whole_small_yards) (n := 63) (k := 7) (x := "script") (CX := L2.CX0) rfl (by decide) (by kernel_rfl) ⟨rfl, by decide, by decide⟩ ?F (fun _ _ _ _ z => z)
    intro w mg fa h Y G hmg0
    obtain ⟨K, KX, c⟩ := Y
    have hmg : mg ("law" : PySem.Str) = some (.ref fa) := by
      have e : (HandSHeadRun.topDef (OpenLaw.row PySem.Challenge.rw_cisternyard_k08_whole_small_yards).prog 26).name = ("law" : PySem.Str) := by kernel_rfl
      rw [← e]
      exact hmg0
    obtain ⟨fd, hb, hF⟩ := Cy.facts (P := (PySem.Challenge.rw_cisternyard_k08_whole_small_yards).prog) (w := w) KX G hmg c
    exact ⟨K, fd, Cy.spC K 1 (Cy.c_law (Cy.ad K)), KX, hb, fun H a ns hl _ hS => Cy.law_start hS hl, hF⟩
