import PyProof.Rows.All
import Wide.All
import OpenK.AllK
import Wide.FinOn
import HandS.ForMost
import HandS.Exc
import HandS.TryOnly
import HandS.ExcOwn
import HandS.WordsExc
import HandS.Evl
import HandS.IsInst
import HandS.HeadHook1
import HandS.Style
import HandS.WordsList
import HandS.SortKw
import KE.DatumOrd
import PyProof.Rows.TupReads
import PyProof.Rows.RowBridgeK
import HandS.Text
import HandS.Iter
import HandS.ExcIs
import HandS.HeadHook2
import HandS.SuiteRaise
import HandS.More
import HandS.Defaults
import HandS.Head0
import HandS.Head1
import HandS.Head2
import HandS.HeadEnd
import PySem.Challenge.RW_cisternyard_k13_texts_refused
set_option Elab.async false
set_option linter.all false
set_option maxRecDepth 100000
set_option maxHeartbeats 4000000
namespace Cy
open PySem L2
open Evl (Ex Ex.refl Ex.trans Ex.new Ex.mut)

/-! ### data -/
inductive Dt where
  | non | bl (b : Bool) | int (i : Int) | str (x : Str) | adr (a : Addr) | scr (ns : List Int)
  | lst (xs : List Dt) | tup (xs : List Dt)
  | ins (C : Addr) (ns : List Str) (xs : List Dt)

abbrev Fg := PySem.W.Frag
mutual
inductive Rp (K : Fg) (G : Hp) : V → Dt → Prop
  | non : Rp K G .non .non
  | bl (b : Bool) : Rp K G (.bl b) (.bl b)
  | int (i : Int) : Rp K G (.int i) (.int i)
  | str (x : Str) : Rp K G (.str x) (.str x)
  | adr (a : Addr) : Rp K G (.ref a) (.adr a)
  | scr {a : Addr} {ns : List Int} : SqL K G a (ns.map V.int) → Rp K G (.ref a) (.scr ns)
  | lst {a : Addr} {vs : List V} {ds : List Dt} : G a = some (.lst vs) → Rps K G vs ds → Rp K G (.ref a) (.lst ds)
  | tup {a : Addr} {vs : List V} {ds : List Dt} : G a = some (.tup vs) → Rps K G vs ds → Rp K G (.ref a) (.tup ds)
  | ins {a C dx : Addr} {ns : List Str} {vs : List V} {ds : List Dt} : G a = some (.ins C dx (ns.zip vs)) → Rps K G vs ds → Rp K G (.ref a) (.ins C ns ds)
inductive Rps (K : Fg) (G : Hp) : List V → List Dt → Prop
  | nil : Rps K G [] []
  | cons {v : V} {vs : List V} {d : Dt} {ds : List Dt} : Rp K G v d → Rps K G vs ds → Rps K G (v :: vs) (d :: ds)
end

section
variable {K : Fg} {G G' H H' : Hp}
mutual
theorem Rp.mono (e : Ex G G') : ∀ {v : V} {d : Dt}, Rp K G v d → Rp K G' v d
  | _, _, .non => .non
  | _, _, .bl b => .bl b
  | _, _, .int i => .int i
  | _, _, .str x => .str x
  | _, _, .adr a => .adr a
  | _, _, .scr h => .scr (Evl.ex_l e h)
  | _, _, .lst h r => .lst (e _ _ h) (Rps.mono e r)
  | _, _, .tup h r => .tup (e _ _ h) (Rps.mono e r)
  | _, _, .ins h r => .ins (e _ _ h) (Rps.mono e r)
theorem Rps.mono (e : Ex G G') : ∀ {v : List V} {d : List Dt}, Rps K G v d → Rps K G' v d
  | _, _, .nil => .nil
  | _, _, .cons h r => .cons (Rp.mono e h) (Rps.mono e r)
end
theorem Rps.length : ∀ {vs : List V} {ds : List Dt}, Rps K G vs ds → vs.length = ds.length
  | _, _, .nil => rfl
  | _, _, .cons _ r => by rw [List.length_cons, List.length_cons, r.length]
theorem Rps.get : ∀ {vs : List V} {ds : List Dt} {i : Nat} {d : Dt}, Rps K G vs ds → ds[i]? = some d → ∃ v, vs[i]? = some v ∧ Rp K G v d
  | _, _, _, _, .nil, h => by simp at h
  | _, _, 0, _, .cons r _, h => by simp at h; subst h; exact ⟨_, rfl, r⟩
  | _, _, i + 1, _, .cons _ t, h => by
    obtain ⟨v, h1, h2⟩ := Rps.get (i := i) t (by simpa using h)
    exact ⟨v, by simpa using h1, h2⟩
theorem Rps.get' : ∀ {vs : List V} {ds : List Dt} {i : Nat} {v : V}, Rps K G vs ds → vs[i]? = some v → ∃ d, ds[i]? = some d ∧ Rp K G v d
  | _, _, _, _, .nil, h => by simp at h
  | _, _, 0, _, .cons r _, h => by simp at h; subst h; exact ⟨_, rfl, r⟩
  | _, _, i + 1, _, .cons _ t, h => by
    obtain ⟨v, h1, h2⟩ := Rps.get' (i := i) t (by simpa using h)
    exact ⟨v, by simpa using h1, h2⟩
theorem Rps.append : ∀ {vs ws : List V} {ds es : List Dt}, Rps K G vs ds → Rps K G ws es → Rps K G (vs ++ ws) (ds ++ es)
  | _, _, _, _, .nil, s => s
  | _, _, _, _, .cons r t, s => .cons r (t.append s)
theorem Rps.one {v : V} {d : Dt} (h : Rp K G v d) : Rps K G [v] [d] := .cons h .nil
theorem Rps.set {v : V} {d : Dt} (h : Rp K G v d) : ∀ {vs : List V} {ds : List Dt} (i : Nat), Rps K G vs ds → Rps K G (vs.set i v) (ds.set i d)
  | _, _, _, .nil => .nil
  | _, _, 0, .cons _ t => .cons h t
  | _, _, i + 1, .cons q t => .cons q (Rps.set h i t)
theorem Rps.take : ∀ {vs : List V} {ds : List Dt} (i : Nat), Rps K G vs ds → Rps K G (vs.take i) (ds.take i)
  | _, _, 0, _ => .nil
  | _, _, i + 1, .nil => .nil
  | _, _, i + 1, .cons q t => .cons q (t.take i)
theorem Rps.drop : ∀ {vs : List V} {ds : List Dt} (i : Nat), Rps K G vs ds → Rps K G (vs.drop i) (ds.drop i)
  | _, _, 0, r => r
  | _, _, i + 1, .nil => .nil
  | _, _, i + 1, .cons q t => t.drop i
theorem Rps.dropLast : ∀ {vs : List V} {ds : List Dt}, Rps K G vs ds → Rps K G vs.dropLast ds.dropLast := fun {vs ds} h => by
  rw [List.dropLast_eq_take, List.dropLast_eq_take, h.length]; exact h.take _
theorem Rps.eraseIdx : ∀ {vs : List V} {ds : List Dt} (i : Nat), Rps K G vs ds → Rps K G (vs.eraseIdx i) (ds.eraseIdx i)
  | _, _, _, .nil => .nil
  | _, _, 0, .cons q t => t
  | _, _, i + 1, .cons q t => .cons q (t.eraseIdx i)
theorem Rps.repl {v : V} {d : Dt} (h : Rp K G v d) : ∀ n : Nat, Rps K G (List.replicate n v) (List.replicate n d)
  | 0 => .nil
  | n + 1 => .cons h (Rps.repl h n)
theorem Rps.ints : ∀ ns : List Int, Rps K G (ns.map V.int) (ns.map Dt.int)
  | [] => .nil
  | n :: r => .cons (.int n) (Rps.ints r)
theorem Rps.to_ints : ∀ {ns : List Int} {vs : List V}, Rps K G vs (ns.map Dt.int) → vs = ns.map V.int
  | [], _, h => by cases h; rfl
  | n :: r, _, h => by
    cases h with
    | cons h1 h2 => cases h1; rw [Rps.to_ints h2]; rfl
theorem Rps.to_bls : ∀ {ns : List Bool} {vs : List V}, Rps K G vs (ns.map Dt.bl) → vs = ns.map V.bl
  | [], _, h => by cases h; rfl
  | n :: r, _, h => by
    cases h with
    | cons h1 h2 => cases h1; rw [Rps.to_bls h2]; rfl
theorem Rps.to_strs : ∀ {ns : List Str} {vs : List V}, Rps K G vs (ns.map Dt.str) → vs = ns.map V.str
  | [], _, h => by cases h; rfl
  | n :: r, _, h => by
    cases h with
    | cons h1 h2 => cases h1; rw [Rps.to_strs h2]; rfl
end

/-! ### cells of one's own -/
inductive Cel where
  | lst (ds : List Dt)
  | dT (kvs : List (List Int × Dt))
  | ins (C : Addr) (ns : List Str) (ds : List Dt)
abbrev Own := List (Addr × Cel)
abbrev SS := List (Option Dt)
abbrev ky (k : List Int) : List Key := k.map Sum.inl
def CelOk (K : Fg) (G H : Hp) (p : Addr) : Cel → Prop
  | .lst ds => ∃ vs, H p = some (.lst vs) ∧ Rps K G vs ds
  | .dT kvs => ∃ vs : List V, vs.length = kvs.length ∧ H p = some (.dT ((kvs.map fun q => ky q.1).zip vs)) ∧ Rps K G vs (kvs.map (·.2))
  | .ins C ns ds => ∃ dx vs, vs.length = ns.length ∧ H p = some (.ins C dx (ns.zip vs)) ∧ Rps K G vs ds
theorem CelOk.mono {K : Fg} {G G' H H' : Hp} {p : Addr} (e : Ex G G') (h : H' p = H p) : ∀ {c : Cel}, CelOk K G H p c → CelOk K G' H' p c
  | .lst ds, ⟨vs, a, b⟩ => ⟨vs, by rw [h]; exact a, b.mono e⟩
  | .dT ds, ⟨vs, l, a, b⟩ => ⟨vs, l, by rw [h]; exact a, b.mono e⟩
  | .ins C ns ds, ⟨dx, vs, l, a, b⟩ => ⟨dx, vs, l, by rw [h]; exact a, b.mono e⟩
theorem CelOk.some {K : Fg} {G H : Hp} {p : Addr} : ∀ {c : Cel}, CelOk K G H p c → ∃ o, H p = some o
  | .lst ds, ⟨vs, a, b⟩ => ⟨_, a⟩
  | .dT ds, ⟨vs, l, a, b⟩ => ⟨_, a⟩
  | .ins C ns ds, ⟨dx, vs, l, a, b⟩ => ⟨_, a⟩
abbrev keys (os : Own) : List Addr := os.map (·.1)
structure OwnOk (K : Fg) (G H : Hp) (os : Own) : Prop where
  nd : (keys os).Nodup
  at_ : ∀ x ∈ os, G x.1 = none ∧ CelOk K G H x.1 x.2
/-- how the heap has gone on: G what is known to stay, H the whole -/
structure Gq (fp : List Addr) (G H G' H' : Hp) : Prop where
  ex : Ex G G'
  new : ∀ a o, G' a = some o → G a = some o ∨ H a = none
  keep : ∀ a o, a ∉ fp → H a = some o → H' a = some o
  dom : ∀ a, H' a = none → H a = none
theorem Gq.refl {fp : List Addr} (G H : Hp) : Gq fp G H G H := ⟨Ex.refl G, fun _ _ h => .inl h, fun _ _ _ h => h, fun _ h => h⟩
theorem Gq.trans {fp fq : List Addr} {G H G1 H1 G2 H2 : Hp} (a : Gq fp G H G1 H1) (b : Gq fq G1 H1 G2 H2) (hf : ∀ p ∈ fq, p ∈ fp ∨ H p = none) : Gq fp G H G2 H2 where
  ex := a.ex.trans b.ex
  new := fun p o h => by
    rcases b.new p o h with q | q
    · exact a.new p o q
    · exact .inr (a.dom p q)
  keep := fun p o n h => b.keep p o (fun m => by
    rcases hf p m with q | q
    · exact n q
    · rw [q] at h; cases h) (a.keep p o n h)
  dom := fun p h => a.dom p (b.dom p h)
theorem Gq.wk {fp fq : List Addr} {G H G1 H1 : Hp} (b : Gq fq G H G1 H1) (hf : ∀ p ∈ fq, p ∈ fp ∨ H p = none) : Gq fp G H G1 H1 := (Gq.refl G H).trans b hf
theorem Gq.exH {G H G1 H1 : Hp} (b : Gq [] G H G1 H1) : Ex H H1 := fun a o h => b.keep a o (by simp) h

def Slots (K : Fg) (G : Hp) (σ : St) (ss : SS) : Prop := σ.length = ss.length ∧ ∀ (i : Nat) (d : Dt), ss[i]? = some (some d) → ∃ v : V, σ[i]? = some (some v) ∧ Rp K G v d
theorem Slots.mono {K : Fg} {G G' : Hp} {σ : St} {ss : SS} (e : Ex G G') (h : Slots K G σ ss) : Slots K G' σ ss :=
  ⟨h.1, fun i d q => let ⟨v, a, b⟩ := h.2 i d q; ⟨v, a, b.mono e⟩⟩
theorem Slots.set {K : Fg} {G : Hp} {σ : St} {ss : SS} {v : V} {d : Dt} (h : Slots K G σ ss) (i : Nat) (r : Rp K G v d) : Slots K G (σ.set i (some v)) (ss.set i (some d)) := by
  refine ⟨by rw [List.length_set, List.length_set]; exact h.1, fun j e q => ?_⟩
  by_cases hj : i = j
  · subst hj
    by_cases hl : i < ss.length
    · rw [List.getElem?_set_self hl] at q
      cases q
      exact ⟨v, by rw [List.getElem?_set_self (by rw [h.1]; exact hl)], r⟩
    · rw [List.getElem?_eq_none (by rw [List.length_set]; omega)] at q
      cases q
  · rw [List.getElem?_set_ne hj] at q
    rw [List.getElem?_set_ne hj]
    exact h.2 j e q
theorem Slots.start {K : Fg} {G : Hp} {N : List Str} {vs : List V} {ds : List Dt} (h : Rps K G vs ds) : Slots K G (start N vs) (ds.map some ++ List.replicate (N.length - ds.length) none) := by
  unfold L2.start
  refine ⟨by simp [h.length], fun i d q => ?_⟩
  rw [h.length]
  by_cases hi : i < ds.length
  · rw [List.getElem?_append_left (by simpa using hi), List.getElem?_map] at q
    cases e : ds[i]? with
    | none => rw [e] at q; cases q
    | some d' =>
      rw [e] at q
      cases q
      obtain ⟨v, a, b⟩ := h.get e
      exact ⟨v, by rw [List.getElem?_append_left (by simpa [h.length] using hi), List.getElem?_map, a]; rfl, b⟩
  · rw [List.getElem?_append_right (by simpa using hi)] at q
    rw [List.getElem?_replicate] at q
    split at q <;> cases q

structure Rep (K : Fg) (ss : SS) (os : Own) (σ : St) (G H : Hp) : Prop where
  gh : Ex G H
  sl : Slots K G σ ss
  ow : OwnOk K G H os
section
variable {K : Fg} {ss ss' : SS} {os os' : Own} {σ : St} {G H G' H' : Hp}
theorem OwnOk.grow (h : OwnOk K G H os) (q : Gq [] G H G' H') : OwnOk K G' H' os := ⟨h.nd, fun x m => by
  obtain ⟨a, b⟩ := h.at_ x m
  obtain ⟨o, e⟩ := b.some
  refine ⟨?_, b.mono q.ex ((q.exH _ _ e).trans e.symm)⟩
  cases g : G' x.1 with
  | none => rfl
  | some u =>
    rcases q.new _ _ g with z | z
    · rw [a] at z; cases z
    · rw [e] at z; cases z⟩
theorem Rep.grow (r : Rep K ss os σ G H) (q : Gq [] G H G' H') (e : Ex G' H') : Rep K ss os σ G' H' := ⟨e, r.sl.mono q.ex, r.ow.grow q⟩
end

/-! ### what evaluates to what -/
def Ev (K : Fg) (te : TE) (ss : SS) (os : Own) (d : Dt) : Prop := ∀ σ G H, Rep K ss os σ G H → ∀ Q : VK, (∀ v G' H', Gq [] G H G' H' → Ex G' H' → Rp K G' v d → Q v H') → te σ H Q
def EvT (K : Fg) (tt : TT) (ss : SS) (os : Own) (b : Bool) : Prop := ∀ σ G H, Rep K ss os σ G H → ∀ Q : Bool → Hp → Prop, (∀ G' H', Gq [] G H G' H' → Ex G' H' → Q b H') → tt σ H Q
def EvA (K : Fg) (ta : TA) (ss : SS) (os : Own) (ds : List Dt) : Prop := ∀ σ G H, Rep K ss os σ G H → ∀ Q : List V → Hp → Prop, (∀ vs G' H', Gq [] G H G' H' → Ex G' H' → Rps K G' vs ds → Q vs H') → ta σ H Q
def EvO (K : Fg) (to : TO) (ss : SS) (os : Own) (o : Option Int) : Prop := ∀ σ G H, Rep K ss os σ G H → ∀ Q : Option Int → Hp → Prop, (∀ G' H', Gq [] G H G' H' → Ex G' H' → Q o H') → to σ H Q
/-- an evaluation that may change one's own cells -/
def EvM (K : Fg) (te : TE) (ss : SS) (os : Own) (P : Dt → Own → Prop) : Prop := ∀ σ G H, Rep K ss os σ G H → ∀ Q : VK,
  (∀ d os' v G' H', P d os' → Gq (keys os) G H G' H' → Ex G' H' → OwnOk K G' H' os' → (∀ x ∈ os', H x.1 = none ∨ x.1 ∈ keys os) → Rp K G' v d → Q v H') → te σ H Q
/-- a list that may be read -/
inductive LV (os : Own) : Dt → List Dt → Prop
  | lst {ds : List Dt} : LV os (.lst ds) ds
  | own {p : Addr} {ds : List Dt} : (p, Cel.lst ds) ∈ os → LV os (.adr p) ds
  | scr {ns : List Int} : LV os (.scr ns) (ns.map Dt.int)
section
variable {K : Fg} {ss : SS} {os : Own} {σ : St} {G H : Hp}
theorem Rep.list (r : Rep K ss os σ G H) {v : V} {d : Dt} {ds : List Dt} (l : LV os d ds) (h : Rp K G v d) : ∃ a vs, v = .ref a ∧ SqL K H a vs ∧ Rps K G vs ds := by
  cases l with
  | lst =>
    cases h with
    | lst h1 h2 => exact ⟨_, _, rfl, .of (r.gh _ _ h1), h2⟩
  | own m =>
    cases h
    obtain ⟨_, vs, e, q⟩ := r.ow.at_ _ m
    exact ⟨_, vs, rfl, .of e, q⟩
  | scr =>
    cases h with
    | scr h1 => exact ⟨_, _, rfl, Evl.ex_l r.gh h1, .ints _⟩
end
/-- a new object that stays as it is -/
theorem gq_new {fp : List Addr} {G H : Hp} {p : Addr} {o : HO} (e : Ex G H) (n : H p = none) : Gq fp G H (upd G p o) (upd H p o) ∧ Ex (upd G p o) (upd H p o) := by
  have ng : G p = none := Evl.fresh_back e n
  refine ⟨⟨Ex.new ng, fun a u h => ?_, fun a u _ h => ?_, fun a h => ?_⟩, fun a u h => ?_⟩
  · by_cases ha : a = p
    · exact .inr (by rw [ha]; exact n)
    · rw [upd_ne ha] at h; exact .inl h
  · rw [upd_ne (ne_of_none h n)]; exact h
  · by_cases ha : a = p
    · rw [ha]; exact n
    · rw [upd_ne ha] at h; exact h
  · by_cases ha : a = p
    · subst ha; rw [upd_same] at h ⊢; exact h
    · rw [upd_ne ha] at h ⊢; exact e _ _ h
/-- a new object of one's own -/
theorem gq_own {fp : List Addr} {G H : Hp} {p : Addr} {o : HO} (e : Ex G H) (n : H p = none) : Gq fp G H G (upd H p o) ∧ Ex G (upd H p o) :=
  ⟨⟨Ex.refl G, fun a u h => .inl h, fun a u _ h => by rw [upd_ne (ne_of_none h n)]; exact h, fun a h => by
    by_cases ha : a = p
    · rw [ha]; exact n
    · rw [upd_ne ha] at h; exact h⟩, Ex.mut e (Evl.fresh_back e n)⟩

section
variable {K : Fg} {ss : SS} {os : Own} {ta tb te tx : TE} {t u : TT} {d x y z : Dt} {r : R2} {ds : List Dt}
theorem ev_var {i : Nat} (h : ss[i]? = some (some d)) : Ev K (tVar i) ss os d := fun σ G H R Q q => by
  obtain ⟨v, a, b⟩ := R.sl.2 i d h
  exact ⟨v, a, q v G H (Gq.refl G H) R.gh b⟩
theorem ev_cint {i : Int} : Ev K (tC (.int i)) ss os (.int i) := fun σ G H R Q q => q _ G H (Gq.refl G H) R.gh (.int i)
theorem ev_cbl {b : Bool} : Ev K (tC (.bl b)) ss os (.bl b) := fun σ G H R Q q => q _ G H (Gq.refl G H) R.gh (.bl b)
theorem ev_cstr {b : Str} : Ev K (tC (.str b)) ss os (.str b) := fun σ G H R Q q => q _ G H (Gq.refl G H) R.gh (.str b)
theorem ev_cnon : Ev K (tC .non) ss os .non := fun σ G H R Q q => q _ G H (Gq.refl G H) R.gh .non
/-- a two-place operation on values -/
def RV (K : Fg) (r : R2) (os : Own) (x y z : Dt) : Prop := ∀ ss σ G H, Rep K ss os σ G H → ∀ a b, Rp K G a x → Rp K G b y → ∀ Q : VK, (∀ v G' H', Gq [] G H G' H' → Ex G' H' → Rp K G' v z → Q v H') → r a b H Q
theorem ev_op (ha : Ev K ta ss os x) (hb : Ev K tb ss os y) (hr : RV K r os x y z) : Ev K (tOp r ta tb) ss os z := fun σ G H R Q q =>
  ha σ G H R _ fun a G1 H1 q1 e1 r1 => hb σ G1 H1 (R.grow q1 e1) _ fun b G2 H2 q2 e2 r2 =>
    hr ss σ G2 H2 ((R.grow q1 e1).grow q2 e2) a b (r1.mono q2.ex) r2 Q fun v G3 H3 q3 e3 r3 => q v G3 H3 ((q1.trans q2 (by simp)).trans q3 (by simp)) e3 r3
theorem rv_ii {g : Int → Int → Int} {i j : Int} : RV K (rI0 fun i j => .int (g i j)) os (.int i) (.int j) (.int (g i j)) := fun ss σ G H R a b ra rb Q q => by
  cases ra; cases rb
  exact ⟨i, j, rfl, rfl, q _ G H (Gq.refl G H) R.gh (.int _)⟩
theorem rv_ib {g : Int → Int → Bool} {i j : Int} : RV K (rI0 fun i j => .bl (g i j)) os (.int i) (.int j) (.bl (g i j)) := fun ss σ G H R a b ra rb Q q => by
  cases ra; cases rb
  exact ⟨i, j, rfl, rfl, q _ G H (Gq.refl G H) R.gh (.bl _)⟩
theorem rv_iC {C : Int → Int → Prop} {g : Int → Int → Int} {i j : Int} (hc : C i j) : RV K (rI C fun i j => .int (g i j)) os (.int i) (.int j) (.int (g i j)) := fun ss σ G H R a b ra rb Q q => by
  cases ra; cases rb
  exact ⟨i, j, rfl, rfl, hc, q _ G H (Gq.refl G H) R.gh (.int _)⟩
/-- the scalars -/
def ScV : Dt → V → Prop
  | .non, v => v = .non
  | .bl b, v => v = .bl b
  | .int i, v => v = .int i
  | .str x, v => v = .str x
  | _, _ => False
theorem ScV.rp {v : V} {G : Hp} (h : Rp K G v d) (s : ∃ w, ScV d w) : ScV d v := by
  cases h <;> first | rfl | (obtain ⟨_, q⟩ := s; cases q)
theorem rv_eq {a b : V} (ha : ScV x a) (hb : ScV y b) (h : scal a b = true) : RV K rEq os x y (.bl (decide (a = b))) := fun ss σ G H R u w ra rb Q q => by
  have e1 : u = a := by
    have := ScV.rp ra ⟨a, ha⟩
    cases x <;> simp only [ScV] at this ha <;> rw [this, ha]
  have e2 : w = b := by
    have := ScV.rp rb ⟨b, hb⟩
    cases y <;> simp only [ScV] at this hb <;> rw [this, hb]
  subst e1 e2
  exact ⟨h, q _ G H (Gq.refl G H) R.gh (.bl _)⟩
theorem rv_ne {a b : V} (ha : ScV x a) (hb : ScV y b) (h : scal a b = true) : RV K rNe os x y (.bl (!decide (a = b))) := fun ss σ G H R u w ra rb Q q => by
  have e1 : u = a := by
    have := ScV.rp ra ⟨a, ha⟩
    cases x <;> simp only [ScV] at this ha <;> rw [this, ha]
  have e2 : w = b := by
    have := ScV.rp rb ⟨b, hb⟩
    cases y <;> simp only [ScV] at this hb <;> rw [this, hb]
  subst e1 e2
  exact ⟨h, q _ G H (Gq.refl G H) R.gh (.bl _)⟩
end
end Cy

namespace Cy
open PySem L2
open Evl (Ex Ex.refl Ex.trans Ex.new Ex.mut)

/-! ### more on cells -/
section
variable {K : Fg} {ss : SS} {os os' : Own} {σ : St} {G H G' H' : Hp} {p : Addr}
theorem OwnOk.ne (h : OwnOk K G H os) (n : H p = none) : p ∉ keys os := fun m => by
  obtain ⟨x, hx, e⟩ := List.mem_map.mp m
  obtain ⟨_, b⟩ := h.at_ x hx
  obtain ⟨o, q⟩ := b.some
  rw [e, n] at q
  cases q
theorem OwnOk.add (h : OwnOk K G H os) {c : Cel} {o : HO} (hp : p ∉ keys os) (g : G p = none) (hc : CelOk K G (upd H p o) p c) : OwnOk K G (upd H p o) (os ++ [(p, c)]) := ⟨by
  rw [keys, List.map_append, List.nodup_append]
  exact ⟨h.nd, by simp, fun a ha b hb z => by
    have e : b = p := by simpa using hb
    rw [z, e] at ha
    exact hp ha⟩, fun x m => by
  rcases List.mem_append.mp m with m | m
  · obtain ⟨a, b⟩ := h.at_ x m
    have ne : x.1 ≠ p := fun z => hp (z ▸ List.mem_map_of_mem m)
    exact ⟨a, b.mono (Ex.refl _) (upd_ne ne)⟩
  · have e : x = (p, c) := by simpa using m
    subst e
    exact ⟨g, hc⟩⟩
/-- the cell at p is another one -/
def setC (os : Own) (p : Addr) (c : Cel) : Own := os.map fun x => if x.1 = p then (p, c) else x
theorem keys_setC {c : Cel} : keys (setC os p c) = keys os := by
  unfold keys setC
  rw [List.map_map]
  refine List.map_congr_left fun x _ => ?_
  show (if x.1 = p then (p, c) else x).1 = x.1
  split
  · rename_i h; exact h.symm
  · rfl
theorem OwnOk.put (h : OwnOk K G H os) {c : Cel} {o : HO} (hc : CelOk K G (upd H p o) p c) : OwnOk K G (upd H p o) (setC os p c) := ⟨by rw [keys_setC]; exact h.nd, fun x m => by
  obtain ⟨y, hy, e⟩ := List.mem_map.mp m
  obtain ⟨a, b⟩ := h.at_ y hy
  by_cases q : y.1 = p
  · rw [if_pos q] at e
    subst e
    exact ⟨by rw [← q]; exact a, hc⟩
  · rw [if_neg q] at e
    subst e
    exact ⟨a, b.mono (Ex.refl _) (upd_ne q)⟩⟩
theorem gq_put {fp : List Addr} {o u : HO} (e : Ex G H) (g : G p = none) (h : H p = some u) (m : p ∈ fp) : Gq fp G H G (upd H p o) ∧ Ex G (upd H p o) :=
  ⟨⟨Ex.refl G, fun a v q => .inl q, fun a v n q => by rw [upd_ne (fun z => n (by rw [z]; exact m))]; exact q, fun a q => by
    by_cases ha : a = p
    · subst ha; rw [upd_same] at q; cases q
    · rw [upd_ne ha] at q; exact q⟩, Ex.mut e g⟩
theorem mem_keys {x : Addr × Cel} (m : x ∈ os) : x.1 ∈ keys os := List.mem_map_of_mem m
end

/-! ### fresh lists -/
def EvF (K : Fg) (te : TE) (ss : SS) (os : Own) (ds : List Dt) : Prop := ∀ σ G H, Rep K ss os σ G H → ∀ Q : VK,
  (∀ p vs G' H', H p = none → Gq [] G H G' H' → Ex G' H' → G' p = none → H' p = some (.lst vs) → Rps K G' vs ds → Q (.ref p) H') → te σ H Q
theorem gq_frz {G H G' H' : Hp} {p : Addr} {o : HO} (n : H p = none) (q : Gq [] G H G' H') (e : Ex G' H') (g : G' p = none) (h : H' p = some o) : Gq [] G H (upd G' p o) H' ∧ Ex (upd G' p o) H' :=
  ⟨⟨q.ex.trans (Ex.new g), fun a u z => by
    by_cases ha : a = p
    · exact .inr (by rw [ha]; exact n)
    · rw [upd_ne ha] at z; exact q.new a u z, q.keep, q.dom⟩, fun a u z => by
    by_cases ha : a = p
    · subst ha; rw [upd_same] at z; rw [h]; exact z
    · rw [upd_ne ha] at z; exact e _ _ z⟩
section
variable {K : Fg} {ss : SS} {os : Own} {ta tb te tx : TE} {t u : TT} {d x y z : Dt} {r : R2} {ds : List Dt}
theorem ev_F (h : EvF K te ss os ds) : Ev K te ss os (.lst ds) := fun σ G H R Q q => h σ G H R Q fun p vs G1 H1 n q1 e1 g1 h1 r1 => by
  obtain ⟨q2, e2⟩ := gq_frz n q1 e1 g1 h1
  exact q _ _ _ q2 e2 (.lst upd_same (r1.mono (Ex.new g1)))
def MadeL (os : Own) (ds : List Dt) : Dt → Own → Prop := fun d os' => ∃ p, p ∉ keys os ∧ d = .adr p ∧ os' = os ++ [(p, .lst ds)]
theorem em_F (h : EvF K te ss os ds) : EvM K te ss os (MadeL os ds) := fun σ G H R Q q => h σ G H R Q fun p vs G1 H1 n q1 e1 g1 h1 r1 => by
  have np := R.ow.ne n
  have o1 : OwnOk K G1 H1 os := R.ow.grow q1
  refine q (.adr p) (os ++ [(p, .lst ds)]) _ G1 H1 ⟨p, np, rfl, rfl⟩ (q1.wk (by simp)) e1 ?_ ?_ (.adr p)
  · have hu : upd H1 p (.lst vs) = H1 := by
      funext a
      by_cases ha : a = p
      · subst ha; rw [upd_same, h1]
      · rw [upd_ne ha]
    have := o1.add (c := .lst ds) (o := .lst vs) np g1 ⟨vs, upd_same, r1⟩
    rw [hu] at this
    exact this
  · intro x m
    rcases List.mem_append.mp m with m | m
    · exact .inr (mem_keys m)
    · have e : x = (p, .lst ds) := by simpa using m
      subst e
      exact .inl n
theorem em_ev (h : Ev K te ss os d) : EvM K te ss os (fun d' os' => d' = d ∧ os' = os) := fun σ G H R Q q => h σ G H R Q fun v G1 H1 q1 e1 r1 =>
  q d os v G1 H1 ⟨rfl, rfl⟩ (q1.wk (by simp)) e1 (R.ow.grow q1) (fun x m => .inr (mem_keys m)) r1

/-! ### argument lists, displays -/
theorem ea_nil : EvA K tNil ss os [] := fun σ G H R Q q => q [] G H (Gq.refl G H) R.gh .nil
theorem ea_cons {tr : TA} (h : Ev K te ss os x) (hr : EvA K tr ss os ds) : EvA K (tCons te tr) ss os (x :: ds) := fun σ G H R Q q =>
  h σ G H R _ fun v G1 H1 q1 e1 r1 => hr σ G1 H1 (R.grow q1 e1) _ fun vs G2 H2 q2 e2 r2 => q (v :: vs) G2 H2 (q1.trans q2 (by simp)) e2 (.cons (r1.mono q2.ex) r2)
theorem sz (n : Nat) (h : n ≤ 1000000 := by decide) : n ≤ sizeLine := Nat.le_trans h (by decide)
theorem szl {n : Nat} (h : n < 1000000) : n < sizeLine := Nat.lt_of_lt_of_le h (by decide)
theorem ev_tup {ta : TA} (h : EvA K ta ss os ds) (hl : ds.length ≤ 1000000) : Ev K (tTup ta) ss os (.tup ds) := fun σ G H R Q q =>
  h σ G H R _ fun vs G1 H1 q1 e1 r1 => ⟨by rw [r1.length]; exact sz _ hl, fun p hp => by
    obtain ⟨q2, e2⟩ := gq_new (fp := []) (o := .tup vs) e1 hp
    exact q _ _ _ (q1.trans q2 (by simp)) e2 (.tup upd_same (r1.mono q2.ex))⟩
theorem ef_lst {ta : TA} (h : EvA K ta ss os ds) (hl : ds.length ≤ 1000000) : EvF K (tLst ta) ss os ds := fun σ G H R Q q =>
  h σ G H R _ fun vs G1 H1 q1 e1 r1 => ⟨by rw [r1.length]; exact sz _ hl, fun p hp => by
    obtain ⟨q2, e2⟩ := gq_own (fp := []) (o := .lst vs) e1 hp
    exact q p vs G1 _ (q1.dom p hp) (q1.trans q2 (by simp)) e2 (Evl.fresh_back e1 hp) upd_same r1⟩
theorem atI_rps {G : Hp} {vs : List V} {i : Int} (r : Rps K G vs ds) (h : atI ds i = some z) : ∃ v, atI vs i = some v ∧ Rp K G v z := by
  unfold atI at h ⊢
  rw [r.length]
  cases e : ixN ds.length i with
  | none => rw [e] at h; cases h
  | some j =>
    rw [e] at h
    exact r.get h
theorem at_of {α : Type} {xs : List α} {i : Int} {v : α} (h0 : 0 ≤ i) (h : xs[i.toNat]? = some v) : atI xs i = some v := by
  have := atI_nat h
  rw [Int.toNat_of_nonneg h0] at this
  exact this
theorem at_map {α : Type} {xs : List α} {f : α → Dt} {i : Int} {v : α} (h0 : 0 ≤ i) (h : xs[i.toNat]? = some v) : atI (xs.map f) i = some (f v) := at_of h0 (by rw [List.getElem?_map, h]; rfl)
theorem at_mapN {α : Type} {xs : List α} {f : α → Dt} {i : Nat} {v : α} (h : xs[i]? = some v) : atI (xs.map f) (i : Int) = some (f v) := at_map (by omega) (by simpa using h)
theorem rv_ixL {i : Int} (l : LV os x ds) (h : atI ds i = some z) : RV K (rIxL K) os x (.int i) z := fun ss σ G H R a b ra rb Q q => by
  obtain ⟨p, vs, rfl, hs, rs⟩ := R.list l ra
  cases rb
  obtain ⟨v, hv, rv⟩ := atI_rps rs h
  exact ⟨p, vs, i, v, rfl, rfl, hs, hv, q v G H (Gq.refl G H) R.gh rv⟩
theorem rv_ixT {i : Int} (h : atI ds i = some z) : RV K (rIxT K) os (.tup ds) (.int i) z := fun ss σ G H R a b ra rb Q q => by
  cases ra with
  | tup h1 h2 =>
    cases rb
    obtain ⟨v, hv, rv⟩ := atI_rps h2 h
    exact ⟨_, _, i, v, rfl, rfl, .of (R.gh _ _ h1), hv, q v G H (Gq.refl G H) R.gh rv⟩
theorem ev_ixL {i : Int} (ha : Ev K ta ss os x) (l : LV os x ds) (hb : Ev K tb ss os (.int i)) (h : atI ds i = some z) : Ev K (tOp (rIxL K) ta tb) ss os z := ev_op ha hb (rv_ixL l h)
theorem ev_ixT {i : Int} (ha : Ev K ta ss os (.tup ds)) (hb : Ev K tb ss os (.int i)) (h : atI ds i = some z) : Ev K (tOp (rIxT K) ta tb) ss os z := ev_op ha hb (rv_ixT h)
theorem ev_ii {g : Int → Int → Int} {i j : Int} (ha : Ev K ta ss os (.int i)) (hb : Ev K tb ss os (.int j)) : Ev K (tOp (rI0 fun i j => .int (g i j)) ta tb) ss os (.int (g i j)) := ev_op ha hb rv_ii
theorem ev_ib {g : Int → Int → Bool} {i j : Int} (ha : Ev K ta ss os (.int i)) (hb : Ev K tb ss os (.int j)) : Ev K (tOp (rI0 fun i j => .bl (g i j)) ta tb) ss os (.bl (g i j)) := ev_op ha hb rv_ib
theorem ev_iC {C : Int → Int → Prop} {g : Int → Int → Int} {i j : Int} (ha : Ev K ta ss os (.int i)) (hb : Ev K tb ss os (.int j)) (hc : C i j) : Ev K (tOp (rI C fun i j => .int (g i j)) ta tb) ss os (.int (g i j)) := ev_op ha hb (rv_iC hc)
theorem ev_eqI {i j : Int} (ha : Ev K ta ss os (.int i)) (hb : Ev K tb ss os (.int j)) : Ev K (tOp rEq ta tb) ss os (.bl (decide (i = j))) := by
  have := ev_op ha hb (rv_eq (K := K) (os := os) (x := .int i) (y := .int j) (a := .int i) (b := .int j) rfl rfl rfl)
  have e : decide (V.int i = V.int j) = decide (i = j) := by
    by_cases h : i = j
    · subst h; simp
    · simp [h]
  rw [e] at this
  exact this
theorem ev_neI {i j : Int} (ha : Ev K ta ss os (.int i)) (hb : Ev K tb ss os (.int j)) : Ev K (tOp rNe ta tb) ss os (.bl (!decide (i = j))) := by
  have := ev_op ha hb (rv_ne (K := K) (os := os) (x := .int i) (y := .int j) (a := .int i) (b := .int j) rfl rfl rfl)
  have e : decide (V.int i = V.int j) = decide (i = j) := by
    by_cases h : i = j
    · subst h; simp
    · simp [h]
  rw [e] at this
  exact this
theorem ev_eqS {i j : Str} (ha : Ev K ta ss os (.str i)) (hb : Ev K tb ss os (.str j)) : Ev K (tOp rEq ta tb) ss os (.bl (decide (i = j))) := by
  have := ev_op ha hb (rv_eq (K := K) (os := os) (x := .str i) (y := .str j) (a := .str i) (b := .str j) rfl rfl rfl)
  have e : decide (V.str i = V.str j) = decide (i = j) := by
    by_cases h : i = j
    · subst h; simp
    · simp [h]
  rw [e] at this
  exact this
theorem ev_neS {i j : Str} (ha : Ev K ta ss os (.str i)) (hb : Ev K tb ss os (.str j)) : Ev K (tOp rNe ta tb) ss os (.bl (!decide (i = j))) := by
  have := ev_op ha hb (rv_ne (K := K) (os := os) (x := .str i) (y := .str j) (a := .str i) (b := .str j) rfl rfl rfl)
  have e : decide (V.str i = V.str j) = decide (i = j) := by
    by_cases h : i = j
    · subst h; simp
    · simp [h]
  rw [e] at this
  exact this
theorem ev_is {d' : Dt} (h : Ev K te ss os d) (e : d = d') : Ev K te ss os d' := e ▸ h
theorem et_is {b b' : Bool} (h : EvT K t ss os b) (e : b = b') : EvT K t ss os b' := e ▸ h
/-! ### tests -/
theorem et_B {b : Bool} (h : Ev K te ss os (.bl b)) : EvT K (tB te) ss os b := fun σ G H R Q q => h σ G H R _ fun v G1 H1 q1 e1 r1 => by
  cases r1
  exact ⟨b, rfl, q G1 H1 q1 e1⟩
theorem et_T {b : Bool} (h : Ev K te ss os (.bl b)) : EvT K (tTest te) ss os b := fun σ G H R Q q => h σ G H R _ fun v G1 H1 q1 e1 r1 => by
  cases r1
  exact ⟨b, rfl, q G1 H1 q1 e1⟩
theorem et_and {a b : Bool} (h1 : EvT K t ss os a) (h2 : a = true → EvT K u ss os b) : EvT K (tAnd t u) ss os (a && b) := fun σ G H R Q q => h1 σ G H R _ fun G1 H1 q1 e1 => by
  cases a with
  | true => exact h2 rfl σ G1 H1 (R.grow q1 e1) Q fun G2 H2 q2 e2 => q G2 H2 (q1.trans q2 (by simp)) e2
  | false => exact q G1 H1 q1 e1
theorem et_or {a b : Bool} (h1 : EvT K t ss os a) (h2 : a = false → EvT K u ss os b) : EvT K (tOr t u) ss os (a || b) := fun σ G H R Q q => h1 σ G H R _ fun G1 H1 q1 e1 => by
  cases a with
  | false => exact h2 rfl σ G1 H1 (R.grow q1 e1) Q fun G2 H2 q2 e2 => q G2 H2 (q1.trans q2 (by simp)) e2
  | true => exact q G1 H1 q1 e1
theorem et_not {a : Bool} (h1 : EvT K t ss os a) : EvT K (tNot t) ss os (!a) := fun σ G H R Q q => h1 σ G H R _ q
theorem et_yes : EvT K tYes ss os true := fun σ G H R Q q => q G H (Gq.refl G H) R.gh
theorem ev_andV {a b : Bool} (h1 : Ev K ta ss os (.bl a)) (h2 : a = true → Ev K tb ss os (.bl b)) : Ev K (tAndV ta tb) ss os (.bl (a && b)) := fun σ G H R Q q => h1 σ G H R _ fun v G1 H1 q1 e1 r1 => by
  cases r1
  refine ⟨a, rfl, ?_⟩
  cases a with
  | true => exact h2 rfl σ G1 H1 (R.grow q1 e1) Q fun v G2 H2 q2 e2 => q v G2 H2 (q1.trans q2 (by simp)) e2
  | false => exact q _ G1 H1 q1 e1 (.bl _)
theorem ev_orV {a b : Bool} (h1 : Ev K ta ss os (.bl a)) (h2 : a = false → Ev K tb ss os (.bl b)) : Ev K (tOrV ta tb) ss os (.bl (a || b)) := fun σ G H R Q q => h1 σ G H R _ fun v G1 H1 q1 e1 r1 => by
  cases r1
  refine ⟨a, rfl, ?_⟩
  cases a with
  | false => exact h2 rfl σ G1 H1 (R.grow q1 e1) Q fun v G2 H2 q2 e2 => q v G2 H2 (q1.trans q2 (by simp)) e2
  | true => exact q _ G1 H1 q1 e1 (.bl _)
theorem ev_notV {a : Bool} (h1 : Ev K ta ss os (.bl a)) : Ev K (tNotV ta) ss os (.bl (!a)) := fun σ G H R Q q => h1 σ G H R _ fun v G1 H1 q1 e1 r1 => by
  cases r1
  exact ⟨a, rfl, q _ G1 H1 q1 e1 (.bl _)⟩
theorem ev_if {b : Bool} (h : EvT K t ss os b) (h1 : b = true → Ev K ta ss os d) (h2 : b = false → Ev K tb ss os d) : Ev K (tIf t ta tb) ss os d := fun σ G H R Q q => h σ G H R _ fun G1 H1 q1 e1 => by
  cases b with
  | true => exact h1 rfl σ G1 H1 (R.grow q1 e1) Q fun v G2 H2 q2 e2 => q v G2 H2 (q1.trans q2 (by simp)) e2
  | false => exact h2 rfl σ G1 H1 (R.grow q1 e1) Q fun v G2 H2 q2 e2 => q v G2 H2 (q1.trans q2 (by simp)) e2
def isNon : Dt → Bool
  | .non => true
  | _ => false
theorem non_iff {G : Hp} {v : V} (h : Rp K G v d) : decide (v = V.non) = isNon d := by
  cases h <;> simp [isNon]
theorem ev_isN (h : Ev K ta ss os d) : Ev K (tIsN ta) ss os (.bl (isNon d)) := fun σ G H R Q q => h σ G H R _ fun v G1 H1 q1 e1 r1 => by
  rw [non_iff r1]; exact q _ G1 H1 q1 e1 (.bl _)
theorem ev_notN (h : Ev K ta ss os d) : Ev K (tNotN ta) ss os (.bl (!isNon d)) := fun σ G H R Q q => h σ G H R _ fun v G1 H1 q1 e1 r1 => by
  rw [non_iff r1]; exact q _ G1 H1 q1 e1 (.bl _)
/-! ### fields -/
theorem lookup_zip {f : Str} {i : Nat} : ∀ {ns : List Str} {vs : List V} {v : V}, ns.idxOf f = i → ns[i]? = some f → vs[i]? = some v → (ns.zip vs).lookup f = some v
  | [], _, _, _, h, _ => by simp at h
  | n :: r, [], _, _, _, h => by simp at h
  | n :: r, w :: s, v, hi, hn, hv => by
    by_cases e : n = f
    · subst e
      have : i = 0 := by rw [← hi]; simp
      subst this
      simp at hv
      subst hv
      show (match n == n with | true => some w | false => (r.zip s).lookup n) = some w
      simp
    · have h2 : i = r.idxOf f + 1 := by
        rw [← hi, List.idxOf_cons]
        have e' : (n == f) = false := by simpa using e
        rw [e']
        rfl
      subst h2
      have e' : (f == n) = false := by simpa using fun z => e z.symm
      show (match f == n with | true => some w | false => (r.zip s).lookup f) = some v
      rw [e']
      exact lookup_zip rfl (by simpa using hn) (by simpa using hv)
/-- an instance that may be read -/
inductive IV (os : Own) : Dt → Addr → List Str → List Dt → Prop
  | ins {C : Addr} {ns : List Str} {ds : List Dt} : IV os (.ins C ns ds) C ns ds
  | own {p C : Addr} {ns : List Str} {ds : List Dt} : (p, Cel.ins C ns ds) ∈ os → IV os (.adr p) C ns ds
theorem Rep.ins {σ : St} {G H : Hp} {C : Addr} {ns : List Str} (r : Rep K ss os σ G H) {v : V} (l : IV os d C ns ds) (h : Rp K G v d) : ∃ a dx vs, v = .ref a ∧ H a = some (.ins C dx (ns.zip vs)) ∧ Rps K G vs ds := by
  cases l with
  | ins =>
    cases h with
    | ins h1 h2 => exact ⟨_, _, _, rfl, r.gh _ _ h1, h2⟩
  | own m =>
    cases h
    obtain ⟨_, dx, vs, _, e, q⟩ := r.ow.at_ _ m
    exact ⟨_, dx, vs, rfl, e, q⟩
theorem ev_fldI {C : Addr} {ns : List Str} {f : Str} {i : Nat} (c : Cls K C) (na : NoAttr K C f) (ha : Ev K ta ss os x) (l : IV os x C ns ds) (h1 : ns.idxOf f = i) (h2 : ns[i]? = some f) (h3 : ds[i]? = some d) : Ev K (tFld K ta f) ss os d := fun σ G H R Q q =>
  ha σ G H R _ fun v G1 H1 q1 e1 r1 => by
    obtain ⟨a, dx, vs, rfl, g, rs⟩ := (R.grow q1 e1).ins l r1
    obtain ⟨v, hv, rv⟩ := rs.get h3
    exact ⟨_, C, _, _, v, rfl, g, c, na, lookup_zip h1 h2 hv, q v G1 H1 q1 e1 rv⟩
theorem ev_fld {C : Addr} {ns : List Str} {f : Str} {i : Nat} (c : Cls K C) (na : NoAttr K C f) (ha : Ev K ta ss os (.ins C ns ds)) (h1 : ns.idxOf f = i) (h2 : ns[i]? = some f) (h3 : ds[i]? = some d) : Ev K (tFld K ta f) ss os d := fun σ G H R Q q =>
  ha σ G H R _ fun v G1 H1 q1 e1 r1 => by
    cases r1 with
    | ins g rs =>
      obtain ⟨v, hv, rv⟩ := rs.get h3
      exact ⟨_, C, _, _, v, rfl, e1 _ _ g, c, na, lookup_zip h1 h2 hv, q v G1 H1 q1 e1 rv⟩
/-! ### slices -/
def cutD (ds : List Dt) (lo hi : Option Int) : List Dt := (ds.drop (HT.sIx ds.length 0 lo)).take (HT.sIx ds.length ds.length hi - HT.sIx ds.length 0 lo)
theorem eo_none : EvO K tNoPart ss os none := fun σ G H R Q q => q G H (Gq.refl G H) R.gh
theorem eo_some {i : Int} (h : Ev K te ss os (.int i)) : EvO K (tPart te) ss os (some i) := fun σ G H R Q q => h σ G H R _ fun v G1 H1 q1 e1 r1 => by
  cases r1
  exact ⟨i, rfl, q G1 H1 q1 e1⟩
theorem ef_sl {tl th : TO} {lo hi : Option Int} (h : Ev K te ss os x) (l : LV os x ds) (h1 : EvO K tl ss os lo) (h2 : EvO K th ss os hi) : EvF K (tSl (rSlL K) te tl th) ss os (cutD ds lo hi) := fun σ G H R Q q =>
  h σ G H R _ fun v G1 H1 q1 e1 r1 => h1 σ G1 H1 (R.grow q1 e1) _ fun G2 H2 q2 e2 => h2 σ G2 H2 ((R.grow q1 e1).grow q2 e2) _ fun G3 H3 q3 e3 => by
    have R3 := ((R.grow q1 e1).grow q2 e2).grow q3 e3
    obtain ⟨a, vs, rfl, hs, rs⟩ := R3.list l ((r1.mono q2.ex).mono q3.ex)
    refine ⟨a, vs, rfl, hs, fun p hp => ?_⟩
    obtain ⟨q4, e4⟩ := gq_own (fp := []) (o := .lst (cutV vs lo hi)) e3 hp
    have q13 := (q1.trans q2 (by simp)).trans q3 (by simp)
    refine q p (cutV vs lo hi) G3 _ (q13.dom p hp) (q13.trans q4 (by simp)) e4 (Evl.fresh_back e3 hp) upd_same ?_
    unfold cutV cutD
    rw [rs.length]
    exact (rs.drop _).take _
theorem cutD_to (i : Int) (h : 0 ≤ i) : cutD ds none (some i) = ds.take i.toNat := by
  unfold cutD
  obtain ⟨n, rfl⟩ : ∃ n : Nat, i = n := ⟨i.toNat, by omega⟩
  rw [HT.sIx_none, HT.sIx_nat]
  simp only [List.drop_zero, Nat.sub_zero, Int.toNat_natCast]
  by_cases h : n ≤ ds.length
  · rw [Nat.min_eq_left h]
  · rw [Nat.min_eq_right (by omega), List.take_of_length_le (Nat.le_refl _), List.take_of_length_le (by omega)]
/-! ### built-ins -/
theorem ev_len (ha : Ev K ta ss os x) (l : LV os x ds) : Ev K (tCB (Evl.rLenS K) (tCons ta tNil)) ss os (.int (ds.length : Int)) := fun σ G H R Q q => ha σ G H R _ fun v G1 H1 q1 e1 r1 => by
  obtain ⟨a, vs, rfl, hs, rs⟩ := (R.grow q1 e1).list l r1
  refine ⟨a, vs, rfl, .inl hs, ?_⟩
  rw [rs.length]
  exact q _ G1 H1 q1 e1 (.int _)
theorem ev_lenT (ha : Ev K ta ss os (.tup ds)) : Ev K (tCB (Evl.rLenS K) (tCons ta tNil)) ss os (.int (ds.length : Int)) := fun σ G H R Q q => ha σ G H R _ fun v G1 H1 q1 e1 r1 => by
  cases r1 with
  | tup h1 rs =>
    refine ⟨_, _, rfl, .inr (.of (e1 _ _ h1)), ?_⟩
    rw [rs.length]
    exact q _ G1 H1 q1 e1 (.int _)
theorem ef_list (ha : Ev K ta ss os x) (l : LV os x ds) : EvF K (tCB (Evl.rListS K) (tCons ta tNil)) ss os ds := fun σ G H R Q q => ha σ G H R _ fun v G1 H1 q1 e1 r1 => by
  obtain ⟨a, vs, rfl, hs, rs⟩ := (R.grow q1 e1).list l r1
  refine ⟨a, vs, rfl, .inl hs, fun p hp => ?_⟩
  obtain ⟨q4, e4⟩ := gq_own (fp := []) (o := .lst vs) e1 hp
  exact q p vs G1 _ (q1.dom p hp) (q1.trans q4 (by simp)) e4 (Evl.fresh_back e1 hp) upd_same rs
theorem ev_sum {ns : List Int} (ha : Ev K ta ss os x) (l : LV os x (ns.map Dt.int)) : Ev K (tCB (rSum K) (tCons ta tNil)) ss os (.int ns.sum) := fun σ G H R Q q => ha σ G H R _ fun v G1 H1 q1 e1 r1 => by
  obtain ⟨a, vs, rfl, hs, rs⟩ := (R.grow q1 e1).list l r1
  have e := rs.to_ints
  subst e
  exact ⟨a, ns, rfl, hs, q _ G1 H1 q1 e1 (.int _)⟩
def rMin2 : List V → Hp → VK → Prop := fun xs H Q => ∃ i j, xs = [.int i, .int j] ∧ Q (.int (if j < i then j else i)) H
theorem ite_min (i j : Int) : (if j < i then j else i) = min i j := by
  rw [Int.min_def]; split <;> split <;> omega
theorem ite_max (i j : Int) : (if j > i then j else i) = max i j := by
  rw [Int.max_def]; split <;> split <;> omega
theorem ev_min2 {i j : Int} (ha : Ev K ta ss os (.int i)) (hb : Ev K tb ss os (.int j)) : Ev K (tCB rMin2 (tCons ta (tCons tb tNil))) ss os (.int (min i j)) := fun σ G H R Q q => ha σ G H R _ fun v G1 H1 q1 e1 r1 => hb σ G1 H1 (R.grow q1 e1) _ fun w G2 H2 q2 e2 r2 => by
  cases r1; cases r2
  refine ⟨i, j, rfl, ?_⟩
  rw [ite_min]
  exact q _ G2 H2 (q1.trans q2 (by simp)) e2 (.int _)
theorem ev_max2 {i j : Int} (ha : Ev K ta ss os (.int i)) (hb : Ev K tb ss os (.int j)) : Ev K (tCB Evl.rMax2 (tCons ta (tCons tb tNil))) ss os (.int (max i j)) := fun σ G H R Q q => ha σ G H R _ fun v G1 H1 q1 e1 r1 => hb σ G1 H1 (R.grow q1 e1) _ fun w G2 H2 q2 e2 r2 => by
  cases r1; cases r2
  refine ⟨i, j, rfl, ?_⟩
  rw [ite_max]
  exact q _ G2 H2 (q1.trans q2 (by simp)) e2 (.int _)
end

/-! ### contracts -/
inductive Res where
  | ok (d : Dt)
  | er (C : Addr)
abbrev Ct := List Dt → Own → (Res → Own → Prop) → Prop
/-- a promise over data: n arguments; the outcome is one of P's -/
def spC (K : Fg) (n : Nat) (c : Ct) : Sp := fun vs H Q E => vs.length = n ∧ ∃ ds os P G, Ex G H ∧ Rps K G vs ds ∧ OwnOk K G H os ∧ c ds os P ∧
  ∀ r os' G' H', P r os' → Gq (keys os) G H G' H' → Ex G' H' → OwnOk K G' H' os' → (∀ x ∈ os', H x.1 = none ∨ x.1 ∈ keys os) →
    match r with
    | .ok d => ∀ v, Rp K G' v d → Q v H'
    | .er C => E (.ref C) none H'
/-- nothing of the caller's own is handed in -/
def pureC {α : Type} (pre : α → Prop) (args : α → List Dt) (res : α → Res) : Ct := fun ds os P => ∃ x, pre x ∧ ds = args x ∧ os = [] ∧ P = fun r os' => r = res x ∧ os' = []
section
variable {K : Fg} {ss : SS} {os : Own} {ta : TA} {ds : List Dt} {d : Dt} {E : XK} {n : Nat} {c : Ct}
theorem ownOk_nil {G H : Hp} : OwnOk K G H [] := ⟨by simp, fun _ m => by simp at m⟩
theorem ev_callC (ha : EvA K ta ss os ds) (hn : ds.length = n) (hc : c ds [] (fun r os' => r = .ok d ∧ os' = [])) : Ev K (tCall (spC K n c) [] E ta) ss os d := fun σ G H R Q q => ha σ G H R _ fun vs G1 H1 q1 e1 r1 => by
  refine ⟨by rw [List.append_nil, r1.length, hn], ds, [], _, G1, e1, by rw [List.append_nil]; exact r1, ownOk_nil, hc, ?_⟩
  rintro r os' G2 H2 ⟨rfl, rfl⟩ q2 e2 _ _ v rv
  exact q v G2 H2 (q1.trans q2 (by simp)) e2 rv
theorem ev_call {α : Type} {pre : α → Prop} {args : α → List Dt} {res : α → Res} (x : α) (ha : EvA K ta ss os (args x)) (hn : (args x).length = n) (hp : pre x) (hr : res x = .ok d) : Ev K (tCall (spC K n (pureC pre args res)) [] E ta) ss os d :=
  ev_callC ha hn ⟨x, hp, rfl, rfl, by rw [hr]⟩
end
end Cy

namespace Cy
open PySem L2
open Evl (Ex Ex.refl Ex.trans Ex.new Ex.mut)

section
variable {K : Fg} {ss : SS} {os osp osr : Own} {ta : TA} {tx : TE} {ds : List Dt} {d x : Dt} {E : XK} {n : Nat} {c : Ct} {G H G' H' : Hp}
theorem OwnOk.perm (h : OwnOk K G H os) (p : os.Perm osp) : OwnOk K G H osp := ⟨(p.map (·.1)).nodup_iff.mp h.nd, fun x m => h.at_ x (p.mem_iff.mpr m)⟩
theorem OwnOk.left (h : OwnOk K G H (osp ++ osr)) : OwnOk K G H osp := ⟨by
  have := h.nd
  rw [keys, List.map_append] at this
  exact (List.nodup_append.mp this).1, fun x m => h.at_ x (List.mem_append_left _ m)⟩
theorem OwnOk.sub (h : OwnOk K G H (osp ++ osr)) : OwnOk K G H osr := ⟨by
  have := h.nd
  rw [keys, List.map_append] at this
  exact (List.nodup_append.mp this).2.1, fun x m => h.at_ x (List.mem_append_right _ m)⟩
/-- behind a call that was given osp -/
theorem OwnOk.back (h : OwnOk K G H (osp ++ osr)) (q : Gq (keys osp) G H G' H') {os1 : Own} (h1 : OwnOk K G' H' os1) (hn : ∀ x ∈ os1, H x.1 = none ∨ x.1 ∈ keys osp) : OwnOk K G' H' (os1 ++ osr) := by
  have nd := h.nd
  rw [keys, List.map_append] at nd
  obtain ⟨_, n2, n3⟩ := List.nodup_append.mp nd
  have hr : ∀ x ∈ osr, (∃ o, H x.1 = some o) ∧ x.1 ∉ keys osp := fun x m => ⟨(h.at_ x (List.mem_append_right _ m)).2.some, fun z => n3 _ z _ (mem_keys m) rfl⟩
  refine ⟨?_, fun x m => ?_⟩
  · rw [keys, List.map_append]
    refine List.nodup_append.mpr ⟨h1.nd, n2, fun a ha b hb z => ?_⟩
    obtain ⟨x, hx, ex⟩ := List.mem_map.mp ha
    obtain ⟨y, hy, ey⟩ := List.mem_map.mp hb
    obtain ⟨⟨o, e1⟩, e2⟩ := hr y hy
    rcases hn x hx with q1 | q1
    · rw [ex, z, ← ey, e1] at q1; cases q1
    · rw [ex, z, ← ey] at q1; exact e2 q1
  · rcases List.mem_append.mp m with m | m
    · exact h1.at_ x m
    · obtain ⟨⟨o, e1⟩, e2⟩ := hr x m
      obtain ⟨a, b⟩ := h.at_ x (List.mem_append_right _ m)
      refine ⟨?_, b.mono q.ex ((q.keep _ _ e2 e1).trans e1.symm)⟩
      cases g : G' x.1 with
      | none => rfl
      | some u =>
        rcases q.new _ _ g with z | z
        · rw [a] at z; cases z
        · rw [e1] at z; cases z
theorem keys_sub (hp : os.Perm (osp ++ osr)) : ∀ p ∈ keys osp, p ∈ keys os := fun p m => by
  obtain ⟨x, hx, e⟩ := List.mem_map.mp m
  exact List.mem_map.mpr ⟨x, hp.mem_iff.mpr (List.mem_append_left _ hx), e⟩
theorem new_back (hp : os.Perm (osp ++ osr)) {os1 : Own} (hn : ∀ x ∈ os1, H x.1 = none ∨ x.1 ∈ keys osp) : ∀ x ∈ os1 ++ osr, H x.1 = none ∨ x.1 ∈ keys os := fun x m => by
  rcases List.mem_append.mp m with m | m
  · rcases hn x m with q | q
    · exact .inl q
    · exact .inr (keys_sub hp _ q)
  · exact .inr (mem_keys (hp.mem_iff.mpr (List.mem_append_right _ m)))
/-- what a call leaves -/
def CallP (P : Res → Own → Prop) (osr : Own) : Dt → Own → Prop := fun d os' => ∃ os1, P (.ok d) os1 ∧ os' = os1 ++ osr
theorem em_call {P : Res → Own → Prop} (ha : EvA K ta ss os ds) (hn : ds.length = n) (hp : os.Perm (osp ++ osr)) (hc : c ds osp P) (hE : ∀ C os', P (.er C) os' → False) : EvM K (tCall (spC K n c) [] E ta) ss os (CallP P osr) := fun σ G H R Q q => ha σ G H R _ fun vs G1 H1 q1 e1 r1 => by
  have ow1 := (R.ow.grow q1).perm hp
  refine ⟨by rw [List.append_nil, r1.length, hn], ds, osp, P, G1, e1, by rw [List.append_nil]; exact r1, ow1.left, hc, ?_⟩
  intro r os1 G2 H2 hP q2 e2 o2 n2
  cases r with
  | er C => exact (hE C os1 hP).elim
  | ok d =>
    intro v rv
    exact q d _ v G2 H2 ⟨os1, hP, rfl⟩ ((q1.wk (by simp)).trans q2 fun p m => .inl (keys_sub hp p m)) e2 (ow1.back q2 o2 n2) (fun x m => (new_back hp n2 x m).imp (q1.dom _) id) rv
theorem look_no {m : Str} : ∀ {ns : List Str} {vs : List V}, ¬ m ∈ ns → (ns.zip vs).lookup m = none
  | [], _, _ => rfl
  | n :: r, [], _ => rfl
  | n :: r, v :: s, h => by
    have e' : (m == n) = false := by simpa using fun z : m = n => h (by simp [z])
    show (match m == n with | true => some v | false => (r.zip s).lookup m) = none
    rw [e']
    exact look_no fun z => h (List.mem_cons_of_mem _ z)
theorem em_meth {P : Res → Own → Prop} {C : Addr} {m : Str} {ns : List Str} {fs : List Dt} (hx : Ev K tx ss os x) (l : IV os x C ns fs) (hm : ¬ m ∈ ns) (ha : EvA K ta ss os ds) (hn : ds.length + 1 = n) (hp : os.Perm (osp ++ osr)) (hc : c (x :: ds) osp P) (hE : ∀ C os', P (.er C) os' → False) :
    EvM K (tMeth C m (spC K n c) [] E tx ta) ss os (CallP P osr) := fun σ G H R Q q => hx σ G H R _ fun xv G1 H1 q1 e1 r1 => by
  obtain ⟨a, dx, vs0, rfl, g, rs⟩ := (R.grow q1 e1).ins l r1
  refine ⟨a, dx, _, rfl, g, look_no hm, ha σ G1 H1 (R.grow q1 e1) _ fun vs G2 H2 q2 e2 r2 => ?_⟩
  have q12 := q1.trans q2 (by simp)
  have ow1 := ((R.ow.grow q1).grow q2).perm hp
  refine ⟨by rw [List.append_nil, List.length_cons, r2.length, hn], x :: ds, osp, P, G2, e2, by rw [List.append_nil]; exact .cons (r1.mono q2.ex) r2, ow1.left, hc, ?_⟩
  intro r os1 G3 H3 hP q3 e3 o3 n3
  cases r with
  | er C => exact (hE C os1 hP).elim
  | ok d =>
    intro v rv
    exact q d _ v G3 H3 ⟨os1, hP, rfl⟩ ((q12.wk (by simp)).trans q3 fun p m => .inl (keys_sub hp p m)) e3 (ow1.back q3 o3 n3) (fun x m => (new_back hp n3 x m).imp (q12.dom _) id) rv
/-- a call whose outcome is one value, nothing of one's own handed in -/
theorem ev_methC {C : Addr} {m : Str} {ns : List Str} {fs : List Dt} (hx : Ev K tx ss os x) (l : IV os x C ns fs) (hm : ¬ m ∈ ns) (ha : EvA K ta ss os ds) (hn : ds.length + 1 = n) (hc : c (x :: ds) [] (fun r os' => r = .ok d ∧ os' = [])) :
    Ev K (tMeth C m (spC K n c) [] E tx ta) ss os d := fun σ G H R Q q => hx σ G H R _ fun xv G1 H1 q1 e1 r1 => by
  obtain ⟨a, dx, vs0, rfl, g, rs⟩ := (R.grow q1 e1).ins l r1
  refine ⟨a, dx, _, rfl, g, look_no hm, ha σ G1 H1 (R.grow q1 e1) _ fun vs G2 H2 q2 e2 r2 => ?_⟩
  have q12 := q1.trans q2 (by simp)
  refine ⟨by rw [List.append_nil, List.length_cons, r2.length, hn], x :: ds, [], _, G2, e2, by rw [List.append_nil]; exact .cons (r1.mono q2.ex) r2, ownOk_nil, hc, ?_⟩
  rintro r os' G3 H3 ⟨rfl, rfl⟩ q3 e3 _ _ v rv
  exact q v G3 H3 (q12.trans q3 (by simp)) e3 rv
theorem ev_meth {α : Type} {pre : α → Prop} {args : α → List Dt} {res : α → Res} {C : Addr} {m : Str} {ns : List Str} {fs : List Dt} (y : α) (hx : Ev K tx ss os x) (l : IV os x C ns fs) (hm : ¬ m ∈ ns) (ha : EvA K ta ss os ds) (hy : args y = x :: ds) (hn : ds.length + 1 = n) (hp : pre y) (hr : res y = .ok d) :
    Ev K (tMeth C m (spC K n (pureC pre args res)) [] E tx ta) ss os d := ev_methC hx l hm ha hn ⟨y, hp, hy.symm, rfl, by rw [hr]⟩
/-- C(..) -/
theorem em_make {P : Addr → Res → Own → Prop} {C : Addr} (ha : EvA K ta ss os ds) (hn : ds.length + 1 = n) (hc : ∀ p, c (.adr p :: ds) [(p, .ins C [] [])] (P p)) (hE : ∀ p C os', P p (.er C) os' → False) (hN : ∀ p d os', P p (.ok d) os' → d = .non) :
    EvM K (tMake C (spC K n c) [] E ta) ss os (fun d os' => ∃ p os1, d = .adr p ∧ p ∉ keys os ∧ P p (.ok .non) os1 ∧ os' = os1 ++ os) := fun σ G H R Q q => ha σ G H R _ fun vs G1 H1 q1 e1 r1 => by
  intro x dx nx nd ne
  have R1 := R.grow q1 e1
  have ow1 := R1.ow
  obtain ⟨q2, e2⟩ := gq_own (fp := []) (o := .own x) e1 nd
  have nx2 : (upd H1 dx (.own x)) x = none := by rw [upd_ne ne.symm]; exact nx
  obtain ⟨q3, e3⟩ := gq_own (fp := []) (o := .ins C dx []) e2 nx2
  have ow3 : OwnOk K G1 _ os := ow1.grow (q2.trans q3 (by simp))
  have gx : G1 x = none := Evl.fresh_back e1 nx
  have np : x ∉ keys os := ow1.ne nx
  refine ⟨by rw [List.append_nil, List.length_cons, r1.length, hn], .adr x :: ds, [(x, .ins C [] [])], P x, G1, e3, by rw [List.append_nil]; exact .cons (.adr x) r1, ⟨by simp, fun y m => ?_⟩, hc x, ?_⟩
  · have e : y = (x, .ins C [] []) := by simpa using m
    subst e
    exact ⟨gx, dx, [], rfl, upd_same, .nil⟩
  · intro r os1 G4 H4 hP q4 e4 o4 n4
    cases r with
    | er C => exact (hE x C os1 hP).elim
    | ok d =>
      have ed := hN x d os1 hP
      subst ed
      intro v rv
      cases rv
      have owA : OwnOk K G1 (upd (upd H1 dx (.own x)) x (.ins C dx [])) ([(x, .ins C [] [])] ++ os) := by
        refine ⟨?_, fun y m => ?_⟩
        · rw [keys, List.map_append]
          exact List.nodup_append.mpr ⟨by simp, ow1.nd, fun a ha b hb z => by
            have : a = x := by simpa using ha
            exact np (this ▸ z ▸ hb)⟩
        · rcases List.mem_append.mp m with m | m
          · have e : y = (x, .ins C [] []) := by simpa using m
            subst e
            exact ⟨gx, dx, [], rfl, upd_same, .nil⟩
          · exact ow3.at_ y m
      refine ⟨rfl, q (.adr x) (os1 ++ os) _ G4 H4 ⟨x, os1, rfl, np, hP, rfl⟩ ?_ e4 (owA.back q4 o4 n4) ?_ (.adr x)⟩
      · refine (((q1.trans q2 (by simp)).trans q3 (by simp)).wk (by simp)).trans q4 fun p m => ?_
        have : p = x := by simpa using m
        exact .inr (q1.dom _ (by rw [this]; exact nx))
      · intro y m
        rcases List.mem_append.mp m with m | m
        · rcases n4 y m with z | z
          · left
            exact q1.dom _ (by
              have a2 := q3.dom _ z
              exact q2.dom _ a2)
          · have : y.1 = x := by simpa using z
            exact .inl (q1.dom _ (by rw [this]; exact nx))
        · exact .inr (mem_keys m)
end

/-! ### statements -/
structure Bs where
  fp : List Addr
  G0 : Hp
  H0 : Hp
structure BsOk (B : Bs) (os : Own) (G H : Hp) : Prop where
  gq : Gq B.fp B.G0 B.H0 G H
  nw : ∀ x ∈ os, B.H0 x.1 = none ∨ x.1 ∈ B.fp
def Do (K : Fg) (B : Bs) (t : TS) (ss : SS) (os : Own) (D : Ends) : Prop := ∀ σ G H, BsOk B os G H → Rep K ss os σ G H → t D σ H
def Nx (K : Fg) (B : Bs) (P : St → Hp → Prop) (ss : SS) (os : Own) : Prop := ∀ σ G H, BsOk B os G H → Rep K ss os σ G H → P σ H
def Rt (K : Fg) (B : Bs) (Q : VK) (d : Dt) (os : Own) : Prop := ∀ v G H, BsOk B os G H → Ex G H → OwnOk K G H os → Rp K G v d → Q v H
def Xt (K : Fg) (B : Bs) (E : XK) (C : Addr) (os : Own) : Prop := ∀ G H, BsOk B os G H → Ex G H → OwnOk K G H os → E (.ref C) none H
/-- a word of the state -/
def At (K : Fg) (B : Bs) (I : SS → Own → Prop) : St → Hp → Prop := fun σ H => ∃ ss os G, I ss os ∧ BsOk B os G H ∧ Rep K ss os σ G H
section
variable {K : Fg} {B : Bs} {t u : TS} {ss ss' : SS} {os os' : Own} {D : Ends} {te ta tb : TE} {tt : TT} {d x : Dt} {ds : List Dt} {G H G' H' : Hp}
theorem BsOk.grow (h : BsOk B os G H) (q : Gq [] G H G' H') : BsOk B os G' H' := ⟨h.gq.trans q (by simp), h.nw⟩
theorem BsOk.growM (h : BsOk B os G H) (q : Gq (keys os) G H G' H') (n : ∀ x ∈ os', H x.1 = none ∨ x.1 ∈ keys os) : BsOk B os' G' H' := by
  have hk : ∀ p ∈ keys os, p ∈ B.fp ∨ B.H0 p = none := fun p m => by
    obtain ⟨x, hx, e⟩ := List.mem_map.mp m
    rcases h.nw x hx with z | z
    · exact .inr (e ▸ z)
    · exact .inl (e ▸ z)
  refine ⟨h.gq.trans q hk, fun x m => ?_⟩
  rcases n x m with z | z
  · exact .inl (h.gq.dom _ z)
  · exact (hk _ z).symm
theorem nx_at {I : SS → Own → Prop} (h : I ss os) : Nx K B (At K B I) ss os := fun σ G H b r => ⟨ss, os, G, h, b, r⟩
theorem do_seq (h : Do K B t ss os { D with nx := u D }) : Do K B (tSeq t u) ss os D := h
theorem do_nx (h : Nx K B D.nx ss os) : Do K B tNext ss os D := h
theorem do_bk (h : Nx K B D.bk ss os) : Do K B tBreak ss os D := h
theorem do_ct (h : Nx K B D.ct ss os) : Do K B tCont ss os D := h
theorem do_never (h : False) : Do K B t ss os D := h.elim
/-- a word between two statements -/
theorem do_cut (I : SS → Own → Prop) (h : Do K B t ss os { D with nx := At K B I }) (k : ∀ ss os, I ss os → Do K B u ss os D) : Do K B (Evl.tCut t u) ss os D := fun σ G H b r =>
  ⟨At K B I, h σ G H b r, fun σ' H' ⟨ss', os', G', hi, b', r'⟩ => k ss' os' hi σ' G' H' b' r'⟩
theorem do_asgM {i : Nat} {P : Dt → Own → Prop} (h : EvM K te ss os P) (k : ∀ d os', P d os' → Nx K B D.nx (ss.set i (some d)) os') : Do K B (tAsg te (gName i)) ss os D := fun σ G H b r =>
  h σ G H r _ fun d os' v G1 H1 hP q1 e1 o1 n1 r1 => k d os' hP _ G1 H1 (b.growM q1 n1) ⟨e1, (r.sl.mono q1.ex).set i r1, o1⟩
theorem do_asg {i : Nat} (h : Ev K te ss os d) (k : Nx K B D.nx (ss.set i (some d)) os) : Do K B (tAsg te (gName i)) ss os D := fun σ G H b r =>
  h σ G H r _ fun v G1 H1 q1 e1 r1 => k _ G1 H1 (b.grow q1) ⟨e1, (r.sl.mono q1.ex).set i r1, r.ow.grow q1⟩
theorem do_retM {P : Dt → Own → Prop} (h : EvM K te ss os P) (k : ∀ d os', P d os' → Rt K B D.rt d os') : Do K B (tRet te) ss os D := fun σ G H b r =>
  h σ G H r _ fun d os' v G1 H1 hP q1 e1 o1 n1 r1 => k d os' hP v G1 H1 (b.growM q1 n1) e1 o1 r1
theorem do_ret (h : Ev K te ss os d) (k : Rt K B D.rt d os) : Do K B (tRet te) ss os D := fun σ G H b r =>
  h σ G H r _ fun v G1 H1 q1 e1 r1 => k v G1 H1 (b.grow q1) e1 (r.ow.grow q1) r1
theorem do_retN (k : Rt K B D.rt .non os) : Do K B tRetN ss os D := fun σ G H b r => k _ G H b r.gh r.ow .non
theorem do_dropM {P : Dt → Own → Prop} (h : EvM K te ss os P) (k : ∀ d os', P d os' → Nx K B D.nx ss os') : Do K B (tDrop te) ss os D := fun σ G H b r =>
  h σ G H r _ fun d os' v G1 H1 hP q1 e1 o1 n1 r1 => k d os' hP _ G1 H1 (b.growM q1 n1) ⟨e1, r.sl.mono q1.ex, o1⟩
theorem do_drop (h : Ev K te ss os d) (k : Nx K B D.nx ss os) : Do K B (tDrop te) ss os D := fun σ G H b r =>
  h σ G H r _ fun v G1 H1 q1 e1 r1 => k _ G1 H1 (b.grow q1) (r.grow q1 e1)
theorem do_if {b : Bool} (h : EvT K tt ss os b) (h1 : b = true → Do K B t ss os D) (h2 : b = false → Do K B u ss os D) : Do K B (tIfS tt t u) ss os D := fun σ G H bb r =>
  h σ G H r _ fun G1 H1 q1 e1 => by
    cases b with
    | true => exact h1 rfl σ G1 H1 (bb.grow q1) (r.grow q1 e1)
    | false => exact h2 rfl σ G1 H1 (bb.grow q1) (r.grow q1 e1)
/-- xs.append(e) upon a list of one's own -/
theorem do_app {p : Addr} (ha : Ev K ta ss os (.adr p)) (m : (p, Cel.lst ds) ∈ os) (h : Ev K te ss os d) (hz : ds.length < 1000000) (k : Nx K B D.nx ss (setC os p (.lst (ds ++ [d])))) : Do K B (tDrop (tBM K "list" rAppend ta (tCons te tNil))) ss os D := fun σ G H b r =>
  ha σ G H r _ fun v G1 H1 q1 e1 r1 => by
    cases r1
    have R1 := r.grow q1 e1
    obtain ⟨_, vs0, h0, _⟩ := R1.ow.at_ _ m
    refine ⟨Or.inl ⟨rfl, vs0, .of h0⟩, h σ G1 H1 R1 _ fun w G2 H2 q2 e2 r2 => ?_⟩
    have R2 := R1.grow q2 e2
    obtain ⟨gp, vs, h1, rv⟩ := R2.ow.at_ _ m
    refine ⟨p, vs, w, rfl, rfl, h1, by rw [rv.length]; exact szl hz, ?_⟩
    obtain ⟨q3, e3⟩ := gq_put (fp := keys os) (o := .lst (vs ++ [w])) R2.gh gp h1 (mem_keys m)
    refine k σ G2 _ (((b.grow q1).grow q2).growM q3 fun x mx => ?_) ⟨e3, R2.sl, R2.ow.put ⟨_, upd_same, rv.append (.one r2)⟩⟩
    right
    have : x.1 ∈ keys (setC os p (.lst (ds ++ [d]))) := mem_keys mx
    rw [keys_setC] at this
    exact this
theorem ixN_at {n j : Nat} {i : Int} (h0 : 0 ≤ i) (h : i < n) : ixN n i = some i.toNat := by
  unfold ixN
  rw [if_pos h0, if_pos h]
/-- xs[i] = e upon a list of one's own -/
theorem do_setL {p : Addr} {i : Int} (h : Ev K te ss os d) (ha : Ev K ta ss os (.adr p)) (m : (p, Cel.lst ds) ∈ os) (hb : Ev K tb ss os (.int i)) (h0 : 0 ≤ i) (hi : i < ds.length) (k : Nx K B D.nx ss (setC os p (.lst (ds.set i.toNat d)))) :
    Do K B (tAsg te (gSub ta tb rSetL)) ss os D := fun σ G H b r =>
  h σ G H r _ fun w G1 H1 q1 e1 r1 => ha σ G1 H1 (r.grow q1 e1) _ fun v G2 H2 q2 e2 r2 => hb σ G2 H2 ((r.grow q1 e1).grow q2 e2) _ fun z G3 H3 q3 e3 r3 => by
    cases r2; cases r3
    have R3 := ((r.grow q1 e1).grow q2 e2).grow q3 e3
    obtain ⟨gp, vs, h1, rv⟩ := R3.ow.at_ _ m
    refine ⟨p, vs, i, i.toNat, rfl, rfl, h1, ?_, ?_⟩
    · rw [rv.length]; exact ixN_at (j := 0) h0 hi
    obtain ⟨q4, e4⟩ := gq_put (fp := keys os) (o := .lst (vs.set i.toNat w)) R3.gh gp h1 (mem_keys m)
    refine k σ G3 _ ((((b.grow q1).grow q2).grow q3).growM q4 fun x mx => ?_) ⟨e4, R3.sl, R3.ow.put ⟨_, upd_same, rv.set ((r1.mono q2.ex).mono q3.ex) _⟩⟩
    right
    have : x.1 ∈ keys (setC os p (.lst (ds.set i.toNat d))) := mem_keys mx
    rw [keys_setC] at this
    exact this
theorem putF_zip {f : Str} {v : V} : ∀ {ns : List Str} {vs : List V}, vs.length = ns.length → ¬ f ∈ ns → putF f v (ns.zip vs) = (ns ++ [f]).zip (vs ++ [v])
  | [], [], _, _ => rfl
  | [], _ :: _, h, _ => by cases h
  | n :: r, [], h, _ => by cases h
  | n :: r, w :: s, h, hf => by
    show (if n = f then _ else (n, w) :: putF f v (r.zip s)) = (n, w) :: ((r ++ [f]).zip (s ++ [v]))
    rw [if_neg (fun z => hf (by simp [z])), putF_zip (by simpa using h) (fun z => hf (List.mem_cons_of_mem _ z))]
theorem Rps.len {vs : List V} (h : Rps K G vs ds) : ds.length = vs.length := h.length.symm
/-- self.f = e, a new field of an instance of one's own -/
theorem do_fld {p C : Addr} {f : Str} {ns : List Str} (c : Cls K C) (na : NoAttr K C f) (h : Ev K te ss os d) (ha : Ev K ta ss os (.adr p)) (m : (p, Cel.ins C ns ds) ∈ os) (hf : ¬ f ∈ ns) (hz : ns.length < 1000) (k : Nx K B D.nx ss (setC os p (.ins C (ns ++ [f]) (ds ++ [d])))) :
    Do K B (sFld K ta te f) ss os D := fun σ G H b r =>
  h σ G H r _ fun w G1 H1 q1 e1 r1 => ha σ G1 H1 (r.grow q1 e1) _ fun v G2 H2 q2 e2 r2 => by
    cases r2
    have R2 := (r.grow q1 e1).grow q2 e2
    obtain ⟨gp, dx, vs, l, h1, rv⟩ := R2.ow.at_ _ m
    refine ⟨p, C, dx, _, rfl, h1, c, na, by rw [List.length_zip, l, Nat.min_self]; exact hz, ?_⟩
    obtain ⟨q3, e3⟩ := gq_put (fp := keys os) (o := .ins C dx (putF f w (ns.zip vs))) R2.gh gp h1 (mem_keys m)
    refine k σ G2 _ (((b.grow q1).grow q2).growM q3 fun x mx => ?_) ⟨e3, R2.sl, R2.ow.put ⟨dx, vs ++ [w], by simp [l], ?_, rv.append (.one (r1.mono q2.ex))⟩⟩
    · right
      have : x.1 ∈ keys (setC os p (.ins C (ns ++ [f]) (ds ++ [d]))) := mem_keys mx
      rw [keys_setC] at this
      exact this
    · rw [upd_same, putF_zip l hf]
/-- as a field, an evaluation that makes cells of one's own -/
theorem do_fldM {p C : Addr} {f : Str} {P : Dt → Own → Prop} (c : Cls K C) (na : NoAttr K C f) (h : EvM K te ss os P) (hp : ss[0]? = some (some (.adr p)))
    (k : ∀ d os', P d os' → ∃ ns ds, (p, Cel.ins C ns ds) ∈ os' ∧ ¬ f ∈ ns ∧ ns.length < 1000 ∧ Nx K B D.nx ss (setC os' p (.ins C (ns ++ [f]) (ds ++ [d])))) :
    Do K B (sFld K (tVar 0) te f) ss os D := fun σ G H b r =>
  h σ G H r _ fun d os' w G1 H1 hP q1 e1 o1 n1 r1 => by
    obtain ⟨ns, ds, m, hf, hz, k⟩ := k d os' hP
    have R1 : Rep K ss os' σ G1 H1 := ⟨e1, r.sl.mono q1.ex, o1⟩
    obtain ⟨v, hv, rv⟩ := R1.sl.2 0 _ hp
    refine ⟨v, hv, ?_⟩
    cases rv
    obtain ⟨gp, dx, vs, l, h1, rv⟩ := R1.ow.at_ _ m
    refine ⟨p, C, dx, _, rfl, h1, c, na, by rw [List.length_zip, l, Nat.min_self]; exact hz, ?_⟩
    obtain ⟨q3, e3⟩ := gq_put (fp := keys os') (o := .ins C dx (putF f w (ns.zip vs))) R1.gh gp h1 (mem_keys m)
    refine k σ G1 _ ((b.growM q1 n1).growM q3 fun x mx => ?_) ⟨e3, R1.sl, R1.ow.put ⟨dx, vs ++ [w], by simp [l], ?_, rv.append (.one r1)⟩⟩
    · right
      have : x.1 ∈ keys (setC os' p (.ins C (ns ++ [f]) (ds ++ [d]))) := mem_keys mx
      rw [keys_setC] at this
      exact this
    · rw [upd_same, putF_zip l hf]
/-! ### freezing -/
mutual
inductive Fz (p : Addr) (d : Dt) : Dt → Dt → Prop
  | same (x : Dt) : Fz p d x x
  | here : Fz p d (.adr p) d
  | lst {xs ys : List Dt} : Fzs p d xs ys → Fz p d (.lst xs) (.lst ys)
  | tup {xs ys : List Dt} : Fzs p d xs ys → Fz p d (.tup xs) (.tup ys)
  | ins {C : Addr} {ns : List Str} {xs ys : List Dt} : Fzs p d xs ys → Fz p d (.ins C ns xs) (.ins C ns ys)
inductive Fzs (p : Addr) (d : Dt) : List Dt → List Dt → Prop
  | nil : Fzs p d [] []
  | cons {x y : Dt} {xs ys : List Dt} : Fz p d x y → Fzs p d xs ys → Fzs p d (x :: xs) (y :: ys)
end
mutual
theorem Rp.frz {p : Addr} (e : Ex G G') (hd : Rp K G' (.ref p) d) : ∀ {x y : Dt} {v : V}, Fz p d x y → Rp K G v x → Rp K G' v y
  | _, _, _, .same _, h => h.mono e
  | _, _, _, .here, h => by cases h; exact hd
  | _, _, _, .lst f, h => by
    cases h with
    | lst h1 h2 => exact .lst (e _ _ h1) (Rps.frz e hd f h2)
  | _, _, _, .tup f, h => by
    cases h with
    | tup h1 h2 => exact .tup (e _ _ h1) (Rps.frz e hd f h2)
  | _, _, _, .ins f, h => by
    cases h with
    | ins h1 h2 => exact .ins (e _ _ h1) (Rps.frz e hd f h2)
theorem Rps.frz {p : Addr} (e : Ex G G') (hd : Rp K G' (.ref p) d) : ∀ {x y : List Dt} {v : List V}, Fzs p d x y → Rps K G v x → Rps K G' v y
  | _, _, _, .nil, h => by cases h; exact .nil
  | _, _, _, .cons f r, h => by
    cases h with
    | cons h1 h2 => exact .cons (Rp.frz e hd f h1) (Rps.frz e hd r h2)
end
inductive FzS (p : Addr) (d : Dt) : SS → SS → Prop
  | nil : FzS p d [] []
  | cons {x y : Dt} {xs ys : SS} : Fz p d x y → FzS p d xs ys → FzS p d (some x :: xs) (some y :: ys)
  | skip {x : Option Dt} {xs ys : SS} : FzS p d xs ys → FzS p d (x :: xs) (none :: ys)
inductive FzC (p : Addr) (d : Dt) : Cel → Cel → Prop
  | same (c : Cel) : FzC p d c c
  | lst {xs ys : List Dt} : Fzs p d xs ys → FzC p d (.lst xs) (.lst ys)
  | ins {C : Addr} {ns : List Str} {xs ys : List Dt} : Fzs p d xs ys → FzC p d (.ins C ns xs) (.ins C ns ys)
inductive FzO (p : Addr) (d : Dt) : Own → Own → Prop
  | nil : FzO p d [] []
  | cons {a : Addr} {c c' : Cel} {xs ys : Own} : FzC p d c c' → FzO p d xs ys → FzO p d ((a, c) :: xs) ((a, c') :: ys)
theorem FzS.slots {p : Addr} (e : Ex G G') (hd : Rp K G' (.ref p) d) : ∀ {σ : St} {ss ss' : SS}, FzS p d ss ss' → Slots K G σ ss → Slots K G' σ ss'
  | σ, _, _, .nil, h => ⟨h.1, fun i d q => by simp at q⟩
  | [], _, _, .cons f r, h => by have := h.1; simp at this
  | [], _, _, .skip r, h => by have := h.1; simp at this
  | w :: σ, _, _, .cons f r, h => by
    have ih := FzS.slots (σ := σ) e hd r ⟨by have := h.1; simpa using this, fun i d q => by simpa using h.2 (i + 1) d (by simpa using q)⟩
    refine ⟨by have := ih.1; simp [this], fun i d q => ?_⟩
    cases i with
    | zero =>
      obtain ⟨v, h1, h2⟩ := h.2 0 _ rfl
      simp at q
      subst q
      exact ⟨v, h1, Rp.frz e hd f h2⟩
    | succ i =>
      obtain ⟨v, h1, h2⟩ := ih.2 i d (by simpa using q)
      exact ⟨v, by simpa using h1, h2⟩
  | w :: σ, _, _, .skip r, h => by
    have ih := FzS.slots (σ := σ) e hd r ⟨by have := h.1; simpa using this, fun i d q => by simpa using h.2 (i + 1) d (by simpa using q)⟩
    refine ⟨by have := ih.1; simp [this], fun i d q => ?_⟩
    cases i with
    | zero => simp at q
    | succ i =>
      obtain ⟨v, h1, h2⟩ := ih.2 i d (by simpa using q)
      exact ⟨v, by simpa using h1, h2⟩
theorem FzO.keys {p : Addr} : ∀ {xs ys : Own}, FzO p d xs ys → keys ys = keys xs
  | _, _, .nil => rfl
  | _, _, .cons _ r => by simp [Cy.keys, r.keys]
theorem FzO.at_ {p : Addr} : ∀ {xs ys : Own}, FzO p d xs ys → ∀ y ∈ ys, ∃ x ∈ xs, x.1 = y.1 ∧ FzC p d x.2 y.2
  | _, _, .nil, y, m => by simp at m
  | _, _, .cons (a := a) (c := c) f r, y, m => by
    rcases List.mem_cons.mp m with rfl | m
    · exact ⟨_, List.mem_cons_self, rfl, f⟩
    · obtain ⟨x, hx, e⟩ := r.at_ y m
      exact ⟨x, List.mem_cons_of_mem _ hx, e⟩
/-- what a cell is as data -/
def Cel.dt : Cel → Dt
  | .lst ds => .lst ds
  | .ins C ns ds => .ins C ns ds
  | .dT _ => .non
theorem frz_rep {p : Addr} {c : Cel} {os0 osr : Own} {σ : St} (r : Rep K ss os σ G H) (hp : os.Perm ((p, c) :: os0)) (hc : ∀ kvs, c ≠ .dT kvs) (hs : FzS p c.dt ss ss') (ho : FzO p c.dt os0 osr) (hn : H p ≠ none → True := fun _ => trivial) :
    ∃ G', Ex G G' ∧ (∀ a o, G' a = some o → G a = some o ∨ a = p) ∧ Rep K ss' osr σ G' H := by
  have ow := r.ow.perm hp
  obtain ⟨gp, cp⟩ := ow.at_ (p, c) List.mem_cons_self
  obtain ⟨o, hpo⟩ := cp.some
  have ex : Ex G (upd G p o) := Ex.new gp
  have hd : Rp K (upd G p o) (.ref p) c.dt := by
    cases c with
    | lst ds =>
      obtain ⟨vs, h1, h2⟩ := cp
      have h1 : H p = some (.lst vs) := h1
      rw [hpo] at h1
      cases h1
      exact .lst upd_same (h2.mono ex)
    | ins C ns ds =>
      obtain ⟨dx, vs, l, h1, h2⟩ := cp
      have h1 : H p = some (.ins C dx (ns.zip vs)) := h1
      rw [hpo] at h1
      cases h1
      exact .ins upd_same (h2.mono ex)
    | dT kvs => exact (hc kvs rfl).elim
  have nd := ow.nd
  have nd2 : p ∉ keys os0 ∧ (keys os0).Nodup := by
    have : (p :: keys os0).Nodup := nd
    exact List.nodup_cons.mp this
  refine ⟨upd G p o, ex, fun a u h => ?_, ⟨fun a u h => ?_, hs.slots ex hd r.sl, ⟨by rw [ho.keys]; exact nd2.2, fun y m => ?_⟩⟩⟩
  · by_cases ha : a = p
    · exact .inr ha
    · rw [upd_ne ha] at h; exact .inl h
  · by_cases ha : a = p
    · subst ha; rw [upd_same] at h; rw [hpo]; exact h
    · rw [upd_ne ha] at h; exact r.gh _ _ h
  · obtain ⟨x, hx, e1, f⟩ := ho.at_ y m
    obtain ⟨g1, c1⟩ := ow.at_ x (List.mem_cons_of_mem _ hx)
    have ne : x.1 ≠ p := fun z => nd2.1 (z ▸ mem_keys hx)
    refine ⟨by rw [← e1, upd_ne ne]; exact g1, ?_⟩
    rw [← e1]
    generalize x.2 = c0 at f c1
    generalize y.2 = c2 at f
    cases f with
    | same => exact c1.mono ex rfl
    | lst f =>
      obtain ⟨vs, h1, h2⟩ := c1
      exact ⟨vs, h1, Rps.frz ex hd f h2⟩
    | ins f =>
      obtain ⟨dx, vs, l, h1, h2⟩ := c1
      exact ⟨dx, vs, l, h1, Rps.frz ex hd f h2⟩
/-- a cell of one's own is one's own no more: it stays as it is -/
theorem do_frz {p : Addr} {c : Cel} {os0 osr : Own} (hp : os.Perm ((p, c) :: os0)) (hc : ∀ kvs, c ≠ .dT kvs) (hn : p ∉ B.fp) (hs : FzS p c.dt ss ss') (ho : FzO p c.dt os0 osr) (k : Do K B t ss' osr D) : Do K B t ss os D := fun σ G H b r => by
  obtain ⟨G', ex, nw, r'⟩ := frz_rep r hp hc hs ho
  have hpn : B.H0 p = none := by
    rcases b.nw (p, c) (hp.mem_iff.mpr List.mem_cons_self) with z | z
    · exact z
    · exact (hn z).elim
  refine k σ G' H ⟨⟨b.gq.ex.trans ex, fun a o h => ?_, b.gq.keep, b.gq.dom⟩, fun x m => ?_⟩ r'
  · rcases nw a o h with z | z
    · exact b.gq.new a o z
    · exact .inr (z ▸ hpn)
  · have : x.1 ∈ keys osr := mem_keys m
    rw [ho.keys] at this
    obtain ⟨y, hy, e⟩ := List.mem_map.mp this
    have := b.nw y (hp.mem_iff.mpr (List.mem_cons_of_mem _ hy))
    rw [e] at this
    exact this
theorem nx_frz {p : Addr} {c : Cel} {os0 osr : Own} {Z : St → Hp → Prop} (hp : os.Perm ((p, c) :: os0)) (hc : ∀ kvs, c ≠ .dT kvs) (hn : p ∉ B.fp) (hs : FzS p c.dt ss ss') (ho : FzO p c.dt os0 osr) (k : Nx K B Z ss' osr) : Nx K B Z ss os :=
  do_frz (t := fun _ => Z) (D := ⟨Z, fun _ _ => True, Z, Z⟩) hp hc hn hs ho k
/-- some slots, some cells forgotten -/
inductive Le : SS → SS → Prop
  | nil : Le [] []
  | cons (x : Option Dt) {xs ys : SS} : Le xs ys → Le (x :: xs) (x :: ys)
  | skip {x : Option Dt} {xs ys : SS} : Le xs ys → Le (x :: xs) (none :: ys)
theorem Le.refl : ∀ ss : SS, Le ss ss
  | [] => .nil
  | x :: r => .cons x (Le.refl r)
theorem Le.slots : ∀ {σ : St} {ss ss' : SS}, Le ss ss' → Slots K G σ ss → Slots K G σ ss'
  | σ, _, _, .nil, h => h
  | [], _, _, .cons x r, h => by have := h.1; simp at this
  | [], _, _, .skip r, h => by have := h.1; simp at this
  | w :: σ, _, _, .cons x r, h => by
    have ih := Le.slots (σ := σ) r ⟨by have := h.1; simpa using this, fun i d q => by simpa using h.2 (i + 1) d (by simpa using q)⟩
    refine ⟨by have := ih.1; simp [this], fun i d q => ?_⟩
    cases i with
    | zero => exact h.2 0 d q
    | succ i =>
      obtain ⟨v, h1, h2⟩ := ih.2 i d (by simpa using q)
      exact ⟨v, by simpa using h1, h2⟩
  | w :: σ, _, _, .skip r, h => by
    have ih := Le.slots (σ := σ) r ⟨by have := h.1; simpa using this, fun i d q => by simpa using h.2 (i + 1) d (by simpa using q)⟩
    refine ⟨by have := ih.1; simp [this], fun i d q => ?_⟩
    cases i with
    | zero => simp at q
    | succ i =>
      obtain ⟨v, h1, h2⟩ := ih.2 i d (by simpa using q)
      exact ⟨v, by simpa using h1, h2⟩
theorem do_weak (hs : Le ss ss') (ho : List.Sublist os' os) (k : Do K B t ss' os' D) : Do K B t ss os D := fun σ G H b r =>
  k σ G H ⟨b.gq, fun x m => b.nw x (ho.subset m)⟩ ⟨r.gh, hs.slots r.sl, ⟨(ho.map (·.1)).nodup r.ow.nd, fun x m => r.ow.at_ x (ho.subset m)⟩⟩
/-- one's own in another order -/
theorem do_perm (ho : os.Perm os') (k : Do K B t ss os' D) : Do K B t ss os D := fun σ G H b r =>
  k σ G H ⟨b.gq, fun x m => b.nw x (ho.mem_iff.mpr m)⟩ ⟨r.gh, r.sl, r.ow.perm ho⟩
/-! ### loops -/
theorem do_forR {ta : TA} {j : Nat} {n : Int} (h : EvA K ta ss os [.int n]) (hn : n ≤ 100000) (h0 : -100000 ≤ n) (I : Nat → SS → Own → Prop) (hi : I 0 ss os)
    (hs : ∀ (i : Nat) ss' os', (i : Int) < n → I i ss' os' → Do K B t (ss'.set j (some (.int (i : Int)))) os' { D with nx := At K B (I (i + 1)), ct := At K B (I (i + 1)), bk := D.nx })
    (hd : ∀ ss' os', I n.toNat ss' os' → Nx K B D.nx ss' os') : Do K B (tFor (iRng1 ta) (gName j) t) ss os D := fun σ G H b r =>
  h σ G H r _ fun vs G1 H1 q1 e1 r1 => by
    cases r1 with
    | cons r1 r2 =>
      cases r1; cases r2
      refine ⟨n, rfl, by omega, by omega, for_range (lo := 0) (n := n.toNat) (fun i => At K B (I i)) ⟨ss, os, G1, hi, b.grow q1, r.grow q1 e1⟩ (fun i σ' H' hl p => ?_) (fun σ' H' p => ?_)⟩
      · obtain ⟨ss', os', G', p, b', r'⟩ := p
        have e0 : (0 : Int) + (i : Int) = (i : Int) := Int.zero_add _
        show t _ (σ'.set j (some (.int ((0 : Int) + (i : Int))))) H'
        rw [e0]
        exact hs i ss' os' (by omega) p _ G' H' b' ⟨r'.gh, r'.sl.set j (.int _), r'.ow⟩
      · obtain ⟨ss', os', G', p, b', r'⟩ := p
        exact hd ss' os' p σ' G' H' b' r'
/-- what a target takes: from the item and the slots to the slots -/
def Tg (K : Fg) (g : TG) (d : Dt) (ss ss' : SS) : Prop := ∀ v σ G H (Q : St → Hp → Prop), Ex G H → Slots K G σ ss → Rp K G v d → (∀ σ', Slots K G σ' ss' → Q σ' H) → g v σ H Q
theorem tg_name {j : Nat} : Tg K (gName j) d ss (ss.set j (some d)) := fun v σ G H Q e s r q => q _ (s.set j r)
theorem tg_tup2 {i j : Nat} {a b : Dt} : Tg K (gTup K 2 (gCons (gName i) (gCons (gName j) gNil))) (.tup [a, b]) ss ((ss.set i (some a)).set j (some b)) := fun v σ G H Q e s r q => by
  cases r with
  | tup h1 h2 =>
    cases h2 with
    | cons ra r2 =>
      cases r2 with
      | cons rb r3 =>
        cases r3
        exact ⟨_, _, rfl, .of (e _ _ h1), rfl, _, _, rfl, _, _, rfl, rfl, q _ ((s.set i ra).set j rb)⟩
theorem tg_tup3 {i j k : Nat} {a b c : Dt} : Tg K (gTup K 3 (gCons (gName i) (gCons (gName j) (gCons (gName k) gNil)))) (.tup [a, b, c]) ss (((ss.set i (some a)).set j (some b)).set k (some c)) := fun v σ G H Q e s r q => by
  cases r with
  | tup h1 h2 =>
    cases h2 with
    | cons ra r2 =>
      cases r2 with
      | cons rb r3 =>
        cases r3 with
        | cons rc r4 =>
          cases r4
          exact ⟨_, _, rfl, .of (e _ _ h1), rfl, _, _, rfl, _, _, rfl, _, _, rfl, rfl, q _ (((s.set i ra).set j rb).set k rc)⟩
/-- a base further on -/
structure Bs.Le (B B' : Bs) : Prop where
  fp : B'.fp = B.fp
  ok : ∀ {os G H}, BsOk B' os G H → BsOk B os G H
theorem Bs.Le.refl (B : Bs) : B.Le B := ⟨rfl, fun h => h⟩
theorem Bs.Le.trans {B B1 B2 : Bs} (a : B.Le B1) (b : B1.Le B2) : B.Le B2 := ⟨b.fp.trans a.fp, fun h => a.ok (b.ok h)⟩
/-- the ends of a def: what it hands back, what it raises -/
def Rts (K : Fg) (B : Bs) (Q : VK) (P : Res → Own → Prop) : Prop := ∀ B', B.Le B' → ∀ d os, P (.ok d) os → Rt K B' Q d os
def Xts (K : Fg) (B : Bs) (E : XK) (P : Res → Own → Prop) : Prop := ∀ B', B.Le B' → ∀ C os, P (.er C) os → Xt K B' E C os
theorem Rts.up {B1 : Bs} {Q : VK} {P : Res → Own → Prop} (h : Rts K B Q P) (l : B.Le B1) : Rts K B1 Q P := fun B' l' => h B' (l.trans l')
theorem Xts.up {B1 : Bs} {E : XK} {P : Res → Own → Prop} (h : Xts K B E P) (l : B.Le B1) : Xts K B1 E P := fun B' l' => h B' (l.trans l')
theorem Rts.rt {Q : VK} {P : Res → Own → Prop} (h : Rts K B Q P) (hp : P (.ok d) os) : Rt K B Q d os := h B (Bs.Le.refl B) d os hp
theorem Xts.xt {E : XK} {C : Addr} {P : Res → Own → Prop} (h : Xts K B E P) (hp : P (.er C) os) : Xt K B E C os := h B (Bs.Le.refl B) C os hp
theorem BsOk.later {B : Bs} {G1 : Hp} {os1 : Own} {H1 : Hp} (b1 : BsOk B os1 G1 H1) : B.Le ⟨B.fp, G1, B.H0⟩ := ⟨rfl, fun {os G H} h => ⟨⟨b1.gq.ex.trans h.gq.ex, fun a o e => by
  rcases h.gq.new a o e with q | q
  · exact b1.gq.new a o q
  · exact .inr q, h.gq.keep, h.gq.dom⟩, h.nw⟩⟩
theorem BsOk.lift {B : Bs} {G1 : Hp} (b : BsOk B os G H) (e : Ex G1 G) (e0 : Ex B.G0 G1) : BsOk ⟨B.fp, G1, B.H0⟩ os G H := ⟨⟨e, fun a o h => by
  rcases b.gq.new a o h with q | q
  · exact .inl (e0 _ _ q)
  · exact .inr q, b.gq.keep, b.gq.dom⟩, b.nw⟩
/-- over a list that stays -/
theorem do_forL {tl : TE} {g : TG} (h : Ev K tl ss os (.lst ds)) (I : Nat → SS → Own → Prop) (hi : I 0 ss os)
    (hs : ∀ B1, B.Le B1 → ∀ (i : Nat) (d : Dt) ss' os', ds[i]? = some d → I i ss' os' → ∃ ss2, Tg K g d ss' ss2 ∧ Do K B1 t ss2 os' { D with nx := At K B1 (I (i + 1)), ct := At K B1 (I (i + 1)), bk := D.nx })
    (hd : ∀ ss' os', I ds.length ss' os' → Nx K B D.nx ss' os') : Do K B (tFor (iList K tl) g t) ss os D := fun σ G H b r =>
  h σ G H r _ fun v G1 H1 q1 e1 r1 => by
    have b1 := b.grow q1
    have le := b1.later
    cases r1 with
    | lst g1 rs =>
      rename_i a vs
      refine ⟨a, rfl, ⟨vs, .of (e1 _ _ g1)⟩, for_list (xs := vs) (fun i => At K ⟨B.fp, G1, B.H0⟩ (I i)) ⟨ss, os, G1, hi, b1.lift (Ex.refl _) b1.gq.ex, r.grow q1 e1⟩ (fun i σ' H' _ p => ?_) (fun i x σ' H' hx p => ?_) (fun σ' H' p => ?_)⟩
      · obtain ⟨ss', os', G', p, b', r'⟩ := p
        exact .of (r'.gh _ _ (b'.gq.ex _ _ g1))
      · obtain ⟨ss', os', G', p, b', r'⟩ := p
        obtain ⟨d, hd1, rd⟩ := rs.get' hx
        obtain ⟨ss2, tg, dd⟩ := hs _ le i d ss' os' hd1 p
        exact tg x σ' G' H' _ r'.gh r'.sl (rd.mono b'.gq.ex) fun σ2 s2 => dd σ2 G' H' b' ⟨r'.gh, s2, r'.ow⟩
      · obtain ⟨ss', os', G', p, b', r'⟩ := p
        rw [rs.length] at p
        exact hd ss' os' p σ' G' H' (le.ok b') r'
/-- while, by a word and a measure -/
theorem do_while (I : Nat → SS → Own → Prop) (m0 : Nat) (hi : I m0 ss os)
    (hs : ∀ m ss' os', I m ss' os' → ∃ b, EvT K tt ss' os' b ∧ (b = true → Do K B t ss' os' { D with nx := At K B (fun s o => ∃ m', m' < m ∧ I m' s o), ct := At K B (fun s o => ∃ m', m' < m ∧ I m' s o), bk := D.nx }) ∧ (b = false → Nx K B D.nx ss' os')) : Do K B (tWhile tt t) ss os D := fun σ G H b r =>
  ⟨fun m => At K B (I m), ⟨m0, ss, os, G, hi, b, r⟩, fun m σ' H' p => by
    obtain ⟨ss', os', G', p, b', r'⟩ := p
    obtain ⟨bb, et, h1, h2⟩ := hs m ss' os' p
    refine et σ' G' H' r' _ fun G2 H2 q2 e2 => ?_
    cases bb with
    | true => exact ⟨_, fun σ3 H3 ⟨s3, o3, G3, ⟨m', hm, p3⟩, b3, r3⟩ => ⟨m', hm, s3, o3, G3, p3, b3, r3⟩, h1 rfl σ' G2 H2 (b'.grow q2) (r'.grow q2 e2)⟩
    | false => exact h2 rfl σ' G2 H2 (b'.grow q2) (r'.grow q2 e2)⟩
/-! ### defs -/
/-- a body that keeps a contract: N slots, n of them parameters -/
theorem body_ok {n : Nat} {c : Ct} {N : List Str} {t : TS} (hd : ∀ ds os P, ds.length = n → c ds os P → ∀ B D, B.fp = keys os → Rts K B D.rt P → (∀ B', B.Le B' → ∀ ss os, P (.ok .non) os → Nx K B' D.nx ss os) → Do K B t (ds.map some ++ List.replicate (N.length - n) none) os D)
    (vs : List V) (H : Hp) (Q : VK) (E : XK) (h : spC K n c vs H Q E) : t { nx := fun _ H' => Q .non H', rt := Q } (start N vs) H := by
  obtain ⟨hl, ds, os, P, G, ex, rs, ow, hc, hP⟩ := h
  have el : ds.length = n := by rw [← rs.length]; exact hl
  have base : ∀ {B' : Bs}, Bs.Le ⟨keys os, G, H⟩ B' → ∀ {os' G' H'}, BsOk B' os' G' H' → Gq (keys os) G H G' H' ∧ ∀ x ∈ os', H x.1 = none ∨ x.1 ∈ keys os := by
    intro B' le os' G' H' b
    exact ⟨(le.ok b).gq, (le.ok b).nw⟩
  refine hd ds os P el hc ⟨keys os, G, H⟩ _ rfl (fun B' le d os' p v G' H' b e o r => ?_) (fun B' le ss os' p σ G' H' b r => ?_) (start N vs) G H ⟨Gq.refl _ _, fun x m => .inr (mem_keys m)⟩ ⟨ex, ?_, ow⟩
  · obtain ⟨g, nw⟩ := base le b
    exact hP (.ok d) os' G' H' p g e o nw v r
  · obtain ⟨g, nw⟩ := base le b
    exact hP (.ok .non) os' G' H' p g r.gh r.ow nw .non .non
  · have := Slots.start (N := N) rs
    rw [el] at this
    exact this
/-- .. that may raise: the reading hangs on the wish -/
theorem body_okX {n : Nat} {c : Ct} {N : List Str} {t : XK → TS} (hd : ∀ ds os P E, ds.length = n → c ds os P → ∀ B D, B.fp = keys os → Rts K B D.rt P → Xts K B E P → (∀ B', B.Le B' → ∀ ss os, P (.ok .non) os → Nx K B' D.nx ss os) → Do K B (t E) (ds.map some ++ List.replicate (N.length - n) none) os D)
    (vs : List V) (H : Hp) (Q : VK) (E : XK) (h : spC K n c vs H Q E) : t E { nx := fun _ H' => Q .non H', rt := Q } (start N vs) H := by
  obtain ⟨hl, ds, os, P, G, ex, rs, ow, hc, hP⟩ := h
  have el : ds.length = n := by rw [← rs.length]; exact hl
  have base : ∀ {B' : Bs}, Bs.Le ⟨keys os, G, H⟩ B' → ∀ {os' G' H'}, BsOk B' os' G' H' → Gq (keys os) G H G' H' ∧ ∀ x ∈ os', H x.1 = none ∨ x.1 ∈ keys os := by
    intro B' le os' G' H' b
    exact ⟨(le.ok b).gq, (le.ok b).nw⟩
  refine hd ds os P E el hc ⟨keys os, G, H⟩ _ rfl (fun B' le d os' p v G' H' b e o r => ?_) (fun B' le C os' p G' H' b e o => ?_) (fun B' le ss os' p σ G' H' b r => ?_) (start N vs) G H ⟨Gq.refl _ _, fun x m => .inr (mem_keys m)⟩ ⟨ex, ?_, ow⟩
  · obtain ⟨g, nw⟩ := base le b
    exact hP (.ok d) os' G' H' p g e o nw v r
  · obtain ⟨g, nw⟩ := base le b
    exact hP (.er C) os' G' H' p g e o nw
  · obtain ⟨g, nw⟩ := base le b
    exact hP (.ok .non) os' G' H' p g r.gh r.ow nw .non .non
  · have := Slots.start (N := N) rs
    rw [el] at this
    exact this
/-- raise C('..') -/
def tRaise (E : XK) (C : Addr) : TS := fun _ _ H => E (.ref C) none H
theorem do_raise {E : XK} {C : Addr} (h : Xt K B E C os) : Do K B (tRaise E C) ss os D := fun σ G H b r => h G H b r.gh r.ow
/-- a call that may raise, at a statement of its own -/
theorem do_callX {n : Nat} {c : Ct} {E : XK} {osp osr : Own} {P : Res → Own → Prop} {ta : TA} (ha : EvA K ta ss os ds) (hn : ds.length = n) (hp : os.Perm (osp ++ osr)) (hc : c ds osp P)
    (h1 : ∀ d os1, P (.ok d) os1 → Nx K B D.nx ss (os1 ++ osr)) (h2 : ∀ C os1, P (.er C) os1 → Xt K B E C (os1 ++ osr)) : Do K B (tDrop (tCall (spC K n c) [] E ta)) ss os D := fun σ G H b r => ha σ G H r _ fun vs G1 H1 q1 e1 r1 => by
  have R1 := r.grow q1 e1
  have ow1 := R1.ow.perm hp
  refine ⟨by rw [List.append_nil, r1.length, hn], ds, osp, P, G1, e1, by rw [List.append_nil]; exact r1, ow1.left, hc, ?_⟩
  intro rr os1 G2 H2 hP q2 e2 o2 n2
  have q2' : Gq (keys os) G1 H1 G2 H2 := q2.wk fun p m => .inl (keys_sub hp p m)
  have b2 : BsOk B (os1 ++ osr) G2 H2 := (b.grow q1).growM q2' (new_back hp n2)
  have o2' := ow1.back q2 o2 n2
  cases rr with
  | er C => exact h2 C os1 hP G2 H2 b2 e2 o2'
  | ok d => exact fun v rv => h1 d os1 hP _ G2 H2 b2 ⟨e2, R1.sl.mono q2.ex, o2'⟩
/-! ### the same, something behind -/
theorem q_asg {i : Nat} (h : Ev K te ss os d) (k : Do K B u (ss.set i (some d)) os D) : Do K B (tSeq (tAsg te (gName i)) u) ss os D := do_asg (D := { D with nx := u D }) h k
theorem q_asgM {i : Nat} {P : Dt → Own → Prop} (h : EvM K te ss os P) (k : ∀ d os', P d os' → Do K B u (ss.set i (some d)) os' D) : Do K B (tSeq (tAsg te (gName i)) u) ss os D := do_asgM (D := { D with nx := u D }) h k
theorem q_dropM {P : Dt → Own → Prop} (h : EvM K te ss os P) (k : ∀ d os', P d os' → Do K B u ss os' D) : Do K B (tSeq (tDrop te) u) ss os D := do_dropM (D := { D with nx := u D }) h k
theorem q_drop (h : Ev K te ss os d) (k : Do K B u ss os D) : Do K B (tSeq (tDrop te) u) ss os D := do_drop (D := { D with nx := u D }) h k
theorem q_if {b : Bool} {w : TS} (h : EvT K tt ss os b) (h1 : b = true → Do K B t ss os { D with nx := u D }) (h2 : b = false → Do K B w ss os { D with nx := u D }) : Do K B (tSeq (tIfS tt t w) u) ss os D := do_if (D := { D with nx := u D }) h h1 h2
/-- an if whose body leaves -/
theorem q_when {b : Bool} (h : EvT K tt ss os b) (h1 : b = true → Do K B t ss os { D with nx := u D }) (h2 : b = false → Do K B u ss os D) : Do K B (tSeq (tIfS tt t tNext) u) ss os D := do_if (D := { D with nx := u D }) h h1 h2
theorem q_app {p : Addr} (ha : Ev K ta ss os (.adr p)) (m : (p, Cel.lst ds) ∈ os) (h : Ev K te ss os d) (hz : ds.length < 1000000) (k : Do K B u ss (setC os p (.lst (ds ++ [d]))) D) : Do K B (tSeq (tDrop (tBM K "list" rAppend ta (tCons te tNil))) u) ss os D :=
  do_app (D := { D with nx := u D }) ha m h hz k
theorem q_setL {p : Addr} {i : Int} (h : Ev K te ss os d) (ha : Ev K ta ss os (.adr p)) (m : (p, Cel.lst ds) ∈ os) (hb : Ev K tb ss os (.int i)) (h0 : 0 ≤ i) (hi : i < ds.length) (k : Do K B u ss (setC os p (.lst (ds.set i.toNat d))) D) :
    Do K B (tSeq (tAsg te (gSub ta tb rSetL)) u) ss os D := do_setL (D := { D with nx := u D }) h ha m hb h0 hi k
theorem q_fld {p C : Addr} {f : Str} {ns : List Str} (c : Cls K C) (na : NoAttr K C f) (h : Ev K te ss os d) (ha : Ev K ta ss os (.adr p)) (m : (p, Cel.ins C ns ds) ∈ os) (hf : ¬ f ∈ ns) (hz : ns.length < 1000) (k : Do K B u ss (setC os p (.ins C (ns ++ [f]) (ds ++ [d]))) D) :
    Do K B (tSeq (sFld K ta te f) u) ss os D := do_fld (D := { D with nx := u D }) c na h ha m hf hz k
theorem q_fldM {p C : Addr} {f : Str} {P : Dt → Own → Prop} (c : Cls K C) (na : NoAttr K C f) (h : EvM K te ss os P) (hp : ss[0]? = some (some (.adr p)))
    (k : ∀ d os', P d os' → ∃ ns ds, (p, Cel.ins C ns ds) ∈ os' ∧ ¬ f ∈ ns ∧ ns.length < 1000 ∧ Do K B u ss (setC os' p (.ins C (ns ++ [f]) (ds ++ [d]))) D) : Do K B (tSeq (sFld K (tVar 0) te f) u) ss os D := do_fldM (D := { D with nx := u D }) c na h hp k
theorem q_forR {ta : TA} {j : Nat} {n : Int} (h : EvA K ta ss os [.int n]) (hn : n ≤ 100000) (h0 : -100000 ≤ n) (I : Nat → SS → Own → Prop) (hi : I 0 ss os)
    (hs : ∀ (i : Nat) ss' os', (i : Int) < n → I i ss' os' → Do K B t (ss'.set j (some (.int (i : Int)))) os' { D with nx := At K B (I (i + 1)), ct := At K B (I (i + 1)), bk := u D })
    (hd : ∀ ss' os', I n.toNat ss' os' → Do K B u ss' os' D) : Do K B (tSeq (tFor (iRng1 ta) (gName j) t) u) ss os D := do_forR (D := { D with nx := u D }) h hn h0 I hi hs hd
theorem q_forL {tl : TE} {g : TG} (h : Ev K tl ss os (.lst ds)) (I : Nat → SS → Own → Prop) (hi : I 0 ss os)
    (hs : ∀ B1, B.Le B1 → ∀ (i : Nat) (d : Dt) ss' os', ds[i]? = some d → I i ss' os' → ∃ ss2, Tg K g d ss' ss2 ∧ Do K B1 t ss2 os' { D with nx := At K B1 (I (i + 1)), ct := At K B1 (I (i + 1)), bk := u D })
    (hd : ∀ ss' os', I ds.length ss' os' → Do K B u ss' os' D) : Do K B (tSeq (tFor (iList K tl) g t) u) ss os D := do_forL (D := { D with nx := u D }) h I hi hs hd
theorem q_while (I : Nat → SS → Own → Prop) (m0 : Nat) (hi : I m0 ss os)
    (hs : ∀ m ss' os', I m ss' os' → ∃ b, EvT K tt ss' os' b ∧ (b = true → Do K B t ss' os' { D with nx := At K B (fun s o => ∃ m', m' < m ∧ I m' s o), ct := At K B (fun s o => ∃ m', m' < m ∧ I m' s o), bk := u D }) ∧ (b = false → Do K B u ss' os' D)) : Do K B (tSeq (tWhile tt t) u) ss os D := do_while (D := { D with nx := u D }) I m0 hi hs
theorem q_callX {n : Nat} {c : Ct} {E : XK} {osp osr : Own} {P : Res → Own → Prop} {ta : TA} (ha : EvA K ta ss os ds) (hn : ds.length = n) (hp : os.Perm (osp ++ osr)) (hc : c ds osp P)
    (h1 : ∀ d os1, P (.ok d) os1 → Do K B u ss (os1 ++ osr) D) (h2 : ∀ C os1, P (.er C) os1 → Xt K B E C (os1 ++ osr)) : Do K B (tSeq (tDrop (tCall (spC K n c) [] E ta)) u) ss os D := do_callX (D := { D with nx := u D }) ha hn hp hc h1 h2
/-- loops over data that are a map -/
theorem q_forM {α : Type} {xs : List α} {f0 : α → Dt} {tl : TE} {g : TG} (h : Ev K tl ss os (.lst (xs.map f0))) (I : Nat → SS → Own → Prop) (hi : I 0 ss os)
    (hs : ∀ B1, B.Le B1 → ∀ (i : Nat) (x : α) ss' os', xs[i]? = some x → I i ss' os' → ∃ ss2, Tg K g (f0 x) ss' ss2 ∧ Do K B1 t ss2 os' { D with nx := At K B1 (I (i + 1)), ct := At K B1 (I (i + 1)), bk := u D })
    (hd : ∀ ss' os', I xs.length ss' os' → Do K B u ss' os' D) : Do K B (tSeq (tFor (iList K tl) g t) u) ss os D :=
  q_forL h I hi (fun B1 hB i d ss' os' hd hI => by
    rw [List.getElem?_map] at hd
    cases e : xs[i]? with
    | none => rw [e] at hd; cases hd
    | some x => rw [e] at hd; cases hd; exact hs B1 hB i x ss' os' e hI) (fun ss' os' hI => hd ss' os' (by rw [List.length_map] at hI; exact hI))
theorem do_forM {α : Type} {xs : List α} {f0 : α → Dt} {tl : TE} {g : TG} (h : Ev K tl ss os (.lst (xs.map f0))) (I : Nat → SS → Own → Prop) (hi : I 0 ss os)
    (hs : ∀ B1, B.Le B1 → ∀ (i : Nat) (x : α) ss' os', xs[i]? = some x → I i ss' os' → ∃ ss2, Tg K g (f0 x) ss' ss2 ∧ Do K B1 t ss2 os' { D with nx := At K B1 (I (i + 1)), ct := At K B1 (I (i + 1)), bk := D.nx })
    (hd : ∀ ss' os', I xs.length ss' os' → Nx K B D.nx ss' os') : Do K B (tFor (iList K tl) g t) ss os D :=
  do_forL h I hi (fun B1 hB i d ss' os' hd hI => by
    rw [List.getElem?_map] at hd
    cases e : xs[i]? with
    | none => rw [e] at hd; cases hd
    | some x => rw [e] at hd; cases hd; exact hs B1 hB i x ss' os' e hI) (fun ss' os' hI => hd ss' os' (by rw [List.length_map] at hI; exact hI))
end
end Cy

namespace Cy
open PySem L2
open Evl (Ex Ex.refl Ex.trans Ex.new Ex.mut)

/-! ### comprehensions -/
def wipeS (ss : SS) : List Nat → SS
  | [] => ss
  | v :: vs => (wipeS ss vs).set v none
theorem wipeS_length (ss : SS) : ∀ vs, (wipeS ss vs).length = ss.length
  | [] => rfl
  | v :: vs => by unfold wipeS; rw [List.length_set, wipeS_length ss vs]
theorem wipe_in {σ : St} {i : Nat} : ∀ {vs : List Nat}, i ∈ vs → i < σ.length → (wipe σ vs)[i]? = some none
  | [], h, _ => by simp at h
  | v :: vs, h, hl => by
    unfold wipe
    by_cases e : v = i
    · subst e
      rw [List.getElem?_set_self (by rw [wipe_length]; exact hl)]
    · rw [List.getElem?_set_ne e]
      exact wipe_in ((List.mem_cons.mp h).resolve_left fun z => e z.symm) hl
theorem wipe_ext {σ τ : St} {vs : List Nat} (hl : σ.length = τ.length) (h : ∀ i, i ∉ vs → σ[i]? = τ[i]?) : wipe σ vs = wipe τ vs := by
  refine List.ext_getElem? fun i => ?_
  by_cases m : i ∈ vs
  · by_cases l : i < σ.length
    · rw [wipe_in m l, wipe_in m (hl ▸ l)]
    · rw [List.getElem?_eq_none (by rw [wipe_length]; omega), List.getElem?_eq_none (by rw [wipe_length]; omega)]
  · rw [wipe_out m, wipe_out m]
    exact h i m
theorem wipe_wipe (σ : St) (vs : List Nat) : wipe (wipe σ vs) vs = wipe σ vs := wipe_ext (wipe_length σ vs) fun i m => wipe_out m
section
variable {K : Fg} {G H : Hp} {ss ss' ss2 : SS} {os : Own} {σ : St} {vs : List Nat} {d : Dt} {g : TG} {tt : TT} {te tl : TE} {ta : TA}
theorem wipeS_some {i : Nat} {x : Dt} : ∀ {vs : List Nat}, (wipeS ss vs)[i]? = some (some x) → ss[i]? = some (some x) ∧ i ∉ vs
  | [], h => ⟨h, by simp⟩
  | v :: vs, h => by
    unfold wipeS at h
    by_cases e : v = i
    · subst e
      by_cases l : v < (wipeS ss vs).length
      · rw [List.getElem?_set_self l] at h
        cases h
      · rw [List.getElem?_eq_none (by rw [List.length_set]; omega)] at h
        cases h
    · rw [List.getElem?_set_ne e] at h
      obtain ⟨a, b⟩ := wipeS_some h
      exact ⟨a, fun m => (List.mem_cons.mp m).elim (fun z => e z.symm) b⟩
theorem Slots.wipe (h : Slots K G σ ss) (vs : List Nat) : Slots K G (wipe σ vs) (wipeS ss vs) := ⟨by rw [wipe_length, wipeS_length, h.1], fun i d q => by
  obtain ⟨a, b⟩ := wipeS_some q
  obtain ⟨v, h1, h2⟩ := h.2 i d a
  exact ⟨v, by rw [wipe_out b]; exact h1, h2⟩⟩
/-- a target in a comprehension's block -/
def TgW (K : Fg) (g : TG) (d : Dt) (ss ss' : SS) (vs : List Nat) : Prop := ∀ v σ G H (Q : St → Hp → Prop), Ex G H → Slots K G σ ss → Rp K G v d → (∀ σ', Slots K G σ' ss' → L2.wipe σ' vs = L2.wipe σ vs → Q σ' H) → g v σ H Q
theorem wipe_set {j : Nat} {x : Option V} (m : j ∈ vs) : L2.wipe (σ.set j x) vs = L2.wipe σ vs := wipe_ext (by rw [List.length_set]) fun i n => by
  rw [List.getElem?_set_ne]
  rintro rfl
  exact n m
theorem tw_name {j : Nat} (m : j ∈ vs := by decide) : TgW K (gName j) d ss (ss.set j (some d)) vs := fun v σ G H Q e s r q => q _ (s.set j r) (wipe_set m)
theorem tw_tup2 {i j : Nat} {a b : Dt} (mi : i ∈ vs := by decide) (mj : j ∈ vs := by decide) : TgW K (gTup K 2 (gCons (gName i) (gCons (gName j) gNil))) (.tup [a, b]) ss ((ss.set i (some a)).set j (some b)) vs := fun v σ G H Q e s r q => by
  cases r with
  | tup h1 h2 =>
    cases h2 with
    | cons ra r2 =>
      cases r2 with
      | cons rb r3 =>
        cases r3
        exact ⟨_, _, rfl, .of (e _ _ h1), rfl, _, _, rfl, _, _, rfl, rfl, q _ ((s.set i ra).set j rb) (by rw [wipe_set mj, wipe_set mi])⟩
theorem lc_turn {G1 H1 : Hp} {D : Addr} {acc : List Dt} {H' : Hp} {y : Dt} {b : Bool} (hD : H1 D = none) (R : Rep K ss2 os σ G1 H1 → True)
    (G' : Hp) (accv : List V) (q1 : Gq [] G1 H1 G' H') (e1 : Ex G' H') (gD : G' D = none) (hH : H' D = some (.lst accv)) (ra : Rps K G' accv acc) (R' : Rep K ss2 os σ G' H')
    (hz : acc.length < 1000000) (ht : EvT K tt ss2 os b) (he : b = true → Ev K te ss2 os y) (Pn : Hp → Prop)
    (hp1 : b = true → ∀ G'' H'' accv', Gq [] G1 H1 G'' H'' → Ex G'' H'' → G'' D = none → H'' D = some (.lst accv') → Rps K G'' accv' (acc ++ [y]) → Pn H'')
    (hp0 : b = false → ∀ G'' H'', Gq [] G1 H1 G'' H'' → Ex G'' H'' → G'' D = none → H'' D = some (.lst accv) → Rps K G'' accv acc → Pn H'') :
    tt σ H' fun b H3 => if b = true then te σ H3 fun y H4 => ∃ acc, H4 D = some (.lst acc) ∧ acc.length < sizeLine ∧ Pn (upd H4 D (.lst (acc ++ [y]))) else Pn H3 := by
  have frD : ∀ {G' H' G'' H'' : Hp} {o : HO}, Gq [] G' H' G'' H'' → G' D = none → H' D = some o → G'' D = none := fun {G' H' G'' H'' o} q g h => by
    cases e : G'' D with
    | none => rfl
    | some u =>
      rcases q.new _ _ e with z | z
      · rw [g] at z; cases z
      · rw [h] at z; cases z
  refine ht σ G' H' R' _ fun G3 H3 q3 e3 => ?_
  cases b with
  | false => exact hp0 rfl G3 H3 (q1.trans q3 (by simp)) e3 (frD q3 gD hH) (q3.exH _ _ hH) (ra.mono q3.ex)
  | true =>
    refine he rfl σ G3 H3 (R'.grow q3 e3) _ fun v G4 H4 q4 e4 r4 => ?_
    have h4 : H4 D = some (.lst accv) := q4.exH _ _ (q3.exH _ _ hH)
    have g4 : G4 D = none := frD q4 (frD q3 gD hH) (q3.exH _ _ hH)
    refine ⟨accv, h4, by rw [ra.length]; exact szl hz, ?_⟩
    obtain ⟨q5, e5⟩ := gq_put (fp := [D]) (o := .lst (accv ++ [v])) e4 g4 h4 (by simp)
    refine hp1 rfl G4 _ (accv ++ [v]) (((q1.trans q3 (by simp)).trans q4 (by simp)).trans q5 fun p m => .inr ?_) e5 g4 upd_same (((ra.mono q3.ex).mono q4.ex).append (.one r4))
    have : p = D := by simpa using m
    rw [this]; exact hD
theorem filter_snoc {α : Type} (b : α → Bool) (y : α → Dt) (xs : List α) (i : Nat) (x : α) (h : xs[i]? = some x) :
    ((xs.take (i + 1)).filter b).map y = if b x = true then ((xs.take i).filter b).map y ++ [y x] else ((xs.take i).filter b).map y := by
  rw [List.take_add_one, h, List.filter_append, List.map_append]
  by_cases e : b x = true
  · rw [if_pos e]; simp [e]
  · rw [if_neg e]; simp [e]
theorem ef_lcL {α : Type} {xs : List α} {f0 : α → Dt} {x0 : Dt} (b : α → Bool) (y : α → Dt) (h : Ev K tl ss os x0) (l : LV os x0 (xs.map f0))
    (hb : ∀ x ∈ xs, ∃ ss2, TgW K g (f0 x) (wipeS ss vs) ss2 vs ∧ EvT K tt ss2 os (b x) ∧ (b x = true → Ev K te ss2 os (y x))) (hz : xs.length < 1000000) :
    EvF K (tLc (iList K tl) g tt te vs) ss os ((xs.filter b).map y) := fun σ G H R Q q => h σ G H R _ fun v G1 H1 q1 e1 r1 => by
  have R1 := R.grow q1 e1
  obtain ⟨a, ws, rfl, hs, rs⟩ := R1.list l r1
  refine ⟨a, rfl, ⟨ws, hs⟩, fun D hD => ?_⟩
  have hlen : ws.length = xs.length := by rw [rs.length, List.length_map]
  refine lc_list (xs := ws) (fun i H' => ∃ G' accv, Gq [] G1 H1 G' H' ∧ Ex G' H' ∧ G' D = none ∧ H' D = some (.lst accv) ∧ Rps K G' accv (((xs.take i).filter b).map y)) ?_ (fun i H' _ p => ?_) (fun i x H' hx p => ?_) (fun H' p => ?_)
  · obtain ⟨q2, e2⟩ := gq_own (fp := []) (o := .lst []) e1 hD
    exact ⟨G1, [], q2, e2, Evl.fresh_back e1 hD, upd_same, .nil⟩
  · obtain ⟨G', accv, q2, _⟩ := p
    exact Evl.ex_l q2.exH hs
  · obtain ⟨G', accv, q2, e2, gD, hH, ra⟩ := p
    obtain ⟨d, hd, rd⟩ := rs.get' hx
    rw [List.getElem?_map] at hd
    cases ex : xs[i]? with
    | none => rw [ex] at hd; cases hd
    | some x' =>
      rw [ex] at hd
      cases hd
      obtain ⟨ss2, tg, ht, he⟩ := hb x' (List.mem_of_getElem? ex)
      have R2 := R1.grow q2 e2
      refine tg x (L2.wipe σ vs) G' H' _ e2 (R2.sl.wipe vs) (rd.mono q2.ex) fun σ2 s2 hw => ⟨by rw [hw, wipe_wipe], ?_⟩
      refine lc_turn (ss2 := ss2) (os := os) (acc := ((xs.take i).filter b).map y) (y := y x') hD (fun _ => trivial) G' accv q2 e2 gD hH ra ⟨e2, s2, R2.ow⟩ ?_ ht he _ (fun eb G'' H'' accv' q3 e3 g3 h3 r3 => ⟨G'', accv', q3, e3, g3, h3, ?_⟩) (fun eb G'' H'' q3 e3 g3 h3 r3 => ⟨G'', accv, q3, e3, g3, h3, ?_⟩)
      · rw [List.length_map]
        refine Nat.lt_of_le_of_lt (List.length_filter_le _ _) ?_
        rw [List.length_take]
        omega
      · rw [filter_snoc b y xs i x' ex, if_pos eb]; exact r3
      · rw [filter_snoc b y xs i x' ex, if_neg (by rw [eb]; decide)]; exact r3
  · obtain ⟨G', accv, q2, e2, gD, hH, ra⟩ := p
    rw [hlen, List.take_length] at ra
    exact q D accv G' H' (q1.dom _ hD) (q1.trans q2 (by simp)) e2 gD hH ra
theorem ef_lcR {n lo : Int} (b : Nat → Bool) (y : Nat → Dt) {R2 : It → Hp → Prop} (hz : n ≤ 100000)
    (hb : ∀ i : Nat, (i : Int) < n - lo → ∃ ss2, TgW K g (.int (lo + i)) (wipeS ss vs) ss2 vs ∧ EvT K tt ss2 os (b i) ∧ (b i = true → Ev K te ss2 os (y i))) (hlo : -100000 ≤ lo)
    {σ : St} {G1 H1 : Hp} (R1 : Rep K ss os σ G1 H1) (Q : VK)
    (q : ∀ p vs' G' H', H1 p = none → Gq [] G1 H1 G' H' → Ex G' H' → G' p = none → H' p = some (.lst vs') → Rps K G' vs' ((((List.range (n - lo).toNat)).filter b).map y) → Q (.ref p) H') :
    ∀ D, H1 D = none → ∃ W : Nat → Nat → Hp → Prop, (∃ m, W 0 m (upd H1 D (.lst []))) ∧ ∀ i m H, W i m H →
      ((Itr lo (n - lo).toNat).stop i H ∧ Q (.ref D) H) ∨ ((Itr lo (n - lo).toNat).go i H ∧ ∃ Nx : Hp → Prop, (∀ H', Nx H' → ∃ m', m' < m ∧ W (i + 1) m' H') ∧ ∀ x H', (Itr lo (n - lo).toNat).yld i H x H' → g x (L2.wipe σ vs) H' fun σ2 H2 => L2.wipe σ2 vs = L2.wipe σ vs ∧ tt σ2 H2 fun b H3 =>
        if b = true then te σ2 H3 fun y H4 => ∃ acc, H4 D = some (.lst acc) ∧ acc.length < sizeLine ∧ Nx (upd H4 D (.lst (acc ++ [y]))) else Nx H3) := fun D hD => by
  have e1 := R1.gh
  refine lc_range (fun i H' => ∃ G' accv, Gq [] G1 H1 G' H' ∧ Ex G' H' ∧ G' D = none ∧ H' D = some (.lst accv) ∧ Rps K G' accv ((((List.range (n - lo).toNat).take i).filter b).map y)) ?_ (fun i H' hi p => ?_) (fun H' p => ?_)
  · obtain ⟨q2, e2⟩ := gq_own (fp := []) (o := .lst []) e1 hD
    exact ⟨G1, [], q2, e2, Evl.fresh_back e1 hD, upd_same, .nil⟩
  · obtain ⟨G', accv, q2, e2, gD, hH, ra⟩ := p
    have ex : (List.range (n - lo).toNat)[i]? = some i := by rw [List.getElem?_range hi]
    obtain ⟨ss2, tg, ht, he⟩ := hb i (by omega)
    have R2 := R1.grow q2 e2
    refine tg _ (L2.wipe σ vs) G' H' _ e2 (R2.sl.wipe vs) (.int _) fun σ2 s2 hw => ⟨by rw [hw, wipe_wipe], ?_⟩
    refine lc_turn (ss2 := ss2) (os := os) (acc := (((List.range (n - lo).toNat).take i).filter b).map y) (y := y i) hD (fun _ => trivial) G' accv q2 e2 gD hH ra ⟨e2, s2, R2.ow⟩ ?_ ht he _ (fun eb G'' H'' accv' q3 e3 g3 h3 r3 => ⟨G'', accv', q3, e3, g3, h3, ?_⟩) (fun eb G'' H'' q3 e3 g3 h3 r3 => ⟨G'', accv, q3, e3, g3, h3, ?_⟩)
    · rw [List.length_map]
      refine Nat.lt_of_le_of_lt (List.length_filter_le _ _) ?_
      rw [List.length_take, List.length_range]
      omega
    · rw [filter_snoc b y _ i i ex, if_pos eb]; exact r3
    · rw [filter_snoc b y _ i i ex, if_neg (by rw [eb]; decide)]; exact r3
  · obtain ⟨G', accv, q2, e2, gD, hH, ra⟩ := p
    rw [List.take_of_length_le (by rw [List.length_range]; omega)] at ra
    exact q D accv G' H' hD q2 e2 gD hH ra
theorem ef_lcR1 {n : Int} (b : Nat → Bool) (y : Nat → Dt) (h : EvA K ta ss os [.int n]) (h0 : -100000 ≤ n) (hz : n ≤ 100000)
    (hb : ∀ i : Nat, (i : Int) < n → ∃ ss2, TgW K g (.int (i : Int)) (wipeS ss vs) ss2 vs ∧ EvT K tt ss2 os (b i) ∧ (b i = true → Ev K te ss2 os (y i))) :
    EvF K (tLc (iRng1 ta) g tt te vs) ss os (((List.range n.toNat).filter b).map y) := fun σ G H R Q q => h σ G H R _ fun v G1 H1 q1 e1 r1 => by
  cases r1 with
  | cons r1 r2 =>
    cases r1; cases r2
    refine ⟨n, rfl, by omega, by omega, ?_⟩
    have e : (n - 0).toNat = n.toNat := by rw [Int.sub_zero]
    have := ef_lcR (K := K) (ss := ss) (os := os) (g := g) (tt := tt) (te := te) (vs := vs) (n := n) (lo := 0) (R2 := fun _ _ => True) b y hz (fun i hi => by rw [Int.zero_add]; exact hb i (by omega)) (by omega) (R.grow q1 e1) Q (fun p vs' G' H' n1 q2 e2 g2 h2 r2 => q p vs' G' H' (q1.dom _ n1) (q1.trans q2 (by simp)) e2 g2 h2 (by rw [e] at r2; exact r2))
    rw [e] at this
    exact this
/-- no test -/
theorem filter_all {α : Type} {b : α → Bool} {xs : List α} {y : α → Dt} (h : ∀ x, b x = true) : (xs.filter b).map y = xs.map y := by
  rw [List.filter_eq_self.mpr fun x _ => h x]
theorem ef_mapL {α : Type} {xs : List α} {f0 : α → Dt} {x0 : Dt} (y : α → Dt) (h : Ev K tl ss os x0) (l : LV os x0 (xs.map f0))
    (hb : ∀ x ∈ xs, ∃ ss2, TgW K g (f0 x) (wipeS ss vs) ss2 vs ∧ Ev K te ss2 os (y x)) (hz : xs.length < 1000000) : EvF K (tLc (iList K tl) g tYes te vs) ss os (xs.map y) := by
  have := ef_lcL (K := K) (g := g) (tt := tYes) (te := te) (vs := vs) (fun _ => true) y h l (fun x m => let ⟨s, a, c⟩ := hb x m; ⟨s, a, et_yes, fun _ => c⟩) hz
  rw [filter_all fun _ => rfl] at this
  exact this
theorem ef_mapR {n : Int} (y : Nat → Dt) (h : EvA K ta ss os [.int n]) (h0 : -100000 ≤ n) (hz : n ≤ 100000)
    (hb : ∀ i : Nat, (i : Int) < n → ∃ ss2, TgW K g (.int (i : Int)) (wipeS ss vs) ss2 vs ∧ Ev K te ss2 os (y i)) : EvF K (tLc (iRng1 ta) g tYes te vs) ss os ((List.range n.toNat).map y) := by
  have := ef_lcR1 (K := K) (g := g) (tt := tYes) (te := te) (vs := vs) (fun _ => true) y h h0 hz fun i hi => let ⟨s, a, c⟩ := hb i hi; ⟨s, a, et_yes, fun _ => c⟩
  rw [filter_all fun _ => rfl] at this
  exact this
end
end Cy
namespace Cy
open PySem L2
section
variable {K : Fg} {ss : SS} {os : Own} {vs : List Nat} {g : TG} {te tl : TE} {ta : TA}
theorem ef_mapRi {n : Int} (y : Nat → Int) (h : EvA K ta ss os [.int n]) (h0 : -100000 ≤ n) (hz : n ≤ 100000)
    (hb : ∀ i : Nat, (i : Int) < n → ∃ ss2, TgW K g (.int (i : Int)) (wipeS ss vs) ss2 vs ∧ Ev K te ss2 os (.int (y i))) : EvF K (tLc (iRng1 ta) g tYes te vs) ss os (((List.range n.toNat).map y).map Dt.int) := by
  rw [List.map_map]
  exact ef_mapR (fun i => .int (y i)) h h0 hz hb
theorem ef_mapLi {α : Type} {xs : List α} {f0 : α → Dt} {x0 : Dt} (y : α → Int) (h : Ev K tl ss os x0) (l : LV os x0 (xs.map f0))
    (hb : ∀ x ∈ xs, ∃ ss2, TgW K g (f0 x) (wipeS ss vs) ss2 vs ∧ Ev K te ss2 os (.int (y x))) (hz : xs.length < 1000000) : EvF K (tLc (iList K tl) g tYes te vs) ss os ((xs.map y).map Dt.int) := by
  rw [List.map_map]
  exact ef_mapL (fun x => .int (y x)) h l hb hz
end
end Cy

/-! the mirror: what the defs reckon, over plain data -/
namespace Cy
/-- n turns -/
def iter {σ : Type} (step : Nat → σ → σ) (s : σ) : Nat → σ
  | 0 => s
  | n + 1 => step n (iter step s n)
def withinB (ns : List Int) (m : Int) : Bool := ns.all fun n => decide (0 ≤ n) && decide (n ≤ m)
def M31 : Int := 2147483647
def cellD (ns : List Int) (k : Int) : Int := if 0 < ns.length then ns.getD (k % (ns.length : Int)).toNat 0 else 7
@[irreducible] def drawn (ns : List Int) (k many : Int) : Int :=
  let s1 := (cellD ns k * 48271 + (k + 1) * 7919 + (ns.length : Int)) % 2147483647
  let s2 := (s1 * s1 + k * 16807 + 11) % 2147483647
  ((s2 * 48271 % 2147483647).fdiv 16) % many
theorem drawn_pos (ns : List Int) (k : Int) {many : Int} (h : 0 < many) : 0 ≤ drawn ns k many ∧ drawn ns k many < many := by
  unfold drawn
  exact ⟨Int.emod_nonneg _ (by omega), Int.emod_lt_of_pos _ h⟩
abbrev Day := List Int × List Int
def manyBy (ns : List Int) (b : Int) : Nat := (1 + drawn ns b 4).toNat
def topBy (ns : List Int) (b : Int) : Int := ([4, 12, 51] : List Int).getD (drawn ns (b + 1) 3).toNat 0
def roomsBy (ns : List Int) (b : Int) : List Int := (List.range (manyBy ns b)).map fun (k : Nat) => drawn ns (b + 2 + k) (topBy ns b)
def watersBy (ns : List Int) (b : Int) : List Int := (List.range (manyBy ns b)).map fun (k : Nat) => drawn ns (b + 6 + k) ((roomsBy ns b).getD k 0 + 1)
def dtopBy (ns : List Int) (b : Int) : Int := ([4, 10, 31] : List Int).getD (drawn ns b 3).toNat 0
def rainBy (ns : List Int) (b : Int) (many : Nat) (n : Nat) : List Int := (List.range many).map fun (k : Nat) => drawn ns (b + 10 + 8 * n + k) (dtopBy ns b)
def wishesBy (ns : List Int) (b : Int) (many : Nat) (n : Nat) : List Int :=
  let w := (List.range many).map fun (k : Nat) => drawn ns (b + 14 + 8 * n + k) (dtopBy ns b)
  if drawn ns (b + 2) 3 = 1 then w.map fun one => min 30 (2 * one) else w
def daysBy (ns : List Int) (b : Int) (many : Nat) (bound : Int) : List Day := (List.range (drawn ns (b + 1) (bound + 1)).toNat).map fun n => (rainBy ns b many n, wishesBy ns b many n)
/-- one tank's turn of a day: drawn, held, what runs on -/
structure DayS where
  drawn : List Int
  held : List Int
  over : Int
def dayStep (rooms rain wishes : List Int) (k : Nat) (s : DayS) : DayS :=
  let water := s.held.getD k 0 + rain.getD k 0 + s.over
  let d := min water (wishes.getD k 0)
  let h := min (water - d) (rooms.getD k 0)
  ⟨s.drawn ++ [d], s.held.set k h, water - d - h⟩
def dayRun (rooms held rain wishes : List Int) : DayS := iter (dayStep rooms rain wishes) ⟨[], held, 0⟩ rooms.length
theorem withinB_iff {ns : List Int} {m : Int} : withinB ns m = true ↔ ∀ x ∈ ns, 0 ≤ x ∧ x ≤ m := by
  simp [withinB]
end Cy
namespace Cy
theorem getD_some {xs : List Int} {i : Nat} (h : i < xs.length) : xs[i]? = some (xs.getD i 0) := by
  rw [List.getD_eq_getElem?_getD, List.getElem?_eq_getElem h]; rfl
def lOk (n : Nat) (xs : List Int) : Bool := decide (xs.length = n) && withinB xs 30
def dayOk (n : Nat) (d : Day) : Bool := lOk n d.1 && lOk n d.2
def daysOk (n : Nat) (ds : List Day) : Bool := decide (ds.length ≤ 8) && ds.all (dayOk n)
def yardOk (rooms waters : List Int) : Bool := decide (1 ≤ rooms.length) && (decide (rooms.length ≤ 4) && (decide (waters.length = rooms.length) && (withinB rooms 50 && (List.range rooms.length).all fun k => decide (0 ≤ waters.getD k 0) && decide (waters.getD k 0 ≤ rooms.getD k 0))))
section
variable {rooms rain wishes : List Int}
theorem dayStep_drawn (k : Nat) (s : DayS) : (dayStep rooms rain wishes k s).drawn.length = s.drawn.length + 1 := by simp [dayStep]
theorem dayStep_held (k : Nat) (s : DayS) : (dayStep rooms rain wishes k s).held.length = s.held.length := by simp [dayStep]
theorem iter_drawn (s : DayS) : ∀ n, (iter (dayStep rooms rain wishes) s n).drawn.length = s.drawn.length + n
  | 0 => rfl
  | n + 1 => by rw [iter, dayStep_drawn, iter_drawn s n]; omega
theorem iter_held (s : DayS) : ∀ n, (iter (dayStep rooms rain wishes) s n).held.length = s.held.length
  | 0 => rfl
  | n + 1 => by rw [iter, dayStep_held, iter_held s n]
end
theorem lOk_iff {n : Nat} {xs : List Int} : lOk n xs = true ↔ xs.length = n ∧ withinB xs 30 = true := by simp [lOk]
theorem dayOk_iff {n : Nat} {d : Day} : dayOk n d = true ↔ lOk n d.1 = true ∧ lOk n d.2 = true := by simp [dayOk]
theorem daysOk_iff {n : Nat} {ds : List Day} : daysOk n ds = true ↔ ds.length ≤ 8 ∧ ∀ d ∈ ds, dayOk n d = true := by simp [daysOk]
end Cy
namespace Cy
def overAt (held rain drawn kept : List Int) : Nat → Int := iter (fun k o => held.getD k 0 + rain.getD k 0 + o - drawn.getD k 0 - kept.getD k 0) 0
def tankOk (rooms held : List Int) (day p : Day) (k : Nat) : Bool :=
  decide (0 ≤ p.1.getD k 0) && (decide (0 ≤ p.2.getD k 0) && (decide (0 ≤ overAt held day.1 p.1 p.2 (k + 1)) && (decide (p.1.getD k 0 ≤ day.2.getD k 0) && decide (p.2.getD k 0 ≤ rooms.getD k 0))))
def dayHolds (rooms held : List Int) (day p : Day) : Bool := decide (p.1.length = held.length) && (decide (p.2.length = held.length) && (List.range held.length).all (tankOk rooms held day p))
def heldAt (held : List Int) (plan : List Day) : Nat → List Int
  | 0 => held
  | n + 1 => (plan.getD n ([], [])).2
def holdsB (rooms held : List Int) (days plan : List Day) : Bool :=
  decide (plan.length = days.length) && (List.range days.length).all fun n => dayHolds rooms (heldAt held plan n) (days.getD n ([], [])) (plan.getD n ([], []))
def drawnBy (plan : List Day) : Int := (plan.map fun p => p.1.sum).sum
theorem getDay {xs : List Day} {i : Nat} (h : i < xs.length) : xs[i]? = some (xs.getD i ([], [])) := by
  rw [List.getD_eq_getElem?_getD, List.getElem?_eq_getElem h]; rfl
theorem tankOk_iff {rooms held : List Int} {day p : Day} {k : Nat} : tankOk rooms held day p k = true ↔
    0 ≤ p.1.getD k 0 ∧ 0 ≤ p.2.getD k 0 ∧ 0 ≤ overAt held day.1 p.1 p.2 (k + 1) ∧ p.1.getD k 0 ≤ day.2.getD k 0 ∧ p.2.getD k 0 ≤ rooms.getD k 0 := by
  simp [tankOk, -List.getD_eq_getElem?_getD]
theorem dayHolds_iff {rooms held : List Int} {day p : Day} : dayHolds rooms held day p = true ↔ p.1.length = held.length ∧ p.2.length = held.length ∧ ∀ k, k < held.length → tankOk rooms held day p k = true := by
  simp [dayHolds]
theorem holdsB_iff {rooms held : List Int} {days plan : List Day} : holdsB rooms held days plan = true ↔
    plan.length = days.length ∧ ∀ n, n < days.length → dayHolds rooms (heldAt held plan n) (days.getD n ([], [])) (plan.getD n ([], [])) = true := by
  simp [holdsB, -List.getD_eq_getElem?_getD]
end Cy

namespace Cy
open PySem L2
/-- where the classes stand -/
structure Ad where
  Yard : Addr
  Stream : Addr
  YardError : Addr
  BadYard : Addr
  BadDays : Addr
  BadLine : Addr
  BadText : Addr
def ad (K : Fg) : Ad := ⟨He.ga K "Yard", He.ga K "Stream", He.ga K "YardError", He.ga K "BadYard", He.ga K "BadDays", He.ga K "BadLine", He.ga K "BadText"⟩
/-- what is known of the class Yard -/
structure YardF (K : Fg) (A : Ad) : Prop where
  cls : Cls K A.Yard
  sizes : NoAttr K A.Yard "sizes"
  held : NoAttr K A.Yard "held"
/-- a def that may be called -/
structure Cal (P : Program) (w : World) (K : Fg) (mg : Str → Option Value) (base : Heap) (CX : CXT) (x : Str) (k : Nat) (ps : List Str) (sp : Sp) : Prop where
  ex : ∃ f fd, FnOk P w K mg base CX k f fd ps sp ∧ mg x = some (.ref f) ∧ PySem.W.keepIn K (.ref f) = true ∧ Binds K fd ps []
structure Met (P : Program) (w : World) (K : Fg) (mg : Str → Option Value) (base : Heap) (CX : CXT) (C : Addr) (m : Str) (k : Nat) (ps : List Str) (sp : Sp) : Prop where
  ex : ∃ f fd, FnOk P w K mg base CX k f fd ps sp ∧ Meth K C m f ∧ Binds K fd ps []
  cls : Cls K C
structure Mak (P : Program) (w : World) (K : Fg) (mg : Str → Option Value) (base : Heap) (CX : CXT) (x : Str) (C : Addr) (k : Nat) (ps : List Str) (sp : Sp) : Prop where
  ex : ∃ f fd, FnOk P w K mg base CX k f fd ps sp ∧ Mk K C f ∧ Binds K fd ps []
  glo : mg x = some (.ref C)
section
variable {X : Cx} {CX : CXT} {k : Nat} {C : Addr} {ps : List Str} {sp : Sp} {E : XK} {x m : Str} {p pos apos : Pos} {e o : Expr} {es : List Expr} {ta : TE} {t : TA}
theorem pe_cal (c : Cal X.prog X.w X.K X.mg X.base CX x k ps sp) (hr : Room k X.A) (hg : Gl X x) (hx : Passes CX X E) (ha : PA X (e :: es) t) (hdb : (x == ("__debug__" : Str)) = false := by decide)
    (he : starEach (e :: es) X.env = (false, eval e X.env) :: starEach es X.env := by rfl) (hpl : (backTo pos (starEach es X.env)).any (·.1) = false := by rfl) : PE X (.Call (.Name x p) (e :: es) [] pos) (tCall sp [] E t) := by
  obtain ⟨f, fd, F, hm, hk, hb⟩ := c.ex
  exact pe_call F hr hg hm hk hb .nil hx ha hdb he hpl
theorem pe_met {pl : Sem Bool} (c : Met X.prog X.w X.K X.mg X.base CX C m k ps sp) (hr : Room k X.A) (hx : Passes CX X E) (he : PE X o ta) (ha : PA X (e :: es) t)
    (hst : starEach (e :: es) X.env = (false, eval e X.env) :: starEach es X.env := by rfl) (hpl : (backTo pos (starEach es X.env)).any (·.1) = false := by rfl)
    (ht : eval (.Call (.Attribute o m apos) (e :: es) [] pos) X.env = (do
      let ov ← eval o X.env
      standAt apos.atName
      let (f, first) ← holding [ov] (getMethod ov m pl)
      callWith pos f first (backTo pos (starEach (e :: es) X.env)) (backToKw pos (keywordEach [] X.env))) := by rfl) : PE X (.Call (.Attribute o m apos) (e :: es) [] pos) (tMeth C m sp [] E ta t) := by
  obtain ⟨f, fd, F, hm, hb⟩ := c.ex
  exact pe_meth (pl := pl) he c.cls hm F hr hb .nil hx ha hst hpl ht
theorem pe_met0 {pl : Sem Bool} (c : Met X.prog X.w X.K X.mg X.base CX C m k ps sp) (hr : Room k X.A) (hx : Passes CX X E) (he : PE X o ta)
    (ht : eval (.Call (.Attribute o m apos) [] [] pos) X.env = (do
      let ov ← eval o X.env
      standAt apos.atName
      let (f, first) ← holding [ov] (getMethod ov m pl)
      callWith pos f first (backTo pos (starEach [] X.env)) (backToKw pos (keywordEach [] X.env))) := by rfl) : PE X (.Call (.Attribute o m apos) [] [] pos) (tMeth C m sp [] E ta tNil) := by
  obtain ⟨f, fd, F, hm, hb⟩ := c.ex
  exact pe_meth0 (pl := pl) he c.cls hm F hr hb .nil hx ht
theorem pe_mak (c : Mak X.prog X.w X.K X.mg X.base CX x C k ps sp) (hr : Room (k + 1) X.A) (hg : Gl X x) (hx : Passes CX X E) (ha : PA X (e :: es) t) (hdb : (x == ("__debug__" : Str)) = false := by decide)
    (he : starEach (e :: es) X.env = (false, eval e X.env) :: starEach es X.env := by rfl) (hpl : (backTo pos (starEach es X.env)).any (·.1) = false := by rfl) : PE X (.Call (.Name x p) (e :: es) [] pos) (tMake C sp [] E t) := by
  obtain ⟨f, fd, F, M, hb⟩ := c.ex
  exact pe_make M F hr hg c.glo hb .nil hx ha hdb he hpl
theorem pe_gint {i : Int} (hg : Gl X x) (h : ∃ t, X.mg x = some (.int i t)) (hd : (x == ("__debug__" : Str)) = false := by decide) : PE X (.Name x pos) (tC (.int i)) := by
  obtain ⟨t, e⟩ := h
  exact pe_glob hg e ⟨t, rfl⟩ hd
/-- an own class of errors -/
structure ExcF (K : Fg) (mg : Str → Option Value) (x : Str) (C : Addr) : Prop where
  glo : mg x = some (.ref C)
  exc : PySem.W.excIn K C He.veBase "ValueError.__new__" = true
  keep : PySem.W.keepIn K (.ref C) = true
  sub : PySem.W.subIn K (.ref C) (.type "BaseException") = some true
  ty : PySem.W.typeIn K (.ref C) = some (.type "type")
theorem pmk_ex {x m : Str} {j : Nat} {p p2 pos : Pos} (F : ExcF X.K X.mg x C) (hg : Gl X x) (hdb : (x == ("__debug__" : Str)) = false := by decide) : PMk X (.Call (.Name x p) [.Constant (.str m) j p2] [] pos) (fun _ H Q => Q (.ref C) none H) :=
  pmk_own PySem.F.excBase_ValueError F.exc F.glo F.keep (raises_own F.sub F.ty) hg hdb
end
abbrev iL (ns : List Int) : Dt := .lst (ns.map Dt.int)
abbrev dayD (d : Day) : Dt := .tup [iL d.1, iL d.2]
abbrev daysD (ds : List Day) : Dt := .lst (ds.map dayD)
/-- a yard that stays; one whose water is one's own -/
abbrev yardD (A : Ad) (rooms held : List Int) : Dt := .ins A.Yard ["sizes", "held"] [iL rooms, iL held]
abbrev yardO (A : Ad) (rooms : List Int) (h : Addr) : Dt := .ins A.Yard ["sizes", "held"] [iL rooms, .adr h]
end Cy

namespace Cy
open PySem L2
open Evl (Ex Ex.refl Ex.trans Ex.new Ex.mut)

/-! ### cells lent to a callee, to be read -/
mutual
inductive Thin : Dt → Prop
  | non : Thin .non
  | bl (b : Bool) : Thin (.bl b)
  | int (i : Int) : Thin (.int i)
  | str (x : Str) : Thin (.str x)
  | adr (a : Addr) : Thin (.adr a)
  | tup {xs : List Dt} : Thins xs → Thin (.tup xs)
inductive Thins : List Dt → Prop
  | nil : Thins []
  | cons {x : Dt} {xs : List Dt} : Thin x → Thins xs → Thins (x :: xs)
end
theorem Thins.ints : ∀ ns : List Int, Thins (ns.map Dt.int)
  | [] => .nil
  | n :: r => .cons (.int n) (Thins.ints r)
theorem Thins.map {α : Type} {f : α → Dt} (h : ∀ x, Thin (f x)) : ∀ xs : List α, Thins (xs.map f)
  | [] => .nil
  | x :: r => .cons (h x) (Thins.map h r)
def ThinC : Cel → Prop
  | .lst ds => Thins ds
  | .dT kvs => Thins (kvs.map (·.2))
  | .ins _ _ ds => Thins ds
section
variable {K : Fg} {G G' H H' : Hp} {os osl : Own}
mutual
theorem Rp.thin (h : ∀ a xs, G a = some (.tup xs) → G' a = some (.tup xs)) : ∀ {v : V} {d : Dt}, Thin d → Rp K G v d → Rp K G' v d
  | _, _, .non, r => by cases r; exact .non
  | _, _, .bl b, r => by cases r; exact .bl b
  | _, _, .int b, r => by cases r; exact .int b
  | _, _, .str b, r => by cases r; exact .str b
  | _, _, .adr b, r => by cases r; exact .adr b
  | _, _, .tup t, r => by
    cases r with
    | tup h1 h2 => exact .tup (h _ _ h1) (Rps.thin h t h2)
theorem Rps.thin (h : ∀ a xs, G a = some (.tup xs) → G' a = some (.tup xs)) : ∀ {v : List V} {d : List Dt}, Thins d → Rps K G v d → Rps K G' v d
  | _, _, .nil, r => by cases r; exact .nil
  | _, _, .cons a b, r => by
    cases r with
    | cons h1 h2 => exact .cons (Rp.thin h a h1) (Rps.thin h b h2)
end
theorem CelOk.thin (h : ∀ a xs, G a = Option.some (HO.tup xs) → G' a = Option.some (HO.tup xs)) {p : Addr} : ∀ {c : Cel}, ThinC c → CelOk K G H p c → CelOk K G' H p c
  | .lst ds, t, ⟨vs, a, b⟩ => ⟨vs, a, Rps.thin h t b⟩
  | .dT ds, t, ⟨vs, l, a, b⟩ => ⟨vs, l, a, Rps.thin h t b⟩
  | .ins C ns ds, t, ⟨dx, vs, l, a, b⟩ => ⟨dx, vs, l, a, Rps.thin h t b⟩
/- one's cells as data -/
mutual
inductive Fm (os : Own) : Dt → Dt → Prop
  | same (x : Dt) : Fm os x x
  | lst {p : Addr} {ds : List Dt} : (p, Cel.lst ds) ∈ os → Fm os (.adr p) (.lst ds)
  | lstN {p : Addr} {ds es : List Dt} : (p, Cel.lst ds) ∈ os → Fms os ds es → Fm os (.adr p) (.lst es)
  | ins {p C : Addr} {ns : List Str} {ds es : List Dt} : (p, Cel.ins C ns ds) ∈ os → Fms os ds es → Fm os (.adr p) (.ins C ns es)
  | tupI {xs ys : List Dt} : Fms os xs ys → Fm os (.tup xs) (.tup ys)
  | insI {C : Addr} {ns : List Str} {xs ys : List Dt} : Fms os xs ys → Fm os (.ins C ns xs) (.ins C ns ys)
inductive Fms (os : Own) : List Dt → List Dt → Prop
  | nil : Fms os [] []
  | cons {x y : Dt} {xs ys : List Dt} : Fm os x y → Fms os xs ys → Fms os (x :: xs) (y :: ys)
end
mutual
theorem Rp.fm (e : Ex G G') (hl : ∀ p ds, (p, Cel.lst ds) ∈ os → ∃ vs, G' p = some (.lst vs) ∧ Rps K G' vs ds) (hn : ∀ p ds, (p, Cel.lst ds) ∈ os → ∃ vs, G' p = some (.lst vs) ∧ Rps K G vs ds) (hi : ∀ p C ns ds, (p, Cel.ins C ns ds) ∈ os → ∃ dx vs, G' p = some (.ins C dx (ns.zip vs)) ∧ Rps K G vs ds) : ∀ {x y : Dt} {v : V}, Fm os x y → Rp K G v x → Rp K G' v y
  | _, _, _, .same _, h => h.mono e
  | _, _, _, .lst m, h => by
    cases h
    obtain ⟨vs, h1, h2⟩ := hl _ _ m
    exact .lst h1 h2
  | _, _, _, .lstN m f, h => by
    cases h
    obtain ⟨vs, h1, h2⟩ := hn _ _ m
    exact .lst h1 (Rps.fm e hl hn hi f h2)
  | _, _, _, .ins m f, h => by
    cases h
    obtain ⟨dx, vs, h1, h2⟩ := hi _ _ _ _ m
    exact .ins h1 (Rps.fm e hl hn hi f h2)
  | _, _, _, .tupI f, h => by
    cases h with
    | tup h1 h2 => exact .tup (e _ _ h1) (Rps.fm e hl hn hi f h2)
  | _, _, _, .insI f, h => by
    cases h with
    | ins h1 h2 => exact .ins (e _ _ h1) (Rps.fm e hl hn hi f h2)
theorem Rps.fm (e : Ex G G') (hl : ∀ p ds, (p, Cel.lst ds) ∈ os → ∃ vs, G' p = some (.lst vs) ∧ Rps K G' vs ds) (hn : ∀ p ds, (p, Cel.lst ds) ∈ os → ∃ vs, G' p = some (.lst vs) ∧ Rps K G vs ds) (hi : ∀ p C ns ds, (p, Cel.ins C ns ds) ∈ os → ∃ dx vs, G' p = some (.ins C dx (ns.zip vs)) ∧ Rps K G vs ds) : ∀ {x y : List Dt} {v : List V}, Fms os x y → Rps K G v x → Rps K G' v y
  | _, _, _, .nil, h => by cases h; exact .nil
  | _, _, _, .cons f r, h => by
    cases h with
    | cons h1 h2 => exact .cons (Rp.fm e hl hn hi f h1) (Rps.fm e hl hn hi r h2)
end
/-- all of one's cells lent -/
theorem lend (ow : OwnOk K G H os) (ex : Ex G H) : ∃ Gl, Ex G Gl ∧ Ex Gl H ∧ (∀ {x y : List Dt} {v : List V}, Fms os x y → Rps K G v x → Rps K Gl v y) ∧
    ∀ G2 H2, Gq [] Gl H G2 H2 → Ex G2 H2 → ∃ G3, Gq [] G H G3 H2 ∧ Ex G3 H2 ∧ (∀ a xs, G2 a = some (.tup xs) → G3 a = some (.tup xs)) ∧ (∀ a, G2 a = none → G3 a = none) ∧ Ex G3 G2 ∧ (∀ a o, H a = none → G2 a = some o → G3 a = some o) := by
  classical
  let Gl : Hp := fun a => if a ∈ keys os then H a else G a
  have key : ∀ {a}, a ∈ keys os → G a = none ∧ ∃ c, (a, c) ∈ os ∧ CelOk K G H a c := fun {a} m => by
    obtain ⟨x, hx, e⟩ := List.mem_map.mp m
    obtain ⟨h1, h2⟩ := ow.at_ x hx
    subst e
    exact ⟨h1, x.2, hx, h2⟩
  have gi : ∀ {a}, a ∈ keys os → Gl a = H a := fun m => if_pos m
  have go : ∀ {a}, a ∉ keys os → Gl a = G a := fun m => if_neg m
  have e1 : Ex G Gl := fun a o h => by
    by_cases m : a ∈ keys os
    · rw [(key m).1] at h; cases h
    · rw [go m]; exact h
  have e2 : Ex Gl H := fun a o h => by
    by_cases m : a ∈ keys os
    · rw [gi m] at h; exact h
    · rw [go m] at h; exact ex _ _ h
  have hl : ∀ p ds, (p, Cel.lst ds) ∈ os → ∃ vs, Gl p = some (.lst vs) ∧ Rps K Gl vs ds := fun p ds m => by
    obtain ⟨_, vs, h1, h2⟩ := ow.at_ _ m
    exact ⟨vs, (gi (mem_keys m)).trans h1, h2.mono e1⟩
  have hn : ∀ p ds, (p, Cel.lst ds) ∈ os → ∃ vs, Gl p = some (.lst vs) ∧ Rps K G vs ds := fun p ds m => by
    obtain ⟨_, vs, h1, h2⟩ := ow.at_ _ m
    exact ⟨vs, (gi (mem_keys m)).trans h1, h2⟩
  have hi : ∀ p C ns ds, (p, Cel.ins C ns ds) ∈ os → ∃ dx vs, Gl p = some (.ins C dx (ns.zip vs)) ∧ Rps K G vs ds := fun p C ns ds m => by
    obtain ⟨_, dx, vs, _, h1, h2⟩ := ow.at_ _ m
    exact ⟨dx, vs, (gi (mem_keys m)).trans h1, h2⟩
  refine ⟨Gl, e1, e2, fun f r => Rps.fm e1 hl hn hi f r, fun G2 H2 q ex2 => ?_⟩
  let G3 : Hp := fun a => if a ∈ keys os then none else G2 a
  have g3i : ∀ {a}, a ∈ keys os → G3 a = none := fun m => if_pos m
  have g3o : ∀ {a}, a ∉ keys os → G3 a = G2 a := fun m => if_neg m
  refine ⟨G3, ⟨fun a o h => ?_, fun a o h => ?_, q.keep, q.dom⟩, fun a o h => ?_, fun a xs h => ?_, fun a h => ?_, fun a o h => ?_, fun a o n h => ?_⟩
  · have m : a ∉ keys os := fun m => by rw [(key m).1] at h; cases h
    rw [g3o m]; exact q.ex _ _ (e1 _ _ h)
  · by_cases m : a ∈ keys os
    · rw [g3i m] at h; cases h
    · rw [g3o m] at h
      rcases q.new a o h with z | z
      · rw [go m] at z; exact .inl z
      · exact .inr z
  · by_cases m : a ∈ keys os
    · rw [g3i m] at h; cases h
    · rw [g3o m] at h; exact ex2 _ _ h
  · have m : a ∉ keys os := fun m => by
      obtain ⟨_, c, mc, ck⟩ := key m
      have : G2 a = H a := by
        obtain ⟨o, ho⟩ := ck.some
        rw [ho]
        exact q.ex _ _ ((gi m).trans ho)
      rw [this] at h
      cases c with
      | lst ds => obtain ⟨vs, z, _⟩ := ck; rw [z] at h; cases h
      | dT ds => obtain ⟨vs, l, z, _⟩ := ck; rw [z] at h; cases h
      | ins C ns ds => obtain ⟨dx, vs, l, z, _⟩ := ck; rw [z] at h; cases h
    rw [g3o m]; exact h
  · by_cases m : a ∈ keys os
    · exact g3i m
    · rw [g3o m]; exact h
  · by_cases m : a ∈ keys os
    · rw [g3i m] at h; cases h
    · rw [g3o m] at h; exact h
  · have m : a ∉ keys os := fun m => by
      obtain ⟨_, c, mc, ck⟩ := key m
      obtain ⟨o', ho⟩ := ck.some
      rw [n] at ho; cases ho
    rw [g3o m]; exact h
end
/-- a fresh list is handed back -/
def MadeR (ds : List Dt) : Res → Own → Prop := fun r os' => ∃ p, r = .ok (.adr p) ∧ os' = [(p, .lst ds)]
section
variable {K : Fg} {ss : SS} {os : Own} {ta : TA} {tx : TE} {ds es rs : List Dt} {d x x' : Dt} {E : XK} {n : Nat} {c : Ct}
/-- a call to which one's cells are lent: what it hands back, and what is new of one's own -/
theorem em_callL {P : Res → Own → Prop} (ha : EvA K ta ss os ds) (hf : Fms os ds es) (hn : es.length = n) (hc : c es [] P) (hE : ∀ C os', P (.er C) os' → False) (ht : ∀ d os', P (.ok d) os' → Thin d ∧ ∀ y ∈ os', ThinC y.2) :
    EvM K (tCall (spC K n c) [] E ta) ss os (CallP P os) := fun σ G H R Q q => ha σ G H R _ fun vs G1 H1 q1 e1 r1 => by
  have ow1 := R.ow.grow q1
  obtain ⟨Gl, l1, l2, lf, lb⟩ := lend ow1 e1
  have r2 := lf hf r1
  refine ⟨by rw [List.append_nil, r2.length, hn], es, [], P, Gl, l2, by rw [List.append_nil]; exact r2, ownOk_nil, hc, ?_⟩
  intro r os1 G2 H2 hP q2 e2 o2 n2
  cases r with
  | er C => exact (hE C os1 hP).elim
  | ok d =>
    intro v rv
    obtain ⟨t1, t2⟩ := ht d os1 hP
    obtain ⟨G3, q3, e3, tu, no, _, _⟩ := lb G2 H2 q2 e2
    have o3 : OwnOk K G3 H2 os1 := ⟨o2.nd, fun y m => ⟨no _ (o2.at_ y m).1, CelOk.thin tu (t2 y m) (o2.at_ y m).2⟩⟩
    have ob : OwnOk K G3 H2 (os1 ++ os) := OwnOk.back (osp := []) (by simpa using ow1) (by simpa using q3) o3 (by simpa using n2)
    refine q d _ v G3 H2 ⟨os1, hP, rfl⟩ ((q1.trans q3 (by simp)).wk (by simp)) e3 ob (fun y m => ?_) (Rp.thin tu t1 rv)
    rcases List.mem_append.mp m with m | m
    · rcases n2 y m with z | z
      · exact .inl (q1.dom _ z)
      · simp at z
    · exact .inr (mem_keys m)
theorem ef_callL (ha : EvA K ta ss os ds) (hf : Fms os ds es) (hn : es.length = n) (hc : c es [] (MadeR rs)) (ht : Thins rs) : EvF K (tCall (spC K n c) [] E ta) ss os rs := fun σ G H R Q q => ha σ G H R _ fun vs G1 H1 q1 e1 r1 => by
  have ow1 := R.ow.grow q1
  obtain ⟨Gl, l1, l2, lf, lb⟩ := lend ow1 e1
  have r2 := lf hf r1
  refine ⟨by rw [List.append_nil, r2.length, hn], es, [], MadeR rs, Gl, l2, by rw [List.append_nil]; exact r2, ownOk_nil, hc, ?_⟩
  rintro r os1 G2 H2 ⟨p, rfl, rfl⟩ q2 e2 o2 n2
  intro v rv
  cases rv
  obtain ⟨G3, q3, e3, tu, no, _, _⟩ := lb G2 H2 q2 e2
  obtain ⟨g, ws, h1, h2⟩ := o2.at_ _ List.mem_cons_self
  have np : H1 p = none := by
    rcases n2 _ List.mem_cons_self with z | z
    · exact z
    · simp at z
  exact q p ws G3 H2 (q1.dom _ np) (q1.trans q3 (by simp)) e3 (no _ g) h1 (Rps.thin tu ht h2)
theorem ev_callL (ha : EvA K ta ss os ds) (hf : Fms os ds es) (hn : es.length = n) (hc : c es [] (fun r os' => r = .ok d ∧ os' = [])) (ht : Thin d) : Ev K (tCall (spC K n c) [] E ta) ss os d := fun σ G H R Q q => ha σ G H R _ fun vs G1 H1 q1 e1 r1 => by
  have ow1 := R.ow.grow q1
  obtain ⟨Gl, l1, l2, lf, lb⟩ := lend ow1 e1
  have r2 := lf hf r1
  refine ⟨by rw [List.append_nil, r2.length, hn], es, [], _, Gl, l2, by rw [List.append_nil]; exact r2, ownOk_nil, hc, ?_⟩
  rintro r os1 G2 H2 ⟨rfl, rfl⟩ q2 e2 o2 n2
  intro v rv
  obtain ⟨G3, q3, e3, tu, no, _, _⟩ := lb G2 H2 q2 e2
  exact q v G3 H2 (q1.trans q3 (by simp)) e3 (Rp.thin tu ht rv)
/-- methods -/
theorem ef_methL {C : Addr} {m : Str} {ns : List Str} {fs : List Dt} (hx : Ev K tx ss os x) (l : IV os x C ns fs) (hm : ¬ m ∈ ns) (ha : EvA K ta ss os ds) (hf : Fms os (x :: ds) (x' :: es)) (hn : es.length + 1 = n) (hc : c (x' :: es) [] (MadeR rs)) (ht : Thins rs) :
    EvF K (tMeth C m (spC K n c) [] E tx ta) ss os rs := fun σ G H R Q q => hx σ G H R _ fun xv G0 H0 q0 e0 r0 => by
  obtain ⟨a, dx, vs0, rfl, g, rs0⟩ := (R.grow q0 e0).ins l r0
  refine ⟨a, dx, _, rfl, g, look_no hm, ha σ G0 H0 (R.grow q0 e0) _ fun vs G1 H1 q1' e1 r1 => ?_⟩
  have q1 := q0.trans q1' (by simp)
  have ow1 := R.ow.grow q1
  obtain ⟨Gl, l1, l2, lf, lb⟩ := lend ow1 e1
  have r2 := lf hf (.cons (r0.mono q1'.ex) r1)
  refine ⟨by rw [List.append_nil, r2.length, List.length_cons, hn], x' :: es, [], MadeR rs, Gl, l2, by rw [List.append_nil]; exact r2, ownOk_nil, hc, ?_⟩
  rintro r os1 G2 H2 ⟨p, rfl, rfl⟩ q2 e2 o2 n2
  intro v rv
  cases rv
  obtain ⟨G3, q3, e3, tu, no, _, _⟩ := lb G2 H2 q2 e2
  obtain ⟨g, ws, h1, h2⟩ := o2.at_ _ List.mem_cons_self
  have np : H1 p = none := by
    rcases n2 _ List.mem_cons_self with z | z
    · exact z
    · simp at z
  exact q p ws G3 H2 (q1.dom _ np) (q1.trans q3 (by simp)) e3 (no _ g) h1 (Rps.thin tu ht h2)
/-- a call that hands back a fresh list -/
theorem ef_call (ha : EvA K ta ss os ds) (hn : ds.length = n) (hc : c ds [] (MadeR rs)) : EvF K (tCall (spC K n c) [] E ta) ss os rs := fun σ G H R Q q => ha σ G H R _ fun vs G1 H1 q1 e1 r1 => by
  refine ⟨by rw [List.append_nil, r1.length, hn], ds, [], MadeR rs, G1, e1, by rw [List.append_nil]; exact r1, ownOk_nil, hc, ?_⟩
  rintro r os1 G2 H2 ⟨p, rfl, rfl⟩ q2 e2 o2 n2
  intro v rv
  cases rv
  obtain ⟨g, ws, h1, h2⟩ := o2.at_ _ List.mem_cons_self
  have np : H1 p = none := by
    rcases n2 _ List.mem_cons_self with z | z
    · exact z
    · simp at z
  exact q p ws G2 H2 (q1.dom _ np) (q1.trans q2 (by simp)) e2 g h1 h2
theorem Fms.refl : ∀ ds : List Dt, Fms os ds ds
  | [] => .nil
  | x :: r => .cons (.same x) (Fms.refl r)
end
/-- the end of a def that hands back a fresh list -/
theorem do_retF {K : Fg} {B : Bs} {D : Ends} {te : TE} {ss : SS} {os : Own} {ds : List Dt} (h : EvF K te ss os ds) (k : ∀ p, p ∉ keys os → Rt K B D.rt (.adr p) (os ++ [(p, .lst ds)])) : Do K B (tRet te) ss os D :=
  do_retM (em_F h) fun d os' hp => by
    obtain ⟨p, np, rfl, rfl⟩ := hp
    exact k p np
theorem rt_sub {K : Fg} {B : Bs} {Q : VK} {d : Dt} {os os' : Own} (h : Rt K B Q d os') (hs : ∀ x ∈ os', x ∈ os) (hd : (keys os').Nodup) : Rt K B Q d os := fun v G H b e o r =>
  h v G H ⟨b.gq, fun x m => b.nw x (hs x m)⟩ e ⟨hd, fun x m => o.at_ x (hs x m)⟩ r
end Cy

namespace Cy
open PySem L2
local macro_rules | `(tactic| walk_at "lv") => `(tactic| first | exact LV.lst | exact LV.scr | exact LV.own List.mem_cons_self | exact LV.own (List.mem_cons_of_mem _ List.mem_cons_self) | exact LV.own (List.mem_cons_of_mem _ (List.mem_cons_of_mem _ List.mem_cons_self)) | exact LV.own (List.mem_cons_of_mem _ (List.mem_cons_of_mem _ (List.mem_cons_of_mem _ List.mem_cons_self))))
local macro_rules | `(tactic| walk_at "at") => `(tactic| first | exact at_mapN (by assumption) | exact at_map (by omega) (by assumption) | rfl | exact at_of (by omega) (by assumption))
local macro_rules | `(tactic| walk_at "side") => `(tactic| first | assumption | omega | decide)
local macro_rules | `(tactic| walk_at "ea") => `(tactic| first | exact ea_nil | (apply ea_cons; walk_at "ev"; walk_at "ea"))
local macro_rules | `(tactic| walk_at "et") => `(tactic| first
  | exact et_yes
  | (apply et_B; walk_at "ev")
  | (apply et_T; walk_at "ev")
  | (apply et_not; walk_at "et"))
local macro_rules | `(tactic| walk_at "ev") => `(tactic| first
  | exact ev_var rfl
  | exact ev_cint | exact ev_cbl | exact ev_cstr | exact ev_cnon
  | (apply ev_ii; walk_at "ev"; walk_at "ev")
  | (apply ev_ib; walk_at "ev"; walk_at "ev")
  | (apply ev_eqI; walk_at "ev"; walk_at "ev")
  | (apply ev_neI; walk_at "ev"; walk_at "ev")
  | (apply ev_ixL; walk_at "ev"; walk_at "lv"; walk_at "ev"; walk_at "at")
  | (apply ev_ixT; walk_at "ev"; walk_at "ev"; walk_at "at")
  | (apply ev_len; walk_at "ev"; walk_at "lv")
  | (apply ev_lenT; walk_at "ev")
  | (apply ev_min2; walk_at "ev"; walk_at "ev")
  | (apply ev_max2; walk_at "ev"; walk_at "ev")
  | (apply ev_tup; walk_at "ea"; (first | decide | simp | skip))
  | (apply ev_iC; walk_at "ev"; walk_at "ev"; walk_at "cond")
  | (apply ev_fldI; walk_at "cls"; walk_at "cls"; walk_at "ev"; walk_at "iv"; rfl; rfl; rfl)
  | (apply ev_F; walk_at "ef")
  | walk_at "call")
local macro_rules | `(tactic| walk_at "ef") => `(tactic| first
  | (apply ef_list; walk_at "ev"; walk_at "lv")
  | (apply ef_lst; walk_at "ea"; (first | decide | simp | skip)))
local macro_rules | `(tactic| walk_at "iv") => `(tactic| first | exact IV.ins | exact IV.own List.mem_cons_self | exact IV.own (List.mem_cons_of_mem _ List.mem_cons_self) | exact IV.own (List.mem_cons_of_mem _ (List.mem_cons_of_mem _ List.mem_cons_self)) | exact IV.own (List.mem_cons_of_mem _ (List.mem_cons_of_mem _ (List.mem_cons_of_mem _ List.mem_cons_self))))
local macro_rules | `(tactic| walk_at "cond") => `(tactic| first | exact Or.inr (by decide) | exact Or.inl (by decide) | (exact ⟨by decide, by decide⟩) | (show (0 : Int) < _; first | decide | assumption | omega))
local macro_rules | `(tactic| walk_at "cls") => `(tactic| first | assumption | exact YardF.cls (by assumption) | exact YardF.sizes (by assumption) | exact YardF.held (by assumption))
local macro_rules | `(tactic| walk_at "call") => `(tactic| fail "no call")
theorem at_getD {xs : List Int} {i : Nat} (h : i < xs.length) : atI (xs.map Dt.int) (i : Int) = some (.int (xs.getD i 0)) := at_mapN (getD_some h)
theorem len_int (xs : List Int) : ((xs.map Dt.int).length : Int) = (xs.length : Int) := by rw [List.length_map]
abbrev yd (A : Ad) (rooms : List Int) (x : Dt) : Dt := .ins A.Yard ["sizes", "held"] [iL rooms, x]
def c_within (A : Ad) : Ct := pureC (α := List Int × Int) (fun _ => True) (fun x => [iL x.1, .int x.2]) fun x => .ok (.bl (withinB x.1 x.2))
def rd_within (K : Fg) (A : Ad) : TS :=
  tSeq (tFor (iList K (tVar 0)) (gName 2) 
        (tIfS (tOr (tTest (tOp (rI0 fun i j => V.bl (decide (i < j))) (tVar 2) (tC (V.int 0)))) (tTest (tOp (rI0 fun i j => V.bl (decide (j < i))) (tVar 2) (tVar 1)))) (tRet (tC (V.bl false))) (tNext))) 
      (tRet (tC (V.bl true)))
theorem sem_within {K : Fg} {A : Ad} : ∀ vs H Q E, spC K 2 (c_within A) vs H Q E → rd_within K A { nx := fun _ H' => Q .non H', rt := Q } (start ["numbers", "most", "number"] vs) H :=
  body_ok fun ds os P hl hc B D hfp hR hN => by
    obtain ⟨⟨ns, m⟩, _, rfl, rfl, rfl⟩ := hc
    refine q_forM (ev_var rfl) (fun i ss os => (∃ o, ss = [some (iL ns), some (.int m), o]) ∧ os = [] ∧ ∀ x ∈ ns.take i, 0 ≤ x ∧ x ≤ m) ⟨⟨_, rfl⟩, rfl, by simp⟩ (fun B1 hB i n ss os hn hI => ?_) (fun ss os hI => ?_)
    · obtain ⟨⟨o, rfl⟩, rfl, hx⟩ := hI
      refine ⟨_, tg_name, do_if (et_or (by walk_at "et") fun _ => by walk_at "et") (fun hb => ?_) (fun hb => ?_)⟩
      · refine do_ret ev_cbl ((hR.up hB).rt ⟨?_, rfl⟩)
        have : withinB ns m = false := by
          refine Bool.eq_false_iff.mpr fun h => ?_
          have := withinB_iff.mp h n (List.mem_of_getElem? hn)
          simp at hb
          omega
        show Res.ok _ = Res.ok (.bl (withinB ns m))
        rw [this]
      · refine do_nx (nx_at ⟨⟨_, rfl⟩, rfl, fun x hm => ?_⟩)
        rw [List.take_add_one, hn] at hm
        rcases List.mem_append.mp hm with hm | hm
        · exact hx x hm
        · simp at hb
          have : x = n := by simpa using hm
          omega
    · obtain ⟨⟨o, rfl⟩, rfl, hx⟩ := hI
      rw [List.take_length] at hx
      refine do_ret ev_cbl (hR.rt ⟨?_, rfl⟩)
      show Res.ok _ = Res.ok (.bl (withinB ns m))
      rw [withinB_iff.mpr hx]
def c_l_drawn (A : Ad) : Ct := pureC (α := List Int × Int × Int) (fun x => 0 < x.2.2) (fun x => [.scr x.1, .int x.2.1, .int x.2.2]) fun x => .ok (.int (drawn x.1 x.2.1 x.2.2))
def rd_l_drawn (K : Fg) (A : Ad) : TS :=
  tSeq (tAsg (tC (V.int 7)) (gName 3)) 
      (Evl.tCut (tIfS (tTest (tOp (rI0 fun i j => V.bl (decide (j < i))) (tCB (Evl.rLenS K) (tCons (tVar 0) (tNil))) (tC (V.int 0)))) (tAsg (tOp (rIxL K) (tVar 0) (tOp (rI (fun _ j => 0 < j) fun i j => V.int (i % j)) (tVar 1) (tCB (Evl.rLenS K) (tCons (tVar 0) (tNil))))) (gName 3)) (tNext)) 
      (tSeq (tAsg (tOp (rI (fun _ j => 0 < j) fun i j => V.int (i % j)) (tOp (rI0 fun i j => V.int (i + j)) (tOp (rI0 fun i j => V.int (i + j)) (tOp (rI CMul fun i j => V.int (i * j)) (tVar 3) (tC (V.int 48271))) (tOp (rI CMul fun i j => V.int (i * j)) (tOp (rI0 fun i j => V.int (i + j)) (tVar 1) (tC (V.int 1))) (tC (V.int 7919)))) (tCB (Evl.rLenS K) (tCons (tVar 0) (tNil)))) (tC (V.int 2147483647))) (gName 4)) 
      (tSeq (tAsg (tOp (rI (fun _ j => 0 < j) fun i j => V.int (i % j)) (tOp (rI0 fun i j => V.int (i + j)) (tOp (rI0 fun i j => V.int (i + j)) (tOp (rI CMul fun i j => V.int (i * j)) (tVar 4) (tVar 4)) (tOp (rI CMul fun i j => V.int (i * j)) (tVar 1) (tC (V.int 16807)))) (tC (V.int 11))) (tC (V.int 2147483647))) (gName 4)) 
      (tRet (tOp (rI (fun _ j => 0 < j) fun i j => V.int (i % j)) (tOp (rI CDivN fun i j => V.int (i.fdiv j)) (tOp (rI (fun _ j => 0 < j) fun i j => V.int (i % j)) (tOp (rI CMul fun i j => V.int (i * j)) (tVar 4) (tC (V.int 48271))) (tC (V.int 2147483647))) (tC (V.int 16))) (tVar 2))))))
theorem cmul_sq {a : Int} (h : 0 ≤ a ∧ a < 2147483647) : CMul a a := .inl ⟨by omega, by omega⟩
theorem sem_l_drawn {K : Fg} {A : Ad} : ∀ vs H Q E, spC K 3 (c_l_drawn A) vs H Q E → rd_l_drawn K A { nx := fun _ H' => Q .non H', rt := Q } (start ["script", "k", "many", "cell", "stir"] vs) H :=
  body_ok fun ds os P hl hc B D hfp hR hN => by
    obtain ⟨⟨ns, k, many⟩, hm, rfl, rfl, rfl⟩ := hc
    have hm : 0 < many := hm
    refine q_asg ev_cint (do_cut (fun ss os => ss = [some (.scr ns), some (.int k), some (.int many), some (.int (cellD ns k)), none] ∧ os = []) (do_if (by walk_at "et") (fun hb => ?_) (fun hb => ?_)) ?_)
    · have hl : 0 < ns.length := by simpa using hb
      have hp : (0 : Int) < (ns.length : Int) := by omega
      have h1 := Int.emod_nonneg k (show (ns.length : Int) ≠ 0 by omega)
      have h2 := Int.emod_lt_of_pos k hp
      have hg : ns[(k % (ns.length : Int)).toNat]? = some (cellD ns k) := by
        unfold cellD
        rw [if_pos hl]
        exact getD_some (by omega)
      refine do_asg (ev_ixL (ev_var rfl) LV.scr (ev_iC (by walk_at "ev") (by walk_at "ev") (by simpa using hp)) (by
        have := at_map (f := Dt.int) h1 hg
        simpa using this)) (nx_at ⟨rfl, rfl⟩)
    · have hl : ¬ 0 < ns.length := by simpa using hb
      refine do_nx (nx_at ⟨?_, rfl⟩)
      unfold cellD
      rw [if_neg hl]
      rfl
    · rintro ss os ⟨rfl, rfl⟩
      refine q_asg (by walk_at "ev") ?_
      refine q_asg (ev_iC (ev_ii (ev_ii (ev_iC (ev_var rfl) (ev_var rfl) (cmul_sq ⟨Int.emod_nonneg _ (by decide), Int.emod_lt_of_pos _ (by decide)⟩)) (by walk_at "ev")) ev_cint) ev_cint (by decide)) ?_
      refine do_ret (ev_iC (by walk_at "ev") (ev_var rfl) hm) (hR.rt ⟨?_, rfl⟩)
      show Res.ok _ = Res.ok (.int (drawn ns k many))
      unfold drawn
      simp only [List.length_map]
def c_see_day (A : Ad) : Ct := pureC (α := List Int × Dt × Day) (fun _ => True) (fun x => [yd A x.1 x.2.1, dayD x.2.2]) fun x => if dayOk x.1.length x.2.2 then .ok .non else .er A.BadDays
def rd_see_day (K : Fg) (A : Ad) (E : XK) : TS :=
  tFor (iList K (tLst (tCons (tOp (rIxT K) (tVar 1) (tC (V.int 0))) (tCons (tOp (rIxT K) (tVar 1) (tC (V.int 1))) (tNil))))) (gName 2) 
        (tIfS (tOr (tTest (tOp (rNe) (tCB (Evl.rLenS K) (tCons (tVar 2) (tNil))) (tCB (Evl.rLenS K) (tCons (tFld K (tVar 0) "sizes") (tNil))))) (tNot (tB (tCall (spC K 2 (c_within A)) [] E0 (tCons (tVar 2) (tCons (tC (V.int 30)) (tNil))))))) (tRaise E A.BadDays) (tNext))
theorem sem_see_day {K : Fg} {A : Ad} (Y : YardF K A) : ∀ vs H Q E, spC K 2 (c_see_day A) vs H Q E → rd_see_day K A E { nx := fun _ H' => Q .non H', rt := Q } (start ["yard", "day", "numbers"] vs) H :=
  body_okX fun ds os P E hl hc B D hfp hR hE hN => by
    obtain ⟨⟨rooms, x, r, w⟩, _, rfl, rfl, rfl⟩ := hc
    refine do_forM (xs := [r, w]) (f0 := iL) (ev_F (ef_lst (ea_cons (ev_ixT (ev_var rfl) ev_cint rfl) (ea_cons (ev_ixT (ev_var rfl) ev_cint rfl) ea_nil)) (by simp))) (fun i ss os => (∃ o, ss = [some (yd A rooms x), some (dayD (r, w)), o]) ∧ os = [] ∧ ∀ z ∈ [r, w].take i, lOk rooms.length z = true) ⟨⟨_, rfl⟩, rfl, by simp⟩ (fun B1 hB i z ss os hz hI => ?_) (fun ss os hI => ?_)
    · obtain ⟨⟨o, rfl⟩, rfl, hx⟩ := hI
      refine ⟨_, tg_name, do_if (et_or (by walk_at "et") fun _ => et_not (et_B (ev_call (z, 30) (by walk_at "ea") rfl trivial rfl))) (fun hb => ?_) (fun hb => ?_)⟩
      · refine do_raise ((hE.up hB).xt ⟨?_, rfl⟩)
        have : dayOk rooms.length (r, w) = false := by
          refine Bool.eq_false_iff.mpr fun h => ?_
          have h1 := dayOk_iff.mp h
          have h2 : lOk rooms.length z = true := by
            have := List.mem_of_getElem? hz
            simp at this
            rcases this with rfl | rfl
            · exact h1.1
            · exact h1.2
          have h3 := lOk_iff.mp h2
          simp [h3.2] at hb
          omega
        show Res.er _ = if dayOk rooms.length (r, w) then Res.ok .non else .er A.BadDays
        rw [this]
        rfl
      · refine do_nx (nx_at ⟨⟨_, rfl⟩, rfl, fun y hm => ?_⟩)
        rw [List.take_add_one, hz] at hm
        rcases List.mem_append.mp hm with hm | hm
        · exact hx y hm
        · have : y = z := by simpa using hm
          subst this
          simp at hb
          exact lOk_iff.mpr ⟨by omega, hb.2⟩
    · obtain ⟨⟨o, rfl⟩, rfl, hx⟩ := hI
      have : dayOk rooms.length (r, w) = true := dayOk_iff.mpr ⟨hx r (by simp), hx w (by simp)⟩
      refine hN _ (Bs.Le.refl _) _ _ ⟨?_, rfl⟩
      show Res.ok .non = if dayOk rooms.length (r, w) then Res.ok .non else .er A.BadDays
      rw [this]
      rfl
def c_see_days (A : Ad) : Ct := pureC (α := List Int × Dt × List Day) (fun _ => True) (fun x => [yd A x.1 x.2.1, daysD x.2.2]) fun x => if daysOk x.1.length x.2.2 then .ok .non else .er A.BadDays
def rd_see_days (K : Fg) (A : Ad) (E : XK) : TS :=
  tSeq (tIfS (tTest (tOp (rI0 fun i j => V.bl (decide (j < i))) (tCB (Evl.rLenS K) (tCons (tVar 1) (tNil))) (tC (V.int 8)))) (tRaise E A.BadDays) (tNext)) 
      (tFor (iList K (tVar 1)) (gName 2) 
        (tDrop (tCall (spC K 2 (c_see_day A)) [] E (tCons (tVar 0) (tCons (tVar 2) (tNil))))))
theorem sem_see_days {K : Fg} {A : Ad} (Y : YardF K A) : ∀ vs H Q E, spC K 2 (c_see_days A) vs H Q E → rd_see_days K A E { nx := fun _ H' => Q .non H', rt := Q } (start ["yard", "days", "day"] vs) H :=
  body_okX fun ds os P E hl hc B D hfp hR hE hN => by
    obtain ⟨⟨rooms, x, days⟩, _, rfl, rfl, rfl⟩ := hc
    refine q_when (by walk_at "et") (fun hb => do_raise (hE.xt ⟨?_, rfl⟩)) (fun hb => ?_)
    · have : daysOk rooms.length days = false := by
        refine Bool.eq_false_iff.mpr fun h => ?_
        have := (daysOk_iff.mp h).1
        simp at hb
        omega
      show Res.er _ = if daysOk rooms.length days then Res.ok .non else .er A.BadDays
      rw [this]
      rfl
    · have h8 : days.length ≤ 8 := by simp at hb; omega
      refine do_forM (ev_var rfl) (fun i ss os => (∃ o, ss = [some (yd A rooms x), some (daysD days), o]) ∧ os = [] ∧ ∀ z ∈ days.take i, dayOk rooms.length z = true) ⟨⟨_, rfl⟩, rfl, by simp⟩ (fun B1 hB i z ss os hz hI => ?_) (fun ss os hI => ?_)
      · obtain ⟨⟨o, rfl⟩, rfl, hx⟩ := hI
        refine ⟨_, tg_name, do_callX (ds := [yd A rooms x, dayD z]) (osp := []) (osr := []) (by walk_at "ea") rfl (List.Perm.refl _) ⟨(rooms, x, z), trivial, rfl, rfl, rfl⟩ (fun d os1 h => ?_) (fun C os1 h => ?_)⟩
        · obtain ⟨h, rfl⟩ := h
          have hz2 : dayOk rooms.length z = true := by
            cases e : dayOk rooms.length z with
            | true => rfl
            | false =>
              have h : Res.ok d = if dayOk rooms.length z then Res.ok .non else .er A.BadDays := h
              rw [e] at h; cases h
          refine nx_at ⟨⟨_, rfl⟩, rfl, fun y hm => ?_⟩
          rw [List.take_add_one, hz] at hm
          rcases List.mem_append.mp hm with hm | hm
          · exact hx y hm
          · have : y = z := by simpa using hm
            subst this
            exact hz2
        · obtain ⟨h, rfl⟩ := h
          have h : Res.er C = if dayOk rooms.length z then Res.ok .non else .er A.BadDays := h
          cases e : dayOk rooms.length z with
          | true => rw [e] at h; cases h
          | false =>
            rw [e] at h
            cases h
            refine (hE.up hB).xt ⟨?_, rfl⟩
            have : daysOk rooms.length days = false := by
              refine Bool.eq_false_iff.mpr fun h => ?_
              have := (daysOk_iff.mp h).2 z (List.mem_of_getElem? hz)
              rw [e] at this; cases this
            show Res.er _ = if daysOk rooms.length days then Res.ok .non else .er A.BadDays
            rw [this]
            rfl
      · obtain ⟨⟨o, rfl⟩, rfl, hx⟩ := hI
        rw [List.take_length] at hx
        refine hN _ (Bs.Le.refl _) _ _ ⟨?_, rfl⟩
        show Res.ok .non = if daysOk rooms.length days then Res.ok .non else .er A.BadDays
        rw [daysOk_iff.mpr ⟨h8, hx⟩]
        rfl
end Cy

namespace Cy
open PySem L2
local macro_rules | `(tactic| walk_at "lv") => `(tactic| first | exact LV.lst | exact LV.scr | exact LV.own List.mem_cons_self | exact LV.own (List.mem_cons_of_mem _ List.mem_cons_self) | exact LV.own (List.mem_cons_of_mem _ (List.mem_cons_of_mem _ List.mem_cons_self)) | exact LV.own (List.mem_cons_of_mem _ (List.mem_cons_of_mem _ (List.mem_cons_of_mem _ List.mem_cons_self))))
local macro_rules | `(tactic| walk_at "at") => `(tactic| first | exact at_mapN (by assumption) | exact at_map (by omega) (by assumption) | rfl | exact at_of (by omega) (by assumption))
local macro_rules | `(tactic| walk_at "side") => `(tactic| first | assumption | omega | decide)
local macro_rules | `(tactic| walk_at "ea") => `(tactic| first | exact ea_nil | (apply ea_cons; walk_at "ev"; walk_at "ea"))
local macro_rules | `(tactic| walk_at "et") => `(tactic| first
  | exact et_yes
  | (apply et_B; walk_at "ev")
  | (apply et_T; walk_at "ev")
  | (apply et_not; walk_at "et"))
local macro_rules | `(tactic| walk_at "ev") => `(tactic| first
  | exact ev_var rfl
  | exact ev_cint | exact ev_cbl | exact ev_cstr | exact ev_cnon
  | (apply ev_ii; walk_at "ev"; walk_at "ev")
  | (apply ev_ib; walk_at "ev"; walk_at "ev")
  | (apply ev_eqI; walk_at "ev"; walk_at "ev")
  | (apply ev_neI; walk_at "ev"; walk_at "ev")
  | (apply ev_ixL; walk_at "ev"; walk_at "lv"; walk_at "ev"; walk_at "at")
  | (apply ev_ixT; walk_at "ev"; walk_at "ev"; walk_at "at")
  | (apply ev_len; walk_at "ev"; walk_at "lv")
  | (apply ev_lenT; walk_at "ev")
  | (apply ev_min2; walk_at "ev"; walk_at "ev")
  | (apply ev_max2; walk_at "ev"; walk_at "ev")
  | (apply ev_tup; walk_at "ea"; (first | decide | simp | skip))
  | (apply ev_iC; walk_at "ev"; walk_at "ev"; walk_at "cond")
  | (apply ev_fldI; walk_at "cls"; walk_at "cls"; walk_at "ev"; walk_at "iv"; rfl; rfl; rfl)
  | (apply ev_F; walk_at "ef")
  | walk_at "call")
local macro_rules | `(tactic| walk_at "ef") => `(tactic| first
  | (apply ef_list; walk_at "ev"; walk_at "lv")
  | (apply ef_lst; walk_at "ea"; (first | decide | simp | skip)))
local macro_rules | `(tactic| walk_at "iv") => `(tactic| first | exact IV.ins | exact IV.own List.mem_cons_self | exact IV.own (List.mem_cons_of_mem _ List.mem_cons_self) | exact IV.own (List.mem_cons_of_mem _ (List.mem_cons_of_mem _ List.mem_cons_self)) | exact IV.own (List.mem_cons_of_mem _ (List.mem_cons_of_mem _ (List.mem_cons_of_mem _ List.mem_cons_self))))
local macro_rules | `(tactic| walk_at "cond") => `(tactic| first | exact Or.inr (by decide) | exact Or.inl (by decide) | (exact ⟨by decide, by decide⟩) | (show (0 : Int) < _; first | decide | assumption | omega))
local macro_rules | `(tactic| walk_at "cls") => `(tactic| first | assumption | exact YardF.cls (by assumption) | exact YardF.sizes (by assumption) | exact YardF.held (by assumption))
local macro_rules | `(tactic| walk_at "call") => `(tactic| fail "no call")
local macro_rules | `(tactic| walk_at "at") => `(tactic| exact at_getD (by first | assumption | omega))
theorem setC_one {p : Addr} {c c' : Cel} : setC [(p, c)] p c' = [(p, c')] := by simp [setC]
theorem setC_fst {p : Addr} {c c' : Cel} {r : Own} (h : p ∉ keys r) : setC ((p, c) :: r) p c' = (p, c') :: r := by
  unfold setC
  rw [List.map_cons]
  congr 1
  · simp
  · have : ∀ x ∈ r, (if x.1 = p then (p, c') else x) = x := fun x m => if_neg fun (e : x.1 = p) => h (by rw [← e]; exact mem_keys m)
    rw [List.map_congr_left this, List.map_id'']
    intro x; rfl
theorem setC_snd {p q : Addr} {c d' : Cel} {r : Own} (h : p ≠ q) : setC ((p, c) :: r) q d' = (p, c) :: setC r q d' := by
  unfold setC
  rw [List.map_cons]
  congr 1
  simp [h]
theorem yardOk_iff {rooms waters : List Int} : yardOk rooms waters = true ↔ (1 ≤ rooms.length ∧ rooms.length ≤ 4 ∧ waters.length = rooms.length ∧ withinB rooms 50 = true ∧ ∀ k, k < rooms.length → 0 ≤ waters.getD k 0 ∧ waters.getD k 0 ≤ rooms.getD k 0) := by
  simp [yardOk]
def c_Yard_init (A : Ad) : Ct := fun ds os P => ∃ p rooms waters, ds = [.adr p, iL rooms, iL waters] ∧ os = [(p, .ins A.Yard [] [])] ∧ P = fun r os' =>
  if yardOk rooms waters then r = .ok .non ∧ ∃ h, h ≠ p ∧ os' = [(p, .ins A.Yard ["sizes", "held"] [iL rooms, .adr h]), (h, .lst (waters.map Dt.int))] else r = .er A.BadYard
def rd_Yard_init (K : Fg) (A : Ad) (E : XK) : TS :=
  tSeq (tIfS (tOr (tTest (tOp (rI0 fun i j => V.bl (decide (i < j))) (tCB (Evl.rLenS K) (tCons (tVar 1) (tNil))) (tC (V.int 1)))) (tOr (tTest (tOp (rI0 fun i j => V.bl (decide (j < i))) (tCB (Evl.rLenS K) (tCons (tVar 1) (tNil))) (tC (V.int 4)))) (tTest (tOp (rNe) (tCB (Evl.rLenS K) (tCons (tVar 2) (tNil))) (tCB (Evl.rLenS K) (tCons (tVar 1) (tNil))))))) (tRaise E A.BadYard) (tNext)) 
      (tSeq (tIfS (tNot (tB (tCall (spC K 2 (c_within A)) [] E0 (tCons (tVar 1) (tCons (tC (V.int 50)) (tNil)))))) (tRaise E A.BadYard) (tNext)) 
      (tSeq (tFor (iRng1 (tCons (tCB (Evl.rLenS K) (tCons (tVar 1) (tNil))) (tNil))) (gName 3) 
        (tIfS (tOr (tTest (tOp (rI0 fun i j => V.bl (decide (i < j))) (tOp (rIxL K) (tVar 2) (tVar 3)) (tC (V.int 0)))) (tTest (tOp (rI0 fun i j => V.bl (decide (j < i))) (tOp (rIxL K) (tVar 2) (tVar 3)) (tOp (rIxL K) (tVar 1) (tVar 3))))) (tRaise E A.BadYard) (tNext))) 
      (tSeq (sFld K (tVar 0) (tCB (Evl.rListS K) (tCons (tVar 1) (tNil))) "sizes") 
      (sFld K (tVar 0) (tCB (Evl.rListS K) (tCons (tVar 2) (tNil))) "held"))))
theorem sem_Yard_init {K : Fg} {A : Ad} (Y : YardF K A) : ∀ vs H Q E, spC K 3 (c_Yard_init A) vs H Q E → rd_Yard_init K A E { nx := fun _ H' => Q .non H', rt := Q } (start ["self", "rooms", "waters", "k"] vs) H :=
  body_okX fun ds os P E hl hc B D hfp hR hE hN => by
    obtain ⟨p, rooms, waters, rfl, rfl, rfl⟩ := hc
    have bad : ¬ yardOk rooms waters = true → ∀ {B' os}, B.Le B' → Xt K B' E A.BadYard os := fun h B' os le => hE B' le A.BadYard os (by simp only [if_neg h])
    refine q_when (et_or (by walk_at "et") fun _ => et_or (by walk_at "et") fun _ => by walk_at "et") (fun hb => do_raise (bad ?_ (Bs.Le.refl _))) (fun hb => ?_)
    · intro h
      obtain ⟨h1, h2, h3, _⟩ := yardOk_iff.mp h
      simp at hb
      omega
    simp at hb
    refine q_when (et_not (et_B (ev_call (rooms, 50) (by walk_at "ea") rfl trivial rfl))) (fun h5 => do_raise (bad ?_ (Bs.Le.refl _))) (fun h5 => ?_)
    · intro h
      obtain ⟨_, _, _, h4, _⟩ := yardOk_iff.mp h
      simp [h4] at h5
    have h5 : withinB rooms 50 = true := by simpa using h5
    have hw : waters.length = rooms.length := by omega
    refine q_forR (ea_cons (by walk_at "ev") ea_nil) (by rw [len_int]; omega) (by rw [len_int]; omega) (fun i ss os => (∃ o, ss = [some (.adr p), some (iL rooms), some (iL waters), o]) ∧ os = [(p, .ins A.Yard [] [])] ∧ ∀ k, k < i → 0 ≤ waters.getD k 0 ∧ waters.getD k 0 ≤ rooms.getD k 0) ⟨⟨_, rfl⟩, rfl, by omega⟩ (fun i ss os hi hI => ?_) (fun ss os hI => ?_)
    · obtain ⟨⟨o, rfl⟩, rfl, hx⟩ := hI
      have hi : i < rooms.length := by simpa using hi
      have hi2 : i < waters.length := by omega
      refine do_if (et_or (by walk_at "et") fun _ => by walk_at "et") (fun hb => do_raise (bad ?_ (Bs.Le.refl _))) (fun hb => do_nx (nx_at ⟨⟨_, rfl⟩, rfl, fun k hk => ?_⟩))
      · intro h
        have := (yardOk_iff.mp h).2.2.2.2 i hi
        simp [-List.getD_eq_getElem?_getD] at hb
        omega
      · by_cases e : k = i
        · subst e
          simp [-List.getD_eq_getElem?_getD] at hb
          omega
        · exact hx k (by omega)
    · obtain ⟨⟨o, rfl⟩, rfl, hx⟩ := hI
      have hx : ∀ k, k < rooms.length → 0 ≤ waters.getD k 0 ∧ waters.getD k 0 ≤ rooms.getD k 0 := fun k hk => hx k (by simpa using hk)
      have ok : yardOk rooms waters = true := yardOk_iff.mpr ⟨by omega, by omega, hw, h5, hx⟩
      refine q_fld Y.cls Y.sizes (by walk_at "ev") (ev_var rfl) List.mem_cons_self (by simp) (by simp) ?_
      rw [setC_one]
      refine do_fldM Y.cls Y.held (em_F (ef_list (ev_var rfl) LV.lst)) rfl fun d os' hd => ?_
      obtain ⟨h, nh, rfl, rfl⟩ := hd
      have ne : h ≠ p := by simpa using nh
      refine ⟨_, _, List.mem_append_left _ List.mem_cons_self, by decide, by simp, ?_⟩
      refine hN _ (Bs.Le.refl _) _ _ ?_
      show (if yardOk rooms waters = true then _ else _)
      rw [if_pos ok]
      refine ⟨rfl, h, ne, ?_⟩
      show setC ((p, _) :: [(h, _)]) p _ = _
      rw [setC_fst (by simpa using ne.symm)]
      rfl
def c_Yard_rooms (A : Ad) : Ct := fun ds os P => ∃ rooms x, ds = [yd A rooms x] ∧ os = [] ∧ P = MadeR (rooms.map Dt.int)
def rd_Yard_rooms (K : Fg) (A : Ad) : TS :=
  tRet (tCB (Evl.rListS K) (tCons (tFld K (tVar 0) "sizes") (tNil)))
theorem sem_Yard_rooms {K : Fg} {A : Ad} (Y : YardF K A) : ∀ vs H Q E, spC K 1 (c_Yard_rooms A) vs H Q E → rd_Yard_rooms K A { nx := fun _ H' => Q .non H', rt := Q } (start ["self"] vs) H :=
  body_ok fun ds os P hl hc B D hfp hR hN => by
    obtain ⟨rooms, x, rfl, rfl, rfl⟩ := hc
    exact do_retF (ef_list (by walk_at "ev") LV.lst) fun p _ => hR.rt ⟨p, rfl, rfl⟩
def c_Yard_waters (A : Ad) : Ct := fun ds os P => ∃ rooms held, ds = [yardD A rooms held] ∧ os = [] ∧ P = MadeR (held.map Dt.int)
def rd_Yard_waters (K : Fg) (A : Ad) : TS :=
  tRet (tCB (Evl.rListS K) (tCons (tFld K (tVar 0) "held") (tNil)))
theorem sem_Yard_waters {K : Fg} {A : Ad} (Y : YardF K A) : ∀ vs H Q E, spC K 1 (c_Yard_waters A) vs H Q E → rd_Yard_waters K A { nx := fun _ H' => Q .non H', rt := Q } (start ["self"] vs) H :=
  body_ok fun ds os P hl hc B D hfp hR hN => by
    obtain ⟨rooms, x, rfl, rfl, rfl⟩ := hc
    exact do_retF (ef_list (by walk_at "ev") LV.lst) fun p _ => hR.rt ⟨p, rfl, rfl⟩
def c_Yard_day (A : Ad) : Ct := fun ds os P => ∃ rooms held h day, held.length = rooms.length ∧ rooms.length ≤ 4 ∧ ds = [yardO A rooms h, iL (Prod.fst day), iL (Prod.snd day)] ∧ os = [(h, .lst (held.map Dt.int))] ∧ P = fun r os' =>
  if dayOk rooms.length day then let s := dayRun rooms held day.1 day.2; ∃ q, q ≠ h ∧ r = .ok (.tup [.adr q, .int s.over]) ∧ os' = [(h, .lst (s.held.map Dt.int)), (q, .lst (s.drawn.map Dt.int))]
  else r = .er A.BadDays ∧ os' = [(h, .lst (held.map Dt.int))]
def rd_Yard_day (K : Fg) (A : Ad) (E : XK) : TS :=
  tSeq (tDrop (tCall (spC K 2 (c_see_day A)) [] E (tCons (tVar 0) (tCons (tTup (tCons (tVar 1) (tCons (tVar 2) (tNil)))) (tNil))))) 
      (tSeq (tAsg (tLst (tNil)) (gName 3)) 
      (tSeq (tAsg (tC (V.int 0)) (gName 4)) 
      (tSeq (tFor (iRng1 (tCons (tCB (Evl.rLenS K) (tCons (tFld K (tVar 0) "sizes") (tNil))) (tNil))) (gName 5) 
        (tSeq (tAsg (tOp (rI0 fun i j => V.int (i + j)) (tOp (rI0 fun i j => V.int (i + j)) (tOp (rIxL K) (tFld K (tVar 0) "held") (tVar 5)) (tOp (rIxL K) (tVar 1) (tVar 5))) (tVar 4)) (gName 6)) 
        (tSeq (tDrop (tBM K "list" rAppend (tVar 3) (tCons (tCB (rMin2) (tCons (tVar 6) (tCons (tOp (rIxL K) (tVar 2) (tVar 5)) (tNil)))) (tNil)))) 
        (tSeq (tAsg (tOp (rI0 fun i j => V.int (i - j)) (tVar 6) (tOp (rIxL K) (tVar 3) (tVar 5))) (gName 6)) 
        (tSeq (tAsg (tCB (rMin2) (tCons (tVar 6) (tCons (tOp (rIxL K) (tFld K (tVar 0) "sizes") (tVar 5)) (tNil)))) (gSub (tFld K (tVar 0) "held") (tVar 5) rSetL)) 
        (tAsg (tOp (rI0 fun i j => V.int (i - j)) (tVar 6) (tOp (rIxL K) (tFld K (tVar 0) "held") (tVar 5))) (gName 4))))))) 
      (tRet (tTup (tCons (tVar 3) (tCons (tVar 4) (tNil))))))))
theorem sem_Yard_day {K : Fg} {A : Ad} (Y : YardF K A) : ∀ vs H Q E, spC K 3 (c_Yard_day A) vs H Q E → rd_Yard_day K A E { nx := fun _ H' => Q .non H', rt := Q } (start ["self", "rain", "wishes", "drawn", "over", "k", "water"] vs) H :=
  body_okX fun ds os P E hl hc B D hfp hR hE hN => by
    obtain ⟨rooms, held, h, ⟨rain, wishes⟩, hh, h4, rfl, rfl, rfl⟩ := hc
    refine q_callX (ds := [yardO A rooms h, dayD (rain, wishes)]) (osp := []) (osr := [(h, .lst (held.map Dt.int))]) (by walk_at "ea") rfl (List.Perm.refl _) ⟨(rooms, .adr h, rain, wishes), trivial, rfl, rfl, rfl⟩ (fun d os1 hr => ?_) (fun C os1 hr => ?_)
    case refine_2 =>
      obtain ⟨hr, rfl⟩ := hr
      have hr : Res.er C = if dayOk rooms.length (rain, wishes) then Res.ok .non else .er A.BadDays := hr
      cases e : dayOk rooms.length (rain, wishes) with
      | true => rw [e] at hr; cases hr
      | false =>
        rw [e] at hr
        cases hr
        exact hE.xt (by rw [if_neg (by rw [e]; decide)]; exact ⟨rfl, rfl⟩)
    obtain ⟨hr, rfl⟩ := hr
    have ok : dayOk rooms.length (rain, wishes) = true := by
      cases e : dayOk rooms.length (rain, wishes) with
      | true => rfl
      | false =>
        have hr : Res.ok d = if dayOk rooms.length (rain, wishes) then Res.ok .non else .er A.BadDays := hr
        rw [e] at hr; cases hr
    have h1 : rain.length = rooms.length := (lOk_iff.mp (dayOk_iff.mp ok).1).1
    have h2 : wishes.length = rooms.length := (lOk_iff.mp (dayOk_iff.mp ok).2).1
    refine q_asgM (em_F (ef_lst ea_nil (by decide))) fun d os' hd => ?_
    obtain ⟨q, nq, rfl, rfl⟩ := hd
    have nq : q ≠ h := by simpa using nq
    refine q_asg ev_cint ?_
    refine q_forR (ea_cons (by walk_at "ev") ea_nil) (by rw [len_int]; omega) (by rw [len_int]; omega) (fun i ss os => let s := iter (dayStep rooms rain wishes) ⟨[], held, 0⟩ i
      (∃ o1 o2, ss = [some (yardO A rooms h), some (iL rain), some (iL wishes), some (.adr q), some (.int s.over), o1, o2]) ∧ os = [(h, .lst (s.held.map Dt.int)), (q, .lst (s.drawn.map Dt.int))]) ⟨⟨_, _, rfl⟩, rfl⟩ (fun i ss os hi hI => ?_) (fun ss os hI => ?_)
    · obtain ⟨⟨o1, o2, rfl⟩, rfl⟩ := hI
      have hi : i < rooms.length := by simpa using hi
      have l1 := iter_held (rooms := rooms) (rain := rain) (wishes := wishes) ⟨[], held, 0⟩ i
      have l2 := iter_drawn (rooms := rooms) (rain := rain) (wishes := wishes) ⟨[], held, 0⟩ i
      have es : iter (dayStep rooms rain wishes) ⟨[], held, 0⟩ (i + 1) = dayStep rooms rain wishes i (iter (dayStep rooms rain wishes) ⟨[], held, 0⟩ i) := rfl
      generalize iter (dayStep rooms rain wishes) ⟨[], held, 0⟩ i = s at l1 l2 es ⊢
      have l1 : s.held.length = held.length := l1
      have l2 : s.drawn.length = i := by simpa using l2
      have i1 : i < s.held.length := by omega
      have i2 : i < rain.length := by omega
      have i3 : i < wishes.length := by omega
      refine q_asg (by walk_at "ev") ?_
      refine q_app (ev_var rfl) (List.mem_cons_of_mem _ List.mem_cons_self) (by walk_at "ev") (by rw [List.length_map]; omega) ?_
      rw [setC_snd nq.symm, setC_one]
      have e2 : ∀ z : Int, s.drawn.map Dt.int ++ [Dt.int z] = (s.drawn ++ [z]).map Dt.int := fun z => by simp
      rw [e2]
      refine q_asg (ev_ii (ev_var rfl) (ev_ixL (ev_var rfl) (.own (List.mem_cons_of_mem _ List.mem_cons_self)) (ev_var rfl) (at_mapN (f := Dt.int) (v := min (s.held.getD i 0 + rain.getD i 0 + s.over) (wishes.getD i 0)) (by rw [← l2]; simp)))) ?_
      refine q_setL (by walk_at "ev") (by walk_at "ev") List.mem_cons_self (ev_var rfl) (by omega) (by rw [List.length_map]; omega) ?_
      rw [setC_fst (by simpa using nq.symm), List.map_set.symm, Int.toNat_natCast]
      refine do_asg (ev_ii (ev_var rfl) (ev_ixL (by walk_at "ev") (.own List.mem_cons_self) (ev_var rfl) (at_mapN (f := Dt.int) (v := min (s.held.getD i 0 + rain.getD i 0 + s.over - min (s.held.getD i 0 + rain.getD i 0 + s.over) (wishes.getD i 0)) (rooms.getD i 0)) (by simp [i1])))) (nx_at ?_)
      show (∃ o1 o2, _ = _) ∧ _ = _
      rw [es]
      exact ⟨⟨_, _, rfl⟩, rfl⟩
    · obtain ⟨⟨o1, o2, rfl⟩, rfl⟩ := hI
      refine do_ret (by walk_at "ev") (hR.rt ?_)
      rw [if_pos ok]
      refine ⟨q, nq, ?_, ?_⟩
      · rw [List.length_map, Int.toNat_natCast]
        rfl
      · rw [List.length_map, Int.toNat_natCast]
        rfl
end Cy

namespace Cy
open PySem L2
theorem ev_drawn {K : Fg} {A : Ad} {ta tb tc : TE} {ss : SS} {os : Own} {E : XK} {ns : List Int} {k many : Int} (ha : Ev K ta ss os (.scr ns)) (hb : Ev K tb ss os (.int k)) (hc : Ev K tc ss os (.int many)) (h : 0 < many) :
    Ev K (tCall (spC K 3 (c_l_drawn A)) [] E (tCons ta (tCons tb (tCons tc tNil)))) ss os (.int (drawn ns k many)) := ev_call (ns, k, many) (ea_cons ha (ea_cons hb (ea_cons hc ea_nil))) rfl h rfl
local macro_rules | `(tactic| walk_at "lv") => `(tactic| first | exact LV.lst | exact LV.scr | exact LV.own List.mem_cons_self | exact LV.own (List.mem_cons_of_mem _ List.mem_cons_self) | exact LV.own (List.mem_cons_of_mem _ (List.mem_cons_of_mem _ List.mem_cons_self)) | exact LV.own (List.mem_cons_of_mem _ (List.mem_cons_of_mem _ (List.mem_cons_of_mem _ List.mem_cons_self))))
local macro_rules | `(tactic| walk_at "at") => `(tactic| first | exact at_mapN (by assumption) | exact at_map (by omega) (by assumption) | rfl | exact at_of (by omega) (by assumption))
local macro_rules | `(tactic| walk_at "side") => `(tactic| first | assumption | omega | decide)
local macro_rules | `(tactic| walk_at "ea") => `(tactic| first | exact ea_nil | (apply ea_cons; walk_at "ev"; walk_at "ea"))
local macro_rules | `(tactic| walk_at "et") => `(tactic| first
  | exact et_yes
  | (apply et_B; walk_at "ev")
  | (apply et_T; walk_at "ev")
  | (apply et_not; walk_at "et"))
local macro_rules | `(tactic| walk_at "ev") => `(tactic| first
  | exact ev_var rfl
  | exact ev_cint | exact ev_cbl | exact ev_cstr | exact ev_cnon
  | (apply ev_ii; walk_at "ev"; walk_at "ev")
  | (apply ev_ib; walk_at "ev"; walk_at "ev")
  | (apply ev_eqI; walk_at "ev"; walk_at "ev")
  | (apply ev_neI; walk_at "ev"; walk_at "ev")
  | (apply ev_ixL; walk_at "ev"; walk_at "lv"; walk_at "ev"; walk_at "at")
  | (apply ev_ixT; walk_at "ev"; walk_at "ev"; walk_at "at")
  | (apply ev_len; walk_at "ev"; walk_at "lv")
  | (apply ev_lenT; walk_at "ev")
  | (apply ev_min2; walk_at "ev"; walk_at "ev")
  | (apply ev_max2; walk_at "ev"; walk_at "ev")
  | (apply ev_tup; walk_at "ea"; (first | decide | simp | skip))
  | (apply ev_iC; walk_at "ev"; walk_at "ev"; walk_at "cond")
  | (apply ev_fldI; walk_at "cls"; walk_at "cls"; walk_at "ev"; walk_at "iv"; rfl; rfl; rfl)
  | (apply ev_F; walk_at "ef")
  | walk_at "call")
local macro_rules | `(tactic| walk_at "ef") => `(tactic| first
  | (apply ef_list; walk_at "ev"; walk_at "lv")
  | (apply ef_lst; walk_at "ea"; (first | decide | simp | skip)))
local macro_rules | `(tactic| walk_at "iv") => `(tactic| first | exact IV.ins | exact IV.own List.mem_cons_self | exact IV.own (List.mem_cons_of_mem _ List.mem_cons_self) | exact IV.own (List.mem_cons_of_mem _ (List.mem_cons_of_mem _ List.mem_cons_self)) | exact IV.own (List.mem_cons_of_mem _ (List.mem_cons_of_mem _ (List.mem_cons_of_mem _ List.mem_cons_self))))
local macro_rules | `(tactic| walk_at "cond") => `(tactic| first | exact Or.inr (by decide) | exact Or.inl (by decide) | (exact ⟨by decide, by decide⟩) | (show (0 : Int) < _; first | decide | assumption | omega))
local macro_rules | `(tactic| walk_at "cls") => `(tactic| first | assumption | exact YardF.cls (by assumption) | exact YardF.sizes (by assumption) | exact YardF.held (by assumption))
local macro_rules | `(tactic| walk_at "call") => `(tactic| fail "no call")
local macro_rules | `(tactic| walk_at "at") => `(tactic| exact at_getD (by first | assumption | omega))
local macro_rules | `(tactic| walk_at "call") => `(tactic| (apply ev_drawn; walk_at "ev"; walk_at "ev"; walk_at "ev"; walk_at "side"))
theorem top_at {b : Int} {x y z : Int} {ns : List Int} : atI ([.int x, .int y, .int z] : List Dt) (drawn ns b 3) = some (.int (([x, y, z] : List Int).getD (drawn ns b 3).toNat 0)) := by
  have h := drawn_pos ns b (many := 3) (by decide)
  exact at_of (xs := [Dt.int x, .int y, .int z]) h.1 (by
    have : ([Dt.int x, .int y, .int z] : List Dt) = ([x, y, z] : List Int).map Dt.int := rfl
    rw [this, List.getElem?_map, getD_some (show (drawn ns b 3).toNat < ([x, y, z] : List Int).length by simp; omega)]
    rfl)
theorem three_pos {x y z : Int} (hx : 0 < x) (hy : 0 < y) (hz : 0 < z) {i : Nat} (h : i < 3) : 0 < ([x, y, z] : List Int).getD i 0 := by
  match i, h with
  | 0, _ => exact hx
  | 1, _ => exact hy
  | 2, _ => exact hz
theorem topBy_pos (ns : List Int) (b : Int) : 0 < topBy ns b := three_pos (by decide) (by decide) (by decide) (by have := drawn_pos ns (b + 1) (many := 3) (by decide); omega)
theorem dtopBy_pos (ns : List Int) (b : Int) : 0 < dtopBy ns b := three_pos (by decide) (by decide) (by decide) (by have := drawn_pos ns b (many := 3) (by decide); omega)
theorem roomsBy_len (ns : List Int) (b : Int) : (roomsBy ns b).length = manyBy ns b := by simp [roomsBy]
theorem roomsBy_at {ns : List Int} {b : Int} {k : Nat} (h : k < manyBy ns b) : (roomsBy ns b).getD k 0 = drawn ns (b + 2 + k) (topBy ns b) := by
  rw [List.getD_eq_getElem?_getD, roomsBy, List.getElem?_map, List.getElem?_range h]; rfl
theorem manyBy_le (ns : List Int) (b : Int) : 1 ≤ manyBy ns b ∧ manyBy ns b ≤ 4 ∧ ((manyBy ns b : Nat) : Int) = 1 + drawn ns b 4 := by
  have h := drawn_pos ns b (many := 4) (by decide)
  unfold manyBy
  omega
def c_l_yard_by (A : Ad) : Ct := pureC (α := List Int × Int) (fun _ => True) (fun x => [.scr x.1, .int x.2]) fun x => .ok (.tup [iL (roomsBy x.1 x.2), iL (watersBy x.1 x.2)])
def rd_l_yard_by (K : Fg) (A : Ad) : TS :=
  tSeq (tAsg (tOp (rI0 fun i j => V.int (i + j)) (tC (V.int 1)) (tCall (spC K 3 (c_l_drawn A)) [] E0 (tCons (tVar 0) (tCons (tVar 1) (tCons (tC (V.int 4)) (tNil)))))) (gName 2)) 
      (tSeq (tAsg (tOp (rIxL K) (tLst (tCons (tC (V.int 4)) (tCons (tC (V.int 12)) (tCons (tC (V.int 51)) (tNil))))) (tCall (spC K 3 (c_l_drawn A)) [] E0 (tCons (tVar 0) (tCons (tOp (rI0 fun i j => V.int (i + j)) (tVar 1) (tC (V.int 1))) (tCons (tC (V.int 3)) (tNil)))))) (gName 3)) 
      (tSeq (tAsg (tLc (iRng1 (tCons (tVar 2) (tNil))) (gName 6) (tYes) (tCall (spC K 3 (c_l_drawn A)) [] E0 (tCons (tVar 0) (tCons (tOp (rI0 fun i j => V.int (i + j)) (tOp (rI0 fun i j => V.int (i + j)) (tVar 1) (tC (V.int 2))) (tVar 6)) (tCons (tVar 3) (tNil))))) ([6] : List Nat)) (gName 4)) 
      (tSeq (tAsg (tLc (iRng1 (tCons (tVar 2) (tNil))) (gName 6) (tYes) (tCall (spC K 3 (c_l_drawn A)) [] E0 (tCons (tVar 0) (tCons (tOp (rI0 fun i j => V.int (i + j)) (tOp (rI0 fun i j => V.int (i + j)) (tVar 1) (tC (V.int 6))) (tVar 6)) (tCons (tOp (rI0 fun i j => V.int (i + j)) (tOp (rIxL K) (tVar 4) (tVar 6)) (tC (V.int 1))) (tNil))))) ([6] : List Nat)) (gName 5)) 
      (tRet (tTup (tCons (tVar 4) (tCons (tVar 5) (tNil))))))))
theorem sem_l_yard_by {K : Fg} {A : Ad} : ∀ vs H Q E, spC K 2 (c_l_yard_by A) vs H Q E → rd_l_yard_by K A { nx := fun _ H' => Q .non H', rt := Q } (start ["script", "base", "many", "top", "rooms", "waters", "k"] vs) H :=
  body_ok fun ds os P hl hc B D hfp hR hN => by
    obtain ⟨⟨ns, b⟩, _, rfl, rfl, rfl⟩ := hc
    have hm := manyBy_le ns b
    have ht := topBy_pos ns b
    refine q_asg (d := .int (1 + drawn ns b 4)) (by walk_at "ev") ?_
    refine q_asg (d := .int (topBy ns b)) (ev_ixL (ev_F (ef_lst (by walk_at "ea") (by decide))) LV.lst (by walk_at "ev") top_at) ?_
    refine q_asg (d := iL (roomsBy ns b)) (ev_F (ef_mapRi (fun k => drawn ns (b + 2 + k) (topBy ns b)) (ea_cons (ev_var rfl) ea_nil) (by omega) (by omega) fun j hj => ⟨_, tw_name, ?_⟩)) ?_
    · walk_at "ev"
    refine q_asg (d := iL (watersBy ns b)) (ev_F (ef_mapRi (fun k => drawn ns (b + 6 + k) ((roomsBy ns b).getD k 0 + 1)) (ea_cons (ev_var rfl) ea_nil) (by omega) (by omega) fun i hi => ⟨_, tw_name, ?_⟩)) ?_
    · have hk : i < manyBy ns b := by omega
      have h1 := (drawn_pos ns (b + 2 + i) ht).1
      have h2 : 0 < (roomsBy ns b).getD i 0 + 1 := by rw [roomsBy_at hk]; omega
      have h3 : i < (roomsBy ns b).length := by rw [roomsBy_len]; exact hk
      walk_at "ev"
    · exact do_ret (by walk_at "ev") (hR.rt ⟨rfl, rfl⟩)
def c_l_days_by (A : Ad) : Ct := fun ds os P => ∃ (ns : List Int) (b : Int) (many : Nat) (bound : Int), 0 ≤ bound ∧ bound ≤ 100 ∧ many ≤ 100 ∧ ds = [.scr ns, .int b, .int (many : Int), .int bound] ∧ os = [] ∧ P = MadeR ((daysBy ns b many bound).map dayD)
def rd_l_days_by (K : Fg) (A : Ad) : TS :=
  tSeq (tAsg (tOp (rIxL K) (tLst (tCons (tC (V.int 4)) (tCons (tC (V.int 10)) (tCons (tC (V.int 31)) (tNil))))) (tCall (spC K 3 (c_l_drawn A)) [] E0 (tCons (tVar 0) (tCons (tVar 1) (tCons (tC (V.int 3)) (tNil)))))) (gName 4)) 
      (tSeq (tAsg (tLst (tNil)) (gName 5)) 
      (tSeq (tFor (iRng1 (tCons (tCall (spC K 3 (c_l_drawn A)) [] E0 (tCons (tVar 0) (tCons (tOp (rI0 fun i j => V.int (i + j)) (tVar 1) (tC (V.int 1))) (tCons (tOp (rI0 fun i j => V.int (i + j)) (tVar 3) (tC (V.int 1))) (tNil))))) (tNil))) (gName 6) 
        (tSeq (tAsg (tLc (iRng1 (tCons (tVar 2) (tNil))) (gName 9) (tYes) (tCall (spC K 3 (c_l_drawn A)) [] E0 (tCons (tVar 0) (tCons (tOp (rI0 fun i j => V.int (i + j)) (tOp (rI0 fun i j => V.int (i + j)) (tOp (rI0 fun i j => V.int (i + j)) (tVar 1) (tC (V.int 10))) (tOp (rI CMul fun i j => V.int (i * j)) (tC (V.int 8)) (tVar 6))) (tVar 9)) (tCons (tVar 4) (tNil))))) ([9] : List Nat)) (gName 7)) 
        (tSeq (tAsg (tLc (iRng1 (tCons (tVar 2) (tNil))) (gName 9) (tYes) (tCall (spC K 3 (c_l_drawn A)) [] E0 (tCons (tVar 0) (tCons (tOp (rI0 fun i j => V.int (i + j)) (tOp (rI0 fun i j => V.int (i + j)) (tOp (rI0 fun i j => V.int (i + j)) (tVar 1) (tC (V.int 14))) (tOp (rI CMul fun i j => V.int (i * j)) (tC (V.int 8)) (tVar 6))) (tVar 9)) (tCons (tVar 4) (tNil))))) ([9] : List Nat)) (gName 8)) 
        (Evl.tCut (tIfS (tTest (tOp (rEq) (tCall (spC K 3 (c_l_drawn A)) [] E0 (tCons (tVar 0) (tCons (tOp (rI0 fun i j => V.int (i + j)) (tVar 1) (tC (V.int 2))) (tCons (tC (V.int 3)) (tNil))))) (tC (V.int 1)))) (tAsg (tLc (iList K (tVar 8)) (gName 10) (tYes) (tCB (rMin2) (tCons (tC (V.int 30)) (tCons (tOp (rI CMul fun i j => V.int (i * j)) (tC (V.int 2)) (tVar 10)) (tNil)))) ([10] : List Nat)) (gName 8)) (tNext)) 
        (tDrop (tBM K "list" rAppend (tVar 5) (tCons (tTup (tCons (tVar 7) (tCons (tVar 8) (tNil)))) (tNil)))))))) 
      (tRet (tVar 5))))
theorem sem_l_days_by {K : Fg} {A : Ad} : ∀ vs H Q E, spC K 4 (c_l_days_by A) vs H Q E → rd_l_days_by K A { nx := fun _ H' => Q .non H', rt := Q } (start ["script", "base", "many", "bound", "top", "days", "number", "rain", "wishes", "k", "one"] vs) H :=
  body_ok fun ds os P hl hc B D hfp hR hN => by
    obtain ⟨ns, b, many, bound, hb0, hb1, hm, rfl, rfl, rfl⟩ := hc
    have ht := dtopBy_pos ns b
    have hdr := drawn_pos ns (b + 1) (many := bound + 1) (by omega)
    refine q_asg (d := .int (dtopBy ns b)) (ev_ixL (ev_F (ef_lst (by walk_at "ea") (by decide))) LV.lst (by walk_at "ev") top_at) ?_
    refine q_asgM (em_F (ef_lst ea_nil (by decide))) fun d os' hd => ?_
    obtain ⟨p, np, rfl, rfl⟩ := hd
    refine q_forR (n := drawn ns (b + 1) (bound + 1)) (ea_cons (by walk_at "ev") ea_nil) (by omega) (by omega) (fun i ss os => (∃ o1 o2 o3 o4 o5, ss = [some (.scr ns), some (.int b), some (.int many), some (.int bound), some (.int (dtopBy ns b)), some (.adr p), o1, o2, o3, o4, o5]) ∧
      os = [(p, .lst (((List.range i).map fun n => (rainBy ns b many n, wishesBy ns b many n)).map dayD))]) ⟨⟨_, _, _, _, _, rfl⟩, rfl⟩ (fun i ss os hi hI => ?_) (fun ss os hI => ?_)
    · obtain ⟨⟨o1, o2, o3, o4, o5, rfl⟩, rfl⟩ := hI
      have hm2 : (many : Int) ≤ 100 := by omega
      refine q_asg (d := iL (rainBy ns b many i)) (ev_F (ef_mapRi (n := (many : Int)) (fun k => drawn ns (b + 10 + 8 * i + k) (dtopBy ns b)) (ea_cons (ev_var rfl) ea_nil) (by omega) (by omega) fun j hj => ⟨_, tw_name, ?_⟩)) ?_
      · walk_at "ev"
      refine q_asg (d := iL ((List.range many).map fun (k : Nat) => drawn ns (b + 14 + 8 * i + k) (dtopBy ns b))) (ev_F (ef_mapRi (n := (many : Int)) (fun k => drawn ns (b + 14 + 8 * i + k) (dtopBy ns b)) (ea_cons (ev_var rfl) ea_nil) (by omega) (by omega) fun j hj => ⟨_, tw_name, ?_⟩)) ?_
      · walk_at "ev"
      refine do_cut (fun ss os => (∃ o3 o4, ss = [some (.scr ns), some (.int b), some (.int many), some (.int bound), some (.int (dtopBy ns b)), some (.adr p), some (.int i), some (iL (rainBy ns b many i)), some (iL (wishesBy ns b many i)), o3, o4]) ∧
        os = [(p, .lst (((List.range i).map fun n => (rainBy ns b many n, wishesBy ns b many n)).map dayD))]) (do_if (by walk_at "et") (fun hb => ?_) (fun hb => ?_)) ?_
      · refine do_asg (d := iL (wishesBy ns b many i)) ?_ (nx_at ⟨⟨_, _, rfl⟩, rfl⟩)
        have e : wishesBy ns b many i = ((List.range many).map fun (k : Nat) => drawn ns (b + 14 + 8 * i + k) (dtopBy ns b)).map fun one => min 30 (2 * one) := by
          unfold wishesBy
          rw [if_pos (by simpa using hb)]
        rw [e]
        refine ev_F (ef_mapLi (fun one => min 30 (2 * one)) (ev_var rfl) LV.lst (fun x _ => ⟨_, tw_name, ?_⟩) (by simp; omega))
        walk_at "ev"
      · refine do_nx (nx_at ⟨⟨o4, o5, ?_⟩, rfl⟩)
        have e : wishesBy ns b many i = (List.range many).map fun (k : Nat) => drawn ns (b + 14 + 8 * i + k) (dtopBy ns b) := by
          unfold wishesBy
          rw [if_neg (by simpa using hb)]
        rw [e]
        rfl
      · rintro ss os ⟨⟨o3, o4, rfl⟩, rfl⟩
        refine do_app (ev_var rfl) List.mem_cons_self (by walk_at "ev") (by simp; omega) (nx_at ⟨⟨_, _, _, _, _, rfl⟩, ?_⟩)
        rw [setC_one, List.range_succ]
        simp
    · obtain ⟨⟨o1, o2, o3, o4, o5, rfl⟩, rfl⟩ := hI
      exact do_ret (ev_var rfl) (hR.rt ⟨p, rfl, rfl⟩)
def c_drawn_by (A : Ad) : Ct := pureC (α := List Day) (fun x => x.length < 1000) (fun x => [daysD x]) fun x => .ok (.int (drawnBy x))
def rd_drawn_by (K : Fg) (A : Ad) : TS :=
  tRet (tCB (rSum K) (tCons (tLc (iList K (tVar 0)) (gName 1) (tYes) (tCB (rSum K) (tCons (tOp (rIxT K) (tVar 1) (tC (V.int 0))) (tNil))) ([1] : List Nat)) (tNil)))
theorem sem_drawn_by {K : Fg} {A : Ad} : ∀ vs H Q E, spC K 1 (c_drawn_by A) vs H Q E → rd_drawn_by K A { nx := fun _ H' => Q .non H', rt := Q } (start ["plan", "day"] vs) H :=
  body_ok fun ds os P hl hc B D hfp hR hN => by
    obtain ⟨plan, hx, rfl, rfl, rfl⟩ := hc
    exact do_ret (ev_sum (ns := plan.map fun p => p.1.sum) (ev_F (ef_mapLi (fun (p : Day) => p.1.sum) (ev_var rfl) LV.lst (fun x _ => ⟨_, tw_name, ev_sum (ev_ixT (ev_var rfl) ev_cint rfl) LV.lst⟩) (by omega))) LV.lst) (hR.rt ⟨rfl, rfl⟩)
theorem at_day {xs : List Day} {i : Nat} (h : i < xs.length) : atI (xs.map dayD) (i : Int) = some (dayD (xs.getD i ([], []))) := at_mapN (getDay h)
local macro_rules | `(tactic| walk_at "at") => `(tactic| first | exact at_getD (by first | assumption | omega) | exact at_day (by first | assumption | omega) | rfl)
def c_holds (A : Ad) : Ct := pureC (α := List Int × List Int × List Day × List Day) (fun x => x.2.1.length = x.1.length ∧ x.1.length ≤ 4) (fun x => [yardD A x.1 x.2.1, daysD x.2.2.1, daysD x.2.2.2])
  fun x => if daysOk x.1.length x.2.2.1 then .ok (.bl (holdsB x.1 x.2.1 x.2.2.1 x.2.2.2)) else .er A.BadDays
def rd_holds (K : Fg) (A : Ad) (E : XK) : TS :=
  tSeq (tDrop (tCall (spC K 2 (c_see_days A)) [] E (tCons (tVar 0) (tCons (tVar 1) (tNil))))) 
      (tSeq (tIfS (tTest (tOp (rNe) (tCB (Evl.rLenS K) (tCons (tVar 2) (tNil))) (tCB (Evl.rLenS K) (tCons (tVar 1) (tNil))))) (tRet (tC (V.bl false))) (tNext)) 
      (tSeq (tAsg (tMeth A.Yard "waters" (spC K 1 (c_Yard_waters A)) [] E0 (tVar 0) tNil) (gName 3)) 
      (tSeq (tFor (iRng1 (tCons (tCB (Evl.rLenS K) (tCons (tVar 1) (tNil))) (tNil))) (gName 4) 
        (tSeq (tAsg (tOp (rIxT K) (tOp (rIxL K) (tVar 2) (tVar 4)) (tC (V.int 0))) (gName 5)) 
        (tSeq (tAsg (tOp (rIxT K) (tOp (rIxL K) (tVar 2) (tVar 4)) (tC (V.int 1))) (gName 6)) 
        (tSeq (tIfS (tOr (tTest (tOp (rNe) (tCB (Evl.rLenS K) (tCons (tVar 5) (tNil))) (tCB (Evl.rLenS K) (tCons (tVar 3) (tNil))))) (tTest (tOp (rNe) (tCB (Evl.rLenS K) (tCons (tVar 6) (tNil))) (tCB (Evl.rLenS K) (tCons (tVar 3) (tNil)))))) (tRet (tC (V.bl false))) (tNext)) 
        (tSeq (tAsg (tC (V.int 0)) (gName 7)) 
        (tSeq (tFor (iRng1 (tCons (tCB (Evl.rLenS K) (tCons (tVar 3) (tNil))) (tNil))) (gName 8) 
          (tSeq (tAsg (tOp (rI0 fun i j => V.int (i - j)) (tOp (rI0 fun i j => V.int (i - j)) (tOp (rI0 fun i j => V.int (i + j)) (tOp (rI0 fun i j => V.int (i + j)) (tOp (rIxL K) (tVar 3) (tVar 8)) (tOp (rIxL K) (tOp (rIxT K) (tOp (rIxL K) (tVar 1) (tVar 4)) (tC (V.int 0))) (tVar 8))) (tVar 7)) (tOp (rIxL K) (tVar 5) (tVar 8))) (tOp (rIxL K) (tVar 6) (tVar 8))) (gName 7)) 
          (tSeq (tIfS (tOr (tTest (tOp (rI0 fun i j => V.bl (decide (i < j))) (tOp (rIxL K) (tVar 5) (tVar 8)) (tC (V.int 0)))) (tOr (tTest (tOp (rI0 fun i j => V.bl (decide (i < j))) (tOp (rIxL K) (tVar 6) (tVar 8)) (tC (V.int 0)))) (tTest (tOp (rI0 fun i j => V.bl (decide (i < j))) (tVar 7) (tC (V.int 0)))))) (tRet (tC (V.bl false))) (tNext)) 
          (tIfS (tOr (tTest (tOp (rI0 fun i j => V.bl (decide (j < i))) (tOp (rIxL K) (tVar 5) (tVar 8)) (tOp (rIxL K) (tOp (rIxT K) (tOp (rIxL K) (tVar 1) (tVar 4)) (tC (V.int 1))) (tVar 8)))) (tTest (tOp (rI0 fun i j => V.bl (decide (j < i))) (tOp (rIxL K) (tVar 6) (tVar 8)) (tOp (rIxL K) (tFld K (tVar 0) "sizes") (tVar 8))))) (tRet (tC (V.bl false))) (tNext))))) 
        (tAsg (tCB (Evl.rListS K) (tCons (tVar 6) (tNil))) (gName 3)))))))) 
      (tRet (tC (V.bl true))))))
theorem sem_holds {K : Fg} {A : Ad} (Y : YardF K A) : ∀ vs H Q E, spC K 3 (c_holds A) vs H Q E → rd_holds K A E { nx := fun _ H' => Q .non H', rt := Q } (start ["yard", "days", "plan", "held", "number", "drawn", "kept", "over", "k"] vs) H :=
  body_okX fun ds os P E hl hc B D hfp hR hE hN => by
    obtain ⟨⟨rooms, held, days, plan⟩, ⟨hh, h4⟩, rfl, rfl, rfl⟩ := hc
    have hh : held.length = rooms.length := hh
    have h4 : rooms.length ≤ 4 := h4
    refine q_callX (ds := [yardD A rooms held, daysD days]) (osp := []) (osr := []) (by walk_at "ea") rfl (List.Perm.refl _) ⟨(rooms, iL held, days), trivial, rfl, rfl, rfl⟩ (fun d os1 hr => ?_) (fun C os1 hr => ?_)
    case refine_2 =>
      obtain ⟨hr, rfl⟩ := hr
      have hr : Res.er C = if daysOk rooms.length days then Res.ok .non else .er A.BadDays := hr
      cases e : daysOk rooms.length days with
      | true => rw [e] at hr; cases hr
      | false =>
        rw [e] at hr
        cases hr
        refine hE.xt ⟨?_, rfl⟩
        show _ = if daysOk rooms.length days then Res.ok _ else .er A.BadDays
        rw [e]
        rfl
    obtain ⟨hr, rfl⟩ := hr
    have ok : daysOk rooms.length days = true := by
      cases e : daysOk rooms.length days with
      | true => rfl
      | false =>
        have hr : Res.ok d = if daysOk rooms.length days then Res.ok .non else .er A.BadDays := hr
        rw [e] at hr; cases hr
    obtain ⟨hd8, hdd⟩ := daysOk_iff.mp ok
    have hR : ∀ {B'}, B.Le B' → ∀ {b : Bool}, holdsB rooms held days plan = b → Rt K B' D.rt (.bl b) [] := fun {B'} le {b} e => hR B' le _ _ ⟨by
      show _ = if daysOk rooms.length days then Res.ok _ else .er A.BadDays
      rw [ok, ← e]
      rfl, rfl⟩
    refine q_when (by walk_at "et") (fun hb => do_ret ev_cbl (hR (Bs.Le.refl _) ?_)) (fun hb => ?_)
    · refine Bool.eq_false_iff.mpr fun h => ?_
      have := (holdsB_iff.mp h).1
      simp at hb
      omega
    have hp : plan.length = days.length := by simp at hb; omega
    refine q_asg (d := iL held) (ev_F (ef_methL (ev_var rfl) IV.ins (by decide +kernel) ea_nil (Fms.refl _) rfl ⟨rooms, held, rfl, rfl, rfl⟩ (Thins.ints _))) ?_
    refine q_forR (n := ((days.map dayD).length : Int)) (ea_cons (by walk_at "ev") ea_nil) (by rw [List.length_map]; omega) (by rw [List.length_map]; omega) (fun i ss os => (∃ o1 o2 o3 o4 o5, ss = [some (yardD A rooms held), some (daysD days), some (daysD plan), some (iL (heldAt held plan i)), o1, o2, o3, o4, o5]) ∧ os = [] ∧ (heldAt held plan i).length = rooms.length ∧
      ∀ n, n < i → dayHolds rooms (heldAt held plan n) (days.getD n ([], [])) (plan.getD n ([], [])) = true) ⟨⟨_, _, _, _, _, rfl⟩, rfl, hh, by omega⟩ (fun i ss os hi hI => ?_) (fun ss os hI => ?_)
    · obtain ⟨⟨o1, o2, o3, o4, o5, rfl⟩, rfl, hl, hall⟩ := hI
      have hi : i < days.length := by simpa using hi
      have hip : i < plan.length := by omega
      have hday := hdd _ (List.mem_of_getElem? (getDay hi))
      have hheld : heldAt held plan (i + 1) = (plan.getD i ([], [])).2 := rfl
      have gp := getDay hip
      have gd := getDay hi
      have bad : dayHolds rooms (heldAt held plan i) (days.getD i ([], [])) (plan.getD i ([], [])) ≠ true → holdsB rooms held days plan = false := fun h => Bool.eq_false_iff.mpr fun z => h ((holdsB_iff.mp z).2 i hi)
      obtain ⟨day, ed⟩ : ∃ d, days.getD i ([], []) = d := ⟨_, rfl⟩
      obtain ⟨pl, ep⟩ : ∃ d, plan.getD i ([], []) = d := ⟨_, rfl⟩
      obtain ⟨hd, eh⟩ : ∃ d, heldAt held plan i = d := ⟨_, rfl⟩
      rw [ed] at hday gd
      rw [ep] at gp hheld
      rw [ed, ep, eh] at bad
      rw [eh] at hl ⊢
      have hr1 : day.1.length = rooms.length := (lOk_iff.mp (dayOk_iff.mp hday).1).1
      have hr2 : day.2.length = rooms.length := (lOk_iff.mp (dayOk_iff.mp hday).2).1
      have ad : atI (days.map dayD) (i : Int) = some (dayD day) := at_mapN gd
      have ap : atI (plan.map dayD) (i : Int) = some (dayD pl) := at_mapN gp
      refine q_asg (d := iL pl.1) (ev_ixT (ev_ixL (ev_var rfl) LV.lst (ev_var rfl) ap) ev_cint rfl) ?_
      refine q_asg (d := iL pl.2) (ev_ixT (ev_ixL (ev_var rfl) LV.lst (ev_var rfl) ap) ev_cint rfl) ?_
      refine q_when (et_or (by walk_at "et") fun _ => by walk_at "et") (fun hb => do_ret ev_cbl (hR (Bs.Le.refl _) (bad fun h => ?_))) (fun hb => ?_)
      · obtain ⟨h1, h2, _⟩ := dayHolds_iff.mp h
        simp at hb
        omega
      simp at hb
      have k1 : pl.1.length = rooms.length := by omega
      have k2 : pl.2.length = rooms.length := by omega
      refine q_asg ev_cint ?_
      refine q_forR (ea_cons (by walk_at "ev") ea_nil) (by rw [List.length_map]; omega) (by rw [List.length_map]; omega) (fun k ss os => (∃ o5, ss = [some (yardD A rooms held), some (daysD days), some (daysD plan), some (iL hd), some (.int i), some (iL pl.1), some (iL pl.2), some (.int (overAt hd day.1 pl.1 pl.2 k)), o5]) ∧ os = [] ∧ ∀ j, j < k → tankOk rooms hd day pl j = true)
        ⟨⟨_, rfl⟩, rfl, by omega⟩ (fun k ss os hk hI => ?_) (fun ss os hI => ?_)
      · obtain ⟨⟨o5, rfl⟩, rfl, hx⟩ := hI
        have hk : k < hd.length := by simpa using hk
        have i1 : k < day.1.length := by omega
        have i2 : k < day.2.length := by omega
        have i3 : k < pl.1.length := by omega
        have i4 : k < pl.2.length := by omega
        have i5 : k < rooms.length := by omega
        have hrain : ∀ ss, ss[1]? = some (some (daysD days)) → ss[4]? = some (some (.int (i : Int))) → ss[8]? = some (some (.int (k : Int))) → Ev K (tOp (rIxL K) (tOp (rIxT K) (tOp (rIxL K) (tVar 1) (tVar 4)) (tC (V.int 0))) (tVar 8)) ss [] (.int (day.1.getD k 0)) := fun ss s1 s4 s8 =>
          ev_ixL (ev_ixT (ev_ixL (ev_var s1) LV.lst (ev_var s4) ad) ev_cint rfl) LV.lst (ev_var s8) (at_getD i1)
        have hwish : ∀ ss, ss[1]? = some (some (daysD days)) → ss[4]? = some (some (.int (i : Int))) → ss[8]? = some (some (.int (k : Int))) → Ev K (tOp (rIxL K) (tOp (rIxT K) (tOp (rIxL K) (tVar 1) (tVar 4)) (tC (V.int 1))) (tVar 8)) ss [] (.int (day.2.getD k 0)) := fun ss s1 s4 s8 =>
          ev_ixL (ev_ixT (ev_ixL (ev_var s1) LV.lst (ev_var s4) ad) ev_cint rfl) LV.lst (ev_var s8) (at_getD i2)
        refine q_asg (ev_ii (ev_ii (ev_ii (ev_ii (by walk_at "ev") (hrain _ rfl rfl rfl)) (ev_var rfl)) (by walk_at "ev")) (by walk_at "ev")) ?_
        have eo : overAt hd day.1 pl.1 pl.2 (k + 1) = hd.getD k 0 + day.1.getD k 0 + overAt hd day.1 pl.1 pl.2 k - pl.1.getD k 0 - pl.2.getD k 0 := rfl
        rw [← eo]
        refine q_when (et_or (by walk_at "et") fun _ => et_or (by walk_at "et") fun _ => by walk_at "et") (fun hb => do_ret ev_cbl (hR (Bs.Le.refl _) (bad fun h => ?_))) (fun hb => ?_)
        · have := tankOk_iff.mp ((dayHolds_iff.mp h).2.2 k hk)
          simp [-List.getD_eq_getElem?_getD] at hb
          omega
        refine do_if (et_or (et_T (ev_ib (by walk_at "ev") (hwish _ rfl rfl rfl))) fun _ => by walk_at "et") (fun hb2 => do_ret ev_cbl (hR (Bs.Le.refl _) (bad fun h => ?_))) (fun hb2 => ?_)
        · have := tankOk_iff.mp ((dayHolds_iff.mp h).2.2 k hk)
          simp [-List.getD_eq_getElem?_getD] at hb2
          omega
        refine do_nx (nx_at ⟨⟨_, rfl⟩, rfl, fun j hj => ?_⟩)
        by_cases e : j = k
        · subst e
          simp [-List.getD_eq_getElem?_getD] at hb hb2
          exact tankOk_iff.mpr (by omega)
        · exact hx j (by omega)
      · obtain ⟨⟨o5, rfl⟩, rfl, hx⟩ := hI
        have hx : ∀ j, j < hd.length → tankOk rooms hd day pl j = true := fun j hj => hx j (by simpa using hj)
        refine do_asg (d := iL pl.2) (by walk_at "ev") (nx_at ⟨⟨_, _, _, _, _, by rw [hheld]; rfl⟩, rfl, by rw [hheld]; exact k2, fun n hn => ?_⟩)
        by_cases e : n = i
        · subst e
          rw [eh, ed, ep]
          exact dayHolds_iff.mpr ⟨by omega, by omega, hx⟩
        · exact hall n (by omega)
    · obtain ⟨⟨o1, o2, o3, o4, o5, rfl⟩, rfl, hl, hall⟩ := hI
      refine do_ret ev_cbl (hR (Bs.Le.refl _) (holdsB_iff.mpr ⟨hp, fun n hn => hall n (by simpa using hn)⟩))
end Cy

namespace Cy
open PySem L2
open Evl (Ex Ex.refl Ex.trans Ex.new Ex.mut)
/-! ### == of data -/
mutual
inductive Ql : Nat → Dt → PyData → Prop
  | non {n : Nat} : Ql n .non .none
  | bl {n : Nat} (b : Bool) : Ql n (.bl b) (.bool b)
  | int {n : Nat} (i : Int) : Ql n (.int i) (.int i)
  | str {n : Nat} (x : Str) (h : (PyData.str x).canLay0 = true) : Ql n (.str x) (.str x)
  | lst {n : Nat} {ds : List Dt} {ps : List PyData} : Qls n ds ps → Ql (n + 1) (.lst ds) (.list ps)
  | tup {n : Nat} {ds : List Dt} {ps : List PyData} : Qls n ds ps → Ql (n + 1) (.tup ds) (.tuple ps)
inductive Qls : Nat → List Dt → List PyData → Prop
  | nil {n : Nat} : Qls n [] []
  | cons {n : Nat} {d : Dt} {p : PyData} {ds : List Dt} {ps : List PyData} : Ql n d p → Qls n ds ps → Qls n (d :: ds) (p :: ps)
end
section
variable {K : Fg} {G H : Hp}
mutual
theorem Ql.dp (e : Ex G H) : ∀ {n : Nat} {d : Dt} {p : PyData} {v : V}, Ql n d p → Rp K G v d → Dp K H v p
  | _, _, _, _, .non, h => by cases h; exact .non
  | _, _, _, _, .bl b, h => by cases h; exact .bl b
  | _, _, _, _, .int i, h => by cases h; exact .int i
  | _, _, _, _, .str x _, h => by cases h; exact .str x
  | _, _, _, _, .lst q, h => by
    cases h with
    | lst h1 h2 => exact .lst (.of (e _ _ h1)) (Qls.dp e q h2)
  | _, _, _, _, .tup q, h => by
    cases h with
    | tup h1 h2 => exact .tup (.of (e _ _ h1)) (Qls.dp e q h2)
theorem Qls.dp (e : Ex G H) : ∀ {n : Nat} {d : List Dt} {p : List PyData} {v : List V}, Qls n d p → Rps K G v d → DpAll K H v p
  | _, _, _, _, .nil, h => by cases h; exact .nil
  | _, _, _, _, .cons a b, h => by
    cases h with
    | cons h1 h2 => exact .cons (Ql.dp e a h1) (Qls.dp e b h2)
end
mutual
theorem Ql.lay : ∀ {n : Nat} {d : Dt} {p : PyData}, Ql n d p → p.canLay0 = true ∧ p.depth ≤ n
  | _, _, _, .non => by simp [PyData.canLay0, PyData.depth]
  | _, _, _, .bl b => by simp [PyData.canLay0, PyData.depth]
  | _, _, _, .int b => by simp [PyData.canLay0, PyData.depth]
  | _, _, _, .str b h => ⟨h, by simp [PyData.depth]⟩
  | _, _, _, .lst q => by
    have := Qls.lay q
    simp only [PyData.canLay0, PyData.depth]
    exact ⟨this.1, by omega⟩
  | _, _, _, .tup q => by
    have := Qls.lay q
    simp only [PyData.canLay0, PyData.depth]
    exact ⟨this.1, by omega⟩
theorem Qls.lay : ∀ {n : Nat} {d : List Dt} {p : List PyData}, Qls n d p → PyData.canLayAll0 p = true ∧ PyData.depthAll p ≤ n
  | _, _, _, .nil => by simp [PyData.canLayAll0, PyData.depthAll]
  | _, _, _, .cons a b => by
    have h1 := Ql.lay a
    have h2 := Qls.lay b
    simp only [PyData.canLayAll0, PyData.depthAll, Bool.and_eq_true]
    exact ⟨⟨h1.1, h2.1⟩, by omega⟩
end
theorem Ql.shaped {n : Nat} {d : Dt} {p : PyData} (q : Ql n d p) (h : n ≤ 64) : SeqAt.shaped p = true := by
  have := q.lay
  unfold SeqAt.shaped
  rw [this.1, Bool.true_and]
  exact decide_eq_true (by omega)
theorem Qls.ints {n : Nat} : ∀ ns : List Int, Qls n (ns.map Dt.int) (ns.map PyData.int)
  | [] => .nil
  | i :: r => .cons (.int i) (Qls.ints r)
theorem Ql.iL {n : Nat} (ns : List Int) : Ql (n + 1) (iL ns) (.list (ns.map PyData.int)) := .lst (.ints ns)
theorem Ql.day {n : Nat} (d : Day) : Ql (n + 2) (dayD d) (.tuple [.list (d.1.map PyData.int), .list (d.2.map PyData.int)]) := .tup (.cons (.iL _) (.cons (.iL _) .nil))
theorem Qls.days {n : Nat} : ∀ ds : List Day, Qls (n + 2) (ds.map dayD) (ds.map fun d => .tuple [.list (d.1.map PyData.int), .list (d.2.map PyData.int)])
  | [] => .nil
  | d :: r => .cons (.day d) (Qls.days r)
theorem Ql.days {n : Nat} (ds : List Day) : Ql (n + 3) (daysD ds) (.list (ds.map fun d => .tuple [.list (d.1.map PyData.int), .list (d.2.map PyData.int)])) := .lst (.days ds)
theorem eqv_ints : ∀ xs ys : List Int, PyData.eqvAll (xs.map PyData.int) (ys.map PyData.int) = decide (xs = ys)
  | [], [] => by simp [PyData.eqvAll]
  | [], _ :: _ => by simp [PyData.eqvAll]
  | _ :: _, [] => by simp [PyData.eqvAll]
  | x :: r, y :: s => by
    rw [List.map_cons, List.map_cons, PyData.eqvAll, eqv_ints r s, PyData.eqv]
    by_cases h : x = y <;> by_cases h2 : r = s <;> simp [h, h2]
theorem eqv_iL (xs ys : List Int) : PyData.eqv (.list (xs.map PyData.int)) (.list (ys.map PyData.int)) = decide (xs = ys) := by rw [PyData.eqv, eqv_ints]
end
section
variable {K : Fg} {ss : SS} {os : Own} {ta tb te tx : TE} {t u : TT} {d x y z : Dt} {p q : PyData} {n m : Nat}
theorem ev_eqD (ha : Ev K ta ss os x) (hb : Ev K tb ss os y) (hx : Ql n x p) (hy : Ql m y q) (hn : n ≤ 64) (hm : m ≤ 64) : Ev K (tOp (rEqD K) ta tb) ss os (.bl (PyData.eqv p q)) :=
  ev_op ha hb fun ss σ G H R a b ra rb Q k => ⟨p, q, hx.dp R.gh ra, hy.dp R.gh rb, hx.shaped hn, hy.shaped hm, k _ G H (Gq.refl G H) R.gh (.bl _)⟩
theorem ev_neD (ha : Ev K ta ss os x) (hb : Ev K tb ss os y) (hx : Ql n x p) (hy : Ql m y q) (hn : n ≤ 64) (hm : m ≤ 64) : Ev K (tOp (rNeD K) ta tb) ss os (.bl (!PyData.eqv p q)) :=
  ev_op ha hb fun ss σ G H R a b ra rb Q k => ⟨p, q, hx.dp R.gh ra, hy.dp R.gh rb, hx.shaped hn, hy.shaped hm, k _ G H (Gq.refl G H) R.gh (.bl _)⟩
theorem ev_eqIL {xs ys : List Int} (ha : Ev K ta ss os (iL xs)) (hb : Ev K tb ss os (iL ys)) : Ev K (tOp (rEqD K) ta tb) ss os (.bl (decide (xs = ys))) := by
  have := ev_eqD ha hb (.iL (n := 0) xs) (.iL (n := 0) ys) (by decide) (by decide)
  rw [eqv_iL] at this
  exact this
theorem ev_neIL {xs ys : List Int} (ha : Ev K ta ss os (iL xs)) (hb : Ev K tb ss os (iL ys)) : Ev K (tOp (rNeD K) ta tb) ss os (.bl (!decide (xs = ys))) := by
  have := ev_neD ha hb (.iL (n := 0) xs) (.iL (n := 0) ys) (by decide) (by decide)
  rw [eqv_iL] at this
  exact this
theorem ev_isB {a b : Bool} (ha : Ev K ta ss os (.bl a)) (hb : Ev K tb ss os (.bl b)) : Ev K (tOp rIsB ta tb) ss os (.bl (decide (a = b))) :=
  ev_op ha hb fun ss σ G H R v w ra rb Q k => by
    cases ra; cases rb
    exact ⟨a, b, rfl, rfl, k _ G H (Gq.refl G H) R.gh (.bl _)⟩
end
theorem excF_of {K : Fg} {mg : Str → Option Value} {x : Str} {C : Addr} (h : mg x = some (.ref C)) (e : PySem.W.excIn K C He.veBase "ValueError.__new__" = true ∧ PySem.W.keepIn K (.ref C) = true ∧ PySem.W.subIn K (.ref C) (.type "BaseException") = some true ∧
    PySem.W.typeIn K (.ref C) = some (.type "type")) : ExcF K mg x C := ⟨h, e.1, e.2.1, e.2.2.1, e.2.2.2⟩
theorem FzS.refl {p : Addr} {d : Dt} : ∀ ss : SS, FzS p d ss ss
  | [] => .nil
  | none :: r => .skip (FzS.refl r)
  | some x :: r => .cons (.same x) (FzS.refl r)
theorem FzS.set {p : Addr} {d x y : Dt} (h : Fz p d x y) : ∀ (ss : SS) (i : Nat), FzS p d (ss.set i (some x)) (ss.set i (some y))
  | [], _ => .nil
  | none :: r, 0 => .cons h (FzS.refl r)
  | some z :: r, 0 => .cons h (FzS.refl r)
  | none :: r, i + 1 => .skip (FzS.set h r i)
  | some z :: r, i + 1 => .cons (.same z) (FzS.set h r i)
theorem FzO.refl {p : Addr} {d : Dt} : ∀ os : Own, FzO p d os os
  | [] => .nil
  | (a, c) :: r => .cons (.same c) (FzO.refl r)
/-- the law's start -/
def c_law (A : Ad) : Ct := pureC (α := List Int) (fun ns => ns.length ≤ 63) (fun ns => [.scr ns]) fun _ => .ok (.bl true)
theorem law_start {K : Fg} {A : Ad} {H : Hp} {a : Addr} {ns : List Int} (hS : SqL K H a (ns.map V.int)) (hl : ns.length ≤ 63) : spC K 1 (c_law A) [.ref a] H (fun v _ => v = .bl true) fun _ _ _ => False := by
  refine ⟨rfl, [.scr ns], [], _, H, Ex.refl H, .cons (.scr hS) .nil, ownOk_nil, ⟨ns, hl, rfl, rfl, rfl⟩, ?_⟩
  rintro r os' G' H' ⟨rfl, rfl⟩ _ _ _ _ v rv
  cases rv
  rfl
end Cy

namespace Cy
/-! a day's run -/
section
variable {rooms held rain wishes : List Int}
abbrev runTo (rooms held rain wishes : List Int) (n : Nat) : DayS := iter (dayStep rooms rain wishes) ⟨[], held, 0⟩ n
theorem getD_set {l : List Int} {i j : Nat} {v : Int} (h : i < l.length) : (l.set i v).getD j 0 = if j = i then v else l.getD j 0 := by
  rw [List.getD_eq_getElem?_getD, List.getElem?_set, List.getD_eq_getElem?_getD]
  by_cases e : i = j
  · subst e; simp [h]
  · rw [if_neg e, if_neg (fun z => e z.symm)]
theorem getD_snoc {l : List Int} {j : Nat} {v : Int} : (l ++ [v]).getD j 0 = if j = l.length then v else l.getD j 0 := by
  rw [List.getD_eq_getElem?_getD, List.getD_eq_getElem?_getD]
  by_cases e : j = l.length
  · subst e; simp
  · rw [if_neg e]
    by_cases h : j < l.length
    · rw [List.getElem?_append_left h]
    · rw [List.getElem?_eq_none (by simp; omega), List.getElem?_eq_none (by omega)]
theorem runTo_facts (hw : wishes.length = rooms.length) (hh : held.length = rooms.length) : ∀ n, n ≤ rooms.length →
    (runTo rooms held rain wishes n).drawn.length = n ∧ (runTo rooms held rain wishes n).held.length = rooms.length ∧
    (∀ k, n ≤ k → (runTo rooms held rain wishes n).held.getD k 0 = held.getD k 0) ∧
    (∀ k, k < n → (runTo rooms held rain wishes n).drawn.getD k 0 = min (held.getD k 0 + rain.getD k 0 + (runTo rooms held rain wishes k).over) (wishes.getD k 0) ∧
      (runTo rooms held rain wishes n).held.getD k 0 = min (held.getD k 0 + rain.getD k 0 + (runTo rooms held rain wishes k).over - min (held.getD k 0 + rain.getD k 0 + (runTo rooms held rain wishes k).over) (wishes.getD k 0)) (rooms.getD k 0) ∧
      (runTo rooms held rain wishes (k + 1)).over = held.getD k 0 + rain.getD k 0 + (runTo rooms held rain wishes k).over - min (held.getD k 0 + rain.getD k 0 + (runTo rooms held rain wishes k).over) (wishes.getD k 0)
        - min (held.getD k 0 + rain.getD k 0 + (runTo rooms held rain wishes k).over - min (held.getD k 0 + rain.getD k 0 + (runTo rooms held rain wishes k).over) (wishes.getD k 0)) (rooms.getD k 0))
  | 0, _ => ⟨rfl, hh, fun _ _ => rfl, fun k h => absurd h (by omega)⟩
  | n + 1, hn => by
    obtain ⟨h1, h2, h3, h4⟩ := runTo_facts hw hh n (by omega)
    have e : runTo rooms held rain wishes (n + 1) = dayStep rooms rain wishes n (runTo rooms held rain wishes n) := rfl
    have en := h3 n (Nat.le_refl _)
    refine ⟨by rw [e, dayStep_drawn, h1], by rw [e, dayStep_held, h2], fun k hk => ?_, fun k hk => ?_⟩
    · rw [e]
      show ((runTo rooms held rain wishes n).held.set n _).getD k 0 = _
      rw [getD_set (by omega), if_neg (by omega)]
      exact h3 k (by omega)
    · by_cases ek : k = n
      · subst ek
        rw [e]
        refine ⟨?_, ?_, ?_⟩
        · show ((runTo rooms held rain wishes k).drawn ++ [_]).getD k 0 = _
          rw [getD_snoc, if_pos h1.symm, en]
        · show ((runTo rooms held rain wishes k).held.set k _).getD k 0 = _
          rw [getD_set (by omega), if_pos rfl, en]
        · show (runTo rooms held rain wishes k).held.getD k 0 + _ + _ - _ - _ = _
          rw [en]
      · obtain ⟨a, b, c⟩ := h4 k (by omega)
        refine ⟨?_, ?_, c⟩
        · rw [e]
          show ((runTo rooms held rain wishes n).drawn ++ [_]).getD k 0 = _
          rw [getD_snoc, if_neg (by omega)]
          exact a
        · rw [e]
          show ((runTo rooms held rain wishes n).held.set n _).getD k 0 = _
          rw [getD_set (by omega), if_neg ek]
          exact b
theorem runTo_over (hw : wishes.length = rooms.length) (hh : held.length = rooms.length) (p1 : ∀ k, k < rooms.length → 0 ≤ held.getD k 0) (p2 : ∀ k, k < rooms.length → 0 ≤ rain.getD k 0) :
    ∀ n, n ≤ rooms.length → 0 ≤ (runTo rooms held rain wishes n).over
  | 0, _ => Int.le_refl 0
  | n + 1, hn => by
    have ih := runTo_over hw hh p1 p2 n (by omega)
    obtain ⟨_, _, h3⟩ := (runTo_facts (rain := rain) hw hh (n + 1) hn).2.2.2 n (by omega)
    have := p1 n (by omega)
    have := p2 n (by omega)
    rw [h3]
    omega
theorem runTo_sum (hw : wishes.length = rooms.length) (hh : held.length = rooms.length) (hr : rain.length = rooms.length) : ∀ n, n ≤ rooms.length →
    (runTo rooms held rain wishes n).drawn.sum + (runTo rooms held rain wishes n).over + (runTo rooms held rain wishes n).held.sum = held.sum + (rain.take n).sum
  | 0, _ => by
    show ([] : List Int).sum + 0 + held.sum = held.sum + ([] : List Int).sum
    simp
  | n + 1, hn => by
    have ih := runTo_sum hw hh hr n (by omega)
    obtain ⟨h1, h2, h3, _⟩ := runTo_facts (rain := rain) hw hh n (by omega)
    have e : runTo rooms held rain wishes (n + 1) = dayStep rooms rain wishes n (runTo rooms held rain wishes n) := rfl
    generalize runTo rooms held rain wishes n = s at *
    rw [e]
    show (s.drawn ++ [_]).sum + _ + (s.held.set n _).sum = _
    rw [L2.sum_set (getD_some (show n < s.held.length by omega)), L2.sum_take (getD_some (show n < rain.length by omega)), List.sum_append]
    show _ + ([_] : List Int).sum + (_ - _ - _) + _ = _
    simp only [List.sum_cons, List.sum_nil]
    omega
theorem dayRun_sum (hw : wishes.length = rooms.length) (hh : held.length = rooms.length) (hr : rain.length = rooms.length) :
    (dayRun rooms held rain wishes).drawn.sum + (dayRun rooms held rain wishes).over + (dayRun rooms held rain wishes).held.sum = held.sum + rain.sum := by
  have := runTo_sum hw hh hr rooms.length (Nat.le_refl _)
  rw [← hr, List.take_length, hr] at this
  exact this
theorem dayRun_len (hw : wishes.length = rooms.length) (hh : held.length = rooms.length) : (dayRun rooms held rain wishes).drawn.length = rooms.length ∧ (dayRun rooms held rain wishes).held.length = rooms.length :=
  let h := runTo_facts (rain := rain) hw hh rooms.length (Nat.le_refl _)
  ⟨h.1, h.2.1⟩
theorem dayRun_overAt (hw : wishes.length = rooms.length) (hh : held.length = rooms.length) : ∀ n, n ≤ rooms.length →
    overAt held rain (dayRun rooms held rain wishes).drawn (dayRun rooms held rain wishes).held n = (runTo rooms held rain wishes n).over
  | 0, _ => rfl
  | n + 1, hn => by
    have ih := dayRun_overAt hw hh n (by omega)
    show held.getD n 0 + rain.getD n 0 + overAt _ _ _ _ n - _ - _ = _
    rw [ih]
    obtain ⟨a, b, c⟩ := (runTo_facts (rain := rain) hw hh rooms.length (Nat.le_refl _)).2.2.2 n (by omega)
    rw [c]
    show _ - (runTo rooms held rain wishes rooms.length).drawn.getD n 0 - (runTo rooms held rain wishes rooms.length).held.getD n 0 = _
    rw [a, b]
/-- what holds of a yard: rooms, water -/
structure YardWf (rooms held : List Int) : Prop where
  len : held.length = rooms.length
  pos : 1 ≤ rooms.length
  four : rooms.length ≤ 4
  room : ∀ k, k < rooms.length → 0 ≤ rooms.getD k 0 ∧ rooms.getD k 0 ≤ 50
  water : ∀ k, k < rooms.length → 0 ≤ held.getD k 0 ∧ held.getD k 0 ≤ rooms.getD k 0
theorem getD_mem' {l : List Int} {k : Nat} (h : k < l.length) : l.getD k 0 ∈ l := by
  have := getD_some h
  exact List.mem_of_getElem? this
theorem lOk_at {n : Nat} {xs : List Int} (h : lOk n xs = true) {k : Nat} (hk : k < n) : 0 ≤ xs.getD k 0 ∧ xs.getD k 0 ≤ 30 := by
  obtain ⟨h1, h2⟩ := lOk_iff.mp h
  exact withinB_iff.mp h2 _ (getD_mem' (by omega))
theorem lOk_len {n : Nat} {xs : List Int} (h : lOk n xs = true) : xs.length = n := (lOk_iff.mp h).1
theorem dayRun_holds (Y : YardWf rooms held) (hd : dayOk rooms.length (rain, wishes) = true) : dayHolds rooms held (rain, wishes) ((dayRun rooms held rain wishes).drawn, (dayRun rooms held rain wishes).held) = true := by
  obtain ⟨h1, h2⟩ := dayOk_iff.mp hd
  have h1 : lOk rooms.length rain = true := h1
  have h2 : lOk rooms.length wishes = true := h2
  have hw := lOk_len h2
  obtain ⟨l1, l2⟩ := dayRun_len (rain := rain) hw Y.len
  refine dayHolds_iff.mpr ⟨by rw [Y.len]; exact l1, by rw [Y.len]; exact l2, fun k hk => ?_⟩
  have hk : k < rooms.length := by rw [Y.len] at hk; exact hk
  obtain ⟨a, b, c⟩ := (runTo_facts (rain := rain) hw Y.len rooms.length (Nat.le_refl _)).2.2.2 k hk
  have ov := runTo_over (rain := rain) hw Y.len (fun k hk => (Y.water k hk).1) (fun k hk => (lOk_at h1 hk).1)
  have o1 := ov k (by omega)
  have o2 := ov (k + 1) (by omega)
  have w1 := Y.water k hk
  have w2 := (lOk_at h1 hk).1
  have w3 := (lOk_at h2 hk).1
  have w4 := (Y.room k hk).1
  refine tankOk_iff.mpr ?_
  show 0 ≤ (runTo rooms held rain wishes rooms.length).drawn.getD k 0 ∧ 0 ≤ (runTo rooms held rain wishes rooms.length).held.getD k 0 ∧ 0 ≤ overAt held rain (dayRun rooms held rain wishes).drawn (dayRun rooms held rain wishes).held (k + 1) ∧
    (runTo rooms held rain wishes rooms.length).drawn.getD k 0 ≤ wishes.getD k 0 ∧ (runTo rooms held rain wishes rooms.length).held.getD k 0 ≤ rooms.getD k 0
  rw [dayRun_overAt hw Y.len (k + 1) (by omega), a, b]
  have w2 : 0 ≤ rain.getD k 0 := w2
  have w3 : 0 ≤ wishes.getD k 0 := w3
  omega
theorem dayRun_wf (Y : YardWf rooms held) (hd : dayOk rooms.length (rain, wishes) = true) : YardWf rooms (dayRun rooms held rain wishes).held := by
  have h := dayHolds_iff.mp (dayRun_holds Y hd)
  have hw : wishes.length = rooms.length := lOk_len (dayOk_iff.mp hd).2
  obtain ⟨l1, l2⟩ := dayRun_len (rain := rain) hw Y.len
  refine ⟨l2, Y.pos, Y.four, Y.room, fun k hk => ?_⟩
  have := tankOk_iff.mp (h.2.2 k (by rw [Y.len]; exact hk))
  exact ⟨this.2.1, this.2.2.2.2⟩
end
/-- days that go by, one behind another -/
def hAt (rooms held : List Int) (days : List Day) : Nat → List Int := iter (fun n h => (dayRun rooms h (days.getD n ([], [])).1 (days.getD n ([], [])).2).held) held
def pAt (rooms held : List Int) (days : List Day) (n : Nat) : DayS := dayRun rooms (hAt rooms held days n) (days.getD n ([], [])).1 (days.getD n ([], [])).2
def planTo (rooms held : List Int) (days : List Day) (n : Nat) : List Day := (List.range n).map fun k => ((pAt rooms held days k).drawn, (pAt rooms held days k).held)
theorem hAt_succ (rooms held : List Int) (days : List Day) (n : Nat) : hAt rooms held days (n + 1) = (pAt rooms held days n).held := rfl
theorem hAt_wf {rooms held : List Int} {days : List Day} (Y : YardWf rooms held) (hd : ∀ d ∈ days, dayOk rooms.length d = true) : ∀ n, n ≤ days.length → YardWf rooms (hAt rooms held days n)
  | 0, _ => Y
  | n + 1, h => dayRun_wf (hAt_wf Y hd n (by omega)) (hd _ (List.mem_of_getElem? (getDay (show n < days.length by omega))))
theorem planTo_at {rooms held : List Int} {days : List Day} {n k : Nat} (h : k < n) : (planTo rooms held days n).getD k ([], []) = ((pAt rooms held days k).drawn, (pAt rooms held days k).held) := by
  rw [List.getD_eq_getElem?_getD, planTo, List.getElem?_map, List.getElem?_range h]; rfl
theorem heldAt_plan {rooms held : List Int} {days : List Day} {n : Nat} : ∀ k, k ≤ n → heldAt held (planTo rooms held days n) k = hAt rooms held days k
  | 0, _ => rfl
  | k + 1, h => by
    show ((planTo rooms held days n).getD k ([], [])).2 = _
    rw [planTo_at (by omega)]
    rfl
theorem plan_holds {rooms held : List Int} {days : List Day} (Y : YardWf rooms held) (hd : ∀ d ∈ days, dayOk rooms.length d = true) : holdsB rooms held days (planTo rooms held days days.length) = true := by
  refine holdsB_iff.mpr ⟨by simp [planTo], fun n hn => ?_⟩
  rw [heldAt_plan n (by omega), planTo_at hn]
  exact dayRun_holds (hAt_wf Y hd n (by omega)) (hd _ (List.mem_of_getElem? (getDay hn)))
theorem sum_map_range {f : Nat → Int} (n : Nat) : ((List.range (n + 1)).map f).sum = ((List.range n).map f).sum + f n := by
  rw [List.range_succ, List.map_append, List.sum_append]; simp
/-! the drawn yards and days -/
end Cy

namespace Cy
open PySem L2
/-! ### the drawn yards and days -/
theorem three_le {x y z m : Int} (hx : x ≤ m) (hy : y ≤ m) (hz : z ≤ m) {i : Nat} (h : i < 3) : ([x, y, z] : List Int).getD i 0 ≤ m := by
  match i, h with
  | 0, _ => exact hx
  | 1, _ => exact hy
  | 2, _ => exact hz
theorem topBy_le (ns : List Int) (b : Int) : topBy ns b ≤ 51 := three_le (by decide) (by decide) (by decide) (by have := drawn_pos ns (b + 1) (many := 3) (by decide); omega)
theorem dtopBy_le (ns : List Int) (b : Int) : dtopBy ns b ≤ 31 := three_le (by decide) (by decide) (by decide) (by have := drawn_pos ns b (many := 3) (by decide); omega)
theorem watersBy_len (ns : List Int) (b : Int) : (watersBy ns b).length = manyBy ns b := by simp [watersBy]
theorem watersBy_at {ns : List Int} {b : Int} {k : Nat} (h : k < manyBy ns b) : (watersBy ns b).getD k 0 = drawn ns (b + 6 + k) ((roomsBy ns b).getD k 0 + 1) := by
  rw [List.getD_eq_getElem?_getD, watersBy, List.getElem?_map, List.getElem?_range h]; rfl
theorem yardBy_wf (ns : List Int) (b : Int) : YardWf (roomsBy ns b) (watersBy ns b) := by
  have hm := manyBy_le ns b
  have h : ∀ k, k < (roomsBy ns b).length → 0 ≤ (roomsBy ns b).getD k 0 ∧ (roomsBy ns b).getD k 0 ≤ 50 := fun k hk => by
    rw [roomsBy_len] at hk
    rw [roomsBy_at hk]
    have := drawn_pos ns (b + 2 + k) (topBy_pos ns b)
    have := topBy_le ns b
    omega
  refine ⟨by rw [roomsBy_len, watersBy_len], by rw [roomsBy_len]; omega, by rw [roomsBy_len]; omega, h, fun k hk => ?_⟩
  have h1 := h k hk
  rw [roomsBy_len] at hk
  rw [watersBy_at hk]
  have := drawn_pos ns (b + 6 + k) (many := (roomsBy ns b).getD k 0 + 1) (by omega)
  omega
theorem withinB_of {ns : List Int} {m : Int} (h : ∀ k, k < ns.length → 0 ≤ ns.getD k 0 ∧ ns.getD k 0 ≤ m) : withinB ns m = true := withinB_iff.mpr fun x hx => by
  obtain ⟨i, hi, e⟩ := List.getElem_of_mem hx
  have := h i hi
  rw [List.getD_eq_getElem?_getD, List.getElem?_eq_getElem hi, e] at this
  exact this
theorem YardWf.ok {rooms held : List Int} (Y : YardWf rooms held) : yardOk rooms held = true := yardOk_iff.mpr ⟨Y.pos, Y.four, Y.len, withinB_of Y.room, Y.water⟩
theorem lOk_map {n : Nat} {f : Nat → Int} (h : ∀ k, k < n → 0 ≤ f k ∧ f k ≤ 30) : lOk n ((List.range n).map f) = true := by
  refine lOk_iff.mpr ⟨by simp, withinB_iff.mpr fun x hx => ?_⟩
  obtain ⟨k, hk, rfl⟩ := List.mem_map.mp hx
  exact h k (List.mem_range.mp hk)
theorem daysBy_ok (ns : List Int) (b : Int) (many : Nat) : daysOk many (daysBy ns b many 8) = true := by
  have hd := drawn_pos ns (b + 1) (many := 8 + 1) (by decide)
  have hp := dtopBy_pos ns b
  have hl := dtopBy_le ns b
  refine daysOk_iff.mpr ⟨by unfold daysBy; rw [List.length_map, List.length_range]; omega, fun d hd => ?_⟩
  obtain ⟨n, hn, rfl⟩ := List.mem_map.mp hd
  have hw : ∀ k, 0 ≤ drawn ns (b + 14 + 8 * n + k) (dtopBy ns b) ∧ drawn ns (b + 14 + 8 * n + k) (dtopBy ns b) ≤ 30 := fun k => by
    have := drawn_pos ns (b + 14 + 8 * n + k) hp
    omega
  refine dayOk_iff.mpr ⟨lOk_map fun k hk => ?_, ?_⟩
  · have := drawn_pos ns (b + 10 + 8 * n + k) hp
    omega
  · show lOk many (wishesBy ns b many n) = true
    unfold wishesBy
    split
    · rw [List.map_map]
      refine lOk_map fun k hk => ?_
      have := hw k
      show 0 ≤ min 30 (2 * drawn ns (b + 14 + 8 * n + k) (dtopBy ns b)) ∧ min 30 (2 * drawn ns (b + 14 + 8 * n + k) (dtopBy ns b)) ≤ 30
      omega
    · exact lOk_map fun k hk => hw k
theorem daysBy_ok' (ns : List Int) (b b2 : Int) : daysOk (roomsBy ns b2).length (daysBy ns b (manyBy ns b2) 8) = true := by
  rw [roomsBy_len]; exact daysBy_ok ns b _
section
variable {K : Fg} {A : Ad} {B : Bs} {D : Ends} {ss : SS} {os : Own} {u : TS} {ta tb tx : TE} {E : XK}
/-- x = Yard(rooms, waters) -/
theorem q_yard {i : Nat} {rooms waters : List Int} {tA : TA} (Y : yardOk rooms waters = true) (hB : B.fp = []) (ha : EvA K tA ss os [iL rooms, iL waters])
    (k : ∀ h, h ∉ keys os → Do K B u (ss.set i (some (yardO A rooms h))) ((h, .lst (waters.map Dt.int)) :: os) D) : Do K B (tSeq (tAsg (tMake A.Yard (spC K 3 (c_Yard_init A)) [] E tA) (gName i)) u) ss os D := by
  refine q_asgM (em_make (P := fun p r os' => if yardOk rooms waters then r = .ok .non ∧ ∃ h, h ≠ p ∧ os' = [(p, .ins A.Yard ["sizes", "held"] [iL rooms, .adr h]), (h, .lst (waters.map Dt.int))] else r = .er A.BadYard) ha rfl (fun p => ⟨p, rooms, waters, rfl, rfl, rfl⟩)
    (fun p C os' h => by rw [if_pos Y] at h; cases h.1) (fun p d os' h => by rw [if_pos Y] at h; cases h.1; rfl)) fun d os' hd => ?_
  obtain ⟨p, os1, rfl, np, hP, rfl⟩ := hd
  rw [if_pos Y] at hP
  obtain ⟨_, h, ne, rfl⟩ := hP
  intro σ G H b r
  have nd := r.ow.nd
  have nh : h ∉ keys os := fun m => by
    have : (p :: h :: keys os).Nodup := nd
    exact (List.nodup_cons.mp (List.nodup_cons.mp this).2).1 m
  exact do_frz (p := p) (c := .ins A.Yard ["sizes", "held"] [iL rooms, .adr h]) (os0 := (h, .lst (waters.map Dt.int)) :: os) (List.Perm.refl _) (fun _ z => by cases z) (by rw [hB]; simp) (FzS.set .here _ _) (FzO.refl _) (k h nh) σ G H b r
/-- x = yard.day(rain, wishes) -/
theorem q_day {i : Nat} {rooms held : List Int} {h : Addr} {d : Day} {tA : TA} {tail : Own} (Y : YardWf rooms held) (hd : dayOk rooms.length d = true) (hB : B.fp = []) (hx : Ev K tx ss os (yardO A rooms h)) (hp : os.Perm ((h, .lst (held.map Dt.int)) :: tail))
    (ha : EvA K tA ss os [iL d.1, iL d.2])
    (k : ∀ q, q ∉ keys os → Do K B u (ss.set i (some (.tup [iL (dayRun rooms held d.1 d.2).drawn, .int (dayRun rooms held d.1 d.2).over]))) ((h, .lst ((dayRun rooms held d.1 d.2).held.map Dt.int)) :: tail) D) :
    Do K B (tSeq (tAsg (tMeth A.Yard "day" (spC K 3 (c_Yard_day A)) [] E tx tA) (gName i)) u) ss os D := by
  refine q_asgM (em_meth (osp := [(h, .lst (held.map Dt.int))]) (osr := tail) hx IV.ins (by decide +kernel) ha rfl hp ⟨rooms, held, h, d, Y.len, Y.four, rfl, rfl, rfl⟩ (fun C os' h => by rw [if_pos hd] at h; obtain ⟨q, _, z, _⟩ := h; cases z)) fun dd os' hdd => ?_
  obtain ⟨os1, hP, rfl⟩ := hdd
  rw [if_pos hd] at hP
  obtain ⟨q, nq, e, rfl⟩ := hP
  cases e
  intro σ G H b r
  have nqo : q ∉ keys os := fun m => by
    have m2 : q ∈ keys ((h, Cel.lst (held.map Dt.int)) :: tail) := (hp.map (·.1)).mem_iff.mp m
    have nd : (h :: q :: keys tail).Nodup := r.ow.nd
    rcases List.mem_cons.mp m2 with z | z
    · exact nq z
    · exact (List.nodup_cons.mp (List.nodup_cons.mp nd).2).1 z
  refine do_frz (p := q) (c := .lst ((dayRun rooms held d.1 d.2).drawn.map Dt.int)) (os0 := (h, .lst ((dayRun rooms held d.1 d.2).held.map Dt.int)) :: tail) (List.Perm.swap _ _ _) (fun _ z => by cases z) (by rw [hB]; simp) (FzS.set (.tup (.cons .here (.cons (.same _) .nil))) _ _) (FzO.refl _) (k q nqo) σ G H b r
/-- yard.waters(), the water one's own: a new list -/
theorem ef_waters {rooms held : List Int} {h : Addr} (hx : Ev K tx ss os (yardO A rooms h)) (m : (h, Cel.lst (held.map Dt.int)) ∈ os) : EvF K (tMeth A.Yard "waters" (spC K 1 (c_Yard_waters A)) [] E tx tNil) ss os (held.map Dt.int) :=
  ef_methL (x' := yardD A rooms held) hx IV.ins (by decide +kernel) ea_nil (.cons (.insI (.cons (.same _) (.cons (.lst m) .nil))) .nil) rfl ⟨rooms, held, rfl, rfl, rfl⟩ (Thins.ints _)
theorem ef_watersD {rooms held : List Int} (hx : Ev K tx ss os (yardD A rooms held)) : EvF K (tMeth A.Yard "waters" (spC K 1 (c_Yard_waters A)) [] E tx tNil) ss os (held.map Dt.int) :=
  ef_methL hx IV.ins (by decide +kernel) ea_nil (Fms.refl _) rfl ⟨rooms, held, rfl, rfl, rfl⟩ (Thins.ints _)
end
end Cy

namespace Cy
open PySem L2
open Evl (Ex Ex.refl Ex.trans Ex.new Ex.mut)
/-! ### many cells frozen at once -/
inductive FmS (os : Own) : SS → SS → Prop
  | nil : FmS os [] []
  | cons {x y : Dt} {xs ys : SS} : Fm os x y → FmS os xs ys → FmS os (some x :: xs) (some y :: ys)
  | skip {x : Option Dt} {xs ys : SS} : FmS os xs ys → FmS os (x :: xs) (none :: ys)
inductive FmC (os : Own) : Cel → Cel → Prop
  | same (c : Cel) : FmC os c c
  | lst {xs ys : List Dt} : Fms os xs ys → FmC os (.lst xs) (.lst ys)
  | ins {C : Addr} {ns : List Str} {xs ys : List Dt} : Fms os xs ys → FmC os (.ins C ns xs) (.ins C ns ys)
inductive FmO (os : Own) : Own → Own → Prop
  | nil : FmO os [] []
  | cons {a : Addr} {c c' : Cel} {xs ys : Own} : FmC os c c' → FmO os xs ys → FmO os ((a, c) :: xs) ((a, c') :: ys)
theorem FmS.refl {os : Own} : ∀ ss : SS, FmS os ss ss
  | [] => .nil
  | none :: r => .skip (FmS.refl r)
  | some x :: r => .cons (.same x) (FmS.refl r)
theorem FmS.set {os : Own} {x y : Dt} (h : Fm os x y) : ∀ (ss : SS) (i : Nat), FmS os (ss.set i (some x)) (ss.set i (some y))
  | [], _ => .nil
  | none :: r, 0 => .cons h (FmS.refl r)
  | some z :: r, 0 => .cons h (FmS.refl r)
  | none :: r, i + 1 => .skip (FmS.set h r i)
  | some z :: r, i + 1 => .cons (.same z) (FmS.set h r i)
theorem FmO.refl {os : Own} : ∀ o : Own, FmO os o o
  | [] => .nil
  | (a, c) :: r => .cons (.same c) (FmO.refl r)
theorem FmO.keys {os : Own} : ∀ {xs ys : Own}, FmO os xs ys → keys ys = keys xs
  | _, _, .nil => rfl
  | _, _, .cons _ r => by simp [Cy.keys, r.keys]
theorem FmO.at_ {os : Own} : ∀ {xs ys : Own}, FmO os xs ys → ∀ y ∈ ys, ∃ x ∈ xs, x.1 = y.1 ∧ FmC os x.2 y.2
  | _, _, .nil, y, m => by simp at m
  | _, _, .cons (a := a) (c := c) f r, y, m => by
    rcases List.mem_cons.mp m with rfl | m
    · exact ⟨_, List.mem_cons_self, rfl, f⟩
    · obtain ⟨x, hx, e⟩ := r.at_ y m
      exact ⟨x, List.mem_cons_of_mem _ hx, e⟩
section
variable {K : Fg} {G G' H H' : Hp} {os osf os0 osr : Own} {ss ss' : SS} {B : Bs} {t : TS} {D : Ends}
theorem FmS.slots (hh : ∀ {x y : List Dt} {v : List V}, Fms os x y → Rps K G v x → Rps K G' v y) : ∀ {σ : St} {ss ss' : SS}, FmS os ss ss' → Slots K G σ ss → Slots K G' σ ss'
  | σ, _, _, .nil, h => ⟨h.1, fun i d q => by simp at q⟩
  | [], _, _, .cons f r, h => by have := h.1; simp at this
  | [], _, _, .skip r, h => by have := h.1; simp at this
  | w :: σ, _, _, .cons f r, h => by
    have ih := FmS.slots (σ := σ) hh r ⟨by have := h.1; simpa using this, fun i d q => by simpa using h.2 (i + 1) d (by simpa using q)⟩
    refine ⟨by have := ih.1; simp [this], fun i d q => ?_⟩
    cases i with
    | zero =>
      obtain ⟨v, h1, h2⟩ := h.2 0 _ rfl
      simp at q
      subst q
      have := hh (.cons f .nil) (.cons h2 .nil)
      cases this with
      | cons a b => exact ⟨v, h1, a⟩
    | succ i =>
      obtain ⟨v, h1, h2⟩ := ih.2 i d (by simpa using q)
      exact ⟨v, by simpa using h1, h2⟩
  | w :: σ, _, _, .skip r, h => by
    have ih := FmS.slots (σ := σ) hh r ⟨by have := h.1; simpa using this, fun i d q => by simpa using h.2 (i + 1) d (by simpa using q)⟩
    refine ⟨by have := ih.1; simp [this], fun i d q => ?_⟩
    cases i with
    | zero => simp at q
    | succ i =>
      obtain ⟨v, h1, h2⟩ := ih.2 i d (by simpa using q)
      exact ⟨v, by simpa using h1, h2⟩
theorem do_frzM (hp : os.Perm (osf ++ os0)) (hn : ∀ x ∈ osf, x.1 ∉ B.fp) (hs : FmS osf ss ss') (ho : FmO osf os0 osr) (k : Do K B t ss' osr D) : Do K B t ss os D := fun σ G H b r => by
  classical
  have ow := r.ow.perm hp
  have ol := ow.left
  let Gl : Hp := fun a => if a ∈ keys osf then H a else G a
  have key : ∀ {a}, a ∈ keys osf → G a = none ∧ (∃ c, (a, c) ∈ osf ∧ CelOk K G H a c) := fun {a} m => by
    obtain ⟨x, hx, e⟩ := List.mem_map.mp m
    obtain ⟨h1, h2⟩ := ol.at_ x hx
    subst e
    exact ⟨h1, x.2, hx, h2⟩
  have gi : ∀ {a}, a ∈ keys osf → Gl a = H a := fun m => if_pos m
  have go : ∀ {a}, a ∉ keys osf → Gl a = G a := fun m => if_neg m
  have e1 : Ex G Gl := fun a o h => by
    by_cases m : a ∈ keys osf
    · rw [(key m).1] at h; cases h
    · rw [go m]; exact h
  have e2 : Ex Gl H := fun a o h => by
    by_cases m : a ∈ keys osf
    · rw [gi m] at h; exact h
    · rw [go m] at h; exact r.gh _ _ h
  have hn2 : ∀ p ds, (p, Cel.lst ds) ∈ osf → ∃ vs, Gl p = some (.lst vs) ∧ Rps K G vs ds := fun p ds m => by
    obtain ⟨_, vs, h1, h2⟩ := ol.at_ _ m
    exact ⟨vs, (gi (mem_keys m)).trans h1, h2⟩
  have hl : ∀ p ds, (p, Cel.lst ds) ∈ osf → ∃ vs, Gl p = some (.lst vs) ∧ Rps K Gl vs ds := fun p ds m => by
    obtain ⟨vs, h1, h2⟩ := hn2 p ds m
    exact ⟨vs, h1, h2.mono e1⟩
  have hi : ∀ p C ns ds, (p, Cel.ins C ns ds) ∈ osf → ∃ dx vs, Gl p = some (.ins C dx (ns.zip vs)) ∧ Rps K G vs ds := fun p C ns ds m => by
    obtain ⟨_, dx, vs, _, h1, h2⟩ := ol.at_ _ m
    exact ⟨dx, vs, (gi (mem_keys m)).trans h1, h2⟩
  have hh : ∀ {x y : List Dt} {v : List V}, Fms osf x y → Rps K G v x → Rps K Gl v y := fun f r => Rps.fm e1 hl hn2 hi f r
  have nd := ow.nd
  rw [keys, List.map_append] at nd
  obtain ⟨n1, n2, n3⟩ := List.nodup_append.mp nd
  refine k σ Gl H ⟨⟨b.gq.ex.trans e1, fun a o h => ?_, b.gq.keep, b.gq.dom⟩, fun x m => ?_⟩ ⟨e2, hs.slots hh r.sl, ⟨by rw [ho.keys]; exact n2, fun y m => ?_⟩⟩
  · by_cases m : a ∈ keys osf
    · right
      obtain ⟨x, hx, e⟩ := List.mem_map.mp m
      rcases b.nw x (hp.mem_iff.mpr (List.mem_append_left _ hx)) with z | z
      · rw [← e]; exact z
      · exact (hn x hx z).elim
    · rw [go m] at h; exact b.gq.new a o h
  · have : x.1 ∈ keys osr := mem_keys m
    rw [ho.keys] at this
    obtain ⟨y, hy, e⟩ := List.mem_map.mp this
    have := b.nw y (hp.mem_iff.mpr (List.mem_append_right _ hy))
    rw [e] at this
    exact this
  · obtain ⟨x, hx, q1, f⟩ := ho.at_ y m
    obtain ⟨g1, c1⟩ := ow.at_ x (List.mem_append_right _ hx)
    have ne : x.1 ∉ keys osf := fun z => n3 _ z _ (mem_keys hx) rfl
    refine ⟨by rw [← q1, go ne]; exact g1, ?_⟩
    rw [← q1]
    generalize x.2 = c0 at f c1
    generalize y.2 = c2 at f
    cases f with
    | same => exact c1.mono e1 rfl
    | lst f =>
      obtain ⟨vs, h1, h2⟩ := c1
      exact ⟨vs, h1, hh f h2⟩
    | ins f =>
      obtain ⟨dx, vs, l, h1, h2⟩ := c1
      exact ⟨dx, vs, l, h1, hh f h2⟩
theorem nx_frzM {Z : St → Hp → Prop} (hp : os.Perm (osf ++ os0)) (hn : ∀ x ∈ osf, x.1 ∉ B.fp) (hs : FmS osf ss ss') (ho : FmO osf os0 osr) (k : Nx K B Z ss' osr) : Nx K B Z ss os :=
  do_frzM (t := fun _ => Z) (D := ⟨Z, fun _ _ => True, Z, Z⟩) hp hn hs ho k
end
theorem set_same {ss : SS} {i : Nat} {x : Dt} (h : ss[i]? = some (some x)) : ss.set i (some x) = ss := by
  refine List.ext_getElem? fun j => ?_
  by_cases e : i = j
  · subst e
    rw [List.getElem?_set_self (List.getElem?_eq_some_iff.mp h).1, h]
  · rw [List.getElem?_set_ne e]
theorem FzS.at {p : Addr} {d x y : Dt} {ss : SS} (i : Nat) (h : ss[i]? = some (some x)) (f : Fz p d x y) : FzS p d ss (ss.set i (some y)) := by
  have := FzS.set f ss i
  rw [set_same h] at this
  exact this
theorem FmS.at {os : Own} {x y : Dt} {ss : SS} (i : Nat) (h : ss[i]? = some (some x)) (f : Fm os x y) : FmS os ss (ss.set i (some y)) := by
  have := FmS.set f ss i
  rw [set_same h] at this
  exact this
/-! ### isinstance -/
inductive TyD (os : Own) : Dt → String → Prop
  | non : TyD os .non "NoneType"
  | bl (b : Bool) : TyD os (.bl b) "bool"
  | int (b : Int) : TyD os (.int b) "int"
  | str (b : Str) : TyD os (.str b) "str"
  | lst (b : List Dt) : TyD os (.lst b) "list"
  | tup (b : List Dt) : TyD os (.tup b) "tuple"
  | own {p : Addr} {ds : List Dt} : (p, Cel.lst ds) ∈ os → TyD os (.adr p) "list"
section
variable {K : Fg} {ss : SS} {os : Own} {ta tb te tx : TE} {d x : Dt} {ds : List Dt} {B : Bs} {D : Ends} {t u : TS}
theorem ev_isi {T n : String} {b : Bool} (ha : Ev K ta ss os x) (ht : TyD os x T) (hk : PySem.W.kitOne K (.type T) (.type n) = some b) : Ev K (tCB (rIsi K) (tCons ta (tCons (tC (V.ty n)) tNil))) ss os (.bl b) := fun σ G H R Q q => ha σ G H R _ fun v G1 H1 q1 e1 r1 => by
  refine ⟨v, .ty n, .type T, .type n, b, rfl, .ty n, .base ?_, hk, q _ G1 H1 q1 e1 (.bl _)⟩
  cases ht with
  | non => cases r1; exact .non
  | bl => cases r1; exact .bl _
  | int => cases r1; exact .int _
  | str => cases r1; exact .str _
  | lst =>
    cases r1 with
    | lst h1 h2 => exact .lst (e1 _ _ h1)
  | tup =>
    cases r1 with
    | tup h1 h2 => exact .tup (e1 _ _ h1)
  | own m =>
    cases r1
    obtain ⟨_, vs, h1, _⟩ := (R.ow.grow q1).at_ _ m
    exact .lst h1
theorem kit_bb : PySem.W.kitOne K (.type "bool") (.type "bool") = some true := by rfl
theorem kit_ib : PySem.W.kitOne K (.type "int") (.type "bool") = some false := by rfl
theorem kit_ii : PySem.W.kitOne K (.type "int") (.type "int") = some true := by rfl
theorem kit_ll : PySem.W.kitOne K (.type "list") (.type "list") = some true := by rfl
theorem kit_tt : PySem.W.kitOne K (.type "tuple") (.type "tuple") = some true := by rfl
theorem ev_eqB {i j : Bool} (ha : Ev K ta ss os (.bl i)) (hb : Ev K tb ss os (.bl j)) : Ev K (tOp rEq ta tb) ss os (.bl (decide (i = j))) := by
  have := ev_op ha hb (rv_eq (K := K) (os := os) (x := .bl i) (y := .bl j) (a := .bl i) (b := .bl j) rfl rfl rfl)
  have e : decide (V.bl i = V.bl j) = decide (i = j) := by
    by_cases h : i = j
    · subst h; simp
    · simp [h]
  rw [e] at this
  exact this
/-! ### pop -/
theorem em_pop {p : Addr} (ha : Ev K ta ss os (.adr p)) (m : (p, Cel.lst ds) ∈ os) (h : ds[ds.length - 1]? = some d) : EvM K (tBM0 K "list" rPop ta) ss os (fun d' os' => d' = d ∧ os' = setC os p (.lst ds.dropLast)) := fun σ G H r Q q =>
  ha σ G H r _ fun v G1 H1 q1 e1 r1 => by
    cases r1
    have R1 := r.grow q1 e1
    obtain ⟨gp, vs, h1, rv⟩ := R1.ow.at_ _ m
    obtain ⟨w, hw, rw_⟩ := rv.get h
    refine ⟨Or.inl ⟨rfl, vs, .of h1⟩, p, vs, w, rfl, rfl, h1, by rw [rv.length]; exact hw, ?_⟩
    obtain ⟨q3, e3⟩ := gq_put (fp := keys os) (o := .lst vs.dropLast) R1.gh gp h1 (mem_keys m)
    refine q d _ w G1 _ ⟨rfl, rfl⟩ ((q1.wk (by simp)).trans q3 fun p m => .inl m) e3 (R1.ow.put ⟨_, upd_same, rv.dropLast⟩) (fun x mx => ?_) rw_
    right
    have : x.1 ∈ keys (setC os p (.lst ds.dropLast)) := mem_keys mx
    rw [keys_setC] at this
    exact this
theorem em_popAt {p : Addr} {i : Int} {k : Nat} (ha : Ev K ta ss os (.adr p)) (m : (p, Cel.lst ds) ∈ os) (hb : Ev K tb ss os (.int i)) (h0 : -(2 ^ 63) ≤ i) (h1 : i < 2 ^ 63) (hk : seqIndex? i ds.length = some k) (h : ds[k]? = some d) :
    EvM K (tBM K "list" rPopAt ta (tCons tb tNil)) ss os (fun d' os' => d' = d ∧ os' = setC os p (.lst (ds.eraseIdx k))) := fun σ G H r Q q =>
  ha σ G H r _ fun v G1 H1 q1 e1 r1 => by
    cases r1
    have R1 := r.grow q1 e1
    obtain ⟨_, vs0, h00, _⟩ := R1.ow.at_ _ m
    refine ⟨Or.inl ⟨rfl, vs0, .of h00⟩, hb σ G1 H1 R1 _ fun z G2 H2 q2 e2 r2 => ?_⟩
    cases r2
    have R2 := R1.grow q2 e2
    obtain ⟨gp, vs, hh, rv⟩ := R2.ow.at_ _ m
    obtain ⟨w, hw, rw_⟩ := rv.get h
    refine ⟨p, vs, i, k, w, rfl, rfl, hh, h0, h1, by rw [rv.length]; exact hk, hw, ?_⟩
    obtain ⟨q3, e3⟩ := gq_put (fp := keys os) (o := .lst (vs.eraseIdx k)) R2.gh gp hh (mem_keys m)
    refine q d _ w G2 _ ⟨rfl, rfl⟩ (((q1.trans q2 (by simp)).wk (by simp)).trans q3 fun p m => .inl m) e3 (R2.ow.put ⟨_, upd_same, rv.eraseIdx k⟩) (fun x mx => ?_) rw_
    right
    have : x.1 ∈ keys (setC os p (.lst (ds.eraseIdx k))) := mem_keys mx
    rw [keys_setC] at this
    exact this
end
/-! ### days whose lists are one's own -/
def cellsOf (as : List (Addr × Addr)) (ds : List Day) : Own := (as.zip ds).flatMap fun x => [(x.1.1, .lst (x.2.1.map Dt.int)), (x.1.2, .lst (x.2.2.map Dt.int))]
def spine (as : List (Addr × Addr)) : List Dt := as.map fun a => .tup [.adr a.1, .adr a.2]
def MadeDays (days : List Day) : Res → Own → Prop := fun r os' => ∃ p as, as.length = days.length ∧ r = .ok (.adr p) ∧ os' = (p, .lst (spine as)) :: cellsOf as days
theorem cells_mem {as : List (Addr × Addr)} {ds : List Day} {i : Nat} {a : Addr × Addr} {d : Day} (ha : as[i]? = some a) (hd : ds[i]? = some d) : (a.1, Cel.lst (d.1.map Dt.int)) ∈ cellsOf as ds ∧ (a.2, Cel.lst (d.2.map Dt.int)) ∈ cellsOf as ds := by
  have : (a, d) ∈ as.zip ds := List.mem_of_getElem? (i := i) (by rw [List.getElem?_zip_eq_some]; exact ⟨ha, hd⟩)
  exact ⟨List.mem_flatMap.mpr ⟨_, this, by simp⟩, List.mem_flatMap.mpr ⟨_, this, by simp⟩⟩
theorem cells_snoc {as : List (Addr × Addr)} {ds : List Day} (h : as.length = ds.length) (a : Addr × Addr) (d : Day) : cellsOf (as ++ [a]) (ds ++ [d]) = cellsOf as ds ++ [(a.1, .lst (d.1.map Dt.int)), (a.2, .lst (d.2.map Dt.int))] := by
  unfold cellsOf
  rw [List.zip_append h, List.flatMap_append]
  rfl
theorem setC_out {os : Own} {p : Addr} {c : Cel} (h : p ∉ keys os) : setC os p c = os := by
  unfold setC
  have : ∀ x ∈ os, (if x.1 = p then (p, c) else x) = x := fun x m => if_neg fun e : x.1 = p => h (by rw [← e]; exact mem_keys m)
  rw [List.map_congr_left this, List.map_id'']
  intro x; rfl
theorem setC_append {o1 o2 : Own} {p : Addr} {c : Cel} : setC (o1 ++ o2) p c = setC o1 p c ++ setC o2 p c := by
  unfold setC; rw [List.map_append]
theorem cells_fms {osl : Own} : ∀ {as : List (Addr × Addr)} {ds : List Day}, as.length = ds.length → (∀ x ∈ cellsOf as ds, x ∈ osl) → Fms osl (spine as) (ds.map dayD)
  | [], [], _, _ => .nil
  | [], _ :: _, h, _ => by simp at h
  | _ :: _, [], h, _ => by simp at h
  | a :: as, d :: ds, h, m => .cons (.tupI (.cons (.lst (m _ (by show _ ∈ [(a.1, Cel.lst (d.1.map Dt.int)), (a.2, Cel.lst (d.2.map Dt.int))] ++ cellsOf as ds; simp))) (.cons (.lst (m _ (by show _ ∈ [(a.1, Cel.lst (d.1.map Dt.int)), (a.2, Cel.lst (d.2.map Dt.int))] ++ cellsOf as ds; simp))) .nil)))
      (cells_fms (by simpa using h) fun x hx => m x (List.mem_append_right _ hx))
theorem days_fm {osl : Own} {as : List (Addr × Addr)} {ds : List Day} {p : Addr} (h : as.length = ds.length) (m : ∀ x ∈ (p, Cel.lst (spine as)) :: cellsOf as ds, x ∈ osl) : Fm osl (.adr p) (daysD ds) :=
  .lstN (m _ List.mem_cons_self) (cells_fms h fun x hx => m x (List.mem_cons_of_mem _ hx))
theorem spine_at {as : List (Addr × Addr)} {i : Nat} {a : Addr × Addr} (h : as[i]? = some a) : atI (spine as) (i : Int) = some (.tup [.adr a.1, .adr a.2]) := at_mapN (f := fun a : Addr × Addr => Dt.tup [.adr a.1, .adr a.2]) h
theorem spine_len (as : List (Addr × Addr)) : (spine as).length = as.length := by simp [spine]
/-- one of the lists is another one -/
theorem cells_set1 : ∀ {as : List (Addr × Addr)} {ds : List Day} {i : Nat} {a : Addr × Addr} {d : Day} {xs : List Int}, as[i]? = some a → ds[i]? = some d → (keys (cellsOf as ds)).Nodup →
    setC (cellsOf as ds) a.1 (.lst (xs.map Dt.int)) = cellsOf as (ds.set i (xs, d.2)) ∧ setC (cellsOf as ds) a.2 (.lst (xs.map Dt.int)) = cellsOf as (ds.set i (d.1, xs))
  | [], _, _, _, _, _, h, _, _ => by simp at h
  | _ :: _, [], _, _, _, _, _, h, _ => by simp at h
  | b :: as, e :: ds, 0, a, d, xs, ha, hd, nd => by
    simp at ha hd
    subst ha hd
    have nd : (b.1 :: b.2 :: keys (cellsOf as ds)).Nodup := nd
    obtain ⟨n1, n2⟩ := List.nodup_cons.mp nd
    obtain ⟨n3, n4⟩ := List.nodup_cons.mp n2
    have ne : b.1 ≠ b.2 := fun z => n1 (by rw [z]; exact List.mem_cons_self)
    have n5 : b.1 ∉ keys (cellsOf as ds) := fun z => n1 (List.mem_cons_of_mem _ z)
    have e1 : ∀ d' : Day, cellsOf (b :: as) (d' :: ds) = [(b.1, .lst (d'.1.map Dt.int)), (b.2, .lst (d'.2.map Dt.int))] ++ cellsOf as ds := fun _ => rfl
    rw [List.set_cons_zero, List.set_cons_zero, e1, e1, e1, setC_append, setC_append, setC_out n5, setC_out n3]
    constructor
    · congr 1
      simp [setC, ne.symm]
    · congr 1
      simp [setC, ne]
  | b :: as, e :: ds, i + 1, a, d, xs, ha, hd, nd => by
    have nd : (b.1 :: b.2 :: keys (cellsOf as ds)).Nodup := nd
    obtain ⟨n1, n2⟩ := List.nodup_cons.mp nd
    obtain ⟨n3, n4⟩ := List.nodup_cons.mp n2
    have ha : as[i]? = some a := by simpa using ha
    have hd : ds[i]? = some d := by simpa using hd
    obtain ⟨h1, h2⟩ := cells_set1 (xs := xs) ha hd n4
    obtain ⟨m1, m2⟩ := cells_mem ha hd
    have k1 : a.1 ∈ keys (cellsOf as ds) := mem_keys m1
    have k2 : a.2 ∈ keys (cellsOf as ds) := mem_keys m2
    have e1 : cellsOf (b :: as) (e :: ds) = [(b.1, .lst (e.1.map Dt.int)), (b.2, .lst (e.2.map Dt.int))] ++ cellsOf as ds := rfl
    have e2 : ∀ ds', cellsOf (b :: as) (e :: ds') = [(b.1, .lst (e.1.map Dt.int)), (b.2, .lst (e.2.map Dt.int))] ++ cellsOf as ds' := fun _ => rfl
    have o1 : a.1 ∉ keys ([(b.1, .lst (e.1.map Dt.int)), (b.2, .lst (e.2.map Dt.int))] : Own) := fun z => by
      simp at z
      rcases z with z | z
      · exact n1 (List.mem_cons_of_mem _ (z ▸ k1))
      · exact n3 (z ▸ k1)
    have o2 : a.2 ∉ keys ([(b.1, .lst (e.1.map Dt.int)), (b.2, .lst (e.2.map Dt.int))] : Own) := fun z => by
      simp at z
      rcases z with z | z
      · exact n1 (List.mem_cons_of_mem _ (z ▸ k2))
      · exact n3 (z ▸ k2)
    rw [List.set_cons_succ, List.set_cons_succ, e1, e2, e2, setC_append, setC_append, setC_out o1, setC_out o2, h1, h2]
    exact ⟨rfl, rfl⟩
theorem keys_cells {as : List (Addr × Addr)} : ∀ {ds es : List Day}, as.length = ds.length → as.length = es.length → keys (cellsOf as ds) = keys (cellsOf as es) := by
  induction as with
  | nil => intro ds es h1 h2; simp [cellsOf]
  | cons a as ih =>
    intro ds es h1 h2
    cases ds with
    | nil => simp at h1
    | cons d ds =>
      cases es with
      | nil => simp at h2
      | cons e es =>
        show a.1 :: a.2 :: keys (cellsOf as ds) = a.1 :: a.2 :: keys (cellsOf as es)
        rw [ih (by simpa using h1) (by simpa using h2)]
theorem alike_ints : ∀ xs : List Int, PyData.eqvAll (xs.map PyData.int) (xs.map PyData.int) = true := fun xs => by rw [eqv_ints]; simp
def dayP (d : Day) : PyData := .tuple [.list (d.1.map PyData.int), .list (d.2.map PyData.int)]
def daysP (ds : List Day) : PyData := .list (ds.map dayP)
theorem Ql.daysP {n : Nat} (ds : List Day) : Ql (n + 3) (daysD ds) (daysP ds) := Ql.days ds
theorem Ql.dayP {n : Nat} (d : Day) : Ql (n + 2) (dayD d) (dayP d) := Ql.day d
theorem eqv_day (d : Day) : PyData.eqv (dayP d) (dayP d) = true := by
  unfold dayP
  rw [PyData.eqv, PyData.eqvAll, PyData.eqvAll, PyData.eqvAll, eqv_iL, eqv_iL]
  simp
theorem eqv_dayAll : ∀ ds : List Day, PyData.eqvAll (ds.map dayP) (ds.map dayP) = true
  | [] => by simp [PyData.eqvAll]
  | d :: r => by rw [List.map_cons, PyData.eqvAll, eqv_day, eqv_dayAll r]; rfl
theorem eqv_days (ds : List Day) : PyData.eqv (daysP ds) (daysP ds) = true := by
  unfold daysP
  rw [PyData.eqv, eqv_dayAll]
end Cy

namespace Cy
open PySem L2
local macro_rules | `(tactic| walk_at "lv") => `(tactic| first | exact LV.lst | exact LV.scr | exact LV.own List.mem_cons_self | exact LV.own (List.mem_cons_of_mem _ List.mem_cons_self) | exact LV.own (List.mem_cons_of_mem _ (List.mem_cons_of_mem _ List.mem_cons_self)) | exact LV.own (List.mem_cons_of_mem _ (List.mem_cons_of_mem _ (List.mem_cons_of_mem _ List.mem_cons_self))))
local macro_rules | `(tactic| walk_at "at") => `(tactic| first | exact at_mapN (by assumption) | exact at_map (by omega) (by assumption) | rfl | exact at_of (by omega) (by assumption))
local macro_rules | `(tactic| walk_at "side") => `(tactic| first | assumption | omega | decide)
local macro_rules | `(tactic| walk_at "ea") => `(tactic| first | exact ea_nil | (apply ea_cons; walk_at "ev"; walk_at "ea"))
local macro_rules | `(tactic| walk_at "et") => `(tactic| first
  | exact et_yes
  | (apply et_B; walk_at "ev")
  | (apply et_T; walk_at "ev")
  | (apply et_not; walk_at "et"))
local macro_rules | `(tactic| walk_at "ev") => `(tactic| first
  | exact ev_var rfl
  | exact ev_cint | exact ev_cbl | exact ev_cstr | exact ev_cnon
  | (apply ev_ii; walk_at "ev"; walk_at "ev")
  | (apply ev_ib; walk_at "ev"; walk_at "ev")
  | (apply ev_eqI; walk_at "ev"; walk_at "ev")
  | (apply ev_neI; walk_at "ev"; walk_at "ev")
  | (apply ev_ixL; walk_at "ev"; walk_at "lv"; walk_at "ev"; walk_at "at")
  | (apply ev_ixT; walk_at "ev"; walk_at "ev"; walk_at "at")
  | (apply ev_len; walk_at "ev"; walk_at "lv")
  | (apply ev_lenT; walk_at "ev")
  | (apply ev_min2; walk_at "ev"; walk_at "ev")
  | (apply ev_max2; walk_at "ev"; walk_at "ev")
  | (apply ev_tup; walk_at "ea"; (first | decide | simp | skip))
  | (apply ev_iC; walk_at "ev"; walk_at "ev"; walk_at "cond")
  | (apply ev_fldI; walk_at "cls"; walk_at "cls"; walk_at "ev"; walk_at "iv"; rfl; rfl; rfl)
  | (apply ev_F; walk_at "ef")
  | walk_at "call")
local macro_rules | `(tactic| walk_at "ef") => `(tactic| first
  | (apply ef_list; walk_at "ev"; walk_at "lv")
  | (apply ef_lst; walk_at "ea"; (first | decide | simp | skip)))
local macro_rules | `(tactic| walk_at "iv") => `(tactic| first | exact IV.ins | exact IV.own List.mem_cons_self | exact IV.own (List.mem_cons_of_mem _ List.mem_cons_self) | exact IV.own (List.mem_cons_of_mem _ (List.mem_cons_of_mem _ List.mem_cons_self)) | exact IV.own (List.mem_cons_of_mem _ (List.mem_cons_of_mem _ (List.mem_cons_of_mem _ List.mem_cons_self))))
local macro_rules | `(tactic| walk_at "cond") => `(tactic| first | exact Or.inr (by decide) | exact Or.inl (by decide) | (exact ⟨by decide, by decide⟩) | (show (0 : Int) < _; first | decide | assumption | omega))
local macro_rules | `(tactic| walk_at "cls") => `(tactic| first | assumption | exact YardF.cls (by assumption) | exact YardF.sizes (by assumption) | exact YardF.held (by assumption))
local macro_rules | `(tactic| walk_at "call") => `(tactic| fail "no call")
local macro_rules | `(tactic| walk_at "at") => `(tactic| first | exact at_getD (by first | assumption | omega) | exact at_day (by first | assumption | omega) | rfl)
local macro_rules | `(tactic| walk_at "call") => `(tactic| (apply ev_drawn; walk_at "ev"; walk_at "ev"; walk_at "ev"; walk_at "side"))
def c_l_copied (A : Ad) : Ct := fun ds os P => ∃ days : List Day, days.length < 1000 ∧ ds = [daysD days] ∧ os = [] ∧ P = MadeR (days.map dayD)
def rd_l_copied (K : Fg) (A : Ad) : TS :=
  tRet (tLc (iList K (tVar 0)) (gName 1) (tYes) (tTup (tCons (tCB (Evl.rListS K) (tCons (tOp (rIxT K) (tVar 1) (tC (V.int 0))) (tNil))) (tCons (tCB (Evl.rListS K) (tCons (tOp (rIxT K) (tVar 1) (tC (V.int 1))) (tNil))) (tNil)))) ([1] : List Nat))
theorem sem_l_copied {K : Fg} {A : Ad} : ∀ vs H Q E, spC K 1 (c_l_copied A) vs H Q E → rd_l_copied K A { nx := fun _ H' => Q .non H', rt := Q } (start ["days", "day"] vs) H :=
  body_ok fun ds os P hl hc B D hfp hR hN => by
    obtain ⟨days, hx, rfl, rfl, rfl⟩ := hc
    refine do_retF (ef_mapL dayD (ev_var rfl) LV.lst (fun x _ => ⟨_, tw_name, ?_⟩) (by omega)) fun p _ => hR.rt ⟨p, rfl, rfl⟩
    exact ev_tup (ea_cons (ev_F (ef_list (ev_ixT (ev_var rfl) ev_cint rfl) LV.lst)) (ea_cons (ev_F (ef_list (ev_ixT (ev_var rfl) ev_cint rfl) LV.lst)) ea_nil)) (by simp)
def runD (s : DayS) : Dt := .tup [iL s.drawn, iL s.held, .int s.over]
def runL (rooms waters : List Int) (days : List Day) (n : Nat) : List Dt := (List.range n).map fun k => runD (pAt rooms waters days k)
structure RunPre (rooms waters : List Int) (days : List Day) : Prop where
  len : waters.length = rooms.length
  four : rooms.length ≤ 4
  many : days.length ≤ 1000
  row : ∀ d ∈ days, d.1.length = rooms.length ∧ d.2.length = rooms.length
theorem hAt_len {rooms waters : List Int} {days : List Day} (P : RunPre rooms waters days) : ∀ n, n ≤ days.length → (hAt rooms waters days n).length = rooms.length
  | 0, _ => P.len
  | n + 1, h => by
    have ih := hAt_len P n (by omega)
    have hd := P.row _ (List.mem_of_getElem? (getDay (show n < days.length by omega)))
    exact (dayRun_len (rain := (days.getD n ([], [])).1) hd.2 ih).2
def c_l_run (A : Ad) : Ct := pureC (α := List Int × List Int × List Day) (fun x => RunPre x.1 x.2.1 x.2.2) (fun x => [iL x.1, iL x.2.1, daysD x.2.2]) fun x => .ok (.lst (runL x.1 x.2.1 x.2.2 x.2.2.length))
def rd_l_run (K : Fg) (A : Ad) : TS :=
  tSeq (tAsg (tCB (Evl.rListS K) (tCons (tVar 1) (tNil))) (gName 3)) 
      (tSeq (tAsg (tLst (tNil)) (gName 4)) 
      (tSeq (tFor (iList K (tVar 2)) (gTup K 2 (gCons (gName 5) (gCons (gName 6) (gNil)))) 
        (tSeq (tAsg (tLst (tNil)) (gName 7)) 
        (tSeq (tAsg (tC (V.int 0)) (gName 8)) 
        (tSeq (tFor (iRng1 (tCons (tCB (Evl.rLenS K) (tCons (tVar 0) (tNil))) (tNil))) (gName 9) 
          (tSeq (tAsg (tOp (rI0 fun i j => V.int (i + j)) (tOp (rI0 fun i j => V.int (i + j)) (tOp (rIxL K) (tVar 3) (tVar 9)) (tOp (rIxL K) (tVar 5) (tVar 9))) (tVar 8)) (gName 10)) 
          (tSeq (tDrop (tBM K "list" rAppend (tVar 7) (tCons (tCB (rMin2) (tCons (tVar 10) (tCons (tOp (rIxL K) (tVar 6) (tVar 9)) (tNil)))) (tNil)))) 
          (tSeq (tAsg (tCB (rMin2) (tCons (tOp (rI0 fun i j => V.int (i - j)) (tVar 10) (tOp (rIxL K) (tVar 7) (tVar 9))) (tCons (tOp (rIxL K) (tVar 0) (tVar 9)) (tNil)))) (gSub (tVar 3) (tVar 9) rSetL)) 
          (tAsg (tOp (rI0 fun i j => V.int (i - j)) (tOp (rI0 fun i j => V.int (i - j)) (tVar 10) (tOp (rIxL K) (tVar 7) (tVar 9))) (tOp (rIxL K) (tVar 3) (tVar 9))) (gName 8)))))) 
        (tDrop (tBM K "list" rAppend (tVar 4) (tCons (tTup (tCons (tVar 7) (tCons (tCB (Evl.rListS K) (tCons (tVar 3) (tNil))) (tCons (tVar 8) (tNil))))) (tNil)))))))) 
      (tRet (tVar 4))))
theorem sem_l_run {K : Fg} {A : Ad} : ∀ vs H Q E, spC K 3 (c_l_run A) vs H Q E → rd_l_run K A { nx := fun _ H' => Q .non H', rt := Q } (start ["rooms", "waters", "days", "held", "plan", "rain", "wishes", "drawn", "over", "k", "water"] vs) H :=
  body_ok fun ds os P hl hc B D hfp hR hN => by
    obtain ⟨⟨rooms, waters, days⟩, hp, rfl, rfl, rfl⟩ := hc
    have hp : RunPre rooms waters days := hp
    have hB : B.fp = [] := hfp
    refine q_asgM (em_F (ef_list (ev_var rfl) LV.lst)) fun d os' hd => ?_
    obtain ⟨h, nh, rfl, rfl⟩ := hd
    refine q_asgM (em_F (ef_lst ea_nil (by decide))) fun d os' hd => ?_
    obtain ⟨p, np, rfl, rfl⟩ := hd
    have np : p ≠ h := by simpa using np
    refine q_forM (ev_var rfl) (fun i ss os => (∃ o5 o6 o7 o8 o9 o10, ss = [some (iL rooms), some (iL waters), some (daysD days), some (.adr h), some (.adr p), o5, o6, o7, o8, o9, o10]) ∧
      os = [(h, .lst ((hAt rooms waters days i).map Dt.int)), (p, .lst (runL rooms waters days i))]) ⟨⟨_, _, _, _, _, _, rfl⟩, rfl⟩ (fun B1 hB1 i z ss os hz hI => ?_) (fun ss os hI => ?_)
    · obtain ⟨⟨o5, o6, o7, o8, o9, o10, rfl⟩, rfl⟩ := hI
      have hi : i < days.length := (List.getElem?_eq_some_iff.mp hz).1
      have ez : days.getD i ([], []) = z := by
        have := getDay hi
        rw [hz] at this
        exact (Option.some.inj this).symm
      have hrow := hp.row z (List.mem_of_getElem? hz)
      have hlen := hAt_len hp i (by omega)
      have eh : hAt rooms waters days (i + 1) = (dayRun rooms (hAt rooms waters days i) z.1 z.2).held := by
        show (dayRun rooms (hAt rooms waters days i) (days.getD i ([], [])).1 (days.getD i ([], [])).2).held = _
        rw [ez]
      have ep : runL rooms waters days (i + 1) = runL rooms waters days i ++ [runD (dayRun rooms (hAt rooms waters days i) z.1 z.2)] := by
        unfold runL
        rw [List.range_succ, List.map_append]
        show _ ++ [runD (pAt rooms waters days i)] = _
        unfold pAt
        rw [ez]
      have lp : (runL rooms waters days i).length = i := by simp [runL]
      rw [eh, ep]
      generalize hAt rooms waters days i = held at hlen ⊢
      generalize runL rooms waters days i = pl at lp ⊢
      obtain ⟨rain, wishes⟩ := z
      have h1 : rain.length = rooms.length := hrow.1
      have h2 : wishes.length = rooms.length := hrow.2
      refine ⟨_, tg_tup2, ?_⟩
      refine q_asgM (em_F (ef_lst ea_nil (by decide))) fun d os' hd => ?_
      obtain ⟨q, nq, rfl, rfl⟩ := hd
      have nq : q ≠ h ∧ q ≠ p := by simpa using nq
      refine q_asg ev_cint ?_
      refine q_forR (ea_cons (by walk_at "ev") ea_nil) (by have := hp.four; rw [len_int]; omega) (by rw [len_int]; omega) (fun i ss os => let s := iter (dayStep rooms rain wishes) ⟨[], held, 0⟩ i
        (∃ o9 o10, ss = [some (iL rooms), some (iL waters), some (daysD days), some (.adr h), some (.adr p), some (iL rain), some (iL wishes), some (.adr q), some (.int s.over), o9, o10]) ∧ os = [(h, .lst (s.held.map Dt.int)), (p, .lst pl), (q, .lst (s.drawn.map Dt.int))]) ⟨⟨_, _, rfl⟩, rfl⟩ (fun i ss os hi hI => ?_) (fun ss os hI => ?_)
      · obtain ⟨⟨o1, o2, rfl⟩, rfl⟩ := hI
        have hi : i < rooms.length := by simpa using hi
        have l1 := iter_held (rooms := rooms) (rain := rain) (wishes := wishes) ⟨[], held, 0⟩ i
        have l2 := iter_drawn (rooms := rooms) (rain := rain) (wishes := wishes) ⟨[], held, 0⟩ i
        have es : iter (dayStep rooms rain wishes) ⟨[], held, 0⟩ (i + 1) = dayStep rooms rain wishes i (iter (dayStep rooms rain wishes) ⟨[], held, 0⟩ i) := rfl
        generalize iter (dayStep rooms rain wishes) ⟨[], held, 0⟩ i = s at l1 l2 es ⊢
        have l1 : s.held.length = held.length := l1
        have l2 : s.drawn.length = i := by simpa using l2
        have i1 : i < s.held.length := by omega
        have i2 : i < rain.length := by omega
        have i3 : i < wishes.length := by omega
        have hp4 := hp.four
        refine q_asg (by walk_at "ev") ?_
        refine q_app (ev_var rfl) (List.mem_cons_of_mem _ (List.mem_cons_of_mem _ List.mem_cons_self)) (by walk_at "ev") (by rw [List.length_map]; omega) ?_
        rw [setC_snd nq.1.symm, setC_snd nq.2.symm, setC_one]
        have e2 : ∀ z : Int, s.drawn.map Dt.int ++ [Dt.int z] = (s.drawn ++ [z]).map Dt.int := fun z => by simp
        rw [e2]
        have ed : ∀ ss, ss[7]? = some (some (.adr q)) → ss[9]? = some (some (.int (i : Int))) → ∀ hc, Ev K (tOp (rIxL K) (tVar 7) (tVar 9)) ss [(h, .lst hc), (p, .lst pl), (q, .lst ((s.drawn ++ [min (s.held.getD i 0 + rain.getD i 0 + s.over) (wishes.getD i 0)]).map Dt.int))] (.int (min (s.held.getD i 0 + rain.getD i 0 + s.over) (wishes.getD i 0))) := fun ss s7 s9 hc =>
          ev_ixL (ev_var s7) (.own (List.mem_cons_of_mem _ (List.mem_cons_of_mem _ List.mem_cons_self))) (ev_var s9) (at_mapN (f := Dt.int) (by rw [← l2]; simp))
        refine q_setL (ev_min2 (ev_ii (ev_var rfl) (ed _ rfl rfl _)) (by walk_at "ev")) (by walk_at "ev") List.mem_cons_self (ev_var rfl) (by omega) (by rw [List.length_map]; omega) ?_
        rw [setC_fst (by simpa using ⟨np.symm, nq.1.symm⟩), List.map_set.symm, Int.toNat_natCast]
        refine do_asg (ev_ii (ev_ii (ev_var rfl) (ed _ rfl rfl _)) (ev_ixL (by walk_at "ev") (.own List.mem_cons_self) (ev_var rfl) (at_mapN (f := Dt.int) (v := min (s.held.getD i 0 + rain.getD i 0 + s.over - min (s.held.getD i 0 + rain.getD i 0 + s.over) (wishes.getD i 0)) (rooms.getD i 0)) (by simp [i1])))) (nx_at ?_)
        show (∃ o1 o2, _ = _) ∧ _ = _
        rw [es]
        exact ⟨⟨_, _, rfl⟩, rfl⟩
      · obtain ⟨⟨o9, o10, rfl⟩, rfl⟩ := hI
        have en : iter (dayStep rooms rain wishes) ⟨[], held, 0⟩ ((rooms.map Dt.int).length : Int).toNat = dayRun rooms held rain wishes := by
          rw [List.length_map, Int.toNat_natCast]; rfl
        rw [en]
        generalize dayRun rooms held rain wishes = s
        refine do_frz (p := q) (c := .lst (s.drawn.map Dt.int)) (os0 := [(h, .lst (s.held.map Dt.int)), (p, .lst pl)]) (.trans (.cons _ (List.Perm.swap _ _ _)) (List.Perm.swap _ _ _)) (fun _ z => by cases z) (by rw [hB1.fp, hB]; simp) (FzS.at 7 rfl .here) (FzO.refl _) ?_
        refine do_app (ev_var rfl) (List.mem_cons_of_mem _ List.mem_cons_self) (ev_tup (ea_cons (ev_var rfl) (ea_cons (ev_F (ef_list (ev_var rfl) (.own List.mem_cons_self))) (ea_cons (ev_var rfl) ea_nil))) (by simp)) (by have := hp.many; omega) (nx_at ⟨⟨_, _, _, _, _, _, rfl⟩, ?_⟩)
        rw [setC_snd np.symm, setC_one]
        rfl
    · obtain ⟨⟨o5, o6, o7, o8, o9, o10, rfl⟩, rfl⟩ := hI
      refine do_frz (p := p) (c := .lst (runL rooms waters days days.length)) (os0 := [(h, .lst ((hAt rooms waters days days.length).map Dt.int))]) (List.Perm.swap _ _ _) (fun _ z => by cases z) (by rw [hB]; simp) (FzS.at 4 rfl .here) (FzO.refl _) ?_
      exact do_ret (ev_var rfl) (rt_sub (hR.rt ⟨rfl, rfl⟩) (by simp) (by simp))
/-! lived -/
def rainL (ns : List Int) (many : Nat) (n : Nat) : List Int := (List.range many).map fun (k : Nat) => drawn ns (402 + 8 * n + k) 31
def wishL (ns : List Int) (many : Nat) (n : Nat) : List Int := (List.range many).map fun (k : Nat) => drawn ns (406 + 8 * n + k) 31
def liveTo (ns rooms waters : List Int) (n : Nat) : List Int := iter (fun n h => (dayRun rooms h (rainL ns rooms.length n) (wishL ns rooms.length n)).held) waters n
def lived (ns rooms waters : List Int) : List Int := liveTo ns rooms waters (drawn ns 400 3).toNat
theorem dayL_ok (ns : List Int) (many n : Nat) : dayOk many (rainL ns many n, wishL ns many n) = true :=
  dayOk_iff.mpr ⟨lOk_map fun k _ => by have := drawn_pos ns (402 + 8 * n + k) (many := 31) (by decide); omega, lOk_map fun k _ => by have := drawn_pos ns (406 + 8 * n + k) (many := 31) (by decide); omega⟩
theorem liveTo_wf {ns rooms waters : List Int} (Y : YardWf rooms waters) : ∀ n, YardWf rooms (liveTo ns rooms waters n)
  | 0 => Y
  | n + 1 => dayRun_wf (liveTo_wf Y n) (dayL_ok ns _ n)
theorem lived_wf {ns rooms waters : List Int} (Y : YardWf rooms waters) : YardWf rooms (lived ns rooms waters) := liveTo_wf Y _
section
variable {K : Fg} {A : Ad} {B : Bs} {D : Ends} {ss : SS} {os : Own} {u : TS} {ta tb tx : TE} {E : XK}
/-- yard.day(rain, wishes), what it tells dropped -/
theorem q_dayN {rooms held : List Int} {h : Addr} {d : Day} {tA : TA} {tail : Own} (Y : YardWf rooms held) (hd : dayOk rooms.length d = true) (hx : Ev K tx ss os (yardO A rooms h)) (hp : os.Perm ((h, .lst (held.map Dt.int)) :: tail))
    (ha : EvA K tA ss os [iL d.1, iL d.2]) (k : Do K B u ss ((h, .lst ((dayRun rooms held d.1 d.2).held.map Dt.int)) :: tail) D) :
    Do K B (tSeq (tDrop (tMeth A.Yard "day" (spC K 3 (c_Yard_day A)) [] E tx tA)) u) ss os D := by
  refine q_dropM (em_meth (osp := [(h, .lst (held.map Dt.int))]) (osr := tail) hx IV.ins (by decide +kernel) ha rfl hp ⟨rooms, held, h, d, Y.len, Y.four, rfl, rfl, rfl⟩ (fun C os' h => by rw [if_pos hd] at h; obtain ⟨q, _, z, _⟩ := h; cases z)) fun dd os' hdd => ?_
  obtain ⟨os1, hP, rfl⟩ := hdd
  rw [if_pos hd] at hP
  obtain ⟨q, nq, e, rfl⟩ := hP
  exact do_weak (Le.refl _) (.cons_cons _ (.cons _ (List.Sublist.refl _))) k
end
def c_l_lived (A : Ad) : Ct := fun ds os P => ∃ ns rooms waters, YardWf rooms waters ∧ ds = [.scr ns, iL rooms, iL waters] ∧ os = [] ∧ P = fun r os' => ∃ h, r = .ok (.tup [yardO A rooms h, iL (lived ns rooms waters)]) ∧ os' = [(h, .lst ((lived ns rooms waters).map Dt.int))]
def rd_l_lived (K : Fg) (A : Ad) : TS :=
  tSeq (tAsg (tMake A.Yard (spC K 3 (c_Yard_init A)) [] E0 (tCons (tCB (Evl.rListS K) (tCons (tVar 1) (tNil))) (tCons (tCB (Evl.rListS K) (tCons (tVar 2) (tNil))) (tNil)))) (gName 3)) 
      (tSeq (tAsg (tCB (Evl.rListS K) (tCons (tVar 2) (tNil))) (gName 4)) 
      (tSeq (tFor (iRng1 (tCons (tCall (spC K 3 (c_l_drawn A)) [] E0 (tCons (tVar 0) (tCons (tC (V.int 400)) (tCons (tC (V.int 3)) (tNil))))) (tNil))) (gName 5) 
        (tSeq (tAsg (tLc (iRng1 (tCons (tCB (Evl.rLenS K) (tCons (tVar 1) (tNil))) (tNil))) (gName 8) (tYes) (tCall (spC K 3 (c_l_drawn A)) [] E0 (tCons (tVar 0) (tCons (tOp (rI0 fun i j => V.int (i + j)) (tOp (rI0 fun i j => V.int (i + j)) (tC (V.int 402)) (tOp (rI CMul fun i j => V.int (i * j)) (tC (V.int 8)) (tVar 5))) (tVar 8)) (tCons (tC (V.int 31)) (tNil))))) ([8] : List Nat)) (gName 6)) 
        (tSeq (tAsg (tLc (iRng1 (tCons (tCB (Evl.rLenS K) (tCons (tVar 1) (tNil))) (tNil))) (gName 8) (tYes) (tCall (spC K 3 (c_l_drawn A)) [] E0 (tCons (tVar 0) (tCons (tOp (rI0 fun i j => V.int (i + j)) (tOp (rI0 fun i j => V.int (i + j)) (tC (V.int 406)) (tOp (rI CMul fun i j => V.int (i * j)) (tC (V.int 8)) (tVar 5))) (tVar 8)) (tCons (tC (V.int 31)) (tNil))))) ([8] : List Nat)) (gName 7)) 
        (tSeq (tDrop (tMeth A.Yard "day" (spC K 3 (c_Yard_day A)) [] E0 (tVar 3) (tCons (tVar 6) (tCons (tVar 7) (tNil))))) 
        (tAsg (tOp (rIxT K) (tOp (rIxL K) (tCall (spC K 3 (c_l_run A)) [] E0 (tCons (tVar 1) (tCons (tVar 4) (tCons (tLst (tCons (tTup (tCons (tVar 6) (tCons (tVar 7) (tNil)))) (tNil))) (tNil))))) (tC (V.int 0))) (tC (V.int 1))) (gName 4)))))) 
      (tRet (tTup (tCons (tVar 3) (tCons (tVar 4) (tNil)))))))
theorem sem_l_lived {K : Fg} {A : Ad} : ∀ vs H Q E, spC K 3 (c_l_lived A) vs H Q E → rd_l_lived K A { nx := fun _ H' => Q .non H', rt := Q } (start ["script", "rooms", "waters", "side", "held", "number", "rain", "wishes", "k"] vs) H :=
  body_ok fun ds os P hl hc B D hfp hR hN => by
    obtain ⟨ns, rooms, waters, Y, rfl, rfl, rfl⟩ := hc
    have hB : B.fp = [] := hfp
    have hdr := drawn_pos ns 400 (many := 3) (by decide)
    refine q_yard Y.ok hB (ea_cons (by walk_at "ev") (ea_cons (by walk_at "ev") ea_nil)) fun h nh => ?_
    refine q_asg (d := iL waters) (by walk_at "ev") ?_
    refine q_forR (n := drawn ns 400 3) (ea_cons (by walk_at "ev") ea_nil) (by omega) (by omega) (fun i ss os => (∃ o5 o6 o7 o8, ss = [some (.scr ns), some (iL rooms), some (iL waters), some (yardO A rooms h), some (iL (liveTo ns rooms waters i)), o5, o6, o7, o8]) ∧
      os = [(h, .lst ((liveTo ns rooms waters i).map Dt.int))]) ⟨⟨_, _, _, _, rfl⟩, rfl⟩ (fun i ss os hi hI => ?_) (fun ss os hI => ?_)
    · obtain ⟨⟨o5, o6, o7, o8, rfl⟩, rfl⟩ := hI
      have Yi := liveTo_wf (ns := ns) Y i
      have el : liveTo ns rooms waters (i + 1) = (dayRun rooms (liveTo ns rooms waters i) (rainL ns rooms.length i) (wishL ns rooms.length i)).held := rfl
      rw [el]
      generalize liveTo ns rooms waters i = held at Yi ⊢
      have h4 := Yi.four
      have hok := dayL_ok ns rooms.length i
      refine q_asg (d := iL (rainL ns rooms.length i)) (ev_F (ef_mapRi (n := (rooms.length : Int)) (fun k => drawn ns (402 + 8 * i + k) 31) (ea_cons (ev_is (by walk_at "ev") (by rw [len_int])) ea_nil) (by omega) (by omega) fun j hj => ⟨_, tw_name, by walk_at "ev"⟩)) ?_
      refine q_asg (d := iL (wishL ns rooms.length i)) (ev_F (ef_mapRi (n := (rooms.length : Int)) (fun k => drawn ns (406 + 8 * i + k) 31) (ea_cons (ev_is (by walk_at "ev") (by rw [len_int])) ea_nil) (by omega) (by omega) fun j hj => ⟨_, tw_name, by walk_at "ev"⟩)) ?_
      generalize rainL ns rooms.length i = rain at hok ⊢
      generalize wishL ns rooms.length i = wishes at hok ⊢
      refine q_dayN (d := (rain, wishes)) (tail := []) Yi hok (ev_var rfl) (List.Perm.refl _) (ea_cons (ev_var rfl) (ea_cons (ev_var rfl) ea_nil)) ?_
      have rp : RunPre rooms held [(rain, wishes)] := ⟨Yi.len, Yi.four, by simp, fun d m => by
        have : d = (rain, wishes) := by simpa using m
        subst this
        exact ⟨lOk_len (dayOk_iff.mp hok).1, lOk_len (dayOk_iff.mp hok).2⟩⟩
      have e1 : runL rooms held [(rain, wishes)] [(rain, wishes)].length = [runD (dayRun rooms held rain wishes)] := rfl
      refine do_asg (d := iL (dayRun rooms held rain wishes).held) (ev_ixT (ev_ixL (ev_call (rooms, held, [(rain, wishes)]) (ea_cons (ev_var rfl) (ea_cons (ev_var rfl) (ea_cons (ev_F (ef_lst (ea_cons (ev_tup (ea_cons (ev_var rfl) (ea_cons (ev_var rfl) ea_nil)) (by simp)) ea_nil) (by simp))) ea_nil))) rfl rp rfl) LV.lst ev_cint rfl) ev_cint rfl) (nx_at ⟨⟨_, _, _, _, rfl⟩, rfl⟩)
    · obtain ⟨⟨o5, o6, o7, o8, rfl⟩, rfl⟩ := hI
      exact do_ret (ev_tup (ea_cons (ev_var rfl) (ea_cons (ev_var rfl) ea_nil)) (by simp)) (hR.rt ⟨h, rfl, rfl⟩)
/-! the law's own holds -/
def c_l_holds (A : Ad) : Ct := pureC (α := List Int × List Int × List Day × List Day) (fun x => RunPre x.1 x.2.1 x.2.2.1) (fun x => [iL x.1, iL x.2.1, daysD x.2.2.1, daysD x.2.2.2]) fun x => .ok (.bl (holdsB x.1 x.2.1 x.2.2.1 x.2.2.2))
def rd_l_holds (K : Fg) (A : Ad) : TS :=
  tSeq (tAsg (tCB (Evl.rListS K) (tCons (tVar 1) (tNil))) (gName 4)) 
      (tSeq (tIfS (tTest (tOp (rNe) (tCB (Evl.rLenS K) (tCons (tVar 3) (tNil))) (tCB (Evl.rLenS K) (tCons (tVar 2) (tNil))))) (tRet (tC (V.bl false))) (tNext)) 
      (tSeq (tFor (iRng1 (tCons (tCB (Evl.rLenS K) (tCons (tVar 2) (tNil))) (tNil))) (gName 5) 
        (tSeq (tAsg (tC (V.int 0)) (gName 6)) 
        (tSeq (tIfS (tOr (tTest (tOp (rNe) (tCB (Evl.rLenS K) (tCons (tOp (rIxT K) (tOp (rIxL K) (tVar 3) (tVar 5)) (tC (V.int 0))) (tNil))) (tCB (Evl.rLenS K) (tCons (tVar 0) (tNil))))) (tTest (tOp (rNe) (tCB (Evl.rLenS K) (tCons (tOp (rIxT K) (tOp (rIxL K) (tVar 3) (tVar 5)) (tC (V.int 1))) (tNil))) (tCB (Evl.rLenS K) (tCons (tVar 0) (tNil)))))) (tRet (tC (V.bl false))) (tNext)) 
        (tSeq (tFor (iRng1 (tCons (tCB (Evl.rLenS K) (tCons (tVar 0) (tNil))) (tNil))) (gName 7) 
          (tSeq (tAsg (tOp (rIxL K) (tOp (rIxT K) (tOp (rIxL K) (tVar 3) (tVar 5)) (tC (V.int 0))) (tVar 7)) (gName 8)) 
          (tSeq (tAsg (tOp (rIxL K) (tOp (rIxT K) (tOp (rIxL K) (tVar 3) (tVar 5)) (tC (V.int 1))) (tVar 7)) (gName 9)) 
          (tSeq (tAsg (tOp (rI0 fun i j => V.int (i - j)) (tOp (rI0 fun i j => V.int (i - j)) (tOp (rI0 fun i j => V.int (i + j)) (tOp (rI0 fun i j => V.int (i + j)) (tOp (rIxL K) (tVar 4) (tVar 7)) (tOp (rIxL K) (tOp (rIxT K) (tOp (rIxL K) (tVar 2) (tVar 5)) (tC (V.int 0))) (tVar 7))) (tVar 6)) (tVar 8)) (tVar 9)) (gName 6)) 
          (tIfS (tOr (tTest (tOp (rI0 fun i j => V.bl (decide (i < j))) (tVar 6) (tC (V.int 0)))) (tOr (tTest (tOp (rI0 fun i j => V.bl (decide (i < j))) (tVar 8) (tC (V.int 0)))) (tOr (tTest (tOp (rI0 fun i j => V.bl (decide (i < j))) (tVar 9) (tC (V.int 0)))) (tOr (tTest (tOp (rI0 fun i j => V.bl (decide (j < i))) (tVar 8) (tOp (rIxL K) (tOp (rIxT K) (tOp (rIxL K) (tVar 2) (tVar 5)) (tC (V.int 1))) (tVar 7)))) (tTest (tOp (rI0 fun i j => V.bl (decide (j < i))) (tVar 9) (tOp (rIxL K) (tVar 0) (tVar 7)))))))) (tRet (tC (V.bl false))) (tNext)))))) 
        (tAsg (tCB (Evl.rListS K) (tCons (tOp (rIxT K) (tOp (rIxL K) (tVar 3) (tVar 5)) (tC (V.int 1))) (tNil))) (gName 4)))))) 
      (tRet (tC (V.bl true)))))
theorem sem_l_holds {K : Fg} {A : Ad} : ∀ vs H Q E, spC K 4 (c_l_holds A) vs H Q E → rd_l_holds K A { nx := fun _ H' => Q .non H', rt := Q } (start ["rooms", "waters", "days", "plan", "held", "number", "over", "k", "drawn", "kept"] vs) H :=
  body_ok fun ds os P hl hc B D hfp hR0 hN => by
    obtain ⟨⟨rooms, waters, days, plan⟩, hpre, rfl, rfl, rfl⟩ := hc
    have hpre : RunPre rooms waters days := hpre
    have h4 := hpre.four
    have hm : days.length ≤ 1000 := hpre.many
    have hR : ∀ {B' : Bs}, B.Le B' → ∀ {b : Bool} {os : Own}, holdsB rooms waters days plan = b → os = [] → Rt K B' D.rt (.bl b) os := fun {B'} le {b os} e eo => (hR0.up le).rt ⟨by show Res.ok _ = Res.ok (.bl (holdsB rooms waters days plan)); rw [e], eo⟩
    have bad : ∀ {n}, n < days.length → ¬ dayHolds rooms (heldAt waters plan n) (days.getD n ([], [])) (plan.getD n ([], [])) = true → holdsB rooms waters days plan = false := fun {n} hn h => Bool.eq_false_iff.mpr fun z => h ((holdsB_iff.mp z).2 n hn)
    refine q_asg (d := iL waters) (by walk_at "ev") ?_
    refine q_when (by walk_at "et") (fun hb => do_ret ev_cbl (hR (Bs.Le.refl _) (Bool.eq_false_iff.mpr fun z => ?_) rfl)) (fun hb => ?_)
    · have := (holdsB_iff.mp z).1
      simp at hb
      omega
    have hp : plan.length = days.length := by simp at hb; omega
    refine q_forR (n := (days.length : Int)) (ea_cons (ev_is (by walk_at "ev") (by rw [List.length_map])) ea_nil) (by omega) (by omega) (fun i ss os => (∃ o5 o6 o7 o8 o9, ss = [some (iL rooms), some (iL waters), some (daysD days), some (daysD plan), some (iL (heldAt waters plan i)), o5, o6, o7, o8, o9]) ∧ os = [] ∧
      (heldAt waters plan i).length = rooms.length ∧ ∀ n, n < i → dayHolds rooms (heldAt waters plan n) (days.getD n ([], [])) (plan.getD n ([], [])) = true) ⟨⟨_, _, _, _, _, rfl⟩, rfl, hpre.len, by omega⟩ (fun i ss os hi hI => ?_) (fun ss os hI => ?_)
    · obtain ⟨⟨o5, o6, o7, o8, o9, rfl⟩, rfl, hl, hall⟩ := hI
      have hi : i < days.length := by simpa using hi
      have hip : i < plan.length := by omega
      have gd := getDay hi
      have gp := getDay hip
      have hrow := hpre.row _ (List.mem_of_getElem? gd)
      have bad := bad hi
      have hheld : heldAt waters plan (i + 1) = (plan.getD i ([], [])).2 := rfl
      generalize ed : days.getD i ([], []) = day at gd bad hrow
      generalize ep : plan.getD i ([], []) = pl at gp bad hheld
      generalize eh : heldAt waters plan i = hd at bad hl ⊢
      have ad : atI (days.map dayD) (i : Int) = some (dayD day) := at_mapN gd
      have ap : atI (plan.map dayD) (i : Int) = some (dayD pl) := at_mapN gp
      have hr1 : day.1.length = rooms.length := hrow.1
      have hr2 : day.2.length = rooms.length := hrow.2
      have epd : ∀ {ss}, ss[3]? = some (some (daysD plan)) → ss[5]? = some (some (.int (i : Int))) → Ev K (tOp (rIxT K) (tOp (rIxL K) (tVar 3) (tVar 5)) (tC (V.int 0))) ss [] (iL pl.1) := fun s3 s5 => ev_ixT (ev_ixL (ev_var s3) LV.lst (ev_var s5) ap) ev_cint rfl
      have epk : ∀ {ss}, ss[3]? = some (some (daysD plan)) → ss[5]? = some (some (.int (i : Int))) → Ev K (tOp (rIxT K) (tOp (rIxL K) (tVar 3) (tVar 5)) (tC (V.int 1))) ss [] (iL pl.2) := fun s3 s5 => ev_ixT (ev_ixL (ev_var s3) LV.lst (ev_var s5) ap) ev_cint rfl
      have edr : ∀ {ss}, ss[2]? = some (some (daysD days)) → ss[5]? = some (some (.int (i : Int))) → Ev K (tOp (rIxT K) (tOp (rIxL K) (tVar 2) (tVar 5)) (tC (V.int 0))) ss [] (iL day.1) := fun s3 s5 => ev_ixT (ev_ixL (ev_var s3) LV.lst (ev_var s5) ad) ev_cint rfl
      have edw : ∀ {ss}, ss[2]? = some (some (daysD days)) → ss[5]? = some (some (.int (i : Int))) → Ev K (tOp (rIxT K) (tOp (rIxL K) (tVar 2) (tVar 5)) (tC (V.int 1))) ss [] (iL day.2) := fun s3 s5 => ev_ixT (ev_ixL (ev_var s3) LV.lst (ev_var s5) ad) ev_cint rfl
      refine q_asg ev_cint ?_
      refine q_when (et_or (et_T (ev_neI (ev_len (epd rfl rfl) LV.lst) (by walk_at "ev"))) fun _ => et_T (ev_neI (ev_len (epk rfl rfl) LV.lst) (by walk_at "ev"))) (fun hb => do_ret ev_cbl (hR (Bs.Le.refl _) (bad fun h => ?_) rfl)) (fun hb => ?_)
      · obtain ⟨h1, h2, _⟩ := dayHolds_iff.mp h
        simp at hb
        omega
      simp at hb
      have k1 : pl.1.length = rooms.length := by omega
      have k2 : pl.2.length = rooms.length := by omega
      refine q_forR (ea_cons (by walk_at "ev") ea_nil) (by rw [List.length_map]; omega) (by rw [List.length_map]; omega) (fun k ss os => (∃ o7 o8 o9, ss = [some (iL rooms), some (iL waters), some (daysD days), some (daysD plan), some (iL hd), some (.int (i : Int)), some (.int (overAt hd day.1 pl.1 pl.2 k)), o7, o8, o9]) ∧ os = [] ∧ ∀ j, j < k → tankOk rooms hd day pl j = true)
        ⟨⟨_, _, _, rfl⟩, rfl, by omega⟩ (fun k ss os hk hI => ?_) (fun ss os hI => ?_)
      · obtain ⟨⟨o7, o8, o9, rfl⟩, rfl, hx⟩ := hI
        have hk : k < rooms.length := by simpa using hk
        have i0 : k < hd.length := by omega
        have i1 : k < day.1.length := by omega
        have i2 : k < day.2.length := by omega
        have i3 : k < pl.1.length := by omega
        have i4 : k < pl.2.length := by omega
        refine q_asg (ev_ixL (epd rfl rfl) LV.lst (ev_var rfl) (at_getD i3)) ?_
        refine q_asg (ev_ixL (epk rfl rfl) LV.lst (ev_var rfl) (at_getD i4)) ?_
        refine q_asg (ev_ii (ev_ii (ev_ii (ev_ii (by walk_at "ev") (ev_ixL (edr rfl rfl) LV.lst (ev_var rfl) (at_getD i1))) (ev_var rfl)) (ev_var rfl)) (ev_var rfl)) ?_
        have eo : overAt hd day.1 pl.1 pl.2 (k + 1) = hd.getD k 0 + day.1.getD k 0 + overAt hd day.1 pl.1 pl.2 k - pl.1.getD k 0 - pl.2.getD k 0 := rfl
        rw [← eo]
        refine do_if (et_or (by walk_at "et") fun _ => et_or (by walk_at "et") fun _ => et_or (by walk_at "et") fun _ => et_or (et_T (ev_ib (ev_var rfl) (ev_ixL (edw rfl rfl) LV.lst (ev_var rfl) (at_getD i2)))) fun _ => by walk_at "et") (fun hb => do_ret ev_cbl (hR (Bs.Le.refl _) (bad fun h => ?_) rfl)) (fun hb => ?_)
        · have := tankOk_iff.mp ((dayHolds_iff.mp h).2.2 k i0)
          simp [-List.getD_eq_getElem?_getD] at hb
          omega
        refine do_nx (nx_at ⟨⟨_, _, _, rfl⟩, rfl, fun j hj => ?_⟩)
        by_cases e : j = k
        · subst e
          simp [-List.getD_eq_getElem?_getD] at hb
          exact tankOk_iff.mpr (by omega)
        · exact hx j (by omega)
      · obtain ⟨⟨o7, o8, o9, rfl⟩, rfl, hx⟩ := hI
        have hx : ∀ j, j < rooms.length → tankOk rooms hd day pl j = true := fun j hj => hx j (by simpa using hj)
        refine do_asg (d := iL pl.2) (ev_F (ef_list (epk rfl rfl) LV.lst)) (nx_at ⟨⟨_, _, _, _, _, by rw [hheld]; rfl⟩, rfl, by rw [hheld]; exact k2, fun n hn => ?_⟩)
        by_cases e : n = i
        · subst e
          rw [eh, ed, ep]
          exact dayHolds_iff.mpr ⟨by omega, by omega, fun j hj => hx j (by omega)⟩
        · exact hall n (by omega)
    · obtain ⟨⟨o5, o6, o7, o8, o9, rfl⟩, rfl, hl, hall⟩ := hI
      refine do_ret ev_cbl (hR (Bs.Le.refl _) (holdsB_iff.mpr ⟨hp, fun n hn => hall n (by simpa using hn)⟩) rfl)
end Cy

namespace Cy
open PySem L2
open Evl (Ex Ex.refl Ex.trans Ex.new Ex.mut)
section
variable {K : Fg} {ss ss' : SS} {os os' : Own} {ta tb te tx : TE} {d x : Dt} {ds es : List Dt} {B : Bs} {D : Ends} {t u : TS} {Z : St → Hp → Prop}
theorem ev_neg {i : Int} (ha : Ev K ta ss os (.int i)) : Ev K (tUn (rU fun i => V.int (-i)) ta) ss os (.int (-i)) := fun σ G H R Q q => ha σ G H R _ fun v G1 H1 q1 e1 r1 => by
  cases r1
  exact ⟨i, rfl, q _ G1 H1 q1 e1 (.int _)⟩
theorem do_nd (k : (keys os).Nodup → Do K B t ss os D) : Do K B t ss os D := fun σ G H b r => k r.ow.nd σ G H b r
theorem nx_nd (k : (keys os).Nodup → Nx K B Z ss os) : Nx K B Z ss os := fun σ G H b r => k r.ow.nd σ G H b r
theorem nx_perm (ho : os.Perm os') (k : Nx K B Z ss os') : Nx K B Z ss os := fun σ G H b r =>
  k σ G H ⟨b.gq, fun x m => b.nw x (ho.mem_iff.mpr m)⟩ ⟨r.gh, r.sl, r.ow.perm ho⟩
theorem nx_weak (hs : Le ss ss') (ho : List.Sublist os' os) (k : Nx K B Z ss' os') : Nx K B Z ss os :=
  do_weak (t := fun _ => Z) (D := ⟨Z, fun _ _ => True, Z, Z⟩) hs ho k
theorem Fms.dropLast : ∀ {xs ys : List Dt}, Fms os xs ys → Fms os xs.dropLast ys.dropLast
  | _, _, .nil => .nil
  | _, _, .cons a .nil => .nil
  | _, _, .cons a (.cons b c) => .cons a (Fms.dropLast (.cons b c))
theorem Fms.append : ∀ {xs ys zs ws : List Dt}, Fms os xs ys → Fms os zs ws → Fms os (xs ++ zs) (ys ++ ws)
  | _, _, _, _, .nil, h => h
  | _, _, _, _, .cons a b, h => .cons a (b.append h)
mutual
theorem Fm.mono {os' : Own} (h : ∀ x ∈ os, x ∈ os') : ∀ {x y : Dt}, Fm os x y → Fm os' x y
  | _, _, .same x => .same x
  | _, _, .lst m => .lst (h _ m)
  | _, _, .lstN m f => .lstN (h _ m) (Fms.mono h f)
  | _, _, .ins m f => .ins (h _ m) (Fms.mono h f)
  | _, _, .tupI f => .tupI (Fms.mono h f)
  | _, _, .insI f => .insI (Fms.mono h f)
theorem Fms.mono {os' : Own} (h : ∀ x ∈ os, x ∈ os') : ∀ {x y : List Dt}, Fms os x y → Fms os' x y
  | _, _, .nil => .nil
  | _, _, .cons a b => .cons (Fm.mono h a) (Fms.mono h b)
end
theorem Fms.length : ∀ {xs ys : List Dt}, Fms os xs ys → xs.length = ys.length
  | _, _, .nil => rfl
  | _, _, .cons _ b => by rw [List.length_cons, List.length_cons, b.length]
/-- days of one's own, however they lie -/
structure OwnDays (days : List Day) (p : Addr) (os : Own) : Prop where
  ex : ∃ sp osx, os.Perm ((p, .lst sp) :: osx) ∧ Fms os sp (days.map dayD)
theorem OwnDays.of {days : List Day} {p : Addr} {as : List (Addr × Addr)} (h : as.length = days.length) : OwnDays days p ((p, .lst (spine as)) :: cellsOf as days) := ⟨_, _, List.Perm.refl _, cells_fms h fun x m => List.mem_cons_of_mem _ m⟩
theorem OwnDays.fm {days : List Day} {p : Addr} (h : OwnDays days p os) : Fm os (.adr p) (daysD days) := by
  obtain ⟨sp, osx, hp, f⟩ := h.ex
  exact .lstN (hp.mem_iff.mpr List.mem_cons_self) f
/-- own days go by frozen -/
theorem do_frzDays {days : List Day} {p : Addr} {osr : Own} (i : Nat) (h : OwnDays days p os) (hB : B.fp = []) (hs : ss[i]? = some (some (.adr p))) (k : Do K B t (ss.set i (some (daysD days))) osr D) : Do K B t ss (os ++ osr) D :=
  do_frzM (osf := os) (os0 := osr) (List.Perm.refl _) (fun _ _ => by rw [hB]; simp) (FmS.at i hs h.fm) (FmO.refl _) k
end
theorem perm_two (os : Own) (x y : Addr × Cel) : (os ++ [x] ++ [y]).Perm (x :: y :: os) := by
  have h1 : (os ++ [x] ++ [y]).Perm (y :: (os ++ [x])) := List.perm_append_comm (l₁ := os ++ [x]) (l₂ := [y])
  have h2 : (os ++ [x]).Perm (x :: os) := List.perm_append_comm (l₁ := os) (l₂ := [x])
  exact h1.trans ((h2.cons _).trans (List.Perm.swap _ _ _))
theorem perm_one (os : Own) (x : Addr × Cel) : (os ++ [x]).Perm (x :: os) := List.perm_append_comm (l₁ := os) (l₂ := [x])
/-- a number of one of the lists -/
theorem pick_at {as : List (Addr × Addr)} {pl : List Day} {i : Nat} {c : Int} (hl : as.length = pl.length) (hi : i < pl.length) (h0 : 0 ≤ c) (h2 : c < 2) (nd : (keys (cellsOf as pl)).Nodup) :
    ∃ (a : Addr × Addr) (x : Addr) (xs : List Int) (f : List Int → List Day), as[i]? = some a ∧ atI [Dt.adr a.1, Dt.adr a.2] c = some (.adr x) ∧ (x, Cel.lst (xs.map Dt.int)) ∈ cellsOf as pl ∧
      (∀ ys : List Int, setC (cellsOf as pl) x (.lst (ys.map Dt.int)) = cellsOf as (f ys) ∧ f ys = pl.set i (if c = 0 then (ys, (pl.getD i ([], [])).2) else ((pl.getD i ([], [])).1, ys))) ∧
      xs = (if c = 0 then (pl.getD i ([], [])).1 else (pl.getD i ([], [])).2) := by
  have ha : as[i]? = some as[i] := List.getElem?_eq_getElem (by omega)
  have hd := getDay hi
  generalize as[i] = a at ha
  generalize pl.getD i ([], []) = d at hd
  obtain ⟨m1, m2⟩ := cells_mem ha hd
  by_cases e : c = 0
  · subst e
    exact ⟨a, a.1, d.1, fun ys => pl.set i (ys, d.2), ha, rfl, m1, fun ys => ⟨(cells_set1 ha hd nd).1, by simp⟩, by simp⟩
  · have e1 : c = 1 := by omega
    subst e1
    exact ⟨a, a.2, d.2, fun ys => pl.set i (d.1, ys), ha, rfl, m2, fun ys => ⟨(cells_set1 ha hd nd).2, by simp⟩, by simp⟩
end Cy

namespace Cy
open PySem L2
open Evl (Ex Ex.refl Ex.trans Ex.new Ex.mut)
/-! ### min, max with a default -/
def minL (d : Int) : List Int → Int
  | [] => d
  | x :: r => PySem.W.minOf x r
def maxL (d : Int) : List Int → Int
  | [] => d
  | x :: r => PySem.W.maxOf x r
theorem minOf_le : ∀ (r : List Int) (x : Int), PySem.W.minOf x r ≤ x ∧ (∀ y ∈ r, PySem.W.minOf x r ≤ y) ∧ (PySem.W.minOf x r = x ∨ PySem.W.minOf x r ∈ r)
  | [], x => ⟨Int.le_refl _, by simp, .inl rfl⟩
  | y :: r, x => by
    have e : PySem.W.minOf x (y :: r) = PySem.W.minOf (if PySem.W.DatumOrd.lt y x = true then y else x) r := rfl
    have hlt : PySem.W.DatumOrd.lt y x = decide (y < x) := rfl
    rw [e, hlt]
    by_cases h : y < x
    · rw [if_pos (by simpa using h)]
      obtain ⟨h1, h2, h3⟩ := minOf_le r y
      refine ⟨by omega, fun z hz => ?_, .inr ?_⟩
      · rcases List.mem_cons.mp hz with rfl | hz
        · exact h1
        · exact h2 z hz
      · rcases h3 with h3 | h3
        · rw [h3]; exact List.mem_cons_self
        · exact List.mem_cons_of_mem _ h3
    · rw [if_neg (by simpa using h)]
      obtain ⟨h1, h2, h3⟩ := minOf_le r x
      refine ⟨h1, fun z hz => ?_, ?_⟩
      · rcases List.mem_cons.mp hz with rfl | hz
        · omega
        · exact h2 z hz
      · rcases h3 with h3 | h3
        · exact .inl h3
        · exact .inr (List.mem_cons_of_mem _ h3)
theorem maxOf_le : ∀ (r : List Int) (x : Int), x ≤ PySem.W.maxOf x r ∧ (∀ y ∈ r, y ≤ PySem.W.maxOf x r) ∧ (PySem.W.maxOf x r = x ∨ PySem.W.maxOf x r ∈ r)
  | [], x => ⟨Int.le_refl _, by simp, .inl rfl⟩
  | y :: r, x => by
    have e : PySem.W.maxOf x (y :: r) = PySem.W.maxOf (if PySem.W.DatumOrd.lt x y = true then y else x) r := rfl
    have hlt : PySem.W.DatumOrd.lt x y = decide (x < y) := rfl
    rw [e, hlt]
    by_cases h : x < y
    · rw [if_pos (by simpa using h)]
      obtain ⟨h1, h2, h3⟩ := maxOf_le r y
      refine ⟨by omega, fun z hz => ?_, .inr ?_⟩
      · rcases List.mem_cons.mp hz with rfl | hz
        · exact h1
        · exact h2 z hz
      · rcases h3 with h3 | h3
        · rw [h3]; exact List.mem_cons_self
        · exact List.mem_cons_of_mem _ h3
    · rw [if_neg (by simpa using h)]
      obtain ⟨h1, h2, h3⟩ := maxOf_le r x
      refine ⟨h1, fun z hz => ?_, ?_⟩
      · rcases List.mem_cons.mp hz with rfl | hz
        · omega
        · exact h2 z hz
      · rcases h3 with h3 | h3
        · exact .inl h3
        · exact .inr (List.mem_cons_of_mem _ h3)
def rMinDef (K : Fg) : List V → List V → Hp → VK → Prop := fun xs zs H Q => ∃ (a : Addr) (ns : List Int) (d : Int), xs = [.ref a] ∧ zs = [.int d] ∧ SqL K H a (ns.map V.int) ∧ Q (.int (minL d ns)) H
def rMaxDef (K : Fg) : List V → List V → Hp → VK → Prop := fun xs zs H Q => ∃ (a : Addr) (ns : List Int) (d : Int), xs = [.ref a] ∧ zs = [.int d] ∧ SqL K H a (ns.map V.int) ∧ Q (.int (maxL d ns)) H
section
variable {X : Cx}
theorem dp0 : PySem.W.Datum.depth Int = 0 := rfl
theorem cr_minDef (hc : X.calm = true) (hu : X.A.units + 64 < cLine) : CallRK X (.builtin "min") ["default"] (rMinDef X.K) := by
  intro pins s σ H xs zs us ws Q I r1 r2 h
  obtain ⟨a, ns, d, rfl, rfl, hs, q⟩ := h
  obtain ⟨its, rv, hl, _⟩ := I.list hs
  rw [Vals.ref1 r1]
  cases r2 with
  | cons rd r2 =>
    cases r2
    obtain ⟨t, rfl⟩ := rd
    have hi := rv.ints
    refine PySem.W.min_list_datum_default (α := Int) (xs := ns) (I.ok.hd hc) hl.isList ⟨_, PyProof.Rows.IntsAre.reads _ (by simpa using hi)⟩ (by rw [dp0]; omega) (fun e h' tk hk => ?_) (fun y ys i v h' tk e hv hh hk => ?_)
    · subst e
      exact ⟨.int d, H, I.kept hk, ⟨t, rfl⟩, q⟩
    · subst e
      obtain ⟨as, hr⟩ := hh
      obtain ⟨t', e, _⟩ := PyProof.Rows.reads_int_inv (n := PySem.W.minOf y ys) hr
      subst e
      exact ⟨.int _, H, I.kept hk, ⟨t', rfl⟩, q⟩
theorem cr_maxDef (hc : X.calm = true) (hu : X.A.units + 64 < cLine) : CallRK X (.builtin "max") ["default"] (rMaxDef X.K) := by
  intro pins s σ H xs zs us ws Q I r1 r2 h
  obtain ⟨a, ns, d, rfl, rfl, hs, q⟩ := h
  obtain ⟨its, rv, hl, _⟩ := I.list hs
  rw [Vals.ref1 r1]
  cases r2 with
  | cons rd r2 =>
    cases r2
    obtain ⟨t, rfl⟩ := rd
    have hi := rv.ints
    refine PySem.W.max_list_datum_default (α := Int) (xs := ns) (I.ok.hd hc) hl.isList ⟨_, PyProof.Rows.IntsAre.reads _ (by simpa using hi)⟩ (by rw [dp0]; omega) (fun e h' tk hk => ?_) (fun y ys i v h' tk e hv hh hk => ?_)
    · subst e
      exact ⟨.int d, H, I.kept hk, ⟨t, rfl⟩, q⟩
    · subst e
      obtain ⟨as, hr⟩ := hh
      obtain ⟨t', e, _⟩ := PyProof.Rows.reads_int_inv (n := PySem.W.maxOf y ys) hr
      subst e
      exact ⟨.int _, H, I.kept hk, ⟨t', rfl⟩, q⟩
/-! ### min of a list of data -/
/-- a list of (worth, line) -/
abbrev WL := Int × List Int
def rMinW (K : Fg) : List V → Hp → VK → Prop := fun vs H Q => ∃ (a : Addr) (ws : List V) (x : WL) (xs : List WL), vs = [.ref a] ∧ SqL K H a ws ∧ DpAll K H ws ((x :: xs).map PySem.W.Datum.toD) ∧
  ∀ (i : Nat) (v : V), ws[i]? = some v → (x :: xs)[i]? = some (PySem.W.minOf x xs) → Q v H
theorem vals_get : ∀ {vs : List V} {us : List Value} {i : Nat} {u : Value}, Vals vs us → us[i]? = some u → ∃ v, vs[i]? = some v ∧ RelV v u
  | _, _, _, _, .nil, h => by simp at h
  | _, _, 0, _, .cons r _, h => by simp at h; subst h; exact ⟨_, rfl, r⟩
  | _, _, i + 1, _, .cons _ t, h => by
    obtain ⟨v, h1, h2⟩ := vals_get (i := i) t (by simpa using h)
    exact ⟨v, by simpa using h1, h2⟩
theorem cr_minW (hc : X.calm = true) (hu : X.A.units + 64 < cLine) : CallR X (.builtin "min") (rMinW X.K) := by
  intro pins s σ H vs us Q I r h
  obtain ⟨a, ws, x, xs, rfl, hs, hd, q⟩ := h
  obtain ⟨its, rv, hl, _⟩ := I.list hs
  rw [Vals.ref1 r]
  obtain ⟨as, ra⟩ := Dp.readsAll I _ _ _ hd rv
  have dd : PySem.W.Datum.depth WL ≤ 8 := by decide
  refine PySem.W.min_list_datum (α := WL) (I.ok.hd hc) hl.isList ⟨as, ra⟩ (by omega) fun i v h' tk hv hh hk => ?_
  obtain ⟨w, hw, rw_⟩ := vals_get rv (by simpa using hv)
  obtain ⟨bs, hr⟩ := hh
  obtain ⟨cs, r2, hlt, _, _⟩ := PySem.W.readsAll_at ra i v (by simpa using hv)
  have e := (PyProof.Rows.reads_det (fun b o hb _ => hk b o hb) r2 hr).1
  have hlt : i < (x :: xs).length := by rw [List.length_map] at hlt; exact hlt
  have e2 : (x :: xs)[i]? = some (PySem.W.minOf x xs) := by
    rw [List.getElem?_eq_getElem hlt]
    congr 1
    have e3 : ((x :: xs).map PySem.W.Datum.toD).getD i .none = PySem.W.Datum.toD (x :: xs)[i] := by
      rw [List.getD_eq_getElem?_getD, List.getElem?_map, List.getElem?_eq_getElem hlt]; rfl
    rw [e3] at e
    have := PySem.W.Datum.eqv (x :: xs)[i] (PySem.W.minOf x xs)
    rw [← e, PySem.W.Datum.eqv] at this
    simpa using this
  exact ⟨w, H, I.kept hk, rw_, q i w hw e2⟩
end
section
variable {K : Fg} {ss : SS} {os : Own} {ta tb te tx : TE} {d x : Dt} {ds es : List Dt}
theorem ev_minDef {ns : List Int} {d0 : Int} (ha : Ev K ta ss os x) (l : LV os x (ns.map Dt.int)) (hb : Ev K tb ss os (.int d0)) : Ev K (tCKw (rMinDef K) (tCons ta tNil) (tCons tb tNil)) ss os (.int (minL d0 ns)) := fun σ G H R Q q => ha σ G H R _ fun v G1 H1 q1 e1 r1 => hb σ G1 H1 (R.grow q1 e1) _ fun w G2 H2 q2 e2 r2 => by
  cases r2
  obtain ⟨a, vs, rfl, hs, rs⟩ := ((R.grow q1 e1).grow q2 e2).list l (r1.mono q2.ex)
  have e := rs.to_ints
  subst e
  exact ⟨a, ns, d0, rfl, rfl, hs, q _ G2 H2 (q1.trans q2 (by simp)) e2 (.int _)⟩
theorem ev_maxDef {ns : List Int} {d0 : Int} (ha : Ev K ta ss os x) (l : LV os x (ns.map Dt.int)) (hb : Ev K tb ss os (.int d0)) : Ev K (tCKw (rMaxDef K) (tCons ta tNil) (tCons tb tNil)) ss os (.int (maxL d0 ns)) := fun σ G H R Q q => ha σ G H R _ fun v G1 H1 q1 e1 r1 => hb σ G1 H1 (R.grow q1 e1) _ fun w G2 H2 q2 e2 r2 => by
  cases r2
  obtain ⟨a, vs, rfl, hs, rs⟩ := ((R.grow q1 e1).grow q2 e2).list l (r1.mono q2.ex)
  have e := rs.to_ints
  subst e
  exact ⟨a, ns, d0, rfl, rfl, hs, q _ G2 H2 (q1.trans q2 (by simp)) e2 (.int _)⟩
def wlD (x : WL) : Dt := .tup [.int x.1, iL x.2]
theorem Ql.wl {n : Nat} (x : WL) : Ql (n + 2) (wlD x) (PySem.W.Datum.toD x) := .tup (.cons (.int _) (.cons (.iL _) .nil))
theorem Qls.wls {n : Nat} : ∀ xs : List WL, Qls (n + 2) (xs.map wlD) (xs.map PySem.W.Datum.toD)
  | [] => .nil
  | x :: r => .cons (.wl x) (Qls.wls r)
theorem ev_minW {y : WL} {ys : List WL} (ha : Ev K ta ss os x) (l : LV os x ((y :: ys).map wlD)) : Ev K (tCB (rMinW K) (tCons ta tNil)) ss os (wlD (PySem.W.minOf y ys)) := fun σ G H R Q q => ha σ G H R _ fun v G1 H1 q1 e1 r1 => by
  obtain ⟨a, vs, rfl, hs, rs⟩ := (R.grow q1 e1).list l r1
  refine ⟨a, vs, y, ys, rfl, hs, Qls.dp e1 (Qls.wls (n := 0) (y :: ys)) rs, fun i v hv he => ?_⟩
  obtain ⟨d, hd, rd⟩ := rs.get' hv
  rw [List.getElem?_map, he] at hd
  cases hd
  exact q v G1 H1 q1 e1 rd
/-- what the least of them is -/
theorem minW_spec : ∀ (ys : List WL) (y : WL), (PySem.W.minOf y ys = y ∨ PySem.W.minOf y ys ∈ ys) ∧ (PySem.W.minOf y ys).1 ≤ y.1 ∧ ∀ z ∈ ys, (PySem.W.minOf y ys).1 ≤ z.1
  | [], y => ⟨.inl rfl, Int.le_refl _, by simp⟩
  | z :: r, y => by
    have e : PySem.W.minOf y (z :: r) = PySem.W.minOf (if PySem.W.DatumOrd.lt z y = true then z else y) r := rfl
    rw [e]
    have hlt : PySem.W.DatumOrd.lt z y = if z.1 = y.1 then PySem.W.DatumOrd.lt z.2 y.2 else decide (z.1 < y.1) := rfl
    by_cases h : PySem.W.DatumOrd.lt z y = true
    · rw [if_pos h]
      have hzy : z.1 ≤ y.1 := by
        rw [hlt] at h
        by_cases e2 : z.1 = y.1
        · omega
        · rw [if_neg e2] at h
          have := of_decide_eq_true h
          omega
      obtain ⟨h1, h2, h3⟩ := minW_spec r z
      refine ⟨.inr ?_, by omega, fun w hw => ?_⟩
      · rcases h1 with h1 | h1
        · rw [h1]; exact List.mem_cons_self
        · exact List.mem_cons_of_mem _ h1
      · rcases List.mem_cons.mp hw with rfl | hw
        · exact h2
        · exact h3 w hw
    · rw [if_neg h]
      have hzy : y.1 ≤ z.1 := by
        rw [hlt] at h
        by_cases e2 : z.1 = y.1
        · omega
        · rw [if_neg e2] at h
          simp at h
          omega
      obtain ⟨h1, h2, h3⟩ := minW_spec r y
      refine ⟨?_, h2, fun w hw => ?_⟩
      · rcases h1 with h1 | h1
        · exact .inl h1
        · exact .inr (List.mem_cons_of_mem _ h1)
      · rcases List.mem_cons.mp hw with rfl | hw
        · omega
        · exact h3 w hw
/-! ### lists put together -/
theorem ef_cat {y : Dt} (ha : Ev K ta ss os x) (l : LV os x ds) (hb : Ev K tb ss os y) (l2 : LV os y es) (hns : ∀ ns, x ≠ .scr ns) (hns2 : ∀ ns, y ≠ .scr ns) (hz : ds.length + es.length ≤ 1000000) : EvF K (tOp rCat ta tb) ss os (ds ++ es) := fun σ G H R Q q => ha σ G H R _ fun v G1 H1 q1 e1 r1 => hb σ G1 H1 (R.grow q1 e1) _ fun w G2 H2 q2 e2 r2 => by
  have R2 := (R.grow q1 e1).grow q2 e2
  have key : ∀ {x : Dt} {ds : List Dt} {v : V}, LV os x ds → (∀ ns, x ≠ .scr ns) → Rp K G2 v x → ∃ a vs, v = .ref a ∧ H2 a = some (.lst vs) ∧ Rps K G2 vs ds := fun {x ds v} l hn r => by
    cases l with
    | lst =>
      cases r with
      | lst h1 h2 => exact ⟨_, _, rfl, e2 _ _ h1, h2⟩
    | own m =>
      cases r
      obtain ⟨_, vs, e, q⟩ := R2.ow.at_ _ m
      exact ⟨_, vs, rfl, e, q⟩
    | scr => exact (hn _ rfl).elim
  obtain ⟨a, vs, rfl, ha1, ra⟩ := key l hns (r1.mono q2.ex)
  obtain ⟨b, ws, rfl, hb1, rb⟩ := key l2 hns2 r2
  refine ⟨a, b, vs, ws, rfl, rfl, ha1, hb1, by rw [ra.length, rb.length]; exact sz _ hz, fun p hp => ?_⟩
  obtain ⟨q3, e3⟩ := gq_own (fp := []) (o := .lst (vs ++ ws)) e2 hp
  have q12 := q1.trans q2 (by simp)
  exact q p (vs ++ ws) G2 _ (q12.dom p hp) (q12.trans q3 (by simp)) e3 (Evl.fresh_back e2 hp) upd_same (ra.append rb)
/-- [e] * n -/
theorem ef_rep1 {n : Int} {z : Dt} (ha : Ev K ta ss os (.lst [z])) (hb : Ev K tb ss os (.int n)) (h0 : 0 ≤ n) (hz : n ≤ 100000) : EvF K (tOp rRep ta tb) ss os (List.replicate n.toNat z) := fun σ G H R Q q => ha σ G H R _ fun v G1 H1 q1 e1 r1 => hb σ G1 H1 (R.grow q1 e1) _ fun w G2 H2 q2 e2 r2 => by
  cases r2
  cases r1 with
  | lst h1 h2 =>
    cases h2 with
    | cons h3 h4 =>
      cases h4
      rename_i a v
      refine ⟨a, n, [v], rfl, rfl, e2 _ _ (q2.ex _ _ h1), by omega, by omega, sz _ (by simp; omega), fun p hp => ?_⟩
      obtain ⟨q3, e3⟩ := gq_own (fp := []) (o := .lst (List.replicate n.toNat [v]).flatten) e2 hp
      have q12 := q1.trans q2 (by simp)
      refine q p _ G2 _ (q12.dom p hp) (q12.trans q3 (by simp)) e3 (Evl.fresh_back e2 hp) upd_same ?_
      have e4 : ∀ k : Nat, (List.replicate k [v]).flatten = List.replicate k v := fun k => by
        induction k with
        | zero => rfl
        | succ k ih => rw [List.replicate_succ, List.flatten_cons, ih, List.replicate_succ]; rfl
      rw [e4]
      exact Rps.repl (h3.mono q2.ex) _
end
end Cy

namespace Cy
open PySem L2
open Evl (Ex Ex.refl Ex.trans Ex.new Ex.mut)
/-- one of several values comes back -/
def EvP (K : Fg) (te : TE) (ss : SS) (os : Own) (P : Dt → Prop) : Prop := ∀ σ G H, Rep K ss os σ G H → ∀ Q : VK, (∀ v d G' H', P d → Gq [] G H G' H' → Ex G' H' → Rp K G' v d → Q v H') → te σ H Q
section
variable {K : Fg} {ss ss' : SS} {os os' : Own} {ta tb te tx : TE} {d x z : Dt} {ds es : List Dt} {B : Bs} {D : Ends} {t u : TS} {P R : Dt → Prop}
theorem ev_p (h : EvP K te ss os P) (hp : ∀ d', P d' → d' = d) : Ev K te ss os d := fun σ G H R Q q => h σ G H R Q fun v d' G' H' p q1 e1 r1 => q v G' H' q1 e1 (hp d' p ▸ r1)
theorem em_p (h : EvP K te ss os P) : EvM K te ss os (fun d os' => P d ∧ os' = os) := fun σ G H R Q q => h σ G H R Q fun v d G1 H1 p q1 e1 r1 =>
  q d os v G1 H1 ⟨p, rfl⟩ (q1.wk (by simp)) e1 (R.ow.grow q1) (fun x m => .inr (mem_keys m)) r1
/-- (..)[j] of one of several tuples -/
theorem ep_ixT {j : Int} (h : EvP K te ss os P) (hp : ∀ d, P d → ∃ ts z, d = .tup ts ∧ atI ts j = some z ∧ R z) : EvP K (tOp (rIxT K) te (tC (V.int j))) ss os R := fun σ G H Rr Q q => h σ G H Rr _ fun v d G1 H1 p q1 e1 r1 => by
  obtain ⟨ts, z, rfl, hz, hR⟩ := hp d p
  cases r1 with
  | tup h1 h2 =>
    obtain ⟨w, hw, rw_⟩ := atI_rps h2 hz
    exact ⟨_, _, j, w, rfl, rfl, .of (e1 _ _ h1), hw, q w _ G1 H1 hR q1 e1 rw_⟩
/-- min(xs), the lists in it one's own -/
theorem ep_minO {y : WL} {ys : List WL} (ha : Ev K ta ss os x) (l : LV os x ds) (hf : Fms os ds ((y :: ys).map wlD)) : EvP K (tCB (rMinW K) (tCons ta tNil)) ss os (fun d => ∃ i : Nat, ds[i]? = some d ∧ (y :: ys)[i]? = some (PySem.W.minOf y ys)) := fun σ G H R Q q => ha σ G H R _ fun v G1 H1 q1 e1 r1 => by
  have R1 := R.grow q1 e1
  obtain ⟨a, vs, rfl, hs, rs⟩ := R1.list l r1
  obtain ⟨Gl, l1, l2, lf, _⟩ := lend R1.ow e1
  refine ⟨a, vs, y, ys, rfl, hs, Qls.dp l2 (Qls.wls (n := 0) (y :: ys)) (lf hf rs), fun i v hv he => ?_⟩
  obtain ⟨d, hd, rd⟩ := rs.get' hv
  exact q v d G1 H1 ⟨i, hd, he⟩ q1 e1 rd
/-- (e, [..]): the list one's own -/
theorem em_tup2F (ha : Ev K ta ss os x) (hb : EvF K tb ss os ds) : EvM K (tTup (tCons ta (tCons tb tNil))) ss os (fun d os' => ∃ q, q ∉ keys os ∧ d = .tup [x, .adr q] ∧ os' = os ++ [(q, .lst ds)]) := fun σ G H R Q q => ha σ G H R _ fun v G1 H1 q1 e1 r1 => hb σ G1 H1 (R.grow q1 e1) _ fun p vs G2 H2 n2 q2 e2 g2 h2 r2 => by
  have q12 := q1.trans q2 (by simp)
  have np : p ∉ keys os := (R.grow q1 e1).ow.ne n2
  have ow2 : OwnOk K G2 H2 os := R.ow.grow q12
  refine ⟨by show 2 ≤ sizeLine; exact sz 2, fun t ht => ?_⟩
  obtain ⟨q3, e3⟩ := gq_new (fp := []) (o := .tup [v, .ref p]) e2 ht
  have npt : p ≠ t := fun z => by rw [z, ht] at h2; cases h2
  have ow3 : OwnOk K (upd G2 t (.tup [v, .ref p])) (upd H2 t (.tup [v, .ref p])) os := ow2.grow q3
  have hu : upd (upd H2 t (.tup [v, .ref p])) p (.lst vs) = upd H2 t (.tup [v, .ref p]) := by
    funext a
    by_cases ha : a = p
    · subst ha; rw [upd_same, upd_ne npt, h2]
    · rw [upd_ne ha]
  have := ow3.add (c := .lst ds) (o := .lst vs) np (by rw [upd_ne npt]; exact g2) ⟨vs, upd_same, r2.mono q3.ex⟩
  rw [hu] at this
  refine q (.tup [x, .adr p]) (os ++ [(p, .lst ds)]) _ _ _ ⟨p, np, rfl, rfl⟩ ((q12.trans q3 (by simp)).wk (by simp)) e3 this (fun y m => ?_) (.tup upd_same (.cons ((r1.mono q2.ex).mono q3.ex) (.cons (.adr p) .nil)))
  rcases List.mem_append.mp m with m | m
  · exact .inr (mem_keys m)
  · have e : y = (p, .lst ds) := by simpa using m
    subst e
    exact .inl (q1.dom _ n2)
/-- xs.append(e), e making cells of one's own -/
theorem do_appM {p : Addr} {P : Dt → Own → Prop} (ha : Ev K ta ss os (.adr p)) (hm : (p, Cel.lst ds) ∈ os) (h : EvM K te ss os P) (hz : ds.length < 1000000) (k : ∀ d os', P d os' → (p, Cel.lst ds) ∈ os' ∧ Nx K B D.nx ss (setC os' p (.lst (ds ++ [d])))) : Do K B (tDrop (tBM K "list" rAppend ta (tCons te tNil))) ss os D := fun σ G H b r =>
  ha σ G H r _ fun v G1 H1 q1 e1 r1 => by
    cases r1
    have R1 := r.grow q1 e1
    obtain ⟨_, vs0, h0, _⟩ := R1.ow.at_ _ hm
    refine ⟨Or.inl ⟨rfl, vs0, .of h0⟩, h σ G1 H1 R1 _ fun d os' w G2 H2 hP q2 e2 o2 n2 r2 => ?_⟩
    obtain ⟨m, kk⟩ := k d os' hP
    obtain ⟨gp, vs, h1, rv⟩ := o2.at_ _ m
    refine ⟨p, vs, w, rfl, rfl, h1, by rw [rv.length]; exact szl hz, ?_⟩
    obtain ⟨q3, e3⟩ := gq_put (fp := keys os') (o := .lst (vs ++ [w])) e2 gp h1 (mem_keys m)
    refine kk σ G2 _ (((b.grow q1).growM q2 n2).growM q3 fun x mx => ?_) ⟨e3, R1.sl.mono q2.ex, o2.put ⟨_, upd_same, rv.append (.one r2)⟩⟩
    right
    have : x.1 ∈ keys (setC os' p (.lst (ds ++ [d]))) := mem_keys mx
    rw [keys_setC] at this
    exact this
end
/-- lines of one's own with their worths -/
def wSp (qs : List Addr) (wls : List WL) : List Dt := (qs.zip wls).map fun x => .tup [.int x.2.1, .adr x.1]
def wCells (qs : List Addr) (wls : List WL) : Own := (qs.zip wls).map fun x => (x.1, .lst (x.2.2.map Dt.int))
theorem wSp_len {qs : List Addr} {wls : List WL} (h : qs.length = wls.length) : (wSp qs wls).length = wls.length := by simp [wSp, h]
theorem wSp_at {qs : List Addr} {wls : List WL} {i : Nat} {q : Addr} {w : WL} (h1 : qs[i]? = some q) (h2 : wls[i]? = some w) : (wSp qs wls)[i]? = some (.tup [.int w.1, .adr q]) := by
  have : (qs.zip wls)[i]? = some (q, w) := by rw [List.getElem?_zip_eq_some]; exact ⟨h1, h2⟩
  unfold wSp
  rw [List.getElem?_map, this]; rfl
theorem wSp_inv {qs : List Addr} {wls : List WL} {i : Nat} {d : Dt} {w : WL} (h1 : (wSp qs wls)[i]? = some d) (h2 : wls[i]? = some w) : ∃ q, qs[i]? = some q ∧ d = .tup [.int w.1, .adr q] := by
  unfold wSp at h1
  rw [List.getElem?_map] at h1
  cases e : (qs.zip wls)[i]? with
  | none => rw [e] at h1; cases h1
  | some x =>
    obtain ⟨e1, e2⟩ := List.getElem?_zip_eq_some.mp e
    rw [e] at h1
    rw [h2] at e2
    cases e2
    exact ⟨x.1, e1, (Option.some.inj h1).symm⟩
theorem wCells_mem {qs : List Addr} {wls : List WL} {i : Nat} {q : Addr} {w : WL} (h1 : qs[i]? = some q) (h2 : wls[i]? = some w) : (q, Cel.lst (w.2.map Dt.int)) ∈ wCells qs wls := by
  have : (qs.zip wls)[i]? = some (q, w) := by rw [List.getElem?_zip_eq_some]; exact ⟨h1, h2⟩
  exact List.mem_map.mpr ⟨_, List.mem_of_getElem? this, rfl⟩
theorem wFms {os : Own} {g : WL → Int} : ∀ {qs : List Addr} {wls : List WL}, qs.length = wls.length → (∀ x ∈ wCells qs wls, x ∈ os) → Fms os ((qs.zip wls).map fun x => .tup [.int (g x.2), .adr x.1]) ((wls.map fun w => (g w, w.2)).map wlD)
  | [], [], _, _ => .nil
  | [], _ :: _, h, _ => by simp at h
  | _ :: _, [], h, _ => by simp at h
  | q :: qs, w :: wls, h, m => .cons (.tupI (.cons (.same _) (.cons (.lst (m _ List.mem_cons_self)) .nil))) (wFms (by simpa using h) fun x hx => m x (List.mem_cons_of_mem _ hx))
end Cy

namespace Cy
open PySem L2
open Evl (Ex Ex.refl Ex.trans Ex.new Ex.mut)
section
variable {K : Fg} {ss ss' : SS} {os os' : Own} {ta tb te tx : TE} {d x z : Dt} {ds es : List Dt}
theorem em_ixT {j : Int} {P : Dt → Own → Prop} (h : EvM K te ss os P) (hp : ∀ d os', P d os' → ∃ ts z, d = .tup ts ∧ atI ts j = some z) : EvM K (tOp (rIxT K) te (tC (V.int j))) ss os (fun z os' => ∃ ts, P (.tup ts) os' ∧ atI ts j = some z) := fun σ G H R Q q => h σ G H R _ fun d os' v G1 H1 hP q1 e1 o1 n1 r1 => by
  obtain ⟨ts, z, rfl, hz⟩ := hp d os' hP
  cases r1 with
  | tup h1 h2 =>
    obtain ⟨w, hw, rw_⟩ := atI_rps h2 hz
    exact ⟨_, _, j, w, rfl, rfl, .of (e1 _ _ h1), hw, q z os' w _ H1 ⟨ts, hP, hz⟩ q1 e1 o1 n1 rw_⟩
theorem ev_neB {i j : Bool} (ha : Ev K ta ss os (.bl i)) (hb : Ev K tb ss os (.bl j)) : Ev K (tOp rNe ta tb) ss os (.bl (!decide (i = j))) := by
  have := ev_op ha hb (rv_ne (K := K) (os := os) (x := .bl i) (y := .bl j) (a := .bl i) (b := .bl j) rfl rfl rfl)
  have e : decide (V.bl i = V.bl j) = decide (i = j) := by
    by_cases h : i = j
    · subst h; simp
    · simp [h]
  rw [e] at this
  exact this
theorem ev_notB {a b : Bool} (ha : Ev K ta ss os (.bl a)) (hb : Ev K tb ss os (.bl b)) : Ev K (tOp rNotB ta tb) ss os (.bl (!decide (a = b))) :=
  ev_op ha hb fun ss σ G H R v w ra rb Q k => by
    cases ra; cases rb
    exact ⟨a, b, rfl, rfl, k _ G H (Gq.refl G H) R.gh (.bl _)⟩
end
end Cy

namespace Cy
open PySem L2
open Evl (Ex Ex.refl Ex.trans Ex.new Ex.mut)
section
variable {K : Fg} {ss ss' : SS} {os os' : Own} {ta : TE} {tb te tx : TE} {tA : TA} {d x z : Dt} {ds es : List Dt} {n : Nat} {c : Ct} {E : XK}
theorem em_tup2M {P1 : Dt → Own → Prop} {P2 : Dt → Dt → Own → Prop} (ha : EvM K ta ss os P1) (hb : ∀ d os1, P1 d os1 → EvM K tb ss os1 (P2 d)) : EvM K (tTup (tCons ta (tCons tb tNil))) ss os (fun z os2 => ∃ d e, z = .tup [d, e] ∧ ∃ os1, P1 d os1 ∧ P2 d e os2) := fun σ G H R Q q =>
  ha σ G H R _ fun d os1 v G1 H1 p1 q1 e1 o1 n1 r1 => hb d os1 p1 σ G1 H1 ⟨e1, R.sl.mono q1.ex, o1⟩ _ fun e os2 w G2 H2 p2 q2 e2 o2 n2 r2 => by
    refine ⟨by show 2 ≤ sizeLine; exact sz 2, fun t ht => ?_⟩
    obtain ⟨q3, e3⟩ := gq_new (fp := []) (o := .tup [v, w]) e2 ht
    have hk : ∀ p ∈ keys os1, p ∈ keys os ∨ H p = none := fun p m => by
      obtain ⟨y, hy, ey⟩ := List.mem_map.mp m
      rcases n1 y hy with z | z
      · exact .inr (ey ▸ z)
      · exact .inl (ey ▸ z)
    refine q (.tup [d, e]) os2 _ _ _ ⟨d, e, rfl, os1, p1, p2⟩ ((q1.trans q2 hk).trans q3 (by simp)) e3 (o2.grow q3) (fun y m => ?_) (.tup upd_same (.cons ((r1.mono q2.ex).mono q3.ex) (.cons (r2.mono q3.ex) .nil)))
    rcases n2 y m with z | z
    · exact .inl (q1.dom _ z)
    · exact (hk _ z).symm
/-- a call that lends, one of several values back -/
theorem ep_callL {P : Res → Own → Prop} {R : Dt → Prop} (ha : EvA K tA ss os ds) (hf : Fms os ds es) (hn : es.length = n) (hc : c es [] P) (hP : ∀ r os', P r os' → ∃ d, r = .ok d ∧ os' = [] ∧ R d ∧ Thin d) : EvP K (tCall (spC K n c) [] E tA) ss os R := fun σ G H Rr Q q => ha σ G H Rr _ fun vs G1 H1 q1 e1 r1 => by
  have ow1 := Rr.ow.grow q1
  obtain ⟨Gl, l1, l2, lf, lb⟩ := lend ow1 e1
  have r2 := lf hf r1
  refine ⟨by rw [List.append_nil, r2.length, hn], es, [], P, Gl, l2, by rw [List.append_nil]; exact r2, ownOk_nil, hc, ?_⟩
  intro r os1 G2 H2 hp q2 e2 o2 n2
  obtain ⟨d, rfl, rfl, hR, ht⟩ := hP r os1 hp
  intro v rv
  obtain ⟨G3, q3, e3, tu, no, _, _⟩ := lb G2 H2 q2 e2
  exact q v d G3 H2 hR (q1.trans q3 (by simp)) e3 (Rp.thin tu ht rv)
end
end Cy

namespace Cy
open PySem L2
open Evl (Ex Ex.refl Ex.trans Ex.new Ex.mut)
/-! ### texts -/
def rAddS : R2 := fun x y H Q => ∃ i j, x = .str i ∧ y = .str j ∧ i.length + j.length ≤ sizeLine ∧ Q (.str (i ++ j)) H
def rNotInS : R2 := fun x y H Q => ∃ (c : Nat) (z : Str), x = .str ⟨#[c]⟩ ∧ y = .str z ∧ Q (.bl (!decide (c ∈ z.cps.toList))) H
def rStrI : List V → Hp → VK → Prop := fun xs H Q => ∃ i, xs = [.int i] ∧ i.natAbs.log2 < 1920 ∧ Q (.str (toString i)) H
def rIntS : List V → Hp → VK → Prop := fun xs H Q => ∃ a n, xs = [.str a] ∧ PySem.intText? a = some n ∧ a.length ≤ 640 ∧ Q (.int n) H
def rLenStr : List V → Hp → VK → Prop := fun xs H Q => ∃ z, xs = [.str z] ∧ z.length ≤ sizeLine ∧ Q (.int z.length) H
def tSplit (to te : TE) : TE := tM1 (fun x xs H Q => ∃ a b, x = .str a ∧ xs = [.str b] ∧ (b.length == 0) = false ∧ a.length + 2 ≤ sizeLine ∧ rNewStrs (Txt.split a b) H Q) to te
def tJoin (K : Fg) (to te : TE) : TE := tM1 (fun x xs H Q => ∃ a p, ∃ ys : List Str, x = .str a ∧ xs = [.ref p] ∧ (SqL K H p (ys.map V.str) ∨ SqT K H p (ys.map V.str)) ∧ (ys.map (·.length)).sum + ys.length * a.length ≤ 16777216 ∧ Q (.str (Txt.join a ys)) H) to te
section
variable {K : Fg} {ss ss' : SS} {os os' : Own} {ta tb te tx to : TE} {d x : Dt} {ds es : List Dt} {i j a b : Str}
theorem ev_addS (ha : Ev K ta ss os (.str i)) (hb : Ev K tb ss os (.str j)) (hz : i.length + j.length ≤ 1000000) : Ev K (tOp rAddS ta tb) ss os (.str (i ++ j)) := ev_op ha hb fun ss σ G H R u w ra rb Q k => by
  cases ra; cases rb
  exact ⟨i, j, rfl, rfl, sz _ hz, k _ G H (Gq.refl G H) R.gh (.str _)⟩
theorem ev_notInS {c : Nat} (ha : Ev K ta ss os (.str ⟨#[c]⟩)) (hb : Ev K tb ss os (.str j)) : Ev K (tOp rNotInS ta tb) ss os (.bl (!decide (c ∈ j.cps.toList))) := ev_op ha hb fun ss σ G H R u w ra rb Q k => by
  cases ra; cases rb
  exact ⟨c, j, rfl, rfl, k _ G H (Gq.refl G H) R.gh (.bl _)⟩
theorem ev_strI {n : Int} (ha : Ev K ta ss os (.int n)) (hz : n.natAbs.log2 < 1920) : Ev K (tCB rStrI (tCons ta tNil)) ss os (.str (toString n)) := fun σ G H R Q q => ha σ G H R _ fun v G1 H1 q1 e1 r1 => by
  cases r1
  exact ⟨n, rfl, hz, q _ G1 H1 q1 e1 (.str _)⟩
theorem ev_intS {n : Int} (ha : Ev K ta ss os (.str a)) (hn : PySem.intText? a = some n) (hl : a.length ≤ 640) : Ev K (tCB rIntS (tCons ta tNil)) ss os (.int n) := fun σ G H R Q q => ha σ G H R _ fun v G1 H1 q1 e1 r1 => by
  cases r1
  exact ⟨a, n, rfl, hn, hl, q _ G1 H1 q1 e1 (.int _)⟩
theorem ev_lenStr (ha : Ev K ta ss os (.str a)) (hl : a.length ≤ 1000000) : Ev K (tCB rLenStr (tCons ta tNil)) ss os (.int (a.length : Int)) := fun σ G H R Q q => ha σ G H R _ fun v G1 H1 q1 e1 r1 => by
  cases r1
  exact ⟨a, rfl, sz _ hl, q _ G1 H1 q1 e1 (.int _)⟩
theorem ev_ixS {n : Int} {c : Nat} (ha : Ev K ta ss os (.str a)) (hb : Ev K tb ss os (.int n)) (hl : a.length ≤ 1000000) (h : atI a.cps.toList n = some c) : Ev K (tOp rIxS ta tb) ss os (.str ⟨#[c]⟩) := ev_op ha hb fun ss σ G H R u w ra rb Q k => by
  cases ra; cases rb
  exact ⟨a, n, c, rfl, rfl, sz _ hl, h, k _ G H (Gq.refl G H) R.gh (.str _)⟩
theorem Rps.strs {G : Hp} : ∀ ns : List Str, Rps K G (ns.map V.str) (ns.map Dt.str)
  | [] => .nil
  | n :: r => .cons (.str n) (Rps.strs r)
theorem ef_split (ha : Ev K to ss os (.str a)) (hb : Ev K te ss os (.str b)) (h0 : (b.length == 0) = false) (hl : a.length ≤ 100000) : EvF K (tSplit to te) ss os ((Txt.split a b).map Dt.str) := fun σ G H R Q q => ha σ G H R _ fun v G1 H1 q1 e1 r1 => by
  cases r1
  refine ⟨⟨a, rfl⟩, hb σ G1 H1 (R.grow q1 e1) _ fun w G2 H2 q2 e2 r2 => ?_⟩
  cases r2
  refine ⟨a, b, rfl, rfl, h0, sz _ (by omega), fun p hp => ?_⟩
  obtain ⟨q3, e3⟩ := gq_own (fp := []) (o := .lst ((Txt.split a b).map V.str)) e2 hp
  have q12 := q1.trans q2 (by simp)
  exact q p _ G2 _ (q12.dom p hp) (q12.trans q3 (by simp)) e3 (Evl.fresh_back e2 hp) upd_same (Rps.strs _)
theorem ev_join {ys : List Str} (ha : Ev K to ss os (.str a)) (hb : Ev K te ss os x) (l : LV os x (ys.map Dt.str)) (hz : (ys.map (·.length)).sum + ys.length * a.length ≤ 16777216) : Ev K (tJoin K to te) ss os (.str (Txt.join a ys)) := fun σ G H R Q q => ha σ G H R _ fun v G1 H1 q1 e1 r1 => by
  cases r1
  refine ⟨⟨a, rfl⟩, hb σ G1 H1 (R.grow q1 e1) _ fun w G2 H2 q2 e2 r2 => ?_⟩
  obtain ⟨p, vs, rfl, hs, rs⟩ := ((R.grow q1 e1).grow q2 e2).list l r2
  have e := rs.to_strs
  subst e
  exact ⟨a, p, ys, rfl, rfl, .inl hs, hz, q _ G2 H2 (q1.trans q2 (by simp)) e2 (.str _)⟩
end
/-- over a text -/
theorem do_forS {K : Fg} {ss : SS} {os : Own} {te : TE} {g : TG} {t : TS} {B : Bs} {D : Ends} {a : Str} (h : Ev K te ss os (.str a)) (I : Nat → SS → Own → Prop) (hi : I 0 ss os)
    (hs : ∀ B1, B.Le B1 → ∀ (i c : Nat) ss' os', a.cps[i]? = some c → I i ss' os' → ∃ ss2, Tg K g (.str ⟨#[c]⟩) ss' ss2 ∧ Do K B1 t ss2 os' { D with nx := At K B1 (I (i + 1)), ct := At K B1 (I (i + 1)), bk := D.nx })
    (hd : ∀ ss' os', I a.cps.size ss' os' → Nx K B D.nx ss' os') : Do K B (tFor (iStr te) g t) ss os D := fun σ G H b r =>
  h σ G H r _ fun v G1 H1 q1 e1 r1 => by
    have b1 := b.grow q1
    have le := b1.later
    cases r1
    refine ⟨a, rfl, fun i m σ H => m = a.cps.size - i ∧ i ≤ a.cps.size ∧ At K ⟨B.fp, G1, B.H0⟩ (I i) σ H, ⟨a.cps.size, by simp, Nat.zero_le _, ss, os, G1, hi, b1.lift (Ex.refl _) b1.gq.ex, r.grow q1 e1⟩, ?_⟩
    rintro i m σ' H' ⟨rfl, hle, p⟩
    by_cases hlt : i < a.cps.size
    · refine .inr ⟨hlt, At K ⟨B.fp, G1, B.H0⟩ (I (i + 1)), fun σ2 H2 p2 => ⟨a.cps.size - (i + 1), by omega, rfl, hlt, p2⟩, fun x H2 y => ?_⟩
      obtain ⟨rfl, c, hc, rfl⟩ := y
      obtain ⟨ss', os', G', p, b', r'⟩ := p
      obtain ⟨ss2, tg, dd⟩ := hs _ le i c ss' os' hc p
      exact tg _ σ' G' H2 _ r'.gh r'.sl (.str _) fun σ2 s2 => dd σ2 G' H2 b' ⟨r'.gh, s2, r'.ow⟩
    · have e : i = a.cps.size := by omega
      subst e
      obtain ⟨ss', os', G', p, b', r'⟩ := p
      exact .inl ⟨Nat.le_refl _, hd ss' os' p σ' G' H' (le.ok b') r'⟩
theorem q_forS {K : Fg} {ss : SS} {os : Own} {te : TE} {g : TG} {t u : TS} {B : Bs} {D : Ends} {a : Str} (h : Ev K te ss os (.str a)) (I : Nat → SS → Own → Prop) (hi : I 0 ss os)
    (hs : ∀ B1, B.Le B1 → ∀ (i c : Nat) ss' os', a.cps[i]? = some c → I i ss' os' → ∃ ss2, Tg K g (.str ⟨#[c]⟩) ss' ss2 ∧ Do K B1 t ss2 os' { D with nx := At K B1 (I (i + 1)), ct := At K B1 (I (i + 1)), bk := u D })
    (hd : ∀ ss' os', I a.cps.size ss' os' → Do K B u ss' os' D) : Do K B (tSeq (tFor (iStr te) g t) u) ss os D := do_forS (D := { D with nx := u D }) h I hi hs hd
end Cy

namespace Cy
open PySem L2
/-! numbers in figures -/
def figs : List Nat := [48, 49, 50, 51, 52, 53, 54, 55, 56, 57]
theorem int_one : (figs.all fun a => decide (PySem.intText? ⟨#[a]⟩ = some ((a : Int) - 48))) = true := by decide +kernel
theorem int_two : (figs.all fun a => figs.all fun b => decide (PySem.intText? ⟨#[a, b]⟩ = some (10 * ((a : Int) - 48) + ((b : Int) - 48)))) = true := by decide +kernel
/-- a number that is written as it should be -/
def numOk (w : Str) : Bool := (decide (w.cps.size = 1) || (decide (w.cps.size = 2) && decide (w.cps.toList.head? ≠ some 48))) && w.cps.toList.all fun c => decide (c ∈ figs)
def numV (w : Str) : Int := (PySem.intText? w).getD 0
theorem num_int {w : Str} (h : numOk w = true) : PySem.intText? w = some (numV w) ∧ 0 ≤ numV w ∧ numV w ≤ 99 := by
  obtain ⟨cps⟩ := w
  obtain ⟨l⟩ := cps
  unfold numOk at h
  simp only [Bool.and_eq_true, Bool.or_eq_true, decide_eq_true_eq] at h
  obtain ⟨h1, h2⟩ := h
  have hf : ∀ c ∈ l, 48 ≤ c ∧ c ≤ 57 ∧ c ∈ figs := fun c hc => by
    have := of_decide_eq_true (List.all_eq_true.mp h2 c hc)
    refine ⟨?_, ?_, this⟩ <;> (simp [figs] at this; omega)
  have hl : l.length = 1 ∨ l.length = 2 := by
    rcases h1 with h1 | h1
    · exact .inl h1
    · exact .inr h1.1
  match l, hl with
  | [a], _ =>
    obtain ⟨b1, b2, hm⟩ := hf a (by simp)
    have := of_decide_eq_true (List.all_eq_true.mp int_one a hm)
    have e : numV ⟨⟨[a]⟩⟩ = (a : Int) - 48 := by unfold numV; rw [show (⟨⟨[a]⟩⟩ : Str) = ⟨#[a]⟩ from rfl, this]; rfl
    rw [e]
    exact ⟨this, by omega, by omega⟩
  | [a, b], _ =>
    obtain ⟨b1, b2, hm⟩ := hf a (by simp)
    obtain ⟨c1, c2, hn⟩ := hf b (by simp)
    have := of_decide_eq_true (List.all_eq_true.mp (List.all_eq_true.mp int_two a hm) b hn)
    have e : numV ⟨⟨[a, b]⟩⟩ = 10 * ((a : Int) - 48) + ((b : Int) - 48) := by unfold numV; rw [show (⟨⟨[a, b]⟩⟩ : Str) = ⟨#[a, b]⟩ from rfl, this]; rfl
    rw [e]
    exact ⟨this, by omega, by omega⟩
end Cy

namespace Cy
open PySem L2
local macro_rules | `(tactic| walk_at "lv") => `(tactic| first | exact LV.lst | exact LV.scr | exact LV.own List.mem_cons_self | exact LV.own (List.mem_cons_of_mem _ List.mem_cons_self) | exact LV.own (List.mem_cons_of_mem _ (List.mem_cons_of_mem _ List.mem_cons_self)) | exact LV.own (List.mem_cons_of_mem _ (List.mem_cons_of_mem _ (List.mem_cons_of_mem _ List.mem_cons_self))))
local macro_rules | `(tactic| walk_at "at") => `(tactic| first | exact at_mapN (by assumption) | exact at_map (by omega) (by assumption) | rfl | exact at_of (by omega) (by assumption))
local macro_rules | `(tactic| walk_at "side") => `(tactic| first | assumption | omega | decide)
local macro_rules | `(tactic| walk_at "ea") => `(tactic| first | exact ea_nil | (apply ea_cons; walk_at "ev"; walk_at "ea"))
local macro_rules | `(tactic| walk_at "et") => `(tactic| first
  | exact et_yes
  | (apply et_B; walk_at "ev")
  | (apply et_T; walk_at "ev")
  | (apply et_not; walk_at "et"))
local macro_rules | `(tactic| walk_at "ev") => `(tactic| first
  | exact ev_var rfl
  | exact ev_cint | exact ev_cbl | exact ev_cstr | exact ev_cnon
  | (apply ev_ii; walk_at "ev"; walk_at "ev")
  | (apply ev_ib; walk_at "ev"; walk_at "ev")
  | (apply ev_eqI; walk_at "ev"; walk_at "ev")
  | (apply ev_neI; walk_at "ev"; walk_at "ev")
  | (apply ev_ixL; walk_at "ev"; walk_at "lv"; walk_at "ev"; walk_at "at")
  | (apply ev_ixT; walk_at "ev"; walk_at "ev"; walk_at "at")
  | (apply ev_len; walk_at "ev"; walk_at "lv")
  | (apply ev_lenT; walk_at "ev")
  | (apply ev_min2; walk_at "ev"; walk_at "ev")
  | (apply ev_max2; walk_at "ev"; walk_at "ev")
  | (apply ev_tup; walk_at "ea"; (first | decide | simp | skip))
  | (apply ev_iC; walk_at "ev"; walk_at "ev"; walk_at "cond")
  | (apply ev_fldI; walk_at "cls"; walk_at "cls"; walk_at "ev"; walk_at "iv"; rfl; rfl; rfl)
  | (apply ev_F; walk_at "ef")
  | walk_at "call")
local macro_rules | `(tactic| walk_at "ef") => `(tactic| first
  | (apply ef_list; walk_at "ev"; walk_at "lv")
  | (apply ef_lst; walk_at "ea"; (first | decide | simp | skip)))
local macro_rules | `(tactic| walk_at "iv") => `(tactic| first | exact IV.ins | exact IV.own List.mem_cons_self | exact IV.own (List.mem_cons_of_mem _ List.mem_cons_self) | exact IV.own (List.mem_cons_of_mem _ (List.mem_cons_of_mem _ List.mem_cons_self)) | exact IV.own (List.mem_cons_of_mem _ (List.mem_cons_of_mem _ (List.mem_cons_of_mem _ List.mem_cons_self))))
local macro_rules | `(tactic| walk_at "cond") => `(tactic| first | exact Or.inr (by decide) | exact Or.inl (by decide) | (exact ⟨by decide, by decide⟩) | (show (0 : Int) < _; first | decide | assumption | omega))
local macro_rules | `(tactic| walk_at "cls") => `(tactic| first | assumption | exact YardF.cls (by assumption) | exact YardF.sizes (by assumption) | exact YardF.held (by assumption))
local macro_rules | `(tactic| walk_at "call") => `(tactic| fail "no call")
theorem figs_str : ("0123456789" : Str).cps.toList = figs := by decide +kernel
theorem numOk_iff {w : Str} : numOk w = true ↔ (w.cps.size = 1 ∨ (w.cps.size = 2 ∧ w.cps.toList.head? ≠ some 48)) ∧ ∀ c ∈ w.cps.toList, c ∈ figs := by
  unfold numOk
  rw [Bool.and_eq_true, Bool.or_eq_true, Bool.and_eq_true, List.all_eq_true]
  simp only [decide_eq_true_eq]
def c_number_of (A : Ad) : Ct := pureC (α := Str) (fun w => w.length ≤ 100000) (fun w => [.str w]) fun w => if numOk w = true then .ok (.int (numV w)) else .er A.BadText
def rd_number_of (K : Fg) (A : Ad) (E : XK) : TS :=
  tSeq (tIfS (tOr (tTest (tOp (rEq) (tVar 0) (tC (V.str "")))) (tOr (tTest (tOp (rI0 fun i j => V.bl (decide (j < i))) (tCB (rLenStr) (tCons (tVar 0) (tNil))) (tC (V.int 2)))) (tAnd (tTest (tOp (rEq) (tOp rIxS (tVar 0) (tC (V.int 0))) (tC (V.str "0")))) (tTest (tOp (rNe) (tVar 0) (tC (V.str "0"))))))) (tRaise E A.BadText) (tNext)) 
      (tSeq (tFor (iStr (tVar 0)) (gName 1) 
        (tIfS (tTest (tOp (rNotInS) (tVar 1) (tC (V.str "0123456789")))) (tRaise E A.BadText) (tNext))) 
      (tRet (tCB (rIntS) (tCons (tVar 0) (tNil)))))
theorem str_eq1 {w : Str} {x : Nat} : w = ⟨#[x]⟩ ↔ w.cps.toList = [x] := by
  constructor
  · rintro rfl; rfl
  · intro h
    obtain ⟨⟨l⟩⟩ := w
    have : l = [x] := h
    subst this
    rfl
theorem sem_number_of {K : Fg} {A : Ad} : ∀ vs H Q E, spC K 1 (c_number_of A) vs H Q E → rd_number_of K A E { nx := fun _ H' => Q .non H', rt := Q } (start ["word", "sign"] vs) H :=
  body_okX fun ds os P E hl hc B D hfp hR hE hN => by
    obtain ⟨w, hw, rfl, rfl, rfl⟩ := hc
    have hw : w.length ≤ 100000 := hw
    have hsz : w.length = w.cps.size := rfl
    have bad : ¬ numOk w = true → ∀ {B' os}, B.Le B' → os = [] → Xt K B' E A.BadText os := fun h B' os le eo => (hE.up le).xt ⟨by show _ = if numOk w = true then Res.ok (.int (numV w)) else .er A.BadText; rw [if_neg h], eo⟩
    by_cases h0 : w.cps.size = 0
    · refine q_when (et_or (b := false) (et_T (ev_eqS (ev_var rfl) ev_cstr)) fun hb => ?_) (fun hb => do_raise (bad (fun h => ?_) (Bs.Le.refl _) rfl)) (fun hb => ?_)
      · exfalso
        have : w = "" := by
          obtain ⟨⟨l⟩⟩ := w
          have : l = [] := List.length_eq_zero_iff.mp h0
          subst this
          rfl
        simp [this] at hb
      · have := (numOk_iff.mp h).1
        omega
      · exfalso
        have : w = "" := by
          obtain ⟨⟨l⟩⟩ := w
          have : l = [] := List.length_eq_zero_iff.mp h0
          subst this
          rfl
        simp [this] at hb
    · obtain ⟨c0, hc0⟩ : ∃ c, w.cps.toList[0]? = some c := ⟨_, List.getElem?_eq_getElem (by simp; omega)⟩
      have ne : w ≠ "" := fun z => by rw [z] at h0; exact h0 rfl
      refine q_when (et_or (et_T (ev_eqS (ev_var rfl) ev_cstr)) fun _ => et_or (et_T (ev_ib (ev_lenStr (ev_var rfl) (by omega)) ev_cint)) fun _ => et_and (et_T (ev_eqS (ev_ixS (c := c0) (ev_var rfl) ev_cint (by omega) (at_of (by decide) hc0)) ev_cstr)) fun _ => et_T (ev_neS (ev_var rfl) ev_cstr)) (fun hb => do_raise (bad (fun h => ?_) (Bs.Le.refl _) rfl)) (fun hb => ?_)
      · obtain ⟨h1, _⟩ := numOk_iff.mp h
        have hh : w.cps.toList.head? = some c0 := by rw [List.head?_eq_getElem?]; exact hc0
        simp [ne] at hb
        rcases hb with hb | ⟨hb1, hb2⟩
        · omega
        · have e0 : c0 = 48 := by
            have : (⟨#[c0]⟩ : Str) = ⟨#[48]⟩ := hb1
            have h2 : (#[c0] : Array Nat) = #[48] := congrArg Str.cps this
            simpa using h2
          rcases h1 with h1 | ⟨_, h1⟩
          · refine hb2 (str_eq1.mpr ?_)
            have : w.cps.toList.length = 1 := by simpa using h1
            match hw : w.cps.toList, this with
            | [x], _ =>
              rw [hw] at hc0
              simp at hc0
              rw [hc0, e0]
              decide +kernel
          · rw [hh, e0] at h1; exact h1 rfl
      · simp [ne] at hb
        obtain ⟨hb1, hb2⟩ := hb
        have hsize : w.cps.size = 1 ∨ (w.cps.size = 2 ∧ w.cps.toList.head? ≠ some 48) := by
          by_cases e1 : w.cps.size = 1
          · exact .inl e1
          · refine .inr ⟨by omega, fun z => ?_⟩
            rw [List.head?_eq_getElem?, hc0] at z
            have e0 : c0 = 48 := by simpa using z
            have := hb2 (by rw [e0]; decide +kernel)
            rw [this] at e1
            exact e1 rfl
        refine q_forS (ev_var rfl) (fun i ss os => (∃ o, ss = [some (.str w), o]) ∧ os = [] ∧ ∀ c ∈ w.cps.toList.take i, c ∈ figs) ⟨⟨_, rfl⟩, rfl, by simp⟩ (fun B1 hB1 i c ss os hc hI => ?_) (fun ss os hI => ?_)
        · obtain ⟨⟨o, rfl⟩, rfl, hx⟩ := hI
          have hc2 : w.cps.toList[i]? = some c := by rw [Array.getElem?_toList]; exact hc
          refine ⟨_, tg_name, do_if (et_T (ev_notInS (ev_var rfl) ev_cstr)) (fun hb => do_raise (bad (fun h => ?_) hB1 rfl)) (fun hb => ?_)⟩
          · have := (numOk_iff.mp h).2 c (List.mem_of_getElem? hc2)
            rw [figs_str] at hb
            simp [this] at hb
          · rw [figs_str] at hb
            refine do_nx (nx_at ⟨⟨_, rfl⟩, rfl, fun y hy => ?_⟩)
            rw [List.take_add_one, hc2] at hy
            rcases List.mem_append.mp hy with hy | hy
            · exact hx y hy
            · have : y = c := by simpa using hy
              subst this
              simpa using hb
        · obtain ⟨⟨o, rfl⟩, rfl, hx⟩ := hI
          have ok : numOk w = true := numOk_iff.mpr ⟨hsize, fun c hc => hx c (by rw [List.take_of_length_le (by simp)]; exact hc)⟩
          refine do_ret (ev_intS (ev_var rfl) (num_int ok).1 (by omega)) (hR.rt ⟨?_, rfl⟩)
          show _ = if numOk w = true then Res.ok (.int (numV w)) else .er A.BadText
          rw [if_pos ok]
end Cy

namespace Cy
open PySem L2
open Evl (Ex Ex.refl Ex.trans Ex.new Ex.mut)
/-! ### try: own rules -/
def tMethS (C : Addr) (m : Str) (sp : Sp) (E : St → XK) (ta : TE) (t : TA) : TE := fun σ H Q => ta σ H fun x H1 => ∃ a dx fs, x = .ref a ∧ H1 a = some (.ins C dx fs) ∧ fs.lookup m = none ∧ t σ H1 fun vs H2 => sp (x :: vs) H2 Q (E σ)
section
variable {X : Cx} {CX : CXT} {k : Nat} {C : Addr} {ps : List Str} {sp : Sp} {E : St → XK} {x m : Str} {p pos apos : Pos} {e o : Expr} {es : List Expr} {ta : TE} {t : TA}
theorem pe_calS (c : Cal X.prog X.w X.K X.mg X.base CX x k ps sp) (hr : Room k X.A) (hg : Gl X x) (hx : ∀ σ, PassesAt CX X σ (E σ)) (ha : PA X (e :: es) t) (hdb : (x == ("__debug__" : Str)) = false := by decide)
    (he : starEach (e :: es) X.env = (false, eval e X.env) :: starEach es X.env := by rfl) (hpl : (backTo pos (starEach es X.env)).any (·.1) = false := by rfl) : PE X (.Call (.Name x p) (e :: es) [] pos) (tCallS sp E t) := by
  obtain ⟨f, fd, F, hm, hk, hb⟩ := c.ex
  exact pe_callS F hr hg hm hk hb hx ha hdb he hpl
theorem pe_metS {pl : Sem Bool} (c : Met X.prog X.w X.K X.mg X.base CX C m k ps sp) (hr : Room k X.A) (hx : ∀ σ, PassesAt CX X σ (E σ)) (he : PE X o ta) (ha : PA X (e :: es) t)
    (hst : starEach (e :: es) X.env = (false, eval e X.env) :: starEach es X.env := by rfl) (hpl : (backTo pos (starEach es X.env)).any (·.1) = false := by rfl)
    (ht : eval (.Call (.Attribute o m apos) (e :: es) [] pos) X.env = (do
      let ov ← eval o X.env
      standAt apos.atName
      let (f, first) ← holding [ov] (getMethod ov m pl)
      callWith pos f first (backTo pos (starEach (e :: es) X.env)) (backToKw pos (keywordEach [] X.env))) := by rfl) : PE X (.Call (.Attribute o m apos) (e :: es) [] pos) (tMethS C m sp E ta t) := by
  obtain ⟨f, fd, F, hm, hb⟩ := c.ex
  refine ⟨fun pins s σ H Q I h => ?_⟩
  refine PySem.W.methodCall_KW (pl := pl) (thn (he.run pins s σ H _ I h) fun u s1 ⟨x, H1, I1, rx, a, dx, fs, ex, ea, l, q⟩ => ?_) ht
  subst ex
  obtain rfl : u = Value.ref a := rx
  refine getmeth_ok I1 ea c.cls hm l ?_
  refine PySem.W.callWith_K (first := [.ref a]) (h₀ := X.base) I.ok.mod.kin hm.kp (thn (ha.run pos pins s1 σ H1 _ I1 q) fun us s2 ⟨vs, H2, I2, r, q2⟩ => ⟨I2.kIn, ?_⟩) hst hpl
  exact run_fnS (us := .ref a :: us) (vs := .ref a :: vs) F hr hb (hx σ) I2 (.cons rfl r) q2
/-- isinstance(e, c), e the error that the suite holds -/
def tIsE (K : Fg) (cls : Value) (d : Option Addr) (a : Addr) (te : TE) (c : V) : TE := fun σ H Q => ∃ D, cls = .ref D ∧ d = none ∧ ExcC K D ∧ tCB (rIsE K D a) (tCons te (tCons (tC c) tNil)) σ H Q
theorem pe_isE {a : Addr} {oe : Obj} {cls : Value} {d : Option Addr} {pn : List (Addr × Obj)} {te : TE} {c : V} (hz : Zc cls d oe) (hf : ∃ vs, oe.data = .fields vs) (hg : Gl (X.suite a ((a, oe) :: pn)) "isinstance") (hm : X.mg "isinstance" = none)
    (ha : PA (X.suite a ((a, oe) :: pn)) (e :: es) (tCons te (tCons (tC c) tNil)))
    (hst : starEach (e :: es) X.env = (false, eval e X.env) :: starEach es X.env := by rfl) (hpl : (backTo pos (starEach es X.env)).any (·.1) = false := by rfl) :
    PE (X.suite a ((a, oe) :: pn)) (.Call (.Name "isinstance" p) (e :: es) [] pos) (tIsE X.K cls d a te c) := ⟨fun pins s σ H Q I h => by
  obtain ⟨D, h1, h2, hC, h⟩ := h
  subst h1 h2
  exact (pe_callB (X := X.suite a ((a, oe) :: pn)) (call_isE (X := X) hC hz hf) hg hm rfl ha (by decide) (by decide) hst hpl).run pins s σ H Q I h⟩
end
section
variable {K : Fg} {ss ss' : SS} {os os' osp osr : Own} {ta : TA} {te tx : TE} {d x : Dt} {ds : List Dt} {B : Bs} {D : Ends} {t u : TS} {Z : St → Hp → Prop} {W Wout : WX} {C : Addr} {n : Nat} {c : Ct}
theorem ev_isE {D a : Addr} {c : V} {cv : Value} {b : Bool} (hC : ExcC K D) (h : Ev K te ss os (.adr a)) (hc : ClsV c cv) (hk : PySem.W.kitOne K (.ref D) cv = some b) : Ev K (tIsE K (.ref D) none a te c) ss os (.bl b) := fun σ G H R Q q => ⟨D, rfl, rfl, hC, h σ G H R _ fun v G1 H1 q1 e1 r1 => by
  cases r1
  exact ⟨c, cv, b, rfl, fun u hu => hc.eq hu, hk, q _ G1 H1 q1 e1 (.bl _)⟩⟩
/-- an error of the class C leaves the body at this state -/
def XtS (K : Fg) (B : Bs) (W : WX) (C : Addr) (ss : SS) (os : Own) : Prop := ∀ σ G H, BsOk B os G H → Rep K ss os σ G H → W (.ref C) none σ H
theorem Slots.setN {G : Hp} {σ : St} {i : Nat} (h : Slots K G σ ss) : Slots K G (σ.set i none) (ss.set i none) := by
  refine ⟨by rw [List.length_set, List.length_set]; exact h.1, fun j e q => ?_⟩
  by_cases hj : i = j
  · subst hj
    by_cases hl : i < ss.length
    · rw [List.getElem?_set_self hl] at q
      cases q
    · rw [List.getElem?_eq_none (by rw [List.length_set]; omega)] at q
      cases q
  · rw [List.getElem?_set_ne hj] at q
    rw [List.getElem?_set_ne hj]
    exact h.2 j e q
def dropD (i : Nat) (D : Ends) : Ends := { nx := fun σ H => D.nx (σ.set i none) H, rt := D.rt, bk := fun σ H => D.bk (σ.set i none) H, ct := fun σ H => D.ct (σ.set i none) H }
theorem nx_dropD {i : Nat} (h : Nx K B Z (ss.set i none) os) : Nx K B (fun σ H => Z (σ.set i none) H) ss os := fun σ G H b r => h _ G H b ⟨r.gh, r.sl.setN, r.ow⟩
theorem xts_as {cv : Value} {i : Nat} {ts : Addr → Value → Option Addr → TS} (h : PySem.W.exmOne K (.ref C) cv = some true) (k : ∀ a, Do K B (ts a (.ref C) none) (ss.set i (some (.adr a))) os (dropD i D)) : XtS K B (wAs K cv i ts Wout D) C ss os := fun σ G H b r =>
  ⟨true, h, fun _ a _ => k a _ G H b ⟨r.gh, r.sl.set i (.adr a), r.ow⟩, fun z => by cases z⟩
theorem xts_only {cv : Value} {ts : Addr → Value → Option Addr → TS} (h : PySem.W.exmOne K (.ref C) cv = some true) (k : ∀ a, Do K B (ts a (.ref C) none) ss os D) : XtS K B (wOnly K cv ts Wout D) C ss os := fun σ G H b r =>
  ⟨true, h, fun _ a _ => k a _ G H b r, fun z => by cases z⟩
theorem xts_onlyN {cv : Value} {ts : Addr → Value → Option Addr → TS} (h : PySem.W.exmOne K (.ref C) cv = some false) (k : XtS K B Wout C ss os) : XtS K B (wOnly K cv ts Wout D) C ss os := fun σ G H b r =>
  Exists.intro false ⟨h, fun z => Bool.noConfusion z, fun _ => k σ G H b r⟩
theorem Xt.s {E : XK} (h : Xt K B E C os) : XtS K B (fun cls d _ H => E cls d H) C ss os := fun σ G H b r => h G H b r.gh r.ow
/-- an evaluation that may raise: what comes back, by P; what is raised, by P -/
def EvX (K : Fg) (te : TE) (ss : SS) (os : Own) (W : WX) (P : Res → Own → Prop) : Prop := ∀ (B : Bs) σ G H, BsOk B os G H → Rep K ss os σ G H → ∀ Q : VK,
  (∀ d os' v G' H', P (.ok d) os' → Gq (keys os) G H G' H' → Ex G' H' → OwnOk K G' H' os' → (∀ x ∈ os', H x.1 = none ∨ x.1 ∈ keys os) → Rp K G' v d → Q v H') →
  (∀ C os', P (.er C) os' → XtS K B W C ss os') → te σ H Q
theorem ex_call {P : Res → Own → Prop} (ha : EvA K ta ss os ds) (hn : ds.length = n) (hp : os.Perm (osp ++ osr)) (hc : c ds osp P) : EvX K (tCallS (spC K n c) (WE W) ta) ss os W (fun r os' => ∃ os1, P r os1 ∧ os' = os1 ++ osr) := fun B σ G H b R Q q qx => ha σ G H R _ fun vs G1 H1 q1 e1 r1 => by
  have R1 := R.grow q1 e1
  have ow1 := R1.ow.perm hp
  refine ⟨by rw [r1.length, hn], ds, osp, P, G1, e1, r1, ow1.left, hc, ?_⟩
  intro r os1 G2 H2 hP q2 e2 o2 n2
  have q2' : Gq (keys os) G1 H1 G2 H2 := q2.wk fun p m => .inl (keys_sub hp p m)
  cases r with
  | er C => exact qx C _ ⟨os1, hP, rfl⟩ σ G2 H2 ((b.grow q1).growM q2' (new_back hp n2)) ⟨e2, R1.sl.mono q2.ex, ow1.back q2 o2 n2⟩
  | ok d =>
    intro v rv
    exact q d _ v G2 H2 ⟨os1, hP, rfl⟩ ((q1.wk (by simp)).trans q2 fun p m => .inl (keys_sub hp p m)) e2 (ow1.back q2 o2 n2) (fun x m => (new_back hp n2 x m).imp (q1.dom _) id) rv
theorem ex_meth {P : Res → Own → Prop} {Cl : Addr} {m : Str} {ns : List Str} {fs : List Dt} (hx : Ev K tx ss os x) (l : IV os x Cl ns fs) (hm : ¬ m ∈ ns) (ha : EvA K ta ss os ds) (hn : ds.length + 1 = n) (hp : os.Perm (osp ++ osr)) (hc : c (x :: ds) osp P) :
    EvX K (tMethS Cl m (spC K n c) (WE W) tx ta) ss os W (fun r os' => ∃ os1, P r os1 ∧ os' = os1 ++ osr) := fun B σ G H b R Q q qx => hx σ G H R _ fun xv G0 H0 q0 e0 r0 => by
  obtain ⟨a, dx, vs0, rfl, g, rs⟩ := (R.grow q0 e0).ins l r0
  refine ⟨a, dx, _, rfl, g, look_no hm, ha σ G0 H0 (R.grow q0 e0) _ fun vs G1 H1 q1' e1 r1 => ?_⟩
  have q1 := q0.trans q1' (by simp)
  have R1 := R.grow q1 e1
  have ow1 := R1.ow.perm hp
  refine ⟨by rw [List.length_cons, r1.length, hn], x :: ds, osp, P, G1, e1, .cons (r0.mono q1'.ex) r1, ow1.left, hc, ?_⟩
  intro r os1 G2 H2 hP q2 e2 o2 n2
  have q2' : Gq (keys os) G1 H1 G2 H2 := q2.wk fun p m => .inl (keys_sub hp p m)
  cases r with
  | er C => exact qx C _ ⟨os1, hP, rfl⟩ σ G2 H2 ((b.grow q1).growM q2' (new_back hp n2)) ⟨e2, R1.sl.mono q2.ex, ow1.back q2 o2 n2⟩
  | ok d =>
    intro v rv
    exact q d _ v G2 H2 ⟨os1, hP, rfl⟩ ((q1.wk (by simp)).trans q2 fun p m => .inl (keys_sub hp p m)) e2 (ow1.back q2 o2 n2) (fun x m => (new_back hp n2 x m).imp (q1.dom _) id) rv
/-- a call that may raise, one's cells lent, its outcome of thin data -/
theorem ex_callL {P : Res → Own → Prop} {es : List Dt} (ha : EvA K ta ss os ds) (hf : Fms os ds es) (hn : es.length = n) (hc : c es [] P) (ht : ∀ d os', P (.ok d) os' → Thin d ∧ ∀ y ∈ os', ThinC y.2) (hE : ∀ C os', P (.er C) os' → os' = []) :
    EvX K (tCallS (spC K n c) (WE W) ta) ss os W (fun r os' => ∃ os1, P r os1 ∧ os' = os1 ++ os) := fun B σ G H b R Q q qx => ha σ G H R _ fun vs G1 H1 q1 e1 r1 => by
  have R1 := R.grow q1 e1
  have ow1 := R1.ow
  obtain ⟨Gl, l1, l2, lf, lb⟩ := lend ow1 e1
  have r2 := lf hf r1
  refine ⟨by rw [r2.length, hn], es, [], P, Gl, l2, r2, ownOk_nil, hc, ?_⟩
  intro r os1 G2 H2 hP q2 e2 o2 n2
  obtain ⟨G3, q3, e3, tu, no, _, _⟩ := lb G2 H2 q2 e2
  cases r with
  | er C =>
    have e := hE C os1 hP
    subst e
    exact qx C _ ⟨[], hP, rfl⟩ σ G3 H2 ((b.grow q1).grow q3) (R1.grow q3 e3)
  | ok d =>
    intro v rv
    obtain ⟨t1, t2⟩ := ht d os1 hP
    have o3 : OwnOk K G3 H2 os1 := ⟨o2.nd, fun y m => ⟨no _ (o2.at_ y m).1, CelOk.thin tu (t2 y m) (o2.at_ y m).2⟩⟩
    have ob : OwnOk K G3 H2 (os1 ++ os) := OwnOk.back (osp := []) (by simpa using ow1) (by simpa using q3) o3 (by simpa using n2)
    refine q d _ v G3 H2 ⟨os1, hP, rfl⟩ ((q1.trans q3 (by simp)).wk (by simp)) e3 ob (fun y m => ?_) (Rp.thin tu t1 rv)
    rcases List.mem_append.mp m with m | m
    · rcases n2 y m with z | z
      · exact .inl (q1.dom _ z)
      · simp at z
    · exact .inr (mem_keys m)
theorem do_asgX {i : Nat} {P : Res → Own → Prop} (h : EvX K te ss os W P) (k : ∀ d os', P (.ok d) os' → Nx K B D.nx (ss.set i (some d)) os') (kx : ∀ C os', P (.er C) os' → XtS K B W C ss os') : Do K B (tAsg te (gName i)) ss os D := fun σ G H b r =>
  h B σ G H b r _ (fun d os' v G1 H1 hP q1 e1 o1 n1 r1 => k d os' hP _ G1 H1 (b.growM q1 n1) ⟨e1, (r.sl.mono q1.ex).set i r1, o1⟩) kx
theorem do_dropX {P : Res → Own → Prop} (h : EvX K te ss os W P) (k : ∀ d os', P (.ok d) os' → Nx K B D.nx ss os') (kx : ∀ C os', P (.er C) os' → XtS K B W C ss os') : Do K B (tDrop te) ss os D := fun σ G H b r =>
  h B σ G H b r _ (fun d os' v G1 H1 hP q1 e1 o1 n1 r1 => k d os' hP _ G1 H1 (b.growM q1 n1) ⟨e1, r.sl.mono q1.ex, o1⟩) kx
theorem do_retX {P : Res → Own → Prop} (h : EvX K te ss os W P) (k : ∀ d os', P (.ok d) os' → Rt K B D.rt d os') (kx : ∀ C os', P (.er C) os' → XtS K B W C ss os') : Do K B (tRet te) ss os D := fun σ G H b r =>
  h B σ G H b r _ (fun d os' v G1 H1 hP q1 e1 o1 n1 r1 => k d os' hP _ G1 H1 (b.growM q1 n1) e1 o1 r1) kx
end
abbrev tTryAs (K : Fg) (c : Value) (i : Nat) (tb : WX → TS) (ts : Addr → Value → Option Addr → TS) (Wout : WX) : TS := fun D σ H => tb (wAs K c i ts Wout D) D σ H
theorem do_try {K : Fg} {B : Bs} {c : Value} {i : Nat} {tb : WX → TS} {ts : Addr → Value → Option Addr → TS} {Wout : WX} {ss : SS} {os : Own} {D : Ends} (h : Do K B (tb (wAs K c i ts Wout D)) ss os D) : Do K B (tTryAs K c i tb ts Wout) ss os D := h
/-! ### what is known of the errors -/
def ErrO (K : Fg) (D C : Addr) : Option Bool → Prop
  | none => True
  | some b => PySem.W.kitOne K (.ref D) (.ref C) = some b
def errO (K : Fg) (D C : Addr) : Option Bool → Bool
  | none => true
  | some b => decide (PySem.W.kitOne K (.ref D) (.ref C) = some b)
theorem errO_ok {K : Fg} {D C : Addr} {o : Option Bool} (h : errO K D C o = true) : ErrO K D C o := by
  cases o with
  | none => trivial
  | some b =>
    have : PySem.W.kitOne K (.ref D) (.ref C) = some b := of_decide_eq_true h
    exact this
structure ErrF (K : Fg) (D : Addr) (YE BY BD BL BT : Addr) (by_ bd bl bt : Option Bool) : Prop where
  cls : ExcC K D
  ye : PySem.W.exmOne K (.ref D) (.ref YE) = some true
  ve : PySem.W.kitOne K (.ref D) (.type "ValueError") = some true
  by_ : ErrO K D BY by_
  bd : ErrO K D BD bd
  bl : ErrO K D BL bl
  bt : ErrO K D BT bt
def errB (K : Fg) (D : Addr) (YE BY BD BL BT : Addr) (by_ bd bl bt : Option Bool) : Bool :=
  decide (PySem.W.findIn K (.ref D) "__getattribute__" = some (some (.builtin "BaseException.__getattribute__"))) && (decide (PySem.W.findIn K (.ref D) "__getattr__" = some none) && (decide (PySem.W.subIn K (.ref D) (.type "BaseException") = some true) &&
  (PySem.W.hasDictIn K D && (decide (PySem.W.findIn K (.ref D) "__class__" = some (some (.builtin "object.__class__"))) && (decide (PySem.W.specialIn K (.builtin "object.__class__") "__get__" = some (some (.builtin "getset_descriptor.__get__"))) &&
  (decide (PySem.W.takesIn K (.builtin "object.__class__") = some true) && (decide (PySem.W.mroIn K D (.type "object") = some true) && (decide (PySem.W.exmOne K (.ref D) (.ref YE) = some true) && (decide (PySem.W.kitOne K (.ref D) (.type "ValueError") = some true) &&
  (errO K D BY by_ && (errO K D BD bd && (errO K D BL bl && errO K D BT bt))))))))))))
theorem errB_ok {K : Fg} {D YE BY BD BL BT : Addr} {b1 b2 b3 b4 : Option Bool} (h : errB K D YE BY BD BL BT b1 b2 b3 b4 = true) : ErrF K D YE BY BD BL BT b1 b2 b3 b4 := by
  unfold errB at h
  simp only [Bool.and_eq_true, decide_eq_true_eq] at h
  obtain ⟨h1, h2, h3, h4, h5, h6, h7, h8, h9, h10, h11, h12, h13, h14⟩ := h
  exact ⟨⟨h1, h2, h3, h4, h5, h6, h7, h8⟩, h9, h10, errO_ok h11, errO_ok h12, errO_ok h13, errO_ok h14⟩
/-! ### the head, with facts of one's own -/
def hookX (n : Nat) (fa : List He.Fa) (fx : Fg → Bool) (fn : List He.DefD) : PySem.W.Hook where
  α := Bool × He.AlD
  obs := fun s => let K := He.frG s.heap.get? (He.asD s.heap.get? n); (fx K, He.obsD fa fn K)
  val := fun _ => (true, He.valD fn)
  says := fun _ h => ∃ K : PySem.W.Frag, K.In h ∧ (fx K = true ∧ He.SaysD fa fn K)
  of := fun _ _ e => ⟨_, He.frG_in, congrArg (fun z : Bool × He.AlD => z.1) e, congrArg (fun z : Bool × He.AlD => z.2) e⟩
  keeps := fun _ _ _ ⟨K, hK, c⟩ k => ⟨K, PySem.W.Frag.In.keeps hK k, c⟩
def obX (n : Nat) (fa : List He.Fa) (fx : Fg → Bool) (fn : List He.DefD) (g : Addr → Option Obj) : Bool × He.AlD := let K := He.frG g (He.asD g n); (fx K, He.obsD fa fn K)
theorem obX_eq {n : Nat} {fa : List He.Fa} {fx : Fg → Bool} {fn : List He.DefD} {g : Addr → Option Obj} {s : Shared} (h : ∀ a, g a = s.heap.get? a) : obX n fa fx fn g = (hookX n fa fx fn).obs s := by
  have e : g = s.heap.get? := funext h
  rw [e] <;> rfl
end Cy

namespace Cy
open PySem L2
open Evl (Ex Ex.refl Ex.trans Ex.new Ex.mut)
theorem pe_gstr {X : Cx} {x z : Str} {pos : Pos} (hg : Gl X x) (h : ∃ t, X.mg x = some (.str z t)) (hd : (x == ("__debug__" : Str)) = false := by decide) : PE X (.Name x pos) (tC (.str z)) := by
  obtain ⟨t, e⟩ := h
  exact pe_glob hg e ⟨t, rfl⟩ hd
theorem pmk_exN {X : Cx} {C : Addr} {x m : Str} {j : Nat} {p p2 pos : Pos} (F : ExcF X.K X.mg x C) (hg : Gl X x) (hdb : (x == ("__debug__" : Str)) = false := by decide) : L2N.PMk X (.Call (.Name x p) [.Constant (.str m) j p2] [] pos) (fun _ H Q => Q (.ref C) none H) :=
  L2N.pmk_own PySem.F.excBase_ValueError F.exc F.glo F.keep (raises_own F.sub F.ty) hg hdb
theorem passLN {X : Cx} : Passes (L2N.CX X.prog X.w) X E0 := fun _ _ _ _ _ _ _ h => by
  obtain ⟨_, _, _, _, _, _, _, _, _, _, _, _, z⟩ := h
  exact z.elim
/-- try: .. except C: .. (no name) -/
abbrev tTryOn (K : Fg) (c : Value) (tb : WX → TS) (ts : Addr → Value → Option Addr → TS) (Wout : WX) : TS := fun D σ H => tb (wOnly K c ts Wout D) D σ H
theorem do_tryOn {K : Fg} {B : Bs} {c : Value} {tb : WX → TS} {ts : Addr → Value → Option Addr → TS} {Wout : WX} {ss : SS} {os : Own} {D : Ends} (h : Do K B (tb (wOnly K c ts Wout D)) ss os D) : Do K B (tTryOn K c tb ts Wout) ss os D := h
/-! ### C(..) that may raise, inside try -/
def tMakeS (C : Addr) (sp : Sp) (E : St → XK) (t : TA) : TE := fun σ H Q => t σ H fun vs H1 => ∀ x dx, H1 x = none → H1 dx = none → dx ≠ x →
  sp (.ref x :: vs) (upd (upd H1 dx (.own x)) x (.ins C dx [])) (fun v H2 => v = .non ∧ Q (.ref x) H2) (E σ)
section
variable {X : Cx} {CX : CXT} {k : Nat} {C f : Addr} {fd : FuncData} {ps : List Str} {sp : Sp} {E : L2.St → XK} {x : Str} {p pos : Pos} {e : Expr} {es : List Expr} {t : TA}
open PySem.Spec PyProof.Rows in
theorem run_makeS {pins : List (Addr × Obj)} {σ : L2.St} {H : Hp} {s : Shared} {Q : VK} {us : List Value} {vs : List V} (M : Mk X.K C f) (F : FnOk X.prog X.w X.K X.mg X.base CX k f fd ps sp) (hr : Room (k + 1) X.A) (hb : Binds X.K fd ps [])
    (hx : PassesAt CX X σ (E σ)) (I : Inv X pins σ H s) (r : Vals vs us)
    (h : ∀ x dx, H x = none → H dx = none → dx ≠ x → sp (.ref x :: vs) (upd (upd H dx (.own x)) x (.ins C dx [])) (fun v H2 => v = .non ∧ Q (.ref x) H2) (E σ)) :
    wpAny (model X.prog X.w) X.A (call (.ref C) us) (EP X pins σ Q) X.xe s := by
  have hq := h (s.heap.objs.size + 1) s.heap.objs.size (I.hok.fresh (Nat.le_succ _)) (I.hok.fresh (Nat.le_refl _)) (Nat.ne_of_lt (Nat.lt_succ_self _))
  have I2 := Inv.made (C := C) I
  have r2 : Vals (V.ref (s.heap.objs.size + 1) :: vs) (Value.ref (s.heap.objs.size + 1) :: us) := .cons rfl r
  have hl : (Value.ref (s.heap.objs.size + 1) :: us).length = ps.length := by
    have e := r2.length
    rw [F.len _ _ _ _ hq] at e
    exact e.symm
  have b := hb _ (Value.ref (s.heap.objs.size + 1) :: us) I2.kIn (by rw [List.append_nil]; exact hl)
  rw [List.append_nil] at b
  refine wpAny_call (make_map (f := f) I.kIn M.makes M.init (beq_iff_eq.mp M.fn) (codeAny_mono (F.run _ X.stack _ _ ⟨Value.ref (s.heap.objs.size + 1) :: us, []⟩ (Value.ref (s.heap.objs.size + 1) :: us) _ _ (E σ) (hr.make C us [])
    (I2.env0.make C us []) b r2 hq) fun r s' hq' => ?_))
  cases r with
  | error e => exact hx pins _ _ e s' I2 hq'
  | ok fl =>
    cases fl with
    | ret u =>
      obtain ⟨v, H', I3, rv, ev, q3⟩ := I2.after hq'
      subst ev
      exact ⟨rv, ⟨V.ref (s.heap.objs.size + 1), H', I3, rfl, q3⟩⟩
    | next => exact False.elim hq'
    | brk => exact False.elim hq'
    | cont => exact False.elim hq'
open PySem.Spec PyProof.Rows in
theorem pe_makS (c : Mak X.prog X.w X.K X.mg X.base CX x C k ps sp) (hr : Room (k + 1) X.A) (hg : Gl X x) (hx : ∀ σ, PassesAt CX X σ (E σ)) (ha : PA X (e :: es) t) (hdb : (x == ("__debug__" : Str)) = false := by decide)
    (he : starEach (e :: es) X.env = (false, eval e X.env) :: starEach es X.env := by rfl) (hpl : (backTo pos (starEach es X.env)).any (·.1) = false := by rfl) : PE X (.Call (.Name x p) (e :: es) [] pos) (tMakeS C sp E t) := by
  obtain ⟨f, fd, F, M, hb⟩ := c.ex
  refine ⟨fun pins s σ H Q I h => ?_⟩
  refine wpAny_Call_Name_kw (ld_glob I hg c.glo ?_ hdb)
  refine PySem.W.callWith_K (h₀ := X.base) I.ok.mod.kin M.kp (thn (ha.run pos pins s σ H _ I h) fun us s1 ⟨vs, H1, I1, r, q⟩ => ⟨I1.kIn, ?_⟩) he hpl
  exact run_makeS M F hr hb (hx σ) I1 r q
end
section
variable {K : Fg} {ss : SS} {os : Own} {ta : TA} {ds : List Dt} {W : WX} {n : Nat} {c : Ct}
theorem ex_make {P : Addr → Res → Own → Prop} {C : Addr} (ha : EvA K ta ss os ds) (hn : ds.length + 1 = n) (hc : ∀ p, c (.adr p :: ds) [(p, .ins C [] [])] (P p)) (hN : ∀ p d os', P p (.ok d) os' → d = .non) :
    EvX K (tMakeS C (spC K n c) (WE W) ta) ss os W (fun r os' => ∃ p os1, p ∉ keys os ∧ os' = os1 ++ os ∧ ((r = .ok (.adr p) ∧ P p (.ok .non) os1) ∨ ∃ C', r = .er C' ∧ P p (.er C') os1)) := fun B σ G H b R Q q qx => ha σ G H R _ fun vs G1 H1 q1 e1 r1 => by
  intro x dx nx nd ne
  have R1 := R.grow q1 e1
  have ow1 := R1.ow
  obtain ⟨q2, e2⟩ := gq_own (fp := []) (o := .own x) e1 nd
  have nx2 : (upd H1 dx (.own x)) x = none := by rw [upd_ne ne.symm]; exact nx
  obtain ⟨q3, e3⟩ := gq_own (fp := []) (o := .ins C dx []) e2 nx2
  have q23 := q2.trans q3 (by simp)
  have ow3 : OwnOk K G1 _ os := ow1.grow q23
  have gx : G1 x = none := Evl.fresh_back e1 nx
  have np : x ∉ keys os := ow1.ne nx
  refine ⟨by rw [List.length_cons, r1.length, hn], .adr x :: ds, [(x, .ins C [] [])], P x, G1, e3, .cons (.adr x) r1, ⟨by simp, fun y m => ?_⟩, hc x, ?_⟩
  · have e : y = (x, .ins C [] []) := by simpa using m
    subst e
    exact ⟨gx, dx, [], rfl, upd_same, .nil⟩
  · intro r os1 G4 H4 hP q4 e4 o4 n4
    have owA : OwnOk K G1 (upd (upd H1 dx (.own x)) x (.ins C dx [])) ([(x, .ins C [] [])] ++ os) := by
      refine ⟨?_, fun y m => ?_⟩
      · rw [keys, List.map_append]
        exact List.nodup_append.mpr ⟨by simp, ow1.nd, fun a ha b hb z => by
          have : a = x := by simpa using ha
          exact np (this ▸ z ▸ hb)⟩
      · rcases List.mem_append.mp m with m | m
        · have e : y = (x, .ins C [] []) := by simpa using m
          subst e
          exact ⟨gx, dx, [], rfl, upd_same, .nil⟩
        · exact ow3.at_ y m
    have hq : Gq (keys os) G H G4 H4 := (((q1.trans q2 (by simp)).trans q3 (by simp)).wk (by simp)).trans q4 fun p m => by
      have : p = x := by simpa using m
      exact .inr (q1.dom _ (by rw [this]; exact nx))
    have hnw : ∀ y ∈ os1 ++ os, H y.1 = none ∨ y.1 ∈ keys os := fun y m => by
      rcases List.mem_append.mp m with m | m
      · rcases n4 y m with z | z
        · left
          exact q1.dom _ (q2.dom _ (q3.dom _ z))
        · have : y.1 = x := by simpa using z
          exact .inl (q1.dom _ (by rw [this]; exact nx))
      · exact .inr (mem_keys m)
    cases r with
    | er C' => exact qx C' _ ⟨x, os1, np, rfl, .inr ⟨C', rfl, hP⟩⟩ σ G4 H4 (b.growM hq hnw) ⟨e4, R.sl.mono hq.ex, owA.back q4 o4 n4⟩
    | ok d =>
      have ed := hN x d os1 hP
      subst ed
      intro v rv
      cases rv
      exact ⟨rfl, q (.adr x) (os1 ++ os) _ G4 H4 ⟨x, os1, np, rfl, .inl ⟨rfl, hP⟩⟩ hq e4 (owA.back q4 o4 n4) hnw (.adr x)⟩
end
/-- xs.append(f(..)), f a def that may raise -/
theorem do_appX {K : Fg} {ss : SS} {os : Own} {ta : TE} {tA : TA} {ds args : List Dt} {n : Nat} {c : Ct} {B : Bs} {D : Ends} {E : XK} {p : Addr} {P : Res → Own → Prop} (ha : Ev K ta ss os (.adr p)) (m : (p, Cel.lst ds) ∈ os) (hA : EvA K tA ss os args) (hn : args.length = n) (hc : c args [] P) (hP : ∀ r os1, P r os1 → os1 = []) (hz : ds.length < 1000000)
    (k : ∀ d, P (.ok d) [] → Nx K B D.nx ss (setC os p (.lst (ds ++ [d])))) (kx : ∀ C, P (.er C) [] → Xt K B E C os) : Do K B (tDrop (tBM K "list" rAppend ta (tCons (tCall (spC K n c) [] E tA) tNil))) ss os D := fun σ G H b r =>
  ha σ G H r _ fun v G1 H1 q1 e1 r1 => by
    cases r1
    have R1 := r.grow q1 e1
    obtain ⟨_, vs0, h0, _⟩ := R1.ow.at_ _ m
    refine ⟨Or.inl ⟨rfl, vs0, .of h0⟩, hA σ G1 H1 R1 _ fun ws G2 H2 q2 e2 r2 => ?_⟩
    have R2 := R1.grow q2 e2
    have b2 := (b.grow q1).grow q2
    refine ⟨by rw [List.append_nil, r2.length, hn], args, [], P, G2, e2, by rw [List.append_nil]; exact r2, ownOk_nil, hc, ?_⟩
    intro rr os1 G3 H3 hp q3 e3 o3 n3
    have e := hP rr os1 hp
    subst e
    have R3 := R2.grow q3 e3
    cases rr with
    | er C => exact kx C hp G3 H3 (b2.grow q3) e3 R3.ow
    | ok d =>
      intro w rw_
      obtain ⟨gp, vs, h1, rv⟩ := R3.ow.at_ _ m
      refine ⟨p, vs, w, rfl, rfl, h1, by rw [rv.length]; exact szl hz, ?_⟩
      obtain ⟨q4, e4⟩ := gq_put (fp := keys os) (o := .lst (vs ++ [w])) R3.gh gp h1 (mem_keys m)
      refine k d hp σ G3 _ ((b2.grow q3).growM q4 fun x mx => ?_) ⟨e4, R3.sl, R3.ow.put ⟨_, upd_same, rv.append (.one rw_)⟩⟩
      right
      have : x.1 ∈ keys (setC os p (.lst (ds ++ [d]))) := mem_keys mx
      rw [keys_setC] at this
      exact this
end Cy

namespace Cy
open PySem L2
local macro_rules | `(tactic| walk_at "lv") => `(tactic| first | exact LV.lst | exact LV.scr | exact LV.own List.mem_cons_self | exact LV.own (List.mem_cons_of_mem _ List.mem_cons_self) | exact LV.own (List.mem_cons_of_mem _ (List.mem_cons_of_mem _ List.mem_cons_self)) | exact LV.own (List.mem_cons_of_mem _ (List.mem_cons_of_mem _ (List.mem_cons_of_mem _ List.mem_cons_self))))
local macro_rules | `(tactic| walk_at "at") => `(tactic| first | exact at_mapN (by assumption) | exact at_map (by omega) (by assumption) | rfl | exact at_of (by omega) (by assumption))
local macro_rules | `(tactic| walk_at "side") => `(tactic| first | assumption | omega | decide)
local macro_rules | `(tactic| walk_at "ea") => `(tactic| first | exact ea_nil | (apply ea_cons; walk_at "ev"; walk_at "ea"))
local macro_rules | `(tactic| walk_at "et") => `(tactic| first
  | exact et_yes
  | (apply et_B; walk_at "ev")
  | (apply et_T; walk_at "ev")
  | (apply et_not; walk_at "et"))
local macro_rules | `(tactic| walk_at "ev") => `(tactic| first
  | exact ev_var rfl
  | exact ev_cint | exact ev_cbl | exact ev_cstr | exact ev_cnon
  | (apply ev_ii; walk_at "ev"; walk_at "ev")
  | (apply ev_ib; walk_at "ev"; walk_at "ev")
  | (apply ev_eqI; walk_at "ev"; walk_at "ev")
  | (apply ev_neI; walk_at "ev"; walk_at "ev")
  | (apply ev_ixL; walk_at "ev"; walk_at "lv"; walk_at "ev"; walk_at "at")
  | (apply ev_ixT; walk_at "ev"; walk_at "ev"; walk_at "at")
  | (apply ev_len; walk_at "ev"; walk_at "lv")
  | (apply ev_lenT; walk_at "ev")
  | (apply ev_min2; walk_at "ev"; walk_at "ev")
  | (apply ev_max2; walk_at "ev"; walk_at "ev")
  | (apply ev_tup; walk_at "ea"; (first | decide | simp | skip))
  | (apply ev_iC; walk_at "ev"; walk_at "ev"; walk_at "cond")
  | (apply ev_fldI; walk_at "cls"; walk_at "cls"; walk_at "ev"; walk_at "iv"; rfl; rfl; rfl)
  | (apply ev_F; walk_at "ef")
  | walk_at "call")
local macro_rules | `(tactic| walk_at "ef") => `(tactic| first
  | (apply ef_list; walk_at "ev"; walk_at "lv")
  | (apply ef_lst; walk_at "ea"; (first | decide | simp | skip)))
local macro_rules | `(tactic| walk_at "iv") => `(tactic| first | exact IV.ins | exact IV.own List.mem_cons_self | exact IV.own (List.mem_cons_of_mem _ List.mem_cons_self) | exact IV.own (List.mem_cons_of_mem _ (List.mem_cons_of_mem _ List.mem_cons_self)) | exact IV.own (List.mem_cons_of_mem _ (List.mem_cons_of_mem _ (List.mem_cons_of_mem _ List.mem_cons_self))))
local macro_rules | `(tactic| walk_at "cond") => `(tactic| first | exact Or.inr (by decide) | exact Or.inl (by decide) | (exact ⟨by decide, by decide⟩) | (show (0 : Int) < _; first | decide | assumption | omega))
local macro_rules | `(tactic| walk_at "cls") => `(tactic| first | assumption | exact YardF.cls (by assumption) | exact YardF.sizes (by assumption) | exact YardF.held (by assumption))
local macro_rules | `(tactic| walk_at "call") => `(tactic| fail "no call")
/-! a text read -/
def wordsT (l : Str) : List Str := Txt.split l " "
def rowT (l : Str) : Bool := decide ((wordsT l).length = 3) && (decide ((wordsT l).getD 1 "" = "of") && (numOk ((wordsT l).getD 0 "") && numOk ((wordsT l).getD 2 "")))
def linesT (t : Str) : List Str := Txt.split t "\n"
def roomT (l : Str) : Int := numV ((wordsT l).getD 2 "")
def waterT (l : Str) : Int := numV ((wordsT l).getD 0 "")
def textOk (t : Str) : Bool := (linesT t).all rowT && yardOk ((linesT t).map roomT) ((linesT t).map waterT)
theorem rowT_iff {l : Str} : rowT l = true ↔ (wordsT l).length = 3 ∧ (wordsT l).getD 1 "" = "of" ∧ numOk ((wordsT l).getD 0 "") = true ∧ numOk ((wordsT l).getD 2 "") = true := by
  unfold rowT
  simp only [Bool.and_eq_true, decide_eq_true_eq]
def c_read (A : Ad) : Ct := fun ds os P => ∃ t : Str, t.length ≤ 10000 ∧ (linesT t).length ≤ 10001 ∧ (∀ l ∈ linesT t, l.length ≤ 10000 ∧ (wordsT l).length ≤ 10001 ∧ ∀ w ∈ wordsT l, w.length ≤ 10000) ∧ ds = [.str t] ∧ os = [] ∧
  P = fun r os' => if textOk t = true then ∃ p h, h ≠ p ∧ r = .ok (.adr p) ∧ os' = [(p, .ins A.Yard ["sizes", "held"] [iL ((linesT t).map roomT), .adr h]), (h, .lst (((linesT t).map waterT).map Dt.int))] else r = .er A.BadText ∧ os' = []
theorem xt_nil {K : Fg} {B : Bs} {E : XK} {C : Addr} {os : Own} (h : Xt K B E C []) : Xt K B E C os := fun G H b e o => h G H ⟨b.gq, fun x m => by simp at m⟩ e ownOk_nil
theorem at_str {xs : List Str} {i : Nat} (h : i < xs.length) : atI (xs.map Dt.str) (i : Int) = some (.str (xs.getD i "")) := at_mapN (by rw [List.getD_eq_getElem?_getD, List.getElem?_eq_getElem h]; rfl)
theorem getD_memS {xs : List Str} {i : Nat} (h : i < xs.length) : xs.getD i "" ∈ xs := by
  rw [List.getD_eq_getElem?_getD, List.getElem?_eq_getElem h]
  exact List.getElem_mem _
def rd_read (K : Fg) (A : Ad) (E : XK) : TS :=
  tSeq (tAsg (tLst (tNil)) (gName 1)) 
      (tSeq (tAsg (tLst (tNil)) (gName 2)) 
      (tSeq (tFor (iList K (tSplit (tVar 0) (tC (V.str "\n")))) (gName 3) 
        (tSeq (tAsg (tSplit (tVar 3) (tC (V.str " "))) (gName 4)) 
        (tSeq (tIfS (tOr (tTest (tOp (rNe) (tCB (Evl.rLenS K) (tCons (tVar 4) (tNil))) (tC (V.int 3)))) (tTest (tOp (rNe) (tOp (rIxL K) (tVar 4) (tC (V.int 1))) (tC (V.str "of"))))) (tRaise E A.BadText) (tNext)) 
        (tSeq (tDrop (tBM K "list" rAppend (tVar 2) (tCons (tCall (spC K 1 (c_number_of A)) [] E (tCons (tOp (rIxL K) (tVar 4) (tC (V.int 0))) (tNil))) (tNil)))) 
        (tDrop (tBM K "list" rAppend (tVar 1) (tCons (tCall (spC K 1 (c_number_of A)) [] E (tCons (tOp (rIxL K) (tVar 4) (tC (V.int 2))) (tNil))) (tNil)))))))) 
      (tTryOn K (.ref A.BadYard) (fun W => tRet (tMakeS A.Yard (spC K 3 (c_Yard_init A)) (WE W) (tCons (tVar 1) (tCons (tVar 2) (tNil))))) (fun a cls d => tRaise E A.BadText) (fun cls d _ H => E cls d H))))
theorem sem_read {K : Fg} {A : Ad} (by_ : PySem.W.exmOne K (.ref A.BadYard) (.ref A.BadYard) = some true) : ∀ vs H Q E, spC K 1 (c_read A) vs H Q E → rd_read K A E { nx := fun _ H' => Q .non H', rt := Q } (start ["text", "rooms", "waters", "line", "words"] vs) H :=
  body_okX fun ds os P E hl hc B D hfp hR hE hN => by
    obtain ⟨t, ht, hlm, hls, rfl, rfl, rfl⟩ := hc
    have hB : B.fp = [] := hfp
    have bad : ¬ textOk t = true → ∀ {B' os}, B.Le B' → Xt K B' E A.BadText os := fun h B' os le => xt_nil ((hE.up le).xt (by rw [if_neg h]; exact ⟨rfl, rfl⟩))
    refine q_asgM (em_F (ef_lst ea_nil (by decide))) fun d os' hd => ?_
    obtain ⟨pr, _, rfl, rfl⟩ := hd
    refine q_asgM (em_F (ef_lst ea_nil (by decide))) fun d os' hd => ?_
    obtain ⟨pw, npw, rfl, rfl⟩ := hd
    have npw : pw ≠ pr := by simpa using npw
    refine q_forM (xs := linesT t) (f0 := Dt.str) (ev_F (ef_split (ev_var rfl) ev_cstr (by decide +kernel) (by omega))) (fun i ss os => (∃ o3 o4, ss = [some (.str t), some (.adr pr), some (.adr pw), o3, o4]) ∧ (∀ l ∈ (linesT t).take i, rowT l = true) ∧
      os = [(pr, .lst ((((linesT t).take i).map roomT).map Dt.int)), (pw, .lst ((((linesT t).take i).map waterT).map Dt.int))]) ⟨⟨_, _, rfl⟩, by simp, by simp⟩ (fun B1 hB1 i l ss os hz hI => ?_) (fun ss os hI => ?_)
    · obtain ⟨⟨o3, o4, rfl⟩, hrows, rfl⟩ := hI
      have hmem := List.mem_of_getElem? hz
      have hi : i < (linesT t).length := (List.getElem?_eq_some_iff.mp hz).1
      obtain ⟨h1, h2, h3⟩ := hls l hmem
      have badl : ¬ rowT l = true → ¬ textOk t = true := fun h z => by
        unfold textOk at z
        exact h (List.all_eq_true.mp (Bool.and_eq_true_iff.mp z).1 l hmem)
      refine ⟨_, tg_name, ?_⟩
      refine q_asg (d := .lst ((wordsT l).map Dt.str)) (ev_F (ef_split (ev_var rfl) ev_cstr (by decide +kernel) (by omega))) ?_
      by_cases h3w : (wordsT l).length = 3
      · refine q_when (et_or (et_T (ev_neI (ev_len (ev_var rfl) LV.lst) ev_cint)) fun _ => et_T (ev_neS (ev_ixL (ev_var rfl) LV.lst ev_cint (at_str (i := 1) (by omega))) ev_cstr)) (fun hb => do_raise (bad (badl fun h => ?_) hB1)) (fun hb => ?_)
        · obtain ⟨_, h5, _⟩ := rowT_iff.mp h
          rw [List.length_map, h3w, h5] at hb
          simp at hb
        have hof : (wordsT l).getD 1 "" = "of" := by
          rw [List.length_map, h3w] at hb
          simpa [-List.getD_eq_getElem?_getD] using hb
        have hn : ∀ w : Str, w ∈ wordsT l → w.length ≤ 100000 := fun w hw => by have := h3 w hw; omega
        have num : ∀ {d : Dt} {w : Str}, (Res.ok d = if numOk w = true then Res.ok (.int (numV w)) else .er A.BadText) → numOk w = true ∧ d = .int (numV w) := fun {d w} h => by
          by_cases e : numOk w = true
          · rw [if_pos e] at h; cases h; exact ⟨e, rfl⟩
          · rw [if_neg e] at h; cases h
        have numE : ∀ {C : Addr} {w : Str}, (Res.er C = if numOk w = true then Res.ok (.int (numV w)) else .er A.BadText) → ¬ numOk w = true ∧ C = A.BadText := fun {C w} h => by
          by_cases e : numOk w = true
          · rw [if_pos e] at h; cases h
          · rw [if_neg e] at h; cases h; exact ⟨e, rfl⟩
        have hlen : ((linesT t).take i).length ≤ 10001 := by rw [List.length_take]; omega
        refine do_seq (do_appX (ev_var rfl) (List.mem_cons_of_mem _ List.mem_cons_self) (ea_cons (ev_ixL (ev_var rfl) LV.lst ev_cint (at_str (i := 0) (by omega))) ea_nil) rfl ⟨(wordsT l).getD 0 "", hn _ (getD_memS (by omega)), rfl, rfl, rfl⟩ (fun r os1 h => h.2) (by simp; omega) (fun d h => ?_) fun C h => ?_)
        · obtain ⟨hok0, rfl⟩ := num h.1
          rw [setC_snd npw.symm, setC_one]
          refine do_appX (ev_var rfl) List.mem_cons_self (ea_cons (ev_ixL (ev_var rfl) LV.lst ev_cint (at_str (i := 2) (by omega))) ea_nil) rfl ⟨(wordsT l).getD 2 "", hn _ (getD_memS (by omega)), rfl, rfl, rfl⟩ (fun r os1 h => h.2) (by simp; omega) (fun d h => ?_) fun C h => ?_
          · obtain ⟨hok2, rfl⟩ := num h.1
            rw [setC_fst (by simpa using npw.symm)]
            have hrow : rowT l = true := rowT_iff.mpr ⟨h3w, hof, hok0, hok2⟩
            refine nx_at ⟨⟨_, _, rfl⟩, fun l' hl' => ?_, ?_⟩
            · rw [List.take_add_one, hz] at hl'
              rcases List.mem_append.mp hl' with hl' | hl'
              · exact hrows l' hl'
              · have : l' = l := by simpa using hl'
                subst this
                exact hrow
            · rw [List.take_add_one, hz]
              simp [roomT, waterT, -List.getD_eq_getElem?_getD]
          · obtain ⟨hb0, rfl⟩ := numE h.1
            exact bad (badl fun h => hb0 (rowT_iff.mp h).2.2.2) hB1
        · obtain ⟨hb0, rfl⟩ := numE h.1
          exact bad (badl fun h => hb0 (rowT_iff.mp h).2.2.1) hB1
      · refine q_when (et_or (b := false) (et_T (ev_neI (ev_len (ev_var rfl) LV.lst) ev_cint)) fun hb => ?_) (fun hb => do_raise (bad (badl fun h => h3w (rowT_iff.mp h).1) hB1)) (fun hb => ?_)
        · rw [List.length_map] at hb; simp at hb; omega
        · rw [List.length_map] at hb; simp at hb; omega
    · obtain ⟨⟨o3, o4, rfl⟩, hrows, rfl⟩ := hI
      rw [List.take_length] at hrows ⊢
      have hall : (linesT t).all rowT = true := List.all_eq_true.mpr hrows
      have htx : textOk t = yardOk ((linesT t).map roomT) ((linesT t).map waterT) := by unfold textOk; rw [hall, Bool.true_and]
      generalize (linesT t).map roomT = rooms at *
      generalize (linesT t).map waterT = waters at *
      refine do_frzM (osf := [(pr, .lst (rooms.map Dt.int)), (pw, .lst (waters.map Dt.int))]) (os0 := []) (osr := []) (ss' := [some (.str t), some (iL rooms), some (iL waters), none, none]) (List.Perm.refl _) (fun _ _ => by rw [hB]; simp)
        (.cons (.same _) (.cons (.lst List.mem_cons_self) (.cons (.lst (List.mem_cons_of_mem _ List.mem_cons_self)) (.skip (.skip .nil))))) (FmO.refl _) ?_
      refine do_tryOn (do_retX (ex_make (P := fun p r os' => if yardOk rooms waters then r = .ok .non ∧ ∃ h, h ≠ p ∧ os' = [(p, .ins A.Yard ["sizes", "held"] [iL rooms, .adr h]), (h, .lst (waters.map Dt.int))] else r = .er A.BadYard) (ds := [iL rooms, iL waters]) (ea_cons (ev_var rfl) (ea_cons (ev_var rfl) ea_nil)) rfl (fun p => ⟨p, rooms, waters, rfl, rfl, rfl⟩) (fun p d os' h => by
        split at h
        · cases h.1; rfl
        · cases h)) (fun d os' hd => ?_) fun C os' hd => ?_)
      · obtain ⟨p, os1, _, rfl, hd⟩ := hd
        rcases hd with ⟨e, hP⟩ | ⟨C', e, _⟩
        · cases e
          by_cases hy : yardOk rooms waters = true
          · rw [if_pos hy] at hP
            obtain ⟨_, h, nh, rfl⟩ := hP
            refine hR.rt ?_
            rw [if_pos (by rw [htx]; exact hy)]
            exact ⟨p, h, nh, rfl, by simp⟩
          · rw [if_neg hy] at hP; cases hP
        · cases e
      · obtain ⟨p, os1, _, rfl, hd⟩ := hd
        rcases hd with ⟨e, _⟩ | ⟨C', e, hP⟩
        · cases e
        · cases e
          by_cases hy : yardOk rooms waters = true
          · rw [if_pos hy] at hP; cases hP.1
          · rw [if_neg hy] at hP
            cases hP
            exact xts_only by_ fun a => do_raise (bad (by rw [htx]; exact hy) (Bs.Le.refl _))
end Cy

namespace Cy
open PySem L2
open Evl (Ex Ex.refl Ex.trans Ex.new Ex.mut)
section
variable {K : Fg} {ss ss' : SS} {os os' : Own} {ta : TE} {tb te tx : TE} {tA : TA} {d x z : Dt} {ds es : List Dt} {n : Nat} {c : Ct} {E : XK}
/-- a call that lends, one of several values back; what is new of one's own is let go -/
theorem ep_callN {P : Res → Own → Prop} {R : Dt → Prop} (ha : EvA K tA ss os ds) (hf : Fms os ds es) (hn : es.length = n) (hc : c es [] P) (hP : ∀ r os', P r os' → ∃ d, r = .ok d ∧ R d ∧ Thin d) : EvP K (tCall (spC K n c) [] E tA) ss os R := fun σ G H Rr Q q => ha σ G H Rr _ fun vs G1 H1 q1 e1 r1 => by
  have ow1 := Rr.ow.grow q1
  obtain ⟨Gl, l1, l2, lf, lb⟩ := lend ow1 e1
  have r2 := lf hf r1
  refine ⟨by rw [List.append_nil, r2.length, hn], es, [], P, Gl, l2, by rw [List.append_nil]; exact r2, ownOk_nil, hc, ?_⟩
  intro r os1 G2 H2 hp q2 e2 o2 n2
  obtain ⟨d, rfl, hR, ht⟩ := hP r os1 hp
  intro v rv
  obtain ⟨G3, q3, e3, tu, no, _, _⟩ := lb G2 H2 q2 e2
  exact q v d G3 H2 hR (q1.trans q3 (by simp)) e3 (Rp.thin tu ht rv)
end
theorem kit_ss {K : Fg} : PySem.W.kitOne K (.type "str") (.type "str") = some true := by rfl
end Cy

namespace Cy
/-! sums, lines -/
def sumTo (f : Nat → Int) : Nat → Int
  | 0 => 0
  | n + 1 => sumTo f n + f n
theorem sumTo_add (f g : Nat → Int) : ∀ n, sumTo (fun k => f k + g k) n = sumTo f n + sumTo g n
  | 0 => rfl
  | n + 1 => by
    show sumTo (fun k => f k + g k) n + (f n + g n) = sumTo f n + f n + (sumTo g n + g n)
    rw [sumTo_add f g n]; omega
theorem sumTo_congr {f g : Nat → Int} : ∀ {n : Nat}, (∀ k, k < n → f k = g k) → sumTo f n = sumTo g n
  | 0, _ => rfl
  | n + 1, h => by
    show sumTo f n + f n = sumTo g n + g n
    rw [sumTo_congr fun k hk => h k (by omega), h n (by omega)]
theorem sumTo_le {f g : Nat → Int} : ∀ {n : Nat}, (∀ k, k < n → f k ≤ g k) → sumTo f n ≤ sumTo g n
  | 0, _ => Int.le_refl _
  | n + 1, h => by
    show sumTo f n + f n ≤ sumTo g n + g n
    have := sumTo_le (n := n) fun k hk => h k (by omega)
    have := h n (by omega)
    omega
theorem sumTo_zero : ∀ n, sumTo (fun _ => 0) n = 0
  | 0 => rfl
  | n + 1 => by show sumTo (fun _ => 0) n + 0 = 0; rw [sumTo_zero n]; rfl
theorem sumTo_nn {f : Nat → Int} {n : Nat} (h : ∀ k, k < n → 0 ≤ f k) : 0 ≤ sumTo f n := by
  have := sumTo_le (f := fun _ => 0) (g := f) (n := n) h
  rw [sumTo_zero] at this
  exact this
theorem sumTo_mul (c : Int) (f : Nat → Int) : ∀ n, sumTo (fun k => c * f k) n = c * sumTo f n
  | 0 => by show (0 : Int) = c * 0; simp
  | n + 1 => by
    show sumTo (fun k => c * f k) n + c * f n = c * (sumTo f n + f n)
    rw [sumTo_mul c f n, Int.mul_add]
theorem take_sum {xs : List Int} : ∀ {n : Nat}, n ≤ xs.length → (xs.take n).sum = sumTo (fun k => xs.getD k 0) n
  | 0, _ => by simp [sumTo]
  | n + 1, h => by
    rw [L2.sum_take (getD_some (show n < xs.length by omega)), take_sum (n := n) (by omega)]
    rfl
theorem sum_sumTo (xs : List Int) : xs.sum = sumTo (fun k => xs.getD k 0) xs.length := by
  rw [← take_sum (Nat.le_refl _), List.take_length]
theorem sum_range (f : Nat → Int) : ∀ n, ((List.range n).map f).sum = sumTo f n
  | 0 => rfl
  | n + 1 => by rw [sum_map_range, sum_range f n]; rfl
theorem sum_filter (p : Nat → Bool) (f : Nat → Int) : ∀ n, (((List.range n).filter p).map f).sum = sumTo (fun k => if p k = true then f k else 0) n
  | 0 => rfl
  | n + 1 => by
    rw [List.range_succ, List.filter_append, List.map_append, List.sum_append, sum_filter p f n]
    show _ = sumTo _ n + (if p n = true then f n else 0)
    congr 1
    by_cases h : p n = true
    · simp [h]
    · simp [h]
theorem sumTo_cut {f : Nat → Int} {m : Nat} : ∀ {n : Nat}, m ≤ n → (∀ k, m ≤ k → k < n → f k = 0) → sumTo f n = sumTo f m
  | 0, h, _ => by rw [show m = 0 by omega]
  | n + 1, h, hz => by
    by_cases e : m = n + 1
    · rw [e]
    · show sumTo f n + f n = _
      rw [sumTo_cut (n := n) (by omega) fun k h1 h2 => hz k h1 (by omega), hz n (by omega) (by omega)]
      omega
def lineOk (many nd : Nat) (line : List Int) : Bool := decide (line.length = nd) && line.all fun f => decide (0 ≤ f) && decide (f ≤ (many : Int))
theorem lineOk_iff {many nd : Nat} {line : List Int} : lineOk many nd line = true ↔ line.length = nd ∧ ∀ f ∈ line, 0 ≤ f ∧ f ≤ (many : Int) := by simp [lineOk]
def lN (line : List Int) (n : Nat) : Nat := (line.getD n 0).toNat
theorem lN_int {many nd : Nat} {line : List Int} (h : lineOk many nd line = true) {n : Nat} (hn : n < nd) : line.getD n 0 = (lN line n : Int) ∧ lN line n ≤ many := by
  obtain ⟨h1, h2⟩ := lineOk_iff.mp h
  have := h2 _ (getD_mem' (show n < line.length by omega))
  unfold lN
  omega
abbrev rn (days : List Day) (n k : Nat) : Int := (days.getD n ([], [])).1.getD k 0
abbrev ws (days : List Day) (n k : Nat) : Int := (days.getD n ([], [])).2.getD k 0
/-- what falls or lies above: the tank k, the day n, the line's place the day before -/
def abv (rooms held : List Int) (days : List Day) (b n k : Nat) : Int := rn days n k + (if n = 0 then held.getD k 0 else if b ≤ k then rooms.getD k 0 else 0)
def waterAb (rooms held : List Int) (days : List Day) (L : Nat → Nat) (N : Nat) : Int := sumTo (fun n => sumTo (abv rooms held days (L (n - 1)) n) (L n)) N
def wishAb (days : List Day) (L : Nat → Nat) (N : Nat) : Int := sumTo (fun n => sumTo (ws days n) (L n)) N
def stepIn (rooms : List Int) (b f : Int) : Int := (((List.range rooms.length).filter fun (k : Nat) => decide (b ≤ (k : Int)) && decide ((k : Int) < f)).map fun k => rooms.getD k 0).sum
def rainAb (held : List Int) (days : List Day) (n f : Nat) : Int := ((days.getD n ([], [])).1.take f).sum + if n = 0 then (held.take f).sum else 0
theorem stepIn_eq {rooms : List Int} {b f : Nat} (h : f ≤ rooms.length) : stepIn rooms b f = sumTo (fun k => if b ≤ k then rooms.getD k 0 else 0) f := by
  unfold stepIn
  rw [sum_filter, sumTo_cut h fun k h1 h2 => by rw [if_neg]; simp; omega]
  refine sumTo_congr fun k hk => ?_
  by_cases e : b ≤ k
  · rw [if_pos e, if_pos (by simp; omega)]
  · rw [if_neg e, if_neg (by simp; omega)]
theorem rainAb_zero {rooms held : List Int} {days : List Day} {b f : Nat} (hr : (days.getD 0 ([], [])).1.length = rooms.length) (hh : held.length = rooms.length) (h : f ≤ rooms.length) : rainAb held days 0 f = sumTo (abv rooms held days b 0) f := by
  unfold rainAb
  rw [if_pos rfl, take_sum (by omega), take_sum (by omega), ← sumTo_add]
  rfl
theorem rainAb_succ {rooms held : List Int} {days : List Day} {b f n : Nat} (hn : n ≠ 0) (hr : (days.getD n ([], [])).1.length = rooms.length) (h : f ≤ rooms.length) : rainAb held days n f + stepIn rooms b f = sumTo (abv rooms held days b n) f := by
  unfold rainAb
  rw [if_neg hn, take_sum (by omega), stepIn_eq h, Int.add_zero, ← sumTo_add]
  refine sumTo_congr fun k hk => ?_
  unfold abv
  rw [if_neg hn]
end Cy

namespace Cy
/-! the least line -/
section
variable (rooms held : List Int) (days : List Day) (top under : Int)
def stepC (n b f : Nat) : Int := under * sumTo (abv rooms held days b n) f - top * sumTo (ws days n) f
def cost (L : Nat → Nat) (N : Nat) : Int := sumTo (fun n => stepC rooms held days top under n (L (n - 1)) (L n)) N
theorem cost_eq (L : Nat → Nat) (N : Nat) : cost rooms held days top under L N = under * waterAb rooms held days L N - top * wishAb days L N := by
  unfold cost waterAb wishAb
  rw [← sumTo_mul, ← sumTo_mul]
  have : ∀ n, sumTo (fun n => stepC rooms held days top under n (L (n - 1)) (L n)) n + sumTo (fun n => top * sumTo (ws days n) (L n)) n = sumTo (fun n => under * sumTo (abv rooms held days (L (n - 1)) n) (L n)) n := fun n => by
    rw [← sumTo_add]
    refine sumTo_congr fun k _ => ?_
    unfold stepC
    omega
  have := this N
  omega
/-- the best line of n days that ends at f -/
structure El (n f : Nat) (w : Int × List Int) : Prop where
  ok : lineOk rooms.length n w.2 = true
  end_ : lN w.2 (n - 1) = f
  worth : w.1 = cost rooms held days top under (lN w.2) n
  least : ∀ L : Nat → Nat, (∀ i, i < n → L i ≤ rooms.length) → L (n - 1) = f → w.1 ≤ cost rooms held days top under L n
end
section
variable {rooms held : List Int} {days : List Day} {top under : Int}
theorem cost_congr {L M : Nat → Nat} {N : Nat} (h : ∀ i, i < N → L i = M i) : cost rooms held days top under L N = cost rooms held days top under M N := by
  unfold cost
  refine sumTo_congr fun n hn => ?_
  rw [h n hn, h (n - 1) (by omega)]
theorem lN_snoc {l : List Int} {f : Nat} {i : Nat} (h : i < l.length) : lN (l ++ [(f : Int)]) i = lN l i := by
  unfold lN
  rw [getD_snoc, if_neg (by omega)]
theorem lN_last {l : List Int} {f : Nat} : lN (l ++ [(f : Int)]) l.length = f := by
  unfold lN
  rw [getD_snoc, if_pos rfl]
  exact Int.toNat_natCast f
theorem lineOk_snoc {m n : Nat} {l : List Int} {f : Nat} (h : lineOk m n l = true) (hf : f ≤ m) : lineOk m (n + 1) (l ++ [(f : Int)]) = true := by
  obtain ⟨h1, h2⟩ := lineOk_iff.mp h
  refine lineOk_iff.mpr ⟨by simp [h1], fun x hx => ?_⟩
  rcases List.mem_append.mp hx with hx | hx
  · exact h2 x hx
  · have : x = (f : Int) := by simpa using hx
    omega
theorem El.first {f : Nat} (hf : f ≤ rooms.length) (hr : (days.getD 0 ([], [])).1.length = rooms.length) (hw : (days.getD 0 ([], [])).2.length = rooms.length) (hh : held.length = rooms.length) :
    El rooms held days top under 1 f (under * rainAb held days 0 f - top * ((days.getD 0 ([], [])).2.take f).sum, [(f : Int)]) := by
  have e : ∀ b, under * rainAb held days 0 f - top * ((days.getD 0 ([], [])).2.take f).sum = stepC rooms held days top under 0 b f := fun b => by
    unfold stepC
    rw [rainAb_zero (b := b) hr hh hf, take_sum (by omega)]
  have l0 : lN [(f : Int)] 0 = f := by unfold lN; simp
  refine ⟨lineOk_snoc (l := []) (n := 0) (lineOk_iff.mpr ⟨rfl, by simp⟩) hf, l0, ?_, fun L hL hf2 => ?_⟩
  · show _ = 0 + stepC rooms held days top under 0 (lN [(f : Int)] (0 - 1)) (lN [(f : Int)] 0)
    rw [l0, ← e]
    exact (Int.zero_add _).symm
  · show _ ≤ 0 + stepC rooms held days top under 0 (L (0 - 1)) (L 0)
    have hf2 : L 0 = f := hf2
    rw [hf2, ← e]
    exact Int.le_of_eq (Int.zero_add _).symm
theorem El.step {n f k0 : Nat} {cs : List (Int × List Int)} {wls : List (Int × List Int)} {m : Int × List Int} (hn : 0 < n) (hf : f ≤ rooms.length) (hr : (days.getD n ([], [])).1.length = rooms.length) (hw : (days.getD n ([], [])).2.length = rooms.length)
    (hB : ∀ k, k ≤ rooms.length → El rooms held days top under n k (wls.getD k (0, [])))
    (hk0 : k0 ≤ rooms.length) (hm : m = ((wls.getD k0 (0, [])).1 + under * stepIn rooms k0 f, (wls.getD k0 (0, [])).2))
    (hmin : ∀ k, k ≤ rooms.length → m.1 ≤ (wls.getD k (0, [])).1 + under * stepIn rooms k f) :
    El rooms held days top under (n + 1) f (under * rainAb held days n f - top * ((days.getD n ([], [])).2.take f).sum + m.1, m.2 ++ [(f : Int)]) := by
  have e : ∀ b : Nat, under * rainAb held days n f - top * ((days.getD n ([], [])).2.take f).sum + under * stepIn rooms b f = stepC rooms held days top under n b f := fun b => by
    have ew : ((days.getD n ([], [])).2.take f).sum = sumTo (ws days n) f := take_sum (by omega)
    unfold stepC
    rw [← rainAb_succ (rooms := rooms) (b := b) (by omega) hr hf, ew, Int.mul_add]
    omega
  have E0 := hB k0 hk0
  have hl : m.2.length = n := by rw [hm]; exact (lineOk_iff.mp E0.ok).1
  have e2 : m.2 = (wls.getD k0 (0, [])).2 := by rw [hm]
  refine ⟨lineOk_snoc (by rw [e2]; exact E0.ok) hf, ?_, ?_, fun L hL hf2 => ?_⟩
  · show lN (m.2 ++ [(f : Int)]) n = f
    rw [← hl]; exact lN_last
  · show _ = cost rooms held days top under (lN (m.2 ++ [(f : Int)])) n + stepC rooms held days top under n (lN (m.2 ++ [(f : Int)]) (n - 1)) (lN (m.2 ++ [(f : Int)]) n)
    rw [cost_congr (M := lN m.2) fun i hi => lN_snoc (by omega), lN_snoc (by omega)]
    have e3 : lN (m.2 ++ [(f : Int)]) n = f := by rw [← hl]; exact lN_last
    rw [e3, e2, E0.end_, ← E0.worth, ← e k0]
    have e4 : m.1 = (wls.getD k0 (0, [])).1 + under * stepIn rooms k0 f := by rw [hm]
    show under * rainAb held days n f - top * ((days.getD n ([], [])).2.take f).sum + m.1 = _
    rw [e4]
    omega
  · have hf2 : L n = f := hf2
    show under * rainAb held days n f - top * ((days.getD n ([], [])).2.take f).sum + m.1 ≤ cost rooms held days top under L n + stepC rooms held days top under n (L (n - 1)) (L n)
    have hk := hL (n - 1) (by omega)
    have h1 := (hB (L (n - 1)) hk).least L (fun i hi => hL i (by omega)) rfl
    have h2 := hmin (L (n - 1)) hk
    rw [hf2, ← e (L (n - 1))]
    omega
/-- what a least line is -/
structure Least (rooms held : List Int) (days : List Day) (top under : Int) (line : List Int) : Prop where
  ok : lineOk rooms.length days.length line = true
  least : ∀ L : Nat → Nat, (∀ i, i < days.length → L i ≤ rooms.length) → cost rooms held days top under (lN line) days.length ≤ cost rooms held days top under L days.length
theorem El.last {wls : List (Int × List Int)} {k0 : Nat} {m : Int × List Int} (hn : 0 < days.length) (hB : ∀ k, k ≤ rooms.length → El rooms held days top under days.length k (wls.getD k (0, []))) (hk0 : k0 ≤ rooms.length) (hm : m = wls.getD k0 (0, [])) (hmin : ∀ k, k ≤ rooms.length → m.1 ≤ (wls.getD k (0, [])).1) :
    Least rooms held days top under m.2 := by
  have E0 := hB k0 hk0
  rw [← hm] at E0
  refine ⟨E0.ok, fun L hL => ?_⟩
  rw [← E0.worth]
  have hk := hL (days.length - 1) (by omega)
  have h1 := (hB _ hk).least L hL rfl
  have h2 := hmin _ hk
  omega
end
end Cy

namespace Cy
/-! plans and lines -/
def totW (days : List Day) : Int := (days.map fun d => d.2.sum).sum
def lineV (rooms held : List Int) (days : List Day) (L : Nat → Nat) : Int := waterAb rooms held days L days.length + totW days - wishAb days L days.length
/-- v is what most tells -/
def IsMost (rooms held : List Int) (days : List Day) (v : Int) : Prop := ∃ line, Least rooms held days 1 1 line ∧ v = lineV rooms held days (lN line)
theorem lineV_cost (rooms held : List Int) (days : List Day) (L : Nat → Nat) : lineV rooms held days L = cost rooms held days 1 1 L days.length + totW days := by
  rw [cost_eq]
  unfold lineV
  omega
theorem IsMost.le {rooms held : List Int} {days : List Day} {v : Int} (h : IsMost rooms held days v) {L : Nat → Nat} (hL : ∀ i, i < days.length → L i ≤ rooms.length) : v ≤ lineV rooms held days L := by
  obtain ⟨line, hl, rfl⟩ := h
  rw [lineV_cost, lineV_cost]
  have := hl.least L hL
  omega
theorem Least.le {rooms held : List Int} {days : List Day} {top under : Int} {line : List Int} (h : Least rooms held days top under line) : ∀ i, i < days.length → lN line i ≤ rooms.length := fun i hi => (lN_int h.ok hi).2
theorem IsMost.unique {rooms held : List Int} {days : List Day} {v w : Int} (h : IsMost rooms held days v) (h2 : IsMost rooms held days w) : v = w := by
  obtain ⟨line, hl, e⟩ := id h
  obtain ⟨line2, hl2, e2⟩ := id h2
  have a := h.le hl2.le
  have b := h2.le hl.le
  omega
theorem days_sum (f : Day → Int) : ∀ days : List Day, (days.map f).sum = sumTo (fun n => f (days.getD n ([], []))) days.length := fun days => by
  rw [sum_sumTo, List.length_map]
  refine sumTo_congr fun k hk => ?_
  rw [List.getD_eq_getElem?_getD, List.getElem?_map, getDay hk]
  rfl
theorem totW_eq {rooms held : List Int} {days : List Day} (hr : ∀ n, n < days.length → (days.getD n ([], [])).2.length = rooms.length) : totW days = sumTo (fun n => sumTo (ws days n) rooms.length) days.length := by
  unfold totW
  rw [days_sum]
  refine sumTo_congr fun n hn => ?_
  rw [sum_sumTo, hr n hn]
/-- what is drawn above a line -/
def drawAb (plan : List Day) (L : Nat → Nat) (N : Nat) : Int := sumTo (fun n => sumTo (fun k => (plan.getD n ([], [])).1.getD k 0) (L n)) N
theorem over_sum {held rain dr kp : List Int} : ∀ f, sumTo (fun k => dr.getD k 0) f + sumTo (fun k => kp.getD k 0) f + overAt held rain dr kp f = sumTo (fun k => held.getD k 0) f + sumTo (fun k => rain.getD k 0) f
  | 0 => rfl
  | f + 1 => by
    have ih := over_sum (held := held) (rain := rain) (dr := dr) (kp := kp) f
    show sumTo (fun k => dr.getD k 0) f + dr.getD f 0 + (sumTo (fun k => kp.getD k 0) f + kp.getD f 0) + (held.getD f 0 + rain.getD f 0 + overAt held rain dr kp f - dr.getD f 0 - kp.getD f 0) = sumTo (fun k => held.getD k 0) f + held.getD f 0 + (sumTo (fun k => rain.getD k 0) f + rain.getD f 0)
    omega
theorem over_nn {rooms held : List Int} {day p : Day} (h : dayHolds rooms held day p = true) : ∀ f, f ≤ held.length → 0 ≤ overAt held day.1 p.1 p.2 f
  | 0, _ => Int.le_refl _
  | f + 1, hf => (tankOk_iff.mp ((dayHolds_iff.mp h).2.2 f (by omega))).2.2.1
theorem split_le {g r : Nat → Int} {b : Nat} : ∀ {f : Nat}, (∀ k, k < f → 0 ≤ g k ∧ g k ≤ r k) → (∀ k, k < b → 0 ≤ g k) → sumTo g f ≤ sumTo g b + sumTo (fun k => if b ≤ k then r k else 0) f
  | 0, _, h2 => by
    have := sumTo_nn h2
    show (0 : Int) ≤ sumTo g b + 0
    omega
  | f + 1, h1, h2 => by
    have ih := split_le (f := f) (fun k hk => h1 k (by omega)) h2
    have := h1 f (by omega)
    show sumTo g f + g f ≤ sumTo g b + (sumTo (fun k => if b ≤ k then r k else 0) f + if b ≤ f then r f else 0)
    by_cases e : b ≤ f
    · rw [if_pos e]; omega
    · rw [if_neg e]
      -- f + 1 ≤ b
      have h3 : sumTo g (f + 1) ≤ sumTo g b := by
        have : ∀ m, f + 1 ≤ m → m ≤ b → sumTo g (f + 1) ≤ sumTo g m := fun m => by
          induction m with
          | zero => intro h; omega
          | succ m ihm =>
            intro h hm
            by_cases q : f + 1 = m + 1
            · rw [q]; exact Int.le_refl _
            · have := ihm (by omega) (by omega)
              have := h2 m (by omega)
              show _ ≤ sumTo g m + g m
              omega
        exact this b (by omega) (Nat.le_refl _)
      have h4 : sumTo (fun k => if b ≤ k then r k else 0) f = 0 := by
        rw [sumTo_congr (g := fun _ => 0) fun k hk => by rw [if_neg (by omega)], sumTo_zero]
      rw [h4]
      have h5 : sumTo g (f + 1) = sumTo g f + g f := rfl
      omega
/-- no plan draws more above a line than water can come there -/
theorem drawAb_le {rooms held : List Int} {days plan : List Day} (hh : held.length = rooms.length) (hp : holdsB rooms held days plan = true) {L : Nat → Nat} : ∀ N, N ≤ days.length → (∀ i, i < N → L i ≤ rooms.length) →
    drawAb plan L N + (if N = 0 then 0 else sumTo (fun k => (plan.getD (N - 1) ([], [])).2.getD k 0) (L (N - 1))) ≤ waterAb rooms held days L N
  | 0, _, _ => Int.le_refl _
  | n + 1, hN, hL => by
    have ih := drawAb_le hh hp (L := L) n (by omega) fun i hi => hL i (by omega)
    have hd := (holdsB_iff.mp hp).2 n (by omega)
    have hf := hL n (by omega)
    have hheld : (heldAt held plan n).length = rooms.length := by
      cases n with
      | zero => exact hh
      | succ m =>
        have : ∀ j, j < days.length → (plan.getD j ([], [])).2.length = rooms.length := fun j => by
          induction j with
          | zero => intro hj; exact ((dayHolds_iff.mp ((holdsB_iff.mp hp).2 0 hj)).2.1).trans hh
          | succ j ihj => intro hj; exact ((dayHolds_iff.mp ((holdsB_iff.mp hp).2 (j + 1) hj)).2.1).trans (ihj (by omega))
        exact this m (by omega)
    have hsum := over_sum (held := heldAt held plan n) (rain := (days.getD n ([], [])).1) (dr := (plan.getD n ([], [])).1) (kp := (plan.getD n ([], [])).2) (L n)
    have hov := over_nn hd (L n) (by omega)
    rw [if_neg (by omega)]
    show drawAb plan L n + sumTo (fun k => (plan.getD n ([], [])).1.getD k 0) (L n) + sumTo (fun k => (plan.getD (n + 1 - 1) ([], [])).2.getD k 0) (L (n + 1 - 1)) ≤ waterAb rooms held days L n + sumTo (abv rooms held days (L (n - 1)) n) (L n)
    rw [show n + 1 - 1 = n by omega]
    have key : sumTo (fun k => (heldAt held plan n).getD k 0) (L n) + sumTo (fun k => (days.getD n ([], [])).1.getD k 0) (L n) ≤ (if n = 0 then 0 else sumTo (fun k => (plan.getD (n - 1) ([], [])).2.getD k 0) (L (n - 1))) + sumTo (abv rooms held days (L (n - 1)) n) (L n) := by
      cases n with
      | zero =>
        rw [if_pos rfl]
        have e : sumTo (abv rooms held days (L (0 - 1)) 0) (L 0) = sumTo (fun k => (days.getD 0 ([], [])).1.getD k 0) (L 0) + sumTo (fun k => held.getD k 0) (L 0) := by
          rw [← sumTo_add]; rfl
        rw [e]
        show sumTo (fun k => held.getD k 0) (L 0) + _ ≤ _
        omega
      | succ m =>
        rw [if_neg (by omega), show m + 1 - 1 = m by omega]
        have e : sumTo (abv rooms held days (L m) (m + 1)) (L (m + 1)) = sumTo (fun k => (days.getD (m + 1) ([], [])).1.getD k 0) (L (m + 1)) + sumTo (fun k => if L m ≤ k then rooms.getD k 0 else 0) (L (m + 1)) := by
          rw [← sumTo_add]
          refine sumTo_congr fun k _ => ?_
          unfold abv
          rw [if_neg (by omega)]
        have hpm := (holdsB_iff.mp hp).2 m (by omega)
        have hheldm : (heldAt held plan m).length = rooms.length := by
          have : ∀ j, j ≤ m → (heldAt held plan j).length = rooms.length := fun j => by
            induction j with
            | zero => intro _; exact hh
            | succ j ihj => intro hj; exact ((dayHolds_iff.mp ((holdsB_iff.mp hp).2 j (by omega))).2.1).trans (ihj (by omega))
          exact this m (Nat.le_refl _)
        have tk : ∀ k, k < rooms.length → 0 ≤ (plan.getD m ([], [])).2.getD k 0 ∧ (plan.getD m ([], [])).2.getD k 0 ≤ rooms.getD k 0 := fun k hk => by
          have := tankOk_iff.mp ((dayHolds_iff.mp hpm).2.2 k (by omega))
          exact ⟨this.2.1, this.2.2.2.2⟩
        have hb := hL m (by omega)
        have := split_le (g := fun k => (plan.getD m ([], [])).2.getD k 0) (r := fun k => rooms.getD k 0) (b := L m) (f := L (m + 1)) (fun k hk => tk k (by omega)) (fun k hk => (tk k (by omega)).1)
        rw [e]
        show sumTo (fun k => (plan.getD m ([], [])).2.getD k 0) (L (m + 1)) + _ ≤ _
        omega
    omega
theorem drawAb_water {rooms held : List Int} {days plan : List Day} (hh : held.length = rooms.length) (hp : holdsB rooms held days plan = true) {L : Nat → Nat} (hL : ∀ i, i < days.length → L i ≤ rooms.length) : drawAb plan L days.length ≤ waterAb rooms held days L days.length := by
  have h := drawAb_le hh hp days.length (Nat.le_refl _) hL
  by_cases e : days.length = 0
  · rw [if_pos e] at h; omega
  · rw [if_neg e] at h
    have hheld : ∀ j, j < days.length → (plan.getD j ([], [])).2.length = rooms.length := fun j => by
      induction j with
      | zero => intro hj; exact ((dayHolds_iff.mp ((holdsB_iff.mp hp).2 0 hj)).2.1).trans hh
      | succ j ihj => intro hj; exact ((dayHolds_iff.mp ((holdsB_iff.mp hp).2 (j + 1) hj)).2.1).trans (ihj (by omega))
    have hn : 0 ≤ sumTo (fun k => (plan.getD (days.length - 1) ([], [])).2.getD k 0) (L (days.length - 1)) := sumTo_nn fun k hk => by
      have h1 := (holdsB_iff.mp hp).2 (days.length - 1) (by omega)
      have h2 := hL (days.length - 1) (by omega)
      have h3 : (heldAt held plan (days.length - 1)).length = rooms.length := by
        rw [← hheld (days.length - 1) (by omega), (dayHolds_iff.mp h1).2.1]
      exact (tankOk_iff.mp ((dayHolds_iff.mp h1).2.2 k (by omega))).2.1
    omega
theorem plan_lens {rooms held : List Int} {days plan : List Day} (hh : held.length = rooms.length) (hp : holdsB rooms held days plan = true) : ∀ n, n ≤ days.length → (heldAt held plan n).length = rooms.length
  | 0, _ => hh
  | n + 1, h => ((dayHolds_iff.mp ((holdsB_iff.mp hp).2 n (by omega))).2.1).trans (plan_lens hh hp n (by omega))
theorem tank_of {rooms held : List Int} {days plan : List Day} (hh : held.length = rooms.length) (hp : holdsB rooms held days plan = true) {n k : Nat} (hn : n < days.length) (hk : k < rooms.length) : tankOk rooms (heldAt held plan n) (days.getD n ([], [])) (plan.getD n ([], [])) k = true :=
  (dayHolds_iff.mp ((holdsB_iff.mp hp).2 n hn)).2.2 k (by rw [plan_lens hh hp n (by omega)]; exact hk)
theorem drawnBy_eq {rooms held : List Int} {days plan : List Day} (hh : held.length = rooms.length) (hp : holdsB rooms held days plan = true) : drawnBy plan = sumTo (fun n => sumTo (fun k => (plan.getD n ([], [])).1.getD k 0) rooms.length) days.length := by
  unfold drawnBy
  rw [days_sum, (holdsB_iff.mp hp).1]
  refine sumTo_congr fun n hn => ?_
  rw [sum_sumTo, (dayHolds_iff.mp ((holdsB_iff.mp hp).2 n hn)).1, plan_lens hh hp n (by omega)]
theorem sumTo_split (f : Nat → Int) {m n : Nat} (h : m ≤ n) : sumTo f n = sumTo f m + sumTo (fun k => if m ≤ k then f k else 0) n := by
  induction n with
  | zero => rw [show m = 0 by omega]; rfl
  | succ n ih =>
    show sumTo f n + f n = sumTo f m + (sumTo (fun k => if m ≤ k then f k else 0) n + if m ≤ n then f n else 0)
    by_cases e : m = n + 1
    · rw [if_neg (by omega), sumTo_congr (f := fun k => if m ≤ k then f k else 0) (g := fun _ => 0) fun k hk => by rw [if_neg (by omega)], sumTo_zero, e]
      show sumTo f n + f n = sumTo f n + f n + _
      omega
    · rw [if_pos (by omega), ih (by omega)]
      omega
/-- no plan draws more than a line's number -/
theorem drawn_le {rooms held : List Int} {days plan : List Day} (hh : held.length = rooms.length) (hr : ∀ n, n < days.length → (days.getD n ([], [])).2.length = rooms.length) (hp : holdsB rooms held days plan = true) {L : Nat → Nat} (hL : ∀ i, i < days.length → L i ≤ rooms.length) : drawnBy plan ≤ lineV rooms held days L := by
  rw [drawnBy_eq hh hp]
  have h1 := drawAb_water hh hp hL
  unfold lineV
  rw [totW_eq (held := held) hr]
  unfold wishAb
  unfold drawAb at h1
  have h2 : sumTo (fun n => sumTo (fun k => (plan.getD n ([], [])).1.getD k 0) rooms.length) days.length + sumTo (fun n => sumTo (ws days n) (L n)) days.length ≤ sumTo (fun n => sumTo (fun k => (plan.getD n ([], [])).1.getD k 0) (L n)) days.length + sumTo (fun n => sumTo (ws days n) rooms.length) days.length := by
    rw [← sumTo_add, ← sumTo_add]
    refine sumTo_le fun n hn => ?_
    rw [sumTo_split (fun k => (plan.getD n ([], [])).1.getD k 0) (hL n hn), sumTo_split (ws days n) (hL n hn)]
    have : sumTo (fun k => if L n ≤ k then (plan.getD n ([], [])).1.getD k 0 else 0) rooms.length ≤ sumTo (fun k => if L n ≤ k then ws days n k else 0) rooms.length := sumTo_le fun k hk => by
      by_cases e : L n ≤ k
      · rw [if_pos e, if_pos e]
        exact (tankOk_iff.mp (tank_of hh hp hn hk)).2.2.2.1
      · rw [if_neg e, if_neg e]; exact Int.le_refl _
    omega
  omega
theorem IsMost.total {rooms held : List Int} {days : List Day} {v : Int} (h : IsMost rooms held days v) : v ≤ totW days := by
  have := h.le (L := fun _ => 0) fun _ _ => Nat.zero_le _
  have e1 : waterAb rooms held days (fun _ => 0) days.length = 0 := by
    exact (sumTo_congr (f := fun n => sumTo (abv rooms held days 0 n) 0) (g := fun _ => 0) fun n _ => rfl).trans (sumTo_zero _)
  have e2 : wishAb days (fun _ => 0) days.length = 0 := by
    exact (sumTo_congr (f := fun n => sumTo (ws days n) 0) (g := fun _ => 0) fun n _ => rfl).trans (sumTo_zero _)
  unfold lineV at this
  omega
end Cy

namespace Cy
/-! shares -/
theorem sumTo_const_le {f : Nat → Int} {c : Int} : ∀ {n : Nat}, (∀ k, k < n → f k ≤ c) → sumTo f n ≤ c * n
  | 0, _ => by simp [sumTo]
  | n + 1, h => by
    have ih := sumTo_const_le (n := n) fun k hk => h k (by omega)
    have := h n (by omega)
    show sumTo f n + f n ≤ c * ((n + 1 : Nat) : Int)
    have e : c * ((n + 1 : Nat) : Int) = c * n + c := by
      rw [Int.natCast_add, Int.mul_add]; simp
    omega
section
variable {rooms held : List Int} {days : List Day}
theorem ws_at (hd : daysOk rooms.length days = true) {n k : Nat} (hn : n < days.length) (hk : k < rooms.length) : 0 ≤ ws days n k ∧ ws days n k ≤ 30 :=
  lOk_at (dayOk_iff.mp ((daysOk_iff.mp hd).2 _ (List.mem_of_getElem? (getDay hn)))).2 hk
theorem rn_at (hd : daysOk rooms.length days = true) {n k : Nat} (hn : n < days.length) (hk : k < rooms.length) : 0 ≤ rn days n k ∧ rn days n k ≤ 30 :=
  lOk_at (dayOk_iff.mp ((daysOk_iff.mp hd).2 _ (List.mem_of_getElem? (getDay hn)))).1 hk
theorem wishAb_nn (hd : daysOk rooms.length days = true) {L : Nat → Nat} (hL : ∀ i, i < days.length → L i ≤ rooms.length) : 0 ≤ wishAb days L days.length :=
  sumTo_nn fun n hn => sumTo_nn fun k hk => (ws_at hd hn (by have := hL n hn; omega)).1
theorem wishAb_le (hd : daysOk rooms.length days = true) (h4 : rooms.length ≤ 4) {L : Nat → Nat} (hL : ∀ i, i < days.length → L i ≤ rooms.length) : wishAb days L days.length ≤ 960 := by
  have h8 := (daysOk_iff.mp hd).1
  have : wishAb days L days.length ≤ 120 * (days.length : Int) := sumTo_const_le fun n hn => by
    have hb : sumTo (ws days n) (L n) ≤ 30 * (L n : Int) := sumTo_const_le fun k hk => (ws_at hd hn (by have := hL n hn; omega)).2
    have := hL n hn
    omega
  omega
theorem waterAb_nn (Y : YardWf rooms held) (hd : daysOk rooms.length days = true) {L : Nat → Nat} (hL : ∀ i, i < days.length → L i ≤ rooms.length) : 0 ≤ waterAb rooms held days L days.length :=
  sumTo_nn fun n hn => sumTo_nn fun k hk => by
    have hk2 : k < rooms.length := by have := hL n hn; omega
    have h1 := (rn_at hd hn hk2).1
    have h2 := (Y.water k hk2).1
    have h3 := (Y.room k hk2).1
    unfold abv
    split
    · omega
    · split <;> omega
theorem wishAb_tot (hd : daysOk rooms.length days = true) {L : Nat → Nat} (hL : ∀ i, i < days.length → L i ≤ rooms.length) : wishAb days L days.length ≤ totW days := by
  rw [totW_eq (rooms := rooms) (held := rooms) fun n hn => lOk_len (dayOk_iff.mp ((daysOk_iff.mp hd).2 _ (List.mem_of_getElem? (getDay hn)))).2]
  refine sumTo_le fun n hn => ?_
  rw [sumTo_split (ws days n) (hL n hn)]
  have : 0 ≤ sumTo (fun k => if L n ≤ k then ws days n k else 0) rooms.length := sumTo_nn fun k hk => by
    split
    · exact (ws_at hd hn hk).1
    · exact Int.le_refl _
  omega
end
/-- Newton's step: the wishes above the line grow less -/
theorem newton {t1 u1 t2 u2 W1 S1 W2 S2 g : Int} (hu1 : 0 < u1) (hS1 : 0 < S1) (hg : 0 < g) (hW : W1 = g * t2) (hS : S1 = g * u2) (hA : u1 * W1 - t1 * S1 ≤ u1 * W2 - t1 * S2) (h1 : u1 * W1 < t1 * S1) (h2 : u2 * W2 < t2 * S2) : S2 < S1 := by
  apply Classical.byContradiction
  intro hc
  have hc : S1 ≤ S2 := by omega
  have c1 : S1 * W2 < W1 * S2 := by
    have := Int.mul_lt_mul_of_pos_left h2 hg
    rw [hW, hS, Int.mul_assoc, Int.mul_assoc]
    exact this
  have c2 : S1 * (u1 * W1 - t1 * S1) ≤ S1 * (u1 * W2 - t1 * S2) := Int.mul_le_mul_of_nonneg_left hA (by omega)
  have c3 : u1 * (S1 * W2) < u1 * (W1 * S2) := Int.mul_lt_mul_of_pos_left c1 hu1
  have e1 : S1 * (u1 * W2 - t1 * S2) = u1 * (S1 * W2) - t1 * (S1 * S2) := by
    rw [Int.mul_sub, Int.mul_left_comm, Int.mul_left_comm S1 t1 S2]
  have e2 : u1 * (W1 * S2) - t1 * (S1 * S2) = S2 * (u1 * W1 - t1 * S1) := by
    rw [Int.mul_sub, Int.mul_comm S2 (u1 * W1), Int.mul_comm S2 (t1 * S1), Int.mul_assoc, Int.mul_assoc]
  have c4 : S1 * (u1 * W1 - t1 * S1) < S2 * (u1 * W1 - t1 * S1) := by omega
  have c5 : S2 * (u1 * W1 - t1 * S1) ≤ S1 * (u1 * W1 - t1 * S1) := Int.mul_le_mul_of_nonpos_right hc (by omega)
  omega
/-- what share tells -/
structure ShareR (rooms held : List Int) (days : List Day) (t u : Int) : Prop where
  pos : 0 ≤ t
  le : t ≤ u
  upos : 0 < u
  low : Nat.gcd t.toNat u.toNat = 1
  small : u ≤ 960
  all : ∀ L : Nat → Nat, (∀ i, i < days.length → L i ≤ rooms.length) → t * wishAb days L days.length ≤ u * waterAb rooms held days L days.length
structure Shown (rooms held : List Int) (days : List Day) (t u : Int) (line : List Int) : Prop where
  ok : lineOk rooms.length days.length line = true
  lt : t < u
  wish : 0 < wishAb days (lN line) days.length
  eq : u * waterAb rooms held days (lN line) days.length = t * wishAb days (lN line) days.length
theorem part_facts {W S : Nat} (hS : 0 < S) : 0 < Nat.gcd W S ∧ W = Nat.gcd W S * (W / Nat.gcd W S) ∧ S = Nat.gcd W S * (S / Nat.gcd W S) ∧ 0 < S / Nat.gcd W S ∧ Nat.gcd (W / Nat.gcd W S) (S / Nat.gcd W S) = 1 := by
  have hg := Nat.gcd_pos_of_pos_right W hS
  have h1 := Nat.mul_div_cancel' (Nat.gcd_dvd_left W S)
  have h2 := Nat.mul_div_cancel' (Nat.gcd_dvd_right W S)
  refine ⟨hg, h1.symm, h2.symm, Nat.div_pos (Nat.le_of_dvd hS (Nat.gcd_dvd_right W S)) hg, ?_⟩
  exact Nat.coprime_div_gcd_div_gcd hg
section
variable {rooms held : List Int} {days : List Day}
theorem totW_le (hd : daysOk rooms.length days = true) (h4 : rooms.length ≤ 4) : 0 ≤ totW days ∧ totW days ≤ 960 := by
  have e : totW days = wishAb days (fun _ => rooms.length) days.length := totW_eq (rooms := rooms) (held := rooms) fun n hn => lOk_len (dayOk_iff.mp ((daysOk_iff.mp hd).2 _ (List.mem_of_getElem? (getDay hn)))).2
  rw [e]
  exact ⟨wishAb_nn hd fun _ _ => Nat.le_refl _, wishAb_le hd h4 fun _ _ => Nat.le_refl _⟩
theorem IsMost.nn (Y : YardWf rooms held) (hd : daysOk rooms.length days = true) {v : Int} (h : IsMost rooms held days v) : 0 ≤ v := by
  obtain ⟨line, hl, rfl⟩ := h
  have h1 := waterAb_nn Y hd hl.le
  have h2 := wishAb_tot hd hl.le
  unfold lineV
  omega
/-- the share of all wishes can be drawn -/
theorem share_most (hd : daysOk rooms.length days = true) {v t u : Int} (h : IsMost rooms held days v) (s : ShareR rooms held days t u) : t * totW days ≤ u * v := by
  obtain ⟨line, hl, rfl⟩ := h
  have h1 := s.all _ hl.le
  have h2 := wishAb_tot hd hl.le
  unfold lineV
  generalize waterAb rooms held days (lN line) days.length = W at *
  generalize wishAb days (lN line) days.length = S at *
  generalize totW days = T at *
  have c1 : t * (T - S) ≤ u * (T - S) := Int.mul_le_mul_of_nonneg_right s.le (by omega)
  have e1 : u * (W + T - S) = u * W + u * (T - S) := by rw [← Int.mul_add]; congr 1; omega
  have e2 : t * T = t * S + t * (T - S) := by rw [← Int.mul_add]; congr 1; omega
  omega
theorem most_one {v t u : Int} (h : IsMost rooms held days v) (s : ShareR rooms held days t u) (f : (t = 1 ∧ u = 1) ∨ ∃ line, Shown rooms held days t u line) : (t = 1 ∧ u = 1) ↔ v = totW days := by
  constructor
  · rintro ⟨rfl, rfl⟩
    have h1 := h.total
    obtain ⟨line, hl, e⟩ := id h
    have h2 := s.all _ hl.le
    unfold lineV at e
    omega
  · intro e
    rcases f with f | ⟨line, f⟩
    · exact f
    · have h1 := h.le (L := lN line) fun i hi => (lN_int f.ok hi).2
      have h2 := f.eq
      have h3 := f.wish
      have h4 := f.lt
      have h5 := s.upos
      unfold lineV at h1
      generalize waterAb rooms held days (lN line) days.length = W at *
      generalize wishAb days (lN line) days.length = S at *
      have c1 : t * S < u * S := Int.mul_lt_mul_of_pos_right h4 h3
      have c2 : u * S ≤ u * W := Int.mul_le_mul_of_nonneg_left (by omega) (by omega)
      omega
end
end Cy

namespace Cy
open PySem L2
/-! texts of a yard -/
theorem small_num : ((List.range 51).all fun n => let t : Str := toString ((n : Nat) : Int); numOk t && decide (numV t = (n : Int)) && decide (t.length ≤ 2) && (TL.tl t).all fun c => decide (c ≠ 32) && decide (c ≠ 10)) = true := by decide +kernel
theorem num_text {i : Int} (h : 0 ≤ i ∧ i ≤ 50) : numOk (toString i) = true ∧ numV (toString i) = i ∧ (toString i : Str).length ≤ 2 ∧ ∀ c ∈ TL.tl (toString i), c ≠ 32 ∧ c ≠ 10 := by
  obtain ⟨n, rfl⟩ : ∃ n : Nat, i = n := ⟨i.toNat, by omega⟩
  have := List.all_eq_true.mp small_num n (List.mem_range.mpr (by omega))
  simp only [Bool.and_eq_true, decide_eq_true_eq, List.all_eq_true] at this
  exact ⟨this.1.1.1, this.1.1.2, this.1.2, this.2⟩
def tankT (rooms held : List Int) (k : Nat) : Str := toString (held.getD k 0) ++ " of " ++ toString (rooms.getD k 0)
def tanksT (rooms held : List Int) (n : Nat) : List Str := (List.range n).map (tankT rooms held)
def writtenT (rooms held : List Int) : Str := Txt.join "\n" (tanksT rooms held rooms.length)
theorem len_append (a b : Str) : (a ++ b).length = a.length + b.length := by
  show (a.cps ++ b.cps).size = a.cps.size + b.cps.size
  exact Array.size_append
theorem tl_of : TL.tl " of " = [32, 111, 102, 32] := by decide +kernel
theorem tl_of0 : TL.tl "of" = [111, 102] := by decide +kernel
theorem tl_bl : TL.tl " " = [32] := by decide +kernel
theorem tl_nl : TL.tl "\n" = [10] := by decide +kernel
theorem tank_join (rooms held : List Int) (k : Nat) : tankT rooms held k = Txt.join " " [toString (held.getD k 0), "of", toString (rooms.getD k 0)] := by
  refine TL.ext_tl ?_
  rw [TL.join_eq, TL.tl_join]
  unfold tankT
  rw [TL.tl_append, TL.tl_append, tl_of, tl_bl]
  show _ = TL.tl _ ++ ([32] ++ (TL.tl "of" ++ ([32] ++ TL.tl _)))
  rw [tl_of0]
  simp
theorem join_snoc (y x : Str) : ∀ xs : List Str, xs ≠ [] → Txt.join y (xs ++ [x]) = Txt.join y xs ++ y ++ x
  | [], h => absurd rfl h
  | [a], _ => by
    refine TL.ext_tl ?_
    rw [TL.tl_append, TL.tl_append, TL.join_eq, TL.tl_join, TL.join_eq, TL.tl_join]
    show TL.tl a ++ (TL.tl y ++ TL.tl x) = TL.tl a ++ TL.tl y ++ TL.tl x
    simp
  | a :: b :: r, _ => by
    have ih := congrArg TL.tl (join_snoc y x (b :: r) (by simp))
    refine TL.ext_tl ?_
    rw [TL.tl_append, TL.tl_append, TL.join_eq, TL.tl_join] at ih
    rw [TL.tl_append, TL.tl_append, TL.join_eq, TL.tl_join, TL.join_eq, TL.tl_join]
    rw [TL.join_eq, TL.tl_join] at ih
    show TL.tl a ++ (TL.tl y ++ TL.joinL (TL.tl y) ((b :: r ++ [x]).map TL.tl)) = TL.tl a ++ (TL.tl y ++ TL.joinL (TL.tl y) ((b :: r).map TL.tl)) ++ TL.tl y ++ TL.tl x
    rw [ih]
    simp
theorem join_one (y x : Str) : Txt.join y [x] = x := by
  refine TL.ext_tl ?_
  rw [TL.join_eq, TL.tl_join]
  rfl
theorem join_nil (y : Str) : Txt.join y [] = "" := by
  refine TL.ext_tl ?_
  rw [TL.join_eq, TL.tl_join]
  have : TL.tl "" = [] := by decide +kernel
  rw [this]
  rfl
theorem tanks_succ (rooms held : List Int) (n : Nat) : tanksT rooms held (n + 1) = tanksT rooms held n ++ [tankT rooms held n] := by
  unfold tanksT
  rw [List.range_succ, List.map_append]
  rfl
theorem empty_app (x : Str) : ("" : Str) ++ x = x := by
  refine TL.ext_tl ?_
  rw [TL.tl_append]
  have : TL.tl "" = [] := by decide +kernel
  rw [this]
  rfl
theorem app_assoc (x y z : Str) : x ++ (y ++ z) = x ++ y ++ z := by
  refine TL.ext_tl ?_
  simp only [TL.tl_append, List.append_assoc]
/-- one line more -/
theorem join_turn (rooms held : List Int) (n : Nat) : Txt.join "\n" (tanksT rooms held (n + 1)) = (if n = 0 then Txt.join "\n" (tanksT rooms held n) else Txt.join "\n" (tanksT rooms held n) ++ "\n") ++ toString (held.getD n 0) ++ " of " ++ toString (rooms.getD n 0) := by
  rw [tanks_succ]
  by_cases h : n = 0
  · subst h
    rw [if_pos rfl]
    show Txt.join "\n" [tankT rooms held 0] = Txt.join "\n" [] ++ _ ++ _ ++ _
    rw [join_one, join_nil, empty_app]
    rfl
  · rw [if_neg h, join_snoc]
    · unfold tankT
      rw [app_assoc, app_assoc]
    · unfold tanksT
      obtain ⟨m, rfl⟩ : ∃ m, n = m + 1 := ⟨n - 1, by omega⟩
      rw [List.range_succ]
      simp
section
variable {rooms held : List Int}
theorem tank_len (Y : YardWf rooms held) {k : Nat} (hk : k < rooms.length) : (tankT rooms held k).length ≤ 8 := by
  have h1 := (num_text (i := held.getD k 0) (by have := Y.water k hk; have := Y.room k hk; omega)).2.2.1
  have h2 := (num_text (Y.room k hk)).2.2.1
  unfold tankT
  rw [len_append, len_append]
  have : (" of " : Str).length = 4 := by decide +kernel
  omega
theorem text_len (Y : YardWf rooms held) : ∀ {n : Nat}, n ≤ rooms.length → (Txt.join "\n" (tanksT rooms held n)).length ≤ 9 * n
  | 0, _ => by
    show (Txt.join "\n" []).length ≤ _
    rw [join_nil]
    decide +kernel
  | n + 1, h => by
    have ih := text_len Y (n := n) (by omega)
    have h1 := (num_text (i := held.getD n 0) (by have := Y.water n (by omega); have := Y.room n (by omega); omega)).2.2.1
    have h2 := (num_text (Y.room n (by omega))).2.2.1
    have h3 : (" of " : Str).length = 4 := by decide +kernel
    have h4 : ("\n" : Str).length = 1 := by decide +kernel
    rw [join_turn, len_append, len_append, len_append]
    split
    · omega
    · rw [len_append]; omega
theorem words_tank (Y : YardWf rooms held) {k : Nat} (hk : k < rooms.length) : Txt.split (tankT rooms held k) " " = ([toString (held.getD k 0), "of", toString (rooms.getD k 0)] : List Str) := by
  rw [tank_join]
  have h1 := (num_text (i := held.getD k 0) (by have := Y.water k hk; have := Y.room k hk; omega)).2.2.2
  have h2 := (num_text (Y.room k hk)).2.2.2
  refine TL.split_join (s := 32) (S := []) tl_bl (by decide +kernel) (by simp) fun p hp => ?_
  simp only [List.mem_cons, List.not_mem_nil, or_false] at hp
  rcases hp with rfl | rfl | rfl
  · exact fun m => (h1 _ m).1 rfl
  · rw [tl_of0]; decide
  · exact fun m => (h2 _ m).1 rfl
theorem lines_text (Y : YardWf rooms held) : Txt.split (writtenT rooms held) "\n" = tanksT rooms held rooms.length := by
  refine TL.split_join (s := 10) (S := []) tl_nl (by decide +kernel) ?_ fun p hp => ?_
  · intro h
    have h1 := congrArg List.length h
    have := Y.pos
    rw [tanksT, List.length_map, List.length_range, List.length_nil] at h1
    omega
  · obtain ⟨k, hk, rfl⟩ := List.mem_map.mp hp
    have hk := List.mem_range.mp hk
    have h1 := (num_text (i := held.getD k 0) (by have := Y.water k hk; have := Y.room k hk; omega)).2.2.2
    have h2 := (num_text (Y.room k hk)).2.2.2
    unfold tankT
    rw [TL.tl_append, TL.tl_append, tl_of]
    intro m
    rcases List.mem_append.mp m with m | m
    · rcases List.mem_append.mp m with m | m
      · exact (h1 _ m).2 rfl
      · simp at m
    · exact (h2 _ m).2 rfl
theorem map_range_getD (xs : List Int) : (List.range xs.length).map (fun k => xs.getD k 0) = xs := by
  refine List.ext_getElem (by simp) fun i h1 h2 => ?_
  simp [h2]
end
/-! the most, as it stands -/
theorem nat_least (P : Nat → Prop) : (∃ n, P n) → ∃ n, P n ∧ ∀ m, P m → n ≤ m := fun ⟨n, h⟩ => by
  classical
  induction n using Nat.strongRecOn with
  | _ n ih =>
    by_cases e : ∃ m, m < n ∧ P m
    · obtain ⟨m, h1, h2⟩ := e
      exact ih m h1 h2
    · exact ⟨n, h, fun m hm => Nat.le_of_not_lt fun z => e ⟨m, z, hm⟩⟩
section
variable {rooms held : List Int} {days : List Day}
theorem line_of (L : Nat → Nat) (N m : Nat) (hL : ∀ i, i < N → L i ≤ m) : ∃ line, lineOk m N line = true ∧ ∀ i, i < N → lN line i = L i := by
  refine ⟨(List.range N).map fun i => (L i : Int), lineOk_iff.mpr ⟨by simp, fun f hf => ?_⟩, fun i hi => ?_⟩
  · obtain ⟨i, hi, rfl⟩ := List.mem_map.mp hf
    have := hL i (List.mem_range.mp hi)
    omega
  · unfold lN
    rw [List.getD_eq_getElem?_getD, List.getElem?_map, List.getElem?_range hi]
    simp
theorem lineV_nn (Y : YardWf rooms held) (hd : daysOk rooms.length days = true) {L : Nat → Nat} (hL : ∀ i, i < days.length → L i ≤ rooms.length) : 0 ≤ lineV rooms held days L := by
  have h1 := waterAb_nn Y hd hL
  have h2 := wishAb_tot hd hL
  unfold lineV
  omega
theorem isMost_ex (Y : YardWf rooms held) (hd : daysOk rooms.length days = true) : ∃ v, IsMost rooms held days v := by
  obtain ⟨n, ⟨L, hL, e⟩, hmin⟩ := nat_least (fun n => ∃ L : Nat → Nat, (∀ i, i < days.length → L i ≤ rooms.length) ∧ lineV rooms held days L = (n : Int)) ⟨(lineV rooms held days fun _ => 0).toNat, fun _ => 0, fun _ _ => Nat.zero_le _, by
    have := lineV_nn Y hd (L := fun _ => 0) fun _ _ => Nat.zero_le _
    omega⟩
  obtain ⟨line, hok, hl⟩ := line_of L days.length rooms.length hL
  have ec : cost rooms held days 1 1 (lN line) days.length = cost rooms held days 1 1 L days.length := cost_congr hl
  refine ⟨_, line, ⟨hok, fun M hM => ?_⟩, rfl⟩
  have h1 := hmin (lineV rooms held days M).toNat ⟨M, hM, by have := lineV_nn Y hd hM; omega⟩
  have h2 := lineV_nn Y hd hM
  rw [lineV_cost] at e h1 h2
  rw [ec]
  omega
end
end Cy

namespace Cy
open PySem L2
open Evl (Ex Ex.refl Ex.trans Ex.new Ex.mut)
section
variable {K : Fg} {ss ss' : SS} {os os' : Own} {ta tb te tx : TE} {d x z : Dt} {ds es : List Dt} {a : Str}
theorem ev_slS {tl th : TO} {lo hi : Option Int} (h : Ev K te ss os (.str a)) (hl : a.length ≤ 1000000) (h1 : EvO K tl ss os lo) (h2 : EvO K th ss os hi) : Ev K (tSl rSlS te tl th) ss os (.str (cutS a lo hi)) := fun σ G H R Q q =>
  h σ G H R _ fun v G1 H1 q1 e1 r1 => h1 σ G1 H1 (R.grow q1 e1) _ fun G2 H2 q2 e2 => h2 σ G2 H2 ((R.grow q1 e1).grow q2 e2) _ fun G3 H3 q3 e3 => by
    cases r1
    exact ⟨a, rfl, sz _ hl, q _ G3 H3 ((q1.trans q2 (by simp)).trans q3 (by simp)) e3 (.str _)⟩
theorem cutS_len (a : Str) (lo hi : Option Int) : (cutS a lo hi).length ≤ a.length := by
  rw [TL.len_tl, TL.len_tl]
  show ((TL.tl a).drop _ |>.take _).length ≤ _
  rw [List.length_take, List.length_drop]
  omega
theorem noneIn_key {K : Fg} {G : Hp} : ∀ {vs : List V} {ds : List Dt}, Rps K G vs ds → (∀ d ∈ ds, d = .non ∨ ∃ i, d = .int i) → vs.all flatV = true ∧ inV .non vs = ds.any isNon
  | _, _, .nil, _ => ⟨rfl, rfl⟩
  | _, _, .cons h1 h2, hd => by
    obtain ⟨i1, i2⟩ := noneIn_key h2 fun d m => hd d (List.mem_cons_of_mem _ m)
    unfold inV at i2 ⊢
    rcases hd _ List.mem_cons_self with rfl | ⟨i, rfl⟩
    · cases h1
      exact ⟨by rw [List.all_cons, i1]; rfl, by rw [List.any_cons, List.any_cons, i2]; rfl⟩
    · cases h1
      exact ⟨by rw [List.all_cons, i1]; rfl, by rw [List.any_cons, List.any_cons, i2]; rfl⟩
theorem ev_noneIn (hb : Ev K tb ss os x) (l : LV os x ds) (hd : ∀ d ∈ ds, d = .non ∨ ∃ i, d = .int i) : Ev K (tOp (rIn K false) (tC V.non) tb) ss os (.bl (ds.any isNon)) := ev_op ev_cnon hb fun ss σ G H R a b ra rb Q q => by
  cases ra
  obtain ⟨p, vs, rfl, hs, rs⟩ := R.list l rb
  obtain ⟨k1, k2⟩ := noneIn_key rs hd
  refine ⟨p, vs, rfl, .inl hs, rfl, k1, ?_⟩
  show Q (.bl (inV .non vs)) H
  rw [k2]
  exact q _ G H (Gq.refl G H) R.gh (.bl _)
def cutG {α : Type} (xs : List α) (lo hi : Option Int) : List α := (xs.drop (HT.sIx xs.length 0 lo)).take (HT.sIx xs.length xs.length hi - HT.sIx xs.length 0 lo)
theorem cutD_map {α : Type} (xs : List α) (f : α → Dt) (lo hi : Option Int) : cutD (xs.map f) lo hi = (cutG xs lo hi).map f := by
  unfold cutD cutG
  rw [List.length_map, List.map_take, List.map_drop]
theorem cutG_len {α : Type} (xs : List α) (lo hi : Option Int) : (cutG xs lo hi).length ≤ xs.length := by
  unfold cutG
  rw [List.length_take, List.length_drop]
  omega
theorem cutG_mem {α : Type} {xs : List α} {lo hi : Option Int} {y : α} (h : y ∈ cutG xs lo hi) : y ∈ xs := List.mem_of_mem_drop (List.mem_of_mem_take h)
end
/-! ### texts, bounds -/
theorem spl_len (S : List Nat) : ∀ (L : List Nat) (k : Nat) (acc : List Nat), (TL.spl S k acc L).length ≤ L.length + 1 ∧ TL.spl S k acc L ≠ [] ∧ ∀ p ∈ TL.spl S k acc L, p.length ≤ acc.length + L.length
  | [], k, acc => by
    have e : TL.spl S k acc [] = [acc] := by cases k <;> rfl
    rw [e]
    simp
  | c :: r, 0, acc => by
    have e : TL.spl S 0 acc (c :: r) = if TL.pre S (c :: r) = true then acc :: TL.spl S (S.length - 1) [] r else TL.spl S 0 (acc ++ [c]) r := rfl
    rw [e]
    split
    · obtain ⟨h1, h2, h3⟩ := spl_len S r (S.length - 1) []
      refine ⟨by simp; omega, by simp, fun p hp => ?_⟩
      rcases List.mem_cons.mp hp with rfl | hp
      · omega
      · have := h3 p hp
        simp at this ⊢
        omega
    · obtain ⟨h1, h2, h3⟩ := spl_len S r 0 (acc ++ [c])
      refine ⟨by simp; omega, h2, fun p hp => ?_⟩
      have := h3 p hp
      simp at this ⊢
      omega
  | c :: r, k + 1, acc => by
    have e : TL.spl S (k + 1) acc (c :: r) = TL.spl S k acc r := rfl
    rw [e]
    obtain ⟨h1, h2, h3⟩ := spl_len S r k acc
    refine ⟨by simp; omega, h2, fun p hp => ?_⟩
    have := h3 p hp
    simp
    omega
theorem split_len (x y : Str) (hy : TL.tl y ≠ []) (hk : y.cps.all (· < 256) = true) : (Txt.split x y).length ≤ x.length + 1 ∧ Txt.split x y ≠ [] ∧ ∀ p ∈ Txt.split x y, p.length ≤ x.length := by
  have e := TL.split_spl x y hy (TL.kind_ok hk)
  obtain ⟨h1, h2, h3⟩ := spl_len (TL.tl y) (TL.tl x) 0 []
  rw [← e] at h1 h2 h3
  rw [List.length_map] at h1
  rw [TL.len_tl]
  refine ⟨h1, fun z => h2 (by rw [z]; rfl), fun p hp => ?_⟩
  have := h3 (TL.tl p) (List.mem_map_of_mem hp)
  rw [TL.len_tl]
  simpa using this
theorem joinL_len (S : List Nat) : ∀ ps : List (List Nat), (TL.joinL S ps).length ≤ (ps.map (·.length)).sum + ps.length * S.length
  | [] => by simp [TL.joinL]
  | [p] => by simp [TL.joinL]
  | p :: q :: r => by
    have ih := joinL_len S (q :: r)
    show (p ++ (S ++ TL.joinL S (q :: r))).length ≤ _
    rw [List.length_append, List.length_append, List.map_cons, List.sum_cons, List.length_cons, Nat.succ_mul]
    omega
theorem join_len (y : Str) (ps : List Str) : (Txt.join y ps).length ≤ (ps.map (·.length)).sum + ps.length * y.length := by
  rw [TL.join_eq, TL.len_tl, TL.tl_join]
  have := joinL_len (TL.tl y) (ps.map TL.tl)
  rw [List.length_map, List.map_map] at this
  have e : (fun x : List Nat => x.length) ∘ TL.tl = fun x : Str => x.length := by
    funext p
    exact (TL.len_tl p).symm
  rw [e, ← TL.len_tl] at this
  exact this
theorem sum_lenC {c : Nat} : ∀ ys : List Str, (∀ y ∈ ys, y.length ≤ c) → (ys.map (·.length)).sum ≤ c * ys.length
  | [], _ => by simp
  | y :: r, h => by
    have h1 := sum_lenC r fun z hz => h z (List.mem_cons_of_mem _ hz)
    have h2 := h y List.mem_cons_self
    rw [List.map_cons, List.sum_cons, List.length_cons, Nat.mul_succ]
    omega
end Cy

namespace Cy
open PySem L2
local macro_rules | `(tactic| walk_at "lv") => `(tactic| first | exact LV.lst | exact LV.scr | exact LV.own List.mem_cons_self | exact LV.own (List.mem_cons_of_mem _ List.mem_cons_self) | exact LV.own (List.mem_cons_of_mem _ (List.mem_cons_of_mem _ List.mem_cons_self)) | exact LV.own (List.mem_cons_of_mem _ (List.mem_cons_of_mem _ (List.mem_cons_of_mem _ List.mem_cons_self))))
local macro_rules | `(tactic| walk_at "at") => `(tactic| first | exact at_mapN (by assumption) | exact at_map (by omega) (by assumption) | rfl | exact at_of (by omega) (by assumption))
local macro_rules | `(tactic| walk_at "side") => `(tactic| first | assumption | omega | decide)
local macro_rules | `(tactic| walk_at "ea") => `(tactic| first | exact ea_nil | (apply ea_cons; walk_at "ev"; walk_at "ea"))
local macro_rules | `(tactic| walk_at "et") => `(tactic| first
  | exact et_yes
  | (apply et_B; walk_at "ev")
  | (apply et_T; walk_at "ev")
  | (apply et_not; walk_at "et"))
local macro_rules | `(tactic| walk_at "ev") => `(tactic| first
  | exact ev_var rfl
  | exact ev_cint | exact ev_cbl | exact ev_cstr | exact ev_cnon
  | (apply ev_ii; walk_at "ev"; walk_at "ev")
  | (apply ev_ib; walk_at "ev"; walk_at "ev")
  | (apply ev_eqI; walk_at "ev"; walk_at "ev")
  | (apply ev_neI; walk_at "ev"; walk_at "ev")
  | (apply ev_ixL; walk_at "ev"; walk_at "lv"; walk_at "ev"; walk_at "at")
  | (apply ev_ixT; walk_at "ev"; walk_at "ev"; walk_at "at")
  | (apply ev_len; walk_at "ev"; walk_at "lv")
  | (apply ev_lenT; walk_at "ev")
  | (apply ev_min2; walk_at "ev"; walk_at "ev")
  | (apply ev_max2; walk_at "ev"; walk_at "ev")
  | (apply ev_tup; walk_at "ea"; (first | decide | simp | skip))
  | (apply ev_iC; walk_at "ev"; walk_at "ev"; walk_at "cond")
  | (apply ev_fldI; walk_at "cls"; walk_at "cls"; walk_at "ev"; walk_at "iv"; rfl; rfl; rfl)
  | (apply ev_F; walk_at "ef")
  | walk_at "call")
local macro_rules | `(tactic| walk_at "ef") => `(tactic| first
  | (apply ef_list; walk_at "ev"; walk_at "lv")
  | (apply ef_lst; walk_at "ea"; (first | decide | simp | skip)))
local macro_rules | `(tactic| walk_at "iv") => `(tactic| first | exact IV.ins | exact IV.own List.mem_cons_self | exact IV.own (List.mem_cons_of_mem _ List.mem_cons_self) | exact IV.own (List.mem_cons_of_mem _ (List.mem_cons_of_mem _ List.mem_cons_self)) | exact IV.own (List.mem_cons_of_mem _ (List.mem_cons_of_mem _ (List.mem_cons_of_mem _ List.mem_cons_self))))
local macro_rules | `(tactic| walk_at "cond") => `(tactic| first | exact Or.inr (by decide) | exact Or.inl (by decide) | (exact ⟨by decide, by decide⟩) | (show (0 : Int) < _; first | decide | assumption | omega))
local macro_rules | `(tactic| walk_at "cls") => `(tactic| first | assumption | exact YardF.cls (by assumption) | exact YardF.sizes (by assumption) | exact YardF.held (by assumption))
local macro_rules | `(tactic| walk_at "call") => `(tactic| fail "no call")
local macro_rules | `(tactic| walk_at "at") => `(tactic| first | exact at_getD (by first | assumption | omega) | rfl)
local macro_rules | `(tactic| walk_at "call") => `(tactic| (apply ev_drawn; walk_at "ev"; walk_at "ev"; walk_at "ev"; walk_at "side"))
def numD (w : Str) : Dt := if numOk w = true then .int (numV w) else .non
theorem empty_of {w : Str} (h0 : w.cps.size = 0) : w.length = 0 := h0
def c_l_number (A : Ad) : Ct := pureC (α := Str) (fun w => w.length ≤ 100000) (fun w => [.str w]) fun w => .ok (numD w)
def rd_l_number (K : Fg) (A : Ad) : TS :=
  tSeq (tIfS (tOr (tTest (tOp (rI0 fun i j => V.bl (decide (i < j))) (tCB (rLenStr) (tCons (tVar 0) (tNil))) (tC (V.int 1)))) (tOr (tTest (tOp (rI0 fun i j => V.bl (decide (j < i))) (tCB (rLenStr) (tCons (tVar 0) (tNil))) (tC (V.int 2)))) (tAnd (tTest (tOp (rEq) (tOp rIxS (tVar 0) (tC (V.int 0))) (tC (V.str "0")))) (tTest (tOp (rI0 fun i j => V.bl (decide (j < i))) (tCB (rLenStr) (tCons (tVar 0) (tNil))) (tC (V.int 1))))))) (tRet (tC V.non)) (tNext)) 
      (tSeq (tFor (iStr (tVar 0)) (gName 1) 
        (tIfS (tTest (tOp (rNotInS) (tVar 1) (tC (V.str "0123456789")))) (tRet (tC V.non)) (tNext))) 
      (tRet (tCB (rIntS) (tCons (tVar 0) (tNil)))))
theorem sem_l_number {K : Fg} {A : Ad} : ∀ vs H Q E, spC K 1 (c_l_number A) vs H Q E → rd_l_number K A { nx := fun _ H' => Q .non H', rt := Q } (start ["word", "letter"] vs) H :=
  body_ok fun ds os P hl hc B D hfp hR hN => by
    obtain ⟨w, hw, rfl, rfl, rfl⟩ := hc
    have hw : w.length ≤ 100000 := hw
    have hsz : w.length = w.cps.size := rfl
    have bad : ¬ numOk w = true → ∀ {B' os}, B.Le B' → os = [] → Rt K B' D.rt .non os := fun h B' os le eo => (hR.up le).rt ⟨by show _ = Res.ok (numD w); unfold numD; rw [if_neg h], eo⟩
    by_cases h0 : w.cps.size = 0
    · refine q_when (et_or (b := false) (et_T (ev_ib (ev_lenStr (ev_var rfl) (by omega)) ev_cint)) fun hb => ?_) (fun hb => do_ret ev_cnon (bad (fun h => ?_) (Bs.Le.refl _) rfl)) (fun hb => ?_)
      · simp at hb; omega
      · have := (numOk_iff.mp h).1
        omega
      · simp at hb; omega
    · obtain ⟨c0, hc0⟩ : ∃ c, w.cps.toList[0]? = some c := ⟨_, List.getElem?_eq_getElem (by simp; omega)⟩
      refine q_when (et_or (et_T (ev_ib (ev_lenStr (ev_var rfl) (by omega)) ev_cint)) fun _ => et_or (et_T (ev_ib (ev_lenStr (ev_var rfl) (by omega)) ev_cint)) fun _ => et_and (et_T (ev_eqS (ev_ixS (c := c0) (ev_var rfl) ev_cint (by omega) (at_of (by decide) hc0)) ev_cstr)) fun _ => et_T (ev_ib (ev_lenStr (ev_var rfl) (by omega)) ev_cint)) (fun hb => do_ret ev_cnon (bad (fun h => ?_) (Bs.Le.refl _) rfl)) (fun hb => ?_)
      · obtain ⟨h1, _⟩ := numOk_iff.mp h
        have hh : w.cps.toList.head? = some c0 := by rw [List.head?_eq_getElem?]; exact hc0
        simp at hb
        rcases hb with hb | hb | ⟨hb1, hb2⟩
        · omega
        · omega
        · have e0 : c0 = 48 := by
            have : (⟨#[c0]⟩ : Str) = ⟨#[48]⟩ := hb1
            have h2 : (#[c0] : Array Nat) = #[48] := congrArg Str.cps this
            simpa using h2
          rcases h1 with h1 | ⟨_, h1⟩
          · omega
          · rw [hh, e0] at h1; exact h1 rfl
      · simp at hb
        obtain ⟨hb0, hb1, hb2⟩ := hb
        have hsize : w.cps.size = 1 ∨ (w.cps.size = 2 ∧ w.cps.toList.head? ≠ some 48) := by
          by_cases e1 : w.cps.size = 1
          · exact .inl e1
          · refine .inr ⟨by omega, fun z => ?_⟩
            rw [List.head?_eq_getElem?, hc0] at z
            have e0 : c0 = 48 := by simpa using z
            have := hb2 (by rw [e0]; decide +kernel)
            omega
        refine q_forS (ev_var rfl) (fun i ss os => (∃ o, ss = [some (.str w), o]) ∧ os = [] ∧ ∀ c ∈ w.cps.toList.take i, c ∈ figs) ⟨⟨_, rfl⟩, rfl, by simp⟩ (fun B1 hB1 i c ss os hc hI => ?_) (fun ss os hI => ?_)
        · obtain ⟨⟨o, rfl⟩, rfl, hx⟩ := hI
          have hc2 : w.cps.toList[i]? = some c := by rw [Array.getElem?_toList]; exact hc
          refine ⟨_, tg_name, do_if (et_T (ev_notInS (ev_var rfl) ev_cstr)) (fun hb => do_ret ev_cnon (bad (fun h => ?_) hB1 rfl)) (fun hb => ?_)⟩
          · have := (numOk_iff.mp h).2 c (List.mem_of_getElem? hc2)
            rw [figs_str] at hb
            simp [this] at hb
          · rw [figs_str] at hb
            refine do_nx (nx_at ⟨⟨_, rfl⟩, rfl, fun y hy => ?_⟩)
            rw [List.take_add_one, hc2] at hy
            rcases List.mem_append.mp hy with hy | hy
            · exact hx y hy
            · have : y = c := by simpa using hy
              subst this
              simpa using hb
        · obtain ⟨⟨o, rfl⟩, rfl, hx⟩ := hI
          have ok : numOk w = true := numOk_iff.mpr ⟨hsize, fun c hc => hx c (by rw [List.take_of_length_le (by simp)]; exact hc)⟩
          refine do_ret (ev_intS (ev_var rfl) (num_int ok).1 (by omega)) (hR.rt ⟨?_, rfl⟩)
          show _ = Res.ok (numD w)
          unfold numD
          rw [if_pos ok]
/-- the text, as the law goes through it -/
theorem num_nn {w : Str} (h : numOk w = true) : 0 ≤ numV w := (num_int h).2.1
theorem getD_map (f : Str → Int) {xs : List Str} {k : Nat} (h : k < xs.length) : (xs.map f).getD k 0 = f xs[k] := by
  rw [List.getD_eq_getElem?_getD, List.getElem?_map, List.getElem?_eq_getElem h]; rfl
theorem lines_ne (t : Str) : linesT t ≠ [] := (split_len t "\n" (by rw [tl_nl]; simp) (by decide +kernel)).2.1
theorem textOk_iff {t : Str} : textOk t = true ↔ (∀ l ∈ linesT t, rowT l = true ∧ roomT l ≤ 50 ∧ waterT l ≤ roomT l) ∧ (linesT t).length ≤ 4 := by
  have hne := lines_ne t
  unfold textOk
  rw [Bool.and_eq_true, List.all_eq_true, yardOk_iff]
  simp only [List.length_map]
  constructor
  · rintro ⟨h1, h2, h3, _, h5, h6⟩
    refine ⟨fun l hl => ⟨h1 l hl, ?_, ?_⟩, h3⟩
    · exact (withinB_iff.mp h5 (roomT l) (List.mem_map_of_mem hl)).2
    · obtain ⟨k, hk, rfl⟩ := List.mem_iff_getElem.mp hl
      have := (h6 k hk).2
      rw [getD_map _ hk, getD_map _ hk] at this
      exact this
  · rintro ⟨h1, h3⟩
    refine ⟨fun l hl => (h1 l hl).1, ?_, h3, trivial, withinB_iff.mpr fun x hx => ?_, fun k hk => ?_⟩
    · rcases Nat.eq_zero_or_pos (linesT t).length with z | z
      · exact (hne (List.length_eq_zero_iff.mp z)).elim
      · exact z
    · obtain ⟨l, hl, rfl⟩ := List.mem_map.mp hx
      exact ⟨num_nn (rowT_iff.mp (h1 l hl).1).2.2.2, (h1 l hl).2.1⟩
    · rw [getD_map _ hk, getD_map _ hk]
      have := h1 _ (List.getElem_mem hk)
      exact ⟨num_nn (rowT_iff.mp this.1).2.2.1, this.2.2⟩
structure TextB (t : Str) : Prop where
  len : t.length ≤ 10000
  lines : (linesT t).length ≤ 10001
  words : ∀ l ∈ linesT t, l.length ≤ 10000 ∧ (wordsT l).length ≤ 10001 ∧ ∀ w ∈ wordsT l, w.length ≤ 10000
theorem textB {t : Str} (h : t.length ≤ 10000) : TextB t := by
  obtain ⟨h1, _, h3⟩ := split_len t "\n" (by rw [tl_nl]; simp) (by decide +kernel)
  refine ⟨h, by show (Txt.split t "\n").length ≤ _; omega, fun l hl => ?_⟩
  obtain ⟨g1, _, g3⟩ := split_len l " " (by rw [tl_bl]; simp) (by decide +kernel)
  have := h3 l hl
  exact ⟨by omega, by show (Txt.split l " ").length ≤ _; omega, fun w hw => by have := g3 w hw; omega⟩
def dueD (t : Str) : Dt := if textOk t = true then .tup [iL ((linesT t).map roomT), iL ((linesT t).map waterT)] else .non
def c_l_due (A : Ad) : Ct := fun ds os P => ∃ t : Str, t.length ≤ 10000 ∧ ds = [.str t] ∧ os = [] ∧ P = fun r os' => r = .ok (dueD t) ∧ os' = []
theorem rt_nil {K : Fg} {B : Bs} {Q : VK} {d : Dt} {os : Own} (h : Rt K B Q d []) : Rt K B Q d os := rt_sub h (by simp) (by simp)
def rd_l_due (K : Fg) (A : Ad) : TS :=
  tSeq (tAsg (tSplit (tVar 0) (tC (V.str "\n"))) (gName 1)) 
      (tSeq (tAsg (tLst (tNil)) (gName 2)) 
      (tSeq (tAsg (tLst (tNil)) (gName 3)) 
      (tSeq (tFor (iList K (tVar 1)) (gName 4) 
        (tSeq (tAsg (tSplit (tVar 4) (tC (V.str " "))) (gName 5)) 
        (tSeq (tIfS (tOr (tTest (tOp (rNe) (tCB (Evl.rLenS K) (tCons (tVar 5) (tNil))) (tC (V.int 3)))) (tTest (tOp (rNe) (tOp (rIxL K) (tVar 5) (tC (V.int 1))) (tC (V.str "of"))))) (tRet (tC V.non)) (tNext)) 
        (tSeq (tAsg (tLst (tCons (tCall (spC K 1 (c_l_number A)) [] E0 (tCons (tOp (rIxL K) (tVar 5) (tC (V.int 0))) (tNil))) (tCons (tCall (spC K 1 (c_l_number A)) [] E0 (tCons (tOp (rIxL K) (tVar 5) (tC (V.int 2))) (tNil))) (tNil)))) (gName 6)) 
        (tSeq (tIfS (tOr (tTest (tOp (rIn K false) (tC V.non) (tVar 6))) (tOr (tTest (tOp (rI0 fun i j => V.bl (decide (j < i))) (tOp (rIxL K) (tVar 6) (tC (V.int 1))) (tC (V.int 50)))) (tTest (tOp (rI0 fun i j => V.bl (decide (j < i))) (tOp (rIxL K) (tVar 6) (tC (V.int 0))) (tOp (rIxL K) (tVar 6) (tC (V.int 1))))))) (tRet (tC V.non)) (tNext)) 
        (tSeq (tDrop (tBM K "list" rAppend (tVar 3) (tCons (tOp (rIxL K) (tVar 6) (tC (V.int 0))) (tNil)))) 
        (tDrop (tBM K "list" rAppend (tVar 2) (tCons (tOp (rIxL K) (tVar 6) (tC (V.int 1))) (tNil)))))))))) 
      (tSeq (tIfS (tTest (tOp (rI0 fun i j => V.bl (decide (j < i))) (tCB (Evl.rLenS K) (tCons (tVar 1) (tNil))) (tC (V.int 4)))) (tRet (tC V.non)) (tNext)) 
      (tRet (tTup (tCons (tVar 2) (tCons (tVar 3) (tNil)))))))))
theorem sem_l_due {K : Fg} {A : Ad} : ∀ vs H Q E, spC K 1 (c_l_due A) vs H Q E → rd_l_due K A { nx := fun _ H' => Q .non H', rt := Q } (start ["signs", "lines", "rooms", "waters", "line", "words", "numbers"] vs) H :=
  body_ok fun ds os P hl hc B D hfp hR hN => by
    obtain ⟨t, ht, rfl, rfl, rfl⟩ := hc
    obtain ⟨_, hlm, hls⟩ := textB ht
    have hB : B.fp = [] := hfp
    have bad : ¬ textOk t = true → ∀ {B' os}, B.Le B' → Rt K B' D.rt .non os := fun h B' os le => rt_nil ((hR.up le).rt ⟨by unfold dueD; rw [if_neg h], rfl⟩)
    refine q_asg (d := .lst ((linesT t).map Dt.str)) (ev_F (ef_split (ev_var rfl) ev_cstr (by decide +kernel) (by omega))) ?_
    refine q_asgM (em_F (ef_lst ea_nil (by decide))) fun d os' hd => ?_
    obtain ⟨pr, _, rfl, rfl⟩ := hd
    refine q_asgM (em_F (ef_lst ea_nil (by decide))) fun d os' hd => ?_
    obtain ⟨pw, npw, rfl, rfl⟩ := hd
    have npw : pw ≠ pr := by simpa using npw
    refine q_forM (xs := linesT t) (f0 := Dt.str) (ev_var rfl) (fun i ss os => (∃ o4 o5 o6, ss = [some (.str t), some (.lst ((linesT t).map Dt.str)), some (.adr pr), some (.adr pw), o4, o5, o6]) ∧ (∀ l ∈ (linesT t).take i, rowT l = true ∧ roomT l ≤ 50 ∧ waterT l ≤ roomT l) ∧
      os = [(pr, .lst ((((linesT t).take i).map roomT).map Dt.int)), (pw, .lst ((((linesT t).take i).map waterT).map Dt.int))]) ⟨⟨_, _, _, rfl⟩, by simp, by simp⟩ (fun B1 hB1 i l ss os hz hI => ?_) (fun ss os hI => ?_)
    · obtain ⟨⟨o4, o5, o6, rfl⟩, hrows, rfl⟩ := hI
      have hmem := List.mem_of_getElem? hz
      have hi : i < (linesT t).length := (List.getElem?_eq_some_iff.mp hz).1
      obtain ⟨h1, h2, h3⟩ := hls l hmem
      have badl : ¬ (rowT l = true ∧ roomT l ≤ 50 ∧ waterT l ≤ roomT l) → ¬ textOk t = true := fun h z => h ((textOk_iff.mp z).1 l hmem)
      refine ⟨_, tg_name, ?_⟩
      refine q_asg (d := .lst ((wordsT l).map Dt.str)) (ev_F (ef_split (ev_var rfl) ev_cstr (by decide +kernel) (by omega))) ?_
      by_cases h3w : (wordsT l).length = 3
      · refine q_when (et_or (et_T (ev_neI (ev_len (ev_var rfl) LV.lst) ev_cint)) fun _ => et_T (ev_neS (ev_ixL (ev_var rfl) LV.lst ev_cint (at_str (i := 1) (by omega))) ev_cstr)) (fun hb => do_ret ev_cnon (bad (badl fun h => ?_) hB1)) (fun hb => ?_)
        · obtain ⟨_, h5, _⟩ := rowT_iff.mp h.1
          rw [List.length_map, h3w, h5] at hb
          simp at hb
        have hof : (wordsT l).getD 1 "" = "of" := by
          rw [List.length_map, h3w] at hb
          simpa [-List.getD_eq_getElem?_getD] using hb
        have hn : ∀ w : Str, w ∈ wordsT l → w.length ≤ 100000 := fun w hw => by have := h3 w hw; omega
        refine q_asg (d := .lst [numD ((wordsT l).getD 0 ""), numD ((wordsT l).getD 2 "")]) (ev_F (ef_lst (ea_cons (ev_call ((wordsT l).getD 0 "") (ea_cons (ev_ixL (ev_var rfl) LV.lst ev_cint (at_str (i := 0) (by omega))) ea_nil) rfl (hn _ (getD_memS (by omega))) rfl) (ea_cons (ev_call ((wordsT l).getD 2 "") (ea_cons (ev_ixL (ev_var rfl) LV.lst ev_cint (at_str (i := 2) (by omega))) ea_nil) rfl (hn _ (getD_memS (by omega))) rfl) ea_nil)) (by simp))) ?_
        have hnon : ∀ d ∈ [numD ((wordsT l).getD 0 ""), numD ((wordsT l).getD 2 "")], d = .non ∨ ∃ i, d = .int i := fun d hd => by
          simp only [List.mem_cons, List.not_mem_nil, or_false] at hd
          rcases hd with rfl | rfl <;> unfold numD <;> split
          · exact .inr ⟨_, rfl⟩
          · exact .inl rfl
          · exact .inr ⟨_, rfl⟩
          · exact .inl rfl
        by_cases hok : numOk ((wordsT l).getD 0 "") = true ∧ numOk ((wordsT l).getD 2 "") = true
        · have hrow : rowT l = true := rowT_iff.mpr ⟨h3w, hof, hok.1, hok.2⟩
          have e0 : numD ((wordsT l).getD 0 "") = .int (waterT l) := by unfold numD waterT; rw [if_pos hok.1]
          have e2 : numD ((wordsT l).getD 2 "") = .int (roomT l) := by unfold numD roomT; rw [if_pos hok.2]
          rw [e0, e2]
          rw [e0, e2] at hnon
          refine q_when (et_or (et_T (ev_noneIn (ev_var rfl) LV.lst hnon)) fun _ => et_or (et_T (ev_ib (ev_ixL (ev_var rfl) LV.lst ev_cint rfl) ev_cint)) fun _ => et_T (ev_ib (ev_ixL (ev_var rfl) LV.lst ev_cint rfl) (ev_ixL (ev_var rfl) LV.lst ev_cint rfl))) (fun hb => do_ret ev_cnon (bad (badl fun h => ?_) hB1)) (fun hb => ?_)
          · simp [isNon] at hb
            omega
          simp [isNon] at hb
          have hlen : ((linesT t).take i).length ≤ 10001 := by rw [List.length_take]; omega
          refine q_app (ev_var rfl) (List.mem_cons_of_mem _ List.mem_cons_self) (ev_ixL (ev_var rfl) LV.lst ev_cint rfl) (by simp; omega) ?_
          rw [setC_snd npw.symm, setC_one]
          refine do_app (ev_var rfl) List.mem_cons_self (ev_ixL (ev_var rfl) LV.lst ev_cint rfl) (by simp; omega) ?_
          rw [setC_fst (by simpa using npw.symm)]
          refine nx_at ⟨⟨_, _, _, rfl⟩, fun l' hl' => ?_, ?_⟩
          · rw [List.take_add_one, hz] at hl'
            rcases List.mem_append.mp hl' with hl' | hl'
            · exact hrows l' hl'
            · have : l' = l := by simpa using hl'
              subst this
              exact ⟨hrow, by omega, by omega⟩
          · rw [List.take_add_one, hz]
            simp
        · refine q_when (et_or (b := false) (et_T (ev_noneIn (ev_var rfl) LV.lst hnon)) fun hb => ?_) (fun hb => do_ret ev_cnon (bad (badl fun h => hok ⟨(rowT_iff.mp h.1).2.2.1, (rowT_iff.mp h.1).2.2.2⟩) hB1)) (fun hb => ?_)
          · exfalso
            apply hok
            unfold numD at hb
            by_cases a : numOk ((wordsT l).getD 0 "") = true <;> by_cases b : numOk ((wordsT l).getD 2 "") = true
            · exact ⟨a, b⟩
            · rw [if_pos a, if_neg b] at hb; simp [isNon] at hb
            · rw [if_neg a, if_pos b] at hb; simp [isNon] at hb
            · rw [if_neg a, if_neg b] at hb; simp [isNon] at hb
          · exfalso
            apply hok
            unfold numD at hb
            by_cases a : numOk ((wordsT l).getD 0 "") = true <;> by_cases b : numOk ((wordsT l).getD 2 "") = true
            · exact ⟨a, b⟩
            · rw [if_pos a, if_neg b] at hb; simp [isNon] at hb
            · rw [if_neg a, if_pos b] at hb; simp [isNon] at hb
            · rw [if_neg a, if_neg b] at hb; simp [isNon] at hb
      · refine q_when (et_or (b := false) (et_T (ev_neI (ev_len (ev_var rfl) LV.lst) ev_cint)) fun hb => ?_) (fun hb => do_ret ev_cnon (bad (badl fun h => h3w (rowT_iff.mp h.1).1) hB1)) (fun hb => ?_)
        · rw [List.length_map] at hb; simp at hb; omega
        · rw [List.length_map] at hb; simp at hb; omega
    · obtain ⟨⟨o4, o5, o6, rfl⟩, hrows, rfl⟩ := hI
      rw [List.take_length] at hrows ⊢
      refine q_when (et_T (ev_ib (ev_len (ev_var rfl) LV.lst) ev_cint)) (fun hb => do_ret ev_cnon (bad (fun h => ?_) (Bs.Le.refl _))) (fun hb => ?_)
      · have := (textOk_iff.mp h).2
        rw [List.length_map] at hb; simp at hb; omega
      have hok : textOk t = true := textOk_iff.mpr ⟨hrows, by rw [List.length_map] at hb; simp at hb; omega⟩
      refine do_frzM (osf := [(pr, .lst (((linesT t).map roomT).map Dt.int)), (pw, .lst (((linesT t).map waterT).map Dt.int))]) (os0 := []) (osr := []) (ss' := [some (.str t), some (.lst ((linesT t).map Dt.str)), some (iL ((linesT t).map roomT)), some (iL ((linesT t).map waterT)), none, none, none]) (List.Perm.refl _) (fun _ _ => by rw [hB]; simp)
        (.cons (.same _) (.cons (.same _) (.cons (.lst List.mem_cons_self) (.cons (.lst (List.mem_cons_of_mem _ List.mem_cons_self)) (.skip (.skip (.skip .nil))))))) (FmO.refl _) ?_
      refine do_ret (ev_tup (ea_cons (ev_var rfl) (ea_cons (ev_var rfl) ea_nil)) (by simp)) (hR.rt ⟨by unfold dueD; rw [if_pos hok], rfl⟩)
end Cy

namespace Cy
open PySem L2
local macro_rules | `(tactic| walk_at "lv") => `(tactic| first | exact LV.lst | exact LV.scr | exact LV.own List.mem_cons_self | exact LV.own (List.mem_cons_of_mem _ List.mem_cons_self) | exact LV.own (List.mem_cons_of_mem _ (List.mem_cons_of_mem _ List.mem_cons_self)) | exact LV.own (List.mem_cons_of_mem _ (List.mem_cons_of_mem _ (List.mem_cons_of_mem _ List.mem_cons_self))))
local macro_rules | `(tactic| walk_at "at") => `(tactic| first | exact at_mapN (by assumption) | exact at_map (by omega) (by assumption) | rfl | exact at_of (by omega) (by assumption))
local macro_rules | `(tactic| walk_at "side") => `(tactic| first | assumption | omega | decide)
local macro_rules | `(tactic| walk_at "ea") => `(tactic| first | exact ea_nil | (apply ea_cons; walk_at "ev"; walk_at "ea"))
local macro_rules | `(tactic| walk_at "et") => `(tactic| first
  | exact et_yes
  | (apply et_B; walk_at "ev")
  | (apply et_T; walk_at "ev")
  | (apply et_not; walk_at "et"))
local macro_rules | `(tactic| walk_at "ev") => `(tactic| first
  | exact ev_var rfl
  | exact ev_cint | exact ev_cbl | exact ev_cstr | exact ev_cnon
  | (apply ev_ii; walk_at "ev"; walk_at "ev")
  | (apply ev_ib; walk_at "ev"; walk_at "ev")
  | (apply ev_eqI; walk_at "ev"; walk_at "ev")
  | (apply ev_neI; walk_at "ev"; walk_at "ev")
  | (apply ev_ixL; walk_at "ev"; walk_at "lv"; walk_at "ev"; walk_at "at")
  | (apply ev_ixT; walk_at "ev"; walk_at "ev"; walk_at "at")
  | (apply ev_len; walk_at "ev"; walk_at "lv")
  | (apply ev_lenT; walk_at "ev")
  | (apply ev_min2; walk_at "ev"; walk_at "ev")
  | (apply ev_max2; walk_at "ev"; walk_at "ev")
  | (apply ev_tup; walk_at "ea"; (first | decide | simp | skip))
  | (apply ev_iC; walk_at "ev"; walk_at "ev"; walk_at "cond")
  | (apply ev_fldI; walk_at "cls"; walk_at "cls"; walk_at "ev"; walk_at "iv"; rfl; rfl; rfl)
  | (apply ev_F; walk_at "ef")
  | walk_at "call")
local macro_rules | `(tactic| walk_at "ef") => `(tactic| first
  | (apply ef_list; walk_at "ev"; walk_at "lv")
  | (apply ef_lst; walk_at "ea"; (first | decide | simp | skip)))
local macro_rules | `(tactic| walk_at "iv") => `(tactic| first | exact IV.ins | exact IV.own List.mem_cons_self | exact IV.own (List.mem_cons_of_mem _ List.mem_cons_self) | exact IV.own (List.mem_cons_of_mem _ (List.mem_cons_of_mem _ List.mem_cons_self)) | exact IV.own (List.mem_cons_of_mem _ (List.mem_cons_of_mem _ (List.mem_cons_of_mem _ List.mem_cons_self))))
local macro_rules | `(tactic| walk_at "cond") => `(tactic| first | exact Or.inr (by decide) | exact Or.inl (by decide) | (exact ⟨by decide, by decide⟩) | (show (0 : Int) < _; first | decide | assumption | omega))
local macro_rules | `(tactic| walk_at "cls") => `(tactic| first | assumption | exact YardF.cls (by assumption) | exact YardF.sizes (by assumption) | exact YardF.held (by assumption))
local macro_rules | `(tactic| walk_at "call") => `(tactic| fail "no call")
local macro_rules | `(tactic| walk_at "at") => `(tactic| first | exact at_getD (by first | assumption | omega) | exact at_day (by first | assumption | omega) | rfl)
local macro_rules | `(tactic| walk_at "call") => `(tactic| (apply ev_drawn; walk_at "ev"; walk_at "ev"; walk_at "ev"; walk_at "side"))
def c_l_whole (A : Ad) : Ct := pureC (α := Int) (fun _ => True) (fun x => [.int x]) fun x => .ok (.bl true)
def rd_l_whole (K : Fg) (A : Ad) : TS :=
  tRet (tAndV (tCB (rIsi K) (tCons (tVar 0) (tCons (tC (V.ty "int")) tNil))) (tNotV (tCB (rIsi K) (tCons (tVar 0) (tCons (tC (V.ty "bool")) tNil)))))
theorem sem_l_whole {K : Fg} {A : Ad} : ∀ vs H Q E, spC K 1 (c_l_whole A) vs H Q E → rd_l_whole K A { nx := fun _ H' => Q .non H', rt := Q } (start ["found"] vs) H :=
  body_ok fun ds os P hl hc B D hfp hR hN => by
    obtain ⟨x, hx, rfl, rfl, rfl⟩ := hc
    exact do_ret (d := .bl true) (ev_andV (a := true) (b := true) (ev_isi (ev_var rfl) (.int _) kit_ii) fun _ => ev_notV (a := false) (ev_isi (ev_var rfl) (.int _) kit_ib)) (hR.rt ⟨rfl, rfl⟩)
def c_l_row (A : Ad) : Ct := pureC (α := List Int × List Int) (fun x => x.2.length < 1000) (fun x => [iL x.1, iL x.2]) fun x => .ok (.bl (decide (x.1 = x.2)))
def rd_l_row (K : Fg) (A : Ad) : TS :=
  tSeq (tIfS (tOr (tNot (tB (tCB (rIsi K) (tCons (tVar 0) (tCons (tC (V.ty "list")) tNil))))) (tTest (tOp (rNe) (tCB (Evl.rLenS K) (tCons (tVar 0) (tNil))) (tCB (Evl.rLenS K) (tCons (tVar 1) (tNil)))))) (tRet (tC (V.bl false))) (tNext)) 
      (tSeq (tFor (iRng1 (tCons (tCB (Evl.rLenS K) (tCons (tVar 1) (tNil))) (tNil))) (gName 2) 
        (tIfS (tOr (tNot (tB (tCall (spC K 1 (c_l_whole A)) [] E0 (tCons (tOp (rIxL K) (tVar 0) (tVar 2)) (tNil))))) (tTest (tOp (rNe) (tOp (rIxL K) (tVar 0) (tVar 2)) (tOp (rIxL K) (tVar 1) (tVar 2))))) (tRet (tC (V.bl false))) (tNext))) 
      (tRet (tC (V.bl true))))
theorem sem_l_row {K : Fg} {A : Ad} : ∀ vs H Q E, spC K 2 (c_l_row A) vs H Q E → rd_l_row K A { nx := fun _ H' => Q .non H', rt := Q } (start ["found", "due", "k"] vs) H :=
  body_ok fun ds os P hl hc B D hfp hR hN => by
    obtain ⟨⟨xs, ys⟩, hx, rfl, rfl, rfl⟩ := hc
    have hx : ys.length < 1000 := hx
    have hR : ∀ {B' : Bs}, B.Le B' → ∀ {b : Bool} {os : Own}, decide (xs = ys) = b → os = [] → Rt K B' D.rt (.bl b) os := fun {B'} le {b os} e eo => (hR.up le).rt ⟨by show Res.ok _ = Res.ok (.bl (decide (xs = ys))); rw [e], eo⟩
    refine q_when (et_or (et_not (et_B (ev_isi (ev_var rfl) (.lst _) kit_ll))) fun _ => by walk_at "et") (fun hb => do_ret ev_cbl (hR (Bs.Le.refl _) ?_ rfl)) (fun hb => ?_)
    · refine decide_eq_false fun e => ?_
      subst e
      simp at hb
    have hlen : xs.length = ys.length := by
      simp at hb
      omega
    refine q_forR (n := (ys.length : Int)) (ea_cons (ev_is (by walk_at "ev") (by rw [List.length_map])) ea_nil) (by omega) (by omega) (fun i ss os => (∃ o, ss = [some (iL xs), some (iL ys), o]) ∧ os = [] ∧ ∀ k, k < i → xs.getD k 0 = ys.getD k 0) ⟨⟨_, rfl⟩, rfl, by omega⟩ (fun i ss os hi hI => ?_) (fun ss os hI => ?_)
    · obtain ⟨⟨o, rfl⟩, rfl, hk⟩ := hI
      have i1 : i < ys.length := by omega
      have i2 : i < xs.length := by omega
      refine do_if (et_or (et_not (et_B (ev_call (xs.getD i 0) (by walk_at "ea") rfl trivial rfl))) fun _ => by walk_at "et") (fun hb => do_ret ev_cbl (hR (Bs.Le.refl _) ?_ rfl)) (fun hb => do_nx (nx_at ⟨⟨_, rfl⟩, rfl, fun k hk2 => ?_⟩))
      · refine decide_eq_false fun e => ?_
        subst e
        simp at hb
      · by_cases e : k = i
        · subst e
          simpa [-List.getD_eq_getElem?_getD] using hb
        · exact hk k (by omega)
    · obtain ⟨⟨o, rfl⟩, rfl, hk⟩ := hI
      refine do_ret ev_cbl (hR (Bs.Le.refl _) (decide_eq_true (List.ext_getElem hlen fun k h1 h2 => ?_)) rfl)
      have := hk k (by simpa using h2)
      rw [List.getD_eq_getElem?_getD, List.getD_eq_getElem?_getD, List.getElem?_eq_getElem h1, List.getElem?_eq_getElem h2] at this
      exact this
def c_l_days_byO (A : Ad) : Ct := fun ds os P => ∃ (ns : List Int) (b : Int) (many : Nat) (bound : Int), 0 ≤ bound ∧ bound ≤ 100 ∧ many ≤ 100 ∧ ds = [.scr ns, .int b, .int (many : Int), .int bound] ∧ os = [] ∧
  P = fun r os' => ∃ p as, as.length = (daysBy ns b many bound).length ∧ r = .ok (.adr p) ∧ os'.Perm ((p, .lst (spine as)) :: cellsOf as (daysBy ns b many bound))
def rd_l_days_byO (K : Fg) (A : Ad) : TS :=
  tSeq (tAsg (tOp (rIxL K) (tLst (tCons (tC (V.int 4)) (tCons (tC (V.int 10)) (tCons (tC (V.int 31)) (tNil))))) (tCall (spC K 3 (c_l_drawn A)) [] E0 (tCons (tVar 0) (tCons (tVar 1) (tCons (tC (V.int 3)) (tNil)))))) (gName 4)) 
      (tSeq (tAsg (tLst (tNil)) (gName 5)) 
      (tSeq (tFor (iRng1 (tCons (tCall (spC K 3 (c_l_drawn A)) [] E0 (tCons (tVar 0) (tCons (tOp (rI0 fun i j => V.int (i + j)) (tVar 1) (tC (V.int 1))) (tCons (tOp (rI0 fun i j => V.int (i + j)) (tVar 3) (tC (V.int 1))) (tNil))))) (tNil))) (gName 6) 
        (tSeq (tAsg (tLc (iRng1 (tCons (tVar 2) (tNil))) (gName 9) (tYes) (tCall (spC K 3 (c_l_drawn A)) [] E0 (tCons (tVar 0) (tCons (tOp (rI0 fun i j => V.int (i + j)) (tOp (rI0 fun i j => V.int (i + j)) (tOp (rI0 fun i j => V.int (i + j)) (tVar 1) (tC (V.int 10))) (tOp (rI CMul fun i j => V.int (i * j)) (tC (V.int 8)) (tVar 6))) (tVar 9)) (tCons (tVar 4) (tNil))))) ([9] : List Nat)) (gName 7)) 
        (tSeq (tAsg (tLc (iRng1 (tCons (tVar 2) (tNil))) (gName 9) (tYes) (tCall (spC K 3 (c_l_drawn A)) [] E0 (tCons (tVar 0) (tCons (tOp (rI0 fun i j => V.int (i + j)) (tOp (rI0 fun i j => V.int (i + j)) (tOp (rI0 fun i j => V.int (i + j)) (tVar 1) (tC (V.int 14))) (tOp (rI CMul fun i j => V.int (i * j)) (tC (V.int 8)) (tVar 6))) (tVar 9)) (tCons (tVar 4) (tNil))))) ([9] : List Nat)) (gName 8)) 
        (Evl.tCut (tIfS (tTest (tOp (rEq) (tCall (spC K 3 (c_l_drawn A)) [] E0 (tCons (tVar 0) (tCons (tOp (rI0 fun i j => V.int (i + j)) (tVar 1) (tC (V.int 2))) (tCons (tC (V.int 3)) (tNil))))) (tC (V.int 1)))) (tAsg (tLc (iList K (tVar 8)) (gName 10) (tYes) (tCB (rMin2) (tCons (tC (V.int 30)) (tCons (tOp (rI CMul fun i j => V.int (i * j)) (tC (V.int 2)) (tVar 10)) (tNil)))) ([10] : List Nat)) (gName 8)) (tNext)) 
        (tDrop (tBM K "list" rAppend (tVar 5) (tCons (tTup (tCons (tVar 7) (tCons (tVar 8) (tNil)))) (tNil)))))))) 
      (tRet (tVar 5))))
theorem sem_l_days_byO {K : Fg} {A : Ad} : ∀ vs H Q E, spC K 4 (c_l_days_byO A) vs H Q E → rd_l_days_byO K A { nx := fun _ H' => Q .non H', rt := Q } (start ["script", "base", "many", "bound", "top", "days", "number", "rain", "wishes", "k", "one"] vs) H :=
  body_ok fun ds os P hl hc B D hfp hR hN => by
    obtain ⟨ns, b, many, bound, hb0, hb1, hm, rfl, rfl, rfl⟩ := hc
    have ht := dtopBy_pos ns b
    have hdr := drawn_pos ns (b + 1) (many := bound + 1) (by omega)
    have hm2 : (many : Int) ≤ 100 := by omega
    refine q_asg (d := .int (dtopBy ns b)) (ev_ixL (ev_F (ef_lst (by walk_at "ea") (by decide))) LV.lst (by walk_at "ev") top_at) ?_
    refine q_asgM (em_F (ef_lst ea_nil (by decide))) fun d os' hd => ?_
    obtain ⟨p, np, rfl, rfl⟩ := hd
    refine q_forR (n := drawn ns (b + 1) (bound + 1)) (ea_cons (by walk_at "ev") ea_nil) (by omega) (by omega) (fun i ss os => ∃ as o1 o2 o3 o4 o5, as.length = i ∧ ss = [some (.scr ns), some (.int b), some (.int many), some (.int bound), some (.int (dtopBy ns b)), some (.adr p), o1, o2, o3, o4, o5] ∧
      os.Perm ((p, .lst (spine as)) :: cellsOf as ((List.range i).map fun n => (rainBy ns b many n, wishesBy ns b many n)))) ⟨[], _, _, _, _, _, rfl, rfl, List.Perm.refl _⟩ (fun i ss os hi hI => ?_) (fun ss os hI => ?_)
    · obtain ⟨as, o1, o2, o3, o4, o5, hl, rfl, hperm⟩ := hI
      have epl : (List.range (i + 1)).map (fun n => (rainBy ns b many n, wishesBy ns b many n)) = (List.range i).map (fun n => (rainBy ns b many n, wishesBy ns b many n)) ++ [(rainBy ns b many i, wishesBy ns b many i)] := by rw [List.range_succ, List.map_append]; rfl
      have hpl : ((List.range i).map fun n => (rainBy ns b many n, wishesBy ns b many n)).length = i := by simp
      rw [epl]
      generalize (List.range i).map (fun n => (rainBy ns b many n, wishesBy ns b many n)) = pl at hperm hpl ⊢
      refine do_perm hperm ?_
      refine q_asgM (em_F (ds := (rainBy ns b many i).map Dt.int) (ef_mapRi (n := (many : Int)) (fun k => drawn ns (b + 10 + 8 * i + k) (dtopBy ns b)) (ea_cons (ev_var rfl) ea_nil) (by omega) (by omega) fun j hj => ⟨_, tw_name, ?_⟩)) fun d os' hd => ?_
      · walk_at "ev"
      obtain ⟨a, na, rfl, rfl⟩ := hd
      refine q_asgM (em_F (ds := ((List.range many).map fun (k : Nat) => drawn ns (b + 14 + 8 * i + k) (dtopBy ns b)).map Dt.int) (ef_mapRi (n := (many : Int)) (fun k => drawn ns (b + 14 + 8 * i + k) (dtopBy ns b)) (ea_cons (ev_var rfl) ea_nil) (by omega) (by omega) fun j hj => ⟨_, tw_name, ?_⟩)) fun d os' hd => ?_
      · walk_at "ev"
      obtain ⟨w, nw, rfl, rfl⟩ := hd
      refine do_perm (perm_two _ _ _) ?_
      refine do_cut (fun ss os => ∃ w o3 o4, ss = [some (.scr ns), some (.int b), some (.int many), some (.int bound), some (.int (dtopBy ns b)), some (.adr p), some (.int i), some (.adr a), some (.adr w), o3, o4] ∧
        os.Perm ((a, .lst ((rainBy ns b many i).map Dt.int)) :: (w, .lst ((wishesBy ns b many i).map Dt.int)) :: (p, .lst (spine as)) :: cellsOf as pl)) (do_if (by walk_at "et") (fun hb => ?_) (fun hb => ?_)) ?_
      · have e : wishesBy ns b many i = ((List.range many).map fun (k : Nat) => drawn ns (b + 14 + 8 * i + k) (dtopBy ns b)).map fun one => min 30 (2 * one) := by
          unfold wishesBy
          rw [if_pos (by simpa using hb)]
        refine do_asgM (em_F (ds := (wishesBy ns b many i).map Dt.int) ?_) fun d os' hd => ?_
        · rw [e]
          refine ef_mapLi (fun one => min 30 (2 * one)) (ev_var rfl) (.own (List.mem_cons_of_mem _ List.mem_cons_self)) (fun x _ => ⟨_, tw_name, ?_⟩) (by simp; omega)
          walk_at "ev"
        · obtain ⟨w2, nw2, rfl, rfl⟩ := hd
          refine nx_perm (perm_one _ _) (nx_perm (List.Perm.swap _ _ _) ?_)
          exact nx_weak (Le.refl _) (.cons_cons _ (.cons_cons _ (.cons _ (List.Sublist.refl _)))) (nx_at ⟨w2, _, _, rfl, List.Perm.refl _⟩)
      · refine do_nx (nx_at ⟨w, o4, o5, rfl, ?_⟩)
        have e : wishesBy ns b many i = (List.range many).map fun (k : Nat) => drawn ns (b + 14 + 8 * i + k) (dtopBy ns b) := by
          unfold wishesBy
          rw [if_neg (by simpa using hb)]
        rw [e]
      · rintro ss os ⟨w, o3, o4, rfl, hperm2⟩
        refine do_perm hperm2 ?_
        refine do_nd fun nd => ?_
        have npa : a ≠ p := fun z => (List.nodup_cons.mp nd).1 (by rw [z]; exact List.mem_cons_of_mem _ List.mem_cons_self)
        have npb : w ≠ p := fun z => (List.nodup_cons.mp (List.nodup_cons.mp nd).2).1 (by rw [z]; exact List.mem_cons_self)
        have npc := (List.nodup_cons.mp (List.nodup_cons.mp (List.nodup_cons.mp nd).2).2).1
        refine do_app (ev_var rfl) (List.mem_cons_of_mem _ (List.mem_cons_of_mem _ List.mem_cons_self)) (ev_tup (ea_cons (ev_var rfl) (ea_cons (ev_var rfl) ea_nil)) (by simp)) (by rw [spine_len]; omega) ?_
        rw [setC_snd npa, setC_snd npb, setC_fst npc]
        refine nx_at ⟨as ++ [(a, w)], _, _, _, _, _, by simp [hl], rfl, ?_⟩
        rw [cells_snoc (by omega)]
        have es : spine (as ++ [(a, w)]) = spine as ++ [.tup [.adr a, .adr w]] := by simp [spine]
        rw [es]
        exact (((List.Perm.swap _ _ _).cons _).trans ((List.Perm.swap _ _ _).trans ((List.perm_append_comm (l₁ := [(a, Cel.lst ((rainBy ns b many i).map Dt.int)), (w, .lst ((wishesBy ns b many i).map Dt.int))])).cons _)))
    · obtain ⟨as, o1, o2, o3, o4, o5, hl, rfl, hperm⟩ := hI
      exact do_ret (ev_var rfl) (hR.rt ⟨p, as, by rw [hl]; simp [daysBy], rfl, hperm⟩)
end Cy

namespace Cy
open PySem L2
local macro_rules | `(tactic| walk_at "lv") => `(tactic| first | exact LV.lst | exact LV.scr | exact LV.own List.mem_cons_self | exact LV.own (List.mem_cons_of_mem _ List.mem_cons_self) | exact LV.own (List.mem_cons_of_mem _ (List.mem_cons_of_mem _ List.mem_cons_self)) | exact LV.own (List.mem_cons_of_mem _ (List.mem_cons_of_mem _ (List.mem_cons_of_mem _ List.mem_cons_self))))
local macro_rules | `(tactic| walk_at "at") => `(tactic| first | exact at_mapN (by assumption) | exact at_map (by omega) (by assumption) | rfl | exact at_of (by omega) (by assumption))
local macro_rules | `(tactic| walk_at "side") => `(tactic| first | assumption | omega | decide)
local macro_rules | `(tactic| walk_at "ea") => `(tactic| first | exact ea_nil | (apply ea_cons; walk_at "ev"; walk_at "ea"))
local macro_rules | `(tactic| walk_at "et") => `(tactic| first
  | exact et_yes
  | (apply et_B; walk_at "ev")
  | (apply et_T; walk_at "ev")
  | (apply et_not; walk_at "et"))
local macro_rules | `(tactic| walk_at "ev") => `(tactic| first
  | exact ev_var rfl
  | exact ev_cint | exact ev_cbl | exact ev_cstr | exact ev_cnon
  | (apply ev_ii; walk_at "ev"; walk_at "ev")
  | (apply ev_ib; walk_at "ev"; walk_at "ev")
  | (apply ev_eqI; walk_at "ev"; walk_at "ev")
  | (apply ev_neI; walk_at "ev"; walk_at "ev")
  | (apply ev_ixL; walk_at "ev"; walk_at "lv"; walk_at "ev"; walk_at "at")
  | (apply ev_ixT; walk_at "ev"; walk_at "ev"; walk_at "at")
  | (apply ev_len; walk_at "ev"; walk_at "lv")
  | (apply ev_lenT; walk_at "ev")
  | (apply ev_min2; walk_at "ev"; walk_at "ev")
  | (apply ev_max2; walk_at "ev"; walk_at "ev")
  | (apply ev_tup; walk_at "ea"; (first | decide | simp | skip))
  | (apply ev_iC; walk_at "ev"; walk_at "ev"; walk_at "cond")
  | (apply ev_fldI; walk_at "cls"; walk_at "cls"; walk_at "ev"; walk_at "iv"; rfl; rfl; rfl)
  | (apply ev_F; walk_at "ef")
  | walk_at "call")
local macro_rules | `(tactic| walk_at "ef") => `(tactic| first
  | (apply ef_list; walk_at "ev"; walk_at "lv")
  | (apply ef_lst; walk_at "ea"; (first | decide | simp | skip)))
local macro_rules | `(tactic| walk_at "iv") => `(tactic| first | exact IV.ins | exact IV.own List.mem_cons_self | exact IV.own (List.mem_cons_of_mem _ List.mem_cons_self) | exact IV.own (List.mem_cons_of_mem _ (List.mem_cons_of_mem _ List.mem_cons_self)) | exact IV.own (List.mem_cons_of_mem _ (List.mem_cons_of_mem _ (List.mem_cons_of_mem _ List.mem_cons_self))))
local macro_rules | `(tactic| walk_at "cond") => `(tactic| first | exact Or.inr (by decide) | exact Or.inl (by decide) | (exact ⟨by decide, by decide⟩) | (show (0 : Int) < _; first | decide | assumption | omega))
local macro_rules | `(tactic| walk_at "cls") => `(tactic| first | assumption | exact YardF.cls (by assumption) | exact YardF.sizes (by assumption) | exact YardF.held (by assumption))
local macro_rules | `(tactic| walk_at "call") => `(tactic| fail "no call")
local macro_rules | `(tactic| walk_at "at") => `(tactic| first | exact at_getD (by first | assumption | omega) | rfl)
local macro_rules | `(tactic| walk_at "call") => `(tactic| (apply ev_drawn; walk_at "ev"; walk_at "ev"; walk_at "ev"; walk_at "side"))
def signL (ns : List Int) : Str := if drawn ns 101 2 = 1 then "0123456789 of" else (" !\"#$&'()*+,-./0123456789:;<=>?@ABCDEFGHIJKLMNOPQRSTUVWXYZ[\\]^_`" : Str) ++ "abcdefghijklmnopqrstuvwxyz{|}~\n\t"
theorem signL_len (ns : List Int) : 0 < (signL ns).length ∧ (signL ns).length ≤ 200 := by
  unfold signL
  split <;> decide +kernel
def signT (ns : List Int) : Str := ⟨#[(signL ns).cps.toList.getD (drawn ns 102 ((signL ns).length : Int)).toNat 0]⟩
def c_l_sign_by (A : Ad) : Ct := pureC (α := List Int) (fun _ => True) (fun ns => [.scr ns]) fun ns => .ok (.str (signT ns))
def rd_l_sign_by (K : Fg) (A : Ad) : TS :=
  tSeq (tAsg (tC (V.str " !\"#$&'()*+,-./0123456789:;<=>?@ABCDEFGHIJKLMNOPQRSTUVWXYZ[\\]^_`")) (gName 1)) 
      (tSeq (tAsg (tOp (rAddS) (tVar 1) (tC (V.str "abcdefghijklmnopqrstuvwxyz{|}~\n\t"))) (gName 1)) 
      (Evl.tCut (tIfS (tTest (tOp (rEq) (tCall (spC K 3 (c_l_drawn A)) [] E0 (tCons (tVar 0) (tCons (tC (V.int 101)) (tCons (tC (V.int 2)) (tNil))))) (tC (V.int 1)))) (tAsg (tC (V.str "0123456789 of")) (gName 1)) (tNext)) 
      (tRet (tOp rIxS (tVar 1) (tCall (spC K 3 (c_l_drawn A)) [] E0 (tCons (tVar 0) (tCons (tC (V.int 102)) (tCons (tCB (rLenStr) (tCons (tVar 1) (tNil))) (tNil)))))))))
theorem sem_l_sign_by {K : Fg} {A : Ad} : ∀ vs H Q E, spC K 1 (c_l_sign_by A) vs H Q E → rd_l_sign_by K A { nx := fun _ H' => Q .non H', rt := Q } (start ["script", "some"] vs) H :=
  body_ok fun ds os P hl hc B D hfp hR hN => by
    obtain ⟨ns, _, rfl, rfl, rfl⟩ := hc
    have hl := signL_len ns
    refine q_asg ev_cstr ?_
    refine q_asg (ev_addS (ev_var rfl) ev_cstr (by decide +kernel)) ?_
    refine do_cut (fun ss os => ss = [some (.scr ns), some (.str (signL ns))] ∧ os = []) (do_if (by walk_at "et") (fun hb => ?_) (fun hb => ?_)) ?_
    · have hb : drawn ns 101 2 = 1 := by simpa using hb
      exact do_asg ev_cstr (nx_at ⟨by unfold signL; rw [if_pos hb]; rfl, rfl⟩)
    · have hb : ¬ drawn ns 101 2 = 1 := by simpa using hb
      exact do_nx (nx_at ⟨by unfold signL; rw [if_neg hb]; rfl, rfl⟩)
    rintro ss os ⟨rfl, rfl⟩
    have hd := drawn_pos ns 102 (many := ((signL ns).length : Int)) (by omega)
    refine do_ret (ev_ixS (c := (signL ns).cps.toList.getD (drawn ns 102 ((signL ns).length : Int)).toNat 0) (ev_var rfl) (ev_drawn (ev_var rfl) ev_cint (ev_lenStr (ev_var rfl) (by omega)) (by omega)) (by omega) (at_of hd.1 ?_)) (hR.rt ⟨rfl, rfl⟩)
    have : (drawn ns 102 ((signL ns).length : Int)).toNat < (signL ns).cps.toList.length := by
      rw [← TL.len_tl]; omega
    rw [List.getD_eq_getElem?_getD, List.getElem?_eq_getElem this]; rfl
def oddL : List Str := (["", "0 of 0", "1 of 0", "0 of 50", "0 of 51", "50 of 50", "00 of 1", "0 of 01", "-1 of 3", "+1 of 3"] : List Str) ++ (["1_0 of 30", "0 off 3", "0 of", "of 3", "0  of 3", "0 of 3 ", " 0 of 3"] : List Str) ++ (["0 of 3 of 4", "0 of 100", "a of b"] : List Str)
def oddT (ns : List Int) : Str := oddL.getD (drawn ns 100 20).toNat ""
theorem odd_len (ns : List Int) : (oddT ns).length ≤ 20 := by
  have h : (oddL.all fun x => decide (x.length ≤ 20)) = true := by decide +kernel
  have hl : oddL.length = 20 := rfl
  have hd := drawn_pos ns 100 (many := 20) (by decide)
  exact of_decide_eq_true (List.all_eq_true.mp h _ (getD_memS (by omega)))
def c_l_odd (A : Ad) : Ct := pureC (α := List Int) (fun _ => True) (fun ns => [.scr ns]) fun ns => .ok (.str (oddT ns))
def rd_l_odd (K : Fg) (A : Ad) : TS :=
  tSeq (tAsg (tLst (tCons (tC (V.str "")) (tCons (tC (V.str "0 of 0")) (tCons (tC (V.str "1 of 0")) (tCons (tC (V.str "0 of 50")) (tCons (tC (V.str "0 of 51")) (tCons (tC (V.str "50 of 50")) (tCons (tC (V.str "00 of 1")) (tCons (tC (V.str "0 of 01")) (tCons (tC (V.str "-1 of 3")) (tCons (tC (V.str "+1 of 3")) (tNil)))))))))))) (gName 1)) 
      (tSeq (tAsg (tOp (rCat) (tVar 1) (tLst (tCons (tC (V.str "1_0 of 30")) (tCons (tC (V.str "0 off 3")) (tCons (tC (V.str "0 of")) (tCons (tC (V.str "of 3")) (tCons (tC (V.str "0  of 3")) (tCons (tC (V.str "0 of 3 ")) (tCons (tC (V.str " 0 of 3")) (tNil)))))))))) (gName 1)) 
      (tSeq (tAsg (tOp (rCat) (tVar 1) (tLst (tCons (tC (V.str "0 of 3 of 4")) (tCons (tC (V.str "0 of 100")) (tCons (tC (V.str "a of b")) (tNil)))))) (gName 1)) 
      (tRet (tOp (rIxL K) (tVar 1) (tCall (spC K 3 (c_l_drawn A)) [] E0 (tCons (tVar 0) (tCons (tC (V.int 100)) (tCons (tC (V.int 20)) (tNil)))))))))
theorem sem_l_odd {K : Fg} {A : Ad} : ∀ vs H Q E, spC K 1 (c_l_odd A) vs H Q E → rd_l_odd K A { nx := fun _ H' => Q .non H', rt := Q } (start ["script", "some"] vs) H :=
  body_ok fun ds os P hl hc B D hfp hR hN => by
    obtain ⟨ns, _, rfl, rfl, rfl⟩ := hc
    have hl : oddL.length = 20 := rfl
    have hd := drawn_pos ns 100 (many := 20) (by decide)
    have cs : ∀ {ss : SS} {os : Own}, ∀ x : Str, Ev K (tC (V.str x)) ss os (.str x) := fun x => ev_cstr
    refine q_asg (ev_F (ef_lst (ea_cons ev_cstr (ea_cons ev_cstr (ea_cons ev_cstr (ea_cons ev_cstr (ea_cons ev_cstr (ea_cons ev_cstr (ea_cons ev_cstr (ea_cons ev_cstr (ea_cons ev_cstr (ea_cons ev_cstr ea_nil)))))))))) (by simp))) ?_
    refine q_asg (ev_F (ef_cat (ev_var rfl) LV.lst (ev_F (ef_lst (ea_cons ev_cstr (ea_cons ev_cstr (ea_cons ev_cstr (ea_cons ev_cstr (ea_cons ev_cstr (ea_cons ev_cstr (ea_cons ev_cstr ea_nil))))))) (by simp))) LV.lst (by simp) (by simp) (by simp))) ?_
    refine q_asg (d := .lst (oddL.map Dt.str)) (ev_is (ev_F (ef_cat (ev_var rfl) LV.lst (ev_F (ef_lst (ea_cons ev_cstr (ea_cons ev_cstr (ea_cons ev_cstr ea_nil))) (by simp))) LV.lst (by simp) (by simp) (by simp))) rfl) ?_
    exact do_ret (ev_ixL (ev_var rfl) LV.lst (by walk_at "ev") (at_map hd.1 (f := Dt.str) (v := oddT ns) (by unfold oddT; rw [List.getD_eq_getElem?_getD, List.getElem?_eq_getElem (show (drawn ns 100 20).toNat < oddL.length by omega)]; rfl))) (hR.rt ⟨rfl, rfl⟩)
def c_l_spoilt (A : Ad) : Ct := fun ds os P => ∃ (ns : List Int) (x : Str), x.length ≤ 36 ∧ ds = [.scr ns, .str x] ∧ os = [] ∧ P = fun r os' => ∃ t : Str, t.length ≤ 10000 ∧ r = .ok (.str t) ∧ os' = []
def rd_l_spoilt (K : Fg) (A : Ad) : TS :=
  tSeq (tAsg (tCall (spC K 3 (c_l_drawn A)) [] E0 (tCons (tVar 0) (tCons (tC (V.int 103)) (tCons (tC (V.int 8)) (tNil))))) (gName 2)) 
      (tSeq (tAsg (tCall (spC K 3 (c_l_drawn A)) [] E0 (tCons (tVar 0) (tCons (tC (V.int 104)) (tCons (tOp (rI0 fun i j => V.int (i + j)) (tCB (rLenStr) (tCons (tVar 1) (tNil))) (tC (V.int 1))) (tNil))))) (gName 3)) 
      (tSeq (tAsg (tSplit (tVar 1) (tC (V.str "\n"))) (gName 4)) 
      (tSeq (tAsg (tCall (spC K 3 (c_l_drawn A)) [] E0 (tCons (tVar 0) (tCons (tC (V.int 105)) (tCons (tOp (rI0 fun i j => V.int (i + j)) (tCB (Evl.rLenS K) (tCons (tVar 4) (tNil))) (tC (V.int 1))) (tNil))))) (gName 5)) 
      (tSeq (tIfS (tTest (tOp (rEq) (tVar 2) (tC (V.int 0)))) (tRet (tOp (rAddS) (tOp (rAddS) (tSl rSlS (tVar 1) (tNoPart) (tPart (tVar 3))) (tCall (spC K 1 (c_l_sign_by A)) [] E0 (tCons (tVar 0) (tNil)))) (tSl rSlS (tVar 1) (tPart (tVar 3)) (tNoPart)))) (tNext)) 
      (tSeq (tIfS (tTest (tOp (rEq) (tVar 2) (tC (V.int 1)))) (tRet (tOp (rAddS) (tSl rSlS (tVar 1) (tNoPart) (tPart (tVar 3))) (tSl rSlS (tVar 1) (tPart (tOp (rI0 fun i j => V.int (i + j)) (tVar 3) (tC (V.int 1)))) (tNoPart)))) (tNext)) 
      (tSeq (tIfS (tTest (tOp (rEq) (tVar 2) (tC (V.int 2)))) (tRet (tOp (rAddS) (tOp (rAddS) (tSl rSlS (tVar 1) (tNoPart) (tPart (tVar 3))) (tCall (spC K 1 (c_l_sign_by A)) [] E0 (tCons (tVar 0) (tNil)))) (tSl rSlS (tVar 1) (tPart (tOp (rI0 fun i j => V.int (i + j)) (tVar 3) (tC (V.int 1)))) (tNoPart)))) (tNext)) 
      (tSeq (tIfS (tTest (tOp (rEq) (tVar 2) (tC (V.int 3)))) (tRet (tJoin K (tC (V.str "\n")) (tOp (rCat) (tOp (rCat) (tSl (rSlL K) (tVar 4) (tNoPart) (tPart (tVar 5))) (tLst (tCons (tCall (spC K 1 (c_l_odd A)) [] E0 (tCons (tVar 0) (tNil))) (tNil)))) (tSl (rSlL K) (tVar 4) (tPart (tVar 5)) (tNoPart))))) (tNext)) 
      (tSeq (tIfS (tTest (tOp (rEq) (tVar 2) (tC (V.int 4)))) (tRet (tJoin K (tC (V.str "\n")) (tOp (rCat) (tOp (rCat) (tSl (rSlL K) (tVar 4) (tNoPart) (tPart (tVar 5))) (tLst (tCons (tCall (spC K 1 (c_l_odd A)) [] E0 (tCons (tVar 0) (tNil))) (tNil)))) (tSl (rSlL K) (tVar 4) (tPart (tOp (rI0 fun i j => V.int (i + j)) (tVar 5) (tC (V.int 1)))) (tNoPart))))) (tNext)) 
      (tSeq (tIfS (tTest (tOp (rEq) (tVar 2) (tC (V.int 5)))) (tRet (tJoin K (tC (V.str "\n")) (tOp (rCat) (tVar 4) (tOp (rRep) (tLst (tCons (tC (V.str "2 of 3")) (tNil))) (tOp (rI0 fun i j => V.int (i + j)) (tC (V.int 1)) (tCall (spC K 3 (c_l_drawn A)) [] E0 (tCons (tVar 0) (tCons (tC (V.int 106)) (tCons (tC (V.int 2)) (tNil)))))))))) (tNext)) 
      (tSeq (tIfS (tTest (tOp (rEq) (tVar 2) (tC (V.int 6)))) (tRet (tJoin K (tC (V.str "\n")) (tOp (rCat) (tSl (rSlL K) (tVar 4) (tNoPart) (tPart (tVar 5))) (tSl (rSlL K) (tVar 4) (tPart (tOp (rI0 fun i j => V.int (i + j)) (tVar 5) (tC (V.int 1)))) (tNoPart))))) (tNext)) 
      (tRet (tVar 1))))))))))))
theorem sem_l_spoilt {K : Fg} {A : Ad} : ∀ vs H Q E, spC K 2 (c_l_spoilt A) vs H Q E → rd_l_spoilt K A { nx := fun _ H' => Q .non H', rt := Q } (start ["script", "shown", "way", "at", "lines", "k"] vs) H :=
  body_ok fun ds os P hl hc B D hfp hR hN => by
    obtain ⟨ns, x, hx, rfl, rfl, rfl⟩ := hc
    have hs : ∀ {ss : SS} {os : Own}, ss[0]? = some (some (.scr ns)) → Ev K (tCall (spC K 1 (c_l_sign_by A)) [] E0 (tCons (tVar 0) tNil)) ss os (.str (signT ns)) := fun e => ev_call ns (ea_cons (ev_var e) ea_nil) rfl trivial rfl
    have ho : ∀ {ss : SS} {os : Own}, ss[0]? = some (some (.scr ns)) → Ev K (tCall (spC K 1 (c_l_odd A)) [] E0 (tCons (tVar 0) tNil)) ss os (.str (oddT ns)) := fun e => ev_call ns (ea_cons (ev_var e) ea_nil) rfl trivial rfl
    have hs1 : (signT ns).length = 1 := rfl
    have ho1 := odd_len ns
    obtain ⟨g1, _, g3⟩ := split_len x "\n" (by rw [tl_nl]; simp) (by decide +kernel)
    have hnl : ("\n" : Str).length = 1 := by decide +kernel
    refine q_asg (d := .int (drawn ns 103 8)) (by walk_at "ev") ?_
    have ha := drawn_pos ns 104 (many := (x.length : Int) + 1) (by omega)
    refine q_asg (d := .int (drawn ns 104 ((x.length : Int) + 1))) (ev_drawn (ev_var rfl) ev_cint (ev_ii (ev_lenStr (ev_var rfl) (by omega)) ev_cint) (by omega)) ?_
    refine q_asg (d := .lst ((Txt.split x "\n").map Dt.str)) (ev_F (ef_split (ev_var rfl) ev_cstr (by decide +kernel) (by omega))) ?_
    generalize Txt.split x "\n" = lines at g1 g3 ⊢
    have hk := drawn_pos ns 105 (many := (lines.length : Int) + 1) (by omega)
    refine q_asg (d := .int (drawn ns 105 ((lines.length : Int) + 1))) (ev_drawn (ev_var rfl) ev_cint (ev_ii (ev_is (ev_len (ev_var rfl) LV.lst) (by rw [List.length_map])) ev_cint) (by omega)) ?_
    generalize drawn ns 103 8 = way
    generalize drawn ns 104 ((x.length : Int) + 1) = a at ha
    generalize drawn ns 105 ((lines.length : Int) + 1) = k at hk
    have fin : ∀ {B' : Bs} {t : Str}, B.Le B' → t.length ≤ 10000 → Rt K B' D.rt (.str t) [] := fun {B' t} le h => (hR.up le).rt ⟨t, h, rfl, rfl⟩
    have cl := fun lo hi => cutS_len x lo hi
    have sl : ∀ {ss : SS} {lo hi : Option Int} {tl th : TO}, ss[1]? = some (some (.str x)) → EvO K tl ss [] lo → EvO K th ss [] hi → Ev K (tSl rSlS (tVar 1) tl th) ss [] (.str (cutS x lo hi)) := fun e h1 h2 => ev_slS (ev_var e) (by omega) h1 h2
    have ll : ∀ {ss : SS} {lo hi : Option Int} {tl th : TO}, ss[4]? = some (some (.lst (lines.map Dt.str))) → EvO K tl ss [] lo → EvO K th ss [] hi → Ev K (tSl (rSlL K) (tVar 4) tl th) ss [] (.lst ((cutG lines lo hi).map Dt.str)) := fun {ss lo hi tl th} e h1 h2 => by
      have := ef_sl (ev_var e) LV.lst h1 h2
      rw [cutD_map] at this
      exact ev_F this
    have jl : ∀ {ys : List Str}, (∀ y ∈ ys, y.length ≤ 36) → ys.length ≤ 80 → (ys.map (·.length)).sum + ys.length * 1 ≤ 3000 := fun {ys} h1 h2 => by
      have := sum_lenC ys h1
      omega
    have join : ∀ {ss : SS} {te : TE} {ys : List Str}, Ev K te ss [] (.lst (ys.map Dt.str)) → (∀ y ∈ ys, y.length ≤ 36) → ys.length ≤ 80 → Do K B (tRet (tJoin K (tC (V.str "\n")) te)) ss [] D := fun {ss te ys} h h1 h2 => by
      have h3 := jl h1 h2
      refine do_ret (ev_join ev_cstr h LV.lst (by rw [hnl]; omega)) (fin (Bs.Le.refl _) ?_)
      have := join_len "\n" ys
      rw [hnl] at this
      omega
    have g3 : ∀ y ∈ lines, y.length ≤ 36 := fun y hy => by have := g3 y hy; omega
    have cg := fun lo hi => cutG_len lines lo hi
    refine q_when (et_T (ev_eqI (ev_var rfl) ev_cint)) (fun hb => ?_) (fun hb => ?_)
    · have c1 := cl none (some a); have c2 := cl (some a) none
      exact do_ret (ev_addS (ev_addS (sl rfl eo_none (eo_some (ev_var rfl))) (hs rfl) (by omega)) (sl rfl (eo_some (ev_var rfl)) eo_none) (by rw [len_append]; omega)) (fin (Bs.Le.refl _) (by rw [len_append, len_append]; omega))
    refine q_when (et_T (ev_eqI (ev_var rfl) ev_cint)) (fun hb => ?_) (fun hb => ?_)
    · have c1 := cl none (some a); have c2 := cl (some (a + 1)) none
      exact do_ret (ev_addS (sl rfl eo_none (eo_some (ev_var rfl))) (sl rfl (eo_some (ev_ii (ev_var rfl) ev_cint)) eo_none) (by omega)) (fin (Bs.Le.refl _) (by rw [len_append]; omega))
    refine q_when (et_T (ev_eqI (ev_var rfl) ev_cint)) (fun hb => ?_) (fun hb => ?_)
    · have c1 := cl none (some a); have c2 := cl (some (a + 1)) none
      exact do_ret (ev_addS (ev_addS (sl rfl eo_none (eo_some (ev_var rfl))) (hs rfl) (by omega)) (sl rfl (eo_some (ev_ii (ev_var rfl) ev_cint)) eo_none) (by rw [len_append]; omega)) (fin (Bs.Le.refl _) (by rw [len_append, len_append]; omega))
    have cat3 : ∀ {ss : SS} {t1 t2 : TE} {xs ys : List Str}, Ev K t1 ss [] (.lst (xs.map Dt.str)) → Ev K t2 ss [] (.lst (ys.map Dt.str)) → xs.length ≤ 100 → ys.length ≤ 100 → Ev K (tOp rCat t1 t2) ss [] (.lst ((xs ++ ys).map Dt.str)) := fun {ss t1 t2 xs ys} h1 h2 l1 l2 => by
      rw [List.map_append]
      exact ev_F (ef_cat h1 LV.lst h2 LV.lst (by simp) (by simp) (by simp; omega))
    have one : ∀ {ss : SS}, ss[0]? = some (some (.scr ns)) → Ev K (tLst (tCons (tCall (spC K 1 (c_l_odd A)) [] E0 (tCons (tVar 0) tNil)) tNil)) ss [] (.lst ([oddT ns].map Dt.str)) := fun e => ev_F (ef_lst (ea_cons (ho e) ea_nil) (by simp))
    have mem3 : ∀ {lo hi lo2 hi2 : Option Int}, ∀ y ∈ cutG lines lo hi ++ [oddT ns] ++ cutG lines lo2 hi2, y.length ≤ 36 := fun {lo hi lo2 hi2} y hy => by
      rcases List.mem_append.mp hy with hy | hy
      · rcases List.mem_append.mp hy with hy | hy
        · exact g3 y (cutG_mem hy)
        · have : y = oddT ns := by simpa using hy
          subst this
          omega
      · exact g3 y (cutG_mem hy)
    refine q_when (et_T (ev_eqI (ev_var rfl) ev_cint)) (fun hb => ?_) (fun hb => ?_)
    · have c1 := cg none (some k); have c2 := cg (some k) none
      exact join (cat3 (cat3 (ll rfl eo_none (eo_some (ev_var rfl))) (one rfl) (by omega) (by simp)) (ll rfl (eo_some (ev_var rfl)) eo_none) (by simp; omega) (by omega)) mem3 (by simp; omega)
    refine q_when (et_T (ev_eqI (ev_var rfl) ev_cint)) (fun hb => ?_) (fun hb => ?_)
    · have c1 := cg none (some k); have c2 := cg (some (k + 1)) none
      exact join (cat3 (cat3 (ll rfl eo_none (eo_some (ev_var rfl))) (one rfl) (by omega) (by simp)) (ll rfl (eo_some (ev_ii (ev_var rfl) ev_cint)) eo_none) (by simp; omega) (by omega)) mem3 (by simp; omega)
    refine q_when (et_T (ev_eqI (ev_var rfl) ev_cint)) (fun hb => ?_) (fun hb => ?_)
    · have hd := drawn_pos ns 106 (many := 2) (by decide)
      refine join (ys := lines ++ List.replicate (1 + drawn ns 106 2).toNat ("2 of 3" : Str)) (cat3 (ev_var rfl) (ev_is (ev_F (ef_rep1 (z := .str "2 of 3") (ev_F (ef_lst (ea_cons ev_cstr ea_nil) (by simp))) (ev_ii ev_cint (by walk_at "ev")) (by omega) (by omega))) (by rw [List.map_replicate])) (by omega) (by simp; omega)) (fun y hy => ?_) (by simp; omega)
      rcases List.mem_append.mp hy with hy | hy
      · exact g3 y hy
      · rw [(List.mem_replicate.mp hy).2]
        decide +kernel
    refine q_when (et_T (ev_eqI (ev_var rfl) ev_cint)) (fun hb => ?_) (fun hb => ?_)
    · have c1 := cg none (some k); have c2 := cg (some (k + 1)) none
      exact join (cat3 (ll rfl eo_none (eo_some (ev_var rfl))) (ll rfl (eo_some (ev_ii (ev_var rfl) ev_cint)) eo_none) (by omega) (by omega)) (fun y hy => by
        rcases List.mem_append.mp hy with hy | hy
        · exact g3 y (cutG_mem hy)
        · exact g3 y (cutG_mem hy)) (by simp; omega)
    exact do_ret (ev_var rfl) (fin (Bs.Le.refl _) (by omega))
theorem ef_roomsT {K : Fg} {A : Ad} {ss : SS} {os : Own} {tx : TE} {E : XK} {rooms : List Int} {x : Dt} (hx : Ev K tx ss os (yd A rooms x)) : EvF K (tMeth A.Yard "rooms" (spC K 1 (c_Yard_rooms A)) [] E tx tNil) ss os (rooms.map Dt.int) :=
  ef_methL hx IV.ins (by decide +kernel) ea_nil (Fms.refl _) rfl ⟨rooms, x, rfl, rfl, rfl⟩ (Thins.ints _)
/-- what BadText is -/
abbrev BtF (K : Fg) (A : Ad) : Prop := ErrF K A.BadText A.YardError A.BadYard A.BadDays A.BadLine A.BadText (some false) (some false) (some false) (some true)
theorem isNon_due {t : Str} : isNon (dueD t) = !textOk t := by
  unfold dueD
  cases textOk t <;> rfl
def rd_law (K : Fg) (A : Ad) : TS :=
  tSeq (tAsg (tCall (spC K 2 (c_l_yard_by A)) [] E0 (tCons (tVar 0) (tCons (tC (V.int 0)) (tNil)))) (gName 1)) 
      (tSeq (tAsg (tJoin K (tC (V.str "\n")) (tLc (iRng1 (tCons (tCB (Evl.rLenS K) (tCons (tOp (rIxT K) (tVar 1) (tC (V.int 0))) (tNil))) (tNil))) (gName 8) (tYes) (tOp (rAddS) (tOp (rAddS) (tCB (rStrI) (tCons (tOp (rIxL K) (tOp (rIxT K) (tVar 1) (tC (V.int 1))) (tVar 8)) (tNil))) (tC (V.str " of "))) (tCB (rStrI) (tCons (tOp (rIxL K) (tOp (rIxT K) (tVar 1) (tC (V.int 0))) (tVar 8)) (tNil)))) ([8] : List Nat))) (gName 2)) 
      (tSeq (tAsg (tCall (spC K 2 (c_l_spoilt A)) [] E0 (tCons (tVar 0) (tCons (tVar 2) (tNil)))) (gName 3)) 
      (tSeq (tAsg (tCall (spC K 1 (c_l_due A)) [] E0 (tCons (tVar 3) (tNil))) (gName 4)) 
      (Evl.tCut (tTryAs K (.ref A.YardError) 6 (fun W => tAsg (tCallS (spC K 1 (c_read A)) (WE W) (tCons (tVar 3) (tNil))) (gName 5)) (fun a cls d => tSeq (tAsg (tLst (tCons (tIsE K cls d a (tVar 6) (V.ref A.BadText)) (tCons (tIsE K cls d a (tVar 6) (V.ty "ValueError")) (tCons (tIsE K cls d a (tVar 6) (V.ref A.BadYard)) (tCons (tIsE K cls d a (tVar 6) (V.ref A.BadDays)) (tNil)))))) (gName 7)) 
        (tRet (tAndV (tIsN (tVar 4)) (tOp (rEqD K) (tOp (rCat) (tVar 7) (tLst (tCons (tIsE K cls d a (tVar 6) (V.ref A.BadLine)) (tNil)))) (tLst (tCons (tC (V.bl true)) (tCons (tC (V.bl true)) (tCons (tC (V.bl false)) (tCons (tC (V.bl false)) (tCons (tC (V.bl false)) (tNil))))))))))) (fun _ _ _ _ => False)) 
      (tRet (tAndV (tNotN (tVar 4)) (tAndV (tCall (spC K 2 (c_l_row A)) [] E0 (tCons (tMeth A.Yard "rooms" (spC K 1 (c_Yard_rooms A)) [] E0 (tVar 5) tNil) (tCons (tOp (rIxT K) (tVar 4) (tC (V.int 0))) (tNil)))) (tCall (spC K 2 (c_l_row A)) [] E0 (tCons (tMeth A.Yard "waters" (spC K 1 (c_Yard_waters A)) [] E0 (tVar 5) tNil) (tCons (tOp (rIxT K) (tVar 4) (tC (V.int 1))) (tNil)))))))))))
theorem sem_law {K : Fg} {A : Ad} (bt : BtF K A) : ∀ vs H Q E, spC K 1 (c_law A) vs H Q E → rd_law K A { nx := fun _ H' => Q .non H', rt := Q } (start ["script", "made", "shown", "signs", "due", "found", "e", "marks", "k"] vs) H :=
  body_ok fun ds os P hl hc B D hfp hR hN => by
    obtain ⟨ns, hns, rfl, rfl, rfl⟩ := hc
    have hB : B.fp = [] := hfp
    have Y := yardBy_wf ns 0
    refine q_asg (d := .tup [iL (roomsBy ns 0), iL (watersBy ns 0)]) (ev_call (ns, 0) (by walk_at "ea") rfl trivial rfl) ?_
    generalize roomsBy ns 0 = rooms at Y ⊢
    generalize watersBy ns 0 = held at Y ⊢
    have h4 := Y.four
    have h1 := Y.pos
    have hlen := Y.len
    have hsm : ∀ i : Int, 0 ≤ i ∧ i ≤ 50 → i.natAbs.log2 < 1920 := fun i h => by
      have : i.natAbs.log2 ≤ i.natAbs := Nat.log2_le_self _
      omega
    have hof : (" of " : Str).length = 4 := by decide +kernel
    have hnl : ("\n" : Str).length = 1 := by decide +kernel
    refine q_asg (d := .str (writtenT rooms held)) (ev_join (ys := (List.range (rooms.length : Int).toNat).map (tankT rooms held)) (x := .lst (((List.range (rooms.length : Int).toNat).map (tankT rooms held)).map Dt.str)) ev_cstr (ev_F ?_) LV.lst ?_) ?_
    · rw [List.map_map]
      exact ef_mapR (n := (rooms.length : Int)) (fun k => .str (tankT rooms held k)) (ea_cons (ev_is (ev_len (ev_ixT (ev_var rfl) ev_cint rfl) LV.lst) (by rw [List.length_map])) ea_nil) (by omega) (by omega) fun k hk => ⟨_, tw_name, by
        have hk : k < rooms.length := by omega
        have w := Y.water k hk
        have r := Y.room k hk
        have l1 := (num_text (i := held.getD k 0) (by omega)).2.2.1
        have l2 := (num_text r).2.2.1
        exact ev_addS (ev_addS (ev_strI (ev_ixL (ev_ixT (ev_var rfl) ev_cint rfl) LV.lst (ev_var rfl) (at_getD (by omega))) (hsm _ (by omega))) ev_cstr (by omega)) (ev_strI (ev_ixL (ev_ixT (ev_var rfl) ev_cint rfl) LV.lst (ev_var rfl) (at_getD hk)) (hsm _ r)) (by rw [len_append]; omega)⟩
    · have h1 := sum_lenC (c := 8) ((List.range (rooms.length : Int).toNat).map (tankT rooms held)) fun y hy => by
        obtain ⟨k, hk, rfl⟩ := List.mem_map.mp hy
        exact tank_len Y (by have := List.mem_range.mp hk; omega)
      have h2 : ((List.range (rooms.length : Int).toNat).map (tankT rooms held)).length = rooms.length := by simp
      rw [h2] at h1 ⊢
      rw [hnl]
      omega
    have hwl : (writtenT rooms held).length ≤ 36 := by
      have := text_len Y (Nat.le_refl _)
      show (Txt.join "\n" (tanksT rooms held rooms.length)).length ≤ 36
      omega
    refine q_asgM (em_call (osp := []) (osr := []) (ds := [.scr ns, .str (writtenT rooms held)]) (ea_cons (ev_var rfl) (ea_cons (ev_var rfl) ea_nil)) rfl (List.Perm.refl _) ⟨ns, _, hwl, rfl, rfl, rfl⟩ (fun C os' h => by obtain ⟨_, _, z, _⟩ := h; cases z)) fun d os' hd => ?_
    obtain ⟨os1, ⟨t, ht, e, rfl⟩, rfl⟩ := hd
    cases e
    have tb := textB ht
    refine q_asg (d := dueD t) (ev_callC (ea_cons (ev_var rfl) ea_nil) rfl ⟨t, ht, rfl, rfl, rfl⟩) ?_
    have hnd := isNon_due (t := t)
    refine do_cut (fun ss os => textOk t = true ∧ ∃ p h, ss = [some (.scr ns), some (.tup [iL rooms, iL held]), some (.str (writtenT rooms held)), some (.str t), some (dueD t), some (.adr p), none, none, none] ∧ os = [(p, .ins A.Yard ["sizes", "held"] [iL ((linesT t).map roomT), .adr h]), (h, .lst (((linesT t).map waterT).map Dt.int))])
      (do_try (do_asgX (ex_call (osp := []) (osr := []) (ds := [.str t]) (P := fun r os' => if textOk t = true then ∃ p h, h ≠ p ∧ r = .ok (.adr p) ∧ os' = [(p, .ins A.Yard ["sizes", "held"] [iL ((linesT t).map roomT), .adr h]), (h, .lst (((linesT t).map waterT).map Dt.int))] else r = .er A.BadText ∧ os' = []) (ea_cons (ev_var rfl) ea_nil) rfl (List.Perm.refl _) ⟨t, tb.len, tb.lines, tb.words, rfl, rfl, rfl⟩) (fun d os' hd => ?_) fun C os' hd => ?_)) ?_
    · obtain ⟨os1, hP, rfl⟩ := hd
      by_cases e : textOk t = true
      · rw [if_pos e] at hP
        obtain ⟨p, h, ne, e2, rfl⟩ := hP
        cases e2
        exact nx_at ⟨e, p, h, rfl, by simp⟩
      · rw [if_neg e] at hP
        cases hP.1
    · obtain ⟨os1, hP, rfl⟩ := hd
      by_cases e : textOk t = true
      · rw [if_pos e] at hP
        obtain ⟨_, _, _, e2, _⟩ := hP
        cases e2
      · rw [if_neg e] at hP
        obtain ⟨e2, rfl⟩ := hP
        cases e2
        have e : textOk t = false := by simpa using e
        refine xts_as bt.ye fun a => ?_
        refine q_asg (d := .lst [.bl true, .bl true, .bl false, .bl false]) (ev_F (ef_lst (ea_cons (ev_isE bt.cls (ev_var rfl) (.own _) bt.bt) (ea_cons (ev_isE bt.cls (ev_var rfl) (.ty _) bt.ve) (ea_cons (ev_isE bt.cls (ev_var rfl) (.own _) bt.by_) (ea_cons (ev_isE bt.cls (ev_var rfl) (.own _) bt.bd) ea_nil)))) (by simp))) ?_
        refine do_ret (d := .bl true) (ev_is (ev_andV (ev_isN (ev_var rfl)) fun _ => ev_eqD (ev_F (ef_cat (ev_var rfl) LV.lst (ev_F (ef_lst (ea_cons (ev_isE bt.cls (ev_var rfl) (.own _) bt.bl) ea_nil) (by simp))) LV.lst (by simp) (by simp) (by simp))) (ev_F (ef_lst (ea_cons ev_cbl (ea_cons ev_cbl (ea_cons ev_cbl (ea_cons ev_cbl (ea_cons ev_cbl ea_nil))))) (by simp)))
          (.lst (n := 0) (.cons (.bl _) (.cons (.bl _) (.cons (.bl _) (.cons (.bl _) (.cons (.bl _) .nil)))))) (.lst (n := 0) (.cons (.bl _) (.cons (.bl _) (.cons (.bl _) (.cons (.bl _) (.cons (.bl _) .nil)))))) (by decide) (by decide)) (by rw [hnd, e]; rfl)) (hR.rt ⟨rfl, rfl⟩)
    rintro ss os ⟨e, p, h, rfl, rfl⟩
    have hdue : dueD t = .tup [iL ((linesT t).map roomT), iL ((linesT t).map waterT)] := by unfold dueD; rw [if_pos e]
    have hl4 := (textOk_iff.mp e).2
    have hr1 : ((linesT t).map roomT).length < 1000 := by rw [List.length_map]; omega
    have hr2 : ((linesT t).map waterT).length < 1000 := by rw [List.length_map]; omega
    rw [hdue] at hnd ⊢
    generalize (linesT t).map roomT = rs at hr1 ⊢
    generalize (linesT t).map waterT = ws at hr2 ⊢
    refine do_frz (p := p) (c := .ins A.Yard ["sizes", "held"] [iL rs, .adr h]) (os0 := [(h, .lst (ws.map Dt.int))]) (List.Perm.refl _) (fun _ z => by cases z) (by rw [hB]; simp) (FzS.at 5 rfl .here) (FzO.refl _) ?_
    refine do_ret (d := .bl true) (ev_is (ev_andV (ev_notN (ev_var rfl)) fun _ => ev_andV (ev_call (rs, rs) (ea_cons (ev_F (ef_roomsT (ev_var rfl))) (ea_cons (ev_ixT (ev_var rfl) ev_cint rfl) ea_nil)) rfl hr1 rfl) fun _ => ev_call (ws, ws) (ea_cons (ev_F (ef_waters (ev_var rfl) List.mem_cons_self)) (ea_cons (ev_ixT (ev_var rfl) ev_cint rfl) ea_nil)) rfl hr2 rfl) (by simp [isNon])) (rt_sub (hR.rt ⟨rfl, rfl⟩) (by simp) (by simp))
end Cy

set_option maxHeartbeats 0
namespace Cy
open PySem L2
/-! ### the text by places -/
def topL (i : Nat) : Stmt := PySem.Challenge.pw_cisternyard_k13_texts_refused.main.body.getD i (.Pass ⟨0, 0, 0, 0⟩)
abbrev FnP (K : Fg) (x q : Str) (st : Stmt) (f : Addr) (fd : FuncData) : Prop := FunD K x q (defArgs st) (defBody st) (defScope st) [] [] f fd
abbrev s_l_drawn : Stmt := topL 18
theorem sc_l_drawn : FnScope ["script", "k", "many", "cell", "stir"] ["script", "k", "many"] (defScope s_l_drawn) := ⟨rfl, rfl, rfl, by decide +kernel, rfl, by decide +kernel, by decide +kernel⟩
abbrev s_l_yard_by : Stmt := topL 22
theorem sc_l_yard_by : FnScope ["script", "base", "many", "top", "rooms", "waters", "k"] ["script", "base"] (defScope s_l_yard_by) := ⟨rfl, rfl, rfl, by decide +kernel, rfl, by decide +kernel, by decide +kernel⟩
abbrev s_l_sign_by : Stmt := topL 27
theorem sc_l_sign_by : FnScope ["script", "some"] ["script"] (defScope s_l_sign_by) := ⟨rfl, rfl, rfl, by decide +kernel, rfl, by decide +kernel, by decide +kernel⟩
abbrev s_l_odd : Stmt := topL 28
theorem sc_l_odd : FnScope ["script", "some"] ["script"] (defScope s_l_odd) := ⟨rfl, rfl, rfl, by decide +kernel, rfl, by decide +kernel, by decide +kernel⟩
abbrev s_l_spoilt : Stmt := topL 29
theorem sc_l_spoilt : FnScope ["script", "shown", "way", "at", "lines", "k"] ["script", "shown"] (defScope s_l_spoilt) := ⟨rfl, rfl, rfl, by decide +kernel, rfl, by decide +kernel, by decide +kernel⟩
abbrev s_l_number : Stmt := topL 25
theorem sc_l_number : FnScope ["word", "letter"] ["word"] (defScope s_l_number) := ⟨rfl, rfl, rfl, by decide +kernel, rfl, by decide +kernel, by decide +kernel⟩
abbrev s_l_due : Stmt := topL 26
theorem sc_l_due : FnScope ["signs", "lines", "rooms", "waters", "line", "words", "numbers"] ["signs"] (defScope s_l_due) := ⟨rfl, rfl, rfl, by decide +kernel, rfl, by decide +kernel, by decide +kernel⟩
abbrev s_number_of : Stmt := topL 15
theorem sc_number_of : FnScope ["word", "sign"] ["word"] (defScope s_number_of) := ⟨rfl, rfl, rfl, by decide +kernel, rfl, by decide +kernel, by decide +kernel⟩
abbrev s_within : Stmt := topL 10
theorem sc_within : FnScope ["numbers", "most", "number"] ["numbers", "most"] (defScope s_within) := ⟨rfl, rfl, rfl, by decide +kernel, rfl, by decide +kernel, by decide +kernel⟩
abbrev s_Yard_init : Stmt := inClass (topL 11) 0
theorem sc_Yard_init : FnScope ["self", "rooms", "waters", "k"] ["self", "rooms", "waters"] (defScope s_Yard_init) := ⟨rfl, rfl, rfl, by decide +kernel, rfl, by decide +kernel, by decide +kernel⟩
abbrev s_read : Stmt := topL 16
theorem sc_read : FnScope ["text", "rooms", "waters", "line", "words"] ["text"] (defScope s_read) := ⟨rfl, rfl, rfl, by decide +kernel, rfl, by decide +kernel, by decide +kernel⟩
abbrev s_Yard_waters : Stmt := inClass (topL 11) 2
theorem sc_Yard_waters : FnScope ["self"] ["self"] (defScope s_Yard_waters) := ⟨rfl, rfl, rfl, by decide +kernel, rfl, by decide +kernel, by decide +kernel⟩
abbrev s_l_whole : Stmt := topL 19
theorem sc_l_whole : FnScope ["found"] ["found"] (defScope s_l_whole) := ⟨rfl, rfl, rfl, by decide +kernel, rfl, by decide +kernel, by decide +kernel⟩
abbrev s_l_row : Stmt := topL 20
theorem sc_l_row : FnScope ["found", "due", "k"] ["found", "due"] (defScope s_l_row) := ⟨rfl, rfl, rfl, by decide +kernel, rfl, by decide +kernel, by decide +kernel⟩
abbrev s_Yard_rooms : Stmt := inClass (topL 11) 1
theorem sc_Yard_rooms : FnScope ["self"] ["self"] (defScope s_Yard_rooms) := ⟨rfl, rfl, rfl, by decide +kernel, rfl, by decide +kernel, by decide +kernel⟩
abbrev s_law : Stmt := topL 30
theorem sc_law : FnScope ["script", "made", "shown", "signs", "due", "found", "e", "marks", "k"] ["script"] (defScope s_law) := ⟨rfl, rfl, rfl, by decide +kernel, rfl, by decide +kernel, by decide +kernel⟩
/-! ### what the top leaves -/
structure Tx (K : Fg) (mg : Str → Option Value) : Prop where
  free_len : mg "len" = none
  free_range : mg "range" = none
  free_str : mg "str" = none
  free_int : mg "int" = none
  exc_BadText : ExcF K mg "BadText" (ad K).BadText
  str_FIGURES : ∃ t, mg "FIGURES" = some (.str "0123456789" t)
  int_MOST_TANKS : ∃ t, mg "MOST_TANKS" = some (.int 4 t)
  exc_BadYard : ExcF K mg "BadYard" (ad K).BadYard
  int_MOST_ROOM : ∃ t, mg "MOST_ROOM" = some (.int 50 t)
  free_list : mg "list" = none
  glo_BadYard : mg "BadYard" = some (.ref (ad K).BadYard)
  free_isinstance : mg "isinstance" = none
  glo_BadDays : mg "BadDays" = some (.ref (ad K).BadDays)
  free_ValueError : mg "ValueError" = none
  glo_BadText : mg "BadText" = some (.ref (ad K).BadText)
  glo_BadLine : mg "BadLine" = some (.ref (ad K).BadLine)
  glo_YardError : mg "YardError" = some (.ref (ad K).YardError)
  free_bool : mg "bool" = none
  exm_BadYard : PySem.W.exmOne K (.ref (ad K).BadYard) (.ref (ad K).BadYard) = some true
  yardF : YardF K (ad K)
  btF : ErrF K (ad K).BadText (ad K).YardError (ad K).BadYard (ad K).BadDays (ad K).BadLine (ad K).BadText (some false) (some false) (some false) (some true)
section
variable {P : Program} {w : World} {K : Fg} {mg : Str → Option Value} {base : Heap}
set_option maxHeartbeats 8000000 in
theorem k_l_drawn (T : Tx K mg)  {f : Addr} {fd : FuncData} (F : FnP K "_law_drawn" "_law_drawn" s_l_drawn f fd) : FnOk P w K mg base CX0 1 f fd ["script", "k", "many"] (spC K 3 (c_l_drawn (ad K))) :=
  FunD.ok F sc_l_drawn (fun _ _ _ _ h => h.1) (fun cdv A outer s H vs Q E hr h => ⟨rd_l_drawn K (ad K), (PSs.nox (pss_cons (ps_set (i := 3) sc_l_drawn.nd rfl (Or.inl rfl) pe_int)
      (Evl.pss_cut (ps_if (pt_cmpR op_gt (pe_callB call_len_seq (by rfl) T.free_len (by decide +kernel) (pa_cons (pv 0) pa_nil)) pe_int (nomark _)) (pss_one (ps_set (i := 3) sc_l_drawn.nd rfl (Or.inl rfl) (pe_ix ix_list (pv 0) (pe_op op_mod (pv 1) (pe_callB call_len_seq (by rfl) T.free_len (by decide +kernel) (pa_cons (pv 0) pa_nil))) (fun _ _ => rfl)))) pss_nil)
      (pss_cons (ps_set (i := 4) sc_l_drawn.nd rfl (Or.inl rfl) (pe_op op_mod (pe_op op_add (pe_op op_add (pe_op op_mul (pv 3) pe_int) (pe_op op_mul (pe_op op_add (pv 1) pe_int) pe_int)) (pe_callB call_len_seq (by rfl) T.free_len (by decide +kernel) (pa_cons (pv 0) pa_nil))) pe_int))
      (pss_cons (ps_set (i := 4) sc_l_drawn.nd rfl (Or.inl rfl) (pe_op op_mod (pe_op op_add (pe_op op_add (pe_op op_mul (pv 4) (pv 4)) (pe_op op_mul (pv 1) pe_int)) pe_int) pe_int))
      (pss_one (ps_ret (pe_op op_mod (pe_op op_fdivN (pe_op op_mod (pe_op op_mul (pv 4) pe_int) pe_int) pe_int) (pv 2))))))))), sem_l_drawn vs H Q E h⟩)
set_option maxHeartbeats 8000000 in
theorem k_l_yard_by (T : Tx K mg) (C_l_drawn : Cal P w K mg base CX0 "_law_drawn" 1 ["script", "k", "many"] (spC K 3 (c_l_drawn (ad K)))) {f : Addr} {fd : FuncData} (F : FnP K "_law_yard_by" "_law_yard_by" s_l_yard_by f fd) : FnOk P w K mg base CX0 2 f fd ["script", "base"] (spC K 2 (c_l_yard_by (ad K))) :=
  FunD.ok F sc_l_yard_by (fun _ _ _ _ h => h.1) (fun cdv A outer s H vs Q E hr h => ⟨rd_l_yard_by K (ad K), (PSs.nox (pss_cons (ps_set (i := 2) sc_l_yard_by.nd rfl (Or.inl rfl) (pe_op op_add pe_int (pe_cal C_l_drawn (hr.mono (by decide)) (by rfl) pass0 (pa_cons (pv 0) (pa_cons (pv 1) (pa_cons pe_int pa_nil))))))
      (pss_cons (ps_set (i := 3) sc_l_yard_by.nd rfl (Or.inr rfl) (pe_ix ix_list (pe_lst (pa_cons pe_int (pa_cons pe_int (pa_cons pe_int pa_nil)))) (pe_cal C_l_drawn (hr.mono (by decide)) (by rfl) pass0 (pa_cons (pv 0) (pa_cons (pe_op op_add (pv 1) pe_int) (pa_cons pe_int pa_nil)))) (fun _ _ => rfl)))
      (pss_cons (ps_set (i := 4) sc_l_yard_by.nd rfl (Or.inr rfl) (pe_lc (own := [("k", 6)]) (g := gName 6) (tt := tYes) rfl sc_l_yard_by.nd (pi_range1 (by rfl) T.free_range (pa_cons (pv 2) pa_nil)) (blkOk_by (own := [("k", 6)]) (N := ["script", "base", "many", "top", "rooms", "waters", "k"]) (sc := defScope s_l_yard_by) (by decide +kernel)) (fun _ _ _ _ _ => (pg_name (i := 6) sc_l_yard_by.nd rfl (Or.inl rfl))) (fun _ _ _ _ _ => pts_nil) (fun _ _ _ _ _ => (pe_cal C_l_drawn (hr.mono (by decide)) (by rfl) pass0 (pa_cons (pv 0) (pa_cons (pe_op op_add (pe_op op_add (pv 1) pe_int) (pv 6)) (pa_cons (pv 3) pa_nil)))))))
      (pss_cons (ps_setLc (i := 5) (own := [("k", 6)]) (g := gName 6) (tt := tYes) rfl sc_l_yard_by.nd rfl rfl (sw_true rfl rfl rfl (by decide +kernel)) (pi_range1 (by rfl) T.free_range (pa_cons (pv 2) pa_nil)) (blkOk_by (own := [("k", 6)]) (N := ["script", "base", "many", "top", "rooms", "waters", "k"]) (sc := defScope s_l_yard_by) (by decide +kernel)) (fun _ _ _ _ _ => (pg_name (i := 6) sc_l_yard_by.nd rfl (Or.inl rfl))) (fun _ _ _ _ _ => pts_nil) (fun _ _ _ _ _ => (pe_cal C_l_drawn (hr.mono (by decide)) (by rfl) pass0 (pa_cons (pv 0) (pa_cons (pe_op op_add (pe_op op_add (pv 1) pe_int) (pv 6)) (pa_cons (pe_op op_add (pe_ix ix_list (pv 4) (pv 6) (fun _ _ => rfl)) pe_int) pa_nil))))))
      (pss_one (ps_ret (pe_tup (pa_cons (pv 4) (pa_cons (pv 5) pa_nil)))))))))), sem_l_yard_by vs H Q E h⟩)
set_option maxHeartbeats 8000000 in
theorem k_l_sign_by (T : Tx K mg) (C_l_drawn : Cal P w K mg base CX0 "_law_drawn" 1 ["script", "k", "many"] (spC K 3 (c_l_drawn (ad K)))) {f : Addr} {fd : FuncData} (F : FnP K "_law_sign_by" "_law_sign_by" s_l_sign_by f fd) : FnOk P w K mg base CX0 2 f fd ["script"] (spC K 1 (c_l_sign_by (ad K))) :=
  FunD.ok F sc_l_sign_by (fun _ _ _ _ h => h.1) (fun cdv A outer s H vs Q E hr h => ⟨rd_l_sign_by K (ad K), (PSs.nox (pss_cons (ps_set (i := 1) sc_l_sign_by.nd rfl (Or.inl rfl) pe_str)
      (pss_cons (ps_set (i := 1) sc_l_sign_by.nd rfl (Or.inl rfl) (pe_op op_add_str (pv 1) pe_str))
      (Evl.pss_cut (ps_if (pt_cmpR op_eq (pe_cal C_l_drawn (hr.mono (by decide)) (by rfl) pass0 (pa_cons (pv 0) (pa_cons pe_int (pa_cons pe_int pa_nil)))) pe_int (nomark _)) (pss_one (ps_set (i := 1) sc_l_sign_by.nd rfl (Or.inl rfl) pe_str)) pss_nil)
      (pss_one (ps_ret (pe_ix ix_str (pv 1) (pe_cal C_l_drawn (hr.mono (by decide)) (by rfl) pass0 (pa_cons (pv 0) (pa_cons pe_int (pa_cons (pe_callB call_len_str (by rfl) T.free_len (by decide +kernel) (pa_cons (pv 1) pa_nil)) pa_nil)))) (fun _ _ => rfl)))))))), sem_l_sign_by vs H Q E h⟩)
set_option maxHeartbeats 8000000 in
theorem k_l_odd (T : Tx K mg) (C_l_drawn : Cal P w K mg base CX0 "_law_drawn" 1 ["script", "k", "many"] (spC K 3 (c_l_drawn (ad K)))) {f : Addr} {fd : FuncData} (F : FnP K "_law_odd" "_law_odd" s_l_odd f fd) : FnOk P w K mg base CX0 2 f fd ["script"] (spC K 1 (c_l_odd (ad K))) :=
  FunD.ok F sc_l_odd (fun _ _ _ _ h => h.1) (fun cdv A outer s H vs Q E hr h => ⟨rd_l_odd K (ad K), (PSs.nox (pss_cons (ps_set (i := 1) sc_l_odd.nd rfl (Or.inl rfl) (pe_lst (pa_cons pe_str (pa_cons pe_str (pa_cons pe_str (pa_cons pe_str (pa_cons pe_str (pa_cons pe_str (pa_cons pe_str (pa_cons pe_str (pa_cons pe_str (pa_cons pe_str pa_nil))))))))))))
      (pss_cons (ps_set (i := 1) sc_l_odd.nd rfl (Or.inl rfl) (pe_op op_cat (pv 1) (pe_lst (pa_cons pe_str (pa_cons pe_str (pa_cons pe_str (pa_cons pe_str (pa_cons pe_str (pa_cons pe_str (pa_cons pe_str pa_nil))))))))))
      (pss_cons (ps_set (i := 1) sc_l_odd.nd rfl (Or.inl rfl) (pe_op op_cat (pv 1) (pe_lst (pa_cons pe_str (pa_cons pe_str (pa_cons pe_str pa_nil))))))
      (pss_one (ps_ret (pe_ix ix_list (pv 1) (pe_cal C_l_drawn (hr.mono (by decide)) (by rfl) pass0 (pa_cons (pv 0) (pa_cons pe_int (pa_cons pe_int pa_nil)))) (fun _ _ => rfl)))))))), sem_l_odd vs H Q E h⟩)
set_option maxHeartbeats 8000000 in
theorem k_l_spoilt (T : Tx K mg) (C_l_drawn : Cal P w K mg base CX0 "_law_drawn" 1 ["script", "k", "many"] (spC K 3 (c_l_drawn (ad K)))) (C_l_sign_by : Cal P w K mg base CX0 "_law_sign_by" 2 ["script"] (spC K 1 (c_l_sign_by (ad K)))) (C_l_odd : Cal P w K mg base CX0 "_law_odd" 2 ["script"] (spC K 1 (c_l_odd (ad K)))) {f : Addr} {fd : FuncData} (F : FnP K "_law_spoilt" "_law_spoilt" s_l_spoilt f fd) : FnOk P w K mg base CX0 3 f fd ["script", "shown"] (spC K 2 (c_l_spoilt (ad K))) :=
  FunD.ok F sc_l_spoilt (fun _ _ _ _ h => h.1) (fun cdv A outer s H vs Q E hr h => ⟨rd_l_spoilt K (ad K), (PSs.nox (pss_cons (ps_set (i := 2) sc_l_spoilt.nd rfl (Or.inl rfl) (pe_cal C_l_drawn (hr.mono (by decide)) (by rfl) pass0 (pa_cons (pv 0) (pa_cons pe_int (pa_cons pe_int pa_nil)))))
      (pss_cons (ps_set (i := 3) sc_l_spoilt.nd rfl (Or.inl rfl) (pe_cal C_l_drawn (hr.mono (by decide)) (by rfl) pass0 (pa_cons (pv 0) (pa_cons pe_int (pa_cons (pe_op op_add (pe_callB call_len_str (by rfl) T.free_len (by decide +kernel) (pa_cons (pv 1) pa_nil)) pe_int) pa_nil)))))
      (pss_cons (ps_set (i := 4) sc_l_spoilt.nd rfl (Or.inl rfl) (pe_split (pv 1) pe_str))
      (pss_cons (ps_set (i := 5) sc_l_spoilt.nd rfl (Or.inl rfl) (pe_cal C_l_drawn (hr.mono (by decide)) (by rfl) pass0 (pa_cons (pv 0) (pa_cons pe_int (pa_cons (pe_op op_add (pe_callB call_len_seq (by rfl) T.free_len (by decide +kernel) (pa_cons (pv 4) pa_nil)) pe_int) pa_nil)))))
      (pss_cons (ps_if (pt_cmpR op_eq (pv 2) pe_int (nomark _)) (pss_one (ps_ret (pe_op op_add_str (pe_op op_add_str (pe_slice sl_str (pv 1) po_none (po_some (pv 3))) (pe_cal C_l_sign_by (hr.mono (by decide)) (by rfl) pass0 (pa_cons (pv 0) pa_nil))) (pe_slice sl_str (pv 1) (po_some (pv 3)) po_none)))) pss_nil)
      (pss_cons (ps_if (pt_cmpR op_eq (pv 2) pe_int (nomark _)) (pss_one (ps_ret (pe_op op_add_str (pe_slice sl_str (pv 1) po_none (po_some (pv 3))) (pe_slice sl_str (pv 1) (po_some (pe_op op_add (pv 3) pe_int)) po_none)))) pss_nil)
      (pss_cons (ps_if (pt_cmpR op_eq (pv 2) pe_int (nomark _)) (pss_one (ps_ret (pe_op op_add_str (pe_op op_add_str (pe_slice sl_str (pv 1) po_none (po_some (pv 3))) (pe_cal C_l_sign_by (hr.mono (by decide)) (by rfl) pass0 (pa_cons (pv 0) pa_nil))) (pe_slice sl_str (pv 1) (po_some (pe_op op_add (pv 3) pe_int)) po_none)))) pss_nil)
      (pss_cons (ps_if (pt_cmpR op_eq (pv 2) pe_int (nomark _)) (pss_one (ps_ret (pe_join pe_str (pe_op op_cat (pe_op op_cat (pe_slice sl_list (pv 4) po_none (po_some (pv 5))) (pe_lst (pa_cons (pe_cal C_l_odd (hr.mono (by decide)) (by rfl) pass0 (pa_cons (pv 0) pa_nil)) pa_nil))) (pe_slice sl_list (pv 4) (po_some (pv 5)) po_none))))) pss_nil)
      (pss_cons (ps_if (pt_cmpR op_eq (pv 2) pe_int (nomark _)) (pss_one (ps_ret (pe_join pe_str (pe_op op_cat (pe_op op_cat (pe_slice sl_list (pv 4) po_none (po_some (pv 5))) (pe_lst (pa_cons (pe_cal C_l_odd (hr.mono (by decide)) (by rfl) pass0 (pa_cons (pv 0) pa_nil)) pa_nil))) (pe_slice sl_list (pv 4) (po_some (pe_op op_add (pv 5) pe_int)) po_none))))) pss_nil)
      (pss_cons (ps_if (pt_cmpR op_eq (pv 2) pe_int (nomark _)) (pss_one (ps_ret (pe_join pe_str (pe_op op_cat (pv 4) (pe_op op_rep (pe_lst (pa_cons pe_str pa_nil)) (pe_op op_add pe_int (pe_cal C_l_drawn (hr.mono (by decide)) (by rfl) pass0 (pa_cons (pv 0) (pa_cons pe_int (pa_cons pe_int pa_nil)))))))))) pss_nil)
      (pss_cons (ps_if (pt_cmpR op_eq (pv 2) pe_int (nomark _)) (pss_one (ps_ret (pe_join pe_str (pe_op op_cat (pe_slice sl_list (pv 4) po_none (po_some (pv 5))) (pe_slice sl_list (pv 4) (po_some (pe_op op_add (pv 5) pe_int)) po_none))))) pss_nil)
      (pss_one (ps_ret (pv 1))))))))))))))), sem_l_spoilt vs H Q E h⟩)
set_option maxHeartbeats 8000000 in
theorem k_l_number (T : Tx K mg)  {f : Addr} {fd : FuncData} (F : FnP K "_law_number" "_law_number" s_l_number f fd) : FnOk P w K mg base CX0 1 f fd ["word"] (spC K 1 (c_l_number (ad K))) :=
  FunD.ok F sc_l_number (fun _ _ _ _ h => h.1) (fun cdv A outer s H vs Q E hr h => ⟨rd_l_number K (ad K), (PSs.nox (pss_cons (ps_if (PW.pt (pw_or (pt_cmpR op_lt (pe_callB call_len_str (by rfl) T.free_len (by decide +kernel) (pa_cons (pv 0) pa_nil)) pe_int (nomark _)) (pw_or (pt_cmpR op_gt (pe_callB call_len_str (by rfl) T.free_len (by decide +kernel) (pa_cons (pv 0) pa_nil)) pe_int (nomark _)) (pw_or1 (PW.pt (pw_and (pt_cmpR op_eq (pe_ix ix_str (pv 0) pe_int (fun _ _ => rfl)) pe_str (nomark _)) (pw_and1 (pt_cmpR op_gt (pe_callB call_len_str (by rfl) T.free_len (by decide +kernel) (pa_cons (pv 0) pa_nil)) pe_int (nomark _))))))))) (pss_one (ps_ret pe_non)) pss_nil)
      (pss_cons (ps_for PassesOwn.never rfl (pi_str (pv 0)) (pg_name (i := 1) sc_l_number.nd rfl (Or.inl rfl))
        (pss_one (ps_if (pt_cmpR op_notIn_sign (pv 1) pe_str rfl) (pss_one (ps_ret pe_non)) pss_nil)))
      (pss_one (ps_ret (pe_callTy call_int_str (by rfl) T.free_int (by decide +kernel) (pa_cons (pv 0) pa_nil))))))), sem_l_number vs H Q E h⟩)
set_option maxHeartbeats 8000000 in
theorem k_l_due (T : Tx K mg) (C_l_number : Cal P w K mg base CX0 "_law_number" 1 ["word"] (spC K 1 (c_l_number (ad K)))) {f : Addr} {fd : FuncData} (F : FnP K "_law_due" "_law_due" s_l_due f fd) : FnOk P w K mg base CX0 2 f fd ["signs"] (spC K 1 (c_l_due (ad K))) :=
  FunD.ok F sc_l_due (fun _ _ _ _ h => h.1) (fun cdv A outer s H vs Q E hr h => ⟨rd_l_due K (ad K), (PSs.nox (pss_cons (ps_set (i := 1) sc_l_due.nd rfl (Or.inl rfl) (pe_split (pv 0) pe_str))
      (pss_cons (ps_set (i := 2) sc_l_due.nd rfl (Or.inl rfl) (pe_lst pa_nil))
      (pss_cons (ps_set (i := 3) sc_l_due.nd rfl (Or.inl rfl) (pe_lst pa_nil))
      (pss_cons (ps_for PassesOwn.never rfl (pi_list (pv 1)) (pg_name (i := 4) sc_l_due.nd rfl (Or.inl rfl))
        (pss_cons (ps_set (i := 5) sc_l_due.nd rfl (Or.inl rfl) (pe_split (pv 4) pe_str))
        (pss_cons (ps_if (PW.pt (pw_or (pt_cmpR op_ne (pe_callB call_len_seq (by rfl) T.free_len (by decide +kernel) (pa_cons (pv 5) pa_nil)) pe_int (nomark _)) (pw_or1 (pt_cmpR op_ne (pe_ix ix_list (pv 5) pe_int (fun _ _ => rfl)) pe_str (nomark _))))) (pss_one (ps_ret pe_non)) pss_nil)
        (pss_cons (ps_set (i := 6) sc_l_due.nd rfl (Or.inl rfl) (pe_lst (pa_cons (pe_cal C_l_number (hr.mono (by decide)) (by rfl) pass0 (pa_cons (pe_ix ix_list (pv 5) pe_int (fun _ _ => rfl)) pa_nil)) (pa_cons (pe_cal C_l_number (hr.mono (by decide)) (by rfl) pass0 (pa_cons (pe_ix ix_list (pv 5) pe_int (fun _ _ => rfl)) pa_nil)) pa_nil))))
        (pss_cons (ps_if (PW.pt (pw_or (pt_cmpR op_in_seq pe_non (pv 6) rfl) (pw_or (pt_cmpR op_gt (pe_ix ix_list (pv 6) pe_int (fun _ _ => rfl)) pe_int (nomark _)) (pw_or1 (pt_cmpR op_gt (pe_ix ix_list (pv 6) pe_int (fun _ _ => rfl)) (pe_ix ix_list (pv 6) pe_int (fun _ _ => rfl)) (nomark _)))))) (pss_one (ps_ret pe_non)) pss_nil)
        (pss_cons (ps_expr (pe_bm PySem.F.plainAttrs_list PySem.F.slot_list_append PySem.F.type_list_append mt_append (pv 3) (pa_cons (pe_ix ix_list (pv 6) pe_int (fun _ _ => rfl)) pa_nil)))
        (pss_one (ps_expr (pe_bm PySem.F.plainAttrs_list PySem.F.slot_list_append PySem.F.type_list_append mt_append (pv 2) (pa_cons (pe_ix ix_list (pv 6) pe_int (fun _ _ => rfl)) pa_nil))))))))))
      (pss_cons (ps_if (pt_cmpR op_gt (pe_callB call_len_seq (by rfl) T.free_len (by decide +kernel) (pa_cons (pv 1) pa_nil)) pe_int (nomark _)) (pss_one (ps_ret pe_non)) pss_nil)
      (pss_one (ps_ret (pe_tup (pa_cons (pv 2) (pa_cons (pv 3) pa_nil))))))))))), sem_l_due vs H Q E h⟩)
set_option maxHeartbeats 8000000 in
theorem k_number_of (T : Tx K mg)  {f : Addr} {fd : FuncData} (F : FnP K "number_of" "number_of" s_number_of f fd) : FnOk P w K mg base (L2.CX P w) 1 f fd ["word"] (spC K 1 (c_number_of (ad K))) :=
  FunD.ok F sc_number_of (fun _ _ _ _ h => h.1) (fun cdv A outer s H vs Q E hr h => ⟨rd_number_of K (ad K) E, (pss_cons (ps_if (PW.pt (pw_or (pt_cmpR op_eq (pv 0) pe_str (nomark _)) (pw_or (pt_cmpR op_gt (pe_callB call_len_str (by rfl) T.free_len (by decide +kernel) (pa_cons (pv 0) pa_nil)) pe_int (nomark _)) (pw_or1 (PW.pt (pw_and (pt_cmpR op_eq (pe_ix ix_str (pv 0) pe_int (fun _ _ => rfl)) pe_str (nomark _)) (pw_and1 (pt_cmpR op_ne (pv 0) pe_str (nomark _))))))))) (pss_one (ps_raise rfl (takes_of rfl rfl rfl rfl) (pmk_ex T.exc_BadText (by rfl)))) pss_nil)
      (pss_cons (ps_for (passes_of rfl) rfl (pi_str (pv 0)) (pg_name (i := 1) sc_number_of.nd rfl (Or.inl rfl))
        (pss_one (ps_if (pt_cmpR op_notIn_sign (pv 1) (pe_gstr (by rfl) T.str_FIGURES) rfl) (pss_one (ps_raise rfl (takes_of rfl rfl rfl rfl) (pmk_ex T.exc_BadText (by rfl)))) pss_nil)))
      (pss_one (ps_ret (pe_callTy call_int_str (by rfl) T.free_int (by decide +kernel) (pa_cons (pv 0) pa_nil)))))), sem_number_of vs H Q E h⟩)
set_option maxHeartbeats 8000000 in
theorem k_within (T : Tx K mg)  {f : Addr} {fd : FuncData} (F : FnP K "within" "within" s_within f fd) : FnOk P w K mg base CX0 1 f fd ["numbers", "most"] (spC K 2 (c_within (ad K))) :=
  FunD.ok F sc_within (fun _ _ _ _ h => h.1) (fun cdv A outer s H vs Q E hr h => ⟨rd_within K (ad K), (PSs.nox (pss_cons (ps_for PassesOwn.never rfl (pi_list (pv 0)) (pg_name (i := 2) sc_within.nd rfl (Or.inl rfl))
        (pss_one (ps_if (PW.pt (pw_or (pt_cmpR op_lt (pv 2) pe_int (nomark _)) (pw_or1 (pt_cmpR op_gt (pv 2) (pv 1) (nomark _))))) (pss_one (ps_ret pe_bl)) pss_nil)))
      (pss_one (ps_ret pe_bl)))), sem_within vs H Q E h⟩)
set_option maxHeartbeats 8000000 in
theorem k_Yard_init (T : Tx K mg) (C_within : Cal P w K mg base CX0 "within" 1 ["numbers", "most"] (spC K 2 (c_within (ad K)))) {f : Addr} {fd : FuncData} (F : FnP K "__init__" "Yard.__init__" s_Yard_init f fd) : FnOk P w K mg base (L2N.CX P w) 2 f fd ["self", "rooms", "waters"] (spC K 3 (c_Yard_init (ad K))) :=
  FunD.ok F sc_Yard_init (fun _ _ _ _ h => h.1) (fun cdv A outer s H vs Q E hr h => ⟨rd_Yard_init K (ad K) E, (pss_cons (ps_if (PW.pt (pw_or (pt_cmpR op_lt (pe_callB call_len_seq (by rfl) T.free_len (by decide +kernel) (pa_cons (pv 1) pa_nil)) pe_int (nomark _)) (pw_or (pt_cmpR op_gt (pe_callB call_len_seq (by rfl) T.free_len (by decide +kernel) (pa_cons (pv 1) pa_nil)) (pe_gint (by rfl) T.int_MOST_TANKS) (nomark _)) (pw_or1 (pt_cmpR op_ne (pe_callB call_len_seq (by rfl) T.free_len (by decide +kernel) (pa_cons (pv 2) pa_nil)) (pe_callB call_len_seq (by rfl) T.free_len (by decide +kernel) (pa_cons (pv 1) pa_nil)) (nomark _)))))) (pss_one (L2N.ps_raise rfl (L2N.takes_of rfl rfl rfl rfl) (pmk_exN T.exc_BadYard (by rfl)))) pss_nil)
      (pss_cons (ps_if (pt_not (pt_val (pe_cal C_within (hr.mono (by decide)) (by rfl) pass0 (pa_cons (pv 1) (pa_cons (pe_gint (by rfl) T.int_MOST_ROOM) pa_nil))))) (pss_one (L2N.ps_raise rfl (L2N.takes_of rfl rfl rfl rfl) (pmk_exN T.exc_BadYard (by rfl)))) pss_nil)
      (pss_cons (ps_for (passes_of rfl) rfl (pi_range1 (by rfl) T.free_range (pa_cons (pe_callB call_len_seq (by rfl) T.free_len (by decide +kernel) (pa_cons (pv 1) pa_nil)) pa_nil)) (pg_name (i := 3) sc_Yard_init.nd rfl (Or.inl rfl))
        (pss_one (ps_if (PW.pt (pw_or (pt_cmpR op_lt (pe_ix ix_list (pv 2) (pv 3) (fun _ _ => rfl)) pe_int (nomark _)) (pw_or1 (pt_cmpR op_gt (pe_ix ix_list (pv 2) (pv 3) (fun _ _ => rfl)) (pe_ix ix_list (pv 1) (pv 3) (fun _ _ => rfl)) (nomark _))))) (pss_one (L2N.ps_raise rfl (L2N.takes_of rfl rfl rfl rfl) (pmk_exN T.exc_BadYard (by rfl)))) pss_nil)))
      (pss_cons (ps_fld (pv 0) (pe_callTy call_list_of (by rfl) T.free_list (by decide +kernel) (pa_cons (pv 1) pa_nil)) rfl)
      (pss_one (ps_fld (pv 0) (pe_callTy call_list_of (by rfl) T.free_list (by decide +kernel) (pa_cons (pv 2) pa_nil)) rfl)))))), sem_Yard_init T.yardF vs H Q E h⟩)
set_option maxHeartbeats 8000000 in
theorem k_read (T : Tx K mg) (C_number_of : Cal P w K mg base (L2.CX P w) "number_of" 1 ["word"] (spC K 1 (c_number_of (ad K)))) (C_Yard_init : Mak P w K mg base (L2N.CX P w) "Yard" (ad K).Yard 2 ["self", "rooms", "waters"] (spC K 3 (c_Yard_init (ad K)))) {f : Addr} {fd : FuncData} (F : FnP K "read" "read" s_read f fd) : FnOk P w K mg base (L2.CX P w) 4 f fd ["text"] (spC K 1 (c_read (ad K))) :=
  FunD.ok F sc_read (fun _ _ _ _ h => h.1) (fun cdv A outer s H vs Q E hr h => ⟨rd_read K (ad K) E, (pss_cons (ps_set (i := 1) sc_read.nd rfl (Or.inl rfl) (pe_lst pa_nil))
      (pss_cons (ps_set (i := 2) sc_read.nd rfl (Or.inl rfl) (pe_lst pa_nil))
      (pss_cons (ps_for (passes_of rfl) rfl (pi_list (pe_split (pv 0) pe_str)) (pg_name (i := 3) sc_read.nd rfl (Or.inl rfl))
        (pss_cons (ps_set (i := 4) sc_read.nd rfl (Or.inl rfl) (pe_split (pv 3) pe_str))
        (pss_cons (ps_if (PW.pt (pw_or (pt_cmpR op_ne (pe_callB call_len_seq (by rfl) T.free_len (by decide +kernel) (pa_cons (pv 4) pa_nil)) pe_int (nomark _)) (pw_or1 (pt_cmpR op_ne (pe_ix ix_list (pv 4) pe_int (fun _ _ => rfl)) pe_str (nomark _))))) (pss_one (ps_raise rfl (takes_of rfl rfl rfl rfl) (pmk_ex T.exc_BadText (by rfl)))) pss_nil)
        (pss_cons (ps_expr (pe_bm PySem.F.plainAttrs_list PySem.F.slot_list_append PySem.F.type_list_append mt_append (pv 2) (pa_cons (pe_cal C_number_of (hr.mono (by decide)) (by rfl) (passes_call (takes_of rfl rfl rfl rfl) fun _ _ _ _ h => h) (pa_cons (pe_ix ix_list (pv 4) pe_int (fun _ _ => rfl)) pa_nil)) pa_nil)))
        (pss_one (ps_expr (pe_bm PySem.F.plainAttrs_list PySem.F.slot_list_append PySem.F.type_list_append mt_append (pv 1) (pa_cons (pe_cal C_number_of (hr.mono (by decide)) (by rfl) (passes_call (takes_of rfl rfl rfl rfl) fun _ _ _ _ h => h) (pa_cons (pe_ix ix_list (pv 4) pe_int (fun _ _ => rfl)) pa_nil)) pa_nil))))))))
      (pss_one (L2H.ps_try_onlyX (tb := fun W => tRet (tMakeS (ad K).Yard (spC K 3 (c_Yard_init (ad K))) (WE W) (tCons (tVar 1) (tCons (tVar 2) (tNil))))) (ts := fun a cls d => tRaise E (ad K).BadText) (Wout := fun cls d _ H => E cls d H) rfl rfl ⟨rfl, by decide, Or.inl T.glo_BadYard⟩ (L2H.passesAt_of rfl) (takes_of rfl rfl rfl rfl)
        (fun W pn xe tk tkp _ => (pss_one (ps_ret (pe_makS C_Yard_init (hr.mono (by decide)) (by rfl) (fun σ => L2N.passAt tk σ) (pa_cons (pv 1) (pa_cons (pv 2) pa_nil))))))
        (fun a oe cls d pn hz hf tks hot => (pss_one (L2H.ps_raiseH hot tks (pmk_exN T.exc_BadText (by rfl)))))))))), sem_read T.exm_BadYard vs H Q E h⟩)
set_option maxHeartbeats 8000000 in
theorem k_Yard_waters (T : Tx K mg)  {f : Addr} {fd : FuncData} (F : FnP K "waters" "Yard.waters" s_Yard_waters f fd) : FnOk P w K mg base CX0 1 f fd ["self"] (spC K 1 (c_Yard_waters (ad K))) :=
  FunD.ok F sc_Yard_waters (fun _ _ _ _ h => h.1) (fun cdv A outer s H vs Q E hr h => ⟨rd_Yard_waters K (ad K), (PSs.nox (pss_one (ps_ret (pe_callTy call_list_of (by rfl) T.free_list (by decide +kernel) (pa_cons (pe_fld (pv 0) rfl) pa_nil))))), sem_Yard_waters T.yardF vs H Q E h⟩)
set_option maxHeartbeats 8000000 in
theorem k_l_whole (T : Tx K mg)  {f : Addr} {fd : FuncData} (F : FnP K "_law_whole" "_law_whole" s_l_whole f fd) : FnOk P w K mg base CX0 1 f fd ["found"] (spC K 1 (c_l_whole (ad K))) :=
  FunD.ok F sc_l_whole (fun _ _ _ _ h => h.1) (fun cdv A outer s H vs Q E hr h => ⟨rd_l_whole K (ad K), (PSs.nox (pss_one (ps_ret (pe_and (pe_callB call_isi (by rfl) T.free_isinstance (by decide +kernel) (pa_cons (pv 0) (pa_cons (pe_bltn (v := V.ty "int") (by rfl) T.free_int (by decide +kernel) rfl) pa_nil))) (pe_one (pe_not (pe_callB call_isi (by rfl) T.free_isinstance (by decide +kernel) (pa_cons (pv 0) (pa_cons (pe_bltn (v := V.ty "bool") (by rfl) T.free_bool (by decide +kernel) rfl) pa_nil))))))))), sem_l_whole vs H Q E h⟩)
set_option maxHeartbeats 8000000 in
theorem k_l_row (T : Tx K mg) (C_l_whole : Cal P w K mg base CX0 "_law_whole" 1 ["found"] (spC K 1 (c_l_whole (ad K)))) {f : Addr} {fd : FuncData} (F : FnP K "_law_row" "_law_row" s_l_row f fd) : FnOk P w K mg base CX0 2 f fd ["found", "due"] (spC K 2 (c_l_row (ad K))) :=
  FunD.ok F sc_l_row (fun _ _ _ _ h => h.1) (fun cdv A outer s H vs Q E hr h => ⟨rd_l_row K (ad K), (PSs.nox (pss_cons (ps_if (PW.pt (pw_or (pt_not (pt_val (pe_callB call_isi (by rfl) T.free_isinstance (by decide +kernel) (pa_cons (pv 0) (pa_cons (pe_bltn (v := V.ty "list") (by rfl) T.free_list (by decide +kernel) rfl) pa_nil))))) (pw_or1 (pt_cmpR op_ne (pe_callB call_len_seq (by rfl) T.free_len (by decide +kernel) (pa_cons (pv 0) pa_nil)) (pe_callB call_len_seq (by rfl) T.free_len (by decide +kernel) (pa_cons (pv 1) pa_nil)) (nomark _))))) (pss_one (ps_ret pe_bl)) pss_nil)
      (pss_cons (ps_for PassesOwn.never rfl (pi_range1 (by rfl) T.free_range (pa_cons (pe_callB call_len_seq (by rfl) T.free_len (by decide +kernel) (pa_cons (pv 1) pa_nil)) pa_nil)) (pg_name (i := 2) sc_l_row.nd rfl (Or.inl rfl))
        (pss_one (ps_if (PW.pt (pw_or (pt_not (pt_val (pe_cal C_l_whole (hr.mono (by decide)) (by rfl) pass0 (pa_cons (pe_ix ix_list (pv 0) (pv 2) (fun _ _ => rfl)) pa_nil)))) (pw_or1 (pt_cmpR op_ne (pe_ix ix_list (pv 0) (pv 2) (fun _ _ => rfl)) (pe_ix ix_list (pv 1) (pv 2) (fun _ _ => rfl)) (nomark _))))) (pss_one (ps_ret pe_bl)) pss_nil)))
      (pss_one (ps_ret pe_bl))))), sem_l_row vs H Q E h⟩)
set_option maxHeartbeats 8000000 in
theorem k_Yard_rooms (T : Tx K mg)  {f : Addr} {fd : FuncData} (F : FnP K "rooms" "Yard.rooms" s_Yard_rooms f fd) : FnOk P w K mg base CX0 1 f fd ["self"] (spC K 1 (c_Yard_rooms (ad K))) :=
  FunD.ok F sc_Yard_rooms (fun _ _ _ _ h => h.1) (fun cdv A outer s H vs Q E hr h => ⟨rd_Yard_rooms K (ad K), (PSs.nox (pss_one (ps_ret (pe_callTy call_list_of (by rfl) T.free_list (by decide +kernel) (pa_cons (pe_fld (pv 0) rfl) pa_nil))))), sem_Yard_rooms T.yardF vs H Q E h⟩)
set_option maxHeartbeats 8000000 in
theorem k_law (T : Tx K mg) (C_l_yard_by : Cal P w K mg base CX0 "_law_yard_by" 2 ["script", "base"] (spC K 2 (c_l_yard_by (ad K)))) (C_l_spoilt : Cal P w K mg base CX0 "_law_spoilt" 3 ["script", "shown"] (spC K 2 (c_l_spoilt (ad K)))) (C_l_due : Cal P w K mg base CX0 "_law_due" 2 ["signs"] (spC K 1 (c_l_due (ad K)))) (C_read : Cal P w K mg base (L2.CX P w) "read" 4 ["text"] (spC K 1 (c_read (ad K)))) (C_Yard_waters : Met P w K mg base CX0 (ad K).Yard "waters" 1 ["self"] (spC K 1 (c_Yard_waters (ad K)))) (C_l_row : Cal P w K mg base CX0 "_law_row" 2 ["found", "due"] (spC K 2 (c_l_row (ad K)))) (C_Yard_rooms : Met P w K mg base CX0 (ad K).Yard "rooms" 1 ["self"] (spC K 1 (c_Yard_rooms (ad K)))) {f : Addr} {fd : FuncData} (F : FnP K "law" "law" s_law f fd) : FnOk P w K mg base CX0 5 f fd ["script"] (spC K 1 (c_law (ad K))) :=
  FunD.ok F sc_law (fun _ _ _ _ h => h.1) (fun cdv A outer s H vs Q E hr h => ⟨rd_law K (ad K), (PSs.nox (pss_cons (ps_set (i := 1) sc_law.nd rfl (Or.inr rfl) (pe_cal C_l_yard_by (hr.mono (by decide)) (by rfl) pass0 (pa_cons (pv 0) (pa_cons pe_int pa_nil))))
      (pss_cons (ps_set (i := 2) sc_law.nd rfl (Or.inl rfl) (pe_join pe_str (pe_lc (own := [("k", 8)]) (g := gName 8) (tt := tYes) rfl sc_law.nd (pi_range1 (by rfl) T.free_range (pa_cons (pe_callB call_len_seq (by rfl) T.free_len (by decide +kernel) (pa_cons (pe_ix ix_tup (pv 1) pe_int (fun _ _ => rfl)) pa_nil)) pa_nil)) (blkOk_by (own := [("k", 8)]) (N := ["script", "made", "shown", "signs", "due", "found", "e", "marks", "k"]) (sc := defScope s_law) (by decide +kernel)) (fun _ _ _ _ _ => (pg_name (i := 8) sc_law.nd rfl (Or.inl rfl))) (fun _ _ _ _ _ => pts_nil) (fun _ _ _ _ _ => (pe_op op_add_str (pe_op op_add_str (pe_callTy call_str_int (by rfl) T.free_str (by decide +kernel) (pa_cons (pe_ix ix_list (pe_ix ix_tup (pv 1) pe_int (fun _ _ => rfl)) (pv 8) (fun _ _ => rfl)) pa_nil)) pe_str) (pe_callTy call_str_int (by rfl) T.free_str (by decide +kernel) (pa_cons (pe_ix ix_list (pe_ix ix_tup (pv 1) pe_int (fun _ _ => rfl)) (pv 8) (fun _ _ => rfl)) pa_nil)))))))
      (pss_cons (ps_set (i := 3) sc_law.nd rfl (Or.inl rfl) (pe_cal C_l_spoilt (hr.mono (by decide)) (by rfl) pass0 (pa_cons (pv 0) (pa_cons (pv 2) pa_nil))))
      (pss_cons (ps_set (i := 4) sc_law.nd rfl (Or.inl rfl) (pe_cal C_l_due (hr.mono (by decide)) (by rfl) pass0 (pa_cons (pv 3) pa_nil)))
      (Evl.pss_cut (ps_try_as (i := 6) (tb := fun W => tAsg (tCallS (spC K 1 (c_read (ad K))) (WE W) (tCons (tVar 3) (tNil))) (gName 5)) (ts := fun a cls d => tSeq (tAsg (tLst (tCons (tIsE K cls d a (tVar 6) (V.ref (ad K).BadText)) (tCons (tIsE K cls d a (tVar 6) (V.ty "ValueError")) (tCons (tIsE K cls d a (tVar 6) (V.ref (ad K).BadYard)) (tCons (tIsE K cls d a (tVar 6) (V.ref (ad K).BadDays)) (tNil)))))) (gName 7)) 
        (tRet (tAndV (tIsN (tVar 4)) (tOp (rEqD K) (tOp (rCat) (tVar 7) (tLst (tCons (tIsE K cls d a (tVar 6) (V.ref (ad K).BadLine)) (tNil)))) (tLst (tCons (tC (V.bl true)) (tCons (tC (V.bl true)) (tCons (tC (V.bl false)) (tCons (tC (V.bl false)) (tCons (tC (V.bl false)) (tNil))))))))))) (Wout := fun _ _ _ _ => False) rfl rfl sc_law.nd rfl rfl ⟨rfl, by decide, Or.inl T.glo_YardError⟩ takes0
        (fun W pn xe tk _ => (pss_one (ps_set (i := 5) sc_law.nd rfl (Or.inl rfl) (pe_calS C_read (hr.mono (by decide)) (by rfl) (fun σ => passAt tk σ) (pa_cons (pv 3) pa_nil)))))
        (fun a oe cls d pn hz hf => (pss_cons (ps_set (i := 7) sc_law.nd rfl (Or.inl rfl) (pe_lst (pa_cons (pe_isE hz hf (by rfl) T.free_isinstance (pa_cons (pv 6) (pa_cons (pe_glob (v := V.ref (ad K).BadText) (by rfl) T.glo_BadText rfl) pa_nil))) (pa_cons (pe_isE hz hf (by rfl) T.free_isinstance (pa_cons (pv 6) (pa_cons (pe_bltn (v := V.ty "ValueError") (by rfl) T.free_ValueError (by decide +kernel) rfl) pa_nil))) (pa_cons (pe_isE hz hf (by rfl) T.free_isinstance (pa_cons (pv 6) (pa_cons (pe_glob (v := V.ref (ad K).BadYard) (by rfl) T.glo_BadYard rfl) pa_nil))) (pa_cons (pe_isE hz hf (by rfl) T.free_isinstance (pa_cons (pv 6) (pa_cons (pe_glob (v := V.ref (ad K).BadDays) (by rfl) T.glo_BadDays rfl) pa_nil))) pa_nil))))))
        (pss_one (ps_ret (pe_and (pe_cmp (pc_isN (pv 4)) rfl) (pe_one (pe_cmpR (op_eqD hr.units) (pe_op op_cat (pv 7) (pe_lst (pa_cons (pe_isE hz hf (by rfl) T.free_isinstance (pa_cons (pv 6) (pa_cons (pe_glob (v := V.ref (ad K).BadLine) (by rfl) T.glo_BadLine rfl) pa_nil))) pa_nil))) (pe_lst (pa_cons pe_bl (pa_cons pe_bl (pa_cons pe_bl (pa_cons pe_bl (pa_cons pe_bl pa_nil)))))) (nomark _)))))))))
      (pss_one (ps_ret (pe_and (pe_cmp (pc_notN (pv 4)) rfl) (pe_and (pe_cal C_l_row (hr.mono (by decide)) (by rfl) pass0 (pa_cons (pe_met0 C_Yard_rooms (hr.mono (by decide)) pass0 (pv 5)) (pa_cons (pe_ix ix_tup (pv 4) pe_int (fun _ _ => rfl)) pa_nil))) (pe_one (pe_cal C_l_row (hr.mono (by decide)) (by rfl) pass0 (pa_cons (pe_met0 C_Yard_waters (hr.mono (by decide)) pass0 (pv 5)) (pa_cons (pe_ix ix_tup (pv 4) pe_int (fun _ _ => rfl)) pa_nil)))))))))))))), sem_law T.btF vs H Q E h⟩)
end
/-! ### the head -/
def d_l_drawn : He.DefD := ⟨("_law_drawn", none), "_law_drawn", "_law_drawn", defArgs s_l_drawn, defBody s_l_drawn, defScope s_l_drawn, [], []⟩
def d_l_yard_by : He.DefD := ⟨("_law_yard_by", none), "_law_yard_by", "_law_yard_by", defArgs s_l_yard_by, defBody s_l_yard_by, defScope s_l_yard_by, [], []⟩
def d_l_sign_by : He.DefD := ⟨("_law_sign_by", none), "_law_sign_by", "_law_sign_by", defArgs s_l_sign_by, defBody s_l_sign_by, defScope s_l_sign_by, [], []⟩
def d_l_odd : He.DefD := ⟨("_law_odd", none), "_law_odd", "_law_odd", defArgs s_l_odd, defBody s_l_odd, defScope s_l_odd, [], []⟩
def d_l_spoilt : He.DefD := ⟨("_law_spoilt", none), "_law_spoilt", "_law_spoilt", defArgs s_l_spoilt, defBody s_l_spoilt, defScope s_l_spoilt, [], []⟩
def d_l_number : He.DefD := ⟨("_law_number", none), "_law_number", "_law_number", defArgs s_l_number, defBody s_l_number, defScope s_l_number, [], []⟩
def d_l_due : He.DefD := ⟨("_law_due", none), "_law_due", "_law_due", defArgs s_l_due, defBody s_l_due, defScope s_l_due, [], []⟩
def d_number_of : He.DefD := ⟨("number_of", none), "number_of", "number_of", defArgs s_number_of, defBody s_number_of, defScope s_number_of, [], []⟩
def d_within : He.DefD := ⟨("within", none), "within", "within", defArgs s_within, defBody s_within, defScope s_within, [], []⟩
def d_Yard_init : He.DefD := ⟨("Yard", some "__init__"), "__init__", "Yard.__init__", defArgs s_Yard_init, defBody s_Yard_init, defScope s_Yard_init, [], []⟩
def d_read : He.DefD := ⟨("read", none), "read", "read", defArgs s_read, defBody s_read, defScope s_read, [], []⟩
def d_Yard_waters : He.DefD := ⟨("Yard", some "waters"), "waters", "Yard.waters", defArgs s_Yard_waters, defBody s_Yard_waters, defScope s_Yard_waters, [], []⟩
def d_l_whole : He.DefD := ⟨("_law_whole", none), "_law_whole", "_law_whole", defArgs s_l_whole, defBody s_l_whole, defScope s_l_whole, [], []⟩
def d_l_row : He.DefD := ⟨("_law_row", none), "_law_row", "_law_row", defArgs s_l_row, defBody s_l_row, defScope s_l_row, [], []⟩
def d_Yard_rooms : He.DefD := ⟨("Yard", some "rooms"), "rooms", "Yard.rooms", defArgs s_Yard_rooms, defBody s_Yard_rooms, defScope s_Yard_rooms, [], []⟩
def d_law : He.DefD := ⟨("law", none), "law", "law", defArgs s_law, defBody s_law, defScope s_law, [], []⟩
def fn : List He.DefD := [d_l_drawn, d_l_yard_by, d_l_sign_by, d_l_odd, d_l_spoilt, d_l_number, d_l_due, d_number_of, d_within, d_Yard_init, d_read, d_Yard_waters, d_l_whole, d_l_row, d_Yard_rooms, d_law]
def fa : List He.Fa := [.free "len", .free "range", .free "str", .free "int", .exc "BadText", .glo "BadText", .str "FIGURES" "0123456789", .int "MOST_TANKS" 4, .exc "BadYard", .glo "BadYard", .int "MOST_ROOM" 50, .free "list", .free "isinstance", .glo "BadDays", .free "ValueError", .glo "BadLine", .glo "YardError", .free "bool", .exm "BadYard" "BadYard" true, .cls "Yard", .noat "Yard" "sizes", .noat "Yard" "held", .glo "_law_drawn", .glo "_law_yard_by", .glo "_law_sign_by", .glo "_law_odd", .glo "_law_spoilt", .glo "_law_number", .glo "_law_due", .glo "number_of", .glo "within", .mkr "Yard", .glo "Yard", .glo "read", .meth "Yard" "waters", .glo "_law_whole", .glo "_law_row", .meth "Yard" "rooms", .glo "law"]
abbrev Rw : PySem.W.OpenRow := PySem.W.OpenLaw.row PySem.Challenge.rw_cisternyard_k13_texts_refused
def fx (K : Fg) : Bool := errB K (ad K).BadText (ad K).YardError (ad K).BadYard (ad K).BadDays (ad K).BadLine (ad K).BadText (some false) (some false) (some false) (some true)
abbrev hk : PySem.W.Hook := hookX 5 fa fx fn
def ob (s : PySem.W.SharedT) : Bool × He.AlD := obX 5 fa fx fn (HandSHeadRun.getT s)
theorem ob_eq (s : PySem.W.SharedT) : ob s = hk.obs s.abs := obX_eq (HandSHeadRun.getT_eq s)
def loose0 : List Str := ["__name__", "YardError", "BadYard", "BadDays", "BadLine", "BadText", "MOST_TANKS", "MOST_ROOM", "MOST_WATER", "within", "Yard", "see_day", "FIGURES", "number_of", "read", "_law_drawn", "_law_whole", "_law_row", "_law_rows", "_law_yard_by"]
def loose1 : List Str := ["_law_days_by", "_law_copied", "_law_number", "_law_due", "_law_sign_by", "_law_odd", "_law_spoilt"]
def looseL : List Str := loose0 ++ loose1
theorem run (w : World) : HandSHeadRun.RunEq Rw (PySem.W.view Rw.prog [30]) hk ob 60000 looseL w := by
  intro os
  kernel_rfl
set_option maxHeartbeats 8000000 in
theorem facts {P : Program} {w : World} {K : Fg} {h : Heap} {mg : Str → Option Value} {f : Addr} (X : K.In h) (G : h.Ns mainGlobals mg) (hfa : mg ("law" : Str) = some (.ref f)) (c : He.SaysD fa fn K) (cx : fx K = true) :
    ∃ fd : FuncData, (∀ (s : Shared) (v : Value), BindsTo s fd ⟨[v], []⟩ [("script", v)]) ∧ ∀ base : Heap, K.In base → base.Ns mainGlobals mg → FnOk P w K mg base CX0 5 f fd ["script"] (spC K 1 (c_law (ad K))) := by
  have T : Tx K mg := { free_len := He.free_ok X G (c.fact 0 rfl), free_range := He.free_ok X G (c.fact 1 rfl), free_str := He.free_ok X G (c.fact 2 rfl), free_int := He.free_ok X G (c.fact 3 rfl), exc_BadText := excF_of (He.glo_ok X G (c.fact 5 rfl)) (He.exc_ok (c.fact 4 rfl)), str_FIGURES := He.str_ok X G (c.fact 6 rfl), int_MOST_TANKS := He.int_ok X G (c.fact 7 rfl), exc_BadYard := excF_of (He.glo_ok X G (c.fact 9 rfl)) (He.exc_ok (c.fact 8 rfl)), int_MOST_ROOM := He.int_ok X G (c.fact 10 rfl), free_list := He.free_ok X G (c.fact 11 rfl), glo_BadYard := He.glo_ok X G (c.fact 9 rfl), free_isinstance := He.free_ok X G (c.fact 12 rfl), glo_BadDays := He.glo_ok X G (c.fact 13 rfl), free_ValueError := He.free_ok X G (c.fact 14 rfl), glo_BadText := He.glo_ok X G (c.fact 5 rfl), glo_BadLine := He.glo_ok X G (c.fact 15 rfl), glo_YardError := He.glo_ok X G (c.fact 16 rfl), free_bool := He.free_ok X G (c.fact 17 rfl), exm_BadYard := He.exm_ok (c.fact 18 rfl), yardF := ⟨He.cls_ok (c.fact 19 rfl), He.noat_ok (c.fact 20 rfl), He.noat_ok (c.fact 21 rfl)⟩, btF := errB_ok (cx) }
  obtain ⟨fd_l_drawn, F_l_drawn⟩ := c.def_ 0 (d := d_l_drawn) rfl
  obtain ⟨fd_l_yard_by, F_l_yard_by⟩ := c.def_ 1 (d := d_l_yard_by) rfl
  obtain ⟨fd_l_sign_by, F_l_sign_by⟩ := c.def_ 2 (d := d_l_sign_by) rfl
  obtain ⟨fd_l_odd, F_l_odd⟩ := c.def_ 3 (d := d_l_odd) rfl
  obtain ⟨fd_l_spoilt, F_l_spoilt⟩ := c.def_ 4 (d := d_l_spoilt) rfl
  obtain ⟨fd_l_number, F_l_number⟩ := c.def_ 5 (d := d_l_number) rfl
  obtain ⟨fd_l_due, F_l_due⟩ := c.def_ 6 (d := d_l_due) rfl
  obtain ⟨fd_number_of, F_number_of⟩ := c.def_ 7 (d := d_number_of) rfl
  obtain ⟨fd_within, F_within⟩ := c.def_ 8 (d := d_within) rfl
  obtain ⟨fd_Yard_init, F_Yard_init⟩ := c.def_ 9 (d := d_Yard_init) rfl
  obtain ⟨fd_read, F_read⟩ := c.def_ 10 (d := d_read) rfl
  obtain ⟨fd_Yard_waters, F_Yard_waters⟩ := c.def_ 11 (d := d_Yard_waters) rfl
  obtain ⟨fd_l_whole, F_l_whole⟩ := c.def_ 12 (d := d_l_whole) rfl
  obtain ⟨fd_l_row, F_l_row⟩ := c.def_ 13 (d := d_l_row) rfl
  obtain ⟨fd_Yard_rooms, F_Yard_rooms⟩ := c.def_ 14 (d := d_Yard_rooms) rfl
  obtain ⟨fd_law, F_law⟩ := c.def_ 15 (d := d_law) rfl
  have e := hfa.symm.trans (He.glo_ok X G (c.fact 38 (f := .glo "law") rfl))
  cases e
  have b := FunD.bindsA (ps := ["script"]) F_law fun _ _ _ _ _ _ us hl => match us, hl with | [_], _ => rfl
  refine ⟨fd_law, fun s v => b s [v] rfl, fun base _ _ => ?_⟩
  have C_l_drawn : Cal P w K mg base CX0 "_law_drawn" 1 ["script", "k", "many"] (spC K 3 (c_l_drawn (ad K))) := ⟨_, _, k_l_drawn T  F_l_drawn, He.glo_ok X G (c.fact 22 (f := .glo "_law_drawn") rfl), F_l_drawn.kp, FunD.bindsN F_l_drawn fun _ _ _ _ _ _ us hl => match us, hl with | [_, _, _], _ => rfl⟩
  have C_l_yard_by : Cal P w K mg base CX0 "_law_yard_by" 2 ["script", "base"] (spC K 2 (c_l_yard_by (ad K))) := ⟨_, _, k_l_yard_by T C_l_drawn F_l_yard_by, He.glo_ok X G (c.fact 23 (f := .glo "_law_yard_by") rfl), F_l_yard_by.kp, FunD.bindsN F_l_yard_by fun _ _ _ _ _ _ us hl => match us, hl with | [_, _], _ => rfl⟩
  have C_l_sign_by : Cal P w K mg base CX0 "_law_sign_by" 2 ["script"] (spC K 1 (c_l_sign_by (ad K))) := ⟨_, _, k_l_sign_by T C_l_drawn F_l_sign_by, He.glo_ok X G (c.fact 24 (f := .glo "_law_sign_by") rfl), F_l_sign_by.kp, FunD.bindsN F_l_sign_by fun _ _ _ _ _ _ us hl => match us, hl with | [_], _ => rfl⟩
  have C_l_odd : Cal P w K mg base CX0 "_law_odd" 2 ["script"] (spC K 1 (c_l_odd (ad K))) := ⟨_, _, k_l_odd T C_l_drawn F_l_odd, He.glo_ok X G (c.fact 25 (f := .glo "_law_odd") rfl), F_l_odd.kp, FunD.bindsN F_l_odd fun _ _ _ _ _ _ us hl => match us, hl with | [_], _ => rfl⟩
  have C_l_spoilt : Cal P w K mg base CX0 "_law_spoilt" 3 ["script", "shown"] (spC K 2 (c_l_spoilt (ad K))) := ⟨_, _, k_l_spoilt T C_l_drawn C_l_sign_by C_l_odd F_l_spoilt, He.glo_ok X G (c.fact 26 (f := .glo "_law_spoilt") rfl), F_l_spoilt.kp, FunD.bindsN F_l_spoilt fun _ _ _ _ _ _ us hl => match us, hl with | [_, _], _ => rfl⟩
  have C_l_number : Cal P w K mg base CX0 "_law_number" 1 ["word"] (spC K 1 (c_l_number (ad K))) := ⟨_, _, k_l_number T  F_l_number, He.glo_ok X G (c.fact 27 (f := .glo "_law_number") rfl), F_l_number.kp, FunD.bindsN F_l_number fun _ _ _ _ _ _ us hl => match us, hl with | [_], _ => rfl⟩
  have C_l_due : Cal P w K mg base CX0 "_law_due" 2 ["signs"] (spC K 1 (c_l_due (ad K))) := ⟨_, _, k_l_due T C_l_number F_l_due, He.glo_ok X G (c.fact 28 (f := .glo "_law_due") rfl), F_l_due.kp, FunD.bindsN F_l_due fun _ _ _ _ _ _ us hl => match us, hl with | [_], _ => rfl⟩
  have C_number_of : Cal P w K mg base (L2.CX P w) "number_of" 1 ["word"] (spC K 1 (c_number_of (ad K))) := ⟨_, _, k_number_of T  F_number_of, He.glo_ok X G (c.fact 29 (f := .glo "number_of") rfl), F_number_of.kp, FunD.bindsN F_number_of fun _ _ _ _ _ _ us hl => match us, hl with | [_], _ => rfl⟩
  have C_within : Cal P w K mg base CX0 "within" 1 ["numbers", "most"] (spC K 2 (c_within (ad K))) := ⟨_, _, k_within T  F_within, He.glo_ok X G (c.fact 30 (f := .glo "within") rfl), F_within.kp, FunD.bindsN F_within fun _ _ _ _ _ _ us hl => match us, hl with | [_, _], _ => rfl⟩
  have C_Yard_init : Mak P w K mg base (L2N.CX P w) "Yard" (ad K).Yard 2 ["self", "rooms", "waters"] (spC K 3 (c_Yard_init (ad K))) := ⟨⟨_, _, k_Yard_init T C_within F_Yard_init, He.mkr_ok (c.fact 31 (f := .mkr "Yard") rfl), FunD.bindsN F_Yard_init fun _ _ _ _ _ _ us hl => match us, hl with | [_, _, _], _ => rfl⟩, He.glo_ok X G (c.fact 32 (f := .glo "Yard") rfl)⟩
  have C_read : Cal P w K mg base (L2.CX P w) "read" 4 ["text"] (spC K 1 (c_read (ad K))) := ⟨_, _, k_read T C_number_of C_Yard_init F_read, He.glo_ok X G (c.fact 33 (f := .glo "read") rfl), F_read.kp, FunD.bindsN F_read fun _ _ _ _ _ _ us hl => match us, hl with | [_], _ => rfl⟩
  have C_Yard_waters : Met P w K mg base CX0 (ad K).Yard "waters" 1 ["self"] (spC K 1 (c_Yard_waters (ad K))) := ⟨⟨_, _, k_Yard_waters T  F_Yard_waters, He.meth_ok (c.fact 34 (f := .meth "Yard" "waters") rfl), FunD.bindsN F_Yard_waters fun _ _ _ _ _ _ us hl => match us, hl with | [_], _ => rfl⟩, T.yardF.cls⟩
  have C_l_whole : Cal P w K mg base CX0 "_law_whole" 1 ["found"] (spC K 1 (c_l_whole (ad K))) := ⟨_, _, k_l_whole T  F_l_whole, He.glo_ok X G (c.fact 35 (f := .glo "_law_whole") rfl), F_l_whole.kp, FunD.bindsN F_l_whole fun _ _ _ _ _ _ us hl => match us, hl with | [_], _ => rfl⟩
  have C_l_row : Cal P w K mg base CX0 "_law_row" 2 ["found", "due"] (spC K 2 (c_l_row (ad K))) := ⟨_, _, k_l_row T C_l_whole F_l_row, He.glo_ok X G (c.fact 36 (f := .glo "_law_row") rfl), F_l_row.kp, FunD.bindsN F_l_row fun _ _ _ _ _ _ us hl => match us, hl with | [_, _], _ => rfl⟩
  have C_Yard_rooms : Met P w K mg base CX0 (ad K).Yard "rooms" 1 ["self"] (spC K 1 (c_Yard_rooms (ad K))) := ⟨⟨_, _, k_Yard_rooms T  F_Yard_rooms, He.meth_ok (c.fact 37 (f := .meth "Yard" "rooms") rfl), FunD.bindsN F_Yard_rooms fun _ _ _ _ _ _ us hl => match us, hl with | [_], _ => rfl⟩, T.yardF.cls⟩
  exact k_law T C_l_yard_by C_l_spoilt C_l_due C_read C_Yard_waters C_l_row C_Yard_rooms F_law
end Cy
open PySem PySem.W PySem.Calls PyProof.Rows
set_option maxRecDepth 100000 in
set_option maxHeartbeats 0 in
theorem PySem.Challenge.cw_cisternyard_k13_texts_refused_holds : PySem.Challenge.rw_cisternyard_k13_texts_refused.Holds := by
  w_on; o_law
  refine HandSHeadRun.head_any (r := OpenLaw.row PySem.Challenge.rw_cisternyard_k13_texts_refused) (q := view (OpenLaw.row PySem.Challenge.rw_cisternyard_k13_texts_refused).prog [30]) (H := Cy.hk) (ob := Cy.ob) (M := 60000) (loose := Cy.looseL) (d := HandSHeadRun.topDef (OpenLaw.row PySem.Challenge.rw_cisternyard_k13_texts_refused).prog 30) (kwd := []) Cy.ob_eq
    (by kernel_rfl) (fun s => by kernel_rfl) Cy.run (by kernel_rfl) (by kernel_rfl) (by kernel_rfl) (by rfl) (by first | assumption | decide +kernel) (by decide +kernel) ⟨rfl, rfl, rfl, rfl, rfl, by decide +kernel⟩ ?hw ?hc
  case hw => w_witness2
  case hc =>
    refine L2.walk_ofE (l := PySem.Challenge.rw_cisternyard_k13_texts_refused) (n := 63) (k := 5) (x := "script") (CX := L2.CX0) rfl (by decide) (by kernel_rfl) ⟨rfl, by decide, by decide⟩ ?F (fun _ _ _ _ z => z)
    intro w mg fa h Y G hmg0
    obtain ⟨K, KX, cx, c⟩ := Y
    have hmg : mg ("law" : PySem.Str) = some (.ref fa) := by
      have e : (HandSHeadRun.topDef (OpenLaw.row PySem.Challenge.rw_cisternyard_k13_texts_refused).prog 30).name = ("law" : PySem.Str) := by kernel_rfl
      rw [← e]
      exact hmg0
    obtain ⟨fd, hb, hF⟩ := Cy.facts (P := (PySem.Challenge.rw_cisternyard_k13_texts_refused).prog) (w := w) KX G hmg c cx
    exact ⟨K, fd, Cy.spC K 1 (Cy.c_law (Cy.ad K)), KX, hb, fun H a ns hl _ hS => Cy.law_start hS hl, hF⟩
