import PyProof.Rows.All
import Wide.All
import OpenK.AllK
import Wide.FinOn
import HandS.ForMost
import HandS.ForExc
import HandS.TryMany
import HandS.IsInst
import HandS.TupLe
import HandS.TupSets
import HandS.SetFor
import HandS.TupAny
import HandS.TupMul
import HandS.Deep
import HandS.Style
import HandS.StrMore
import KE.GoesEnum
import KE.KUnpack
import PyProof.ListStr
import HandS.Lambda
import HandS.SortInts
import PyProof.Rows.SortShellAny
import HandS.Flow
import HandS.Steps
import HandS.EndBits
import HandS.Conv
import HandS.Iter
import HandS.Replace
import KE.GoesComp
import KE.SortKeyHeap
import HandS.SortKw
import HandS.EndTab
import KE.KNestM
import PySem.Challenge.RW_lastjump_k12_refused
set_option Elab.async false
set_option linter.all false
set_option maxRecDepth 100000
set_option maxHeartbeats 2000000
/-! Dn0: rules of HandS' own kind that HandS has not: enumerate and zip of lists, tuples, texts in any mix; a new dict walked by keys; a text unpacked; list(text). -/
namespace L2.Dn
open PySem PySem.Spec PyProof.Rows

/-! ### an iterator that yields new tuples -/
def ItT (P : Hp → List (List V) → Prop) : It :=
  ⟨fun i H => ∃ rows xs, P H rows ∧ rows[i]? = some xs, fun i H v H' => ∃ T xs, v = .ref T ∧ H T = none ∧ H' = upd H T (.tup xs) ∧ ∀ rows, P H rows → rows[i]? = some xs, fun i H => ∃ rows, P H rows ∧ i = rows.length⟩
/-- what a turn of such an iterator wants of the library's own walk -/
def WtOk (K : PySem.W.Frag) (P : Hp → List (List V) → Prop) (I : Addr) (fp : List Addr) (tn : Nat → Heap → Prop) : Prop :=
  ∀ (X : Cx), X.K = K → ∀ (i : Nat) (pins : List (Addr × Obj)) (s : Shared) (σ : St) (H : Hp) (rows : List (List V)), X.calm = true → Inv X pins σ H s → (∀ b ∈ fp, FpOk X pins H b) → tn i s.heap → P H rows →
    (∀ rows', P H rows' → rows' = rows) ∧ ∃ fp' wr n Pt Stt Mid, WalksT X.prog X.w X.A I fp' wr n Pt Stt Mid ∧ (∀ b ∈ wr, b ∈ fp) ∧ Stt i s.heap ∧ n = rows.length ∧ (∀ j h, Stt j h → tn j h) ∧
      (∀ j vals, Pt j vals → ∃ xs, rows[j]? = some xs ∧ Vals xs vals.toList ∧ xs.length ≤ sizeLine)
theorem turn_t {P : Program} {w : World} {K : PySem.W.Frag} {elts : List Expr} {kk : Nat} {tpos : Pos} {Pr : Hp → List (List V) → Prop} {I : Addr} {fp : List Addr} {tn : Nat → Heap → Prop}
    (mem : I ∈ fp) (obj : ∀ i h, tn i h → ∀ b ∈ fp, ∃ o, h.get? b = some o ∧ ∀ v, o.data ≠ .cell v) (keep : ∀ i h h', tn i h → (∀ b ∈ fp, ∀ o, h.get? b = some o → h'.get? b = some o) → tn i h')
    (self : ∀ (A : Around) (i : Nat) (s : Shared) (Q : Value → Shared → Prop) (E : Value → Shared → Prop), tn i s.heap → Q (.ref I) s → wpAny (model P w) A (pyIter (.ref I)) Q E s)
    (wt : WtOk K Pr I fp tn) : Turn P w K (.Tuple elts kk tpos) (ItT Pr) fp I tn where
  mem := mem
  obj := obj
  keep := keep
  self := self
  item := by
    intro X hP hw hK hc i pins s σ H E J hf st hg
    subst hP hw hK
    obtain ⟨rows, xs, hp, hx⟩ := hg
    obtain ⟨inj, fp', wr, n, Pt, Stt, Mid, W, hsub, hst, hn, htn, hpt⟩ := wt X rfl i pins s σ H rows hc J hf st hp
    have hi : i < n := by
      rw [hn]
      exact (List.getElem?_eq_some_iff.mp hx).1
    refine W.item i s _ _ hi hst fun T vals h1 tk hv hT htup hm hk => ⟨_, rfl, ?_⟩
    obtain ⟨xs', hx', rv, hz⟩ := hpt i vals hv
    have hap : T ∉ wr := W.apart i T h1 hm
    refine W.go elts kk tpos i T _ _ _ hm fun h2 hst2 hk2 => ?_
    obtain ⟨o, ho, hcl, nn, hd⟩ := htup
    have ho2 : h2.get? T = some o := hk2 T o hap ho
    have new : ObjOk X.prog X.w (upd H T (.tup xs')) h2 T (.tup xs') := by
      refine ⟨hz, vals.toList, rv, ?_⟩
      exact ⟨o, ho2, hcl, nn, by rw [hd]⟩
    have I1 : Inv X pins σ (upd H T (.tup xs')) { s with heap := h2, toks := tk } :=
      J.turnedNew (ch := fp) (fun b ob hb q => hk2 b ob (fun z => hb (hsub b z)) (hk b ob (fun z => hb (hsub b z)) q)) hf hT new
    have hnT : H T = none := J.hok.fresh hT
    refine ⟨.ref T, _, I1, rfl, ⟨T, xs', rfl, hnT, rfl, fun rows' hr => by rw [inj rows' hr]; exact hx'⟩, htn _ _ hst2, fun b hb => ?_⟩
    have hne : b ≠ T := fun z => by
      obtain ⟨o', e', _⟩ := obj i s.heap st b hb
      exact absurd (Nat.lt_of_lt_of_le (Heap.lt_size e') (by rw [z]; exact hT)) (Nat.lt_irrefl _)
    rw [upd_ne hne]
    exact (hf b hb).1
  done := by
    intro X hP hw hK hc i pins s σ H E J hf st hg
    subst hP hw hK
    obtain ⟨rows, hp, hx⟩ := hg
    obtain ⟨inj, fp', wr, n, Pt, Stt, Mid, W, hsub, hst, hn, htn, hpt⟩ := wt X rfl i pins s σ H rows hc J hf st hp
    have e : i = n := by rw [hn]; exact hx
    subst e
    exact W.done s _ _ hst fun h' tk hk => ⟨rfl, J.turnedL (ch := fp) (fun b o hb q => hk b o (fun z => hb (hsub b z)) q) hf⟩

/-! ### what is gone through -/
inductive Sr where
  | lst (a : Addr) | tup (a : Addr) | str (x : Str)
def Sr.v : Sr → V
  | .lst a => .ref a
  | .tup a => .ref a
  | .str x => .str x
def sgnV (x : Str) : List V := x.cps.toList.map fun c => V.str ⟨#[c]⟩
def Sr.is (K : PySem.W.Frag) (H : Hp) : Sr → List V → Prop
  | .lst a, xs => SqL K H a xs
  | .tup a, xs => SqT K H a xs
  | .str x, xs => xs = sgnV x
/-- the iterator at it draws from it, place i -/
def Sr.At (h : Heap) (it : Addr) (i : Nat) : Sr → Prop
  | .lst a => h.IsListIter it a i
  | .tup a => h.IsTupleIter it a i
  | .str x => ∃ t, h.IsStrIter it (strIterType x) x t i
theorem Sr.At.obj {sr : Sr} {h : Heap} {it : Addr} {i : Nat} (a : sr.At h it i) : ∃ o, h.get? it = some o ∧ ∀ v, o.data ≠ .cell v := by
  cases sr with
  | lst l => obtain ⟨o, e, _, d⟩ := a; exact ⟨o, e, fun v z => by rw [d] at z; cases z⟩
  | tup l => obtain ⟨o, e, _, d⟩ := a; exact ⟨o, e, fun v z => by rw [d] at z; cases z⟩
  | str x => obtain ⟨t, o, e, _, d⟩ := a; exact ⟨o, e, fun v z => by rw [d] at z; cases z⟩
theorem Sr.At.keep {sr : Sr} {h h' : Heap} {it : Addr} {i : Nat} (a : sr.At h it i) (k : ∀ o, h.get? it = some o → h'.get? it = some o) : sr.At h' it i := by
  cases sr with
  | lst l => obtain ⟨o, e, r⟩ := a; exact ⟨o, k o e, r⟩
  | tup l => obtain ⟨o, e, r⟩ := a; exact ⟨o, k o e, r⟩
  | str x => obtain ⟨t, o, e, r⟩ := a; exact ⟨t, o, k o e, r⟩
section
variable {X : Cx} {pins : List (Addr × Obj)} {σ : St} {H : Hp} {s : Shared}
theorem tuple_inj (I : Inv X pins σ H s) {a : Addr} {xs ys : List V} (h : SqT X.K H a xs) (h' : SqT X.K H a ys) : xs = ys := by
  obtain ⟨its, r, ⟨o, e, _, n, d⟩, _⟩ := I.tuple h
  obtain ⟨its', r', ⟨o', e', _, n', d'⟩, _⟩ := I.tuple h'
  rw [e] at e'; cases e'
  rw [d] at d'
  have q : its = its' := by
    have z : its.toArray = its'.toArray := by injection d'
    simpa using congrArg Array.toList z
  subst q
  exact Vals.inj r r'
theorem Sr.inj (I : Inv X pins σ H s) {sr : Sr} {xs ys : List V} (h : sr.is X.K H xs) (h' : sr.is X.K H ys) : xs = ys := by
  cases sr with
  | lst a => exact I.list_inj h h'
  | tup a => exact tuple_inj I h h'
  | str x => exact h.trans h'.symm
theorem sgnV_get {x : Str} {j c : Nat} (h : x.cps[j]? = some c) : (sgnV x)[j]? = some (.str ⟨#[c]⟩) := by
  unfold sgnV
  rw [List.getElem?_map, Array.getElem?_toList, h]
  rfl
/-- what it draws -/
theorem Sr.draws (I : Inv X pins σ H s) (hc : X.calm = true) {sr : Sr} {it : Addr} {i : Nat} {xs : List V} (hs : sr.is X.K H xs) (at_ : sr.At s.heap it i) :
    ∃ (fp : List Addr) (n : Nat) (P : Nat → Value → Prop) (Stt : Nat → Heap → Prop), Draws X.prog X.w X.A.in1 it fp n P Stt ∧ Stt i s.heap ∧ it ∈ fp ∧ n = xs.length ∧ (∀ j u, P j u → ∃ x, xs[j]? = some x ∧ RelV x u) ∧
      (∀ j h, Stt j h → sr.At h it j) ∧ ∀ b ∈ fp, b ≠ it → ∃ o, s.heap.get? b = some o ∧ (o.cls = .type "list" ∨ o.cls = .type "tuple") ∧ ∃ vs n, o.data = .seq vs n ∧ H b ≠ none ∨ (∃ o', X.K.lookup b = some o') := by
  have hh : X.A.in1.handled = none := I.ok.hd hc
  cases sr with
  | lst a =>
    obtain ⟨its, rv, pl, hz⟩ := I.list hs
    obtain ⟨o, e, c, d⟩ := at_
    obtain ⟨o2, n2, e2, c2, _, d2⟩ := id pl
    have hne : a ≠ it := fun z => by
      subst z
      rw [e] at e2; cases e2
      have z2 := c.symm.trans c2
      injection z2 with z3
      exact absurd z3 (by decide)
    refine ⟨[it, a], its.toArray.size, _, _, Draws.list hh it a hne its.toArray, ⟨⟨o, e, c, d⟩, pl.isList⟩, by simp, by simp [rv.length], fun j u hj => ?_, fun j h z => z.1, fun b hb hbi => ?_⟩
    · have hj' : its[j]? = some u := by simpa using hj
      have hl : j < xs.length := by rw [rv.length]; exact (List.getElem?_eq_some_iff.mp hj').1
      obtain ⟨u', h1, h2⟩ := rv.get (List.getElem?_eq_getElem hl)
      rw [hj'] at h1; cases h1
      exact ⟨_, List.getElem?_eq_getElem hl, h2⟩
    · have q : b = a := by simpa [hbi] using hb
      subst q
      refine ⟨o2, e2, .inl c2, its.toArray, n2, ?_⟩
      rcases hs with z | ⟨o3, _, _, z, _⟩
      · refine .inl ⟨d2, ?_⟩
        rcases z with z | ⟨_, z⟩ <;> rw [z] <;> intro y <;> cases y
      · exact .inr ⟨o3, z⟩
  | tup a =>
    obtain ⟨its, rv, pl, hz⟩ := I.tuple hs
    obtain ⟨o, e, c, d⟩ := at_
    obtain ⟨o2, e2, c2, n2, d2⟩ := id pl
    have hne : a ≠ it := fun z => by
      subst z
      rw [e] at e2; cases e2
      have z2 := c.symm.trans c2
      injection z2 with z3
      exact absurd z3 (by decide)
    refine ⟨[it, a], its.toArray.size, _, _, Draws.tuple hh it a hne its.toArray, ⟨⟨o, e, c, d⟩, pl⟩, by simp, by simp [rv.length], fun j u hj => ?_, fun j h z => z.1, fun b hb hbi => ?_⟩
    · have hj' : its[j]? = some u := by simpa using hj
      have hl : j < xs.length := by rw [rv.length]; exact (List.getElem?_eq_some_iff.mp hj').1
      obtain ⟨u', h1, h2⟩ := rv.get (List.getElem?_eq_getElem hl)
      rw [hj'] at h1; cases h1
      exact ⟨_, List.getElem?_eq_getElem hl, h2⟩
    · have q : b = a := by simpa [hbi] using hb
      subst q
      refine ⟨o2, e2, .inr c2, its.toArray, n2, ?_⟩
      rcases hs with z | ⟨o3, _, _, z, _⟩
      · refine .inl ⟨d2, ?_⟩
        rcases z with z | ⟨_, z⟩ <;> rw [z] <;> intro y <;> cases y
      · exact .inr ⟨o3, z⟩
  | str x =>
    obtain ⟨t, hst⟩ := at_
    have hs' : xs = sgnV x := hs
    subst hs'
    refine ⟨[it], x.cps.size, _, _, Draws.text hh it x t, hst, by simp, by simp [sgnV], fun j u hj => ?_, fun j h z => ⟨t, z⟩, fun b hb hbi => ?_⟩
    · obtain ⟨c, tk, h1, rfl⟩ := hj
      exact ⟨_, sgnV_get h1, ⟨_, rfl⟩⟩
    · exact absurd (by simpa using hb) hbi
theorem Sr.At.lt {sr : Sr} {h : Heap} {it : Addr} {i : Nat} (a : sr.At h it i) : it < h.objs.size := by
  obtain ⟨o, e, _⟩ := a.obj
  exact Heap.lt_size e
/-- iter(v) begins -/
theorem Sr.begins (I : Inv X pins σ H s) {sr : Sr} {xs : List V} {u : Value} (hs : sr.is X.K H xs) (r : RelV sr.v u) : ∃ (o : Obj) (Hh : Heap → Prop), Begins u o Hh ∧ Hh s.heap ∧ ∀ (h : Heap) (it : Addr), h.get? it = some o → sr.At h it 0 := by
  cases sr with
  | lst a =>
    obtain ⟨its, rv, pl, hz⟩ := I.list hs
    obtain rfl : u = Value.ref a := r
    exact ⟨_, _, begins_list a its.toArray, pl.isList, fun h it e => ⟨_, e, rfl, rfl⟩⟩
  | tup a =>
    obtain ⟨its, rv, pl, hz⟩ := I.tuple hs
    obtain rfl : u = Value.ref a := r
    exact ⟨_, _, begins_tuple a its.toArray, pl, fun h it e => ⟨_, e, rfl, rfl⟩⟩
  | str x =>
    obtain ⟨t, rfl⟩ := r
    exact ⟨_, _, begins_text x t, trivial, fun h it e => ⟨t, _, e, rfl, rfl⟩⟩
end

/-! ### enumerate -/
set_option maxHeartbeats 4000000 in
theorem meets_enumerate_new1 {v : Value} {o : Obj} {H : Heap → Prop} (B : Begins v o H) :
    Meets (Builtin.«enumerate.__new__» ⟨[.type "enumerate", v], []⟩) (fun _ R s => H s.heap ∧
      R (.ok (.ret (.ref (s.heap.push o).objs.size))) { s with heap := (s.heap.push o).push { cls := .type "enumerate", data := .fields #[.none, .bool false, .ref s.heap.objs.size, rawInt 0, .none, .none] } }) :=
  .of_wp fun prog w A R s h => by
    obtain ⟨hp, g, d, tk, os⟩ := s; obtain ⟨h1, h⟩ := h
    have hsub := sub_enumerate
    have q1 : ∀ {A' : Around} {E : Value → Shared → Prop} {Q : Value → Shared → Prop}, Q (.ref hp.objs.size) ⟨hp.push o, g, d, tk, os⟩ → wpAny (model prog w) A' (pyIter v) Q E ⟨hp, g, d, tk, os⟩ :=
      fun q => B.iter prog w _ _ ⟨hp, g, d, tk, os⟩ _ h1 q
    wp_walk using q1
    refine wpAny_stack_any fun st => wpAny_pure ?_
    split
    · rename_i c _ _ _ _ _
      cases (c == Value.type "enumerate")
      · wp_walk using q1
        exact ⟨_, rfl, h⟩
      · wp_walk using q1
        exact ⟨_, rfl, h⟩
    · wp_walk using q1
      exact ⟨_, rfl, h⟩
theorem call_enum_one {prog : Program} {w : World} {A : Around} {E : Value → Shared → Prop} {s : Shared} {v : Value} {o : Obj} {H : Heap → Prop} {Q : Value → Shared → Prop} (B : Begins v o H) (h1 : H s.heap)
    (h : ∀ h', IsEnum h' (s.heap.objs.size + 1) s.heap.objs.size 0 .none → h'.get? s.heap.objs.size = some o → h'.objs.size = s.heap.objs.size + 2 →
      (∀ b o, s.heap.get? b = some o → h'.get? b = some o) → Q (.ref (s.heap.objs.size + 1)) { s with heap := h' }) :
    wpAny (model prog w) A (call (.type "enumerate") [v]) Q E s := by
  refine callType_new F.called_enumerate (by decide) (F.typeCall_enumerate_1 _) (F.newCall_enumerate_1 _) (fun obj => F.args_object_init_2 obj _) F.entry_enumerate_new
    (meets_enumerate_new1 B) ⟨h1, ?_⟩
  have hz : (s.heap.push o).objs.size = s.heap.objs.size + 1 := Heap.size_push ..
  show _ ∧ _
  rw [hz]
  have he : IsEnum ((s.heap.push o).push { cls := .type "enumerate", data := .fields #[.none, .bool false, .ref s.heap.objs.size, rawInt 0, .none, .none] }) (s.heap.objs.size + 1) s.heap.objs.size 0 .none := by
    have := Heap.get?_push_size (s.heap.push o) (o := { cls := .type "enumerate", data := .fields #[.none, .bool false, .ref s.heap.objs.size, rawInt 0, .none, .none] }) rfl
    rw [hz] at this; exact this
  exact ⟨⟨_, he, rfl⟩, h _ he (Heap.get?_push_of_some _ (Heap.get?_push_size _ B.free)) (by rw [Heap.size_push, hz]) fun b o x => Heap.get?_push_of_some _ (Heap.get?_push_of_some _ x)⟩

def enumRows (xs : List V) : List (List V) := xs.zipIdx.map fun p => [.int (p.2 : Nat), p.1]
theorem enumRows_get {xs : List V} {i : Nat} {x : V} (h : xs[i]? = some x) : (enumRows xs)[i]? = some [.int (i : Nat), x] := by
  unfold enumRows
  rw [List.getElem?_map, List.getElem?_zipIdx, h]
  show some [V.int ((0 + i : Nat) : Int), x] = _
  rw [Nat.zero_add]
theorem enumRows_length {xs : List V} : (enumRows xs).length = xs.length := by
  unfold enumRows
  rw [List.length_map, List.length_zipIdx]
def PEn (K : PySem.W.Frag) (sr : Sr) : Hp → List (List V) → Prop := fun H rows => ∃ xs, sr.is K H xs ∧ rows = enumRows xs
abbrev tnEn (sr : Sr) (e it : Addr) : Nat → Heap → Prop := fun i h => (∃ old, IsEnum h e it ((i : Nat) : Int) old) ∧ sr.At h it i ∧ e ≠ it
theorem wt_enum {K : PySem.W.Frag} {sr : Sr} {e it : Addr} : WtOk K (PEn K sr) e [e, it] (tnEn sr e it) := by
  intro X hK i pins s σ H rows hc I hf st hp
  subst hK
  obtain ⟨xs, hs, rfl⟩ := hp
  obtain ⟨⟨old, he⟩, hat, hne⟩ := st
  refine ⟨fun rows' ⟨ys, hy, er⟩ => by rw [er, Sr.inj I hy hs], ?_⟩
  obtain ⟨fp, n, P, Stt, D, hst, hif, hn, hP, hat', hfp⟩ := Sr.draws I hc hs hat
  have hef : e ∉ fp := fun z => by
    obtain ⟨o, ho, hcl, vs, nn, hd⟩ := hfp e z hne
    have e1 : s.heap.get? e = some _ := he
    rw [ho] at e1
    cases e1
    rcases hcl with q | q
    · injection q with q'
      exact absurd q' (by decide)
    · injection q with q'
      exact absurd q' (by decide)
  refine ⟨_, _, _, _, _, _, WalksT.enumFrom 0 D e hne hef hif, fun b hb => hb, ⟨⟨old, by rw [Int.zero_add]; exact he⟩, hst⟩, by rw [hn, enumRows_length], fun j h ⟨⟨old, q⟩, q2⟩ => ⟨⟨old, by rw [Int.zero_add] at q; exact q⟩, hat' j h q2, hne⟩, fun j vals ⟨t, u, hu, ev⟩ => ?_⟩
  obtain ⟨x, hx, rx⟩ := hP j u hu
  refine ⟨[.int (j : Nat), x], enumRows_get hx, ?_, by show 2 ≤ sizeLine; decide⟩
  rw [ev]
  exact .cons ⟨t, by rw [Int.zero_add]⟩ (.cons rx .nil)
theorem turn_enumX {P : Program} {w : World} {K : PySem.W.Frag} {elts : List Expr} {kk : Nat} {tpos : Pos} (sr : Sr) (e it : Addr) : Turn P w K (.Tuple elts kk tpos) (ItT (PEn K sr)) [e, it] e (tnEn sr e it) :=
  turn_t (by simp) (fun i h st b hb => by
      obtain ⟨⟨old, he⟩, hat, _⟩ := st
      have e' : b = e ∨ b = it := by simpa using hb
      rcases e' with z | z
      · rw [z]; exact ⟨_, he, fun v q => nomatch q⟩
      · rw [z]; exact hat.obj)
    (fun i h h' st k => let ⟨⟨old, he⟩, hat, hne⟩ := st; ⟨⟨old, k e (by simp) _ he⟩, hat.keep fun o q => k it (by simp) o q, hne⟩)
    (fun A i s Q E st h => let ⟨⟨_, he⟩, _⟩ := st; wpAny_pyIter_enum he h) wt_enum
def iEnumX (K : PySem.W.Frag) (ta : TA) : TI := fun σ H R => ta σ H fun vs H1 => ∃ sr xs, vs = [Sr.v sr] ∧ sr.is K H1 xs ∧ R (ItT (PEn K sr)) H1
theorem pi_enumX {X : Cx} {e : Expr} {ta : TA} {p pos tpos : Pos} {elts : List Expr} {kk : Nat} (hg : Gl X "enumerate") (hm : X.mg "enumerate" = none) (ha : PA X [e] ta) (hs : starEach [e] X.env = [(false, eval e X.env)] := by rfl) :
    PI X (.Tuple elts kk tpos) (.Call (.Name "enumerate" p) [e] [] pos) (iEnumX X.K ta) := by
  refine ⟨fun pins s σ H R I h => ?_⟩
  refine Call_ (ld_blt I hg hm boot_enumerate (PyProof.Rows.callWith_type1 (thn (ha.run pos pins s σ H _ I h) fun us s1 ⟨vs, H1, I1, r1, q1⟩ => ?_) hs rfl))
  obtain ⟨sr, xs, ex, hq, q⟩ := q1
  subst ex
  cases r1 with
  | cons r rr =>
    cases rr
    rename_i u
    obtain ⟨o, Hh, B, hB, hat⟩ := Sr.begins I1 hq r
    refine call_enum_one B hB fun h' he hit hsz hk => wpAny_pyIter_enum he ?_
    have I2 : Inv X pins σ H1 { s1 with heap := h' } := I1.kept (t' := s1.toks) hk
    refine ⟨s1.heap.objs.size + 1, [s1.heap.objs.size + 1, s1.heap.objs.size], _, _, H1, rfl, I2, turn_enumX sr (s1.heap.objs.size + 1) s1.heap.objs.size, ⟨⟨.none, he⟩, hat _ _ hit, Nat.succ_ne_self _⟩, fun b hb => ?_, q⟩
    have e' : b = s1.heap.objs.size + 1 ∨ b = s1.heap.objs.size := by simpa using hb
    have hle : s1.heap.objs.size ≤ b := by
      rcases e' with z | z
      · rw [z]; exact Nat.le_add_right _ _
      · rw [z]; exact Nat.le_refl _
    exact I1.fpOk hle (I1.hok.fresh hle)
end L2.Dn


set_option Elab.async false
set_option linter.all false
set_option maxRecDepth 100000
set_option maxHeartbeats 2000000
/-! Dn0b: zip of two; a dict walked by keys from now on; a text unpacked; list(text). -/
namespace L2.Dn
open PySem PySem.Spec PyProof.Rows

/-! ### zip -/
def zipRows (xs ys : List V) : List (List V) := List.zipWith (fun x y => [x, y]) xs ys
theorem zipRows_get {xs ys : List V} {i : Nat} {x y : V} (h : xs[i]? = some x) (k : ys[i]? = some y) : (zipRows xs ys)[i]? = some [x, y] := by
  unfold zipRows
  rw [List.getElem?_zipWith, h, k]
theorem zipRows_length {xs ys : List V} : (zipRows xs ys).length = min xs.length ys.length := by
  unfold zipRows
  rw [List.length_zipWith]
def PZi (K : PySem.W.Frag) (s1 s2 : Sr) : Hp → List (List V) → Prop := fun H rows => ∃ xs ys, s1.is K H xs ∧ s2.is K H ys ∧ rows = zipRows xs ys
/-- z, TI, TO, i1, i2 lie apart -/
structure Apart (z TI TO i1 i2 : Addr) : Prop where
  a1 : TI ≠ z
  a2 : TO ≠ z
  a3 : TI ≠ TO
  a4 : TI ≠ i1
  a5 : TI ≠ i2
  a6 : z ≠ i1
  a7 : z ≠ i2
  a8 : TO ≠ i1
  a9 : TO ≠ i2
  b1 : i1 ≠ i2
abbrev tnZi (s1 s2 : Sr) (z TI TO i1 i2 : Addr) : Nat → Heap → Prop := fun i h =>
  IsZip h z TI TO .none ∧ IsTupOf2 h TI (.ref i1) (.ref i2) ∧ (∃ a1 a2, IsTupOf2 h TO a1 a2) ∧ s1.At h i1 i ∧ s2.At h i2 i
theorem wt_zip {K : PySem.W.Frag} {s1 s2 : Sr} {z TI TO i1 i2 : Addr} (ap : Apart z TI TO i1 i2) : WtOk K (PZi K s1 s2) z [z, TI, TO, i1, i2] (tnZi s1 s2 z TI TO i1 i2) := by
  intro X hK i pins s σ H rows hc I hf st hp
  subst hK
  obtain ⟨xs, ys, hs, hy, rfl⟩ := hp
  obtain ⟨hz, hTI, ⟨a1, a2, hTO⟩, hat1, hat2⟩ := id st
  refine ⟨fun rows' ⟨xs', ys', hx', hy', er⟩ => by rw [er, Sr.inj I hx' hs, Sr.inj I hy' hy], ?_⟩
  obtain ⟨fp1, n1, P1, St1, D1, hst1, hif1, hn1, hP1, hat1', hfp1⟩ := Sr.draws I hc hs hat1
  obtain ⟨fp2, n2, P2, St2, D2, hst2, hif2, hn2, hP2, hat2', hfp2⟩ := Sr.draws I hc hy hat2
  -- an own thing of the iterator is not what is gone through
  have off : ∀ {fp : List Addr} {it : Addr}, (∀ b ∈ fp, b ≠ it → ∃ o, s.heap.get? b = some o ∧ (o.cls = .type "list" ∨ o.cls = .type "tuple") ∧ ∃ vs n, o.data = .seq vs n ∧ H b ≠ none ∨ (∃ o', X.K.lookup b = some o')) →
      ∀ c ∈ [z, TI, TO, i1, i2], c ≠ it → c ∉ fp := fun {fp it} hfp c hcm hne hm => by
    obtain ⟨o, ho, hcl, vs, nn, hd⟩ := hfp c hm hne
    obtain ⟨f0, f1, f2, f3, f4, f5⟩ := hf c hcm
    rcases hd with ⟨_, hd⟩ | ⟨o', hk⟩
    · exact hd f0
    · have e1 : X.base.get? c = some o' := I.ok.mod.kin _ _ hk
      rcases f3 with q | q
      · exact I.ok.noex _ _ e1 q
      · exact absurd (Nat.lt_of_lt_of_le (Heap.lt_size (I.ok.bs _ _ e1).1) q) (Nat.lt_irrefl _)
  have S : ZipSep2 z TI TO i1 i2 fp1 fp2 :=
    { TIz := ap.a1, TOz := ap.a2, TITO := ap.a3, TIi1 := ap.a4, mem1 := hif1, zf1 := off hfp1 z (by simp) ap.a6, Tf1 := off hfp1 TO (by simp) ap.a8, TIi2 := ap.a5, mem2 := hif2,
      zf2 := off hfp2 z (by simp) ap.a7, Tf2 := off hfp2 TO (by simp) ap.a9, sep1_2 := off hfp2 i1 (by simp) ap.b1, sep2_1 := off hfp1 i2 (by simp) (Ne.symm ap.b1) }
  refine ⟨_, _, _, _, _, _, WalksT.zipD2 S D1 D2, fun b hb => ?_, ⟨hz, hTI, ⟨a1, a2, hTO⟩, hst1, hst2⟩, by rw [hn1, hn2, zipRows_length], fun j h ⟨q1, q2, q3, q4, q5⟩ => ⟨q1, q2, q3, hat1' j h q4, hat2' j h q5⟩, fun j vals ⟨u, u2, hu, hu2, ev⟩ => ?_⟩
  · have e' : b = z ∨ b = TO ∨ b = i1 ∨ b = i2 := by simpa using hb
    rcases e' with q | q | q | q <;> rw [q] <;> simp
  · obtain ⟨x, hx, rx⟩ := hP1 j u hu
    obtain ⟨y, hy, ry⟩ := hP2 j u2 hu2
    refine ⟨[x, y], zipRows_get hx hy, ?_, by show 2 ≤ sizeLine; decide⟩
    rw [ev]
    exact .cons rx (.cons ry .nil)
theorem turn_zipX {P : Program} {w : World} {K : PySem.W.Frag} {elts : List Expr} {kk : Nat} {tpos : Pos} (s1 s2 : Sr) {z TI TO i1 i2 : Addr} (ap : Apart z TI TO i1 i2) :
    Turn P w K (.Tuple elts kk tpos) (ItT (PZi K s1 s2)) [z, TI, TO, i1, i2] z (tnZi s1 s2 z TI TO i1 i2) :=
  turn_t (by simp) (fun i h st b hb => by
      obtain ⟨hz, hTI, ⟨a1, a2, hTO⟩, hat1, hat2⟩ := st
      have e' : b = z ∨ b = TI ∨ b = TO ∨ b = i1 ∨ b = i2 := by simpa using hb
      rcases e' with q | q | q | q | q
      · rw [q]; exact ⟨_, hz, fun v q => nomatch q⟩
      · rw [q]; exact ⟨_, hTI, fun v q => nomatch q⟩
      · rw [q]; exact ⟨_, hTO, fun v q => nomatch q⟩
      · rw [q]; exact hat1.obj
      · rw [q]; exact hat2.obj)
    (fun i h h' st k => by
      obtain ⟨hz, hTI, ⟨a1, a2, hTO⟩, hat1, hat2⟩ := st
      exact ⟨k z (by simp) _ hz, k TI (by simp) _ hTI, ⟨a1, a2, k TO (by simp) _ hTO⟩, hat1.keep fun o q => k i1 (by simp) o q, hat2.keep fun o q => k i2 (by simp) o q⟩)
    (fun A i s Q E st h => wpAny_pyIter_zip st.1 h) (wt_zip ap)
def iZipX (K : PySem.W.Frag) (ta : TA) : TI := fun σ H R => ta σ H fun vs H1 => ∃ s1 s2 xs ys, vs = [Sr.v s1, Sr.v s2] ∧ s1.is K H1 xs ∧ s2.is K H1 ys ∧ R (ItT (PZi K s1 s2)) H1
theorem pi_zipX {X : Cx} {e e2 : Expr} {ta : TA} {p pos tpos : Pos} {elts : List Expr} {kk : Nat} (hg : Gl X "zip") (hm : X.mg "zip" = none) (ha : PA X [e, e2] ta)
    (hs : starEach [e, e2] X.env = (false, eval e X.env) :: starEach [e2] X.env := by rfl) (hpl : (backTo pos (starEach [e2] X.env)).any (·.1) = false := by rfl) :
    PI X (.Tuple elts kk tpos) (.Call (.Name "zip" p) [e, e2] [] pos) (iZipX X.K ta) := by
  refine ⟨fun pins s σ H R I h => ?_⟩
  refine Call_ (ld_blt I hg hm PyProof.Rows.boot_zip (PyProof.Rows.callWith_type1 (thn (ha.run pos pins s σ H _ I h) fun us s1 ⟨vs, H1, I1, r1, q1⟩ => ?_) hs hpl))
  obtain ⟨sr1, sr2, xs, ys, ex, hqx, hqy, q⟩ := q1
  subst ex
  cases r1 with
  | cons r rr =>
    cases rr with
    | cons r' rr =>
      cases rr
      obtain ⟨o1, Hh1, B1, hB1, hat1⟩ := Sr.begins I1 hqx r
      obtain ⟨o2, Hh2, B2, hB2, hat2⟩ := Sr.begins I1 hqy r'
      refine zip_begins2 B1 B2 hB1 hB2 fun h' hz hTI hTO h1 h2 hsz hk => wpAny_pyIter_zip hz ?_
      have I2 : Inv X pins σ H1 { s1 with heap := h' } := I1.kept (t' := s1.toks) hk
      have ap : ∀ N : Nat, Apart (N + 4) (N + 2) (N + 3) N (N + 1) := fun N =>
        ⟨show (N + 2 : Nat) ≠ N + 4 by omega, show (N + 3 : Nat) ≠ N + 4 by omega, show (N + 2 : Nat) ≠ N + 3 by omega, show (N + 2 : Nat) ≠ N by omega, show (N + 2 : Nat) ≠ N + 1 by omega,
          show (N + 4 : Nat) ≠ N by omega, show (N + 4 : Nat) ≠ N + 1 by omega, show (N + 3 : Nat) ≠ N by omega, show (N + 3 : Nat) ≠ N + 1 by omega, show (N : Nat) ≠ N + 1 by omega⟩
      refine ⟨s1.heap.objs.size + 4, [s1.heap.objs.size + 4, s1.heap.objs.size + 2, s1.heap.objs.size + 3, s1.heap.objs.size, s1.heap.objs.size + 1], _, _, H1, rfl, I2, turn_zipX sr1 sr2 (ap _), ⟨hz, hTI, ⟨_, _, hTO⟩, hat1 _ _ h1, hat2 _ _ h2⟩, fun c hcm => ?_, q⟩
      have e' : c = s1.heap.objs.size + 4 ∨ c = s1.heap.objs.size + 2 ∨ c = s1.heap.objs.size + 3 ∨ c = s1.heap.objs.size ∨ c = s1.heap.objs.size + 1 := by simpa using hcm
      have hle : s1.heap.objs.size ≤ c := by
        rcases e' with z | z | z | z | z
        · rw [z]; exact Nat.le_add_right _ _
        · rw [z]; exact Nat.le_add_right _ _
        · rw [z]; exact Nat.le_add_right _ _
        · rw [z]; exact Nat.le_refl _
        · rw [z]; exact Nat.le_add_right _ _
      exact I1.fpOk hle (I1.hok.fresh hle)

/-! ### a dict of the call's own, walked by its keys: from then on it is only read -/
def iKeysL (td : TE) : TI := fun σ H R => td σ H fun x H1 => ∃ d kvs, x = .ref d ∧ H1 d = some (.dK kvs) ∧ ∀ o, R (Itk d o kvs) (upd H1 d (.frz o (.dK kvs)))
theorem pi_keysL {X : Cx} {tg e : Expr} {td : TE} (he : PE X e td) : PI X tg e (iKeysL td) := by
  refine ⟨fun pins s σ H R I h => ?_⟩
  refine thn (he.run pins s σ H _ I h) fun u s1 ⟨x, H1, I1, rx, d, kvs, ex, hd, q⟩ => ?_
  subst ex
  obtain rfl : u = Value.ref d := rx
  obtain ⟨od, I2⟩ := I1.lock hd trivial
  have hd2 : upd H1 d (.frz od (.dK kvs)) d = some (.frz od (.dK kvs)) := upd_same
  obtain ⟨hs, hgd, hx, es, ep, vs, hdt, hsz, kv, hm⟩ := I2.frzK hd2
  refine iter_keys hs hgd hx hdt (pi_one (tk := s1.toks) I2 _ (turn_keys _ hdt) ⟨_, Heap.get?_push_size _ rfl, rfl, ?_⟩ (q od))
  rw [hsz] <;> rfl

/-! ### a text unpacked -/
section
variable {prog : Program} {w : World} {A : Around} {E : Value → Shared → Prop}
theorem draws_list {it : Addr} {fp : List Addr} {n : Nat} {P : Nat → Value → Prop} {Stt : Nat → Heap → Prop} (W : Walks prog w A it fp [it] n P Stt) : ∀ (k i : Nat) (s : Shared) (Q : List Value → Shared → Prop), Stt i s.heap → i + k ≤ n →
    (∀ us h' tk, Stt (i + k) h' → (∀ b o, b ≠ it → s.heap.get? b = some o → h'.get? b = some o) → us.length = k → (∀ j u, us[j]? = some u → P (i + j) u) → Q us { s with heap := h', toks := tk }) → wpAny (model prog w) A (draw (.ref it) k) Q E s
  | 0, i, s, Q, hit, _, hQ => by
    show wpAny _ _ (pure []) Q E s
    exact wpAny_pure (hQ [] s.heap s.toks hit (fun _ _ _ e => e) rfl fun j u e => by simp at e)
  | k + 1, i, s, Q, hit, hle, hQ => by
    show wpAny _ _ (pyNext (.ref it) >>= _) Q E s
    refine wpAny_bind (W.item i s _ _ (by omega) hit fun x h₁ tk hp hst₁ hk₁ => ?_)
    refine wpAny_bind (wpAny_holding (draws_list W k (i + 1) _ _ hst₁ (by omega) fun us h₂ tk2 hst₂ hk₂ hl hu => wpAny_pure ?_))
    refine hQ (x :: us) h₂ tk2 (by rw [show i + (k + 1) = i + 1 + k by omega]; exact hst₂) (fun b o hb e => hk₂ b o hb (hk₁ b o (fun z => hb (by simpa using z)) e)) (by simp [hl]) fun j u e => ?_
    cases j with
    | zero => simp at e; subst e; exact hp
    | succ j =>
      have := hu j u (by simpa using e)
      rw [show i + (j + 1) = i + 1 + j by omega]
      exact this
theorem unpack_str {s : Shared} {x : Str} {t : Tok} {n : Nat} {Q : List Value → Shared → Prop} (hh : A.handled = none) (hn : n = x.cps.size)
    (hQ : ∀ us h' tk, (∀ b o, s.heap.get? b = some o → h'.get? b = some o) → us.length = n → (∀ j u, us[j]? = some u → SignAt x j u) → Q us { s with heap := h', toks := tk }) : wpAny (model prog w) A (unpackItems (.str x t) n none) Q E s := by
  subst hn
  unfold unpackItems
  refine wpAny_bind ?_
  · unfold notIterableAtAll
    refine wpAny_bind (wpAny_specialOf (T := "str") (v := .str x t) rfl F.slot_str_iter.lookup ?_)
    refine wpAny_pure ?_
    simp only [Bool.false_eq_true, if_false]
    refine wpAny_bind (wpAny_holding (wpAny_pyIter_str fun o Stt W hst => ?_))
    have W0 := W A hh
    refine wpAny_bind (wpAny_holding (draws_list W0 x.cps.size 0 _ _ hst (by omega) fun us h₁ tk hst₁ hk₁ hl hu => ?_))
    rw [if_neg (by simp [hl])]
    refine wpAny_bind (wpAny_holding (W0.done _ _ _ (by simpa using hst₁) fun h₂ tk2 hk₂ => ?_))
    simp only [Option.isSome_none, Bool.false_eq_true, if_false]
    refine wpAny_pure (hQ us h₂ tk2 (fun b o e => ?_) hl fun j u e => by simpa using hu j u e)
    have hb : b ≠ s.heap.objs.size := Nat.ne_of_lt (Heap.lt_size e)
    exact hk₂ b o (fun z => hb (by simpa using z)) (hk₁ b o hb (Heap.get?_push_of_some _ e))
end
theorem signs_vals {x : Str} {us : List Value} (hl : us.length = x.cps.size) (hu : ∀ j u, us[j]? = some u → SignAt x j u) : Vals (sgnV x) us := by
  have key : ∀ (l : List Nat) (vs : List Value), l.length = vs.length → (∀ (j : Nat) (u : Value), vs[j]? = some u → ∃ c tk, l[j]? = some c ∧ u = Value.str ⟨#[c]⟩ tk) → Vals (l.map fun c => V.str ⟨#[c]⟩) vs := by
    intro l
    induction l with
    | nil =>
      intro vs h1 _
      cases vs with
      | nil => exact .nil
      | cons a r => simp at h1
    | cons c l ih =>
      intro vs h1 h2
      cases vs with
      | nil => simp at h1
      | cons a r =>
        obtain ⟨c', tk, e1, e2⟩ := h2 0 a rfl
        have e3 : c = c' := Option.some.inj e1
        subst e3
        exact .cons ⟨tk, e2⟩ (ih r (by simpa using h1) fun j u e => h2 (j + 1) u e)
  refine key x.cps.toList us (by rw [Array.length_toList, hl]) fun j u e => ?_
  obtain ⟨c, tk, e1, e2⟩ := hu j u e
  exact ⟨c, tk, by rw [Array.getElem?_toList]; exact e1, e2⟩
def gStr (n : Nat) (t : TGs) : TG := fun v σ H Q => ∃ x, v = .str x ∧ x.cps.size = n ∧ t (sgnV x) σ H Q
theorem pg_str {X : Cx} {pos : Pos} {es : List Expr} {k : Nat} {t : TGs} {n : Nat} (hc : X.calm = true) (h : PGs X es t)
    (hn : (assignEach es X.env).length = n := by rfl) (hst : (assignEach es X.env).findIdx? (·.1) = none := by rfl) : PG X (.Tuple es k pos) (gStr n t) := by
  refine ⟨fun pins s σ H v u Q I r hw => ?_⟩
  obtain ⟨x, e1, hl, hw⟩ := hw
  subst e1
  obtain ⟨tk, rfl⟩ := r
  rw [PyProof.Rows.assign_Tuple]
  refine wpAny_bind (wpAny_standAt ?_)
  unfold unpack
  rw [hn, hst]
  refine wpAny_bind (wpAny_holding (unpack_str (I.ok.hd hc) hl.symm fun us h' tk' hk hlen hu => ?_))
  have I1 : Inv X pins σ H { s with heap := h', toks := tk' } := I.kept hk
  exact h.run pins _ σ H (sgnV x) us Q I1 (signs_vals (hlen.trans hl.symm) hu) hw

/-! ### list(text) -/
theorem call_list_txt {X : Cx} (hc : X.calm = true) : CallR X (.type "list") (fun xs H Q => ∃ x, xs = [.str x] ∧ x.cps.size ≤ sizeLine ∧ ∀ l, H l = none → Q (.ref l) (upd H l (.lst (sgnV x)))) := by
  intro pins s σ H vs us Q I r h
  obtain ⟨x, e, hz, q⟩ := h
  subst e
  cases r with
  | cons r rr =>
    cases rr
    obtain ⟨tk, rfl⟩ := r
    refine call_list_str (hn := hz) (I.ok.hd hc) x tk fun h' tk' acc' c' hk hS hacc => ?_
    have hv : Vals (sgnV x) acc'.toList := signs_vals (by rw [Array.length_toList]; exact hacc.1) fun j u e => hacc.2 j u (by rw [← Array.getElem?_toList]; exact e)
    have hlen : (sgnV x).length ≤ sizeLine := by unfold sgnV; rw [List.length_map, Array.length_toList]; exact hz
    exact ⟨.ref s.heap.objs.size, _, I.laid (o := .lst (sgnV x)) (t' := tk') hk (Nat.le_refl _) ⟨hlen, acc'.toList, c', hv, by rw [Array.toArray_toList]; exact hS⟩, rfl, q _ (I.hok.fresh (Nat.le_refl _))⟩
end L2.Dn


set_option Elab.async false
set_option linter.all false
set_option maxRecDepth 100000
set_option maxHeartbeats 2000000
/-! Dn0c: len(set(tuple of ints)); >= of tuples of ints; text * int; x is True. -/
namespace L2.Dn
open PySem PySem.Spec PyProof.Rows

/-! ### len(set(t)) -/
theorem same_len {l m : List Int} (h1 : l.Nodup) (h2 : m.Nodup) (h : ∀ k, k ∈ l ↔ k ∈ m) : l.length = m.length := (List.perm_ext_iff_of_nodup h1 h2 |>.mpr h).length_eq
theorem eraseDups_nodup : ∀ (n : Nat) (l : List Int), l.length ≤ n → l.eraseDups.Nodup
  | _, [], _ => List.nodup_nil
  | 0, _ :: _, h => by simp at h
  | n + 1, a :: l, h => by
    rw [List.eraseDups_cons]
    refine List.nodup_cons.mpr ⟨fun z => ?_, eraseDups_nodup n _ ?_⟩
    · rw [List.mem_eraseDups, List.mem_filter] at z
      simp at z
    · have h2 : (List.filter (fun b => !b == a) l).length ≤ l.length := List.length_filter_le _ _
      have h3 : l.length + 1 ≤ n + 1 := h
      omega
def tLenSetT (K : PySem.W.Frag) (ta : TE) : TE := fun σ H Q => ta σ H fun x H1 => ∃ (l : Addr) (ns : List Int), x = V.ref l ∧ SqT K H1 l (ns.map V.int) ∧ ns.length < 64 ∧ Q (.int (ns.eraseDups.length : Nat)) H1
theorem pe_lenSetT {X : Cx} {a : Expr} {ta : TE} {p p2 q pos : Pos} (hc : X.calm = true) (hg : Gl X "len") (hm : X.mg "len" = none) (hg2 : Gl X "set") (hm2 : X.mg "set" = none) (ha : PE X a ta)
    (na : starEach [a] X.env = (false, eval a X.env) :: starEach [] X.env := by rfl) : PE X (.Call (.Name "len" p) [.Call (.Name "set" p2) [a] [] q] [] pos) (tLenSetT X.K ta) := by
  refine ⟨fun pins s σ H Q I h => ?_⟩
  refine Call_ (ld_blt I hg hm PySem.boot_len ?_)
  refine PyProof.Rows.callWith_builtin1 (PyProof.Rows.args_cons ?_ rfl) rfl rfl
  refine Call_ (ld_blt I hg2 hm2 PyProof.Rows.boot_set ?_)
  refine PyProof.Rows.callWith_type1 (PyProof.Rows.args_cons (thn (ha.run pins s σ H _ I h) fun v s1 ⟨x, H1, I1, r1, q1⟩ => PyProof.Rows.args_nil ?_) na) na rfl
  obtain ⟨l, ns, rfl, hq, h1, q1⟩ := q1
  cases r1
  obtain ⟨its, r, pl, hz⟩ := I1.tuple hq
  refine call_set_tupI ns (I1.ok.hd hc) pl (by simpa using r.ints) (by unfold scanBound; omega) fun h' tk c hS hcl hk => ?_
  refine PyProof.Rows.args_nil ?_
  obtain ⟨o, es, ep, t, ho, hex, hd, hg, hnd, hmem, hb, hf, hn, _⟩ := hS
  have I2 : Inv X pins σ H1 { s1 with heap := h', toks := tk } := I1.kept hk
  have hlen : (es.size : Int) = ((ns.eraseDups.length : Nat) : Int) := by
    have e1 : (es.toList.map keyOf).length = ns.eraseDups.length := same_len hnd (eraseDups_nodup _ ns (Nat.le_refl _)) fun k => by
      rw [← hmem k, List.mem_eraseDups, decide_eq_true_iff]
    rw [List.length_map, Array.length_toList] at e1
    rw [e1]
  refine call_len_set ho hex hd hf (by rw [hn] <;> omega) ⟨.int (ns.eraseDups.length : Nat), H1, I2.tok _, ⟨_, by rw [hlen]⟩, q1⟩

/-! ### >= of tuples of ints -/
def geL : List Int → List Int → Bool
  | _, [] => true
  | [], _ :: _ => false
  | x :: xs, y :: ys => if x = y then geL xs ys else decide (y ≤ x)
theorem lexAt_shift {e r : Nat → Bool} {z : Bool} : ∀ (k i : Nat), Ob.lexAt (fun j => e (j + 1)) (fun j => r (j + 1)) z i k = Ob.lexAt e r z (i + 1) k
  | 0, _ => rfl
  | k + 1, i => by
    rw [Ob.lexAt_succ, Ob.lexAt_succ, lexAt_shift k (i + 1)]
theorem lexAt_geL : ∀ (ns ms : List Int), Ob.lexAt (fun j => decide (ns.getD j 0 = ms.getD j 0)) (fun j => decide (ms.getD j 0 ≤ ns.getD j 0)) (decide (ns.length ≥ ms.length)) 0 (min ns.length ms.length) = geL ns ms
  | ns, [] => by
    rw [List.length_nil, Nat.min_zero, Ob.lexAt_zero]
    cases ns <;> simp [geL]
  | [], y :: ys => by
    rw [List.length_nil, Nat.zero_min, Ob.lexAt_zero]
    simp [geL]
  | x :: xs, y :: ys => by
    have ih := lexAt_geL xs ys
    have e1 : min (x :: xs).length (y :: ys).length = min xs.length ys.length + 1 := by rw [List.length_cons, List.length_cons]; omega
    have e2 : decide ((x :: xs).length ≥ (y :: ys).length) = decide (xs.length ≥ ys.length) := by
      rw [List.length_cons, List.length_cons]
      by_cases q : xs.length ≥ ys.length
      · rw [decide_eq_true q, decide_eq_true (by omega)]
      · rw [decide_eq_false q, decide_eq_false (by omega)]
    rw [e1, e2, Ob.lexAt_succ, ← lexAt_shift]
    show (if decide (x = y) = true then Ob.lexAt (fun j => decide (xs.getD j 0 = ys.getD j 0)) (fun j => decide (ys.getD j 0 ≤ xs.getD j 0)) (decide (xs.length ≥ ys.length)) 0 (min xs.length ys.length) else decide (y ≤ x)) = _
    rw [ih]
    by_cases q : x = y
    · rw [decide_eq_true q, if_pos rfl]
      simp [geL, q]
    · rw [decide_eq_false q, if_neg Bool.false_ne_true]
      simp [geL, q]
def rGeT (K : PySem.W.Frag) : R2 := fun x y H Q => ∃ (a b : Addr) (ns ms : List Int), x = .ref a ∧ y = .ref b ∧ SqT K H a (ns.map V.int) ∧ SqT K H b (ms.map V.int) ∧ Q (.bl (geL ns ms)) H
theorem op_geT {X : Cx} (hu : X.A.units < cLine) : OpR X (compareOp .GtE) (rGeT X.K) := by
  intro pins s σ H x y v u Q I rx ry h
  obtain ⟨a, b, ns, ms, rfl, rfl, ha, hb, q⟩ := h
  cases rx
  cases ry
  obtain ⟨its, r1, p1, _⟩ := I.tuple ha
  obtain ⟨its2, r2, p2, _⟩ := I.tuple hb
  have i1 : IntsAre its ns := Vals.ints r1
  have i2 : IntsAre its2 ms := Vals.ints r2
  have e1 : its.toArray.size = ns.length := by rw [List.size_toArray]; exact i1.length
  have e2 : its2.toArray.size = ms.length := by rw [List.size_toArray]; exact i2.length
  have at1 : ∀ j (h1 : j < its.toArray.size), ∃ t, its.toArray[j] = .int (ns.getD j 0) t := fun j h1 => PyProof.Rows.IntsAre.int_at i1 _ _ (by simp at h1; simp [h1])
  have at2 : ∀ j (h1 : j < its2.toArray.size), ∃ t, its2.toArray[j] = .int (ms.getD j 0) t := fun j h1 => PyProof.Rows.IntsAre.int_at i2 _ _ (by simp at h1; simp [h1])
  have R := Ob.RcOp.tuples_ge (A := X.A) (s := s) (e := fun j => decide (ns.getD j 0 = ms.getD j 0)) (r := fun j => decide (ms.getD j 0 ≤ ns.getD j 0)) p1 p2 hu (fun j h1 h2 => by
    obtain ⟨t, et⟩ := at1 j h1
    obtain ⟨t', et'⟩ := at2 j h2
    rw [et, et']
    have z : (ns.getD j 0 == ms.getD j 0) = decide (ns.getD j 0 = ms.getD j 0) := by
      by_cases q : ns.getD j 0 = ms.getD j 0
      · rw [decide_eq_true q]; exact beq_iff_eq.mpr q
      · rw [decide_eq_false q]; exact beq_eq_false_iff_ne.mpr q
    rw [← z]
    exact SeqAt.EqAt.int_int _ _ _ _) (fun j h1 h2 _ => by
    obtain ⟨t, et⟩ := at1 j h1
    obtain ⟨t', et'⟩ := at2 j h2
    rw [et, et']
    exact Ob.RcOp.ge_int _ _ _ _)
  rw [e1, e2, lexAt_geL] at R
  have z : wpAny (model X.prog X.w) X.A (compareOp .GtE (.ref a) (.ref b)) (EP X pins σ Q) X.xe s := R X.prog X.w X.xe (EP X pins σ Q) ⟨.bl _, H, I, rfl, q⟩
  exact z

/-! ### x is True -/
theorem op_isB {X : Cx} : OpR X (compareOp .Is) (fun x y H Q => ∃ b, y = .bl b ∧ Q (.bl (decide (x = .bl b))) H) := by
  intro pins s σ H x y v u Q I rx ry h
  obtain ⟨b, rfl, q⟩ := h
  cases (show u = Value.bool b from ry)
  have other : (∀ c, v ≠ .bool c) → PySem.plainIs v (.bool b) = true → x ≠ .bl b → wpAny (model X.prog X.w) X.A (compareOp .Is v (.bool b)) (EP X pins σ Q) X.xe s := fun h1 h2 h3 =>
    wpAny_is_other h2 (h1 b) ⟨.bl false, H, I, rfl, by rw [decide_eq_false h3] at q; exact q⟩
  cases x with
  | bl a =>
    cases (show v = Value.bool a from rx)
    by_cases e : a = b
    · subst e
      exact wpAny_is_self rfl ⟨.bl true, H, I, rfl, by simpa using q⟩
    · exact wpAny_is_other rfl (fun z => e (Value.bool.inj z)) ⟨.bl false, H, I, rfl, by simpa [e] using q⟩
  | non => cases (show v = Value.none from rx); exact other (fun c z => by cases z) rfl (fun z => by cases z)
  | int i => obtain ⟨t, rfl⟩ := rx; exact other (fun c z => by cases z) rfl (fun z => by cases z)
  | str i => obtain ⟨t, rfl⟩ := rx; exact other (fun c z => by cases z) rfl (fun z => by cases z)
  | byt i => obtain ⟨t, rfl⟩ := rx; exact other (fun c z => by cases z) rfl (fun z => by cases z)
  | flt i => obtain ⟨t, rfl⟩ := rx; exact other (fun c z => by cases z) rfl (fun z => by cases z)
  | ref i => cases (show v = Value.ref i from rx); exact other (fun c z => by cases z) rfl (fun z => by cases z)
  | ty i => cases (show v = Value.type i from rx); exact other (fun c z => by cases z) rfl (fun z => by cases z)
theorem op_isnotB {X : Cx} : OpR X (compareOp .IsNot) (fun x y H Q => ∃ b, y = .bl b ∧ Q (.bl (!decide (x = .bl b))) H) := by
  intro pins s σ H x y v u Q I rx ry h
  obtain ⟨b, rfl, q⟩ := h
  cases (show u = Value.bool b from ry)
  have other : (∀ c, v ≠ .bool c) → PySem.plainIs v (.bool b) = true → x ≠ .bl b → wpAny (model X.prog X.w) X.A (compareOp .IsNot v (.bool b)) (EP X pins σ Q) X.xe s := fun h1 h2 h3 =>
    wpAny_isNot_other h2 (h1 b) ⟨.bl true, H, I, rfl, by rw [decide_eq_false h3] at q; exact q⟩
  cases x with
  | bl a =>
    cases (show v = Value.bool a from rx)
    by_cases e : a = b
    · subst e
      exact wpAny_isNot_self rfl ⟨.bl false, H, I, rfl, by simpa using q⟩
    · exact wpAny_isNot_other rfl (fun z => e (Value.bool.inj z)) ⟨.bl true, H, I, rfl, by simpa [e] using q⟩
  | non => cases (show v = Value.none from rx); exact other (fun c z => by cases z) rfl (fun z => by cases z)
  | int i => obtain ⟨t, rfl⟩ := rx; exact other (fun c z => by cases z) rfl (fun z => by cases z)
  | str i => obtain ⟨t, rfl⟩ := rx; exact other (fun c z => by cases z) rfl (fun z => by cases z)
  | byt i => obtain ⟨t, rfl⟩ := rx; exact other (fun c z => by cases z) rfl (fun z => by cases z)
  | flt i => obtain ⟨t, rfl⟩ := rx; exact other (fun c z => by cases z) rfl (fun z => by cases z)
  | ref i => cases (show v = Value.ref i from rx); exact other (fun c z => by cases z) rfl (fun z => by cases z)
  | ty i => cases (show v = Value.type i from rx); exact other (fun c z => by cases z) rfl (fun z => by cases z)

/-! ### text * int -/
def repS (x : Str) (n : Nat) : Str := ⟨(List.replicate n x.cps).foldl (· ++ ·) #[]⟩
theorem op_mul_str {X : Cx} : OpR X (binaryOp .Mult) (fun x y H Q => ∃ (z : Str) (k : Int), x = .str z ∧ y = .int k ∧ z.length ≤ 1000 ∧ 0 ≤ k ∧ k ≤ 1000 ∧ ∀ r, (r.cps.toList = (List.replicate k.toNat z.cps.toList).flatten) → Q (.str r) H) := by
  intro pins s σ H x y v u Q I rx ry h
  obtain ⟨z, k, rfl, rfl, hz, h0, h1, q⟩ := h
  obtain ⟨t, rfl⟩ := rx
  obtain ⟨t', rfl⟩ := ry
  have hkz : z.length * k.toNat ≤ 1000 * 1000 := Nat.mul_le_mul hz (by omega)
  refine PySem.P.mul_str (by rw [decide_eq_false (by omega), decide_eq_false (by omega)]; rfl) (fun h2 h3 => ?_) (fun h2 h3 => ?_) ?_
  · have h4 : k ≤ 1000 := h1
    have h5 : (1000 : Int) ≤ (2 ^ 63 - 1) / k := by
      rw [Int.le_ediv_iff_mul_le (by omega)]
      omega
    have h6 : (z.length : Int) ≤ 1000 := by omega
    omega
  · unfold Builtin.Str.tooLong
    refine decide_eq_false fun h6 => ?_
    rw [sizeLine_eq] at h6
    omega
  · have hrep : ∀ (n : Nat) (acc : Array Nat), ((List.replicate n z.cps).foldl (· ++ ·) acc).toList = acc.toList ++ (List.replicate n z.cps.toList).flatten := by
      intro n
      induction n with
      | zero => intro acc; simp
      | succ n ih =>
        intro acc
        rw [List.replicate_succ, List.foldl_cons, ih, List.replicate_succ, List.flatten_cons, Array.toList_append, List.append_assoc]
    split
    · rename_i hk
      refine ⟨by decide, ?_⟩
      have e : k = 0 := by omega
      subst e
      exact ⟨.str _, H, I.tok _, ⟨_, rfl⟩, q _ (by rfl)⟩
    · rename_i hk
      split
      · rename_i hk2
        refine ⟨.str z, H, I, ⟨_, rfl⟩, q z ?_⟩
        rw [Bool.or_eq_true] at hk2
        rcases hk2 with e | e
        · have e2 : k = 1 := by simpa using e
          subst e2
          simp
        · have e2 : z.cps = #[] := by
            have e3 : z.length = 0 := by simpa using e
            exact Array.eq_empty_of_size_eq_zero e3
          rw [e2]
          simp
      · have hlen : ((List.replicate k.toNat z.cps).foldl (· ++ ·) #[]).size ≤ 1000 * 1000 := by
          rw [← Array.length_toList, hrep]
          simp
          have e : z.cps.size = z.length := rfl
          rw [e, Nat.mul_comm]
          exact hkz
        refine ⟨?_, ⟨.str _, H, I.tok _, ⟨_, rfl⟩, q _ (by rw [hrep]; rfl)⟩⟩
        first
          | (show _ ≤ sizeLine; exact Nat.le_trans hlen (by decide))
          | skip
end L2.Dn


set_option Elab.async false
set_option linter.all false
set_option maxRecDepth 100000
set_option maxHeartbeats 1000000
/-! Dn1: results, slots, the relation between plain data and the heap, expressions. -/
namespace L2.Dn
open PySem PySem.Spec PyProof.Rows

/-- the refusals -/
inductive Ex where
  | world | stand | jump | count | never | many | text | names | nothing
  deriving DecidableEq, Repr

/-- the classes of the refusals; the tables in which code objects of lambdas are kept -/
structure Cv where
  f : Ex → Value
  T : List Addr
instance : CoeFun Cv fun _ => Ex → Value := ⟨Cv.f⟩
/-- the one lambda's name -/
def lamQ : Str := "ways_to.<locals>.<lambda>"
def TabAll (T : List Addr) (H : Hp) : Prop := ∀ P ∈ T, LamX.TabS H P lamQ
def isT : HO → Bool
  | .tbl _ => true
  | _ => false
/-- a table, or a thing of its own kind -/
def isTC : HO → Bool
  | .tbl _ => true
  | .ext _ => true
  | _ => false
/-- the heap without its tables -/
def noT (H : Hp) : Hp := fun a => match H a with
  | some o => if isT o then none else some o
  | none => none
theorem noT_in {H : Hp} {a : Addr} {o : HO} (e : H a = some o) (n : isT o = false) : noT H a = some o := by
  unfold noT; rw [e]; show (if isT o then none else some o) = _; rw [n]; rfl
theorem noT_of {H : Hp} {a : Addr} {o : HO} (e : noT H a = some o) : H a = some o ∧ isT o = false := by
  unfold noT at e
  cases q : H a with
  | none => rw [q] at e; cases e
  | some u =>
    rw [q] at e
    have e' : (if isT u then none else some u) = some o := e
    cases c : isT u with
    | true => rw [c] at e'; cases e'
    | false => rw [c] at e'; rw [← Option.some.inj e']; exact ⟨rfl, c⟩
theorem noT_none {H : Hp} {a : Addr} (e : H a = none) : noT H a = none := by unfold noT; rw [e]
theorem TabS.on {H H' : Hp} {P : Addr} {q : Str} (t : LamX.TabS H P q) (e : ∀ a o, H a = some o → isTC o = true → H' a = some o) : LamX.TabS H' P q := by
  obtain ⟨ps, h1, h2, h3⟩ := t
  refine ⟨ps, e _ _ h1 rfl, h2, fun pos v hc => ?_⟩
  obtain ⟨c, e1, e2⟩ := h3 pos v hc
  exact ⟨c, e1, e _ _ e2 rfl⟩
theorem TabAll.on {T : List Addr} {H H' : Hp} (t : TabAll T H) (e : ∀ a o, H a = some o → isTC o = true → H' a = some o) : TabAll T H' := fun P hP => TabS.on (t P hP) e
theorem TabAll.upd {T : List Addr} {H : Hp} (t : TabAll T H) {a : Addr} {o u : HO} (e : H a = some u) (n : isTC u = false) : TabAll T (upd H a o) := t.on fun b v h c => by
  have ne : b ≠ a := fun z => by
    rw [z, e] at h
    rw [Option.some.inj h] at n
    rw [n] at c; cases c
  rw [upd_ne ne]; exact h

/-- a result: a value, a refusal, or nothing that is told of -/
inductive R (α : Type) where
  | val (a : α) | exc (c : Ex) | stk
def R.bind {α β : Type} : R α → (α → R β) → R β
  | .val a, f => f a
  | .exc c, _ => .exc c
  | .stk, _ => .stk
instance : Monad R where
  pure := .val
  bind := R.bind
@[simp] theorem R.bind_val {α β : Type} (a : α) (f : α → R β) : (R.val a >>= f) = f a := rfl
@[simp] theorem R.bind_exc {α β : Type} (c : Ex) (f : α → R β) : ((R.exc c : R α) >>= f) = R.exc c := rfl
@[simp] theorem R.bind_stk {α β : Type} (f : α → R β) : ((R.stk : R α) >>= f) = R.stk := rfl
@[simp] theorem R.pure_val {α : Type} (a : α) : (pure a : R α) = R.val a := rfl
/-- a refusal is not told of (in a comprehension) -/
def R.nox {α : Type} : R α → R α
  | .exc _ => .stk
  | r => r

abbrev D := PyData

/-- what a slot is known to hold: nothing; data that stays; a list, a dict that only this slot holds; a dict that is walked -/
inductive Sl where
  | un | fz (d : D) | ol (ds : List D) | od (kvs : List (Key × D)) | lk (kvs : List (Key × D))
abbrev En := List Sl

/-- how long lists may be -/
abbrev M : Nat := 16777216
theorem line_M : sizeLine = M := by rw [sizeLine_eq]
def SzO : HO → Prop
  | .lst xs => xs.length ≤ M
  | .tup xs => xs.length ≤ M
  | .frz _ u => SzO u
  | .tbl _ => False
  | _ => True
def Sz (F : Hp) : Prop := ∀ a o, F a = some o → SzO o
theorem M_line {n : Nat} (h : n ≤ M) : n ≤ sizeLine := by rw [line_M]; exact h
theorem M_line' {n : Nat} (h : n < M) : n < sizeLine := by rw [line_M]; exact h
section
variable (K : PySem.W.Frag)
abbrev KVp (F : Hp) : List (Key × V) → List (Key × D) → Prop := Paired fun (p : Key × V) (q : Key × D) => p.1 = q.1 ∧ Dp [] F p.2 q.2
/-- a slot's value. B: what must stay; F: what data lean on; H: the heap -/
def SlOk (B F H : Hp) : Sl → Option V → Prop
  | .un, _ => True
  | .fz d, ov => ∃ v, ov = some v ∧ Dp [] F v d
  | .ol ds, ov => ds.length ≤ M ∧ ∃ a xs, ov = some (.ref a) ∧ F a = none ∧ B a = none ∧ H a = some (.lst xs) ∧ DpAll [] F xs ds
  | .od kvs, ov => ∃ a ks, ov = some (.ref a) ∧ F a = none ∧ B a = none ∧ H a = some (.dK ks) ∧ KVp F ks kvs
  | .lk kvs, ov => ∃ a ks o, ov = some (.ref a) ∧ F a = some (.frz o (.dK ks)) ∧ KVp F ks kvs
def Sl.own : Sl → Bool
  | .ol _ | .od _ => true
  | _ => false
def sAt (σ : St) (i : Nat) : Option V := (σ[i]?).join
structure Ag (cv : Cv) (B F H : Hp) (ρ : En) (σ : St) : Prop where
  sub : ∀ a o, F a = some o → H a = some o
  prot : ∀ a o, B a = some o → H a = some o
  nb : ∀ a o, B a = some o → isT o = false
  tabs : TabAll cv.T H
  sz : Sz F
  len : σ.length = ρ.length
  ok : ∀ (i : Nat) (s : Sl), ρ[i]? = some s → SlOk B F H s (sAt σ i)
  dj : ∀ (i j : Nat) (s t : Sl) (a : Addr), ρ[i]? = some s → ρ[j]? = some t → s.own = true → t.own = true → sAt σ i = some (.ref a) → sAt σ j = some (.ref a) → i = j
end
/-- data grow: what stood in F stands; what is new is not in B -/
def Nw (B F F' : Hp) : Prop := (∀ a o, F a = some o → F' a = some o) ∧ ∀ a o, F' a = some o → F a = some o ∨ B a = none
theorem Nw.refl {B F : Hp} : Nw B F F := ⟨fun _ _ h => h, fun _ _ h => .inl h⟩
theorem Nw.trans {B F F' F'' : Hp} (h : Nw B F F') (k : Nw B F' F'') : Nw B F F'' :=
  ⟨fun a o e => k.1 a o (h.1 a o e), fun a o e => (k.2 a o e).elim (fun e' => h.2 a o e') .inr⟩
abbrev Le (F F' : Hp) : Prop := ∀ a o, F a = some o → F' a = some o

section
variable {K : PySem.W.Frag} {cv : Cv} {B F F' H H' : Hp} {ρ : En} {σ : St}
theorem Rd.le (h : Le F F') {a : Addr} {u : HO} (r : Rd F a u) : Rd F' a u := r.elim (fun e => .inl (h _ _ e)) fun ⟨o, e⟩ => .inr ⟨o, h _ _ e⟩
theorem SqL.le (h : Le F F') {a : Addr} {xs : List V} (r : SqL K F a xs) : SqL K F' a xs := r.elim (fun e => .inl (Rd.le h e)) .inr
theorem SqT.le (h : Le F F') {a : Addr} {xs : List V} (r : SqT K F a xs) : SqT K F' a xs := r.elim (fun e => .inl (Rd.le h e)) .inr
theorem SqL.rd {a : Addr} {xs : List V} (r : SqL [] F a xs) : Rd F a (.lst xs) := r.elim id fun ⟨o, _, _, e, _⟩ => by cases e
theorem SqT.rd {a : Addr} {xs : List V} (r : SqT [] F a xs) : Rd F a (.tup xs) := r.elim id fun ⟨o, _, _, e, _⟩ => by cases e
theorem SqL.toK {a : Addr} {xs : List V} (r : SqL [] F a xs) : SqL K F a xs := .inl (SqL.rd r)
theorem SqT.toK {a : Addr} {xs : List V} (r : SqT [] F a xs) : SqT K F a xs := .inl (SqT.rd r)
mutual
theorem Dp.le (h : Le F F') : ∀ {v : V} {d : D}, Dp [] F v d → Dp [] F' v d
  | _, _, .non => .non
  | _, _, .bl b => .bl b
  | _, _, .int i => .int i
  | _, _, .str x => .str x
  | _, _, .lst s a => .lst (SqL.le h s) (DpAll.le h a)
  | _, _, .tup s a => .tup (SqT.le h s) (DpAll.le h a)
theorem DpAll.le (h : Le F F') : ∀ {vs : List V} {ds : List D}, DpAll [] F vs ds → DpAll [] F' vs ds
  | _, _, .nil => .nil
  | _, _, .cons a b => .cons (Dp.le h a) (DpAll.le h b)
end
theorem KVp.le (h : Le F F') {ks : List (Key × V)} {kvs : List (Key × D)} (k : KVp F ks kvs) : KVp F' ks kvs :=
  Paired.mapP k fun _ _ q => ⟨q.1, Dp.le h q.2⟩
theorem DpAll.length : ∀ {vs : List V} {ds : List D}, DpAll [] F vs ds → vs.length = ds.length
  | _, _, .nil => rfl
  | _, _, .cons _ b => congrArg (· + 1) (DpAll.length b)
theorem DpAll.get : ∀ {vs : List V} {ds : List D} {i : Nat} {d : D}, DpAll [] F vs ds → ds[i]? = some d → ∃ v, vs[i]? = some v ∧ Dp [] F v d
  | _, _, _, _, .nil, e => by simp at e
  | _, _, 0, _, .cons a _, e => by
    have e' := Option.some.inj e
    subst e'
    exact ⟨_, rfl, a⟩
  | _, _, i + 1, _, .cons _ b, e => DpAll.get (i := i) b e
theorem DpAll.append : ∀ {vs ws : List V} {ds es : List D}, DpAll [] F vs ds → DpAll [] F ws es → DpAll [] F (vs ++ ws) (ds ++ es)
  | _, _, _, _, .nil, h => h
  | _, _, _, _, .cons a b, h => .cons a (DpAll.append b h)
theorem DpAll.take : ∀ {vs : List V} {ds : List D} (n : Nat), DpAll [] F vs ds → DpAll [] F (vs.take n) (ds.take n)
  | _, _, 0, _ => .nil
  | _, _, _ + 1, .nil => .nil
  | _, _, n + 1, .cons a b => .cons a (DpAll.take n b)
theorem DpAll.drop : ∀ {vs : List V} {ds : List D} (n : Nat), DpAll [] F vs ds → DpAll [] F (vs.drop n) (ds.drop n)
  | _, _, 0, h => h
  | _, _, _ + 1, .nil => .nil
  | _, _, n + 1, .cons _ b => DpAll.drop n b
theorem DpAll.snoc {vs : List V} {ds : List D} {v : V} {d : D} (h : DpAll [] F vs ds) (k : Dp [] F v d) : DpAll [] F (vs ++ [v]) (ds ++ [d]) := DpAll.append h (.cons k .nil)
theorem DpAll.dropLast : ∀ {vs : List V} {ds : List D}, DpAll [] F vs ds → DpAll [] F vs.dropLast ds.dropLast
  | _, _, .nil => .nil
  | _, _, .cons _ .nil => .nil
  | _, _, .cons a (.cons b c) => .cons a (DpAll.dropLast (.cons b c))
theorem DpAll.set : ∀ {vs : List V} {ds : List D} {v : V} {d : D} (i : Nat), DpAll [] F vs ds → Dp [] F v d → DpAll [] F (vs.set i v) (ds.set i d)
  | _, _, _, _, _, .nil, _ => .nil
  | _, _, _, _, 0, .cons _ b, h => .cons h b
  | _, _, _, _, i + 1, .cons a b, h => .cons a (DpAll.set i b h)

theorem SzO.noT {o : HO} (h : SzO o) : isT o = false := by
  cases o with
  | tbl _ => exact h.elim
  | _ => rfl
/-- the heap grows, tables may grow: a call -/
theorem Ag.upN (A : Ag cv B F H ρ σ) (f : Le F F') (s : Le F' H') (h : Le (noT H) H') (tb : TabAll cv.T H') (n : ∀ a o, F' a = some o → F a = some o ∨ noT H a = none) (z : Sz F') : Ag cv B F' H' ρ σ where
  sub := s
  prot := fun a o e => h a o (noT_in (A.prot a o e) (A.nb a o e))
  nb := A.nb
  tabs := tb
  sz := z
  len := A.len
  ok := fun i s e => by
    have q := A.ok i s e
    have fr : ∀ a o, H a = some o → isT o = false → F a = none → F' a = none := fun a o e1 e0 e2 => by
      cases z : F' a with
      | none => rfl
      | some u =>
        rcases n a u z with y | y
        · rw [e2] at y; cases y
        · rw [noT_in e1 e0] at y; cases y
    cases s with
    | un => trivial
    | fz d =>
      obtain ⟨v, e1, e2⟩ := q
      exact ⟨v, e1, Dp.le f e2⟩
    | ol ds =>
      obtain ⟨e0, a, xs, e1, e2, e3, e4, e5⟩ := q
      exact ⟨e0, a, xs, e1, fr a _ e4 rfl e2, e3, h _ _ (noT_in e4 rfl), DpAll.le f e5⟩
    | od kvs =>
      obtain ⟨a, xs, e1, e2, e3, e4, e5⟩ := q
      exact ⟨a, xs, e1, fr a _ e4 rfl e2, e3, h _ _ (noT_in e4 rfl), KVp.le f e5⟩
    | lk kvs =>
      obtain ⟨a, xs, o, e1, e2, e5⟩ := q
      exact ⟨a, xs, o, e1, f _ _ e2, KVp.le f e5⟩
  dj := A.dj
/-- the heap grows by what is not tracked: a new thing -/
theorem Ag.up (A : Ag cv B F H ρ σ) (f : Le F F') (s : Le F' H') (h : Le H H') (n : ∀ a o, F' a = some o → F a = some o ∨ H a = none) (z : Sz F') : Ag cv B F' H' ρ σ :=
  A.upN f s (fun a o e => h a o (noT_of e).1) (A.tabs.on fun a o e _ => h a o e) (fun a o e => (n a o e).imp id noT_none) z
theorem Ag.nwN (A : Ag cv B F H ρ σ) (f : Le F F') (n : ∀ a o, F' a = some o → F a = some o ∨ noT H a = none) : Nw B F F' :=
  ⟨f, fun a o e => (n a o e).imp id fun y => by
    cases z : B a with
    | none => rfl
    | some u => rw [noT_in (A.prot a u z) (A.nb a u z)] at y; cases y⟩
theorem Ag.nw (A : Ag cv B F H ρ σ) (f : Le F F') (n : ∀ a o, F' a = some o → F a = some o ∨ H a = none) : Nw B F F' :=
  ⟨f, fun a o e => (n a o e).imp id fun y => by
    cases z : B a with
    | none => rfl
    | some u => rw [A.prot a u z] at y; cases y⟩
theorem le_upd {p : Addr} {o : HO} (h : F p = none) : Le F (upd F p o) := fun a u e => by
  rw [upd_ne (ne_of_none e h)]
  exact e
theorem Sz.upd (z : Sz F) {p : Addr} {o : HO} (h : SzO o) : Sz (upd F p o) := fun a u e => by
  by_cases q : a = p
  · subst q; rw [upd_same] at e; rw [← Option.some.inj e]; exact h
  · rw [upd_ne q] at e; exact z a u e
/-- a new thing, data from now on -/
theorem Ag.new (A : Ag cv B F H ρ σ) {p : Addr} (o : HO) (h : H p = none) (so : SzO o) : Ag cv B (upd F p o) (upd H p o) ρ σ ∧ Nw B F (upd F p o) ∧ F p = none := by
  have hF : F p = none := by
    cases z : F p with
    | none => rfl
    | some u => rw [A.sub p u z] at h; cases h
  have n : ∀ a u, upd F p o a = some u → F a = some u ∨ H a = none := fun a u e => by
    by_cases q : a = p
    · subst q; exact .inr h
    · rw [upd_ne q] at e; exact .inl e
  refine ⟨A.up (le_upd hF) (fun a u e => ?_) (le_upd h) n (A.sz.upd so), A.nw (le_upd hF) n, hF⟩
  by_cases q : a = p
  · subst q; rw [upd_same] at e ⊢; exact e
  · rw [upd_ne q] at e ⊢; exact A.sub a u e
/-- a new thing that is nobody's yet -/
theorem Ag.loose (A : Ag cv B F H ρ σ) {p : Addr} (o : HO) (h : H p = none) : Ag cv B F (upd H p o) ρ σ ∧ F p = none ∧ B p = none := by
  have hF : F p = none := by
    cases z : F p with
    | none => rfl
    | some u => rw [A.sub p u z] at h; cases h
  have hB : B p = none := by
    cases z : B p with
    | none => rfl
    | some u => rw [A.prot p u z] at h; cases h
  exact ⟨A.up (fun _ _ e => e) (fun a u e => le_upd h a u (A.sub a u e)) (le_upd h) (fun _ _ e => .inl e) A.sz, hF, hB⟩
/-- B may be made smaller -/
theorem Ag.lessB {B' : Hp} (A : Ag cv B F H ρ σ) (h : Le B' B) : Ag cv B' F H ρ σ where
  sub := A.sub
  prot := fun a o e => A.prot a o (h a o e)
  nb := fun a o e => A.nb a o (h a o e)
  tabs := A.tabs
  sz := A.sz
  len := A.len
  ok := fun i s e => by
    have q := A.ok i s e
    have nn : ∀ a, B a = none → B' a = none := fun a z => by
      cases y : B' a with
      | none => rfl
      | some u => rw [h a u y] at z; cases z
    cases s with
    | un => trivial
    | fz d => exact q
    | ol ds => obtain ⟨e0, a, xs, e1, e2, e3, e4, e5⟩ := q; exact ⟨e0, a, xs, e1, e2, nn _ e3, e4, e5⟩
    | od ds => obtain ⟨a, xs, e1, e2, e3, e4, e5⟩ := q; exact ⟨a, xs, e1, e2, nn _ e3, e4, e5⟩
    | lk kvs => exact q
  dj := A.dj
end
end L2.Dn


set_option Elab.async false
set_option linter.all false
set_option maxRecDepth 100000
set_option maxHeartbeats 1000000
/-! Dn2: what a reading is worth: expressions, arguments, tests. -/
namespace L2.Dn
open PySem PySem.Spec PyProof.Rows

section
variable (K : PySem.W.Frag) (cv : Cv) (W : WX)
/-- what is to be shown behind a reading whose worth is r -/
def Post {α β : Type} (rel : Hp → Hp → Hp → En → St → β → α → Prop) (B F : Hp) (ρ : En) (σ : St) (r : R α) (Q : β → Hp → Prop) : Prop :=
  match r with
  | .val a => ∀ F' H' b, Nw B F F' → Ag cv B F' H' ρ σ → rel B F' H' ρ σ b a → Q b H'
  | .exc c => ∀ F' H', Nw B F F' → Ag cv B F' H' ρ σ → W (cv c) none σ H'
  | .stk => False
/-- the reading t is worth d -/
def Sm {α β : Type} (rel : Hp → Hp → Hp → En → St → β → α → Prop) (t : St → Hp → (β → Hp → Prop) → Prop) (d : En → R α) : Prop :=
  ∀ (B F H : Hp) (ρ : En) (σ : St) (Q : β → Hp → Prop), Ag cv B F H ρ σ → Post cv W rel B F ρ σ (d ρ) Q → t σ H Q
def relD : Hp → Hp → Hp → En → St → V → D → Prop := fun _ F _ _ _ v d => Dp [] F v d
def relA : Hp → Hp → Hp → En → St → List V → List D → Prop := fun _ F _ _ _ v d => DpAll [] F v d
def relB : Hp → Hp → Hp → En → St → Bool → Bool → Prop := fun _ _ _ _ _ v d => v = d
def relO : Hp → Hp → Hp → En → St → Option Int → Option Int → Prop := fun _ _ _ _ _ v d => v = d
/-- a is no slot's own thing -/
def Free (a : Addr) (ρ : En) (σ : St) : Prop := ∀ (i : Nat) (s : Sl), ρ[i]? = some s → s.own = true → sAt σ i ≠ some (.ref a)
/-- a list that is nobody's yet -/
def relL : Hp → Hp → Hp → En → St → V → List D → Prop := fun B F H ρ σ v ds => ds.length ≤ M ∧ ∃ a xs, v = .ref a ∧ F a = none ∧ B a = none ∧ H a = some (.lst xs) ∧ DpAll [] F xs ds ∧ Free a ρ σ
/-- a dict that is nobody's yet -/
def relK : Hp → Hp → Hp → En → St → V → List (Key × D) → Prop := fun B F H ρ σ v kvs => ∃ a ks, v = .ref a ∧ F a = none ∧ B a = none ∧ H a = some (.dK ks) ∧ KVp F ks kvs ∧ Free a ρ σ
abbrev SE (t : TE) (d : En → R D) : Prop := Sm cv W (relD) t d
abbrev SL (t : TE) (d : En → R (List D)) : Prop := Sm cv W (relL) t d
abbrev SK (t : TE) (d : En → R (List (Key × D))) : Prop := Sm cv W (relK) t d
abbrev SA (t : TA) (d : En → R (List D)) : Prop := Sm cv W (relA) t d
abbrev STt (t : TT) (d : En → R Bool) : Prop := Sm cv W relB t d
abbrev SO (t : TO) (d : En → R (Option Int)) : Prop := Sm cv W relO t d
end

section
variable {K : PySem.W.Frag} {cv : Cv} {W : WX} {B F F' H H' : Hp} {ρ : En} {σ : St}
variable {α β γ δ : Type} {rel : Hp → Hp → Hp → En → St → β → α → Prop} {rel' : Hp → Hp → Hp → En → St → δ → γ → Prop}
theorem Post.mono {r : R α} {Q Q' : β → Hp → Prop} (h : Post cv W rel B F ρ σ r Q) (q : ∀ b H, Q b H → Q' b H) : Post cv W rel B F ρ σ r Q' := by
  cases r with
  | val a => exact fun F' H' b n A k => q _ _ (h F' H' b n A k)
  | exc c => exact h
  | stk => exact h
theorem Post.nw {r : R α} {Q : β → Hp → Prop} (h : Post cv W rel B F ρ σ r Q) (n : Nw B F F') : Post cv W rel B F' ρ σ r Q := by
  cases r with
  | val a => exact fun F' H' b n' A k => h F' H' b (n.trans n') A k
  | exc c => exact fun F' H' n' A => h F' H' (n.trans n') A
  | stk => exact h
/-- one reading, then what follows with its value -/
theorem Sm.bind {t : St → Hp → (β → Hp → Prop) → Prop} {d : En → R α} {f : α → R γ} {Q : δ → Hp → Prop} {Q' : β → Hp → Prop} (s : Sm cv W rel t d) (A : Ag cv B F H ρ σ)
    (h : Post cv W rel' B F ρ σ (d ρ >>= f) Q)
    (k : ∀ a F' H' b, Nw B F F' → Ag cv B F' H' ρ σ → rel B F' H' ρ σ b a → Post cv W rel' B F' ρ σ (f a) Q → Q' b H') : t σ H Q' := by
  refine s B F H ρ σ Q' A ?_
  cases e : d ρ with
  | val a =>
    rw [e] at h
    exact fun F' H' b n A' r => k a F' H' b n A' r (Post.nw h n)
  | exc c =>
    rw [e] at h
    exact h
  | stk =>
    rw [e] at h
    exact h.elim
theorem Post.val {r : R α} {a : α} {Q : β → Hp → Prop} {b : β} (h : Post cv W rel B F ρ σ r Q) (e : r = .val a) (A : Ag cv B F H ρ σ) (q : rel B F H ρ σ b a) : Q b H := by
  subst e
  exact h F H b Nw.refl A q

/-! ### names, constants -/
def dVar (i : Nat) : En → R D := fun ρ => match ρ[i]? with
  | some (.fz d) => .val d
  | _ => .stk
def dC (d : D) : En → R D := fun _ => .val d
theorem sAt_some {i : Nat} {v : V} (h : sAt σ i = some v) : σ[i]? = some (some v) := by
  unfold sAt at h
  cases e : σ[i]? with
  | none => rw [e] at h; cases h
  | some o =>
    rw [e] at h
    cases o with
    | none => cases h
    | some u => rw [show u = v from Option.some.inj h]
theorem se_var {i : Nat} : SE cv W (tVar i) (dVar i) := fun B F H ρ σ Q A h => by
  unfold dVar at h
  cases e : ρ[i]? with
  | none => rw [e] at h; exact h.elim
  | some s =>
    rw [e] at h
    have q := A.ok i s e
    cases s with
    | fz d =>
      obtain ⟨v, e1, e2⟩ := q
      exact ⟨v, sAt_some e1, h F H v Nw.refl A e2⟩
    | un => exact h.elim
    | ol _ => exact h.elim
    | od _ => exact h.elim
    | lk _ => exact h.elim
theorem se_int {i : Int} : SE cv W (tC (.int i)) (dC (.int i)) := fun B F H ρ σ Q A h => h F H _ Nw.refl A (.int i)
theorem se_bl {b : Bool} : SE cv W (tC (.bl b)) (dC (.bool b)) := fun B F H ρ σ Q A h => h F H _ Nw.refl A (.bl b)
theorem se_str {x : Str} : SE cv W (tC (.str x)) (dC (.str x)) := fun B F H ρ σ Q A h => h F H _ Nw.refl A (.str x)
theorem se_non : SE cv W (tC .non) (dC .none) := fun B F H ρ σ Q A h => h F H _ Nw.refl A .non

/-! ### operators -/
/-- the operator by values is worth p -/
def RelOp (cv : Cv) (W : WX) (r : R2) (p : D → D → R D) : Prop :=
  ∀ (B F H : Hp) (ρ : En) (σ : St) (x y : V) (dx dy : D) (Q : VK), Ag cv B F H ρ σ → Dp [] F x dx → Dp [] F y dy → Post cv W (relD) B F ρ σ (p dx dy) Q → r x y H Q
def dBin (p : D → D → R D) (a b : En → R D) : En → R D := fun ρ => a ρ >>= fun x => b ρ >>= fun y => p x y
theorem se_op {r : R2} {p : D → D → R D} {ta tb : TE} {da db : En → R D} (hr : RelOp cv W r p) (ha : SE cv W ta da) (hb : SE cv W tb db) : SE cv W (tOp r ta tb) (dBin p da db) := fun B F H ρ σ Q A h =>
  ha.bind A h fun dx F1 H1 x n1 A1 e1 h1 => hb.bind A1 h1 fun dy F2 H2 y n2 A2 e2 h2 => hr B F2 H2 ρ σ x y dx dy Q A2 (Dp.le n2.1 e1) e2 h2
def RelUn (cv : Cv) (W : WX) (r : V → Hp → VK → Prop) (p : D → R D) : Prop :=
  ∀ (B F H : Hp) (ρ : En) (σ : St) (x : V) (dx : D) (Q : VK), Ag cv B F H ρ σ → Dp [] F x dx → Post cv W (relD) B F ρ σ (p dx) Q → r x H Q
def dUn (p : D → R D) (a : En → R D) : En → R D := fun ρ => a ρ >>= p
theorem se_un {r : V → Hp → VK → Prop} {p : D → R D} {ta : TE} {da : En → R D} (hr : RelUn cv W r p) (ha : SE cv W ta da) : SE cv W (tUn r ta) (dUn p da) := fun B F H ρ σ Q A h =>
  ha.bind A h fun dx F1 H1 x n1 A1 e1 h1 => hr B F1 H1 ρ σ x dx Q A1 e1 h1
def asB : D → R Bool
  | .bool b => .val b
  | _ => .stk
/-- a op b op' c: the second only if the first holds -/
def dChain (p p' : D → D → R D) (a b c : En → R D) : En → R D := fun ρ => a ρ >>= fun x => b ρ >>= fun y => p x y >>= fun z => asB z >>= fun k => if k then c ρ >>= fun w => p' y w else .val (.bool false)
theorem Dp.bl {v : V} {b : Bool} (h : Dp [] F v (.bool b)) : v = .bl b := by cases h; rfl
theorem asB_val {z : D} {f : Bool → R α} {Q : β → Hp → Prop} (h : Post cv W rel B F ρ σ (asB z >>= f) Q) : ∃ k, z = .bool k ∧ Post cv W rel B F ρ σ (f k) Q := by
  cases z with
  | bool k => exact ⟨k, rfl, h⟩
  | none => exact h.elim
  | int _ => exact h.elim
  | str _ => exact h.elim
  | list _ => exact h.elim
  | tuple _ => exact h.elim
  | dict _ => exact h.elim
/-- a value's post, split -/
theorem Post.split {r : R α} {f : α → R γ} {Q : δ → Hp → Prop} {Q' : β → Hp → Prop} (h : Post cv W rel' B F ρ σ (r >>= f) Q)
    (k : ∀ a F' H' b, Nw B F F' → Ag cv B F' H' ρ σ → rel B F' H' ρ σ b a → Post cv W rel' B F' ρ σ (f a) Q → Q' b H') : Post cv W rel B F ρ σ r Q' := by
  cases r with
  | val a => exact fun F' H' b n A' r => k a F' H' b n A' r (Post.nw h n)
  | exc c => exact h
  | stk => exact h.elim
theorem se_chain {r r' : R2} {p p' : D → D → R D} {ta tb tc : TE} {da db dc : En → R D} (hr : RelOp cv W r p) (hr' : RelOp cv W r' p') (ha : SE cv W ta da) (hb : SE cv W tb db) (hc : SE cv W tc dc) :
    SE cv W (tChain r r' ta tb tc) (dChain p p' da db dc) := fun B F H ρ σ Q A h =>
  ha.bind A h fun dx F1 H1 x n1 A1 e1 h1 => hb.bind A1 h1 fun dy F2 H2 y n2 A2 e2 h2 => hr B F2 H2 ρ σ x y dx dy _ A2 (Dp.le n2.1 e1) e2 (Post.split h2 fun dz F3 H3 z n3 A3 e3 h3 => by
    obtain ⟨k, rfl, h4⟩ := asB_val h3
    refine ⟨k, Dp.bl e3, ?_⟩
    cases k with
    | true =>
      rw [if_pos rfl]
      exact hc.bind A3 h4 fun dw F4 H4 w n4 A4 e4 h5 => hr' B F4 H4 ρ σ y w dy dw Q A4 (Dp.le (n3.trans n4).1 e2) e4 h5
    | false =>
      rw [if_neg Bool.false_ne_true]
      exact h4 F3 H3 _ Nw.refl A3 (.bl false))

/-! ### arguments, displays -/
def dArgs : List (En → R D) → En → R (List D)
  | [], _ => .val []
  | a :: r, ρ => a ρ >>= fun x => dArgs r ρ >>= fun xs => .val (x :: xs)
theorem sa_nil : SA cv W tNil (dArgs []) := fun B F H ρ σ Q A h => h F H [] Nw.refl A .nil
theorem sa_cons {ta : TE} {tr : TA} {da : En → R D} {dr : List (En → R D)} (ha : SE cv W ta da) (hr : SA cv W tr (dArgs dr)) : SA cv W (tCons ta tr) (dArgs (da :: dr)) := fun B F H ρ σ Q A h =>
  ha.bind A h fun dx F1 H1 x n1 A1 e1 h1 => hr.bind A1 h1 fun dy F2 H2 y n2 A2 e2 h2 => h2 F2 H2 (x :: y) Nw.refl A2 (.cons (Dp.le n2.1 e1) e2)
theorem dArgs_len : ∀ {ds : List (En → R D)} {ρ : En} {xs : List D}, dArgs ds ρ = .val xs → xs.length = ds.length
  | [], _, _, h => by cases h; rfl
  | a :: r, ρ, xs, h => by
    unfold dArgs at h
    cases e : a ρ with
    | val x =>
      rw [e, R.bind_val] at h
      cases e2 : dArgs r ρ with
      | val ys =>
        rw [e2, R.bind_val] at h
        cases h
        exact congrArg (· + 1) (dArgs_len e2)
      | exc c => rw [e2, R.bind_exc] at h; cases h
      | stk => rw [e2, R.bind_stk] at h; cases h
    | exc c => rw [e, R.bind_exc] at h; cases h
    | stk => rw [e, R.bind_stk] at h; cases h
theorem small {n : Nat} (h : n ≤ 1000) : n ≤ sizeLine := Nat.le_of_lt (small1000 h)
theorem smallM {n : Nat} (h : n ≤ 1000) : n ≤ M := Nat.le_trans h (by decide)
theorem free_new (A : Ag cv B F H ρ σ) {p : Addr} (h : H p = none) : Free p ρ σ := fun i s e o z => by
  have q := A.ok i s e
  cases s with
  | ol ds =>
    obtain ⟨_, a, xs, e1, _, _, e4, _⟩ := q
    rw [e1] at z
    have e5 : a = p := V.ref.inj (Option.some.inj z)
    rw [e5, h] at e4
    cases e4
  | od ds =>
    obtain ⟨a, xs, e1, _, _, e4, _⟩ := q
    rw [e1] at z
    have e5 : a = p := V.ref.inj (Option.some.inj z)
    rw [e5, h] at e4
    cases e4
  | un => cases o
  | fz _ => cases o
  | lk _ => cases o
def dTup (ds : List (En → R D)) : En → R D := fun ρ => dArgs ds ρ >>= fun xs => .val (.tuple xs)
theorem se_tup {t : TA} {ds : List (En → R D)} (h : SA cv W t (dArgs ds)) (hn : ds.length ≤ 1000 := by decide) : SE cv W (tTup t) (dTup ds) := fun B F H ρ σ Q A hq => by
  refine h B F H ρ σ _ A ?_
  cases e : dArgs ds ρ with
  | val xs =>
    unfold dTup at hq
    rw [e, R.bind_val] at hq
    intro F1 H1 vs n1 A1 e1
    have hl : vs.length ≤ 1000 := (DpAll.length e1).trans (dArgs_len e) ▸ hn
    refine ⟨small hl, fun p hp => ?_⟩
    obtain ⟨A2, n2, hF⟩ := A1.new (.tup vs) hp (smallM hl)
    exact hq _ _ _ (n1.trans n2) A2 (.tup (.inl (.inl upd_same)) (DpAll.le (le_upd hF) e1))
  | exc c =>
    unfold dTup at hq
    rw [e] at hq
    exact hq
  | stk =>
    unfold dTup at hq
    rw [e] at hq
    exact hq.elim
theorem Post.args {ds : List (En → R D)} {f : List D → R γ} {Q : δ → Hp → Prop} {Q' : List V → Hp → Prop} {t : TA} (s : SA cv W t (dArgs ds)) (A : Ag cv B F H ρ σ)
    (h : Post cv W rel' B F ρ σ (dArgs ds ρ >>= f) Q)
    (k : ∀ a F' H' b, a.length = ds.length → Nw B F F' → Ag cv B F' H' ρ σ → DpAll [] F' b a → Post cv W rel' B F' ρ σ (f a) Q → Q' b H') : t σ H Q' := by
  refine s B F H ρ σ Q' A ?_
  cases e : dArgs ds ρ with
  | val a =>
    rw [e] at h
    exact fun F' H' b n A' r => k a F' H' b (dArgs_len e) n A' r (Post.nw h n)
  | exc c =>
    rw [e] at h
    exact h
  | stk =>
    rw [e] at h
    exact h.elim
/-- a list display: a new list -/
theorem sl_lst {t : TA} {ds : List (En → R D)} (h : SA cv W t (dArgs ds)) (hn : ds.length ≤ 1000 := by decide) : SL cv W (tLst t) (dArgs ds) := fun B F H ρ σ Q A hq => by
  refine h B F H ρ σ _ A ?_
  cases e : dArgs ds ρ with
  | val xs =>
    rw [e] at hq
    intro F1 H1 vs n1 A1 e1
    refine ⟨small ((DpAll.length e1).trans (dArgs_len e) ▸ hn), fun p hp => ?_⟩
    obtain ⟨A2, hF, hB⟩ := A1.loose (.lst vs) hp
    exact hq _ _ _ n1 A2 ⟨smallM (dArgs_len e ▸ hn), p, vs, rfl, hF, hB, upd_same, e1, free_new A1 hp⟩
  | exc c =>
    rw [e] at hq
    exact hq
  | stk =>
    rw [e] at hq
    exact hq.elim
/-- what is nobody's becomes data -/
theorem Ag.freeze {a : Addr} {o : HO} (A : Ag cv B F H ρ σ) (hF : F a = none) (hB : B a = none) (hH : H a = some o) (fr : Free a ρ σ) (so : SzO o) : Ag cv B (upd F a o) H ρ σ ∧ Nw B F (upd F a o) := by
  have le : Le F (upd F a o) := le_upd hF
  refine ⟨⟨fun b u e => ?_, A.prot, A.nb, A.tabs, A.sz.upd so, A.len, fun i s e => ?_, A.dj⟩, le, fun b u e => ?_⟩
  · by_cases q : b = a
    · subst q; rw [upd_same] at e; rw [hH, Option.some.inj e]
    · rw [upd_ne q] at e; exact A.sub b u e
  · have q := A.ok i s e
    have f2 := fr i s e
    cases s with
    | un => trivial
    | fz d => obtain ⟨v, e1, e2⟩ := q; exact ⟨v, e1, Dp.le le e2⟩
    | ol ds =>
      obtain ⟨e0, b, xs, e1, e2, e3, e4, e5⟩ := q
      exact ⟨e0, b, xs, e1, by rw [upd_ne (fun z => f2 rfl (by rw [e1, z]))]; exact e2, e3, e4, DpAll.le le e5⟩
    | od ds =>
      obtain ⟨b, xs, e1, e2, e3, e4, e5⟩ := q
      exact ⟨b, xs, e1, by rw [upd_ne (fun z => f2 rfl (by rw [e1, z]))]; exact e2, e3, e4, KVp.le le e5⟩
    | lk ds =>
      obtain ⟨b, xs, o', e1, e2, e5⟩ := q
      exact ⟨b, xs, o', e1, le _ _ e2, KVp.le le e5⟩
  · by_cases q : b = a
    · subst q; exact .inr hB
    · rw [upd_ne q] at e; exact .inl e
def dL (d : En → R (List D)) : En → R D := fun ρ => d ρ >>= fun xs => .val (.list xs)
/-- a new list as data -/
theorem se_l {t : TE} {d : En → R (List D)} (h : SL cv W t d) : SE cv W t (dL d) := fun B F H ρ σ Q A hq =>
  h.bind A hq fun xs F1 H1 v n1 A1 ⟨e0, a, vs, e1, e2, e3, e4, e5, e6⟩ h1 => by
    subst e1
    obtain ⟨A2, n2⟩ := A1.freeze e2 e3 e4 e6 (show vs.length ≤ M from (DpAll.length e5) ▸ e0)
    exact h1 _ _ _ n2 A2 (.lst (.inl (.inl upd_same)) (DpAll.le n2.1 e5))

/-! ### tests -/
def dTst (d : En → R D) : En → R Bool := fun ρ => d ρ >>= asB
theorem st_tst {t : TE} {d : En → R D} (h : SE cv W t d) : STt cv W (tTest t) (dTst d) := fun B F H ρ σ Q A hq =>
  h.bind A hq fun x F1 H1 v n1 A1 e1 h1 => by
    cases x with
    | bool k => exact ⟨k, Dp.bl e1, h1 F1 H1 k Nw.refl A1 rfl⟩
    | none => exact h1.elim
    | int _ => exact h1.elim
    | str _ => exact h1.elim
    | list _ => exact h1.elim
    | tuple _ => exact h1.elim
    | dict _ => exact h1.elim
theorem st_tb {t : TE} {d : En → R D} (h : SE cv W t d) : STt cv W (tB t) (dTst d) := st_tst h
theorem nat_ne (n : Nat) : (n != 0) = (((n : Nat) : Int) != 0) := by
  cases n with
  | zero => rfl
  | succ n =>
    have h1 : (n + 1 != 0) = true := by simp
    have h2 : ((((n + 1 : Nat)) : Int) != 0) = true := by
      rw [bne_iff_ne]
      omega
    rw [h1, h2]
/-- truth -/
def truth : D → R Bool
  | .none => .val false
  | .bool b => .val b
  | .int i => .val (i != 0)
  | .str x => if x.length ≤ sizeLine then .val (x.length != 0) else .stk
  | .list xs => .val (!xs.isEmpty)
  | .tuple xs => .val (!xs.isEmpty)
  | .dict _ => .stk
def dTru (d : En → R D) : En → R Bool := fun ρ => d ρ >>= truth
theorem DpAll.empty {vs : List V} {ds : List D} (h : DpAll [] F vs ds) : ds.isEmpty = vs.isEmpty := by cases h <;> rfl
theorem SqL.sub (A : Ag cv B F H ρ σ) {a : Addr} {xs : List V} (h : SqL [] F a xs) : SqL K H a xs := SqL.toK (SqL.le A.sub h)
theorem SqT.sub (A : Ag cv B F H ρ σ) {a : Addr} {xs : List V} (h : SqT [] F a xs) : SqT K H a xs := SqT.toK (SqT.le A.sub h)
theorem st_tru {t : TE} {d : En → R D} (h : SE cv W t d) : STt cv W (fun σ H Q => t σ H fun x H' => ∃ k, TruV K x H' k ∧ Q k H') (dTru d) := fun B F H ρ σ Q A hq =>
  h.bind A hq fun x F1 H1 v n1 A1 e1 h1 => by
    cases e1 with
    | non => exact ⟨false, rfl, h1 F1 H1 _ Nw.refl A1 rfl⟩
    | bl b => exact ⟨b, rfl, h1 F1 H1 _ Nw.refl A1 rfl⟩
    | int i => exact ⟨_, rfl, h1 F1 H1 _ Nw.refl A1 rfl⟩
    | str x =>
      replace h1 : Post cv W relB B F1 ρ σ (if x.length ≤ sizeLine then .val (x.length != 0) else .stk) Q := h1
      by_cases q : x.length ≤ sizeLine
      · rw [if_pos q] at h1
        exact ⟨(x.length != 0), ⟨q, nat_ne x.length⟩, h1 F1 H1 _ Nw.refl A1 rfl⟩
      · rw [if_neg q] at h1
        exact h1.elim
    | lst s a => exact ⟨_, .inl ⟨_, SqL.sub A1 s, rfl⟩, h1 F1 H1 _ Nw.refl A1 (by show _ = _; rw [DpAll.empty a])⟩
    | tup s a => exact ⟨_, .inr (.inl ⟨_, SqT.sub A1 s, rfl⟩), h1 F1 H1 _ Nw.refl A1 (by show _ = _; rw [DpAll.empty a])⟩
def dNot (d : En → R Bool) : En → R Bool := fun ρ => d ρ >>= fun b => .val (!b)
theorem st_not {t : TT} {d : En → R Bool} (h : STt cv W t d) : STt cv W (tNot t) (dNot d) := fun B F H ρ σ Q A hq =>
  h.bind A hq fun x F1 H1 v n1 A1 e1 h1 => by
    have e2 : v = x := e1
    subst e2
    exact h1 F1 H1 (!v) Nw.refl A1 rfl
def dAnd (a b : En → R Bool) : En → R Bool := fun ρ => a ρ >>= fun x => if x then b ρ else .val false
def dOr (a b : En → R Bool) : En → R Bool := fun ρ => a ρ >>= fun x => if x then .val true else b ρ
theorem st_and {t u : TT} {a b : En → R Bool} (ha : STt cv W t a) (hb : STt cv W u b) : STt cv W (tAnd t u) (dAnd a b) := fun B F H ρ σ Q A hq =>
  ha.bind A hq fun x F1 H1 v n1 A1 e1 h1 => by
    have e2 : v = x := e1
    subst e2
    cases v with
    | true =>
      rw [if_pos rfl] at h1 ⊢
      exact hb B F1 H1 ρ σ Q A1 h1
    | false =>
      rw [if_neg Bool.false_ne_true] at h1 ⊢
      exact h1 F1 H1 false Nw.refl A1 rfl
theorem st_or {t u : TT} {a b : En → R Bool} (ha : STt cv W t a) (hb : STt cv W u b) : STt cv W (tOr t u) (dOr a b) := fun B F H ρ σ Q A hq =>
  ha.bind A hq fun x F1 H1 v n1 A1 e1 h1 => by
    have e2 : v = x := e1
    subst e2
    cases v with
    | false =>
      rw [if_neg Bool.false_ne_true] at h1 ⊢
      exact hb B F1 H1 ρ σ Q A1 h1
    | true =>
      rw [if_pos rfl] at h1 ⊢
      exact h1 F1 H1 true Nw.refl A1 rfl
/-- and, or, not as values -/
def dAndV (a b : En → R D) : En → R D := fun ρ => a ρ >>= fun x => asB x >>= fun k => if k then b ρ else .val (.bool false)
def dOrV (a b : En → R D) : En → R D := fun ρ => a ρ >>= fun x => asB x >>= fun k => if k then .val (.bool true) else b ρ
theorem se_and {t u : TE} {a b : En → R D} (ha : SE cv W t a) (hb : SE cv W u b) : SE cv W (tAndV t u) (dAndV a b) := fun B F H ρ σ Q A hq =>
  ha.bind A hq fun x F1 H1 v n1 A1 e1 h1 => by
    obtain ⟨k, rfl, h2⟩ := asB_val h1
    refine ⟨k, Dp.bl e1, ?_⟩
    cases k with
    | true =>
      rw [if_pos rfl] at h2 ⊢
      exact hb B F1 H1 ρ σ Q A1 h2
    | false =>
      rw [if_neg Bool.false_ne_true] at h2 ⊢
      exact h2 F1 H1 _ Nw.refl A1 (.bl false)
theorem se_or {t u : TE} {a b : En → R D} (ha : SE cv W t a) (hb : SE cv W u b) : SE cv W (tOrV t u) (dOrV a b) := fun B F H ρ σ Q A hq =>
  ha.bind A hq fun x F1 H1 v n1 A1 e1 h1 => by
    obtain ⟨k, rfl, h2⟩ := asB_val h1
    refine ⟨k, Dp.bl e1, ?_⟩
    cases k with
    | false =>
      rw [if_neg Bool.false_ne_true] at h2 ⊢
      exact hb B F1 H1 ρ σ Q A1 h2
    | true =>
      rw [if_pos rfl] at h2 ⊢
      exact h2 F1 H1 _ Nw.refl A1 (.bl true)
def dNotV (a : En → R D) : En → R D := fun ρ => a ρ >>= fun x => asB x >>= fun k => .val (.bool (!k))
theorem se_not {t : TE} {a : En → R D} (ha : SE cv W t a) : SE cv W (tNotV t) (dNotV a) := fun B F H ρ σ Q A hq =>
  ha.bind A hq fun x F1 H1 v n1 A1 e1 h1 => by
    obtain ⟨k, rfl, h2⟩ := asB_val h1
    exact ⟨k, Dp.bl e1, h2 F1 H1 _ Nw.refl A1 (.bl _)⟩
def dIf {α : Type} (c : En → R Bool) (a b : En → R α) : En → R α := fun ρ => c ρ >>= fun k => if k then a ρ else b ρ
theorem sm_if {t : TT} {c : En → R Bool} {ta tb : TE} {a b : En → R α} {rel : Hp → Hp → Hp → En → St → V → α → Prop} (hc : STt cv W t c) (ha : Sm cv W rel ta a) (hb : Sm cv W rel tb b) : Sm cv W rel (tIf t ta tb) (dIf c a b) := fun B F H ρ σ Q A hq =>
  hc.bind A hq fun x F1 H1 v n1 A1 e1 h1 => by
    have e2 : v = x := e1
    subst e2
    cases v with
    | true =>
      rw [if_pos rfl] at h1 ⊢
      exact ha B F1 H1 ρ σ Q A1 h1
    | false =>
      rw [if_neg Bool.false_ne_true] at h1 ⊢
      exact hb B F1 H1 ρ σ Q A1 h1
/-- what a place of a slice is -/
def dNoP : En → R (Option Int) := fun _ => .val none
def asI : D → R Int
  | .int i => .val i
  | _ => .stk
def dP (d : En → R D) : En → R (Option Int) := fun ρ => d ρ >>= fun x => asI x >>= fun i => .val (some i)
theorem so_no : SO cv W tNoPart dNoP := fun B F H ρ σ Q A hq => hq F H none Nw.refl A rfl
theorem asI_val {z : D} {f : Int → R α} {Q : β → Hp → Prop} (h : Post cv W rel B F ρ σ (asI z >>= f) Q) : ∃ k, z = .int k ∧ Post cv W rel B F ρ σ (f k) Q := by
  cases z with
  | int k => exact ⟨k, rfl, h⟩
  | none => exact h.elim
  | bool _ => exact h.elim
  | str _ => exact h.elim
  | list _ => exact h.elim
  | tuple _ => exact h.elim
  | dict _ => exact h.elim
theorem Dp.int' {v : V} {i : Int} (h : Dp [] F v (.int i)) : v = .int i := by cases h; rfl
theorem Dp.str' {v : V} {i : Str} (h : Dp [] F v (.str i)) : v = .str i := by cases h; rfl
theorem so_p {t : TE} {d : En → R D} (h : SE cv W t d) : SO cv W (tPart t) (dP d) := fun B F H ρ σ Q A hq =>
  h.bind A hq fun x F1 H1 v n1 A1 e1 h1 => by
    obtain ⟨k, rfl, h2⟩ := asI_val h1
    exact ⟨k, Dp.int' e1, h2 F1 H1 (some k) Nw.refl A1 rfl⟩
end
end L2.Dn


set_option Elab.async false
set_option linter.all false
set_option maxRecDepth 100000
set_option maxHeartbeats 1000000
/-! Dn3: statements, loops, what is walked, comprehensions. -/
namespace L2.Dn
open PySem PySem.Spec PyProof.Rows

/-- how a statement ends -/
inductive Out where
  | nx (ρ : En) | rt (d : D) | rd (kvs : List (Key × D)) | bk (ρ : En) | ct (ρ : En) | xc (c : Ex) (ρ : En) | stk
section
variable (K : PySem.W.Frag) (cv : Cv) (W : WX)
def PostS (B F : Hp) (D : Ends) : Out → Prop
  | .nx ρ' => ∀ F' H' σ', Nw B F F' → Ag cv B F' H' ρ' σ' → D.nx σ' H'
  | .bk ρ' => ∀ F' H' σ', Nw B F F' → Ag cv B F' H' ρ' σ' → D.bk σ' H'
  | .ct ρ' => ∀ F' H' σ', Nw B F F' → Ag cv B F' H' ρ' σ' → D.ct σ' H'
  | .rt d => ∀ F' H' v, Nw B F F' → Le F' H' → Le B H' → Sz F' → TabAll cv.T H' → Dp [] F' v d → D.rt v H'
  | .rd kvs => ∀ F' H' a ks, Nw B F F' → Le F' H' → Le B H' → Sz F' → TabAll cv.T H' → F' a = none → B a = none → H' a = some (.dK ks) → KVp F' ks kvs → D.rt (.ref a) H'
  | .xc c ρ' => ∀ F' H' σ', Nw B F F' → Ag cv B F' H' ρ' σ' → W (cv c) none σ' H'
  | .stk => False
/-- the statement's reading is worth d -/
def SS (t : TS) (d : En → Out) : Prop := ∀ (B F H : Hp) (ρ : En) (σ : St) (D : Ends), Ag cv B F H ρ σ → PostS cv W B F D (d ρ) → t D σ H
end
section
variable {K : PySem.W.Frag} {cv : Cv} {W : WX} {B F F' H H' : Hp} {ρ : En} {σ : St} {D : Ends}
variable {α β γ δ : Type} {rel : Hp → Hp → Hp → En → St → β → α → Prop}
theorem PostS.nw {o : Out} (h : PostS cv W B F D o) (n : Nw B F F') : PostS cv W B F' D o := by
  cases o with
  | nx ρ' => exact fun F' H' σ' n' A => h F' H' σ' (n.trans n') A
  | bk ρ' => exact fun F' H' σ' n' A => h F' H' σ' (n.trans n') A
  | ct ρ' => exact fun F' H' σ' n' A => h F' H' σ' (n.trans n') A
  | rt d => exact fun F' H' v n' => h F' H' v (n.trans n')
  | rd kvs => exact fun F' H' a ks n' => h F' H' a ks (n.trans n')
  | xc c ρ' => exact fun F' H' σ' n' A => h F' H' σ' (n.trans n') A
  | stk => exact h
/-- an expression's worth in a statement -/
def toO {α : Type} (r : R α) (ρ : En) (f : α → Out) : Out := match r with
  | .val a => f a
  | .exc c => .xc c ρ
  | .stk => .stk
theorem Sm.bindS {t : St → Hp → (β → Hp → Prop) → Prop} {d : En → R α} {f : α → Out} {Q' : β → Hp → Prop} (s : Sm cv W rel t d) (A : Ag cv B F H ρ σ)
    (h : PostS cv W B F D (toO (d ρ) ρ f))
    (k : ∀ a F' H' b, Nw B F F' → Ag cv B F' H' ρ σ → rel B F' H' ρ σ b a → PostS cv W B F' D (f a) → Q' b H') : t σ H Q' := by
  refine s B F H ρ σ Q' A ?_
  cases e : d ρ with
  | val a =>
    rw [e] at h
    exact fun F' H' b n A' r => k a F' H' b n A' r (PostS.nw h n)
  | exc c =>
    rw [e] at h
    exact fun F' H' n A' => h F' H' σ n A'
  | stk =>
    rw [e] at h
    exact h.elim

/-! ### blocks -/
def oNext : En → Out := .nx
def oSeq (a b : En → Out) : En → Out := fun ρ => match a ρ with
  | .nx ρ' => b ρ'
  | o => o
theorem ss_next : SS cv W tNext oNext := fun B F H ρ σ D A h => h F H σ Nw.refl A
theorem ss_seq {t u : TS} {a b : En → Out} (ha : SS cv W t a) (hb : SS cv W u b) : SS cv W (tSeq t u) (oSeq a b) := fun B F H ρ σ D A h => by
  refine ha B F H ρ σ _ A ?_
  unfold oSeq at h
  cases e : a ρ with
  | nx ρ' =>
    rw [e] at h
    exact fun F' H' σ' n A' => hb B F' H' ρ' σ' D A' (PostS.nw h n)
  | bk ρ' => rw [e] at h; exact h
  | ct ρ' => rw [e] at h; exact h
  | rt d => rw [e] at h; exact h
  | rd kvs => rw [e] at h; exact h
  | xc c ρ' => rw [e] at h; exact h
  | stk => rw [e] at h; exact h
def oBreak : En → Out := .bk
def oCont : En → Out := .ct
theorem ss_break : SS cv W tBreak oBreak := fun B F H ρ σ D A h => h F H σ Nw.refl A
theorem ss_cont : SS cv W tCont oCont := fun B F H ρ σ D A h => h F H σ Nw.refl A
/-- what is no longer asked for -/
def fgt (is : List Nat) (ρ : En) : En := is.foldl (fun r i => r.set i .un) ρ
theorem Ag.setUn (A : Ag cv B F H ρ σ) (i : Nat) : Ag cv B F H (ρ.set i .un) σ where
  sub := A.sub
  prot := A.prot
  nb := A.nb
  tabs := A.tabs
  sz := A.sz
  len := by rw [List.length_set]; exact A.len
  ok := fun j s e => by
    rw [List.getElem?_set] at e
    split at e
    · split at e
      · cases e; trivial
      · cases e
    · exact A.ok j s e
  dj := fun j k s t a e1 e2 o1 o2 => by
    rw [List.getElem?_set] at e1 e2
    split at e1
    · split at e1
      · cases e1; cases o1
      · cases e1
    · split at e2
      · split at e2
        · cases e2; cases o2
        · cases e2
      · exact A.dj j k s t a e1 e2 o1 o2
theorem Ag.fgt : ∀ {is : List Nat} {ρ : En}, Ag cv B F H ρ σ → Ag cv B F H (fgt is ρ) σ
  | [], _, A => A
  | i :: r, _, A => Ag.fgt (is := r) (A.setUn i)
/-- an owned list, an owned dict becomes data that stays (a dict is dropped) -/
def frz (i : Nat) (ρ : En) : En := match ρ[i]? with
  | some (.ol ds) => ρ.set i (.fz (.list ds))
  | _ => ρ
theorem Ag.own_free (A : Ag cv B F H ρ σ) {i : Nat} {s : Sl} {a : Addr} (e : ρ[i]? = some s) (o : s.own = true) (z : sAt σ i = some (.ref a)) : Free a (ρ.set i .un) σ := fun j t e2 o2 z2 => by
  rw [List.getElem?_set] at e2
  split at e2
  · split at e2
    · cases e2; cases o2
    · cases e2
  · rename_i hne
    exact hne (A.dj i j s t a e e2 o o2 z z2)
/-- a slot is told anew, its value as it is -/
theorem Ag.tell {i : Nat} {s : Sl} (A : Ag cv B F H ρ σ) (h : SlOk B F H s (sAt σ i)) (o : s.own = false) : Ag cv B F H (ρ.set i s) σ where
  sub := A.sub
  prot := A.prot
  nb := A.nb
  tabs := A.tabs
  sz := A.sz
  len := by rw [List.length_set]; exact A.len
  ok := fun j t e => by
    rw [List.getElem?_set] at e
    split at e
    · rename_i hj
      split at e
      · cases e; rw [← hj]; exact h
      · cases e
    · exact A.ok j t e
  dj := fun j k t u a e1 e2 o1 o2 => by
    rw [List.getElem?_set] at e1 e2
    split at e1
    · split at e1
      · cases e1; rw [o] at o1; cases o1
      · cases e1
    · split at e2
      · split at e2
        · cases e2; rw [o] at o2; cases o2
        · cases e2
      · exact A.dj j k t u a e1 e2 o1 o2
theorem Ag.frz {i : Nat} (A : Ag cv B F H ρ σ) : ∃ F', Nw B F F' ∧ Ag cv B F' H (frz i ρ) σ := by
  unfold Dn.frz
  split
  · rename_i ds e
    obtain ⟨e0, a, xs, e1, e2, e3, e4, e5⟩ := A.ok i _ e
    obtain ⟨A2, n2⟩ := (A.setUn i).freeze e2 e3 e4 (A.own_free e rfl e1) (show xs.length ≤ M from (DpAll.length e5) ▸ e0)
    have q : ρ.set i (.fz (.list ds)) = (ρ.set i .un).set i (.fz (.list ds)) := by rw [List.set_set]
    refine ⟨_, n2, ?_⟩
    rw [q]
    exact A2.tell ⟨.ref a, e1, .lst (.inl (.inl upd_same)) (DpAll.le n2.1 e5)⟩ rfl
  · exact ⟨F, Nw.refl, A⟩
/-- ahead of a statement: slots i become data -/
def frzs (is : List Nat) (ρ : En) : En := is.foldl (fun r i => frz i r) ρ
theorem Ag.frzs : ∀ {is : List Nat} {F : Hp} {ρ : En}, Ag cv B F H ρ σ → ∃ F', Nw B F F' ∧ Ag cv B F' H (frzs is ρ) σ
  | [], F, _, A => ⟨F, Nw.refl, A⟩
  | i :: r, F, _, A => by
    obtain ⟨F1, n1, A1⟩ := A.frz (i := i)
    obtain ⟨F2, n2, A2⟩ := Ag.frzs (is := r) A1
    exact ⟨F2, n1.trans n2, A2⟩
/-- the same statement, told of more or less -/
def oPre (f : En → En) (a : En → Out) : En → Out := fun ρ => a (f ρ)
theorem ss_frz {t : TS} {a : En → Out} (is : List Nat) (h : SS cv W t a) : SS cv W t (oPre (frzs is) a) := fun B F H ρ σ D A q => by
  obtain ⟨F1, n1, A1⟩ := A.frzs (is := is)
  exact h B F1 H _ σ D A1 (PostS.nw q n1)
theorem ss_fgt {t : TS} {a : En → Out} (is : List Nat) (h : SS cv W t a) : SS cv W t (oPre (fgt is) a) := fun B F H ρ σ D A q => h B F H _ σ D A.fgt q
def oIf (c : En → R Bool) (a b : En → Out) : En → Out := fun ρ => toO (c ρ) ρ fun k => if k then a ρ else b ρ
theorem ss_if {c : TT} {t u : TS} {dc : En → R Bool} {a b : En → Out} (hc : STt cv W c dc) (ha : SS cv W t a) (hb : SS cv W u b) : SS cv W (tIfS c t u) (oIf dc a b) := fun B F H ρ σ D A h =>
  hc.bindS A h fun x F1 H1 v n1 A1 e1 h1 => by
    have e2 : v = x := e1
    subst e2
    cases v with
    | true =>
      rw [if_pos rfl] at h1 ⊢
      exact ha B F1 H1 ρ σ D A1 h1
    | false =>
      rw [if_neg Bool.false_ne_true] at h1 ⊢
      exact hb B F1 H1 ρ σ D A1 h1
def oRet (d : En → R Dn.D) : En → Out := fun ρ => toO (d ρ) ρ .rt
theorem ss_ret {t : TE} {d : En → R Dn.D} (h : SE cv W t d) : SS cv W (tRet t) (oRet d) := fun B F H ρ σ D A q =>
  h.bindS A q fun x F1 H1 v n1 A1 e1 h1 => h1 F1 H1 v Nw.refl A1.sub A1.prot A1.sz A1.tabs e1
theorem ss_retN : SS cv W tRetN (fun _ => .rt .none) := fun B F H ρ σ D A q => q F H .non Nw.refl A.sub A.prot A.sz A.tabs .non
/-- a dict that is nobody's is told -/
def oRetK (d : En → R (List (Key × Dn.D))) : En → Out := fun ρ => toO (d ρ) ρ .rd
theorem ss_retK {t : TE} {d : En → R (List (Key × Dn.D))} (h : SK cv W t d) : SS cv W (tRet t) (oRetK d) := fun B F H ρ σ D A q =>
  h.bindS A q fun x F1 H1 v n1 A1 ⟨a, ks, e1, e2, e3, e4, e5, _⟩ h1 => by
    subst e1
    exact h1 F1 H1 a ks Nw.refl A1.sub A1.prot A1.sz A1.tabs e2 e3 e4 e5
/-- an owned dict is told -/
def oRetO (i : Nat) : En → Out := fun ρ => match ρ[i]? with
  | some (.od kvs) => .rd kvs
  | _ => .stk
theorem ss_retO {i : Nat} : SS cv W (tRet (tVar i)) (oRetO i) := fun B F H ρ σ D A q => by
  unfold oRetO at q
  split at q
  · rename_i kvs e
    obtain ⟨a, ks, e1, e2, e3, e4, e5⟩ := A.ok i _ e
    exact ⟨.ref a, sAt_some e1, q F H a ks Nw.refl A.sub A.prot A.sz A.tabs e2 e3 e4 e5⟩
  · exact q.elim
/-- an expression whose value is dropped -/
def oDrop (d : En → R Dn.D) : En → Out := fun ρ => toO (d ρ) ρ fun _ => .nx ρ
theorem ss_drop {t : TE} {d : En → R Dn.D} (h : SE cv W t d) : SS cv W (tDrop t) (oDrop d) := fun B F H ρ σ D A q =>
  h.bindS A q fun x F1 H1 v n1 A1 e1 h1 => h1 F1 H1 σ Nw.refl A1

/-! ### targets -/
/-- outside the slots is nothing changes -/
def Agr (is : List Nat) (ρ ρ' : En) (σ σ' : St) : Prop := σ'.length = σ.length ∧ ρ'.length = ρ.length ∧ ∀ j, j ∉ is → σ'[j]? = σ[j]? ∧ ρ'[j]? = ρ[j]?
theorem Agr.refl {is : List Nat} {ρ : En} {σ : St} : Agr is ρ ρ σ σ := ⟨rfl, rfl, fun _ _ => ⟨rfl, rfl⟩⟩
theorem Agr.trans {is js : List Nat} {ρ ρ1 ρ2 : En} {σ σ1 σ2 : St} (a : Agr is ρ ρ1 σ σ1) (b : Agr js ρ1 ρ2 σ1 σ2) : Agr (is ++ js) ρ ρ2 σ σ2 :=
  ⟨b.1.trans a.1, b.2.1.trans a.2.1, fun j h => by
    rw [List.mem_append] at h
    have h1 := a.2.2 j fun z => h (.inl z)
    have h2 := b.2.2 j fun z => h (.inr z)
    exact ⟨h2.1.trans h1.1, h2.2.trans h1.2⟩⟩
/-- a target's reading takes plain data d to another environment, or nothing is told; it changes the slots is alone -/
def SG (cv : Cv) (is : List Nat) (g : TG) (b : Dn.D → En → Option En) : Prop :=
  ∀ (B F H : Hp) (ρ ρ' : En) (σ : St) (v : V) (d : Dn.D) (Q : St → Hp → Prop), Ag cv B F H ρ σ → Dp [] F v d → b d ρ = some ρ' → (∀ F' H' σ', Nw B F F' → Ag cv B F' H' ρ' σ' → Agr is ρ ρ' σ σ' → Q σ' H') → g v σ H Q
def SGs (cv : Cv) (is : List Nat) (g : TGs) (b : List Dn.D → En → Option En) : Prop :=
  ∀ (B F H : Hp) (ρ ρ' : En) (σ : St) (vs : List V) (ds : List Dn.D) (Q : St → Hp → Prop), Ag cv B F H ρ σ → DpAll [] F vs ds → b ds ρ = some ρ' → (∀ F' H' σ', Nw B F F' → Ag cv B F' H' ρ' σ' → Agr is ρ ρ' σ σ' → Q σ' H') → g vs σ H Q
theorem sAt_set {i j : Nat} {v : V} (hi : i < σ.length) : sAt (σ.set i (some v)) j = if i = j then some v else sAt σ j := by
  unfold sAt
  rw [List.getElem?_set]
  split
  · first
      | rfl
      | (rw [if_pos hi]; rfl)
  · rfl
theorem sAt_set' {i j : Nat} {v : V} (h : i ≠ j) : sAt (σ.set i (some v)) j = sAt σ j := by
  unfold sAt
  rw [List.getElem?_set_ne h]
theorem Ag.set {i : Nat} {v : V} {s : Sl} (A : Ag cv B F H ρ σ) (h : SlOk B F H s (some v)) (fr : s.own = true → ∀ a, v = .ref a → Free a (ρ.set i .un) σ) : Ag cv B F H (ρ.set i s) (σ.set i (some v)) where
  sub := A.sub
  prot := A.prot
  nb := A.nb
  tabs := A.tabs
  sz := A.sz
  len := by rw [List.length_set, List.length_set]; exact A.len
  ok := fun j t e => by
    by_cases hj : i = j
    · subst hj
      rw [List.getElem?_set] at e
      rw [if_pos rfl] at e
      split at e
      · rename_i hl
        cases e
        rw [sAt_set (by rw [A.len]; exact hl), if_pos rfl]
        exact h
      · cases e
    · rw [List.getElem?_set_ne hj] at e
      rw [sAt_set' hj]
      exact A.ok j t e
  dj := fun j k t u a e1 e2 o1 o2 z1 z2 => by
    by_cases hj : i = j
    · by_cases hk : i = k
      · exact hj.symm.trans hk
      · subst hj
        rw [List.getElem?_set, if_pos rfl] at e1
        split at e1
        · rename_i hl
          cases e1
          rw [sAt_set (by rw [A.len]; exact hl), if_pos rfl] at z1
          rw [List.getElem?_set_ne hk] at e2
          rw [sAt_set' hk] at z2
          exact absurd z2 (fr o1 a (Option.some.inj z1) k u (by rw [List.getElem?_set_ne hk]; exact e2) o2)
        · cases e1
    · by_cases hk : i = k
      · subst hk
        rw [List.getElem?_set, if_pos rfl] at e2
        split at e2
        · rename_i hl
          cases e2
          rw [sAt_set (by rw [A.len]; exact hl), if_pos rfl] at z2
          rw [List.getElem?_set_ne hj] at e1
          rw [sAt_set' hj] at z1
          exact absurd z1 (fr o2 a (Option.some.inj z2) j t (by rw [List.getElem?_set_ne hj]; exact e1) o1)
        · cases e2
      · rw [List.getElem?_set_ne hj] at e1
        rw [List.getElem?_set_ne hk] at e2
        rw [sAt_set' hj] at z1
        rw [sAt_set' hk] at z2
        exact A.dj j k t u a e1 e2 o1 o2 z1 z2
def bName (i : Nat) : Dn.D → En → Option En := fun d ρ => some (ρ.set i (.fz d))
theorem sg_name {i : Nat} : SG cv [i] (gName i) (bName i) := fun B F H ρ ρ' σ v d Q A e h q => by
  cases h
  exact q _ _ _ Nw.refl (A.set ⟨v, rfl, e⟩ fun z => by cases z) ⟨List.length_set, List.length_set, fun j hj => by
    have h : i ≠ j := fun z => hj (by rw [z]; exact List.mem_singleton.mpr rfl)
    exact ⟨List.getElem?_set_ne h, List.getElem?_set_ne h⟩⟩
def bNil : List Dn.D → En → Option En
  | [], ρ => some ρ
  | _, _ => none
def bCons (a : Dn.D → En → Option En) (r : List Dn.D → En → Option En) : List Dn.D → En → Option En
  | d :: ds, ρ => (a d ρ).bind (r ds)
  | [], _ => none
def bTup (n : Nat) (r : List Dn.D → En → Option En) : Dn.D → En → Option En
  | .tuple ds, ρ => if ds.length = n then r ds ρ else none
  | _, _ => none
theorem sgs_nil : SGs cv [] gNil bNil := fun B F H ρ ρ' σ vs ds Q A e h q => by
  cases e with
  | nil => cases h; exact ⟨rfl, q F H σ Nw.refl A .refl⟩
  | cons a b => cases h
theorem sgs_cons {is js : List Nat} {g : TG} {gs : TGs} {b : Dn.D → En → Option En} {bs : List Dn.D → En → Option En} (h1 : SG cv is g b) (h2 : SGs cv js gs bs) : SGs cv (is ++ js) (gCons g gs) (bCons b bs) := fun B F H ρ ρ' σ vs ds Q A e h q => by
  cases e with
  | nil => cases h
  | cons a r =>
    rename_i v0 vs0 d0 ds0
    replace h : (b d0 ρ).bind (bs ds0) = some ρ' := h
    cases hb : b d0 ρ with
    | none => rw [hb] at h; cases h
    | some ρ1 =>
      rw [hb] at h
      exact ⟨_, _, rfl, h1 B F H ρ ρ1 σ _ _ _ A a hb fun F1 H1 σ1 n1 A1 g1 => h2 B F1 H1 ρ1 ρ' σ1 _ _ Q A1 (DpAll.le n1.1 r) h fun F2 H2 σ2 n2 A2 g2 => q F2 H2 σ2 (n1.trans n2) A2 (g1.trans g2)⟩
theorem sg_tup {is : List Nat} {n : Nat} {gs : TGs} {bs : List Dn.D → En → Option En} (h : SGs cv is gs bs) : SG cv is (gTup K n gs) (bTup n bs) := fun B F H ρ ρ' σ v d Q A e hb q => by
  cases e with
  | tup s a =>
    rename_i a0 xs0 ds0
    replace hb : (if ds0.length = n then bs ds0 ρ else none) = some ρ' := hb
    by_cases hl : ds0.length = n
    · rw [if_pos hl] at hb
      exact ⟨_, _, rfl, SqT.sub A s, (DpAll.length a).trans hl, h B F H ρ ρ' σ _ _ Q A a hb q⟩
    · rw [if_neg hl] at hb; cases hb
  | non => cases hb
  | bl _ => cases hb
  | int _ => cases hb
  | str _ => cases hb
  | lst _ _ => cases hb
/-- a text unpacked -/
def bStr (n : Nat) (r : List Dn.D → En → Option En) : Dn.D → En → Option En
  | .str x, ρ => if x.cps.size = n then r (x.cps.toList.map fun c => .str ⟨#[c]⟩) ρ else none
  | _, _ => none
theorem DpAll.signs0 : ∀ l : List Nat, DpAll [] F (l.map fun c => V.str ⟨#[c]⟩) (l.map fun c => (.str ⟨#[c]⟩ : Dn.D))
  | [] => .nil
  | c :: r => .cons (.str _) (DpAll.signs0 r)
theorem sg_str {is : List Nat} {n : Nat} {gs : TGs} {bs : List Dn.D → En → Option En} (h : SGs cv is gs bs) : SG cv is (gStr n gs) (bStr n bs) := fun B F H ρ ρ' σ v d Q A e hb q => by
  cases e with
  | str x =>
    replace hb : (if x.cps.size = n then bs (x.cps.toList.map fun c => .str ⟨#[c]⟩) ρ else none) = some ρ' := hb
    by_cases hl : x.cps.size = n
    · rw [if_pos hl] at hb
      exact ⟨_, rfl, hl, h B F H ρ ρ' σ _ _ Q A (DpAll.signs0 x.cps.toList) hb q⟩
    · rw [if_neg hl] at hb; cases hb
  | non => cases hb
  | bl _ => cases hb
  | int _ => cases hb
  | tup _ _ => cases hb
  | lst _ _ => cases hb
def oAsg (d : En → R Dn.D) (b : Dn.D → En → Option En) : En → Out := fun ρ => toO (d ρ) ρ fun x => match b x ρ with
  | some ρ' => .nx ρ'
  | none => .stk
theorem ss_asg {is : List Nat} {t : TE} {g : TG} {d : En → R Dn.D} {b : Dn.D → En → Option En} (h : SE cv W t d) (hg : SG cv is g b) : SS cv W (tAsg t g) (oAsg d b) := fun B F H ρ σ D A q =>
  h.bindS A q fun x F1 H1 v n1 A1 e1 h1 => by
    cases e : b x ρ with
    | none => rw [e] at h1; exact h1.elim
    | some ρ' =>
      rw [e] at h1
      exact hg B F1 H1 ρ ρ' σ v x _ A1 e1 e fun F' H' σ' n' A' _ => h1 F' H' σ' n' A'
def oSet (i : Nat) (d : En → R Dn.D) : En → Out := fun ρ => toO (d ρ) ρ fun x => .nx (ρ.set i (.fz x))
theorem ss_set {i : Nat} {t : TE} {d : En → R Dn.D} (h : SE cv W t d) : SS cv W (tAsg t (gName i)) (oSet i d) := fun B F H ρ σ D A q =>
  h.bindS A q fun x F1 H1 v n1 A1 e1 h1 => h1 F1 H1 _ Nw.refl (A1.set ⟨v, rfl, e1⟩ fun z => by cases z)
theorem Free.un {a : Addr} {i : Nat} (f : Free a ρ σ) : Free a (ρ.set i .un) σ := fun j t e o => by
  rw [List.getElem?_set] at e
  split at e
  · split at e
    · cases e; cases o
    · cases e
  · exact f j t e o
/-- a name for a new list, a new dict, that may be changed -/
def oSetL (i : Nat) (d : En → R (List Dn.D)) : En → Out := fun ρ => toO (d ρ) ρ fun x => .nx (ρ.set i (.ol x))
theorem ss_setL {i : Nat} {t : TE} {d : En → R (List Dn.D)} (h : SL cv W t d) : SS cv W (tAsg t (gName i)) (oSetL i d) := fun B F H ρ σ D A q =>
  h.bindS A q fun x F1 H1 v n1 A1 ⟨e0, a, xs, e1, e2, e3, e4, e5, e6⟩ h1 => by
    subst e1
    exact h1 F1 H1 _ Nw.refl (A1.set ⟨e0, a, xs, rfl, e2, e3, e4, e5⟩ fun _ b z => by cases z; exact e6.un)
def oSetK (i : Nat) (d : En → R (List (Key × Dn.D))) : En → Out := fun ρ => toO (d ρ) ρ fun x => .nx (ρ.set i (.od x))
theorem ss_setK {i : Nat} {t : TE} {d : En → R (List (Key × Dn.D))} (h : SK cv W t d) : SS cv W (tAsg t (gName i)) (oSetK i d) := fun B F H ρ σ D A q =>
  h.bindS A q fun x F1 H1 v n1 A1 ⟨a, xs, e1, e2, e3, e4, e5, e6⟩ h1 => by
    subst e1
    exact h1 F1 H1 _ Nw.refl (A1.set ⟨a, xs, rfl, e2, e3, e4, e5⟩ fun _ b z => by cases z; exact e6.un)
/-- x op= e -/
def oAug (i : Nat) (p : Dn.D → Dn.D → R Dn.D) (d : En → R Dn.D) : En → Out := fun ρ => toO (dVar i ρ) ρ fun x => toO (d ρ) ρ fun y => toO (p x y) ρ fun z => .nx (ρ.set i (.fz z))
theorem toO_val {r : R α} {f : α → Out} {Q : β → Hp → Prop} (h : PostS cv W B F D (toO r ρ f)) (A0 : Ag cv B F H ρ σ)
    (k : ∀ a F' H' b, Nw B F F' → Ag cv B F' H' ρ σ → rel B F' H' ρ σ b a → PostS cv W B F' D (f a) → Q b H') : Post cv W rel B F ρ σ r Q := by
  cases r with
  | val a => exact fun F' H' b n A' r => k a F' H' b n A' r (PostS.nw h n)
  | exc c => exact fun F' H' n A' => h F' H' σ n A'
  | stk => exact h.elim
theorem ss_aug {i : Nat} {p : Dn.D → Dn.D → R Dn.D} {t : TE} {d : En → R Dn.D} {ti : TIp} (hr : RelOp cv W ti p) (h : SE cv W t d) : SS cv W (tAug i t ti) (oAug i p d) := fun B F H ρ σ D A q => by
  unfold oAug dVar at q
  cases e : ρ[i]? with
  | none => rw [e] at q; exact q.elim
  | some s =>
    rw [e] at q
    have ok := A.ok i s e
    cases s with
    | fz dx =>
      obtain ⟨v, e1, e2⟩ := ok
      exact ⟨v, sAt_some e1, h.bindS A q fun dy F1 H1 y n1 A1 e3 h1 => hr B F1 H1 ρ σ v y dx dy _ A1 (Dp.le n1.1 e2) e3 (toO_val h1 A1 fun z F2 H2 w n2 A2 e4 h2 =>
        h2 F2 H2 _ Nw.refl (A2.set ⟨w, rfl, e4⟩ fun z => by cases z))⟩
    | un => exact q.elim
    | ol _ => exact q.elim
    | od _ => exact q.elim
    | lk _ => exact q.elim

/-! ### what is walked -/
/-- J walks the data ds -/
structure ItOk (B F : Hp) (J : It) (ds : List Dn.D) : Prop where
  go : ∀ (i : Nat) (d : Dn.D) (F1 H1 : Hp), Le F F1 → Le F1 H1 → Le B H1 → ds[i]? = some d → J.go i H1 ∧ ∀ x H2, J.yld i H1 x H2 →
    ∃ F2, Le F1 F2 ∧ Le F2 H2 ∧ Le H1 H2 ∧ (∀ a o, F2 a = some o → F1 a = some o ∨ H1 a = none) ∧ (Sz F1 → Sz F2) ∧ Dp [] F2 x d
  stop : ∀ (i : Nat) (F1 H1 : Hp), Le F F1 → Le F1 H1 → Le B H1 → i = ds.length → J.stop i H1
  size : ds.length ≤ M
section
variable (K : PySem.W.Frag) (cv : Cv) (W : WX)
def PostI (B F : Hp) (ρ : En) (σ : St) (r : R (List Dn.D)) (Q : It → Hp → Prop) : Prop := Post cv W (fun B F _ _ _ J ds => ItOk B F J ds) B F ρ σ r Q
abbrev SI (t : TI) (d : En → R (List Dn.D)) : Prop := Sm cv W (fun B F _ _ _ J ds => ItOk B F J ds) t d
end
theorem ItOk.same {J : It} {ds : List Dn.D} (go : ∀ (i : Nat) (d : Dn.D) (F1 H1 : Hp), Le F F1 → Le F1 H1 → Le B H1 → ds[i]? = some d → J.go i H1 ∧ ∀ x H2, J.yld i H1 x H2 → H2 = H1 ∧ Dp [] F1 x d)
    (stop : ∀ (i : Nat) (F1 H1 : Hp), Le F F1 → Le F1 H1 → Le B H1 → i = ds.length → J.stop i H1) (size : ds.length ≤ M) : ItOk B F J ds where
  go := fun i d F1 H1 f s b e => ⟨(go i d F1 H1 f s b e).1, fun x H2 y => by
    obtain ⟨rfl, q⟩ := (go i d F1 H1 f s b e).2 x H2 y
    exact ⟨F1, fun _ _ h => h, s, fun _ _ h => h, fun _ _ h => .inl h, id, q⟩⟩
  stop := stop
  size := size
theorem Rd.sz (z : Sz F) {a : Addr} {u : HO} (h : Rd F a u) : SzO u := h.elim (fun e => z a u e) fun ⟨o, e⟩ => (z a (.frz o u) e : SzO (.frz o u))
theorem SqL.sz (z : Sz F) {a : Addr} {xs : List V} (h : SqL K F a xs) : xs.length ≤ M := by
  rcases h with h | ⟨o, its, n, e1, _, _, e2, e4, e3⟩
  · exact Rd.sz z h
  · rw [e3.length, Array.length_toList, ← line_M]; exact e4
theorem SqT.sz (z : Sz F) {a : Addr} {xs : List V} (h : SqT K F a xs) : xs.length ≤ M := by
  rcases h with h | ⟨o, its, n, e1, _, e2, e4, e3⟩
  · exact Rd.sz z h
  · rw [e3.length, Array.length_toList, ← line_M]; exact e4
theorem it_list {a : Addr} {xs : List V} {ds : List Dn.D} (h : SqL [] F a xs) (e : DpAll [] F xs ds) (z : Sz F) : ItOk B F (Itl K a) ds := .same
  (fun i d F1 H1 f s b e1 => by
    obtain ⟨v, e2, e3⟩ := DpAll.get e e1
    have q : SqL K H1 a xs := SqL.toK (SqL.le s (SqL.le f h))
    exact ⟨⟨xs, v, q, e2⟩, fun x H2 y => ⟨y.1, by
      have z := y.2 xs q
      rw [e2] at z
      rw [← Option.some.inj z]
      exact Dp.le f e3⟩⟩)
  (fun i F1 H1 f s b e1 => ⟨xs, SqL.toK (SqL.le s (SqL.le f h)), by rw [DpAll.length e, e1]; exact Nat.le_refl _⟩)
  (by rw [← DpAll.length e]; exact SqL.sz z h)
theorem it_tup {a : Addr} {xs : List V} {ds : List Dn.D} (h : SqT [] F a xs) (e : DpAll [] F xs ds) (z : Sz F) : ItOk B F (Itt K a) ds := .same
  (fun i d F1 H1 f s b e1 => by
    obtain ⟨v, e2, e3⟩ := DpAll.get e e1
    have q : SqT K H1 a xs := SqT.toK (SqT.le s (SqT.le f h))
    exact ⟨⟨xs, v, q, e2⟩, fun x H2 y => ⟨y.1, by
      have z := y.2 xs q
      rw [e2] at z
      rw [← Option.some.inj z]
      exact Dp.le f e3⟩⟩)
  (fun i F1 H1 f s b e1 => ⟨xs, SqT.toK (SqT.le s (SqT.le f h)), by rw [DpAll.length e, e1]; exact Nat.le_refl _⟩)
  (by rw [← DpAll.length e]; exact SqT.sz z h)
def asL : Dn.D → R (List Dn.D)
  | .list ds => .val ds
  | _ => .stk
def asT : Dn.D → R (List Dn.D)
  | .tuple ds => .val ds
  | _ => .stk
/-- the signs of a text -/
def signs (x : Str) : List Dn.D := x.cps.toList.map fun c => .str ⟨#[c]⟩
def asS : Dn.D → R (List Dn.D)
  | .str x => if x.cps.size ≤ M then .val (signs x) else .stk
  | _ => .stk
def dWk (f : Dn.D → R (List Dn.D)) (d : En → R Dn.D) : En → R (List Dn.D) := fun ρ => d ρ >>= f
theorem si_list {t : TE} {d : En → R Dn.D} (h : SE cv W t d) : SI cv W (iList K t) (dWk asL d) := fun B F H ρ σ Q A hq =>
  h.bind A hq fun x F1 H1 v n1 A1 e1 h1 => by
    cases e1 with
    | lst s a => exact ⟨_, rfl, ⟨_, SqL.sub A1 s⟩, h1 F1 H1 _ Nw.refl A1 (it_list s a A1.sz)⟩
    | non => exact h1.elim
    | bl _ => exact h1.elim
    | int _ => exact h1.elim
    | str _ => exact h1.elim
    | tup _ _ => exact h1.elim
theorem si_tup {t : TE} {d : En → R Dn.D} (h : SE cv W t d) : SI cv W (iTup K t) (dWk asT d) := fun B F H ρ σ Q A hq =>
  h.bind A hq fun x F1 H1 v n1 A1 e1 h1 => by
    cases e1 with
    | tup s a => exact ⟨_, rfl, ⟨_, SqT.sub A1 s⟩, h1 F1 H1 _ Nw.refl A1 (it_tup s a A1.sz)⟩
    | non => exact h1.elim
    | bl _ => exact h1.elim
    | int _ => exact h1.elim
    | str _ => exact h1.elim
    | lst _ _ => exact h1.elim
theorem signs_get {x : Str} {i : Nat} {d : Dn.D} (h : (signs x)[i]? = some d) : ∃ c, x.cps[i]? = some c ∧ d = .str ⟨#[c]⟩ := by
  unfold signs at h
  rw [List.getElem?_map, Array.getElem?_toList] at h
  cases e : x.cps[i]? with
  | none => rw [e] at h; cases h
  | some c => rw [e] at h; exact ⟨c, rfl, (Option.some.inj h).symm⟩
theorem signs_length {x : Str} : (signs x).length = x.cps.size := by
  unfold signs
  rw [List.length_map, Array.length_toList]
theorem si_str {t : TE} {d : En → R Dn.D} (h : SE cv W t d) : SI cv W (iStr t) (dWk asS d) := fun B F H ρ σ Q A hq =>
  h.bind A hq fun x F1 H1 v n1 A1 e1 h1 => by
    cases e1 with
    | str x =>
      replace h1 : PostI cv W B F1 ρ σ (if x.cps.size ≤ M then .val (signs x) else .stk) Q := h1
      by_cases hz : x.cps.size ≤ M
      rotate_left
      · rw [if_neg hz] at h1; exact h1.elim
      rw [if_pos hz] at h1
      refine ⟨x, rfl, h1 F1 H1 _ Nw.refl A1 (.same (fun i d F2 H2 f s b e => ?_) (fun i F2 H2 f s b e => ?_) (by rw [signs_length]; exact hz))⟩
      · obtain ⟨c, e2, rfl⟩ := signs_get e
        refine ⟨(Array.getElem?_eq_some_iff.mp e2).1, fun y H3 z => ⟨z.1, ?_⟩⟩
        obtain ⟨c', e3, rfl⟩ := z.2
        rw [e2] at e3
        cases e3
        exact .str _
      · rw [signs_length] at e
        exact Nat.le_of_eq e.symm
    | non => exact h1.elim
    | bl _ => exact h1.elim
    | int _ => exact h1.elim
    | tup _ _ => exact h1.elim
    | lst _ _ => exact h1.elim
/-- lo, lo + 1, .. (n of them) -/
def rng (lo : Int) (n : Nat) : List Dn.D := (List.range n).map fun (i : Nat) => .int (lo + (i : Int))
theorem rng_length {lo : Int} {n : Nat} : (rng lo n).length = n := by
  unfold rng
  rw [List.length_map, List.length_range]
theorem it_rng {lo : Int} {n : Nat} (hn : n ≤ M) : ItOk B F (Itr lo n) (rng lo n) := .same
  (fun i d F1 H1 f s b e => by
    unfold rng at e
    rw [List.getElem?_map] at e
    cases e2 : (List.range n)[i]? with
    | none => rw [e2] at e; cases e
    | some j =>
      rw [e2] at e
      obtain ⟨h1, h2⟩ := List.getElem?_eq_some_iff.mp e2
      rw [List.getElem_range] at h2
      rw [List.length_range] at h1
      refine ⟨h1, fun x H2 y => ⟨y.1, ?_⟩⟩
      rw [y.2, ← Option.some.inj e, h2]
      exact .int _)
  (fun i F1 H1 f s b e => by rw [rng_length] at e; exact Nat.le_of_eq e.symm)
  (by rw [rng_length]; exact hn)
def okR (i : Int) : Bool := decide (-1000000 ≤ i) && decide (i ≤ 1000000)
theorem okR_iff {i : Int} (h : okR i = true) : -(2 ^ 62) ≤ i ∧ i < 2 ^ 62 ∧ i ≤ 1000000 ∧ -1000000 ≤ i := by
  unfold okR at h
  rw [Bool.and_eq_true, decide_eq_true_iff, decide_eq_true_iff] at h
  omega
def pRng1 : List Dn.D → R (List Dn.D)
  | [.int j] => if okR j then .val (rng 0 j.toNat) else .stk
  | _ => .stk
def pRng2 : List Dn.D → R (List Dn.D)
  | [.int i, .int j] => if okR i && okR j then .val (rng i (j - i).toNat) else .stk
  | _ => .stk
def dApp {α : Type} (p : List Dn.D → R α) (ds : List (En → R Dn.D)) : En → R α := fun ρ => dArgs ds ρ >>= p
theorem si_rng1 {t : TA} {ds : List (En → R Dn.D)} (h : SA cv W t (dArgs ds)) : SI cv W (iRng1 t) (dApp pRng1 ds) := fun B F H ρ σ Q A hq =>
  h.bind A hq fun x F1 H1 v n1 A1 e1 h1 => by
    unfold pRng1 at h1
    split at h1
    · rename_i j
      split at h1
      · rename_i c
        obtain ⟨c1, c2, c5, c6⟩ := okR_iff c
        cases e1 with
        | cons a r =>
          cases r
          cases a
          exact ⟨j, rfl, c1, c2, h1 F1 H1 _ Nw.refl A1 (it_rng (by show _ ≤ 16777216; omega))⟩
      · exact h1.elim
    · exact h1.elim
theorem si_rng2 {t : TA} {ds : List (En → R Dn.D)} (h : SA cv W t (dArgs ds)) : SI cv W (iRng2 t) (dApp pRng2 ds) := fun B F H ρ σ Q A hq =>
  h.bind A hq fun x F1 H1 v n1 A1 e1 h1 => by
    unfold pRng2 at h1
    split at h1
    · rename_i i j
      split at h1
      · rename_i c
        rw [Bool.and_eq_true] at c
        obtain ⟨c1, c2, c5, c6⟩ := okR_iff c.1
        obtain ⟨c3, c4, c7, c8⟩ := okR_iff c.2
        cases e1 with
        | cons a r =>
          cases r with
          | cons a2 r =>
            cases r
            cases a
            cases a2
            exact ⟨i, j, rfl, ⟨c1, c2, c3, c4⟩, h1 F1 H1 _ Nw.refl A1 (it_rng (by show _ ≤ 16777216; omega))⟩
      · exact h1.elim
    · exact h1.elim

/-! ### for -/
def oTurns (b : Dn.D → En → Option En) (wp : List Nat) (body : En → Out) : List Dn.D → En → Out
  | [], ρ => .nx ρ
  | x :: r, ρ => match b x ρ with
    | none => .stk
    | some ρ1 => match body ρ1 with
      | .nx ρ2 => oTurns b wp body r (fgt wp ρ2)
      | .ct ρ2 => oTurns b wp body r (fgt wp ρ2)
      | .bk ρ2 => .nx ρ2
      | o => o
/-- wp: the slots that are forgotten behind each turn -/
def oFor (wp : List Nat) (di : En → R (List Dn.D)) (b : Dn.D → En → Option En) (body : En → Out) : En → Out := fun ρ => toO (di ρ) ρ fun ds => oTurns b wp body ds ρ
theorem ss_for {is : List Nat} {wi : TI} {g : TG} {tb : TS} {di : En → R (List Dn.D)} {b : Dn.D → En → Option En} {body : En → Out} (wp : List Nat) (hi : SI cv W wi di) (hg : SG cv is g b) (hb : SS cv W tb body) :
    SS cv W (tFor wi g tb) (oFor wp di b body) := fun B F H ρ σ D A q =>
  hi.bindS A q fun ds F0 H0 J n0 A0 io h0 => by
    refine ⟨fun i m σ1 H1 => ∃ F1 ρ1, Le F0 F1 ∧ Ag cv B F1 H1 ρ1 σ1 ∧ i + m = ds.length ∧ PostS cv W B F1 D (oTurns b wp body (ds.drop i) ρ1), ⟨ds.length, F0, ρ, fun _ _ h => h, A0, by omega, h0⟩, ?_⟩
    rintro i m σ1 H1 ⟨F1, ρ1, f1, A1, em, h1⟩
    by_cases hi : i < ds.length
    · right
      have e : ds[i]? = some ds[i] := List.getElem?_eq_getElem hi
      have ed : ds.drop i = ds[i] :: ds.drop (i + 1) := List.drop_eq_getElem_cons hi
      rw [ed] at h1
      unfold oTurns at h1
      obtain ⟨hgo, hy⟩ := io.go i ds[i] F1 H1 f1 A1.sub A1.prot e
      refine ⟨hgo, fun σ' H' => ∃ F2 ρ2, Le F0 F2 ∧ Ag cv B F2 H' ρ2 σ' ∧ PostS cv W B F2 D (oTurns b wp body (ds.drop (i + 1)) ρ2), fun σ' H' ⟨F2, ρ2, f2, A2, h2⟩ => ⟨m - 1, by omega, F2, ρ2, f2, A2, by omega, h2⟩, ?_⟩
      intro x H2 y
      obtain ⟨F2, f2, s2, l2, w2, z2, e2⟩ := hy x H2 y
      have A2 : Ag cv B F2 H2 ρ1 σ1 := A1.up f2 s2 l2 w2 (z2 A1.sz)
      have n2 : Nw B F1 F2 := A1.nw f2 w2
      cases eb : b ds[i] ρ1 with
      | none => rw [eb] at h1; exact h1.elim
      | some ρ3 =>
        rw [eb] at h1
        refine hg B F2 H2 ρ1 ρ3 σ1 x ds[i] _ A2 e2 eb fun F3 H3 σ3 n3 A3 _ => hb B F3 H3 ρ3 σ3 _ A3 ?_
        dsimp only at h1
        have f3 : Le F1 F3 := fun a o z => n3.1 a o (f2 a o z)
        replace n2 := n2.trans n3
        cases ebd : body ρ3 with
        | nx ρ4 =>
          rw [ebd] at h1
          exact fun F4 H4 σ4 n4 A4 => ⟨F4, fgt wp ρ4, fun a o z => n4.1 a o (f3 a o (f1 a o z)), A4.fgt, PostS.nw h1 (n2.trans n4)⟩
        | ct ρ4 =>
          rw [ebd] at h1
          exact fun F4 H4 σ4 n4 A4 => ⟨F4, fgt wp ρ4, fun a o z => n4.1 a o (f3 a o (f1 a o z)), A4.fgt, PostS.nw h1 (n2.trans n4)⟩
        | bk ρ4 =>
          rw [ebd] at h1
          exact fun F4 H4 σ4 n4 A4 => h1 F4 H4 σ4 (n2.trans n4) A4
        | rt d =>
          rw [ebd] at h1
          exact PostS.nw h1 n2
        | rd d =>
          rw [ebd] at h1
          exact PostS.nw h1 n2
        | xc c ρ4 =>
          rw [ebd] at h1
          exact PostS.nw h1 n2
        | stk =>
          rw [ebd] at h1
          exact h1.elim
    · left
      have ed : ds.drop i = [] := List.drop_eq_nil_of_le (by omega)
      rw [ed] at h1
      exact ⟨io.stop i F1 H1 f1 A1.sub A1.prot (by omega), h1 F1 H1 σ1 Nw.refl A1⟩

/-! ### while -/
/-- at most so many turns are told of -/
def oWh (wp : List Nat) (c : En → R Bool) (body : En → Out) : Nat → En → Out
  | 0, _ => .stk
  | n + 1, ρ => toO (c ρ) ρ fun k => if k then (match body ρ with
      | .nx ρ2 => oWh wp c body n (fgt wp ρ2)
      | .ct ρ2 => oWh wp c body n (fgt wp ρ2)
      | .bk ρ2 => .nx ρ2
      | o => o) else .nx ρ
theorem ss_while {c : TT} {tb : TS} {dc : En → R Bool} {body : En → Out} (wp : List Nat) (n : Nat) (hc : STt cv W c dc) (hb : SS cv W tb body) : SS cv W (tWhile c tb) (oWh wp dc body n) := fun B F H ρ σ D A q => by
  refine ⟨fun m σ1 H1 => ∃ F1 ρ1, Ag cv B F1 H1 ρ1 σ1 ∧ PostS cv W B F1 D (oWh wp dc body m ρ1), ⟨n, F, ρ, A, q⟩, ?_⟩
  rintro m σ1 H1 ⟨F1, ρ1, A1, h1⟩
  cases m with
  | zero => exact h1.elim
  | succ m =>
    unfold oWh at h1
    refine hc.bindS A1 h1 fun k F2 H2 v n2 A2 e2 h2 => ?_
    have e3 : v = k := e2
    subst e3
    cases v with
    | false =>
      rw [if_neg Bool.false_ne_true] at h2 ⊢
      exact h2 F2 H2 σ1 Nw.refl A2
    | true =>
      rw [if_pos rfl] at h2 ⊢
      refine ⟨fun σ' H' => ∃ F3 ρ3, Ag cv B F3 H' ρ3 σ' ∧ PostS cv W B F3 D (oWh wp dc body m ρ3), fun σ' H' ⟨F3, ρ3, A3, h3⟩ => ⟨m, Nat.lt_succ_self m, F3, ρ3, A3, h3⟩, hb B F2 H2 ρ1 σ1 _ A2 ?_⟩
      cases ebd : body ρ1 with
      | nx ρ4 =>
        rw [ebd] at h2
        exact fun F4 H4 σ4 n4 A4 => ⟨F4, fgt wp ρ4, A4.fgt, PostS.nw h2 n4⟩
      | ct ρ4 =>
        rw [ebd] at h2
        exact fun F4 H4 σ4 n4 A4 => ⟨F4, fgt wp ρ4, A4.fgt, PostS.nw h2 n4⟩
      | bk ρ4 =>
        rw [ebd] at h2
        exact h2
      | rt d => rw [ebd] at h2; exact h2
      | rd d => rw [ebd] at h2; exact h2
      | xc c ρ4 => rw [ebd] at h2; exact h2
      | stk => rw [ebd] at h2; exact h2.elim
end
end L2.Dn


set_option Elab.async false
set_option linter.all false
set_option maxRecDepth 100000
set_option maxHeartbeats 1000000
/-! Dn4: comprehensions, defs and their promises, refusals. -/
namespace L2.Dn
open PySem PySem.Spec PyProof.Rows
section
variable {K : PySem.W.Frag} {cv : Cv} {W : WX} {B B' F F' H H' : Hp} {ρ ρ' : En} {σ σ' : St} {D : Ends}

/-! ### comprehensions -/
/-- the slots vs are not told of -/
def wipeE (ρ : En) : List Nat → En
  | [] => ρ
  | v :: vs => (wipeE ρ vs).set v .un
theorem wipe_cons {v : Nat} {vs : List Nat} : L2.wipe σ (v :: vs) = (L2.wipe σ vs).set v none := rfl
theorem Ag.wipe : ∀ {vs : List Nat}, Ag cv B F H ρ σ → Ag cv B F H (wipeE ρ vs) (L2.wipe σ vs)
  | [], A => A
  | i :: r, A0 => by
    have A := Ag.wipe (vs := r) A0
    show Ag cv B F H ((wipeE ρ r).set i .un) ((L2.wipe σ r).set i none)
    refine ⟨A.sub, A.prot, A.nb, A.tabs, A.sz, by rw [List.length_set, List.length_set]; exact A.len, fun j s e => ?_, fun j k s t a e1 e2 o1 o2 z1 z2 => ?_⟩
    · rw [List.getElem?_set] at e
      split at e
      · split at e
        · cases e; trivial
        · cases e
      · rename_i hne
        have q : sAt ((L2.wipe σ r).set i none) j = sAt (L2.wipe σ r) j := by unfold sAt; rw [List.getElem?_set_ne hne]
        rw [q]
        exact A.ok j s e
    · have nn : ∀ {m : Nat} {u : Sl}, ((wipeE ρ r).set i .un)[m]? = some u → u.own = true → i ≠ m := fun {m u} e o z => by
        subst z
        rw [List.getElem?_set, if_pos rfl] at e
        split at e
        · cases e; cases o
        · cases e
      have hj := nn e1 o1
      have hk := nn e2 o2
      rw [List.getElem?_set_ne hj] at e1
      rw [List.getElem?_set_ne hk] at e2
      unfold sAt at z1 z2
      rw [List.getElem?_set_ne hj] at z1
      rw [List.getElem?_set_ne hk] at z2
      exact A.dj j k s t a e1 e2 o1 o2 z1 z2
theorem wipe_get : ∀ {vs : List Nat} {j : Nat}, j ∉ vs → (L2.wipe σ vs)[j]? = σ[j]?
  | [], _, _ => rfl
  | i :: r, j, h => by
    rw [wipe_cons, List.getElem?_set_ne (fun z => h (by rw [z]; exact List.mem_cons_self)), wipe_get (fun z => h (List.mem_cons_of_mem _ z))]
theorem wipeE_get : ∀ {vs : List Nat} {j : Nat}, j ∉ vs → (wipeE ρ vs)[j]? = ρ[j]?
  | [], _, _ => rfl
  | i :: r, j, h => by
    show ((wipeE ρ r).set i .un)[j]? = _
    rw [List.getElem?_set_ne (fun z => h (by rw [z]; exact List.mem_cons_self)), wipeE_get (fun z => h (List.mem_cons_of_mem _ z))]
theorem wipe_none : ∀ {vs : List Nat} {j : Nat}, j ∈ vs → j < σ.length → (L2.wipe σ vs)[j]? = some none
  | i :: r, j, h, hl => by
    rw [wipe_cons]
    by_cases e : i = j
    · subst e
      rw [List.getElem?_set_self (by rw [wipe_length]; exact hl)]
    · rw [List.getElem?_set_ne e]
      exact wipe_none ((List.mem_cons.mp h).resolve_left fun z => e z.symm) hl
/-- no owned thing at the slots vs -/
def noOwn (ρ : En) (vs : List Nat) : Bool := vs.all fun i => match ρ[i]? with
  | some s => !s.own
  | none => true
/-- the turns of a comprehension -/
def lcTurns (b : Dn.D → En → Option En) (c : En → R Bool) (e : En → R Dn.D) : List Dn.D → En → R (List Dn.D)
  | [], _ => .val []
  | x :: r, ρ => match b x ρ with
    | none => .stk
    | some ρ1 => (c ρ1).nox >>= fun k => if k then (e ρ1).nox >>= fun y => lcTurns b c e r ρ >>= fun ys => .val (y :: ys) else lcTurns b c e r ρ
def dLc (vs : List Nat) (di : En → R (List Dn.D)) (b : Dn.D → En → Option En) (c : En → R Bool) (e : En → R Dn.D) : En → R (List Dn.D) := fun ρ =>
  di ρ >>= fun ds => if noOwn ρ vs then lcTurns b c e ds (wipeE ρ vs) else .stk
def dYes : En → R Bool := fun _ => .val true
theorem st_yes : STt cv W tYes dYes := fun B F H ρ σ Q A hq => hq F H true Nw.refl A rfl
abbrev W0 : WX := fun _ _ _ _ => False
/-- the environment around a comprehension, behind a turn -/
theorem Ag.around {vs is : List Nat} {ρ1 : En} {σ1 : St} (A : Ag cv B F H ρ σ) (A1 : Ag cv B' F' H' ρ1 σ1) (n : Nw B' F F') (lB : Le B B') (g : Agr is (wipeE ρ vs) ρ1 (L2.wipe σ vs) σ1) (hs : ∀ i ∈ is, i ∈ vs) (no : noOwn ρ vs = true) : Ag cv B F' H' ρ σ where
  sub := A1.sub
  prot := fun a o e => A1.prot a o (lB a o e)
  nb := A.nb
  tabs := A1.tabs
  sz := A1.sz
  len := A.len
  ok := fun j s e => by
    have nB : ∀ a, B' a = none → B a = none := fun a z => by
      cases y : B a with
      | none => rfl
      | some u => rw [lB a u y] at z; cases z
    by_cases hj : j ∈ vs
    · have q := A.ok j s e
      have o : s.own = false := by
        have z := List.all_eq_true.mp no j hj
        rw [e] at z
        simpa using z
      cases s with
      | un => trivial
      | fz d => obtain ⟨v, e1, e2⟩ := q; exact ⟨v, e1, Dp.le n.1 e2⟩
      | ol ds => cases o
      | od ds => cases o
      | lk kvs =>
        obtain ⟨a, xs, u, e1, e2, e5⟩ := q
        exact ⟨a, xs, u, e1, n.1 _ _ e2, KVp.le n.1 e5⟩
    · have hji : j ∉ is := fun z => hj (hs j z)
      obtain ⟨g1, g2⟩ := g.2.2 j hji
      rw [wipeE_get hj] at g2
      rw [wipe_get hj] at g1
      have q := A1.ok j s (by rw [g2]; exact e)
      have es : sAt σ1 j = sAt σ j := by unfold sAt; rw [g1]
      rw [es] at q
      cases s with
      | un => trivial
      | fz d => exact q
      | ol ds => obtain ⟨e0, a, xs, e1, e2, e3, e4, e5⟩ := q; exact ⟨e0, a, xs, e1, e2, nB a e3, e4, e5⟩
      | od ds => obtain ⟨a, xs, e1, e2, e3, e4, e5⟩ := q; exact ⟨a, xs, e1, e2, nB a e3, e4, e5⟩
      | lk kvs =>
        obtain ⟨a, xs, o', e1, e2, e5⟩ := A.ok j _ e
        exact ⟨a, xs, o', e1, n.1 _ _ e2, KVp.le n.1 e5⟩
  dj := A.dj
/-- nobody's thing is changed -/
theorem Ag.updFree {a : Addr} {o u : HO} (A : Ag cv B F H ρ σ) (hF : F a = none) (hB : B a = none) (fr : Free a ρ σ) (hu : H a = some u) (nu : isTC u = false := by rfl) : Ag cv B F (upd H a o) ρ σ where
  sub := fun b u e => by rw [upd_ne (ne_of_none e hF)]; exact A.sub b u e
  prot := fun b u e => by rw [upd_ne (ne_of_none e hB)]; exact A.prot b u e
  nb := A.nb
  tabs := A.tabs.upd hu nu
  sz := A.sz
  len := A.len
  ok := fun j s e => by
    have q := A.ok j s e
    have f2 := fr j s e
    cases s with
    | un => trivial
    | fz d => exact q
    | ol ds => obtain ⟨e0, b, xs, e1, e2, e3, e4, e5⟩ := q; exact ⟨e0, b, xs, e1, e2, e3, by rw [upd_ne (fun z => f2 rfl (by rw [e1, z]))]; exact e4, e5⟩
    | od ds => obtain ⟨b, xs, e1, e2, e3, e4, e5⟩ := q; exact ⟨b, xs, e1, e2, e3, by rw [upd_ne (fun z => f2 rfl (by rw [e1, z]))]; exact e4, e5⟩
    | lk kvs => exact q
  dj := A.dj
/-- more is to stay: a thing that is nobody's -/
theorem Ag.moreB {a : Addr} {o : HO} (A : Ag cv B F H ρ σ) (hB : B a = none) (hH : H a = some o) (fr : Free a ρ σ) (no : isT o = false := by rfl) : Ag cv (upd B a o) F H ρ σ where
  sub := A.sub
  prot := fun b u e => by
    by_cases q : b = a
    · subst q; rw [upd_same] at e; rw [hH, Option.some.inj e]
    · rw [upd_ne q] at e; exact A.prot b u e
  nb := fun b u e => by
    by_cases q : b = a
    · subst q; rw [upd_same] at e; rw [← Option.some.inj e]; exact no
    · rw [upd_ne q] at e; exact A.nb b u e
  tabs := A.tabs
  sz := A.sz
  len := A.len
  ok := fun j s e => by
    have q := A.ok j s e
    have f2 := fr j s e
    cases s with
    | un => trivial
    | fz d => exact q
    | ol ds => obtain ⟨e0, b, xs, e1, e2, e3, e4, e5⟩ := q; exact ⟨e0, b, xs, e1, e2, by rw [upd_ne (fun z => f2 rfl (by rw [e1, z]))]; exact e3, e4, e5⟩
    | od ds => obtain ⟨b, xs, e1, e2, e3, e4, e5⟩ := q; exact ⟨b, xs, e1, e2, by rw [upd_ne (fun z => f2 rfl (by rw [e1, z]))]; exact e3, e4, e5⟩
    | lk kvs => exact q
  dj := A.dj
theorem nox_val {α : Type} {r : R α} {a : α} (h : r.nox = .val a) : r = .val a := by
  cases r with
  | val b => exact h
  | exc c => cases h
  | stk => cases h
theorem bind_val {α β : Type} {r : R α} {f : α → R β} {b : β} (h : (r >>= f) = .val b) : ∃ a, r = .val a ∧ f a = .val b := by
  cases r with
  | val a => exact ⟨a, rfl, h⟩
  | exc c => cases h
  | stk => cases h
theorem lcTurns_nox {b : Dn.D → En → Option En} {c : En → R Bool} {e : En → R Dn.D} : ∀ {ds : List Dn.D} {ρ : En} {x : Ex}, lcTurns b c e ds ρ ≠ .exc x
  | [], _, _, h => by cases h
  | x :: r, ρ, _, h => by
    unfold lcTurns at h
    cases e1 : b x ρ with
    | none => rw [e1] at h; cases h
    | some ρ1 =>
      rw [e1] at h
      dsimp only at h
      cases e2 : c ρ1 with
      | exc _ => rw [e2] at h; cases h
      | stk => rw [e2] at h; cases h
      | val k =>
        rw [e2] at h
        replace h : (if k then (e ρ1).nox >>= fun y => lcTurns b c e r ρ >>= fun ys => .val (y :: ys) else lcTurns b c e r ρ) = R.exc _ := h
        cases k with
        | false => exact lcTurns_nox h
        | true =>
          rw [if_pos rfl] at h
          cases e3 : e ρ1 with
          | exc _ => rw [e3] at h; cases h
          | stk => rw [e3] at h; cases h
          | val y =>
            rw [e3] at h
            replace h : (lcTurns b c e r ρ >>= fun ys => R.val (y :: ys)) = R.exc _ := h
            cases e4 : lcTurns b c e r ρ with
            | exc _ => exact lcTurns_nox e4
            | stk => rw [e4] at h; cases h
            | val ys => rw [e4] at h; cases h
theorem lcTurns_len {b : Dn.D → En → Option En} {c : En → R Bool} {e : En → R Dn.D} : ∀ {ds : List Dn.D} {ρ : En} {ys : List Dn.D}, lcTurns b c e ds ρ = .val ys → ys.length ≤ ds.length
  | [], _, _, h => by cases h; exact Nat.le_refl _
  | x :: r, ρ, ys, h => by
    unfold lcTurns at h
    cases e1 : b x ρ with
    | none => rw [e1] at h; cases h
    | some ρ1 =>
      rw [e1] at h
      obtain ⟨k, _, h⟩ := bind_val h
      cases k with
      | false => exact Nat.le_succ_of_le (lcTurns_len h)
      | true =>
        rw [if_pos rfl] at h
        obtain ⟨y, _, h⟩ := bind_val h
        obtain ⟨zs, h4, h⟩ := bind_val h
        cases h
        exact Nat.succ_le_succ (lcTurns_len h4)
theorem sl_lc {is vs : List Nat} {wi : TI} {g : TG} {tt : TT} {te : TE} {di : En → R (List Dn.D)} {b : Dn.D → En → Option En} {c : En → R Bool} {e : En → R Dn.D}
    (hi : SI cv W wi di) (hg : SG cv is g b) (hc : STt cv W0 tt c) (he : SE cv W0 te e) (hs : ∀ i ∈ is, i ∈ vs := by decide) : SL cv W (tLc wi g tt te vs) (dLc vs di b c e) := fun B F H ρ σ Q A hq =>
  hi.bind A hq fun ds F1 H1 J n1 A1 io h1 => by
    intro D hD
    replace h1 : Post cv W (relL) B F1 ρ σ (if noOwn ρ vs then lcTurns b c e ds (wipeE ρ vs) else .stk) Q := h1
    by_cases no : noOwn ρ vs = true
    rotate_left
    · rw [if_neg no] at h1; exact h1.elim
    rw [if_pos no] at h1
    cases et : lcTurns b c e ds (wipeE ρ vs) with
    | exc x => exact absurd et lcTurns_nox
    | stk => rw [et] at h1; exact h1.elim
    | val tot =>
      rw [et] at h1
      obtain ⟨A2, hF, hB⟩ := A1.loose (.lst []) hD
      have fr : Free D ρ σ := free_new A1 hD
      have htot : tot.length ≤ M := Nat.le_trans (lcTurns_len et) io.size
      refine ⟨fun i m H2 => ∃ F2 acc dacc ys, Nw B F1 F2 ∧ Ag cv B F2 H2 ρ σ ∧ F2 D = none ∧ H2 D = some (.lst acc) ∧ DpAll [] F2 acc dacc ∧ i + m = ds.length ∧ lcTurns b c e (ds.drop i) (wipeE ρ vs) = .val ys ∧ dacc ++ ys = tot,
        ⟨ds.length, F1, [], [], tot, Nw.refl, A2, hF, upd_same, .nil, by omega, et, rfl⟩, ?_⟩
      rintro i m H2 ⟨F2, acc, dacc, ys, n2, A3, f3, h3, d3, em, et2, ey⟩
      by_cases hl : i < ds.length
      · right
        have eg : ds[i]? = some ds[i] := List.getElem?_eq_getElem hl
        have ed : ds.drop i = ds[i] :: ds.drop (i + 1) := List.drop_eq_getElem_cons hl
        rw [ed] at et2
        unfold lcTurns at et2
        have A3' : Ag cv (upd B D (.lst acc)) F2 H2 ρ σ := A3.moreB hB h3 fr
        have lB : Le B (upd B D (.lst acc)) := le_upd hB
        obtain ⟨hgo, hy⟩ := io.go i ds[i] F2 H2 n2.1 A3.sub A3.prot eg
        refine ⟨hgo, fun H' => ∃ F2 acc dacc ys, Nw B F1 F2 ∧ Ag cv B F2 H' ρ σ ∧ F2 D = none ∧ H' D = some (.lst acc) ∧ DpAll [] F2 acc dacc ∧ lcTurns b c e (ds.drop (i + 1)) (wipeE ρ vs) = .val ys ∧ dacc ++ ys = tot,
          fun H' ⟨F2, acc, dacc, ys, a1, a2, a3, a4, a5, a6, a7⟩ => ⟨m - 1, by omega, F2, acc, dacc, ys, a1, a2, a3, a4, a5, by omega, a6, a7⟩, ?_⟩
        intro x H4 y
        obtain ⟨F4, f4, s4, l4, w4, z4, e4⟩ := hy x H4 y
        have A4 : Ag cv (upd B D (.lst acc)) F4 H4 ρ σ := A3'.up f4 s4 l4 w4 (z4 A3.sz)
        have n4 : Nw (upd B D (.lst acc)) F2 F4 := A3'.nw f4 w4
        cases eb : b ds[i] (wipeE ρ vs) with
        | none => rw [eb] at et2; cases et2
        | some ρ5 =>
          rw [eb] at et2
          obtain ⟨k, ek, et3⟩ := bind_val et2
          refine hg (upd B D (.lst acc)) F4 H4 (wipeE ρ vs) ρ5 (L2.wipe σ vs) x ds[i] _ A4.wipe e4 eb fun F5 H5 σ5 n5 A5 g5 => ⟨?_, ?_⟩
          · refine List.ext_getElem? fun j => ?_
            by_cases hj : j ∈ vs
            · by_cases hjl : j < σ.length
              · rw [wipe_none hj (by rw [g5.1, wipe_length]; exact hjl), wipe_none hj hjl]
              · rw [List.getElem?_eq_none (by rw [wipe_length, g5.1, wipe_length]; omega), List.getElem?_eq_none (by rw [wipe_length]; omega)]
            · rw [wipe_get hj, wipe_get hj, (g5.2.2 j fun z => hj (hs j z)).1, wipe_get hj]
          · have finish : ∀ {F6 H6 : Hp}, Nw (upd B D (.lst acc)) F4 F6 → Ag cv (upd B D (.lst acc)) F6 H6 ρ5 σ5 → Nw B F1 F6 ∧ Ag cv B F6 H6 ρ σ ∧ F6 D = none ∧ H6 D = some (.lst acc) ∧ DpAll [] F6 acc dacc := fun {F6 H6} n6 A6 => by
              have n26 := n4.trans n6
              have nB : Nw B F2 F6 := ⟨n26.1, fun a o z => (n26.2 a o z).imp id fun w => by
                by_cases q : a = D
                · subst q; exact hB
                · rw [upd_ne q] at w; exact w⟩
              refine ⟨n2.trans nB, A3.around A6 n26 lB g5 hs no, ?_, A6.prot D _ upd_same, DpAll.le n26.1 d3⟩
              cases z : F6 D with
              | none => rfl
              | some o =>
                rcases n26.2 D o z with w | w
                · rw [f3] at w; cases w
                · rw [upd_same] at w; cases w
            refine hc (upd B D (.lst acc)) F5 H5 ρ5 σ5 _ A5 ?_
            rw [nox_val ek]
            intro F6 H6 k' n6 A6 e6
            have e7 : k' = k := e6
            subst e7
            cases k' with
            | false =>
              rw [if_neg Bool.false_ne_true] at et3 ⊢
              obtain ⟨a1, a2, a3, a4, a5⟩ := finish (n5.trans n6) A6
              exact ⟨F6, acc, dacc, ys, a1, a2, a3, a4, a5, et3, ey⟩
            | true =>
              rw [if_pos rfl] at et3 ⊢
              obtain ⟨yd, e8, et4⟩ := bind_val et3
              obtain ⟨zs, e9, et5⟩ := bind_val et4
              cases et5
              refine he (upd B D (.lst acc)) F6 H6 ρ5 σ5 _ A6 ?_
              rw [nox_val e8]
              intro F7 H7 yv n7 A7 e10
              obtain ⟨a1, a2, a3, a4, a5⟩ := finish ((n5.trans n6).trans n7) A7
              have hlen : acc.length < M := by
                have q : (dacc ++ yd :: zs).length ≤ M := by rw [ey]; exact htot
                rw [List.length_append, List.length_cons] at q
                rw [DpAll.length d3]
                omega
              exact ⟨acc, a4, M_line' hlen, F7, acc ++ [yv], dacc ++ [yd], zs, a1, a2.updFree a3 hB fr a4, a3, upd_same, DpAll.snoc a5 e10, e9, by rw [List.append_assoc]; exact ey⟩
      · left
        have ed : ds.drop i = [] := List.drop_eq_nil_of_le (by omega)
        rw [ed] at et2
        cases et2
        rw [List.append_nil] at ey
        subst ey
        exact ⟨io.stop i F2 H2 n2.1 A3.sub A3.prot (by omega), h1 F2 H2 _ n2 A3 ⟨htot, D, acc, rfl, f3, hB, h3, d3, fr⟩⟩

/-! ### defs -/
section
variable (K cv)
/-- what a def of the worth d promises -/
def PostF (F H : Hp) (r : R Dn.D) (Q : VK) (E : XK) : Prop :=
  match r with
  | .val d => ∀ F' H' v, Le F F' → Le F' H' → Le (noT H) H' → (∀ a o, F' a = some o → F a = some o ∨ noT H a = none) → Sz F' → TabAll cv.T H' → Dp [] F' v d → Q v H'
  | .exc c => ∀ H', Le (noT H) H' → TabAll cv.T H' → E (cv c) none H'
  | .stk => False
def spD (n : Nat) (d : List Dn.D → R Dn.D) : Sp := fun vs H Q E => vs.length = n ∧ ∃ F ds, Le F H ∧ Sz F ∧ TabAll cv.T H ∧ DpAll [] F vs ds ∧ PostF cv F H (d ds) Q E
/-- .. whose worth is a dict -/
def PostFK (F H : Hp) (r : R (List (Key × Dn.D))) (Q : VK) (E : XK) : Prop :=
  match r with
  | .val kvs => ∀ F' H' a ks, Le F F' → Le F' H' → Le (noT H) H' → (∀ a o, F' a = some o → F a = some o ∨ noT H a = none) → Sz F' → TabAll cv.T H' → F' a = none → noT H a = none → H' a = some (.dK ks) → KVp F' ks kvs → Q (.ref a) H'
  | .exc c => ∀ H', Le (noT H) H' → TabAll cv.T H' → E (cv c) none H'
  | .stk => False
def spK (n : Nat) (d : List Dn.D → R (List (Key × Dn.D))) : Sp := fun vs H Q E => vs.length = n ∧ ∃ F ds, Le F H ∧ Sz F ∧ TabAll cv.T H ∧ DpAll [] F vs ds ∧ PostFK cv F H (d ds) Q E
end
/-- the data stay behind a call -/
theorem Ag.still (A : Ag cv B F H ρ σ) (l : Le (noT H) H') (tb : TabAll cv.T H') : Ag cv B F H' ρ σ :=
  A.upN (fun _ _ e => e) (fun a o e => l a o (noT_in (A.sub a o e) (SzO.noT (A.sz a o e)))) l tb (fun _ _ e => .inl e) A.sz
theorem free_newN (A : Ag cv B F H ρ σ) {p : Addr} (h : noT H p = none) : Free p ρ σ := fun i s e o z => by
  have q := A.ok i s e
  cases s with
  | ol ds =>
    obtain ⟨_, a, xs, e1, _, _, e4, _⟩ := q
    rw [e1] at z
    have e5 : a = p := V.ref.inj (Option.some.inj z)
    rw [e5] at e4
    rw [noT_in e4 rfl] at h
    cases h
  | od ds =>
    obtain ⟨a, xs, e1, _, _, e4, _⟩ := q
    rw [e1] at z
    have e5 : a = p := V.ref.inj (Option.some.inj z)
    rw [e5] at e4
    rw [noT_in e4 rfl] at h
    cases h
  | un => cases o
  | fz _ => cases o
  | lk _ => cases o
/-- a call -/
theorem se_call {n : Nat} {d : List Dn.D → R Dn.D} {t : TA} {ds : List (En → R Dn.D)} (h : SA cv W t (dArgs ds)) (hn : ds.length = n := by rfl) : SE cv W (tCallS (spD cv n d) (WE W) t) (dApp d ds) := fun B F H ρ σ Q A hq =>
  Post.args h A hq fun a F1 H1 vs hl n1 A1 e1 h1 => by
    refine ⟨(DpAll.length e1).trans (hl.trans hn), F1, a, A1.sub, A1.sz, A1.tabs, e1, ?_⟩
    cases e : d a with
    | val x =>
      rw [e] at h1
      exact fun F' H' v f s l w z tb e2 => h1 F' H' v (A1.nwN f w) (A1.upN f s l tb w z) e2
    | exc c =>
      rw [e] at h1
      exact fun H' l tb => h1 F1 H' Nw.refl (A1.still l tb)
    | stk => rw [e] at h1; exact h1
theorem sk_call {n : Nat} {d : List Dn.D → R (List (Key × Dn.D))} {t : TA} {ds : List (En → R Dn.D)} (h : SA cv W t (dArgs ds)) (hn : ds.length = n := by rfl) : SK cv W (tCallS (spK cv n d) (WE W) t) (dApp d ds) := fun B F H ρ σ Q A hq =>
  Post.args h A hq fun a F1 H1 vs hl n1 A1 e1 h1 => by
    refine ⟨(DpAll.length e1).trans (hl.trans hn), F1, a, A1.sub, A1.sz, A1.tabs, e1, ?_⟩
    cases e : d a with
    | val x =>
      rw [e] at h1
      refine fun F' H' v ks f s l w z tb e2 e3 e4 e5 => h1 F' H' _ (A1.nwN f w) (A1.upN f s l tb w z) ⟨v, ks, rfl, e2, ?_, e4, e5, free_newN A1 e3⟩
      cases z : B v with
      | none => rfl
      | some u => rw [noT_in (A1.prot v u z) (A1.nb v u z)] at e3; cases e3
    | exc c =>
      rw [e] at h1
      exact fun H' l tb => h1 F1 H' Nw.refl (A1.still l tb)
    | stk => rw [e] at h1; exact h1

def fin : Out → R Dn.D
  | .nx _ => .val .none
  | .rt d => .val d
  | .xc c _ => .exc c
  | _ => .stk
def finK : Out → R (List (Key × Dn.D))
  | .rd d => .val d
  | .xc c _ => .exc c
  | _ => .stk
/-- the environment at a def's entry: N names in all -/
def ent (N : Nat) (ds : List Dn.D) : En := ds.map Sl.fz ++ List.replicate (N - ds.length) Sl.un
def dDef (N : Nat) (o : En → Out) : List Dn.D → R Dn.D := fun ds => fin (o (ent N ds))
def dDefK (N : Nat) (o : En → Out) : List Dn.D → R (List (Key × Dn.D)) := fun ds => finK (o (ent N ds))
theorem Ag.entry {N : List Str} {vs : List V} {ds : List Dn.D} (s : Le F H) (z : Sz F) (tb : TabAll cv.T H) (e : DpAll [] F vs ds) (hn : vs.length ≤ N.length) : Ag cv (noT H) F H (ent N.length ds) (start N vs) where
  sub := s
  prot := fun _ _ h => (noT_of h).1
  nb := fun _ _ h => (noT_of h).2
  tabs := tb
  sz := z
  len := by
    unfold ent start
    rw [List.length_append, List.length_append, List.length_map, List.length_map, List.length_replicate, List.length_replicate, DpAll.length e]
  ok := fun i t h => by
    unfold ent at h
    by_cases hi : i < ds.length
    · rw [List.getElem?_append_left (by rw [List.length_map]; exact hi), List.getElem?_map, List.getElem?_eq_getElem hi] at h
      have e2 : Sl.fz ds[i] = t := Option.some.inj h
      subst e2
      obtain ⟨v, e3, e4⟩ := DpAll.get e (List.getElem?_eq_getElem hi)
      refine ⟨v, ?_, e4⟩
      unfold sAt start
      rw [List.getElem?_append_left (by rw [List.length_map, DpAll.length e]; exact hi), List.getElem?_map, e3]
      rfl
    · rw [List.getElem?_append_right (by rw [List.length_map]; omega), List.getElem?_replicate] at h
      split at h
      · cases h; trivial
      · cases h
  dj := fun i j s t a h _ o => by
    unfold ent at h
    by_cases hi : i < ds.length
    · rw [List.getElem?_append_left (by rw [List.length_map]; exact hi), List.getElem?_map, List.getElem?_eq_getElem hi] at h
      cases h
      cases o
    · rw [List.getElem?_append_right (by rw [List.length_map]; omega), List.getElem?_replicate] at h
      split at h
      · cases h; cases o
      · cases h
/-- the wish of a def's body -/
abbrev WD (E : XK) : WX := fun cls d _ H => E cls d H
theorem body_of {N : List Str} {n : Nat} {t : TS} {o : En → Out} {vs : List V} {Q : VK} {E : XK} (hb : SS cv (WD E) t o) (h : spD cv n (dDef N.length o) vs H Q E) (hn : n ≤ N.length := by decide) : t { nx := fun _ H' => Q .non H', rt := Q } (start N vs) H := by
  obtain ⟨hl, F, ds, s, z, tb, e, q⟩ := h
  have A := Ag.entry (N := N) s z tb e (by rw [hl]; exact hn)
  refine hb (noT H) F H _ _ _ A ?_
  unfold dDef at q
  cases eo : o (ent N.length ds) with
  | nx ρ' =>
    rw [eo] at q
    exact fun F' H' σ' n A' => q F' H' .non n.1 A'.sub A'.prot n.2 A'.sz A'.tabs .non
  | rt d =>
    rw [eo] at q
    exact fun F' H' v n s l z tb e => q F' H' v n.1 s l n.2 z tb e
  | xc c ρ' =>
    rw [eo] at q
    exact fun F' H' σ' n A' => q H' A'.prot A'.tabs
  | bk _ => rw [eo] at q; exact q.elim
  | ct _ => rw [eo] at q; exact q.elim
  | rd _ => rw [eo] at q; exact q.elim
  | stk => rw [eo] at q; exact q.elim
end
end L2.Dn


set_option Elab.async false
set_option linter.all false
set_option maxRecDepth 100000
set_option maxHeartbeats 1000000
/-! Dn5: operators, comparisons, items, slices. -/
namespace L2.Dn
open PySem PySem.Spec PyProof.Rows

/-! ### rules of HandS' kind -/
section
variable {X : Cx}
theorem rd_lst {pins : List (Addr × Obj)} {σ : St} {H : Hp} {s : Shared} {l : Addr} {xs : List V} (I : Inv X pins σ H s) (h : Rd H l (.lst xs)) :
    xs.length ≤ sizeLine ∧ ∃ (its : List Value) (n : Nat), Vals xs its ∧ xs.length = its.length ∧ s.heap.get? l = some { cls := .type "list", data := .seq its.toArray n } := by
  obtain ⟨z, its, n, r, e⟩ := h.ok I.hok
  exact ⟨z, its, n, r, r.length, e⟩
def rCatR : R2 := fun x y H Q => ∃ l b xs zs, x = .ref l ∧ y = .ref b ∧ Rd H l (.lst xs) ∧ Rd H b (.lst zs) ∧ xs.length + zs.length ≤ sizeLine ∧ ∀ p, H p = none → Q (.ref p) (upd H p (.lst (xs ++ zs)))
theorem op_catR : OpR X (binaryOp .Add) rCatR := by
  intro pins s σ H x y v u Q I rx ry h
  obtain ⟨l, b, xs, zs, rfl, rfl, hH, hB, hz, q⟩ := h
  cases rx
  cases ry
  obtain ⟨z, its, n, r, hl, e⟩ := rd_lst I hH
  obtain ⟨z2, its2, n2, r2, hl2, e2⟩ := rd_lst I hB
  refine PySem.P.add_list e e2 ?_ (by rw [List.size_toArray, List.size_toArray]; omega)
  have ea : its.toArray ++ its2.toArray = (its ++ its2).toArray := by simp
  rw [ea]
  exact ⟨.ref _, _, I.lnew (t' := s.toks) (r.append r2) (by rw [List.length_append]; omega), rfl, q _ I.fresh⟩
def rInTD (K : PySem.W.Frag) (neg : Bool) : R2 := fun x y H Q => ∃ d ds, Dp K H x d ∧ Dp K H y (.tuple ds) ∧ SeqAt.shaped d = true ∧ SeqAt.shaped (.tuple ds) = true ∧ Q (.bl (if neg then !(ds.any fun z => PyData.eqv z d) else ds.any fun z => PyData.eqv z d)) H
theorem op_inTD (hu : X.A.units + 65 < cLine) : OpR X (compareOp .In) (rInTD X.K false) := by
  intro pins s σ H x y v u Q I rx ry h
  obtain ⟨d, ds, hd, he, sd, se, q⟩ := h
  obtain ⟨as, r1⟩ := Dp.reads I d x v hd rx
  obtain ⟨bs, r2⟩ := Dp.reads I (.tuple ds) y u he ry
  have c1 : (PyData.tuple ds).canLay0 = true := SeqAt.canLay_of_shaped se
  exact SeqAt.in_tuple_reads r2 r1 (by simpa [PyData.canLay0] using c1) (SeqAt.canLay_of_shaped sd) (room_in_shaped sd hu) ⟨.bl _, H, I, rfl, q⟩
theorem op_notInTD (hu : X.A.units + 65 < cLine) : OpR X (compareOp .NotIn) (rInTD X.K true) := by
  intro pins s σ H x y v u Q I rx ry h
  obtain ⟨d, ds, hd, he, sd, se, q⟩ := h
  obtain ⟨as, r1⟩ := Dp.reads I d x v hd rx
  obtain ⟨bs, r2⟩ := Dp.reads I (.tuple ds) y u he ry
  have c1 : (PyData.tuple ds).canLay0 = true := SeqAt.canLay_of_shaped se
  exact SeqAt.notIn_tuple_reads r2 r1 (by simpa [PyData.canLay0] using c1) (SeqAt.canLay_of_shaped sd) (room_in_shaped sd hu) ⟨.bl _, H, I, rfl, q⟩
end

section
variable {K : PySem.W.Frag} {cv : Cv} {W : WX} {B F F' H H' : Hp} {ρ : En} {σ : St}
theorem Dp.toK {v : V} {d : D} (h : Dp [] F v d) : Dp K F v d := by
  have key : (∀ {v : V} {d : D}, Dp [] F v d → Dp K F v d) ∧ (∀ {vs : List V} {ds : List D}, DpAll [] F vs ds → DpAll K F vs ds) := by
    constructor
    · intro v d h
      exact Dp.rec (K := []) (H := F) (motive_1 := fun v d _ => Dp K F v d) (motive_2 := fun vs ds _ => DpAll K F vs ds) .non .bl .int .str (fun s _ ih => .lst (SqL.toK s) ih) (fun s _ ih => .tup (SqT.toK s) ih) .nil (fun _ _ a b => .cons a b) h
    · intro vs ds h
      exact DpAll.rec (K := []) (H := F) (motive_1 := fun v d _ => Dp K F v d) (motive_2 := fun vs ds _ => DpAll K F vs ds) .non .bl .int .str (fun s _ ih => .lst (SqL.toK s) ih) (fun s _ ih => .tup (SqT.toK s) ih) .nil (fun _ _ a b => .cons a b) h
  exact key.1 h
theorem Dp.sub (A : Ag cv B F H ρ σ) {v : V} {d : D} (h : Dp [] F v d) : Dp K H v d := Dp.toK (Dp.le A.sub h)
/-- a pure answer -/
theorem Post.ret {Q : VK} {d : D} {v : V} (h : Post cv W relD B F ρ σ (.val d) Q) (A : Ag cv B F H ρ σ) (e : Dp [] F v d) : Q v H := h F H v Nw.refl A e
/-- a new list, a new tuple as an answer -/
theorem Post.newL {Q : VK} {ds : List D} {xs : List V} {p : Addr} (h : Post cv W relD B F ρ σ (.val (.list ds)) Q) (A : Ag cv B F H ρ σ) (e : DpAll [] F xs ds) (hp : H p = none) (hz : xs.length ≤ M) : Q (.ref p) (upd H p (.lst xs)) := by
  obtain ⟨A2, n2, hF⟩ := A.new (.lst xs) hp hz
  exact h _ _ _ n2 A2 (.lst (.inl (.inl upd_same)) (DpAll.le (le_upd hF) e))
theorem Post.newT {Q : VK} {ds : List D} {xs : List V} {p : Addr} (h : Post cv W relD B F ρ σ (.val (.tuple ds)) Q) (A : Ag cv B F H ρ σ) (e : DpAll [] F xs ds) (hp : H p = none) (hz : xs.length ≤ M) : Q (.ref p) (upd H p (.tup xs)) := by
  obtain ⟨A2, n2, hF⟩ := A.new (.tup xs) hp hz
  exact h _ _ _ n2 A2 (.tup (.inl (.inl upd_same)) (DpAll.le (le_upd hF) e))
theorem RelOp.or {r r' : R2} {p p' : D → D → R D} (q : D → D → R D) (h : RelOp cv W r p) (h' : RelOp cv W r' p') (hq : ∀ x y, q x y = p x y ∨ q x y = p' x y) : RelOp cv W (fun x y H Q => r x y H Q ∨ r' x y H Q) q := fun B F H ρ σ x y dx dy Q A e1 e2 hp => by
  rcases hq dx dy with z | z
  · rw [z] at hp; exact .inl (h B F H ρ σ x y dx dy Q A e1 e2 hp)
  · rw [z] at hp; exact .inr (h' B F H ρ σ x y dx dy Q A e1 e2 hp)

/-! ### arithmetic -/
def pII (g : Int → Int → R D) : D → D → R D
  | .int i, .int j => g i j
  | _, _ => .stk
theorem ro_II {r : R2} {g : Int → Int → R D} (h : ∀ (B F H : Hp) (ρ : En) (σ : St) (i j : Int) (Q : VK), Ag cv B F H ρ σ → Post cv W relD B F ρ σ (g i j) Q → r (.int i) (.int j) H Q) : RelOp cv W r (pII g) := fun B F H ρ σ x y dx dy Q A e1 e2 hp => by
  unfold pII at hp
  split at hp
  · cases e1; cases e2
    exact h B F H ρ σ _ _ Q A hp
  · exact hp.elim
theorem ro_rI0 {g : Int → Int → V} {g' : Int → Int → D} (h : ∀ F i j, Dp [] F (g i j) (g' i j)) : RelOp cv W (rI0 g) (pII fun i j => .val (g' i j)) := ro_II fun B F H ρ σ i j Q A hp => ⟨i, j, rfl, rfl, hp.ret A (h F i j)⟩
theorem ro_rI {C : Int → Int → Prop} {c : Int → Int → Bool} {g : Int → Int → V} {g' : Int → Int → D} (hc : ∀ i j, c i j = true → C i j) (h : ∀ F i j, Dp [] F (g i j) (g' i j)) :
    RelOp cv W (rI C g) (pII fun i j => if c i j then .val (g' i j) else .stk) := ro_II fun B F H ρ σ i j Q A hp => by
  split at hp
  · rename_i z
    exact ⟨i, j, rfl, rfl, hc i j z, hp.ret A (h F i j)⟩
  · exact hp.elim
def pSub : D → D → R D := pII fun i j => .val (.int (i - j))
theorem ro_sub : RelOp cv W (rI0 fun i j => .int (i - j)) pSub := ro_rI0 fun _ _ _ => .int _
def pDiv : D → D → R D := pII fun i j => if decide (0 < j) && decide (j < 1073741824) then .val (.int (i / j)) else .stk
theorem ro_div : RelOp cv W (rI CDiv fun i j => .int (i / j)) pDiv := ro_rI (fun i j z => by
  rw [Bool.and_eq_true, decide_eq_true_iff, decide_eq_true_iff] at z
  exact z) fun _ _ _ => .int _
def pMod : D → D → R D := pII fun i j => if decide (0 < j) then .val (.int (i % j)) else .stk
theorem ro_mod : RelOp cv W (rI (fun _ j => 0 < j) fun i j => .int (i % j)) pMod := ro_rI (fun i j z => of_decide_eq_true z) fun _ _ _ => .int _
def pPow : D → D → R D := pII fun i j => if decide (0 ≤ j) && decide (j ≤ 1000) && decide (i.natAbs < 18446744073709551616) then .val (.int (i ^ j.toNat)) else .stk
theorem ro_pow : RelOp cv W (rI CPow fun i j => .int (i ^ j.toNat)) pPow := ro_rI (fun i j z => by
  rw [Bool.and_eq_true, Bool.and_eq_true, decide_eq_true_iff, decide_eq_true_iff, decide_eq_true_iff] at z
  exact ⟨z.1.1, by omega, z.2⟩) fun _ _ _ => .int _
def pXor : D → D → R D := pII fun i j => .val (.int (Builtin.bitXor i j))
theorem ro_xor : RelOp cv W (rI0 fun i j => .int (Builtin.bitXor i j)) pXor := ro_rI0 fun _ _ _ => .int _
def pNeg : D → R D
  | .int i => .val (.int (-i))
  | _ => .stk
theorem ru_neg : RelUn cv W (rU fun i => .int (-i)) pNeg := fun B F H ρ σ x dx Q A e hp => by
  unfold pNeg at hp
  split at hp
  · cases e
    exact ⟨_, rfl, hp.ret A (.int _)⟩
  · exact hp.elim
/-- + : ints, texts, lists, tuples -/
def rPlus (K : PySem.W.Frag) : R2 := fun x y H Q => rI0 (fun i j => .int (i + j)) x y H Q ∨ (∃ i j, x = .str i ∧ y = .str j ∧ i.length + j.length ≤ sizeLine ∧ Q (.str (i ++ j)) H) ∨ rCatR x y H Q ∨ rCatA K x y H Q
theorem op_plus {X : Cx} : OpR X (binaryOp .Add) (rPlus X.K) := OpR.or op_add (OpR.or op_add_str (OpR.or op_catR op_catA))
def pPlus : D → D → R D
  | .int i, .int j => .val (.int (i + j))
  | .str x, .str y => if x.length + y.length ≤ M then .val (.str (x ++ y)) else .stk
  | .list xs, .list ys => if xs.length + ys.length ≤ M then .val (.list (xs ++ ys)) else .stk
  | .tuple xs, .tuple ys => if xs.length + ys.length ≤ M then .val (.tuple (xs ++ ys)) else .stk
  | _, _ => .stk
theorem ro_plus : RelOp cv W (rPlus K) pPlus := fun B F H ρ σ x y dx dy Q A e1 e2 hp => by
  unfold pPlus at hp
  split at hp
  · cases e1; cases e2
    exact .inl ⟨_, _, rfl, rfl, hp.ret A (.int _)⟩
  · split at hp
    · rename_i hz
      cases e1; cases e2
      exact .inr (.inl ⟨_, _, rfl, rfl, M_line hz, hp.ret A (.str _)⟩)
    · exact hp.elim
  · split at hp
    · rename_i hz
      cases e1 with
      | lst s1 a1 =>
        cases e2 with
        | lst s2 a2 =>
          rw [← DpAll.length a1, ← DpAll.length a2] at hz
          exact .inr (.inr (.inl ⟨_, _, _, _, rfl, rfl, Rd.le A.sub (SqL.rd s1), Rd.le A.sub (SqL.rd s2), M_line hz, fun p hpn => hp.newL A (DpAll.append a1 a2) hpn (by rw [List.length_append]; exact hz)⟩))
    · exact hp.elim
  · split at hp
    · rename_i hz
      cases e1 with
      | tup s1 a1 =>
        cases e2 with
        | tup s2 a2 =>
          rw [← DpAll.length a1, ← DpAll.length a2] at hz
          refine .inr (.inr (.inr ⟨_, _, _, _, rfl, rfl, SqT.sub A s1, SqT.sub A s2, M_line hz, fun z => ?_, fun z1 z2 => ?_, fun z1 z2 p hpn => hp.newT A (DpAll.append a1 a2) hpn (by rw [List.length_append]; exact hz)⟩))
          · subst z
            cases a1
            exact hp.ret A (.tup s2 a2)
          · subst z2
            cases a2
            rw [List.append_nil] at hp
            exact hp.ret A (.tup s1 a1)
    · exact hp.elim
  · exact hp.elim
/-- list + list, for a name that is changed later -/
def dCat (a b : En → R D) : En → R (List D) := fun ρ => a ρ >>= fun x => b ρ >>= fun y => match x, y with
  | .list xs, .list ys => if xs.length + ys.length ≤ M then .val (xs ++ ys) else .stk
  | _, _ => .stk
theorem sl_cat {ta tb : TE} {da db : En → R D} (ha : SE cv W ta da) (hb : SE cv W tb db) : SL cv W (tOp (rPlus K) ta tb) (dCat da db) := fun B F H ρ σ Q A h =>
  ha.bind A h fun dx F1 H1 x n1 A1 e1 h1 => hb.bind A1 h1 fun dy F2 H2 y n2 A2 e2 h2 => by
    have e1' := Dp.le n2.1 e1
    split at h2
    · split at h2
      · rename_i hz
        cases e1' with
        | lst s1 a1 =>
          cases e2 with
          | lst s2 a2 =>
            have hz' := hz
            rw [← DpAll.length a1, ← DpAll.length a2] at hz
            refine .inr (.inr (.inl ⟨_, _, _, _, rfl, rfl, Rd.le A2.sub (SqL.rd s1), Rd.le A2.sub (SqL.rd s2), M_line hz, fun p hpn => ?_⟩))
            obtain ⟨A3, hF, hB⟩ := A2.loose (.lst _) hpn
            exact h2 _ _ _ Nw.refl A3 ⟨by rw [List.length_append]; exact hz', p, _, rfl, hF, hB, upd_same, DpAll.append a1 a2, free_new A2 hpn⟩
      · exact h2.elim
    · exact h2.elim
/-- * -/
def rRepR : R2 := fun x y H Q => ∃ l k xs, x = .ref l ∧ y = .int k ∧ H l = some (.lst xs) ∧ 0 ≤ k ∧ k ≤ 1000 ∧ xs.length ≤ 1000 ∧ ∀ p, H p = none → Q (.ref p) (upd H p (.lst (List.replicate k.toNat xs).flatten))
theorem op_repR {X : Cx} : OpR X (binaryOp .Mult) rRepR := by
  intro pins s σ H x y v u Q I rx ry h
  obtain ⟨l, k, xs, rfl, rfl, hH, h0, h1, hz, q⟩ := h
  have hkz : xs.length * k.toNat ≤ 1000 * 1000 := Nat.mul_le_mul hz (by omega)
  exact op_rep pins s σ H _ _ v u Q I rx ry ⟨l, k, xs, rfl, rfl, hH, by omega, by omega, Nat.le_trans hkz (by decide), q⟩
def rTimes (K : PySem.W.Frag) : R2 := fun x y H Q => rI CMul (fun i j => .int (i * j)) x y H Q ∨ (∃ (z : Str) (k : Int), x = .str z ∧ y = .int k ∧ z.length ≤ 1000 ∧ 0 ≤ k ∧ k ≤ 1000 ∧ ∀ r, (r.cps.toList = (List.replicate k.toNat z.cps.toList).flatten) → Q (.str r) H) ∨ rRepR x y H Q ∨ rRepT K x y H Q
theorem op_times {X : Cx} : OpR X (binaryOp .Mult) (rTimes X.K) := OpR.or op_mul (OpR.or op_mul_str (OpR.or op_repR op_repT))
def cMul (i j : Int) : Bool := (decide (-18446744073709551616 < i) && decide (i < 18446744073709551616)) || (decide (-18446744073709551616 < j) && decide (j < 18446744073709551616))
/-- an int times an int; a text times an int; a tuple times an int (a list: where it is new, see sl_rep) -/
def pTimes : D → D → R D
  | .int i, .int j => if cMul i j then .val (.int (i * j)) else .stk
  | .str x, .int k => if decide (x.length ≤ 1000) && decide (0 ≤ k) && decide (k ≤ 1000) then .val (.str ⟨(List.replicate k.toNat x.cps.toList).flatten.toArray⟩) else .stk
  | .tuple xs, .int k => if !xs.isEmpty && decide (2 ≤ k) && decide (k ≤ 1000) && decide (xs.length ≤ 1000) then .val (.tuple (List.replicate k.toNat xs).flatten) else .stk
  | _, _ => .stk
theorem DpAll.rep {xs : List V} {ds : List D} (h : DpAll [] F xs ds) : ∀ n : Nat, DpAll [] F (List.replicate n xs).flatten (List.replicate n ds).flatten
  | 0 => .nil
  | n + 1 => by
    rw [List.replicate_succ, List.replicate_succ, List.flatten_cons, List.flatten_cons]
    exact DpAll.append h (DpAll.rep h n)
theorem rep_len {α : Type} (xs : List α) (n : Nat) : (List.replicate n xs).flatten.length = n * xs.length := by
  simp
theorem str_ext {x y : Str} (h : x.cps.toList = y.cps.toList) : x = y := by
  cases x; cases y
  congr
  exact Array.toList_inj.mp h
theorem ro_times : RelOp cv W (rTimes K) pTimes := fun B F H ρ σ x y dx dy Q A e1 e2 hp => by
  unfold pTimes at hp
  split at hp
  · split at hp
    · rename_i z
      cases e1; cases e2
      refine .inl ⟨_, _, rfl, rfl, ?_, hp.ret A (.int _)⟩
      unfold cMul at z
      rw [Bool.or_eq_true, Bool.and_eq_true, Bool.and_eq_true, decide_eq_true_iff, decide_eq_true_iff, decide_eq_true_iff, decide_eq_true_iff] at z
      exact z
    · exact hp.elim
  · split at hp
    · rename_i z
      cases e1; cases e2
      rw [Bool.and_eq_true, Bool.and_eq_true, decide_eq_true_iff, decide_eq_true_iff, decide_eq_true_iff] at z
      refine .inr (.inl ⟨_, _, rfl, rfl, z.1.1, z.1.2, z.2, fun r hr => ?_⟩)
      have er : r = ⟨(List.replicate _ _).flatten.toArray⟩ := str_ext (y := ⟨(List.replicate _ _).flatten.toArray⟩) hr
      rw [er]
      exact hp.ret A (.str _)
    · exact hp.elim
  · split at hp
    · rename_i z
      cases e2
      cases e1 with
      | tup s1 a1 =>
        rw [Bool.and_eq_true, Bool.and_eq_true, Bool.and_eq_true, decide_eq_true_iff, decide_eq_true_iff, decide_eq_true_iff] at z
        have hl := DpAll.length a1
        refine .inr (.inr (.inr ⟨_, _, _, rfl, rfl, SqT.sub A s1, fun q => ?_, z.1.1.2, z.1.2, by rw [hl]; exact z.2, fun p hpn => hp.newT A (DpAll.rep a1 _) hpn ?_⟩))
        · subst q
          cases a1
          have z' := z.1.1.1
          cases z'
        · rw [rep_len]
          refine Nat.le_trans (Nat.mul_le_mul (n₂ := 1000) (m₂ := 1000) (by omega) (by omega)) (by decide)
    · exact hp.elim
  · exact hp.elim
/-- a new list, so many times over -/
def pRepL (xs : List D) : D → R (List D)
  | .int k => if decide (xs.length ≤ 1000) && decide (0 ≤ k) && decide (k ≤ 1000) then .val (List.replicate k.toNat xs).flatten else .stk
  | _ => .stk
def dRep (a : En → R (List D)) (b : En → R D) : En → R (List D) := fun ρ => a ρ >>= fun xs => b ρ >>= fun y => pRepL xs y
theorem sl_rep {ta tb : TE} {da : En → R (List D)} {db : En → R D} (ha : SL cv W ta da) (hb : SE cv W tb db) : SL cv W (tOp (rTimes K) ta tb) (dRep da db) := fun B F H ρ σ Q A h =>
  ha.bind A h fun xs F1 H1 v n1 A1 ⟨e0, a, vs, e1, e2, e3, e4, e5, e6⟩ h1 => by
    subst e1
    refine hb (upd B a (.lst vs)) F1 H1 ρ σ _ (A1.moreB e3 e4 e6) ?_
    have lB : Le B (upd B a (.lst vs)) := le_upd e3
    cases e : db ρ with
    | stk => rw [e] at h1; exact h1.elim
    | exc c =>
      rw [e] at h1
      intro F2 H2 n2 A2
      refine h1 F2 H2 ⟨n2.1, fun b o z => (n2.2 b o z).imp id fun q => ?_⟩ ?_
      · cases y : B b with
        | none => rfl
        | some u => rw [lB b u y] at q; cases q
      · exact A1.around (vs := []) (is := []) A2 n2 lB .refl (fun _ z => nomatch z) rfl
    | val dy =>
      rw [e] at h1
      intro F2 H2 y n2 A2 e7
      have A3 : Ag cv B F2 H2 ρ σ := A1.around (vs := []) (is := []) A2 n2 lB .refl (fun _ z => nomatch z) rfl
      have nB : Nw B F1 F2 := ⟨n2.1, fun b o z => (n2.2 b o z).imp id fun q => by
        cases y : B b with
        | none => rfl
        | some u => rw [lB b u y] at q; cases q⟩
      replace h1 : Post cv W relL B F1 ρ σ (pRepL xs dy) Q := h1
      unfold pRepL at h1
      split at h1
      · split at h1
        · rename_i z
          cases e7
          rw [Bool.and_eq_true, Bool.and_eq_true, decide_eq_true_iff, decide_eq_true_iff, decide_eq_true_iff] at z
          refine .inr (.inr (.inl ⟨_, _, vs, rfl, rfl, A2.prot a _ upd_same, z.1.2, z.2, by rw [DpAll.length e5]; exact z.1.1, fun p hpn => ?_⟩))
          obtain ⟨A4, hF, hB⟩ := A3.loose (.lst (List.replicate _ vs).flatten) hpn
          refine h1 _ _ _ nB A4 ⟨?_, p, _, rfl, hF, hB, upd_same, DpAll.rep (DpAll.le n2.1 e5) _, free_new A3 hpn⟩
          rw [rep_len]
          exact Nat.le_trans (Nat.mul_le_mul (n₂ := 1000) (m₂ := 1000) (by omega) z.1.1) (by decide)
        · exact h1.elim
      · exact h1.elim
end
end L2.Dn


set_option Elab.async false
set_option linter.all false
set_option maxRecDepth 100000
set_option maxHeartbeats 1000000
/-! Dn6: comparisons, items, slices, built-in calls. -/
namespace L2.Dn
open PySem PySem.Spec PyProof.Rows

section
variable {K : PySem.W.Frag} {cv : Cv} {W : WX} {B F F' H H' : Hp} {ρ : En} {σ : St}
/-! ### rows of one kind -/
def asInts : List D → Option (List Int)
  | [] => some []
  | .int i :: r => (asInts r).map (i :: ·)
  | _ => none
def asStrs : List D → Option (List Str)
  | [] => some []
  | .str i :: r => (asStrs r).map (i :: ·)
  | _ => none
theorem asInts_eq : ∀ {ds : List D} {ns : List Int} {xs : List V}, asInts ds = some ns → DpAll [] F xs ds → xs = ns.map V.int
  | [], ns, xs, h, e => by cases h; cases e; rfl
  | .int i :: r, ns, xs, h, e => by
    cases h2 : asInts r with
    | none => rw [asInts, h2] at h; cases h
    | some ms =>
      rw [asInts, h2] at h
      cases h
      cases e with
      | cons a b =>
        cases a
        rw [asInts_eq h2 b]
        rfl
  | .none :: _, _, _, h, _ => by cases h
  | .bool _ :: _, _, _, h, _ => by cases h
  | .str _ :: _, _, _, h, _ => by cases h
  | .list _ :: _, _, _, h, _ => by cases h
  | .tuple _ :: _, _, _, h, _ => by cases h
  | .dict _ :: _, _, _, h, _ => by cases h
theorem asStrs_eq : ∀ {ds : List D} {ns : List Str} {xs : List V}, asStrs ds = some ns → DpAll [] F xs ds → xs = ns.map V.str
  | [], ns, xs, h, e => by cases h; cases e; rfl
  | .str i :: r, ns, xs, h, e => by
    cases h2 : asStrs r with
    | none => rw [asStrs, h2] at h; cases h
    | some ms =>
      rw [asStrs, h2] at h
      cases h
      cases e with
      | cons a b =>
        cases a
        rw [asStrs_eq h2 b]
        rfl
  | .none :: _, _, _, h, _ => by cases h
  | .bool _ :: _, _, _, h, _ => by cases h
  | .int _ :: _, _, _, h, _ => by cases h
  | .list _ :: _, _, _, h, _ => by cases h
  | .tuple _ :: _, _, _, h, _ => by cases h
  | .dict _ :: _, _, _, h, _ => by cases h
@[simp] theorem asInts_map : ∀ ns : List Int, asInts (ns.map .int) = some ns
  | [] => rfl
  | i :: r => by rw [List.map_cons, asInts, asInts_map r]; rfl
@[simp] theorem asStrs_map : ∀ ns : List Str, asStrs (ns.map .str) = some ns
  | [] => rfl
  | i :: r => by rw [List.map_cons, asStrs, asStrs_map r]; rfl
theorem DpAll.dints : ∀ {ns : List Int}, DpAll [] F (ns.map V.int) (ns.map .int)
  | [] => .nil
  | i :: r => .cons (.int i) DpAll.dints
theorem DpAll.dstrs : ∀ {ns : List Str}, DpAll [] F (ns.map V.str) (ns.map .str)
  | [] => .nil
  | i :: r => .cons (.str i) DpAll.dstrs

/-! ### == and its like -/
def pEq (a b : D) : R D := if SeqAt.shaped a && SeqAt.shaped b then .val (.bool (PyData.eqv a b)) else .stk
def pNe (a b : D) : R D := if SeqAt.shaped a && SeqAt.shaped b then .val (.bool (!PyData.eqv a b)) else .stk
theorem ro_eq : RelOp cv W (rEqD K) pEq := fun B F H ρ σ x y dx dy Q A e1 e2 hp => by
  unfold pEq at hp
  split at hp
  · rename_i z
    rw [Bool.and_eq_true] at z
    exact ⟨dx, dy, Dp.sub A e1, Dp.sub A e2, z.1, z.2, hp.ret A (.bl _)⟩
  · exact hp.elim
theorem ro_ne : RelOp cv W (rNeD K) pNe := fun B F H ρ σ x y dx dy Q A e1 e2 hp => by
  unfold pNe at hp
  split at hp
  · rename_i z
    rw [Bool.and_eq_true] at z
    exact ⟨dx, dy, Dp.sub A e1, Dp.sub A e2, z.1, z.2, hp.ret A (.bl _)⟩
  · exact hp.elim
/-- < : ints, tuples of ints -/
def rLtA (K : PySem.W.Frag) : R2 := fun x y H Q => rI0 (fun i j => .bl (decide (i < j))) x y H Q ∨ (∃ i j, x = .str i ∧ y = .str j ∧ Q (.bl (decide (i.cps.toList < j.cps.toList))) H)
theorem op_ltA {X : Cx} : OpR X (compareOp .Lt) (rLtA X.K) := OpR.or op_lt op_lt_str
def pLt : D → D → R D
  | .int i, .int j => .val (.bool (decide (i < j)))
  | .str i, .str j => .val (.bool (decide (i.cps.toList < j.cps.toList)))
  | _, _ => .stk
theorem ro_lt : RelOp cv W (rLtA K) pLt := fun B F H ρ σ x y dx dy Q A e1 e2 hp => by
  unfold pLt at hp
  split at hp
  · cases e1; cases e2; exact .inl ⟨_, _, rfl, rfl, hp.ret A (.bl _)⟩
  · cases e1; cases e2; exact .inr ⟨_, _, rfl, rfl, hp.ret A (.bl _)⟩
  · exact hp.elim
def rLeA : R2 := fun x y H Q => rI0 (fun i j => .bl (decide (i ≤ j))) x y H Q ∨ (∃ i j, x = .str i ∧ y = .str j ∧ Q (.bl (!decide (j.cps.toList < i.cps.toList))) H)
theorem op_leA {X : Cx} : OpR X (compareOp .LtE) rLeA := OpR.or op_le op_le_str
def pLe : D → D → R D
  | .int i, .int j => .val (.bool (decide (i ≤ j)))
  | .str i, .str j => .val (.bool (!decide (j.cps.toList < i.cps.toList)))
  | _, _ => .stk
theorem ro_le : RelOp cv W rLeA pLe := fun B F H ρ σ x y dx dy Q A e1 e2 hp => by
  unfold pLe at hp
  split at hp
  · cases e1; cases e2; exact .inl ⟨_, _, rfl, rfl, hp.ret A (.bl _)⟩
  · cases e1; cases e2; exact .inr ⟨_, _, rfl, rfl, hp.ret A (.bl _)⟩
  · exact hp.elim
def rGtA : R2 := fun x y H Q => rI0 (fun i j => .bl (decide (j < i))) x y H Q ∨ (∃ i j, x = .str i ∧ y = .str j ∧ Q (.bl (decide (j.cps.toList < i.cps.toList))) H)
theorem op_gtA {X : Cx} : OpR X (compareOp .Gt) rGtA := OpR.or op_gt op_gt_str
def pGt : D → D → R D
  | .int i, .int j => .val (.bool (decide (j < i)))
  | .str i, .str j => .val (.bool (decide (j.cps.toList < i.cps.toList)))
  | _, _ => .stk
theorem ro_gt : RelOp cv W rGtA pGt := fun B F H ρ σ x y dx dy Q A e1 e2 hp => by
  unfold pGt at hp
  split at hp
  · cases e1; cases e2; exact .inl ⟨_, _, rfl, rfl, hp.ret A (.bl _)⟩
  · cases e1; cases e2; exact .inr ⟨_, _, rfl, rfl, hp.ret A (.bl _)⟩
  · exact hp.elim
def rGeA (K : PySem.W.Frag) : R2 := fun x y H Q => rI0 (fun i j => .bl (decide (j ≤ i))) x y H Q ∨ rGeT K x y H Q
theorem op_geA {X : Cx} (hu : X.A.units < cLine) : OpR X (compareOp .GtE) (rGeA X.K) := OpR.or op_ge (op_geT hu)
def pGe : D → D → R D
  | .int i, .int j => .val (.bool (decide (j ≤ i)))
  | .tuple xs, .tuple ys => match asInts xs, asInts ys with
    | some ns, some ms => .val (.bool (geL ns ms))
    | _, _ => .stk
  | _, _ => .stk
theorem ro_ge : RelOp cv W (rGeA K) pGe := fun B F H ρ σ x y dx dy Q A e1 e2 hp => by
  unfold pGe at hp
  split at hp
  · cases e1; cases e2; exact .inl ⟨_, _, rfl, rfl, hp.ret A (.bl _)⟩
  · split at hp
    · rename_i ns ms z1 z2
      cases e1 with
      | tup s1 a1 =>
        cases e2 with
        | tup s2 a2 =>
          have q1 := asInts_eq z1 a1
          have q2 := asInts_eq z2 a2
          subst q1 q2
          exact .inr ⟨_, _, ns, ms, rfl, rfl, SqT.sub A s1, SqT.sub A s2, hp.ret A (.bl _)⟩
    · exact hp.elim
  · exact hp.elim
/-- in -/
def rInA (K : PySem.W.Frag) : R2 := fun x y H Q => rInD K x y H Q ∨ rInTD K false x y H Q ∨ (∃ (c : Nat) (z : Str), x = .str ⟨#[c]⟩ ∧ y = .str z ∧ Q (.bl (decide (c ∈ z.cps.toList))) H)
def rNotInA (K : PySem.W.Frag) : R2 := fun x y H Q => rNotInD K x y H Q ∨ rInTD K true x y H Q ∨ (∃ (c : Nat) (z : Str), x = .str ⟨#[c]⟩ ∧ y = .str z ∧ Q (.bl (!decide (c ∈ z.cps.toList))) H)
theorem op_inA {X : Cx} (hu : X.A.units + 65 < cLine) : OpR X (compareOp .In) (rInA X.K) := OpR.or (op_inD hu) (OpR.or (op_inTD hu) op_in_sign)
theorem op_notInA {X : Cx} (hu : X.A.units + 65 < cLine) : OpR X (compareOp .NotIn) (rNotInA X.K) := OpR.or (op_notInD hu) (OpR.or (op_notInTD hu) op_notIn_sign)
/-- a text of one sign -/
def sign1 (x : Str) : Option Nat := if x.cps.size = 1 then x.cps[0]? else none
theorem sign1_eq {x : Str} {c : Nat} (h : sign1 x = some c) : x = ⟨#[c]⟩ := by
  unfold sign1 at h
  split at h
  · rename_i hz
    refine str_ext ?_
    have e : x.cps.toList.length = 1 := hz
    match hl : x.cps.toList, e with
    | [a], _ =>
      have e2 : x.cps[0]? = some a := by rw [← Array.getElem?_toList, hl]; rfl
      rw [e2] at h
      cases h
      rfl
  · cases h
def inB (x : D) : D → R Bool
  | .list ds => if SeqAt.shaped x && SeqAt.shaped (.list ds) then .val (ds.any fun z => PyData.eqv z x) else .stk
  | .tuple ds => if SeqAt.shaped x && SeqAt.shaped (.tuple ds) then .val (ds.any fun z => PyData.eqv z x) else .stk
  | .str z => match x with
    | .str t => match sign1 t with
      | some c => .val (decide (c ∈ z.cps.toList))
      | none => .stk
    | _ => .stk
  | _ => .stk
def pIn (x y : D) : R D := inB x y >>= fun b => .val (.bool b)
def pNotIn (x y : D) : R D := inB x y >>= fun b => .val (.bool (!b))
theorem ro_inB {neg : Bool} {r : R2} (h1 : ∀ {x y H Q}, (∃ d ds, Dp K H x d ∧ Dp K H y (.list ds) ∧ SeqAt.shaped d = true ∧ SeqAt.shaped (.list ds) = true ∧ Q (.bl (if neg then !(ds.any fun z => PyData.eqv z d) else ds.any fun z => PyData.eqv z d)) H) → r x y H Q)
    (h2 : ∀ {x y H Q}, rInTD K neg x y H Q → r x y H Q) (h3 : ∀ {x y H Q}, (∃ (c : Nat) (z : Str), x = .str ⟨#[c]⟩ ∧ y = .str z ∧ Q (.bl (if neg then !decide (c ∈ z.cps.toList) else decide (c ∈ z.cps.toList))) H) → r x y H Q) :
    RelOp cv W r (fun x y => inB x y >>= fun b => .val (.bool (if neg then !b else b))) := fun B F H ρ σ x y dx dy Q A e1 e2 hp => by
  cases e2 with
  | lst s2 a2 =>
    rename_i ds
    replace hp : Post cv W relD B F ρ σ ((if SeqAt.shaped dx && SeqAt.shaped (.list ds) then R.val (ds.any fun z => PyData.eqv z dx) else R.stk) >>= fun b => R.val (PyData.bool (if neg then !b else b))) Q := hp
    split at hp
    · rename_i z
      rw [Bool.and_eq_true] at z
      exact h1 ⟨dx, ds, Dp.sub A e1, Dp.sub A (.lst s2 a2), z.1, z.2, Post.ret hp A (.bl _)⟩
    · exact hp.elim
  | tup s2 a2 =>
    rename_i ds
    replace hp : Post cv W relD B F ρ σ ((if SeqAt.shaped dx && SeqAt.shaped (.tuple ds) then R.val (ds.any fun z => PyData.eqv z dx) else R.stk) >>= fun b => R.val (PyData.bool (if neg then !b else b))) Q := hp
    split at hp
    · rename_i z
      rw [Bool.and_eq_true] at z
      exact h2 ⟨dx, ds, Dp.sub A e1, Dp.sub A (.tup s2 a2), z.1, z.2, Post.ret hp A (.bl _)⟩
    · exact hp.elim
  | str z =>
    cases e1 with
    | str t =>
      replace hp : Post cv W relD B F ρ σ ((match sign1 t with
        | some c => R.val (decide (c ∈ z.cps.toList))
        | none => R.stk) >>= fun b => R.val (PyData.bool (if neg then !b else b))) Q := hp
      split at hp
      · rename_i c hc
        exact h3 ⟨c, z, by rw [sign1_eq hc], rfl, Post.ret hp A (.bl _)⟩
      · exact hp.elim
    | non => exact hp.elim
    | bl _ => exact hp.elim
    | int _ => exact hp.elim
    | lst _ _ => exact hp.elim
    | tup _ _ => exact hp.elim
  | non => exact hp.elim
  | bl _ => exact hp.elim
  | int _ => exact hp.elim
theorem ro_in : RelOp cv W (rInA K) pIn := ro_inB (K := K) (neg := false) (fun h => .inl h) (fun h => .inr (.inl h)) fun h => .inr (.inr h)
theorem ro_notIn : RelOp cv W (rNotInA K) pNotIn := ro_inB (K := K) (neg := true) (fun h => .inl h) (fun h => .inr (.inl h)) fun h => .inr (.inr h)
/-- is None, is True -/
def rIsA : R2 := fun x y H Q => (y = .non ∧ Q (.bl (decide (x = .non))) H) ∨ ∃ b, y = .bl b ∧ Q (.bl (decide (x = .bl b))) H
def rIsNotA : R2 := fun x y H Q => (y = .non ∧ Q (.bl (!decide (x = .non))) H) ∨ ∃ b, y = .bl b ∧ Q (.bl (!decide (x = .bl b))) H
theorem op_isA {X : Cx} : OpR X (compareOp .Is) rIsA := OpR.or op_isN op_isB
theorem op_isNotA {X : Cx} : OpR X (compareOp .IsNot) rIsNotA := OpR.or op_notN op_isnotB
def isD : D → D → R Bool
  | .none, .none => .val true
  | _, .none => .val false
  | .bool a, .bool b => .val (a == b)
  | _, .bool _ => .val false
  | _, _ => .stk
def pIs (x y : D) : R D := isD x y >>= fun b => .val (.bool b)
def pIsNot (x y : D) : R D := isD x y >>= fun b => .val (.bool (!b))
theorem Dp.isN {v : V} {d : D} (h : Dp [] F v d) : decide (v = .non) = (match d with | .none => true | _ => false) := by cases h <;> rfl
theorem Dp.isBl {v : V} {d : D} {b : Bool} (h : Dp [] F v d) : decide (v = .bl b) = (match d with | .bool a => a == b | _ => false) := by
  cases h with
  | bl a => cases a <;> cases b <;> rfl
  | non => rfl
  | int _ => rfl
  | str _ => rfl
  | lst _ _ => rfl
  | tup _ _ => rfl
theorem ro_is : RelOp cv W rIsA pIs := fun B F H ρ σ x y dx dy Q A e1 e2 hp => by
  cases e2 with
  | non =>
    refine .inl ⟨rfl, ?_⟩
    rw [Dp.isN e1]
    cases e1 <;> exact Post.ret hp A (.bl _)
  | bl b =>
    refine .inr ⟨b, rfl, ?_⟩
    rw [Dp.isBl e1]
    cases e1 <;> exact Post.ret hp A (.bl _)
  | int _ => cases e1 <;> exact hp.elim
  | str _ => cases e1 <;> exact hp.elim
  | lst _ _ => cases e1 <;> exact hp.elim
  | tup _ _ => cases e1 <;> exact hp.elim
theorem ro_isNot : RelOp cv W rIsNotA pIsNot := fun B F H ρ σ x y dx dy Q A e1 e2 hp => by
  cases e2 with
  | non =>
    refine .inl ⟨rfl, ?_⟩
    rw [Dp.isN e1]
    cases e1 <;> exact Post.ret hp A (.bl _)
  | bl b =>
    refine .inr ⟨b, rfl, ?_⟩
    rw [Dp.isBl e1]
    cases e1 <;> exact Post.ret hp A (.bl _)
  | int _ => cases e1 <;> exact hp.elim
  | str _ => cases e1 <;> exact hp.elim
  | lst _ _ => cases e1 <;> exact hp.elim
  | tup _ _ => cases e1 <;> exact hp.elim

/-! ### items, slices -/
def pIx : D → D → R D
  | .list ds, .int i => match atI ds i with
    | some d => .val d
    | none => .stk
  | .tuple ds, .int i => match atI ds i with
    | some d => .val d
    | none => .stk
  | .str z, .int i => if z.length ≤ M then (match atI z.cps.toList i with
    | some c => .val (.str ⟨#[c]⟩)
    | none => .stk) else .stk
  | _, _ => .stk
theorem DpAll.atI {xs : List V} {ds : List D} {i : Int} {d : D} (h : DpAll [] F xs ds) (e : L2.atI ds i = some d) : ∃ v, L2.atI xs i = some v ∧ Dp [] F v d := by
  unfold L2.atI at e ⊢
  rw [DpAll.length h]
  cases q : ixN ds.length i with
  | none => rw [q] at e; cases e
  | some j =>
    rw [q] at e
    exact DpAll.get h e
theorem ro_ix : RelOp cv W (rIx K) pIx := fun B F H ρ σ x y dx dy Q A e1 e2 hp => by
  unfold pIx at hp
  split at hp
  · split at hp
    · rename_i z
      cases e2
      cases e1 with
      | lst s a =>
        obtain ⟨v, q1, q2⟩ := DpAll.atI a z
        exact .inl ⟨_, _, _, v, rfl, rfl, SqL.sub A s, q1, hp.ret A q2⟩
    · exact hp.elim
  · split at hp
    · rename_i z
      cases e2
      cases e1 with
      | tup s a =>
        obtain ⟨v, q1, q2⟩ := DpAll.atI a z
        exact .inr (.inl ⟨_, _, _, v, rfl, rfl, SqT.sub A s, q1, hp.ret A q2⟩)
    · exact hp.elim
  · split at hp
    · rename_i hz
      split at hp
      · rename_i c z
        cases e1; cases e2
        exact .inr (.inr ⟨_, _, c, rfl, rfl, M_line hz, z, hp.ret A (.str _)⟩)
      · exact hp.elim
    · exact hp.elim
  · exact hp.elim
/-- the cut -/
def cutL {α : Type} (xs : List α) (lo hi : Option Int) : List α := (xs.drop (HT.sIx xs.length 0 lo)).take (HT.sIx xs.length xs.length hi - HT.sIx xs.length 0 lo)
theorem cutL_V (xs : List V) (lo hi : Option Int) : cutV xs lo hi = cutL xs lo hi := rfl
theorem cutL_len {α : Type} (xs : List α) (lo hi : Option Int) : (cutL xs lo hi).length ≤ xs.length := by
  unfold cutL
  rw [List.length_take, List.length_drop]
  omega
theorem DpAll.cut {xs : List V} {ds : List D} (h : DpAll [] F xs ds) (lo hi : Option Int) : DpAll [] F (cutL xs lo hi) (cutL ds lo hi) := by
  unfold cutL
  rw [DpAll.length h]
  exact DpAll.take _ (DpAll.drop _ h)
theorem cutL_all {α : Type} {xs : List α} {lo hi : Option Int} (h : HT.sIx xs.length 0 lo = 0 ∧ HT.sIx xs.length xs.length hi = xs.length) : cutL xs lo hi = xs := by
  unfold cutL
  rw [h.1, h.2]
  simp
def rSl (K : PySem.W.Frag) : V → Option Int → Option Int → Hp → VK → Prop := fun x lo hi H Q => rSlL K x lo hi H Q ∨ rSlA K x lo hi H Q ∨ rSlS x lo hi H Q
theorem sl_any {X : Cx} : SlR X (rSl X.K) := SlR.or sl_list (SlR.or sl_tupA sl_str)
def pSl : D → Option Int → Option Int → R D
  | .list ds, lo, hi => .val (.list (cutL ds lo hi))
  | .tuple ds, lo, hi => .val (.tuple (cutL ds lo hi))
  | .str z, lo, hi => if z.length ≤ M then .val (.str (cutS z lo hi)) else .stk
  | _, _, _ => .stk
def dSl (a : En → R D) (lo hi : En → R (Option Int)) : En → R D := fun ρ => a ρ >>= fun x => lo ρ >>= fun l => hi ρ >>= fun h => pSl x l h
theorem se_sl {te : TE} {tl th : TO} {de : En → R D} {dl dh : En → R (Option Int)} (he : SE cv W te de) (hl : SO cv W tl dl) (hh : SO cv W th dh) : SE cv W (tSl (rSl K) te tl th) (dSl de dl dh) := fun B F H ρ σ Q A h =>
  he.bind A h fun dx F1 H1 x n1 A1 e1 h1 => hl.bind A1 h1 fun lo F2 H2 lo' n2 A2 e2 h2 => hh.bind A2 h2 fun hi F3 H3 hi' n3 A3 e3 h3 => by
    have q2 : lo' = lo := e2
    have q3 : hi' = hi := e3
    subst q2 q3
    have e1' := Dp.le (n2.trans n3).1 e1
    unfold pSl at h3
    split at h3
    · cases e1' with
      | lst s a => exact .inl ⟨_, _, rfl, SqL.sub A3 s, fun p hp => h3.newL A3 (DpAll.cut a _ _) hp (Nat.le_trans (cutL_len _ _ _) (SqL.sz A3.sz s))⟩
    · cases e1' with
      | tup s a =>
        refine .inr (.inl ⟨_, _, rfl, SqT.sub A3 s, fun z => ?_, fun _ p hp => h3.newT A3 (DpAll.cut a _ _) hp (Nat.le_trans (cutL_len _ _ _) (SqT.sz A3.sz s))⟩)
        have z' := z
        rw [DpAll.length a] at z'
        rw [cutL_all z'] at h3
        exact h3.ret A3 (.tup s a)
    · split at h3
      · rename_i hz
        cases e1'
        exact .inr (.inr ⟨_, rfl, M_line hz, h3.ret A3 (.str _)⟩)
      · exact h3.elim
    · exact h3.elim
/-- a slice of a list, for a name that is changed later -/
def dSlL (a : En → R D) (lo hi : En → R (Option Int)) : En → R (List D) := fun ρ => a ρ >>= fun x => lo ρ >>= fun l => hi ρ >>= fun h => asL x >>= fun ds => .val (cutL ds l h)

/-! ### built-in calls -/
def RelCall (cv : Cv) (W : WX) (r : List V → Hp → VK → Prop) (p : List D → R D) : Prop :=
  ∀ (B F H : Hp) (ρ : En) (σ : St) (vs : List V) (ds : List D) (Q : VK), Ag cv B F H ρ σ → DpAll [] F vs ds → Post cv W relD B F ρ σ (p ds) Q → r vs H Q
theorem se_cb {r : List V → Hp → VK → Prop} {p : List D → R D} {t : TA} {ds : List (En → R D)} (hr : RelCall cv W r p) (h : SA cv W t (dArgs ds)) : SE cv W (tCB r t) (dApp p ds) := fun B F H ρ σ Q A hq =>
  h.bind A hq fun a F1 H1 vs n1 A1 e1 h1 => hr B F1 H1 ρ σ vs a Q A1 e1 h1
def pLen : List D → R D
  | [.list ds] => .val (.int (ds.length : Nat))
  | [.tuple ds] => .val (.int (ds.length : Nat))
  | [.str x] => if x.length ≤ M then .val (.int (x.length : Nat)) else .stk
  | _ => .stk
abbrev rLenA (K : PySem.W.Frag) : List V → Hp → VK → Prop := fun xs H Q => ∃ x n, xs = [x] ∧ LenV K x H n ∧ Q (.int n) H
theorem rc_len : RelCall cv W (rLenA K) pLen := fun B F H ρ σ vs ds Q A e hp => by
  unfold pLen at hp
  split at hp
  · cases e with
    | cons a r =>
      cases r
      cases a with
      | lst s a => exact ⟨_, _, rfl, .inl ⟨_, SqL.sub A s, rfl⟩, by rw [DpAll.length a]; exact hp.ret A (.int _)⟩
  · cases e with
    | cons a r =>
      cases r
      cases a with
      | tup s a => exact ⟨_, _, rfl, .inr ⟨_, SqT.sub A s, rfl⟩, by rw [DpAll.length a]; exact hp.ret A (.int _)⟩
  · split at hp
    · rename_i hz
      cases e with
      | cons a r =>
        cases r
        cases a
        exact ⟨_, _, rfl, ⟨M_line hz, rfl⟩, hp.ret A (.int _)⟩
    · exact hp.elim
  · exact hp.elim
/-- len of an own list, an own dict -/
def dLenO (i : Nat) : En → R D := fun ρ => match ρ[i]? with
  | some (.ol ds) => .val (.int (ds.length : Nat))
  | some (.fz d) => pLen [d]
  | _ => .stk
theorem se_lenO {i : Nat} : SE cv W (tCB (rLenA K) (tCons (tVar i) tNil)) (dLenO i) := fun B F H ρ σ Q A hq => by
  unfold dLenO at hq
  split at hq
  · rename_i ds e
    obtain ⟨e0, a, xs, e1, e2, e3, e4, e5⟩ := A.ok i _ e
    exact ⟨.ref a, sAt_some e1, .ref a, xs.length, rfl, .inl ⟨xs, .inl (.inl e4), rfl⟩, by rw [DpAll.length e5]; exact hq.ret A (.int _)⟩
  · rename_i d e
    obtain ⟨v, e1, e2⟩ := A.ok i _ e
    exact ⟨v, sAt_some e1, rc_len B F H ρ σ [v] [d] Q A (.cons e2 .nil) hq⟩
  · exact hq.elim
/-- isinstance with a built-in type -/
def isiD (T : String) : D → Bool
  | .none => false
  | .bool _ => T == "int" || T == "bool"
  | .int _ => T == "int"
  | .str _ => T == "str"
  | .list _ => T == "list"
  | .tuple _ => T == "tuple"
  | .dict _ => false
def dIsi (T : String) (a : En → R D) : En → R D := fun ρ => a ρ >>= fun x => .val (.bool (isiD T x))
/-- the types that are asked for -/
inductive Ty5 : String → Prop
  | int : Ty5 "int"
  | bool : Ty5 "bool"
  | str : Ty5 "str"
  | list : Ty5 "list"
  | tuple : Ty5 "tuple"
theorem kits : ∀ {T : String}, Ty5 T → kitB "NoneType" T = some false ∧ kitB "bool" T = some (T == "int" || T == "bool") ∧ kitB "int" T = some (T == "int") ∧ kitB "str" T = some (T == "str") ∧ kitB "list" T = some (T == "list") ∧ kitB "tuple" T = some (T == "tuple")
  | _, .int => by decide +kernel
  | _, .bool => by decide +kernel
  | _, .str => by decide +kernel
  | _, .list => by decide +kernel
  | _, .tuple => by decide +kernel
theorem se_isi {T : String} (hT : Ty5 T) {t : TE} {d : En → R D} (h : SE cv W t d) : SE cv W (tCB (rIsi K) (tCons t (tCons (tC (.ty T)) tNil))) (dIsi T d) := fun B F H ρ σ Q A hq =>
  h.bind A hq fun dx F1 H1 x n1 A1 e1 h1 => by
    obtain ⟨k1, k2, k3, k4, k5, k6⟩ := kits hT
    have fin : ∀ (t : Value) (b : Bool), TyX K H1 x t → PySem.W.kitOne K t (.type T) = some b → isiD T dx = b → rIsi K [x, .ty T] H1 Q := fun t b h2 h3 h4 =>
      ⟨x, .ty T, t, .type T, b, rfl, .ty T, h2, h3, by rw [h4] at h1; exact h1.ret A1 (.bl _)⟩
    show rIsi K [x, .ty T] H1 Q
    cases e1 with
    | non => exact fin _ _ (.base .non) (kit_ty k1) rfl
    | bl b => exact fin _ _ (.base (.bl b)) (kit_ty k2) rfl
    | int i => exact fin _ _ (.base (.int i)) (kit_ty k3) rfl
    | str i => exact fin _ _ (.base (.str i)) (kit_ty k4) rfl
    | lst s a =>
      rcases Rd.le A1.sub (SqL.rd s) with z | ⟨o, z⟩
      · exact fin _ _ (.base (.lst z)) (kit_ty k5) rfl
      · exact fin _ _ (.base (.frz z)) (kit_ty k5) rfl
    | tup s a =>
      rcases Rd.le A1.sub (SqT.rd s) with z | ⟨o, z⟩
      · exact fin _ _ (.base (.tup z)) (kit_ty k6) rfl
      · exact fin _ _ (.fTuple z) (kit_ty k6) rfl
/-- list(x) -/
def rListA (K : PySem.W.Frag) : List V → Hp → VK → Prop := fun xs H Q => (∃ p ys, xs = [.ref p] ∧ (SqL K H p ys ∨ SqT K H p ys) ∧ ∀ l, H l = none → Q (.ref l) (upd H l (.lst ys))) ∨ ∃ x, xs = [.str x] ∧ x.cps.size ≤ sizeLine ∧ ∀ l, H l = none → Q (.ref l) (upd H l (.lst (sgnV x)))
theorem call_listA {X : Cx} (hc : X.calm = true) : CallR X (.type "list") (rListA X.K) := CallR.or call_list_of (call_list_txt hc)
def pListOf : List D → R (List D)
  | [.list ds] => .val ds
  | [.tuple ds] => .val ds
  | [.str x] => if x.cps.size ≤ M then .val (signs x) else .stk
  | _ => .stk
theorem DpAll.signs' : ∀ l : List Nat, DpAll [] F (l.map fun c => V.str ⟨#[c]⟩) (l.map fun c => (.str ⟨#[c]⟩ : D))
  | [] => .nil
  | c :: r => .cons (.str _) (DpAll.signs' r)
theorem DpAll.signs {x : Str} : DpAll [] F (sgnV x) (Dn.signs x) := DpAll.signs' x.cps.toList
theorem sl_listOf {t : TA} {ds : List (En → R D)} (h : SA cv W t (dArgs ds)) : SL cv W (tCB (rListA K) t) (dApp pListOf ds) := fun B F H ρ σ Q A hq =>
  h.bind A hq fun a F1 H1 vs n1 A1 e1 h1 => by
    have mk : ∀ {ys : List V} {es : List D} {p : Addr}, Post cv W relL B F1 ρ σ (.val es) Q → DpAll [] F1 ys es → es.length ≤ M → H1 p = none → Q (.ref p) (upd H1 p (.lst ys)) := fun {ys es p} hq e hz hp => by
      obtain ⟨A2, hF, hB⟩ := A1.loose (.lst ys) hp
      exact hq _ _ _ Nw.refl A2 ⟨hz, p, ys, rfl, hF, hB, upd_same, e, free_new A1 hp⟩
    unfold pListOf at h1
    split at h1
    · cases e1 with
      | cons a r =>
        cases r
        cases a with
        | lst s a => exact .inl ⟨_, _, rfl, .inl (SqL.sub A1 s), fun p hp => mk h1 a (by rw [← DpAll.length a]; exact SqL.sz A1.sz s) hp⟩
    · cases e1 with
      | cons a r =>
        cases r
        cases a with
        | tup s a => exact .inl ⟨_, _, rfl, .inr (SqT.sub A1 s), fun p hp => mk h1 a (by rw [← DpAll.length a]; exact SqT.sz A1.sz s) hp⟩
    · split at h1
      · rename_i hz
        cases e1 with
        | cons a r =>
          cases r
          cases a
          exact .inr ⟨_, rfl, M_line hz, fun p hp => mk h1 DpAll.signs (by rw [signs_length]; exact hz) hp⟩
      · exact h1.elim
    · exact h1.elim
/-- tuple(x) -/
abbrev rTupA (K : PySem.W.Frag) : List V → Hp → VK → Prop := fun xs H Q => ∃ p ys, xs = [.ref p] ∧ ((SqL K H p ys ∧ ∀ l, H l = none → Q (.ref l) (upd H l (.tup ys))) ∨ (SqT K H p ys ∧ Q (.ref p) H))
def pTupOf : List D → R D
  | [.list ds] => .val (.tuple ds)
  | [.tuple ds] => .val (.tuple ds)
  | _ => .stk
theorem rc_tup : RelCall cv W (rTupA K) pTupOf := fun B F H ρ σ vs ds Q A e hp => by
  unfold pTupOf at hp
  split at hp
  · cases e with
    | cons a r =>
      cases r
      cases a with
      | lst s a => exact ⟨_, _, rfl, .inl ⟨SqL.sub A s, fun p hpn => hp.newT A a hpn (SqL.sz A.sz s)⟩⟩
  · cases e with
    | cons a r =>
      cases r
      cases a with
      | tup s a => exact ⟨_, _, rfl, .inr ⟨SqT.sub A s, hp.ret A (.tup s a)⟩⟩
  · exact hp.elim
abbrev rIntA : List V → Hp → VK → Prop := fun xs H Q => (∃ i, xs = [.int i] ∧ Q (.int i) H) ∨ ∃ k, xs = [.bl k] ∧ Q (.int (if k then 1 else 0)) H
def pIntOf : List D → R D
  | [.int i] => .val (.int i)
  | [.bool k] => .val (.int (if k then 1 else 0))
  | _ => .stk
theorem rc_int : RelCall cv W rIntA pIntOf := fun B F H ρ σ vs ds Q A e hp => by
  unfold pIntOf at hp
  split at hp
  · cases e with
    | cons a r => cases r; cases a; exact .inl ⟨_, rfl, hp.ret A (.int _)⟩
  · cases e with
    | cons a r => cases r; cases a; exact .inr ⟨_, rfl, hp.ret A (.int _)⟩
  · exact hp.elim
abbrev rStrA : List V → Hp → VK → Prop := fun xs H Q => ∃ i, xs = [.int i] ∧ i.natAbs.log2 < 1920 ∧ Q (.str (toString i)) H
def pStrOf : List D → R D
  | [.int i] => if i.natAbs.log2 < 1920 then .val (.str (toString i)) else .stk
  | _ => .stk
theorem rc_str : RelCall cv W rStrA pStrOf := fun B F H ρ σ vs ds Q A e hp => by
  unfold pStrOf at hp
  split at hp
  · split at hp
    · rename_i hz
      cases e with
      | cons a r => cases r; cases a; exact ⟨_, rfl, hz, hp.ret A (.str _)⟩
    · exact hp.elim
  · exact hp.elim
/-- sum, min, max of a list of ints -/
def leastI (ns : List Int) : Int := ns.foldl (fun a b => if b < a then b else a) (ns.headD 0)
def mostI (ns : List Int) : Int := ns.foldl (fun a b => if a < b then b else a) (ns.headD 0)
def pSum : List D → R D
  | [.list ds] => match asInts ds with
    | some ns => .val (.int ns.sum)
    | none => .stk
  | _ => .stk
theorem rc_sum : RelCall cv W (rSum K) pSum := fun B F H ρ σ vs ds Q A e hp => by
  unfold pSum at hp
  split at hp
  · split at hp
    · rename_i z
      cases e with
      | cons a r =>
        cases r
        cases a with
        | lst s a =>
          have q := asInts_eq z a
          subst q
          exact ⟨_, _, rfl, SqL.sub A s, hp.ret A (.int _)⟩
    · exact hp.elim
  · exact hp.elim
theorem fold_least : ∀ (r : List Int) (a : Int), (r.foldl (fun a b => if b < a then b else a) a ∈ a :: r) ∧ ∀ y ∈ a :: r, r.foldl (fun a b => if b < a then b else a) a ≤ y
  | [], a => ⟨List.mem_singleton.mpr rfl, fun y h => by rw [List.mem_singleton.mp h]; exact Int.le_refl _⟩
  | b :: r, a => by
    obtain ⟨h1, h2⟩ := fold_least r (if b < a then b else a)
    rw [List.foldl_cons]
    refine ⟨?_, fun y hy => ?_⟩
    · rcases List.mem_cons.mp h1 with e | e
      · rw [e]
        split
        · exact List.mem_cons_of_mem _ List.mem_cons_self
        · exact List.mem_cons_self
      · exact List.mem_cons_of_mem _ (List.mem_cons_of_mem _ e)
    · have h3 := h2 _ List.mem_cons_self
      rcases List.mem_cons.mp hy with e | e
      · subst e
        refine Int.le_trans h3 ?_
        split <;> omega
      · rcases List.mem_cons.mp e with e | e
        · subst e
          refine Int.le_trans h3 ?_
          split <;> omega
        · exact h2 y (List.mem_cons_of_mem _ e)
theorem fold_most : ∀ (r : List Int) (a : Int), (r.foldl (fun a b => if a < b then b else a) a ∈ a :: r) ∧ ∀ y ∈ a :: r, y ≤ r.foldl (fun a b => if a < b then b else a) a
  | [], a => ⟨List.mem_singleton.mpr rfl, fun y h => by rw [List.mem_singleton.mp h]; exact Int.le_refl _⟩
  | b :: r, a => by
    obtain ⟨h1, h2⟩ := fold_most r (if a < b then b else a)
    rw [List.foldl_cons]
    refine ⟨?_, fun y hy => ?_⟩
    · rcases List.mem_cons.mp h1 with e | e
      · rw [e]
        split
        · exact List.mem_cons_of_mem _ List.mem_cons_self
        · exact List.mem_cons_self
      · exact List.mem_cons_of_mem _ (List.mem_cons_of_mem _ e)
    · have h3 := h2 _ List.mem_cons_self
      rcases List.mem_cons.mp hy with e | e
      · subst e
        refine Int.le_trans ?_ h3
        split <;> omega
      · rcases List.mem_cons.mp e with e | e
        · subst e
          refine Int.le_trans ?_ h3
          split <;> omega
        · exact h2 y (List.mem_cons_of_mem _ e)
theorem least_of {ns : List Int} (h : 0 < ns.length) : leastI ns ∈ ns ∧ ∀ y ∈ ns, leastI ns ≤ y := by
  cases ns with
  | nil => cases h
  | cons a r =>
    have e : leastI (a :: r) = r.foldl (fun a b => if b < a then b else a) a := by
      unfold leastI
      rw [List.headD_cons, List.foldl_cons, if_neg (Int.lt_irrefl a)]
    rw [e]
    exact fold_least r a
theorem most_of {ns : List Int} (h : 0 < ns.length) : mostI ns ∈ ns ∧ ∀ y ∈ ns, y ≤ mostI ns := by
  cases ns with
  | nil => cases h
  | cons a r =>
    have e : mostI (a :: r) = r.foldl (fun a b => if a < b then b else a) a := by
      unfold mostI
      rw [List.headD_cons, List.foldl_cons, if_neg (Int.lt_irrefl a)]
    rw [e]
    exact fold_most r a
def pMin : List D → R D
  | [.list ds] => match asInts ds with
    | some ns => if 0 < ns.length then .val (.int (leastI ns)) else .stk
    | none => .stk
  | _ => .stk
def pMax : List D → R D
  | [.list ds] => match asInts ds with
    | some ns => if 0 < ns.length then .val (.int (mostI ns)) else .stk
    | none => .stk
  | _ => .stk
theorem rc_min : RelCall cv W (rMin K) pMin := fun B F H ρ σ vs ds Q A e hp => by
  unfold pMin at hp
  split at hp
  · split at hp
    · rename_i z
      split at hp
      · rename_i h0
        cases e with
        | cons a r =>
          cases r
          cases a with
          | lst s a =>
            have q := asInts_eq z a
            subst q
            refine ⟨_, _, rfl, SqL.sub A s, h0, fun m h1 h2 => ?_⟩
            have e1 := least_of h0
            rw [show m = leastI _ from Int.le_antisymm (h2 _ e1.1) (e1.2 _ h1)]
            exact hp.ret A (.int _)
      · exact hp.elim
    · exact hp.elim
  · exact hp.elim
theorem rc_max : RelCall cv W (rMax K) pMax := fun B F H ρ σ vs ds Q A e hp => by
  unfold pMax at hp
  split at hp
  · split at hp
    · rename_i z
      split at hp
      · rename_i h0
        cases e with
        | cons a r =>
          cases r
          cases a with
          | lst s a =>
            have q := asInts_eq z a
            subst q
            refine ⟨_, _, rfl, SqL.sub A s, h0, fun m h1 h2 => ?_⟩
            have e1 := most_of h0
            rw [show m = mostI _ from Int.le_antisymm (e1.2 _ h1) (h2 _ e1.1)]
            exact hp.ret A (.int _)
      · exact hp.elim
    · exact hp.elim
  · exact hp.elim
abbrev rMax2 : List V → Hp → VK → Prop := fun xs H Q => ∃ i j, xs = [.int i, .int j] ∧ Q (.int (if j > i then j else i)) H
abbrev rMin2 : List V → Hp → VK → Prop := fun xs H Q => ∃ i j, xs = [.int i, .int j] ∧ Q (.int (if j < i then j else i)) H
def pMax2 : List D → R D
  | [.int i, .int j] => .val (.int (if j > i then j else i))
  | _ => .stk
def pMin2 : List D → R D
  | [.int i, .int j] => .val (.int (if j < i then j else i))
  | _ => .stk
theorem rc_max2 : RelCall cv W rMax2 pMax2 := fun B F H ρ σ vs ds Q A e hp => by
  unfold pMax2 at hp
  split at hp
  · cases e with
    | cons a r =>
      cases r with
      | cons b r => cases r; cases a; cases b; exact ⟨_, _, rfl, hp.ret A (.int _)⟩
  · exact hp.elim
theorem rc_min2 : RelCall cv W rMin2 pMin2 := fun B F H ρ σ vs ds Q A e hp => by
  unfold pMin2 at hp
  split at hp
  · cases e with
    | cons a r =>
      cases r with
      | cons b r => cases r; cases a; cases b; exact ⟨_, _, rfl, hp.ret A (.int _)⟩
  · exact hp.elim
/-- len(set(t)), t a tuple of ints -/
def dLenSet (a : En → R D) : En → R D := fun ρ => a ρ >>= fun x => asT x >>= fun ds => match asInts ds with
  | some ns => if ns.length < 64 then .val (.int (ns.eraseDups.length : Nat)) else .stk
  | none => .stk
theorem se_lenSet {t : TE} {d : En → R D} (h : SE cv W t d) : SE cv W (tLenSetT K t) (dLenSet d) := fun B F H ρ σ Q A hq =>
  h.bind A hq fun dx F1 H1 x n1 A1 e1 h1 => by
    cases e1 with
    | tup s a =>
      rename_i ds
      replace h1 : Post cv W relD B F1 ρ σ (match asInts ds with
        | some ns => if ns.length < 64 then .val (.int (ns.eraseDups.length : Nat)) else .stk
        | none => .stk) Q := h1
      split at h1
      · rename_i ns z
        split at h1
        · rename_i hz
          have q := asInts_eq z a
          subst q
          exact ⟨_, ns, rfl, SqT.sub A1 s, hz, h1.ret A1 (.int _)⟩
        · exact h1.elim
      · exact h1.elim
    | non => exact h1.elim
    | bl _ => exact h1.elim
    | int _ => exact h1.elim
    | str _ => exact h1.elim
    | lst _ _ => exact h1.elim
end
end L2.Dn


set_option Elab.async false
set_option linter.all false
set_option maxRecDepth 100000
set_option maxHeartbeats 1000000
/-! Dn7: own lists, own dicts, methods, refusals raised and caught, what is walked. -/
namespace L2.Dn
open PySem PySem.Spec PyProof.Rows

section
variable {K : PySem.W.Frag} {cv : Cv} {W : WX} {B B' F F' H H' : Hp} {ρ ρ' : En} {σ : St}

/-! ### enumerate, zip -/
theorem it_t {P : Hp → List (List V) → Prop} {rows : List (List V)} {ds : List (List D)} (h1 : ∀ H1, Le F H1 → P H1 rows) (e : ∀ (i : Nat) d, ds[i]? = some d → ∃ xs, rows[i]? = some xs ∧ ∀ F1, Le F F1 → DpAll [] F1 xs d)
    (hl : rows.length = ds.length) (hz : ds.length ≤ M) (hr : ∀ xs ∈ rows, xs.length ≤ 1000) : ItOk B F (ItT P) (ds.map .tuple) where
  go := fun i d F1 H1 f s b e1 => by
    rw [List.getElem?_map] at e1
    cases e2 : ds[i]? with
    | none => rw [e2] at e1; cases e1
    | some d0 =>
      rw [e2] at e1
      cases e1
      obtain ⟨xs, e3, e4⟩ := e i d0 e2
      refine ⟨⟨rows, xs, h1 H1 (fun a o z => s a o (f a o z)), e3⟩, fun x H2 y => ?_⟩
      obtain ⟨T, xs', rfl, hT, rfl, hall⟩ := y
      have q := hall rows (h1 H1 (fun a o z => s a o (f a o z)))
      rw [e3] at q
      cases q
      have hF1 : F1 T = none := by
        cases z : F1 T with
        | none => rfl
        | some u => rw [s T u z] at hT; cases hT
      refine ⟨upd F1 T (.tup xs), le_upd hF1, fun a o z => ?_, le_upd hT, fun a o z => ?_, fun z => z.upd (smallM (hr xs (List.mem_of_getElem? e3))), .tup (.inl (.inl upd_same)) (DpAll.le (le_upd hF1) (e4 F1 f))⟩
      · by_cases q : a = T
        · subst q; rw [upd_same] at z ⊢; exact z
        · rw [upd_ne q] at z ⊢; exact s a o z
      · by_cases q : a = T
        · subst q; exact .inr hT
        · rw [upd_ne q] at z; exact .inl z
  stop := fun i F1 H1 f s b e1 => ⟨rows, h1 H1 (fun a o z => s a o (f a o z)), by rw [e1, List.length_map, hl]⟩
  size := by rw [List.length_map]; exact hz
/-- what is gone through, of data: lists, tuples, texts -/
def anyL : D → R (List D)
  | .list ds => .val ds
  | .tuple ds => .val ds
  | .str x => if x.cps.size ≤ M then .val (signs x) else .stk
  | _ => .stk
theorem sr_of (A : Ag cv B F H ρ σ) {v : V} {d : D} {ds : List D} (e : Dp [] F v d) (h : anyL d = .val ds) : ∃ sr xs, v = Sr.v sr ∧ (∀ H1, Le F H1 → sr.is K H1 xs) ∧ DpAll [] F xs ds ∧ ds.length ≤ M := by
  cases e with
  | lst s a =>
    cases h
    exact ⟨.lst _, _, rfl, fun H1 l => SqL.toK (SqL.le l s), a, by rw [← DpAll.length a]; exact SqL.sz A.sz s⟩
  | tup s a =>
    cases h
    exact ⟨.tup _, _, rfl, fun H1 l => SqT.toK (SqT.le l s), a, by rw [← DpAll.length a]; exact SqT.sz A.sz s⟩
  | str x =>
    replace h : (if x.cps.size ≤ M then R.val (signs x) else .stk) = .val ds := h
    split at h
    · rename_i hz
      cases h
      exact ⟨.str x, sgnV x, rfl, fun H1 _ => rfl, DpAll.signs, by rw [signs_length]; exact hz⟩
    · cases h
  | non => cases h
  | bl _ => cases h
  | int _ => cases h
theorem anyL_nox {d : D} {c : Ex} : anyL d ≠ .exc c := fun e => by
  cases d with
  | str x =>
    replace e : (if x.cps.size ≤ M then R.val (signs x) else .stk) = R.exc c := e
    split at e <;> cases e
  | _ => cases e
def enumD (ds : List D) : List (List D) := ds.zipIdx.map fun p => [.int (p.2 : Nat), p.1]
def pEnum : List D → R (List D)
  | [d] => anyL d >>= fun ds => .val ((enumD ds).map .tuple)
  | _ => .stk
theorem enumD_get {ds : List D} {i : Nat} {d : List D} (h : (enumD ds)[i]? = some d) : ∃ x, ds[i]? = some x ∧ d = [.int (i : Nat), x] := by
  unfold enumD at h
  rw [List.getElem?_map, List.getElem?_zipIdx] at h
  cases e : ds[i]? with
  | none => rw [e] at h; cases h
  | some x =>
    rw [e] at h
    have q := Option.some.inj h
    refine ⟨x, rfl, ?_⟩
    rw [← q]
    show [PyData.int ((0 + i : Nat) : Int), x] = _
    rw [Nat.zero_add]
theorem si_enum {t : TA} {ds : List (En → R D)} (h : SA cv W t (dArgs ds)) : SI cv W (iEnumX K t) (dApp pEnum ds) := fun B F H ρ σ Q A hq =>
  h.bind A hq fun a F1 H1 vs n1 A1 e1 h1 => by
    unfold pEnum at h1
    split at h1
    · rename_i d
      cases e1 with
      | cons a1 r =>
        cases r
        cases e : anyL d with
        | stk => rw [e] at h1; exact h1.elim
        | exc c => exact absurd e anyL_nox
        | val es =>
          rw [e] at h1
          obtain ⟨sr, xs, rfl, hs, hd, hz⟩ := sr_of (K := K) A1 a1 e
          refine ⟨sr, xs, rfl, hs H1 A1.sub, h1 F1 H1 _ Nw.refl A1 (it_t (rows := enumRows xs) (ds := enumD es) (fun H2 l => ⟨xs, hs H2 l, rfl⟩) (fun i d' z => ?_) ?_ ?_ fun ys hy => ?_)⟩
          · obtain ⟨x, q1, rfl⟩ := enumD_get z
            obtain ⟨v, q2, q3⟩ := DpAll.get hd q1
            exact ⟨_, enumRows_get q2, fun F2 f => .cons (.int _) (.cons (Dp.le f q3) .nil)⟩
          · rw [enumRows_length, DpAll.length hd]
            unfold enumD
            rw [List.length_map, List.length_zipIdx]
          · unfold enumD
            rw [List.length_map, List.length_zipIdx]
            exact hz
          · unfold enumRows at hy
            obtain ⟨p, _, rfl⟩ := List.mem_map.mp hy
            show 2 ≤ 1000
            decide
    · exact h1.elim
def zipD (xs ys : List D) : List (List D) := List.zipWith (fun x y => [x, y]) xs ys
def pZip : List D → R (List D)
  | [d, e] => anyL d >>= fun ds => anyL e >>= fun es => .val ((zipD ds es).map .tuple)
  | _ => .stk
theorem si_zip {t : TA} {ds : List (En → R D)} (h : SA cv W t (dArgs ds)) : SI cv W (iZipX K t) (dApp pZip ds) := fun B F H ρ σ Q A hq =>
  h.bind A hq fun a F1 H1 vs n1 A1 e1 h1 => by
    unfold pZip at h1
    split at h1
    · rename_i d d'
      cases e1 with
      | cons a1 r =>
        cases r with
        | cons a2 r =>
          cases r
          cases e : anyL d with
          | stk => rw [e] at h1; exact h1.elim
          | exc c => exact absurd e anyL_nox
          | val es =>
            rw [e, R.bind_val] at h1
            cases e' : anyL d' with
            | stk => rw [e'] at h1; exact h1.elim
            | exc c => exact absurd e' anyL_nox
            | val es' =>
              rw [e'] at h1
              obtain ⟨sr, xs, rfl, hs, hd, hz⟩ := sr_of (K := K) A1 a1 e
              obtain ⟨sr', xs', rfl, hs', hd', hz'⟩ := sr_of (K := K) A1 a2 e'
              refine ⟨sr, sr', xs, xs', rfl, hs H1 A1.sub, hs' H1 A1.sub, h1 F1 H1 _ Nw.refl A1 (it_t (rows := zipRows xs xs') (ds := zipD es es') (fun H2 l => ⟨xs, xs', hs H2 l, hs' H2 l, rfl⟩) (fun i d' z => ?_) ?_ ?_ fun ys hy => ?_)⟩
              · unfold zipD at z
                rw [List.getElem?_zipWith] at z
                cases q1 : es[i]? with
                | none => rw [q1] at z; cases z
                | some x =>
                  cases q1' : es'[i]? with
                  | none => rw [q1, q1'] at z; cases z
                  | some x' =>
                    rw [q1, q1'] at z
                    have q4 := Option.some.inj z
                    subst q4
                    obtain ⟨v, q2, q3⟩ := DpAll.get hd q1
                    obtain ⟨v', q2', q3'⟩ := DpAll.get hd' q1'
                    exact ⟨_, zipRows_get q2 q2', fun F2 f => .cons (Dp.le f q3) (.cons (Dp.le f q3') .nil)⟩
              · rw [zipRows_length, DpAll.length hd, DpAll.length hd']
                unfold zipD
                rw [List.length_zipWith]
              · unfold zipD
                rw [List.length_zipWith]
                omega
              · unfold zipRows at hy
                obtain ⟨i, hi, rfl⟩ := List.getElem_of_mem hy
                rw [List.getElem_zipWith]
                show 2 ≤ 1000
                decide
    · exact h1.elim

/-! ### own lists -/
/-- a slot that holds its own thing is told anew, its thing changed -/
theorem Ag.own {i : Nat} {s s' : Sl} {a : Addr} {o : HO} (A : Ag cv B F H ρ σ) (e : ρ[i]? = some s) (ow : s.own = true) (z : sAt σ i = some (.ref a)) (hF : F a = none) (hB : B a = none)
    (h : SlOk B F (upd H a o) s' (sAt σ i)) : Ag cv B F (upd H a o) (ρ.set i s') σ := by
  have fr := A.own_free e ow z
  obtain ⟨u, hu, nu⟩ : ∃ u, H a = some u ∧ isTC u = false := by
    have q := A.ok i s e
    cases s with
    | ol ds =>
      obtain ⟨_, b, xs, e1, _, _, e4, _⟩ := q
      rw [e1] at z
      rw [← V.ref.inj (Option.some.inj z)]
      exact ⟨_, e4, rfl⟩
    | od ds =>
      obtain ⟨b, xs, e1, _, _, e4, _⟩ := q
      rw [e1] at z
      rw [← V.ref.inj (Option.some.inj z)]
      exact ⟨_, e4, rfl⟩
    | un => cases ow
    | fz _ => cases ow
    | lk _ => cases ow
  have A1 := (A.setUn i).updFree (o := o) hF hB fr hu nu
  have q : ρ.set i s' = (ρ.set i .un).set i s' := by rw [List.set_set]
  rw [q]
  refine ⟨A1.sub, A1.prot, A1.nb, A1.tabs, A1.sz, by rw [List.length_set]; exact A1.len, fun j t ej => ?_, fun j k t u b e1 e2 o1 o2 z1 z2 => ?_⟩
  · rw [List.getElem?_set] at ej
    split at ej
    · rename_i hj
      split at ej
      · cases ej; rw [← hj]; exact h
      · cases ej
    · exact A1.ok j t ej
  · by_cases hj : i = j
    · by_cases hk : i = k
      · exact hj.symm.trans hk
      · rw [List.getElem?_set_ne hk] at e2
        rw [← hj, z] at z1
        cases z1
        exact absurd z2 (fr k u e2 o2)
    · by_cases hk : i = k
      · rw [List.getElem?_set_ne hj] at e1
        rw [← hk, z] at z2
        cases z2
        exact absurd z1 (fr j t e1 o1)
      · rw [List.getElem?_set_ne hj] at e1
        rw [List.getElem?_set_ne hk] at e2
        exact A1.dj j k t u b e1 e2 o1 o2 z1 z2
/-- xs.append(e), xs an own list -/
def oApp (i : Nat) (d : En → R D) : En → Out := fun ρ => match ρ[i]? with
  | some (.ol ds) => toO (d ρ) ρ fun x => if ds.length < M then .nx (ρ.set i (.ol (ds ++ [x]))) else .stk
  | _ => .stk
theorem ss_app {i : Nat} {t : TE} {d : En → R D} (h : SE cv W t d) : SS cv W (tDrop (tBM K "list" rAppend (tVar i) (tCons t tNil))) (oApp i d) := fun B F H ρ σ D A q => by
  unfold oApp at q
  split at q
  · rename_i ds e
    obtain ⟨e0, a, xs, e1, e2, e3, e4, e5⟩ := A.ok i _ e
    refine ⟨.ref a, sAt_some e1, .inl ⟨rfl, xs, .inl (.inl e4)⟩, ?_⟩
    refine h.bindS A q fun x F1 H1 v n1 A1 d1 h1 => ?_
    obtain ⟨_, a', xs', e1', e2', e3', e4', e5'⟩ := A1.ok i _ e
    rw [e1] at e1'
    cases e1'
    split at h1
    · rename_i hz
      refine ⟨a, xs', v, rfl, rfl, e4', by rw [DpAll.length e5']; exact M_line' hz, ?_⟩
      refine h1 F1 _ σ Nw.refl (A1.own e rfl e1 e2' e3' ?_)
      exact ⟨by rw [List.length_append, List.length_singleton]; exact hz, a, _, e1, e2', e3', upd_same, DpAll.snoc e5' d1⟩
    · exact h1.elim
  · exact q.elim
end
end L2.Dn


set_option Elab.async false
set_option linter.all false
set_option maxRecDepth 100000
set_option maxHeartbeats 1000000
/-! Dn8: own lists changed, methods, refusals raised, displays of dicts, sorted. -/
namespace L2.Dn
open PySem PySem.Spec PyProof.Rows

section
variable {K : PySem.W.Frag} {cv : Cv} {W : WX} {B B' F F' H H' : Hp} {ρ ρ' : En} {σ : St}

/-! ### xs[i] = v -/
def bSub (i : Nat) (di : En → R D) : D → En → Option En := fun d ρ => match ρ[i]?, di ρ with
  | some (.ol ds), .val (.int k) => match ixN ds.length k with
    | some j => some (ρ.set i (.ol (ds.set j d)))
    | none => none
  | _, _ => none
theorem sg_sub {i : Nat} {ti : TE} {di : En → R D} (hi : SE cv W0 ti di) : SG cv [i] (gSub (tVar i) ti rSetL) (bSub i di) := fun B F H ρ ρ' σ v d Q A e hb q => by
  unfold bSub at hb
  split at hb
  · rename_i ds k e1 e2
    split at hb
    · rename_i j ej
      cases hb
      obtain ⟨e0, a, xs, z1, z2, z3, z4, z5⟩ := A.ok i _ e1
      refine ⟨.ref a, sAt_some z1, hi B F H ρ σ _ A ?_⟩
      rw [e2]
      intro F1 H1 b n1 A1 eb
      have eb' := Dp.int' eb
      subst eb'
      obtain ⟨_, a', xs', z1', z2', z3', z4', z5'⟩ := A1.ok i _ e1
      rw [z1] at z1'
      cases z1'
      refine ⟨a, xs', k, j, rfl, rfl, z4', by rw [DpAll.length z5']; exact ej, ?_⟩
      refine q F1 _ σ n1 (A1.own e1 rfl z1 z2' z3' ?_) ⟨rfl, List.length_set, fun j hj => ⟨rfl, List.getElem?_set_ne fun z => hj (by rw [z]; exact List.mem_singleton.mpr rfl)⟩⟩
      exact ⟨by rw [List.length_set]; exact e0, a, _, z1, z2', z3', upd_same, DpAll.set j z5' (Dp.le n1.1 e)⟩
    · cases hb
  · cases hb

/-! ### xs.pop() -/
def oPop (i : Nat) (f : D → En → Out) : En → Out := fun ρ => match ρ[i]? with
  | some (.ol ds) => match ds[ds.length - 1]? with
    | some d => f d (ρ.set i (.ol ds.dropLast))
    | none => .stk
  | _ => .stk
theorem pop_get {xs : List V} {ds : List D} {d : D} (h : DpAll [] F xs ds) (e : ds[ds.length - 1]? = some d) : ∃ v, xs[xs.length - 1]? = some v ∧ Dp [] F v d := by
  obtain ⟨v, h1, h2⟩ := DpAll.get h e
  exact ⟨v, by rw [DpAll.length h]; exact h1, h2⟩
theorem ss_popD {i : Nat} : SS cv W (tDrop (tBM0 K "list" rPop (tVar i))) (oPop i fun _ ρ => .nx ρ) := fun B F H ρ σ D A q => by
  unfold oPop at q
  split at q
  · rename_i ds e
    split at q
    · rename_i d ed
      obtain ⟨e0, a, xs, z1, z2, z3, z4, z5⟩ := A.ok i _ e
      obtain ⟨v, e1, e2⟩ := pop_get z5 ed
      refine ⟨.ref a, sAt_some z1, .inl ⟨rfl, xs, .inl (.inl z4)⟩, a, xs, v, rfl, rfl, z4, e1, ?_⟩
      refine q F _ σ Nw.refl (A.own e rfl z1 z2 z3 ?_)
      exact ⟨by rw [List.length_dropLast]; exact Nat.le_trans (Nat.sub_le _ _) e0, a, _, z1, z2, z3, upd_same, DpAll.dropLast z5⟩
    · exact q.elim
  · exact q.elim
theorem ss_popA {i : Nat} {is : List Nat} {g : TG} {b : Dn.D → En → Option En} (hg : SG cv is g b) : SS cv W (tAsg (tBM0 K "list" rPop (tVar i)) g) (oPop i fun d ρ => match b d ρ with
    | some ρ' => .nx ρ'
    | none => .stk) := fun B F H ρ σ D A q => by
  unfold oPop at q
  split at q
  · rename_i ds e
    split at q
    · rename_i d ed
      obtain ⟨e0, a, xs, z1, z2, z3, z4, z5⟩ := A.ok i _ e
      obtain ⟨v, e1, e2⟩ := pop_get z5 ed
      refine ⟨.ref a, sAt_some z1, .inl ⟨rfl, xs, .inl (.inl z4)⟩, a, xs, v, rfl, rfl, z4, e1, ?_⟩
      have A1 : Ag cv B F (upd H a (.lst xs.dropLast)) (ρ.set i (.ol ds.dropLast)) σ := A.own e rfl z1 z2 z3 ⟨by rw [List.length_dropLast]; exact Nat.le_trans (Nat.sub_le _ _) e0, a, _, z1, z2, z3, upd_same, DpAll.dropLast z5⟩
      dsimp only at q
      split at q
      · rename_i ρ' eb
        exact hg B F _ _ ρ' σ v d _ A1 e2 eb fun F' H' σ' n' A' _ => q F' H' σ' n' A'
      · exact q.elim
    · exact q.elim
  · exact q.elim

/-! ### xs.extend(e), e a new list -/
def oExt (i : Nat) (d : En → R (List D)) : En → Out := fun ρ => match ρ[i]? with
  | some (.ol ds) => toO (d ρ) ρ fun xs => if ds.length + xs.length ≤ M then .nx (ρ.set i (.ol (ds ++ xs))) else .stk
  | _ => .stk
theorem ss_ext {i : Nat} {t : TE} {d : En → R (List D)} (h : SL cv W t d) : SS cv W (tDrop (tBM K "list" rExtend (tVar i) (tCons t tNil))) (oExt i d) := fun B F H ρ σ D A q => by
  unfold oExt at q
  split at q
  · rename_i ds e
    obtain ⟨e0, a, xs, e1, e2, e3, e4, e5⟩ := A.ok i _ e
    refine ⟨.ref a, sAt_some e1, .inl ⟨rfl, xs, .inl (.inl e4)⟩, ?_⟩
    refine h.bindS A q fun zs F1 H1 v n1 A1 ⟨l0, b, vs, l1, l2, l3, l4, l5, l6⟩ h1 => ?_
    subst l1
    obtain ⟨_, a', xs', e1', e2', e3', e4', e5'⟩ := A1.ok i _ e
    rw [e1] at e1'
    cases e1'
    split at h1
    · rename_i hz
      refine ⟨a, b, xs', vs, rfl, rfl, e4', l4, by rw [DpAll.length e5', DpAll.length l5]; exact M_line hz, ?_⟩
      refine h1 F1 _ σ Nw.refl (A1.own e rfl e1 e2' e3' ?_)
      exact ⟨by rw [List.length_append]; exact hz, a, _, e1, e2', e3', upd_same, DpAll.append e5' l5⟩
    · exact h1.elim
  · exact q.elim

/-! ### methods that tell of data -/
def dBm (ty : D → Bool) (p : D → List D → R D) (a : En → R D) (ds : List (En → R D)) : En → R D := fun ρ => a ρ >>= fun x => if ty x then dArgs ds ρ >>= fun xs => p x xs else .stk
def RelMth (cv : Cv) (W : WX) (r : V → List V → Hp → VK → Prop) (p : D → List D → R D) : Prop :=
  ∀ (B F H : Hp) (ρ : En) (σ : St) (v : V) (vs : List V) (d : D) (ds : List D) (Q : VK), Ag cv B F H ρ σ → Dp [] F v d → DpAll [] F vs ds → Post cv W relD B F ρ σ (p d ds) Q → r v vs H Q
def isS : D → Bool
  | .str _ => true
  | _ => false
def isL : D → Bool
  | .list _ => true
  | _ => false
theorem se_bmS {r : V → List V → Hp → VK → Prop} {p : D → List D → R D} {to : TE} {t : TA} {a : En → R D} {ds : List (En → R D)} (hr : RelMth cv W r p) (ho : SE cv W to a) (h : SA cv W t (dArgs ds)) : SE cv W (tBM K "str" r to t) (dBm isS p a ds) := fun B F H ρ σ Q A hq =>
  ho.bind A hq fun x F1 H1 v n1 A1 e1 h1 => by
    split at h1
    · rename_i hx
      cases e1 with
      | str z => exact ⟨rfl, h.bind A1 h1 fun xs F2 H2 vs n2 A2 e2 h2 => hr B F2 H2 ρ σ _ vs _ xs Q A2 (.str z) e2 h2⟩
      | non => cases hx
      | bl _ => cases hx
      | int _ => cases hx
      | lst _ _ => cases hx
      | tup _ _ => cases hx
    · exact h1.elim
theorem se_bmL {r : V → List V → Hp → VK → Prop} {p : D → List D → R D} {to : TE} {t : TA} {a : En → R D} {ds : List (En → R D)} (hr : RelMth cv W r p) (ho : SE cv W to a) (h : SA cv W t (dArgs ds)) : SE cv W (tBM K "list" r to t) (dBm isL p a ds) := fun B F H ρ σ Q A hq =>
  ho.bind A hq fun x F1 H1 v n1 A1 e1 h1 => by
    split at h1
    · rename_i hx
      cases e1 with
      | lst s b => exact ⟨.inl ⟨rfl, _, SqL.sub A1 s⟩, h.bind A1 h1 fun xs F2 H2 vs n2 A2 e2 h2 => hr B F2 H2 ρ σ _ vs _ xs Q A2 (Dp.le n2.1 (.lst s b)) e2 h2⟩
      | non => cases hx
      | bl _ => cases hx
      | int _ => cases hx
      | str _ => cases hx
      | tup _ _ => cases hx
    · exact h1.elim
abbrev rJoin (K : PySem.W.Frag) : V → List V → Hp → VK → Prop := fun x xs H Q => ∃ a p, ∃ ys : List Str, x = .str a ∧ xs = [.ref p] ∧ (SqL K H p (ys.map V.str) ∨ SqT K H p (ys.map V.str)) ∧
    (ys.map (·.length)).sum + ys.length * a.length ≤ 16777216 ∧ Q (.str (Txt.join a ys)) H
def joinOf (a : Str) (ds : List D) : R D := match asStrs ds with
  | some ys => if (ys.map (·.length)).sum + ys.length * a.length ≤ 16777216 then .val (.str (Txt.join a ys)) else .stk
  | none => .stk
def pJoin : D → List D → R D
  | .str a, [.list ds] => joinOf a ds
  | .str a, [.tuple ds] => joinOf a ds
  | _, _ => .stk
theorem joinOf_val {a : Str} {ds : List D} {Q : VK} {xs : List V} (h : Post cv W relD B F ρ σ (joinOf a ds) Q) (A : Ag cv B F H ρ σ) (e : DpAll [] F xs ds) : ∃ ys : List Str, xs = ys.map V.str ∧ (ys.map (·.length)).sum + ys.length * a.length ≤ 16777216 ∧ Q (.str (Txt.join a ys)) H := by
  unfold joinOf at h
  split at h
  · rename_i ys z
    split at h
    · rename_i hz
      exact ⟨ys, asStrs_eq z e, hz, h.ret A (.str _)⟩
    · exact h.elim
  · exact h.elim
theorem rm_join : RelMth cv W (rJoin K) pJoin := fun B F H ρ σ v vs d ds Q A e es hp => by
  unfold pJoin at hp
  split at hp
  · rename_i a ds
    have e' := Dp.str' e
    subst e'
    cases es with
    | cons x r =>
      cases r
      cases x with
      | lst s b =>
        obtain ⟨ys, rfl, hz, q⟩ := joinOf_val hp A b
        exact ⟨a, _, ys, rfl, rfl, .inl (SqL.sub A s), hz, q⟩
  · rename_i a ds
    have e' := Dp.str' e
    subst e'
    cases es with
    | cons x r =>
      cases r
      cases x with
      | tup s b =>
        obtain ⟨ys, rfl, hz, q⟩ := joinOf_val hp A b
        exact ⟨a, _, ys, rfl, rfl, .inr (SqT.sub A s), hz, q⟩
  · exact hp.elim
abbrev rSCount : V → List V → Hp → VK → Prop := fun x xs H Q => ∃ a b, x = .str a ∧ xs = [.str b] ∧ Q (.int (Txt.count a b)) H
abbrev rSFind : V → List V → Hp → VK → Prop := fun x xs H Q => ∃ a b, x = .str a ∧ xs = [.str b] ∧ Q (.int (Txt.find a b)) H
def pSCount : D → List D → R D
  | .str a, [.str b] => .val (.int (Txt.count a b))
  | _, _ => .stk
def pSFind : D → List D → R D
  | .str a, [.str b] => .val (.int (Txt.find a b))
  | _, _ => .stk
theorem rm_SS {g : Str → Str → Int} {p : D → List D → R D} (hp0 : ∀ d ds, (∃ a b, d = .str a ∧ ds = [.str b] ∧ p d ds = .val (.int (g a b))) ∨ p d ds = .stk) : RelMth cv W (fun x xs H Q => ∃ a b, x = .str a ∧ xs = [.str b] ∧ Q (.int (g a b)) H) p := fun B F H ρ σ v vs d ds Q A e es hp => by
  rcases hp0 d ds with ⟨a, b, rfl, rfl, z⟩ | z
  · rw [z] at hp
    have e' := Dp.str' e
    subst e'
    cases es with
    | cons x r =>
      cases r
      have x' := Dp.str' x
      subst x'
      exact ⟨a, b, rfl, rfl, hp.ret A (.int _)⟩
  · rw [z] at hp; exact hp.elim
theorem rm_scount : RelMth cv W rSCount pSCount := rm_SS fun d ds => by
  unfold pSCount
  split
  · exact .inl ⟨_, _, rfl, rfl, rfl⟩
  · exact .inr rfl
theorem rm_sfind : RelMth cv W rSFind pSFind := rm_SS fun d ds => by
  unfold pSFind
  split
  · exact .inl ⟨_, _, rfl, rfl, rfl⟩
  · exact .inr rfl

/-! ### raise -/
def oRaise (c : Ex) : En → Out := fun ρ => .xc c ρ
theorem ss_raise {c : Ex} : SS cv W (fun _ σ H => W (cv c) none σ H) (oRaise c) := fun B F H ρ σ D A q => q F H σ Nw.refl A

/-! ### dict displays, looked up at once -/
def asK : D → R Key
  | .int i => .val (.inl i)
  | .str x => .val (.inr x)
  | _ => .stk
theorem asK_eq {v : V} {d : D} {k : Key} (h : asK d = .val k) (e : Dp [] F v d) : v = kV k := by
  cases e with
  | int i => cases h; rfl
  | str x => cases h; rfl
  | non => cases h
  | bl _ => cases h
  | lst _ _ => cases h
  | tup _ _ => cases h
def dPairs : List ((En → R D) × (En → R D)) → En → R (List (Key × D))
  | [], _ => .val []
  | (a, b) :: r, ρ => a ρ >>= fun x => asK x >>= fun k => b ρ >>= fun y => dPairs r ρ >>= fun ps => .val ((k, y) :: ps)
theorem Ag.off {a : Addr} {o : HO} (A : Ag cv (upd B a o) F H ρ σ) (hB : B a = none) (ho : ∀ x u, o ≠ .frz x u) : Ag cv B F H ρ σ where
  sub := A.sub
  prot := fun b u e => A.prot b u (le_upd hB b u e)
  nb := fun b u e => A.nb b u (le_upd hB b u e)
  tabs := A.tabs
  sz := A.sz
  len := A.len
  ok := fun i s e => by
    have q := A.ok i s e
    have nn : ∀ b, upd B a o b = none → B b = none := fun b z => by
      by_cases c : b = a
      · rw [c, upd_same] at z; cases z
      · rw [upd_ne c] at z; exact z
    cases s with
    | un => trivial
    | fz d => exact q
    | ol ds => obtain ⟨e0, b, xs, e1, e2, e3, e4, e5⟩ := q; exact ⟨e0, b, xs, e1, e2, nn _ e3, e4, e5⟩
    | od ds => obtain ⟨b, xs, e1, e2, e3, e4, e5⟩ := q; exact ⟨b, xs, e1, e2, nn _ e3, e4, e5⟩
    | lk kvs =>
      exact q
  dj := A.dj
theorem Nw.off {a : Addr} {o : HO} (n : Nw (upd B a o) F F') (hB : B a = none) : Nw B F F' := ⟨n.1, fun b u e => (n.2 b u e).imp id fun z => by
  by_cases c : b = a
  · rw [c]; exact hB
  · rw [upd_ne c] at z; exact z⟩
theorem Nw.keep {a : Addr} {o : HO} (n : Nw (upd B a o) F F') (h : F a = none) : F' a = none := by
  cases z : F' a with
  | none => rfl
  | some u =>
    rcases n.2 a u z with y | y
    · rw [h] at y; cases y
    · rw [upd_same] at y; cases y
/-- a reading while a thing of nobody's stands -/
theorem Sm.guard {α γ δ : Type} {rel' : Hp → Hp → Hp → En → St → δ → γ → Prop} {t : TE} {d : En → R D} {f : D → R γ} {Q : δ → Hp → Prop} {Q' : VK} {a : Addr} {o : HO} (s : SE cv W t d) (A : Ag cv B F H ρ σ) (hF : F a = none) (hB : B a = none) (hH : H a = some o) (fr : Free a ρ σ) (ho : ∀ x u, o ≠ .frz x u) (no : isT o = false)
    (h : Post cv W rel' B F ρ σ (d ρ >>= f) Q)
    (k : ∀ x F' H' b, Nw B F F' → Ag cv B F' H' ρ σ → F' a = none → H' a = some o → Dp [] F' b x → Post cv W rel' B F' ρ σ (f x) Q → Q' b H') : t σ H Q' := by
  refine s (upd B a o) F H ρ σ Q' (A.moreB hB hH fr no) ?_
  cases e : d ρ with
  | val x =>
    rw [e] at h
    exact fun F' H' b n A' r => k x F' H' b (n.off hB) (A'.off hB ho) (n.keep hF) (A'.prot a o upd_same) r (Post.nw h (n.off hB))
  | exc c =>
    rw [e] at h
    exact fun F' H' n A' => h F' H' (n.off hB) (A'.off hB ho)
  | stk =>
    rw [e] at h
    exact h.elim

theorem R.bind_assoc {α β γ : Type} (r : R α) (f : α → R β) (g : β → R γ) : ((r >>= f) >>= g) = (r >>= fun x => f x >>= g) := by cases r <;> rfl
/-! #### the pairs of a display -/
inductive SPs (cv : Cv) (W : WX) : List (TE × TE) → List ((En → R D) × (En → R D)) → Prop
  | nil : SPs cv W [] []
  | cons {tk tv : TE} {r : List (TE × TE)} {a b : En → R D} {rd : List ((En → R D) × (En → R D))} (hk : SE cv W tk a) (hv : SE cv W tv b) (hr : SPs cv W r rd) : SPs cv W ((tk, tv) :: r) ((a, b) :: rd)
theorem asK_bind {γ δ : Type} {rel' : Hp → Hp → Hp → En → St → δ → γ → Prop} {Q : δ → Hp → Prop} {d : D} {f : Key → R γ} (h : Post cv W rel' B F ρ σ (asK d >>= f) Q) : ∃ k, asK d = .val k ∧ Post cv W rel' B F ρ σ (f k) Q := by
  cases d with
  | int i => exact ⟨.inl i, rfl, h⟩
  | str x => exact ⟨.inr x, rfl, h⟩
  | none => exact h.elim
  | bool _ => exact h.elim
  | list _ => exact h.elim
  | tuple _ => exact h.elim
  | dict _ => exact h.elim
theorem pairs_run {p : Addr} {γ0 δ0 : Type} {rel0 : Hp → Hp → Hp → En → St → δ0 → γ0 → Prop} : ∀ {trs : List (TE × TE)} {ds : List ((En → R D) × (En → R D))} {F H : Hp} {Q : List (Key × D) → List (Key × V) → Hp → Hp → Prop} {f : List (Key × D) → R γ0} {QQ : δ0 → Hp → Prop}, SPs cv W trs ds → Ag cv B F H ρ σ → F p = none → B p = none → H p = some (.dK []) → Free p ρ σ →
    Post cv W rel0 B F ρ σ (dPairs ds ρ >>= f) QQ →
    ∀ Q' : List (V × V) → Hp → Prop, (∀ kvs F' H' ks, Nw B F F' → Ag cv B F' H' ρ σ → F' p = none → H' p = some (.dK []) → KVp F' ks kvs → ks.length = ds.length → Post cv W rel0 B F' ρ σ (f kvs) QQ → Q' (ks.map fun kv => (kV kv.1, kv.2)) H') → tPairs trs σ H Q'
  | [], _, F, H, _, _, _, .nil, A, hF, hB, hH, fr, h, Q', k => k [] F H [] Nw.refl A hF hH .nil rfl h
  | (tk, tv) :: r, _, F, H, Q, f, QQ, .cons (a := a) (b := b) (rd := rd) hk hv hr, A, hF, hB, hH, fr, h, Q', k => by
    replace h : Post cv W rel0 B F ρ σ (a ρ >>= fun x => (asK x >>= fun k => b ρ >>= fun y => dPairs rd ρ >>= fun ps => .val ((k, y) :: ps)) >>= f) QQ := by
      unfold dPairs at h
      rw [R.bind_assoc] at h
      exact h
    refine Sm.guard (α := D) hk A hF hB hH fr (fun _ _ z => by cases z) rfl h fun x F1 H1 v n1 A1 f1 h1 e1 q1 => ?_
    have q1' : Post cv W rel0 B F1 ρ σ (asK x >>= fun k => (b ρ >>= fun y => dPairs rd ρ >>= fun ps => .val ((k, y) :: ps)) >>= f) QQ := by rw [← R.bind_assoc]; exact q1
    obtain ⟨ky, ek, q2⟩ := asK_bind q1'
    have q2' : Post cv W rel0 B F1 ρ σ (b ρ >>= fun y => (dPairs rd ρ >>= fun ps => .val ((ky, y) :: ps)) >>= f) QQ := by
      rw [← R.bind_assoc]
      exact q2
    refine Sm.guard (α := D) hv A1 f1 hB h1 fr (fun _ _ z => by cases z) rfl q2' fun y F2 H2 w n2 A2 f2 h2 e2 q3 => ?_
    have q3' : Post cv W rel0 B F2 ρ σ (dPairs rd ρ >>= fun ps => f ((ky, y) :: ps)) QQ := by
      rw [R.bind_assoc] at q3
      exact q3
    refine pairs_run (Q := Q) hr A2 f2 hB h2 fr q3' _ fun kvs F3 H3 ks n3 A3 f3 h3 e3 hl q4 => ?_
    have ev := asK_eq ek e1
    subst ev
    exact k ((ky, y) :: kvs) F3 H3 ((ky, w) :: ks) ((n1.trans n2).trans n3) A3 f3 h3 (.cons ⟨rfl, Dp.le n3.1 e2⟩ e3) (congrArg (· + 1) hl) q4
end
section
variable {K : PySem.W.Frag} {cv : Cv} {W : WX} {B B' F F' H H' : Hp} {ρ ρ' : En} {σ : St}
def valD (kvs : List (Key × D)) (k : Key) : Option D := (kvs.find? fun kv => decide (kv.1 = k)).map (·.2)
def putD (kvs : List (Key × D)) (k : Key) (v : D) : List (Key × D) :=
  if (kvs.any fun kv => decide (kv.1 = k)) = true then kvs.map (fun kv => if kv.1 = k then (kv.1, v) else kv) else kvs ++ [(k, v)]
theorem valD_pos {p : Key × D} {r : List (Key × D)} {k : Key} (e : p.1 = k) : valD (p :: r) k = some p.2 := by simp [valD, List.find?_cons, e]
theorem valD_neg {p : Key × D} {r : List (Key × D)} {k : Key} (e : ¬ p.1 = k) : valD (p :: r) k = valD r k := by simp [valD, List.find?_cons, e]
theorem KVp.any {ks : List (Key × V)} {kvs : List (Key × D)} (h : KVp F ks kvs) (k : Key) : (ks.any fun kv => decide (kv.1 = k)) = kvs.any fun kv => decide (kv.1 = k) := by
  induction h with
  | nil => rfl
  | cons a _ ih => rw [List.any_cons, List.any_cons, a.1, ih]
theorem KVp.val {ks : List (Key × V)} {kvs : List (Key × D)} (h : KVp F ks kvs) (k : Key) : (valD kvs k = none ∧ valV ks k = none) ∨ ∃ v d, valD kvs k = some d ∧ valV ks k = some v ∧ Dp [] F v d := by
  induction h with
  | nil => exact .inl ⟨rfl, rfl⟩
  | @cons a b _ _ h _ ih =>
    by_cases e : a.1 = k
    · rw [valV_pos e, valD_pos (h.1 ▸ e)]
      exact .inr ⟨_, _, rfl, rfl, h.2⟩
    · rw [valV_neg e, valD_neg (fun z => e (h.1.trans z))]
      exact ih
theorem KVp.app {ks ls : List (Key × V)} {kvs lvs : List (Key × D)} (h : KVp F ks kvs) (h' : KVp F ls lvs) : KVp F (ks ++ ls) (kvs ++ lvs) := by
  induction h with
  | nil => exact h'
  | cons a _ ih => exact .cons a ih
theorem KVp.put {ks : List (Key × V)} {kvs : List (Key × D)} {v : V} {d : D} (h : KVp F ks kvs) (k : Key) (e : Dp [] F v d) : KVp F (putK ks k v) (putD kvs k d) := by
  unfold putK putD
  rw [h.any k]
  split
  · rename_i hh
    clear hh
    induction h with
    | nil => exact .nil
    | @cons a b _ _ h _ ih =>
      rw [List.map_cons, List.map_cons]
      refine .cons ?_ ih
      by_cases c : a.1 = k
      · rw [if_pos c, if_pos (h.1 ▸ c)]; exact ⟨h.1, e⟩
      · rw [if_neg c, if_neg (fun z => c (h.1.trans z))]; exact h
  · exact h.app (.cons ⟨rfl, e⟩ .nil)
def mergeD (kvs more : List (Key × D)) : List (Key × D) := more.foldl (fun acc kv => putD acc kv.1 kv.2) kvs
theorem KVp.merge {ks ls : List (Key × V)} {kvs lvs : List (Key × D)} (h : KVp F ks kvs) (h' : KVp F ls lvs) : KVp F (mergeK ks ls) (mergeD kvs lvs) := by
  induction h' generalizing ks kvs with
  | nil => exact h
  | @cons a b _ _ e _ ih =>
    refine ih ?_
    have q := h.put a.1 e.2
    rw [e.1] at q
    show KVp F (putK ks a.1 a.2) (putD kvs b.1 b.2)
    rw [e.1]
    exact q
theorem KVp.length {ks : List (Key × V)} {kvs : List (Key × D)} (h : KVp F ks kvs) : ks.length = kvs.length := by
  induction h with
  | nil => rfl
  | cons _ _ ih => rw [List.length_cons, List.length_cons, ih]
/-- a dict display: a new dict -/
def dDisp (ds : List ((En → R D) × (En → R D))) : En → R (List (Key × D)) := fun ρ => dPairs ds ρ >>= fun kvs => .val (mergeD [] kvs)
theorem sk_disp {trs : List (TE × TE)} {ds : List ((En → R D) × (En → R D))} (h : SPs cv W trs ds) (hn : ds.length ≤ 15 := by decide) : SK cv W (tDisp trs) (dDisp ds) := fun B F H ρ σ Q A hq p hp => by
  obtain ⟨A1, hF, hB⟩ := A.loose (.dK []) hp
  have fr : Free p ρ σ := free_new A hp
  refine pairs_run (Q := fun _ _ _ _ => True) h A1 hF hB upd_same fr hq _ fun kvs F' H' ks n A2 f2 h2 e hl q => ⟨h2, ks, rfl, by rw [hl]; exact hn, ?_⟩
  exact q F' _ _ Nw.refl (A2.updFree f2 hB fr h2) ⟨p, _, rfl, f2, hB, upd_same, KVp.merge .nil e, fr⟩
theorem sk_new : SK cv W tDNewK (fun _ => .val []) := fun B F H ρ σ Q A hq p hp => by
  obtain ⟨A1, hF, hB⟩ := A.loose (.dK []) hp
  exact hq F _ _ Nw.refl A1 ⟨p, [], rfl, hF, hB, upd_same, .nil, free_new A hp⟩
def getD (kvs : List (Key × D)) (k : Key) : R D := match valD kvs k with
  | some d => .val d
  | none => .stk
def dGetN (a : En → R (List (Key × D))) (b : En → R D) : En → R D := fun ρ => a ρ >>= fun kvs => b ρ >>= fun y => asK y >>= fun k => getD kvs k
theorem get_of {ks : List (Key × V)} {kvs : List (Key × D)} {k : Key} {Q : VK} (h : KVp F ks kvs) (A : Ag cv B F H ρ σ) (q : Post cv W relD B F ρ σ (getD kvs k) Q) : ∃ v, valV ks k = some v ∧ Q v H := by
  unfold getD at q
  rcases h.val k with ⟨e, _⟩ | ⟨v, d, e1, e2, e3⟩
  · rw [e] at q; exact q.elim
  · rw [e1] at q
    exact ⟨v, e2, q.ret A e3⟩
/-- {..}[y] -/
theorem se_dgetN {td ty : TE} {a : En → R (List (Key × D))} {b : En → R D} (ha : SK cv W td a) (hb : SE cv W ty b) : SE cv W (tDGet td ty) (dGetN a b) := fun B F H ρ σ Q A hq =>
  ha.bind A hq fun kvs F1 H1 x n1 A1 ⟨p, ks, e1, e2, e3, e4, e5, e6⟩ h1 => by
    refine Sm.guard (α := D) hb A1 e2 e3 e4 e6 (fun _ _ z => by cases z) rfl h1 fun y F2 H2 v n2 A2 f2 h2 ey q2 => ?_
    obtain ⟨k, ek, q3⟩ := asK_bind q2
    have ev := asK_eq ek ey
    obtain ⟨w, ew, q4⟩ := get_of (KVp.app (lvs := []) (ls := []) (by
      have := KVp.le n2.1 e5
      exact this) .nil) A2 (by rw [List.append_nil]; exact q3)
    rw [List.append_nil] at ew
    exact ⟨p, w, e1, .inl ⟨ks, k, .inl h2, ev, ew.symm⟩, q4⟩
/-- what a slot's dict holds -/
def odAt (ρ : En) (i : Nat) : R (List (Key × D)) := match ρ[i]? with
  | some (.od kvs) => .val kvs
  | some (.lk kvs) => .val kvs
  | _ => .stk
theorem odAt_rd (A : Ag cv B F H ρ σ) {i : Nat} {kvs : List (Key × D)} (h : odAt ρ i = .val kvs) : ∃ a ks, sAt σ i = some (.ref a) ∧ Rd H a (.dK ks) ∧ KVp F ks kvs := by
  unfold odAt at h
  split at h
  · rename_i kvs' e
    cases h
    obtain ⟨a, ks, e1, e2, e3, e4, e5⟩ := A.ok i _ e
    exact ⟨a, ks, e1, .inl e4, e5⟩
  · rename_i kvs' e
    cases h
    obtain ⟨a, ks, o, e1, e2, e5⟩ := A.ok i _ e
    exact ⟨a, ks, e1, .inr ⟨o, A.sub _ _ e2⟩, e5⟩
  · cases h
theorem odAt_val {γ δ : Type} {rel' : Hp → Hp → Hp → En → St → δ → γ → Prop} {Q : δ → Hp → Prop} {i : Nat} {f : List (Key × D) → R γ} (h : Post cv W rel' B F ρ σ (odAt ρ i >>= f) Q) : ∃ kvs, odAt ρ i = .val kvs ∧ Post cv W rel' B F ρ σ (f kvs) Q := by
  cases e : odAt ρ i with
  | val kvs => rw [e] at h; exact ⟨kvs, rfl, h⟩
  | exc c =>
    unfold odAt at e
    split at e <;> cases e
  | stk => rw [e] at h; exact h.elim
/-- d[y], d a slot's dict -/
def dGetO (i : Nat) (b : En → R D) : En → R D := fun ρ => odAt ρ i >>= fun kvs => b ρ >>= fun y => asK y >>= fun k => getD kvs k
theorem se_dgetO {i : Nat} {ty : TE} {b : En → R D} (hb : SE cv W ty b) : SE cv W (tDGet (tVar i) ty) (dGetO i b) := fun B F H ρ σ Q A hq => by
  obtain ⟨kvs, eo, h1⟩ := odAt_val hq
  obtain ⟨a, ks, z1, _, _⟩ := odAt_rd A eo
  refine ⟨.ref a, sAt_some z1, hb.bind A h1 fun y F2 H2 v n2 A2 ey q2 => ?_⟩
  obtain ⟨k, ek, q3⟩ := asK_bind q2
  have ev := asK_eq ek ey
  obtain ⟨a', ks', z1', rd, e5⟩ := odAt_rd A2 eo
  rw [z1] at z1'
  cases z1'
  obtain ⟨w, ew, q4⟩ := get_of e5 A2 q3
  exact ⟨a, w, rfl, .inl ⟨ks', k, rd, ev, ew.symm⟩, q4⟩
/-- y in d, y not in d -/
def dInO (neg : Bool) (b : En → R D) (i : Nat) : En → R D := fun ρ => b ρ >>= fun y => asK y >>= fun k => odAt ρ i >>= fun kvs => .val (.bool (if neg then !(valD kvs k).isSome else (valD kvs k).isSome))
theorem se_dinO {i : Nat} {ty : TE} {b : En → R D} {neg : Bool} {t : TE} (ht : t = if neg then tDNotIn ty (tVar i) else tDIn ty (tVar i)) (hb : SE cv W ty b) : SE cv W t (dInO neg b i) := fun B F H ρ σ Q A hq => by
  subst ht
  have go : ty σ H fun y H1 => tVar i σ H1 fun x H2 => ∃ a o, x = .ref a ∧ DGet H2 a y o ∧ Q (.bl (if neg then !o.isSome else o.isSome)) H2 := hb.bind A hq fun y F2 H2 v n2 A2 ey q2 => by
    obtain ⟨k, ek, q3⟩ := asK_bind q2
    have ev := asK_eq ek ey
    obtain ⟨kvs, eo, q4⟩ := odAt_val q3
    obtain ⟨a, ks, z1, rd, e5⟩ := odAt_rd A2 eo
    refine ⟨.ref a, sAt_some z1, a, valV ks k, rfl, .inl ⟨ks, k, rd, ev, rfl⟩, ?_⟩
    have es : (valV ks k).isSome = (valD kvs k).isSome := by
      rcases e5.val k with ⟨z, z'⟩ | ⟨_, _, z, z', _⟩ <;> rw [z, z'] <;> rfl
    rw [es]
    exact q4.ret A2 (.bl _)
  cases neg with
  | true => exact go
  | false => exact go
/-- d[y] = e -/
def oPut (i : Nat) (b e : En → R D) : En → Out := fun ρ => match ρ[i]? with
  | some (.od kvs) => toO (e ρ) ρ fun x => toO (b ρ) ρ fun y => toO (asK y) ρ fun k => if kvs.length < M then .nx (ρ.set i (.od (putD kvs k x))) else .stk
  | _ => .stk
theorem ss_put {i : Nat} {ty tv : TE} {b e : En → R D} (hb : SE cv W ty b) (he : SE cv W tv e) : SS cv W (sDPut (tVar i) ty tv) (oPut i b e) := fun B F H ρ σ D A q => by
  unfold oPut at q
  split at q
  · rename_i kvs eo
    refine he.bindS A q fun x F1 H1 v n1 A1 e1 h1 => ?_
    obtain ⟨a, ks, z1, z2, z3, z4, z5⟩ := A1.ok i _ eo
    refine ⟨.ref a, sAt_some z1, hb.bindS A1 h1 fun y F2 H2 w n2 A2 e2 h2 => ?_⟩
    obtain ⟨a', ks', z1', z2', z3', z4', z5'⟩ := A2.ok i _ eo
    rw [z1] at z1'
    cases z1'
    cases ek : asK y with
    | val k =>
      rw [ek] at h2
      have ev := asK_eq ek e2
      subst ev
      replace h2 : PostS cv W B F2 D (if kvs.length < M then .nx (ρ.set i (.od (putD kvs k x))) else .stk) := h2
      split at h2
      · rename_i hz
        refine ⟨a, upd H2 a (.dK (putK ks' k v)), rfl, .inl ⟨ks', k, z4', rfl, by rw [z5'.length]; exact M_line' hz, rfl⟩, ?_⟩
        refine h2 F2 _ σ Nw.refl (A2.own eo rfl z1 z2' z3' ⟨a, _, z1, z2', z3', upd_same, KVp.put z5' k (Dp.le n2.1 e1)⟩)
      · exact h2.elim
    | exc c => cases y <;> cases ek
    | stk => rw [ek] at h2; exact h2.elim
  · exact q.elim
end
end L2.Dn


set_option Elab.async false
set_option linter.all false
set_option maxRecDepth 100000
set_option maxHeartbeats 1000000
/-! Dn9: sorted. -/
namespace L2.Dn
open PySem PySem.Spec PyProof.Rows

/-! ### the order of lists of ints -/
def leL (a b : List Int) : Bool := geL b a
theorem leL_cons {x y : Int} {xs ys : List Int} : leL (x :: xs) (y :: ys) = if x = y then leL xs ys else decide (x ≤ y) := by
  show (if y = x then geL ys xs else decide (x ≤ y)) = _
  by_cases h : x = y
  · rw [if_pos h, if_pos h.symm]; rfl
  · rw [if_neg h, if_neg (Ne.symm h)]
theorem leL_refl : ∀ a, leL a a = true
  | [] => rfl
  | x :: xs => by rw [leL_cons, if_pos rfl]; exact leL_refl xs
theorem leL_nil (a : List Int) : leL [] a = true := by cases a <;> rfl
theorem leL_total : ∀ a b, (leL a b || leL b a) = true
  | [], b => by rw [leL_nil]; rfl
  | a :: as, [] => by rw [leL_nil]; exact Bool.or_true _
  | x :: xs, y :: ys => by
    rw [leL_cons, leL_cons]
    by_cases h : x = y
    · rw [if_pos h, if_pos h.symm]; exact leL_total xs ys
    · rw [if_neg h, if_neg (Ne.symm h), Bool.or_eq_true, decide_eq_true_iff, decide_eq_true_iff]; omega
theorem leL_anti : ∀ {a b}, leL a b = true → leL b a = true → a = b
  | [], [], _, _ => rfl
  | [], y :: ys, _, h => by cases h
  | x :: xs, [], h, _ => by cases h
  | x :: xs, y :: ys, h, k => by
    rw [leL_cons] at h k
    by_cases e : x = y
    · rw [if_pos e] at h
      rw [if_pos e.symm] at k
      rw [e, leL_anti h k]
    · rw [if_neg e, decide_eq_true_iff] at h
      rw [if_neg (Ne.symm e), decide_eq_true_iff] at k
      omega
theorem leL_trans : ∀ a b c, leL a b = true → leL b c = true → leL a c = true
  | [], _, c, _, _ => leL_nil c
  | x :: xs, [], _, h, _ => by cases h
  | x :: xs, y :: ys, [], _, h => by cases h
  | x :: xs, y :: ys, z :: zs, h, k => by
    rw [leL_cons] at h k ⊢
    by_cases e : x = y
    · rw [if_pos e] at h
      subst e
      by_cases e2 : x = z
      · rw [if_pos e2] at k ⊢; exact leL_trans xs ys zs h k
      · rw [if_neg e2] at k ⊢; exact k
    · rw [if_neg e, decide_eq_true_iff] at h
      by_cases e2 : y = z
      · subst e2
        rw [if_neg e, decide_eq_true_iff]; exact h
      · rw [if_neg e2, decide_eq_true_iff] at k
        rw [if_neg (by omega), decide_eq_true_iff]; omega
theorem code_le {B : Int} : ∀ {a b : List Int}, a.length = b.length → TS.Bd B a → TS.Bd B b → TS.code B a ≤ TS.code B b → leL a b = true
  | [], [], _, _, _, _ => rfl
  | [], _ :: _, h, _, _, _ => by cases h
  | _ :: _, [], h, _, _, _ => by cases h
  | x :: xs, y :: ys, hl, h1, h2, h => by
    have hl' : xs.length = ys.length := by simpa using hl
    rw [leL_cons]
    by_cases e : x = y
    · rw [if_pos e]
      subst e
      refine code_le hl' h1.tail h2.tail ?_
      have q := TS.code_same (B := B) (d := x) hl'.symm
      by_cases z : TS.code B ys < TS.code B xs
      · have := q.mpr z; omega
      · omega
    · rw [if_neg e, decide_eq_true_iff]
      by_cases z : y < x
      · have := TS.code_lt hl'.symm h2.tail h1.tail z
        omega
      · omega
def insB {α : Type} (le : α → α → Bool) (x : α) : List α → List α
  | [] => [x]
  | y :: r => if le x y then x :: y :: r else y :: insB le x r
def srtB {α : Type} (le : α → α → Bool) : List α → List α
  | [] => []
  | x :: r => insB le x (srtB le r)
theorem insB_perm {α : Type} (le : α → α → Bool) (x : α) : ∀ (l : List α), (insB le x l).Perm (x :: l)
  | [] => .refl _
  | y :: r => by
    unfold insB
    split
    · exact .refl _
    · exact ((insB_perm le x r).cons y).trans (.swap x y r)
theorem srtB_perm {α : Type} (le : α → α → Bool) : ∀ (l : List α), (srtB le l).Perm l
  | [] => .refl _
  | x :: r => (insB_perm le x _).trans ((srtB_perm le r).cons x)
theorem insB_pw {α : Type} {le : α → α → Bool} (tr : ∀ a b c, le a b = true → le b c = true → le a c = true) (tot : ∀ a b, (le a b || le b a) = true) (x : α) : ∀ (l : List α), l.Pairwise (fun a b => le a b = true) → (insB le x l).Pairwise fun a b => le a b = true
  | [], _ => List.pairwise_singleton _ _
  | y :: r, h => by
    have h' := List.pairwise_cons.mp h
    unfold insB
    cases e : le x y with
    | true =>
      rw [if_pos rfl]
      refine List.pairwise_cons.mpr ⟨fun z hz => ?_, h⟩
      rcases List.mem_cons.mp hz with q | q
      · rw [q]; exact e
      · exact tr _ _ _ e (h'.1 z q)
    | false =>
      rw [if_neg Bool.false_ne_true]
      refine List.pairwise_cons.mpr ⟨fun z hz => ?_, insB_pw tr tot x r h'.2⟩
      rcases List.mem_cons.mp ((insB_perm le x r).mem_iff.mp hz) with q | q
      · rw [q]
        have t := tot x y
        rw [e, Bool.false_or] at t
        exact t
      · exact h'.1 z q
theorem srtB_pw {α : Type} {le : α → α → Bool} (tr : ∀ a b c, le a b = true → le b c = true → le a c = true) (tot : ∀ a b, (le a b || le b a) = true) : ∀ (l : List α), (srtB le l).Pairwise fun a b => le a b = true
  | [] => .nil
  | x :: r => insB_pw tr tot x _ (srtB_pw tr tot r)
def srtT (ts : List (List Int)) : List (List Int) := srtB leL ts
def srtI (ns : List Int) : List Int := srtB (fun a b => decide (a ≤ b)) ns
def leS (a b : Str) : Bool := !decide (b.cps.toList < a.cps.toList)
def srtS (xs : List Str) : List Str := srtB leS xs
theorem srtT_perm (ts : List (List Int)) : (srtT ts).Perm ts := srtB_perm _ ts
theorem srtI_perm (ts : List Int) : (srtI ts).Perm ts := srtB_perm _ ts
theorem srtS_perm (ts : List Str) : (srtS ts).Perm ts := srtB_perm _ ts
theorem srtT_pw (ts : List (List Int)) : (srtT ts).Pairwise fun a b => leL a b = true := srtB_pw leL_trans leL_total ts
theorem srtI_pw (ts : List Int) : (srtI ts).Pairwise fun a b => a ≤ b := (srtB_pw (fun a b c h k => by rw [decide_eq_true_iff] at h k ⊢; omega) (fun a b => by rw [Bool.or_eq_true, decide_eq_true_iff, decide_eq_true_iff]; omega) ts).imp fun h => of_decide_eq_true h
theorem srtT_of {ts us : List (List Int)} (h : us.Perm ts) (k : us.Pairwise fun a b => leL a b = true) : us = srtT ts :=
  List.Perm.eq_of_pairwise (fun a b _ _ => leL_anti) k (srtT_pw ts) (h.trans (srtT_perm ts).symm)
theorem srtI_of {ts us : List Int} (h : us.Perm ts) (k : us.Pairwise fun a b => a ≤ b) : us = srtI ts :=
  List.Perm.eq_of_pairwise (fun a b _ _ h k => Int.le_antisymm h k) k (srtI_pw ts) (h.trans (srtI_perm ts).symm)
theorem lt_nat_irrefl (a : List Nat) : ¬ a < a := List.lt_irrefl a
theorem leS_iff {a b : Str} : leS a b = true ↔ a.cps.toList ≤ b.cps.toList := by
  unfold leS
  rw [Bool.not_eq_true', decide_eq_false_iff_not]
  exact List.not_lt
theorem leS_trans (a b c : Str) (h : leS a b = true) (k : leS b c = true) : leS a c = true := leS_iff.mpr (List.le_trans (leS_iff.mp h) (leS_iff.mp k))
theorem leS_total (a b : Str) : (leS a b || leS b a) = true := by
  rw [Bool.or_eq_true, leS_iff, leS_iff]
  exact List.le_total _ _
theorem leS_anti {a b : Str} (h : leS a b = true) (k : leS b a = true) : a = b := str_ext (List.le_antisymm (leS_iff.mp h) (leS_iff.mp k))
theorem srtS_pw (ts : List Str) : (srtS ts).Pairwise fun a b => leS a b = true := srtB_pw leS_trans leS_total ts
theorem srtS_of {ts us : List Str} (h : us.Perm ts) (k : us.Pairwise fun a b => leS a b = true) : us = srtS ts :=
  List.Perm.eq_of_pairwise (fun a b _ _ => leS_anti) k (srtS_pw ts) (h.trans (srtS_perm ts).symm)
theorem risingS_pw : ∀ {ss : List Str} {p : Str}, risingS p ss = true → (p :: ss).Pairwise fun a b => leS a b = true
  | [], p, _ => List.pairwise_singleton _ _
  | x :: r, p, h => by
    have h' : (!ltCps x.cps.toList p.cps.toList && risingS x r) = true := h
    rw [Bool.and_eq_true] at h'
    have ih := risingS_pw h'.2
    have h1 : leS p x = true := by
      unfold leS
      have q := h'.1
      rw [Bool.not_eq_true'] at q ⊢
      rw [← q]
      exact (ltCps_eq _ _).symm
    refine List.pairwise_cons.mpr ⟨fun y hy => ?_, ih⟩
    rcases List.mem_cons.mp hy with e | hy
    · rw [e]; exact h1
    · exact leS_trans _ _ _ h1 ((List.pairwise_cons.mp ih).1 y hy)
theorem sortedS_pw {ss : List Str} (h : sortedS ss = true) : ss.Pairwise fun a b => leS a b = true := by
  cases ss with
  | nil => exact .nil
  | cons x r => exact risingS_pw h
/-- sorted(xs), texts, any number of them -/
def rSortedSA (K : PySem.W.Frag) : List V → Hp → VK → Prop := fun vs H Q => ∃ (a : Addr) (xs : List Str), vs = [V.ref a] ∧ SqL K H a (xs.map V.str) ∧
  ∀ (ys : List Str) (p : Addr), ys.Perm xs → sortedS ys = true → H p = none → Q (.ref p) (upd H p (.lst (ys.map V.str)))
theorem cr_sortedSA {X : Cx} : CallR X (.builtin "sorted") (rSortedSA X.K) := by
  intro pins s σ H vs us Q I r h
  obtain ⟨a, xs, rfl, hs, q⟩ := h
  obtain ⟨its, rv, hl, hz⟩ := I.list hs
  rw [Vals.ref1 r]
  have hlen0 := rv.length
  rw [List.length_map] at hlen0 hz
  refine PyProof.Rows.sorted_strsAny hl.isList rv.strs (by rw [← hlen0]; exact hz) fun out ys h1 h2 h3 => ?_
  obtain ⟨ep, he'⟩ := PyProof.Rows.sortedAll_at s.heap its out
  have hlen : (ys.map V.str).length ≤ sizeLine := by rw [List.length_map, h2.length_eq]; exact hz
  exact ⟨.ref _, upd H (s.heap.objs.size + 1) (.lst (ys.map V.str)), I.laid (t' := s.toks) (fun _ _ => PyProof.Rows.sortedAll_old) (Nat.le_succ _) ⟨hlen, out.toList, ep, vals_of_strs h1, he'⟩, rfl, q ys _ h2 h3 (I.hok.fresh (Nat.le_succ _))⟩
def rSortTu (K : PySem.W.Frag) : List V → Hp → VK → Prop := fun vs H Q => ∃ (d : Nat) (B : Int), 1 ≤ d ∧ rSortU K d B vs H Q
theorem cr_sortTu {X : Cx} : CallR X (.builtin "sorted") (rSortTu X.K) := by
  intro pins s σ H vs us Q I r h
  obtain ⟨d, B, hd, h⟩ := h
  exact cr_sortT hd pins s σ H vs us Q I r h
def rSortedD (K : PySem.W.Frag) (P : Program) (w : World) : List V → Hp → VK → Prop := fun vs H Q => rSortedI K vs H Q ∨ rSortedSA K vs H Q ∨ rSortTu K vs H Q ∨ rSortedT K P w vs H Q
theorem cr_sortedD {X : Cx} (hc : X.calm = true) : CallR X (.builtin "sorted") (rSortedD X.K X.prog X.w) := CallR.or cr_sortedI (CallR.or cr_sortedSA (CallR.or cr_sortTu (cr_sortedT hc)))
def rSetD (K : PySem.W.Frag) (P : Program) (w : World) : List V → Hp → VK → Prop := rSetOfT K P w
theorem cr_setD {X : Cx} (hc : X.calm = true) (hu : X.A.units + 64 < cLine) : CallR X (.type "set") (rSetD X.K X.prog X.w) := cr_setOfT hc hu

theorem perm_map_inv {α β : Type} {f : α → β} {ks : List α} {ys : List β} (h : ys.Perm (ks.map f)) : ∃ ks' : List α, ys = ks'.map f ∧ ks'.Perm ks := by
  generalize e : ks.map f = zs at h
  induction h generalizing ks with
  | nil => exact ⟨[], rfl, by rw [List.map_eq_nil_iff.mp e]⟩
  | @cons x l1 l2 _ ih =>
    cases ks with
    | nil => cases e
    | cons k ks =>
      rw [List.map_cons] at e
      obtain ⟨e1, e2⟩ := List.cons.inj e
      obtain ⟨ks', e3, e4⟩ := ih e2
      exact ⟨k :: ks', by rw [List.map_cons, e1, e3], e4.cons k⟩
  | @swap x y l =>
    match ks, e with
    | k1 :: k2 :: ks, e =>
      rw [List.map_cons, List.map_cons] at e
      obtain ⟨e1, e2⟩ := List.cons.inj e
      obtain ⟨e3, e4⟩ := List.cons.inj e2
      exact ⟨k2 :: k1 :: ks, by rw [List.map_cons, List.map_cons, e1, e3, e4], .swap _ _ _⟩
  | @trans l1 l2 l3 _ _ ih1 ih2 =>
    obtain ⟨ks2, e2, p2⟩ := ih2 e
    obtain ⟨ks1, e1, p1⟩ := ih1 e2.symm
    exact ⟨ks1, e1, p1.trans p2⟩
theorem eraseDupsL_nodup {α : Type} [BEq α] [LawfulBEq α] : ∀ (n : Nat) (l : List α), l.length ≤ n → l.eraseDups.Nodup
  | _, [], _ => by rw [List.eraseDups_nil]; exact .nil
  | 0, _ :: _, h => absurd h (by simp)
  | n + 1, a :: l, h => by
    rw [List.eraseDups_cons]
    refine List.nodup_cons.mpr ⟨fun z => ?_, eraseDupsL_nodup n _ (Nat.le_trans (List.length_filter_le _ _) (Nat.le_of_succ_le_succ h))⟩
    rw [List.mem_eraseDups] at z
    have q := (List.mem_filter.mp z).2
    simp at q
section
variable {K : PySem.W.Frag} {P : Program} {w : World} {cv : Cv} {W : WX} {B B' F F' H H' : Hp} {ρ ρ' : En} {σ : St}
/-- tuples of ints -/
def asTups : List D → Option (List (List Int))
  | [] => some []
  | .tuple ds :: r => match asInts ds, asTups r with
    | some n, some ns => some (n :: ns)
    | _, _ => none
  | _ :: _ => none
def tupD (t : List Int) : D := .tuple (t.map .int)
def okTups (ts : List (List Int)) : Bool := decide (ts.length < 64) && match ts with
  | [] => true
  | t :: r => decide (1 ≤ t.length) && (t :: r).all fun u => decide (u.length = t.length) && u.all fun x => decide (0 ≤ x) && decide (x < 64)
theorem okTups_few {ts : List (List Int)} (h : okTups ts = true) : ts.length < 64 := by
  unfold okTups at h
  rw [Bool.and_eq_true] at h
  exact of_decide_eq_true h.1
theorem okTups_bd {ts : List (List Int)} (h : okTups ts = true) : ∃ d, 1 ≤ d ∧ ∀ t ∈ ts, t.length = d ∧ TS.Bd 64 t := by
  unfold okTups at h
  rw [Bool.and_eq_true] at h
  cases ts with
  | nil => exact ⟨1, Nat.le_refl _, fun t ht => by cases ht⟩
  | cons t r =>
    have h2 := h.2
    rw [Bool.and_eq_true, decide_eq_true_iff, List.all_eq_true] at h2
    refine ⟨t.length, h2.1, fun u hu => ?_⟩
    have h3 := h2.2 u hu
    rw [Bool.and_eq_true, decide_eq_true_iff, List.all_eq_true] at h3
    refine ⟨h3.1, fun x hx => ?_⟩
    have h4 := h3.2 x hx
    rw [Bool.and_eq_true, decide_eq_true_iff, decide_eq_true_iff] at h4
    exact h4
theorem asInts_ds : ∀ {ds : List D} {ns : List Int}, asInts ds = some ns → ds = ns.map .int
  | [], ns, h => by cases h; rfl
  | .int i :: r, ns, h => by
    cases h2 : asInts r with
    | none => rw [asInts, h2] at h; cases h
    | some ms =>
      rw [asInts, h2] at h
      cases h
      rw [asInts_ds h2]
      rfl
  | .none :: _, _, h => by cases h
  | .bool _ :: _, _, h => by cases h
  | .str _ :: _, _, h => by cases h
  | .list _ :: _, _, h => by cases h
  | .tuple _ :: _, _, h => by cases h
  | .dict _ :: _, _, h => by cases h
/-- the tuples' addresses, with what they hold -/
theorem asTups_eq : ∀ {ds : List D} {ts : List (List Int)} {xs : List V}, asTups ds = some ts → DpAll [] F xs ds → ∃ ks : List (Addr × List Int), xs = ks.map (fun p => V.ref p.1) ∧ ks.map (·.2) = ts ∧ (∀ p ∈ ks, SqT [] F p.1 (p.2.map V.int)) ∧ ds = ts.map tupD
  | [], ts, xs, h, e => by
    cases h
    cases e
    exact ⟨[], rfl, rfl, fun p hp => (by cases hp), rfl⟩
  | d :: r, ts, xs, h, e => by
    cases e with
    | cons a b =>
      cases a with
      | tup s q =>
        rename_i ad xs0 ds0
        replace h : (match asInts ds0, asTups r with
          | some n, some ns => some (n :: ns)
          | _, _ => none) = some ts := h
        cases e1 : asInts ds0 with
        | none => rw [e1] at h; cases h
        | some n =>
          cases e2 : asTups r with
          | none => rw [e1, e2] at h; cases h
          | some ns =>
            rw [e1, e2] at h
            cases h
            obtain ⟨ks, rfl, h2, h3, h4⟩ := asTups_eq e2 b
            have q1 := asInts_eq e1 q
            subst q1
            refine ⟨(ad, n) :: ks, rfl, by rw [List.map_cons, h2], fun p hp => ?_, ?_⟩
            · rcases List.mem_cons.mp hp with e | hp
              · subst e; exact s
              · exact h3 p hp
            · rw [List.map_cons, ← h4]
              congr 1
              unfold tupD
              rw [asInts_ds e1]
      | non => cases h
      | bl _ => cases h
      | int _ => cases h
      | str _ => cases h
      | lst _ _ => cases h
theorem tups_dp {ks : List (Addr × List Int)} (h : ∀ p ∈ ks, SqT [] F p.1 (p.2.map V.int)) : DpAll [] F (ks.map fun p => V.ref p.1) ((ks.map (·.2)).map tupD) := by
  induction ks with
  | nil => exact .nil
  | cons p r ih => exact .cons (.tup (h p List.mem_cons_self) DpAll.dints) (ih fun q hq => h q (List.mem_cons_of_mem _ hq))
def sortD (ds : List D) : R (List D) := match asInts ds with
  | some ns => .val ((srtI ns).map .int)
  | none => match asStrs ds with
    | some xs => .val ((srtS xs).map .str)
    | none => match asTups ds with
      | some ts => if okTups ts then .val ((srtT ts).map tupD) else .stk
      | none => .stk
def pSort : List D → R (List D)
  | [.list ds] => sortD ds
  | _ => .stk
def dSort (a : En → R D) : En → R (List D) := fun ρ => a ρ >>= fun x => asL x >>= sortD
def setSortD (ds : List D) : R (List D) := match asTups ds with
  | some ts => if okTups ts then .val ((srtT ts.eraseDups).map tupD) else .stk
  | none => .stk
/-- sorted(set(xs)), xs a list -/
def dSetSort (a : En → R D) : En → R (List D) := fun ρ => a ρ >>= fun x => asL x >>= setSortD
theorem asL_bind {γ δ : Type} {rel' : Hp → Hp → Hp → En → St → δ → γ → Prop} {Q : δ → Hp → Prop} {d : D} {f : List D → R γ} (h : Post cv W rel' B F ρ σ (asL d >>= f) Q) : ∃ k, d = .list k ∧ Post cv W rel' B F ρ σ (f k) Q := by
  cases d with
  | list k => exact ⟨k, rfl, h⟩
  | none => exact h.elim
  | bool _ => exact h.elim
  | int _ => exact h.elim
  | str _ => exact h.elim
  | tuple _ => exact h.elim
  | dict _ => exact h.elim
theorem newL {Q : VK} {ds : List D} {ys : List V} {p : Addr} (h : Post cv W relL B F ρ σ (.val ds) Q) (A : Ag cv B F H ρ σ) (hz : ds.length ≤ M) (e : DpAll [] F ys ds) (hp : H p = none) : Q (.ref p) (upd H p (.lst ys)) := by
  obtain ⟨A2, hF, hB⟩ := A.loose (.lst ys) hp
  exact h F _ _ Nw.refl A2 ⟨hz, p, ys, rfl, hF, hB, upd_same, e, free_new A hp⟩
theorem sl_sort {t : TE} {a : En → R D} (h : SE cv W t a) : SL cv W (tCB (rSortedD K P w) (tCons t tNil)) (dSort a) := fun B F H ρ σ Q A hq =>
  h.bind A hq fun x F1 H1 v n1 A1 e1 h1 => by
    obtain ⟨ds, rfl, h2⟩ := asL_bind h1
    cases e1 with
    | lst s q =>
      rename_i ad xs
      have hz : ds.length ≤ M := by rw [← DpAll.length q]; exact SqL.sz A1.sz s
      unfold sortD at h2
      split at h2
      · rename_i ns ei
        have q1 := asInts_eq ei q
        subst q1
        have hl : ns.length = ds.length := by rw [← DpAll.length q, List.length_map]
        refine .inl ⟨_, ns, rfl, SqL.sub A1 s, fun ns' p hp hw hn => newL (cv := cv) (W := W) ?_ A1 (by rw [List.length_map, hp.length_eq, hl]; exact hz) DpAll.dints hn⟩
        rw [srtI_of hp hw]
        exact h2
      · split at h2
        · rename_i ns ei
          have q1 := asStrs_eq ei q
          subst q1
          have hl : ns.length = ds.length := by rw [← DpAll.length q, List.length_map]
          refine .inr (.inl ⟨_, ns, rfl, SqL.sub A1 s, fun ns' p hp hw hn => newL (cv := cv) (W := W) ?_ A1 (by rw [List.length_map, hp.length_eq, hl]; exact hz) DpAll.dstrs hn⟩)
          rw [srtS_of hp (sortedS_pw hw)]
          exact h2
        · split at h2
          · rename_i ts et
            split at h2
            · rename_i ok
              obtain ⟨ks, rfl, e2, e3, e4⟩ := asTups_eq et q
              subst e2
              obtain ⟨d, hd, hb⟩ := okTups_bd ok
              have hin : ∀ p ∈ ks, p.2 ∈ ks.map (·.2) := fun p hp => List.mem_map.mpr ⟨p, hp, rfl⟩
              refine .inr (.inr (.inl ⟨d, 64, hd, _, _, rfl, SqL.sub A1 s, by rw [List.length_map]; have := okTups_few ok; rw [List.length_map] at this; exact this, fun x hx => ?_, fun ys p hp hw hn => ?_⟩))
              · obtain ⟨p, hp, rfl⟩ := List.mem_map.mp hx
                exact ⟨p.2, ⟨p.1, rfl, SqT.sub A1 (e3 p hp)⟩, hb p.2 (hin p hp)⟩
              · obtain ⟨ks', e5, e6⟩ := perm_map_inv hp
                subst e5
                have e3' : ∀ p ∈ ks', SqT [] F1 p.1 (p.2.map V.int) := fun p hp => e3 p (e6.mem_iff.mp hp)
                have hq : (ks'.map (·.2)).Pairwise fun a b => leL a b = true := by
                  refine List.pairwise_map.mpr ((List.pairwise_map.mp hw).imp_of_mem fun {p r} hp hr hc => ?_)
                  have m1 := hb p.2 (hin p (e6.mem_iff.mp hp))
                  have m2 := hb r.2 (hin r (e6.mem_iff.mp hr))
                  exact code_le (m1.1.trans m2.1.symm) m1.2 m2.2 (hc p.2 r.2 ⟨p.1, rfl, SqT.sub A1 (e3' p hp)⟩ ⟨r.1, rfl, SqT.sub A1 (e3' r hr)⟩)
                have hs := srtT_of (e6.map (·.2)) hq
                refine newL (cv := cv) (W := W) ?_ A1 ?_ (tups_dp e3') hn
                · rw [hs]; exact h2
                · rw [List.length_map, List.length_map, e6.length_eq]
                  have := DpAll.length q
                  rw [List.length_map] at this
                  rw [this]; exact hz
            · exact h2.elim
          · exact h2.elim
theorem sl_setSort {t : TE} {a : En → R D} (h : SE cv W t a) : SL cv W (tCB (rSortedD K P w) (tCons (tCB (rSetD K P w) (tCons t tNil)) tNil)) (dSetSort a) := fun B F H ρ σ Q A hq =>
  h.bind A hq fun x F1 H1 v n1 A1 e1 h1 => by
    obtain ⟨ds, rfl, h2⟩ := asL_bind h1
    cases e1 with
    | lst s q =>
      unfold setSortD at h2
      split at h2
      · rename_i ts et
        split at h2
        · rename_i ok
          obtain ⟨ks, rfl, e2, e3, e4⟩ := asTups_eq et q
          subst e2
          obtain ⟨d, hd, hb⟩ := okTups_bd ok
          have hin : ∀ p ∈ ks, p.2 ∈ ks.map (·.2) := fun p hp => List.mem_map.mpr ⟨p, hp, rfl⟩
          refine ⟨_, ks, rfl, SqL.sub A1 s, fun p hp => SqT.sub A1 (e3 p hp), by have := okTups_few ok; rw [List.length_map] at this; exact this, fun S L hn hsub hall => ?_⟩
          obtain ⟨A2, f2, b2⟩ := A1.loose (SetTO P w S L) hn
          refine .inr (.inr (.inr ⟨S, L, d, 64, rfl, upd_same, fun p hp => SqT.sub A2 (e3 p (hsub p hp)), hd, fun p hp => hb p.2 (hin p (hsub p hp)), fun L' p hp nd few hw hn2 => ?_⟩))
          have e3' : ∀ p ∈ L', SqT [] F1 p.1 (p.2.map V.int) := fun p hp' => e3 p (hsub p (hp.mem_iff.mp hp'))
          have hq : (L'.map (·.2)).Pairwise fun a b => leL a b = true := by
            refine List.pairwise_map.mpr (hw.imp_of_mem fun {p r} hp' hr hc => ?_)
            have m1 := hb p.2 (hin p (hsub p (hp.mem_iff.mp hp')))
            have m2 := hb r.2 (hin r (hsub r (hp.mem_iff.mp hr)))
            exact code_le (m1.1.trans m2.1.symm) m1.2 m2.2 hc
          have hperm : (L'.map (·.2)).Perm (ks.map (·.2)).eraseDups := by
            refine (List.perm_ext_iff_of_nodup nd (eraseDupsL_nodup _ _ (Nat.le_refl _))).mpr fun t => ?_
            rw [List.mem_eraseDups]
            constructor
            · intro ht
              obtain ⟨p, hp', rfl⟩ := List.mem_map.mp ht
              exact hin p (hsub p (hp.mem_iff.mp hp'))
            · intro ht
              obtain ⟨p, hp', rfl⟩ := List.mem_map.mp ht
              exact (hp.map (·.2)).mem_iff.mpr (hall p hp')
          have hs := srtT_of hperm hq
          refine newL (cv := cv) (W := W) ?_ A2 ?_ (tups_dp e3') hn2
          · rw [hs]; exact h2
          · rw [List.length_map, List.length_map]
            exact Nat.le_trans (Nat.le_of_lt few) (by decide)
        · exact h2.elim
      · exact h2.elim
end
end L2.Dn


set_option Elab.async false
set_option linter.all false
set_option maxRecDepth 100000
set_option maxHeartbeats 1000000
/-! Dn10: short words: what is walked, unions of readings, what is lent, the defs of a program. -/
namespace L2.Dn
open PySem PySem.Spec PyProof.Rows

section
variable {X : Cx} {tg e : Expr}
theorem PE.or {t u : TE} (h : PE X e t) (k : PE X e u) : PE X e (fun σ H Q => t σ H Q ∨ u σ H Q) := ⟨fun pins s σ H Q I q => q.elim (h.run pins s σ H Q I) (k.run pins s σ H Q I)⟩
theorem PG.or {t u : TG} (h : PG X tg t) (k : PG X tg u) : PG X tg (fun v σ H Q => t v σ H Q ∨ u v σ H Q) := ⟨fun pins s σ H v z Q I r q => q.elim (h.run pins s σ H v z Q I r) (k.run pins s σ H v z Q I r)⟩
def tOrE (t u : TE) : TE := fun σ H Q => t σ H Q ∨ u σ H Q
theorem pe_or2 {t u : TE} (h : PE X e t) (k : PE X e u) : PE X e (tOrE t u) := PE.or h k
/-- over a list, a tuple, a text -/
def iAny (K : PySem.W.Frag) (te : TE) : TI := fun σ H R => te σ H fun v H1 => (∃ a, v = .ref a ∧ (∃ xs, SqL K H1 a xs) ∧ R (Itl K a) H1) ∨ (∃ a, v = .ref a ∧ (∃ xs, SqT K H1 a xs) ∧ R (Itt K a) H1) ∨ ∃ x, v = .str x ∧ R (Its x) H1
theorem pi_any {te : TE} (he : PE X e te) : PI X tg e (iAny X.K te) := by
  refine ⟨fun pins s σ H R I h => ?_⟩
  refine thn (he.run pins s σ H _ I h) fun v s1 ⟨y, H1, I1, r1, q1⟩ => ?_
  rcases q1 with ⟨a, e, ⟨xs, hq⟩, q⟩ | ⟨a, e, ⟨xs, hq⟩, q⟩ | ⟨x, ex, q⟩
  · subst e
    cases r1
    obtain ⟨its, rv, p, hz⟩ := I1.list hq
    refine wpAny_pyIter_list p.isList ?_
    refine ⟨s1.heap.objs.size, [s1.heap.objs.size], _, _, H1, rfl, I1.kept (t' := s1.toks) fun b o e => Heap.get?_push_of_some _ e, turn_list a _, ⟨_, Heap.get?_push_size _ rfl, rfl, rfl⟩, fun b hb => ?_, q⟩
    have e : b = s1.heap.objs.size := by simpa using hb
    subst e
    exact I1.fpOk (Nat.le_refl _) (I1.hok.fresh (Nat.le_refl _))
  · subst e
    cases r1
    obtain ⟨its, rv, p, hz⟩ := I1.tuple hq
    refine wpAny_pyIter_tuple (show s1.heap.IsTuple a its.toArray from p) ?_
    refine ⟨s1.heap.objs.size, [s1.heap.objs.size], _, _, H1, rfl, I1.kept (t' := s1.toks) fun b o e => Heap.get?_push_of_some _ e, turn_tuple a _, ⟨_, Heap.get?_push_size _ rfl, rfl, rfl⟩, fun b hb => ?_, q⟩
    have e : b = s1.heap.objs.size := by simpa using hb
    subst e
    exact I1.fpOk (Nat.le_refl _) (I1.hok.fresh (Nat.le_refl _))
  · subst ex
    obtain ⟨t, rfl⟩ := r1
    cases ha : x.cps.all (· < 128)
    · exact wpAny_pyIter_wide ha (pi_one (tk := s1.toks) I1 _ (turn_str _ x t "str_iterator" (.inr rfl)) ⟨_, Heap.get?_push_size _ rfl, rfl, rfl⟩ q)
    · exact wpAny_pyIter_ascii ha (pi_one (tk := s1.toks) I1 _ (turn_str _ x t "str_ascii_iterator" (.inl rfl)) ⟨_, Heap.get?_push_size _ rfl, rfl, rfl⟩ q)
end

section
variable {K : PySem.W.Frag} {cv : Cv} {W : WX} {B B' F F' H H' : Hp} {ρ ρ' : En} {σ : St}
theorem it_str {x : Str} (hz : x.cps.size ≤ M) : ItOk B F (Its x) (signs x) := .same (fun i d F2 H2 f s b e => by
    obtain ⟨c, e2, rfl⟩ := signs_get e
    refine ⟨(Array.getElem?_eq_some_iff.mp e2).1, fun y H3 z => ⟨z.1, ?_⟩⟩
    obtain ⟨c', e3, rfl⟩ := z.2
    rw [e2] at e3
    cases e3
    exact .str _) (fun i F2 H2 f s b e => by
    rw [signs_length] at e
    exact Nat.le_of_eq e.symm) (by rw [signs_length]; exact hz)
theorem si_any {t : TE} {d : En → R D} (h : SE cv W t d) : SI cv W (iAny K t) (dWk anyL d) := fun B F H ρ σ Q A hq =>
  h.bind A hq fun x F1 H1 v n1 A1 e1 h1 => by
    cases e1 with
    | lst s a => exact .inl ⟨_, rfl, ⟨_, SqL.sub A1 s⟩, h1 F1 H1 _ Nw.refl A1 (it_list s a A1.sz)⟩
    | tup s a => exact .inr (.inl ⟨_, rfl, ⟨_, SqT.sub A1 s⟩, h1 F1 H1 _ Nw.refl A1 (it_tup s a A1.sz)⟩)
    | str x =>
      replace h1 : PostI cv W B F1 ρ σ (if x.cps.size ≤ M then .val (signs x) else .stk) Q := h1
      by_cases hz : x.cps.size ≤ M
      · rw [if_pos hz] at h1
        exact .inr (.inr ⟨x, rfl, h1 F1 H1 _ Nw.refl A1 (it_str hz)⟩)
      · rw [if_neg hz] at h1; exact h1.elim
    | non => exact h1.elim
    | bl _ => exact h1.elim
    | int _ => exact h1.elim
/-- a tuple or a text unpacked -/
def bAny (n : Nat) (r : List D → En → Option En) : D → En → Option En := fun d ρ => match d with
  | .str x => bStr n r (.str x) ρ
  | d => bTup n r d ρ
def gAny (K : PySem.W.Frag) (n : Nat) (gs : TGs) : TG := fun v σ H Q => gTup K n gs v σ H Q ∨ gStr n gs v σ H Q
theorem sg_any {is : List Nat} {n : Nat} {gs : TGs} {bs : List D → En → Option En} (h : SGs cv is gs bs) : SG cv is (gAny K n gs) (bAny n bs) := fun B F H ρ ρ' σ v d Q A e hb q => by
  cases e with
  | str x => exact .inr (sg_str h B F H ρ ρ' σ _ _ Q A (.str x) hb q)
  | tup s a => exact .inl (sg_tup h B F H ρ ρ' σ _ _ Q A (.tup s a) hb q)
  | non => cases hb
  | bl _ => cases hb
  | int _ => cases hb
  | lst _ _ => cases hb
theorem pg_any {X : Cx} {pos : Pos} {es : List Expr} {k : Nat} {t : TGs} {n : Nat} (hc : X.calm = true) (h : PGs X es t) (hn : es.length = n := by rfl)
    (h1 : ∀ (hc : X.calm = true) (h : PGs X es t), PG X (.Tuple es k pos) (gTup X.K n t) := by exact fun hc h => pg_tup hc h) (h2 : ∀ (hc : X.calm = true) (h : PGs X es t), PG X (.Tuple es k pos) (gStr n t) := by exact fun hc h => pg_str hc h) : PG X (.Tuple es k pos) (gAny X.K n t) := PG.or (h1 hc h) (h2 hc h)
theorem pt_tru {X : Cx} {a : Expr} {ta : TE} (ha : PE X a ta) (he : ∀ whole, isTrue a X.env whole = (do let v ← whole; standAt a.pos; holding [v] (truthy v)) := by intro _; rfl) : PT X a (tTru X.K ta) := pt_truth ha he
theorem st_truD {t : TE} {d : En → R D} (h : SE cv W t d) : STt cv W (tTru K t) (dTru d) := st_tru h
/-- either reading, as one likes -/
theorem sm_or {α β : Type} {rel : Hp → Hp → Hp → En → St → β → α → Prop} {t u : St → Hp → (β → Hp → Prop) → Prop} {d e : En → R α} (c : En → Bool) (h : Sm cv W rel t d) (k : Sm cv W rel u e) : Sm cv W rel (fun σ H Q => t σ H Q ∨ u σ H Q) (fun ρ => if c ρ then d ρ else e ρ) := fun B F H ρ σ Q A hq => by
  dsimp only at hq
  cases z : c ρ with
  | true => rw [z, if_pos rfl] at hq; exact .inl (h B F H ρ σ Q A hq)
  | false => rw [z, if_neg Bool.false_ne_true] at hq; exact .inr (k B F H ρ σ Q A hq)
/-- not e, as a value -/
def dNotT (a : En → R D) : En → R D := fun ρ => a ρ >>= truth >>= fun k => .val (.bool (!k))
theorem se_notT {t : TE} {a : En → R D} (h : SE cv W t a) : SE cv W (tNotT K t) (dNotT a) := fun B F H ρ σ Q A hq => by
  have s := st_tru (K := K) h
  have q := Sm.bind (rel' := relD) (f := fun k => R.val (PyData.bool (!k))) (Q := Q) (Q' := fun k H' => Q (.bl (!k)) H') s A hq fun k F1 H1 b n1 A1 e1 h1 => by
    have e2 : b = k := e1
    subst e2
    exact h1.ret A1 (.bl _)
  exact q
/-- a index of a list that only this slot holds -/
theorem KVp.le' (h : Le F F') {ks : List (Key × V)} {kvs : List (Key × D)} (k : KVp F ks kvs) : KVp F' ks kvs := KVp.le h k

/-! ### what is lent: the slots is are read as data for one expression -/
def lend (is : List Nat) (ρ : En) : En := ρ.zipIdx.map fun p => match p.1 with
  | .ol ds => if is.contains p.2 then .fz (.list ds) else .un
  | .od _ => .un
  | s => s
theorem lend_get {is : List Nat} {i : Nat} : (lend is ρ)[i]? = (ρ[i]?).map fun s => match s with
  | .ol ds => if is.contains i then .fz (.list ds) else .un
  | .od _ => .un
  | s => s := by
  unfold lend
  rw [List.getElem?_map, List.getElem?_zipIdx]
  cases ρ[i]? with
  | none => rfl
  | some s =>
    show some _ = some _
    rw [Nat.zero_add]
def ownedAt (ρ : En) (σ : St) (a : Addr) : Prop := ∃ (i : Nat) (s : Sl), ρ[i]? = some s ∧ s.own = true ∧ sAt σ i = some (.ref a)
open Classical in
noncomputable def lendB (B H : Hp) (ρ : En) (σ : St) : Hp := fun a => if ownedAt ρ σ a then H a else B a
def lentAt (is : List Nat) (ρ : En) (σ : St) (a : Addr) : Prop := ∃ (i : Nat) (ds : List D), ρ[i]? = some (.ol ds) ∧ is.contains i = true ∧ sAt σ i = some (.ref a)
open Classical in
noncomputable def lendF (is : List Nat) (F H : Hp) (ρ : En) (σ : St) : Hp := fun a => if lentAt is ρ σ a then H a else F a
theorem owned_none (A : Ag cv B F H ρ σ) {a : Addr} (o : ownedAt ρ σ a) : F a = none ∧ B a = none := by
  obtain ⟨i, s, e, ow, z⟩ := o
  have q := A.ok i s e
  cases s with
  | ol ds =>
    obtain ⟨_, b, xs, e1, e2, e3, _⟩ := q
    rw [e1] at z
    cases z
    exact ⟨e2, e3⟩
  | od ds =>
    obtain ⟨b, xs, e1, e2, e3, _⟩ := q
    rw [e1] at z
    cases z
    exact ⟨e2, e3⟩
  | un => cases ow
  | fz _ => cases ow
  | lk _ => cases ow
theorem owned_some (A : Ag cv B F H ρ σ) {a : Addr} (o : ownedAt ρ σ a) : ∃ u, H a = some u ∧ isTC u = false := by
  obtain ⟨i, s, e, ow, z⟩ := o
  have q := A.ok i s e
  cases s with
  | ol ds =>
    obtain ⟨_, b, xs, e1, _, _, e4, _⟩ := q
    rw [e1] at z
    cases z
    exact ⟨_, e4, rfl⟩
  | od ds =>
    obtain ⟨b, xs, e1, _, _, e4, _⟩ := q
    rw [e1] at z
    cases z
    exact ⟨_, e4, rfl⟩
  | un => cases ow
  | fz _ => cases ow
  | lk _ => cases ow
theorem isT_of {o : HO} (h : isTC o = false) : isT o = false := by
  cases o with
  | tbl _ => exact absurd (show true = false from h) Bool.noConfusion
  | _ => rfl
theorem lent_owned {is : List Nat} {a : Addr} (h : lentAt is ρ σ a) : ownedAt ρ σ a := by
  obtain ⟨i, ds, e, _, z⟩ := h
  exact ⟨i, _, e, rfl, z⟩
theorem lendF_le (is : List Nat) (A : Ag cv B F H ρ σ) : Le F (lendF is F H ρ σ) := fun a o e => by
  unfold lendF
  split
  · rename_i h
    rw [(owned_none A (lent_owned h)).1] at e
    cases e
  · exact e
theorem lendB_le (A : Ag cv B F H ρ σ) : Le B (lendB B H ρ σ) := fun a o e => by
  unfold lendB
  split
  · rename_i h
    rw [(owned_none A h).2] at e
    cases e
  · exact e
theorem Ag.lend (is : List Nat) (A : Ag cv B F H ρ σ) : Ag cv (lendB B H ρ σ) (lendF is F H ρ σ) H (lend is ρ) σ where
  sub := fun a o e => by
    unfold lendF at e
    split at e
    · exact e
    · exact A.sub a o e
  prot := fun a o e => by
    unfold lendB at e
    split at e
    · exact e
    · exact A.prot a o e
  nb := fun a o e => by
    unfold lendB at e
    split at e
    · rename_i h
      obtain ⟨u, e1, e2⟩ := owned_some A h
      rw [e1] at e
      rw [← Option.some.inj e]
      exact isT_of e2
    · exact A.nb a o e
  tabs := A.tabs
  sz := fun a o e => by
    unfold lendF at e
    split at e
    · rename_i h
      obtain ⟨i, ds, e1, _, z⟩ := h
      obtain ⟨e0, b, xs, e2, e3, e4, e5, e6⟩ := A.ok i _ e1
      rw [e2] at z
      cases z
      rw [e5] at e
      cases e
      show xs.length ≤ M
      rw [DpAll.length e6]
      exact e0
    · exact A.sz a o e
  len := by unfold Dn.lend; rw [List.length_map, List.length_zipIdx]; exact A.len
  ok := fun i s e => by
    rw [lend_get] at e
    cases e1 : ρ[i]? with
    | none => rw [e1] at e; cases e
    | some s0 =>
      rw [e1] at e
      have q := A.ok i s0 e1
      cases s0 with
      | un => cases e; trivial
      | fz d =>
        cases e
        obtain ⟨v, z1, z2⟩ := q
        exact ⟨v, z1, Dp.le (lendF_le is A) z2⟩
      | od kvs => cases e; trivial
      | lk kvs =>
        cases e
        obtain ⟨a, ks, o, z1, z2, z4⟩ := q
        exact ⟨a, ks, o, z1, lendF_le is A _ _ z2, KVp.le (lendF_le is A) z4⟩
      | ol ds =>
        replace e : (if is.contains i then Sl.fz (.list ds) else .un) = s := Option.some.inj e
        split at e
        · rename_i hc
          subst e
          obtain ⟨e0, b, xs, e2, e3, e4, e5, e6⟩ := q
          refine ⟨.ref b, e2, .lst (.inl (.inl ?_)) (DpAll.le (lendF_le is A) e6)⟩
          unfold lendF
          rw [if_pos ⟨i, ds, e1, hc, e2⟩]
          exact e5
        · subst e; trivial
  dj := fun i j s t a e1 e2 o1 _ _ _ => by
    rw [lend_get] at e1
    cases e : ρ[i]? with
    | none => rw [e] at e1; cases e1
    | some s0 =>
      rw [e] at e1
      cases s0 with
      | un => cases e1; cases o1
      | fz d => cases e1; cases o1
      | od kvs => cases e1; cases o1
      | lk kvs => cases e1; cases o1
      | ol ds =>
        replace e1 : (if is.contains i then Sl.fz (.list ds) else .un) = s := Option.some.inj e1
        split at e1 <;> subst e1 <;> cases o1
/-- given back -/
theorem Ag.back {is : List Nat} (A : Ag cv B F H ρ σ) (n : Le (lendF is F H ρ σ) F') (A' : Ag cv (lendB B H ρ σ) F' H' (Dn.lend is ρ) σ) : Ag cv B F H' ρ σ where
  sub := fun a o e => A'.sub a o (n a o (lendF_le is A a o e))
  prot := fun a o e => A'.prot a o (lendB_le A a o e)
  nb := A.nb
  tabs := A'.tabs
  sz := A.sz
  len := A.len
  ok := fun i s e => by
    have q := A.ok i s e
    have keep : ∀ a, ownedAt ρ σ a → ∀ o, H a = some o → H' a = some o := fun a h o z => A'.prot a o (by unfold lendB; rw [if_pos h]; exact z)
    cases s with
    | un => trivial
    | fz d => exact q
    | ol ds =>
      obtain ⟨e0, b, xs, e2, e3, e4, e5, e6⟩ := q
      exact ⟨e0, b, xs, e2, e3, e4, keep b ⟨i, _, e, rfl, e2⟩ _ e5, e6⟩
    | od ds =>
      obtain ⟨b, xs, e2, e3, e4, e5, e6⟩ := q
      exact ⟨b, xs, e2, e3, e4, keep b ⟨i, _, e, rfl, e2⟩ _ e5, e6⟩
    | lk kvs => exact q
  dj := A.dj
def flatR : D → R D
  | .none => .val .none
  | .bool b => .val (.bool b)
  | .int i => .val (.int i)
  | .str x => .val (.str x)
  | _ => .stk
def dLend (is : List Nat) (d : En → R D) : En → R D := fun ρ => d (lend is ρ) >>= flatR
def dLendT (is : List Nat) (d : En → R Bool) : En → R Bool := fun ρ => d (lend is ρ)
theorem flat_dp {v : V} {d : D} (e : Dp [] F v d) {Q : VK} (A : Ag cv B F' H ρ σ) (h : Post cv W relD B F' ρ σ (flatR d) Q) : Q v H := by
  cases e with
  | non => exact h.ret A .non
  | bl b => exact h.ret A (.bl b)
  | int i => exact h.ret A (.int i)
  | str x => exact h.ret A (.str x)
  | lst _ _ => exact h.elim
  | tup _ _ => exact h.elim
theorem se_lend (is : List Nat) {t : TE} {d : En → R D} (h : SE cv W t d) : SE cv W t (dLend is d) := fun B F H ρ σ Q A hq => by
  refine h _ _ H _ σ Q (A.lend is) ?_
  unfold dLend at hq
  cases e : d (lend is ρ) with
  | val x =>
    rw [e] at hq
    exact fun F' H' v n A' r => flat_dp r (A.back n.1 A') hq
  | exc c =>
    rw [e] at hq
    exact fun F' H' n A' => hq F H' Nw.refl (A.back n.1 A')
  | stk => rw [e] at hq; exact hq
theorem st_lend (is : List Nat) {t : TT} {d : En → R Bool} (h : STt cv W t d) : STt cv W t (dLendT is d) := fun B F H ρ σ Q A hq => by
  refine h _ _ H _ σ Q (A.lend is) ?_
  unfold dLendT at hq
  cases e : d (lend is ρ) with
  | val x =>
    rw [e] at hq
    exact fun F' H' v n A' r => hq F H' v Nw.refl (A.back n.1 A') r
  | exc c =>
    rw [e] at hq
    exact fun F' H' n A' => hq F H' Nw.refl (A.back n.1 A')
  | stk => rw [e] at hq; exact hq
end

/-! ### the defs of a program -/
structure Ok (P : Program) (w : World) (K : PySem.W.Frag) (mg : Str → Option Value) (base : Heap) (k : Nat) (x : Str) (ps : List Str) (sp : Sp) : Prop where
  ex : ∃ (f : Addr) (fd : FuncData), mg x = some (.ref f) ∧ PySem.W.keepIn K (.ref f) = true ∧ Binds K fd ps [] ∧ FnOk P w K mg base (L2.CX P w) k f fd ps sp
section
variable {X : Cx} {W : WX} {x : Str} {ps : List Str} {sp : Sp} {k j : Nat} {e : Expr} {es : List Expr} {t : TA} {p pos : Pos}
theorem pe_ok (o : Ok X.prog X.w X.K X.mg X.base k x ps sp) (hr : Room j X.A) (hk : k ≤ j) (tk : Takes X W) (ha : PA X (e :: es) t) (hg : Gl X x := by rfl) (hdb : (x == ("__debug__" : Str)) = false := by decide)
    (he : starEach (e :: es) X.env = (false, eval e X.env) :: starEach es X.env := by rfl) (hpl : (backTo pos (starEach es X.env)).any (·.1) = false := by rfl) : PE X (.Call (.Name x p) (e :: es) [] pos) (tCallS sp (WE W) t) := by
  obtain ⟨f, fd, hm, kp, b, F⟩ := o.ex
  exact pe_callS F (hr.mono hk) hg hm kp b (fun σ => passAt tk σ) ha hdb he hpl
/-- the same in a comprehension -/
theorem pe_okc (ha : PA X (e :: es) t) (o : Ok X.prog X.w X.K X.mg X.base k x ps sp) (hr : Room j X.A) (hk : k ≤ j := by decide) (tk : Takes X W := by exact takes0) (hg : Gl X x := by rfl) (hdb : (x == ("__debug__" : Str)) = false := by decide)
    (he : starEach (e :: es) X.env = (false, eval e X.env) :: starEach es X.env := by rfl) (hpl : (backTo pos (starEach es X.env)).any (·.1) = false := by rfl) : PE X (.Call (.Name x p) (e :: es) [] pos) (tCallS sp (WE W) t) := pe_ok o hr hk tk ha hg hdb he hpl
/-- a class of refusals -/
structure ExOk (K : PySem.W.Frag) (mg : Str → Option Value) (cv : Cv) (x : Str) (c : Ex) : Prop where
  ex : ∃ (C : Addr) (newId initId : String) (bmB : List Value) (Bs : String), cv c = .ref C ∧ mg x = some (.ref C) ∧ ExcBaseFacts Bs newId initId bmB ∧ PySem.W.excIn K C bmB newId = true ∧ PySem.W.keepIn K (.ref C) = true ∧
    PySem.W.subIn K (.ref C) (.type "BaseException") = some true ∧ PySem.W.typeIn K (.ref C) = some (.type "type")
theorem ps_refuse {cv : Cv} {c : Ex} {m : Str} {i : Nat} {p2 pos2 : Pos} (o : ExOk X.K X.mg cv x c) (hc : X.calm = true) (tk : Takes X W) (hg : Gl X x := by rfl) (hdb : (x == ("__debug__" : Str)) = false := by decide) :
    PS X (.Raise (some (.Call (.Name x p) [.Constant (.str m) i p2] [] pos)) none pos2) (fun _ σ H => W (cv c) none σ H) := by
  obtain ⟨C, newId, initId, bmB, Bs, e1, hm, F, q, kp, sb, ty⟩ := o.ex
  rw [e1]
  exact ps_raise hc tk (pmk_own F q hm kp (raises_own sb ty) hg hdb)
end
end L2.Dn


set_option Elab.async false
set_option linter.all false
set_option maxRecDepth 100000
set_option maxHeartbeats 1000000
/-! Dn11: what the printed walks name. -/
namespace L2.Dn
open PySem PySem.Spec PyProof.Rows
theorem hu0 {A : Around} {k : Nat} (hr : Room k A) : A.units < cLine := by have := hr.un; omega
theorem hu1 {A : Around} {k : Nat} (hr : Room k A) : A.units + 1 < cLine := by have := hr.un; omega
theorem hu64 {A : Around} {k : Nat} (hr : Room k A) : A.units + 64 < cLine := by have := hr.un; omega
theorem hu65 {A : Around} {k : Nat} (hr : Room k A) : A.units + 65 < cLine := by have := hr.un; omega
theorem bt_len : bootBuiltins "len" = some (.builtin "len") := by decide +kernel
theorem bt_sum : bootBuiltins "sum" = some (.builtin "sum") := by decide +kernel
theorem bt_min : bootBuiltins "min" = some (.builtin "min") := by decide +kernel
theorem bt_max : bootBuiltins "max" = some (.builtin "max") := by decide +kernel
theorem bt_sorted : bootBuiltins "sorted" = some (.builtin "sorted") := by decide +kernel
theorem bt_isinstance : bootBuiltins "isinstance" = some (.builtin "isinstance") := by decide +kernel
theorem bt_int : bootBuiltins "int" = some (.type "int") := by decide +kernel
theorem bt_bool : bootBuiltins "bool" = some (.type "bool") := by decide +kernel
theorem bt_str : bootBuiltins "str" = some (.type "str") := by decide +kernel
theorem bt_list : bootBuiltins "list" = some (.type "list") := by decide +kernel
theorem bt_tuple : bootBuiltins "tuple" = some (.type "tuple") := by decide +kernel
theorem bt_set : bootBuiltins "set" = some (.type "set") := by decide +kernel
theorem bt_dict : bootBuiltins "dict" = some (.type "dict") := by decide +kernel
section
variable {X : Cx} {K : PySem.W.Frag} {cv : Cv} {W : WX} {B B' F F' H H' : Hp} {ρ ρ' : En} {σ : St}
def rLenD (K : PySem.W.Frag) : List V → Hp → VK → Prop := rLenA K
theorem call_lenD : CallR X (.builtin "len") (rLenD X.K) := call_len
theorem rc_lenD : RelCall cv W (rLenD K) pLen := rc_len
def rTupD (K : PySem.W.Frag) : List V → Hp → VK → Prop := rTupA K
theorem call_tupD : CallR X (.type "tuple") (rTupD X.K) := call_tuple_of
theorem rc_tupD : RelCall cv W (rTupD K) pTupOf := rc_tup
def rJoinD (K : PySem.W.Frag) : V → List V → Hp → VK → Prop := rJoin K
theorem mt_joinD : MtR X "str.join" (rJoinD X.K) := mt_join
theorem rm_joinD : RelMth cv W (rJoinD K) pJoin := rm_join
theorem call_intA : CallR X (.type "int") rIntA := call_int1
abbrev pIntA := pIntOf
theorem rc_intA : RelCall cv W rIntA pIntA := rc_int
theorem cr_minA (hc : X.calm = true) : CallR X (.builtin "min") (rMin X.K) := cr_min hc
abbrev pMinA := pMin
theorem rc_minA : RelCall cv W (rMin K) pMinA := rc_min
end
end L2.Dn


set_option Elab.async false
set_option linter.all false
set_option maxRecDepth 100000
set_option maxHeartbeats 1000000
/-! Dn12: the end: a law's def as it is asked. -/
namespace L2.Dn
open PySem PySem.Spec PyProof.Rows
/-- a def's promise where it tells a value for sure -/
def spV (T : List Addr) (n : Nat) (d : List D → R D) : Sp := fun vs H Q E => vs.length = n ∧ ∃ F ds x, Le F H ∧ Sz F ∧ TabAll T H ∧ DpAll [] F vs ds ∧ d ds = .val x ∧
  ∀ F' H' v, Le F F' → Le F' H' → Sz F' → Dp [] F' v x → Q v H'
theorem spV_spD {cv : Cv} {n : Nat} {d : List D → R D} {vs : List V} {H : Hp} {Q : VK} {E : XK} (h : spV cv.T n d vs H Q E) : spD cv n d vs H Q E := by
  obtain ⟨hl, F, ds, x, s, z, tb, e, ex, q⟩ := h
  refine ⟨hl, F, ds, s, z, tb, e, ?_⟩
  rw [ex]
  exact fun F' H' v f s _ _ z _ e => q F' H' v f s z e
/-- no list among what is written -/
def noLst (K : PySem.W.Frag) : Bool := K.all fun p => match p.2.cls with
  | .type T => T != "list"
  | _ => true
theorem noLst_seq {K : PySem.W.Frag} (hK : noLst K = true) {H : Hp} {a : Addr} {xs : List V} (h : SqL K H a xs) : Rd H a (.lst xs) := by
  rcases h with h | ⟨o, its, n, e1, e2, _⟩
  · exact h
  · exfalso
    have m : (a, o) ∈ K := by
      clear e2 hK
      induction K with
      | nil => cases e1
      | cons p r ih =>
        obtain ⟨b, u⟩ := p
        rw [List.lookup_cons] at e1
        split at e1
        · rename_i hb
          have hb' : a = b := beq_iff_eq.mp hb
          cases e1
          rw [hb']
          exact List.mem_cons_self
        · exact List.mem_cons_of_mem _ (ih e1)
    have q := List.all_eq_true.mp hK (a, o) m
    dsimp only at q
    rw [e2] at q
    exact absurd q (by decide)
theorem sp_end {K : PySem.W.Frag} {H : Hp} {a : Addr} {ns : List Int} {d : List D → R D} (hK : noLst K = true) (hd : d [.list (ns.map .int)] = .val (.bool true)) (hz : ns.length ≤ 63) {T : List Addr} (tb : TabAll T H) (hS : SqL K H a (ns.map V.int)) :
    spV T 1 d [.ref a] H (fun v _ => v = .bl true) (fun _ _ _ => False) := by
  have r := noLst_seq hK hS
  have hl : (ns.map V.int).length ≤ M := by rw [List.length_map]; exact Nat.le_trans hz (by decide)
  refine ⟨rfl, fun b => if b = a then H a else none, _, _, fun b o e => ?_, fun b o e => ?_, tb, .cons (.lst (.inl ?_) DpAll.dints) .nil, hd, fun F' H' v _ _ _ e => Dp.bl e⟩
  · dsimp only at e
    by_cases q : b = a
    · rw [if_pos q] at e; rw [q]; exact e
    · rw [if_neg q] at e; cases e
  · dsimp only at e
    by_cases q : b = a
    · rw [if_pos q] at e
      rcases r with r | ⟨o', r⟩
      · rw [r] at e; cases e; exact hl
      · rw [r] at e; cases e; exact hl
    · rw [if_neg q] at e; cases e
  · rcases r with r | ⟨o', r⟩
    · exact .inl (by show (if a = a then H a else none) = _; rw [if_pos rfl]; exact r)
    · exact .inr ⟨o', by show (if a = a then H a else none) = _; rw [if_pos rfl]; exact r⟩
theorem tab_no {H : Hp} : TabAll [] H := fun _ h => nomatch h
theorem tab_one {H : Hp} {P : Addr} (h : H P = some (.tbl #[])) : TabAll [P] H := fun Q hQ => by
  rw [List.mem_singleton.mp hQ]
  exact LamX.TabS.nil h
theorem cx_end {P : Program} {w : World} {H : Hp} {s : Shared} {e : Value} {s' : Shared} (h : L2.CX P w [] H s (fun _ _ _ => False) e s') : False := by
  obtain ⟨_, _, _, _, _, _, _, _, _, _, _, _, z⟩ := h
  exact z
theorem FnOk.sure {cv : Cv} {CX : CXT} {P : Program} {w : World} {K : PySem.W.Frag} {mg : Str → Option Value} {base : Heap} {k n : Nat} {f : Addr} {fd : FuncData} {ps : List Str} {d : List D → R D} (F : FnOk P w K mg base CX k f fd ps (spD cv n d)) : FnOk P w K mg base CX k f fd ps (spV cv.T n d) :=
  F.imp fun vs H Q E h => spV_spD h
end L2.Dn


set_option Elab.async false
set_option linter.all false
set_option maxRecDepth 100000
set_option maxHeartbeats 1000000
/-! Dn13: refusals caught; ways that are not told of. -/
namespace L2.Dn
open PySem PySem.Spec PyProof.Rows
section
variable {K : PySem.W.Frag} {cv : Cv} {W : WX} {B B' F F' H H' : Hp} {ρ ρ' : En} {σ : St}
/-- nothing is told of this way -/
def oStk : En → Out := fun _ => .stk
theorem ss_never : SS cv W tNever oStk := fun B F H ρ σ D A q => q.elim
/-- what the clauses do with a refusal: the first whose class it is of -/
def handleO : List ((Ex → Option Bool) × (En → Out)) → Ex → En → Out
  | [], c, ρ => .xc c ρ
  | (t, o) :: r, c, ρ => match t c with
    | some true => o ρ
    | some false => handleO r c ρ
    | none => .stk
def oTry (a : En → Out) (hs : List ((Ex → Option Bool) × (En → Out))) : En → Out := fun ρ => match a ρ with
  | .xc c ρ' => handleO hs c ρ'
  | o => o
inductive SHs (K : PySem.W.Frag) (cv : Cv) (W : WX) : List (Value × (Addr → Value → Option Addr → TS)) → List ((Ex → Option Bool) × (En → Out)) → Prop
  | nil : SHs K cv W [] []
  | cons {C : Value} {ts : TS} {t : Ex → Option Bool} {o : En → Out} {l : List (Value × (Addr → Value → Option Addr → TS))} {r : List ((Ex → Option Bool) × (En → Out))}
      (ht : ∀ c b, t c = some b → PySem.W.exmOne K (cv c) C = some b) (ho : SS cv W ts o) (hr : SHs K cv W l r) : SHs K cv W ((C, fun _ _ _ => ts) :: l) ((t, o) :: r)
theorem handle_run {D : Ends} {c : Ex} : ∀ {l : List (Value × (Addr → Value → Option Addr → TS))} {r : List ((Ex → Option Bool) × (En → Out))}, SHs K cv W l r → Ag cv B F H ρ σ → PostS cv W B F D (handleO r c ρ) → wMany K W D l (cv c) none σ H
  | [], _, .nil, A, q => q F H σ Nw.refl A
  | _ :: _, _, .cons (t := t) ht ho hr, A, q => by
    unfold handleO at q
    cases e : t c with
    | none => rw [e] at q; exact q.elim
    | some b =>
      rw [e] at q
      refine ⟨b, ht c b e, fun hb a _ => ?_, fun hb => ?_⟩
      · subst hb
        exact ho B F H ρ σ D A q
      · subst hb
        exact handle_run hr A q
theorem ss_try {tb : WX → TS} {a : En → Out} {l : List (Value × (Addr → Value → Option Addr → TS))} {r : List ((Ex → Option Bool) × (En → Out))} (ha : ∀ W1 : WX, SS cv W1 (tb W1) a) (hs : SHs K cv W l r) : SS cv W (fun D σ H => tb (wMany K W D l) D σ H) (oTry a r) := fun B F H ρ σ D A q => by
  refine ha (wMany K W D l) B F H ρ σ D A ?_
  unfold oTry at q
  cases e : a ρ with
  | nx ρ' => rw [e] at q; exact q
  | bk ρ' => rw [e] at q; exact q
  | ct ρ' => rw [e] at q; exact q
  | rt d => rw [e] at q; exact q
  | rd d => rw [e] at q; exact q
  | stk => rw [e] at q; exact q
  | xc c ρ' =>
    rw [e] at q
    exact fun F' H' σ' n A' => handle_run hs A' (PostS.nw q n)
end
/-- a class that is caught -/
structure HdOk (K : PySem.W.Frag) (mg : Str → Option Value) (cv : Cv) (C : Value) (x : Str) (t : Ex → Option Bool) : Prop where
  nm : mg x = some C
  ex : ∀ c b, t c = some b → PySem.W.exmOne K (cv c) C = some b
theorem HdOk.names {X : Cx} {cv : Cv} {C : Value} {x : Str} {t : Ex → Option Bool} (h : HdOk X.K X.mg cv C x t) (hg : Gl X x) (hd : (x == ("__debug__" : Str)) = false) : Names X x C := ⟨hg, hd, .inl h.nm⟩
theorem exm_gen {K : PySem.W.Frag} {C S : Addr} {b : Bool} (h1 : PySem.W.subIn K (.ref S) (.type "BaseException") = some true) (h2 : PySem.W.isClsIn K S = true) (h3 : PySem.W.typeIn K (.ref S) = some (.type "type")) (h4 : PySem.W.subIn K (.ref C) (.ref S) = some b) :
    PySem.W.exmOne K (.ref C) (.ref S) = some b := by
  have e1 : (PySem.W.subIn K (.ref S) (.type "BaseException") == some true) = true := by rw [h1] <;> rfl
  have e2 : ((PySem.W.clsIn K S).isSome && PySem.W.typeIn K (.ref S) == some (.type "type")) = true := by
    have h2' : (PySem.W.clsIn K S).isSome = true := h2
    rw [h2', h3] <;> rfl
  show (if (PySem.W.subIn K (.ref S) (.type "BaseException") == some true) = true then (if ((PySem.W.clsIn K S).isSome && PySem.W.typeIn K (.ref S) == some (.type "type")) = true then PySem.W.subIn K (.ref C) (.ref S) else none) else none) = some b
  rw [if_pos e1, if_pos e2]
  exact h4
end L2.Dn


set_option Elab.async false
set_option linter.all false
set_option maxRecDepth 100000
set_option maxHeartbeats 2000000
/-! Dn14: rows the other way about; ranges as rows; ranges by steps. -/
namespace L2.Dn
open PySem PySem.Spec PyProof.Rows HT
section
variable {prog : Program} {w : World} {A : Around} {E : Value → Shared → Prop} {s : Shared}
theorem rev_adjust (n : Nat) : Builtin.Slice.sliceAdjust none none (-1) (n : Int) = ((n : Int) - 1, -1) := by
  unfold Builtin.Slice.sliceAdjust
  simp
theorem rev_places (n : Nat) : Builtin.Slice.slicePlaces ((n : Int) - 1) (-1) (-1) = n := by
  unfold Builtin.Slice.slicePlaces
  simp
  omega
theorem rev_pick (xs : Array Value) : ((List.range xs.size).filterMap fun (m : Nat) => xs[(((xs.size : Int) - 1) + (m : Int) * (-1)).toNat]?).toArray = xs.toList.reverse.toArray := by
  have e : ((List.range xs.size).filterMap fun (m : Nat) => xs[(((xs.size : Int) - 1) + (m : Int) * (-1)).toNat]?) = ((List.range xs.size).map fun k => xs.size - 1 - k).filterMap (xs[·]?) := by
    rw [List.filterMap_map]
    have gen : ∀ l : List Nat, (∀ m ∈ l, m < xs.size) → (l.filterMap fun (m : Nat) => xs[(((xs.size : Int) - 1) + (m : Int) * (-1)).toNat]?) = l.filterMap ((fun x => xs[x]?) ∘ fun k => xs.size - 1 - k) := by
      intro l hl
      induction l with
      | nil => rfl
      | cons m r ih =>
        have hm := hl m List.mem_cons_self
        have e : (((xs.size : Int) - 1) + (m : Int) * (-1)).toNat = xs.size - 1 - m := by omega
        rw [List.filterMap_cons, List.filterMap_cons, ih fun y hy => hl y (List.mem_cons_of_mem _ hy), e]
        rfl
    exact gen _ fun m hm => List.mem_range.mp hm
  rw [e, PySem.W.krv_range, List.filterMap_reverse, PySem.W.krv_all]
theorem sliceApplied_rev {sl : Addr} {vs : Value} {n : Nat} {Q : Int × Int × Nat → Shared → Prop} (hs : s.heap.IsSliceOf sl .none .none vs) (ps : IsPart vs (some (-1)))
    (h : Q ((n : Int) - 1, -1, n) s) : wpAny (model prog w) A (Builtin.Slice.sliceApplied (.ref sl) (pure (n : Int))) Q E s := by
  obtain ⟨os, hos, hcs, hds⟩ := id hs
  unfold Builtin.Slice.sliceApplied Builtin.Slice.sliceFields
  refine wpAny_bind (wpAny_bind (wpAny_field hos hds (x := .none) rfl (wpAny_bind (wpAny_field hos hds (x := .none) rfl (wpAny_bind (wpAny_field hos hds (x := vs) rfl (wpAny_pure ?_)))))))
  refine wpAny_bind (slicePart_ ps ?_)
  show wpAny _ _ (if ((-1 : Int) == 0) = true then _ else _) _ _ s
  rw [if_neg (by decide)]
  refine wpAny_bind (slicePart_none (wpAny_bind (slicePart_none (wpAny_bind (wpAny_pure ?_)))))
  show wpAny _ _ (match Builtin.Slice.sliceAdjust none none (-1) (n : Int) with | (lo, hi) => pure (lo, (-1 : Int), Builtin.Slice.slicePlaces lo hi (-1))) _ _ s
  rw [rev_adjust n]
  show wpAny _ _ (pure ((n : Int) - 1, (-1 : Int), Builtin.Slice.slicePlaces ((n : Int) - 1) (-1) (-1))) _ _ s
  rw [rev_places]
  exact wpAny_pure h
theorem getItem_tuple_rev {t sl : Addr} {items : Array Value} {vs : Value} {Q : Value → Shared → Prop} (ht : IsTup s.heap t items) (hs : s.heap.IsSliceOf sl .none .none vs) (ps : IsPart vs (some (-1)))
    (h : Q (.ref s.heap.objs.size) { s with heap := s.heap.push { cls := .type "tuple", data := .seq items.toList.reverse.toArray } }) (hsz : items.size ≤ sizeLine) : wpAny (model prog w) A (getItem (.ref t) (.ref sl)) Q E s := by
  have htake : sizeOk (.seq items.toList.reverse.toArray) := by
    show items.toList.reverse.toArray.size ≤ sizeLine
    rw [List.size_toArray, List.length_reverse, Array.length_toList]
    exact hsz
  obtain ⟨os, hos, hcs, hds⟩ := id hs
  have hTs : s.TypeIs (.ref sl) "slice" := ⟨os, hos, hcs⟩
  unfold getItem
  try with_reducible refine wpAny_holding ?_
  first | refine wpAny_bind (wpAny_pure ?_) | skip
  refine wpAny_bind (wpAny_sequenceKey ht.typeIs (by decide) ?_)
  refine wpAny_bind (wpAny_callSpecial?_slot (name := Str.ofString "__getitem__") ht.typeIs PyProof.Rows.slot_tuple_getitem
    (wpAny_call_entry PyProof.Rows.slot_tuple_getitem ht.typeIs entry_tuple_getitem ?_ (args_tuple_getitem _ _)))
  show wpAny _ _ (Builtin.Tuple.tupleItemsOf (.ref t) >>= _) _ _ s
  refine wpAny_bind (tupleItemsOf_ ht ?_)
  refine wpAny_bind (wpAny_typeOf hTs ?_)
  rw [if_pos (by decide)]
  refine wpAny_bind (sliceApplied_rev hs ps ?_)
  have hno : ¬ ((((items.size : Int) - 1 : Int) == 0 && (-1 : Int) == 1 && items.size == items.size) = true) := by
    intro q
    rw [Bool.and_eq_true, Bool.and_eq_true] at q
    exact absurd q.1.2 (by decide)
  show wpAny _ _ (if (((items.size : Int) - 1 : Int) == 0 && (-1 : Int) == 1 && items.size == items.size) = true then _ else _) _ _ s
  rw [if_neg hno, rev_pick]
  first
    | exact wpAny_bind (m := Builtin.Tuple.tupleExact _) (wpAny_newObj_type (wpAny_pure ⟨_, rfl, wpAny_pure h⟩) htake)
    | exact wpAny_bind (m := Builtin.Tuple.tupleExact _) (wpAny_newObj_type (wpAny_bind (wpAny_pure (wpAny_pure ⟨_, rfl, wpAny_pure h⟩))) htake)
    | exact wpAny_bind (wpAny_bind (m := Builtin.Tuple.tupleExact _) (wpAny_newObj_type (wpAny_pure (wpAny_pure ⟨_, rfl, wpAny_pure h⟩)) htake))
    | exact wpAny_bind (wpAny_bind (m := Builtin.Tuple.tupleExact _) (wpAny_newObj_type (wpAny_pure ⟨_, rfl, wpAny_pure h⟩) htake))
end
/-- e[::-1], a list or a tuple -/
def tRevA (K : PySem.W.Frag) (te : TE) : TE := fun σ H Q => te σ H fun x H1 => (∃ a xs, x = .ref a ∧ SqL K H1 a xs ∧ ∀ p, H1 p = none → Q (.ref p) (upd H1 p (.lst xs.reverse))) ∨ (∃ a xs, x = .ref a ∧ SqT K H1 a xs ∧ ∀ p, H1 p = none → Q (.ref p) (upd H1 p (.tup xs.reverse)))
theorem pe_revA {X : Cx} {e : Expr} {te : TE} {k : Nat} {p1 p2 p3 pos : Pos} (he : PE X e te) : PE X (.Subscript e (.Slice none none (some (.UnaryOp .USub (.Constant (.int 1) k p1) p2)) p3) pos) (tRevA X.K te) := by
  refine ⟨fun pins s σ H Q I h => ?_⟩
  refine Subscript_ (thn (he.run pins s σ H _ I h) fun v s1 ⟨x, H1, I1, r1, q1⟩ => ?_)
  have hst : PO X (some (.UnaryOp .USub (.Constant (.int 1) k p1) p2)) (tPart (tUn (rU fun i => .int (-i)) (tC (.int 1)))) := po_some (pe_un un_neg pe_int)
  refine wpAny_Slice (thn (po_none.run pins s1 σ H1 (fun o H2 => o = none ∧ H2 = H1) I1 ⟨rfl, rfl⟩) fun vl s2 ⟨l, H2, I2, pl, el, e2⟩ => ?_)
  subst el e2
  refine thn (po_none.run pins s2 σ H2 (fun o H3 => o = none ∧ H3 = H2) I2 ⟨rfl, rfl⟩) fun vu s3 ⟨u, H3, I3, pu, eu, e3⟩ => ?_
  subst eu e3
  refine thn (hst.run pins s3 σ H3 (fun o H4 => o = some (-1) ∧ H4 = H3) I3 ⟨1, rfl, -1, rfl, rfl, rfl⟩) fun vs s4 ⟨o, H4, I4, ps, eo, e4⟩ => ?_
  subst eo e4
  have I5 : Inv X pins σ H4 { s4 with heap := s4.heap.push { cls := .type "slice", data := .fields #[vl, vu, vs] } } := I4.kept (t' := s4.toks) fun b ob q => Heap.get?_push_of_some _ q
  rcases q1 with ⟨a, xs, ex, hx, q⟩ | ⟨a, xs, ex, hx, q⟩
  · subst ex
    cases r1
    obtain ⟨its, r, ht, hz⟩ := I5.list hx
    have hlen := r.length
    show wpAny (model X.prog X.w) X.A (subscriptTail e (.Slice none none (some (.UnaryOp .USub (.Constant (.int 1) k p1) p2)) p3) (.ref a) (.ref s4.heap.objs.size)) (EP X pins σ Q) X.xe { s4 with heap := s4.heap.push { cls := .type "slice", data := .fields #[vl, vu, vs] } }
    refine tail_any (ops := [.ref a, .ref s4.heap.objs.size]) ht.isList.typeIs (PySem.slot_list_getitem.lookup) ?_ (by with_unfolding_all rfl)
    refine wpAny_getItem_list_slice ht.isList (Heap.IsSliceOf.new _ vl vu vs) pl pu ps (by decide) ?_ (by rw [List.size_toArray]; omega)
    rw [PySem.W.krv_pick]
    refine ⟨.ref _, _, I5.laid (t' := s4.toks) (o := .lst xs.reverse) (fun b ob q => Heap.get?_push_of_some _ q) (Nat.le_refl _) ?_, rfl, q _ (I5.hok.fresh (Nat.le_refl _))⟩
    exact ⟨by rw [List.length_reverse]; exact hz, _, 0, r.reverse, Heap.get?_push_size _ rfl⟩
  · subst ex
    cases r1
    obtain ⟨its, r, ht, hz⟩ := I5.tuple hx
    have hlen := r.length
    cases pl
    cases pu
    show wpAny (model X.prog X.w) X.A (subscriptTail e (.Slice none none (some (.UnaryOp .USub (.Constant (.int 1) k p1) p2)) p3) (.ref a) (.ref s4.heap.objs.size)) (EP X pins σ Q) X.xe { s4 with heap := s4.heap.push { cls := .type "slice", data := .fields #[.none, .none, vs] } }
    refine tail_any (ops := [.ref a, .ref s4.heap.objs.size]) ht.typeIs (PyProof.Rows.slot_tuple_getitem.lookup) ?_ (by with_unfolding_all rfl)
    refine getItem_tuple_rev ht (Heap.IsSliceOf.new _ .none .none vs) ps ?_ (by rw [List.size_toArray]; omega)
    refine ⟨.ref _, _, I5.laid (t' := s4.toks) (o := .tup xs.reverse) (fun b ob q => Heap.get?_push_of_some _ q) (Nat.le_refl _) ?_, rfl, q _ (I5.hok.fresh (Nat.le_refl _))⟩
    exact ⟨by rw [List.length_reverse]; exact hz, _, r.reverse, IsTup.new _ _⟩
section
variable {K : PySem.W.Frag} {cv : Cv} {W : WX} {B B' F F' H H' : Hp} {ρ ρ' : En} {σ : St}
theorem DpAll.reverse {vs : List V} {ds : List D} (h : DpAll [] F vs ds) : DpAll [] F vs.reverse ds.reverse := by
  induction vs generalizing ds with
  | nil => cases h; exact .nil
  | cons v r ih =>
    cases h with
    | cons a b =>
      rw [List.reverse_cons, List.reverse_cons]
      exact DpAll.snoc (ih b) a
def pRev : D → R D
  | .list ds => .val (.list ds.reverse)
  | .tuple ds => .val (.tuple ds.reverse)
  | _ => .stk
def dRev (a : En → R D) : En → R D := fun ρ => a ρ >>= pRev
theorem se_rev {t : TE} {a : En → R D} (h : SE cv W t a) : SE cv W (tRevA K t) (dRev a) := fun B F H ρ σ Q A hq =>
  h.bind A hq fun x F1 H1 v n1 A1 e1 h1 => by
    cases e1 with
    | lst s b => exact .inl ⟨_, _, rfl, SqL.sub A1 s, fun p hp => Post.newL h1 A1 (DpAll.reverse b) hp (by rw [List.length_reverse]; exact SqL.sz A1.sz s)⟩
    | tup s b => exact .inr ⟨_, _, rfl, SqT.sub A1 s, fun p hp => Post.newT h1 A1 (DpAll.reverse b) hp (by rw [List.length_reverse]; exact SqT.sz A1.sz s)⟩
    | non => exact h1.elim
    | bl _ => exact h1.elim
    | int _ => exact h1.elim
    | str _ => exact h1.elim

/-! ### list(range(..)), tuple(range(..)) -/
theorem DpAll.rgV (a b : Int) : DpAll [] F (L2.rgV a b) (rng a (b - a).toNat) := by
  unfold L2.rgV rng
  generalize List.range (b - a).toNat = l
  induction l with
  | nil => exact .nil
  | cons i r ih => exact .cons (.int _) ih
def pRgL : List D → R (List D) := fun xs => match xs with
  | [.int j] => pRng1 [.int j]
  | [.int i, .int j] => pRng2 [.int i, .int j]
  | _ => .stk
theorem rgOk_of {i j : Int} (h1 : okR i = true) (h2 : okR j = true) : RgOk i j := by
  obtain ⟨a1, a2, a3, a4⟩ := okR_iff h1
  obtain ⟨b1, b2, b3, b4⟩ := okR_iff h2
  exact ⟨a1, a2, b1, b2, by omega⟩
theorem sl_rg1 {t : TE} {a : En → R D} (h : SE cv W t a) : SL cv W (tLstRg (tRg1 t)) (dApp pRng1 [a]) := fun B F H ρ σ Q A hq => by
  have hq' : Post cv W relL B F ρ σ (a ρ >>= fun x => pRng1 [x]) Q := by
    have e : dApp pRng1 [a] ρ = (a ρ >>= fun x => pRng1 [x]) := by
      show (((a ρ >>= fun x => (R.val [] : R (List D)) >>= fun xs => .val (x :: xs))) >>= pRng1) = _
      rw [R.bind_assoc]
      rfl
    rw [← e]; exact hq
  refine h.bind A hq' fun x F1 H1 v n1 A1 e1 h1 => ?_
  cases e1 with
  | int j =>
    replace h1 : Post cv W relL B F1 ρ σ (if okR j then .val (rng 0 j.toNat) else .stk) Q := h1
    split at h1
    · rename_i c
      have z := rgOk_of (show okR 0 = true by decide) c
      refine ⟨j, rfl, z, fun p hp => ?_⟩
      have d := DpAll.rgV (F := F1) 0 j
      rw [Int.sub_zero] at d
      refine newL (cv := cv) (W := W) h1 A1 ?_ d hp
      have := z.2.2.2.2
      rw [Int.sub_zero] at this
      rw [rng_length]
      exact this
    · exact h1.elim
  | non => exact h1.elim
  | bl _ => exact h1.elim
  | str _ => exact h1.elim
  | lst _ _ => exact h1.elim
  | tup _ _ => exact h1.elim
def dTupRg (a : En → R D) : En → R D := fun ρ => dApp pRng1 [a] ρ >>= fun xs => .val (.tuple xs)
theorem se_tupRg1 {t : TE} {a : En → R D} (h : SE cv W t a) : SE cv W (tTupRg (tRg1 t)) (dTupRg a) := fun B F H ρ σ Q A hq => by
  have hq' : Post cv W relD B F ρ σ (a ρ >>= fun x => pRng1 [x] >>= fun xs => .val (.tuple xs)) Q := by
    have e : dTupRg a ρ = (a ρ >>= fun x => pRng1 [x] >>= fun xs => .val (.tuple xs)) := by
      show (((a ρ >>= fun x => (R.val [] : R (List D)) >>= fun xs => .val (x :: xs)) >>= pRng1) >>= fun xs => R.val (PyData.tuple xs)) = _
      rw [R.bind_assoc, R.bind_assoc]
      rfl
    rw [← e]; exact hq
  refine h.bind A hq' fun x F1 H1 v n1 A1 e1 h1 => ?_
  cases e1 with
  | int j =>
    replace h1 : Post cv W relD B F1 ρ σ ((if okR j then .val (rng 0 j.toNat) else .stk) >>= fun xs => .val (.tuple xs)) Q := h1
    split at h1
    · rename_i c
      have z := rgOk_of (show okR 0 = true by decide) c
      refine ⟨j, rfl, z, fun p hp => ?_⟩
      have d := DpAll.rgV (F := F1) 0 j
      rw [Int.sub_zero] at d
      refine Post.newT h1 A1 d hp ?_
      have := z.2.2.2.2
      rw [rgV_length]
      exact this
    · exact h1.elim
  | non => exact h1.elim
  | bl _ => exact h1.elim
  | str _ => exact h1.elim
  | lst _ _ => exact h1.elim
  | tup _ _ => exact h1.elim
end
end L2.Dn


set_option Elab.async false
set_option linter.all false
set_option maxRecDepth 100000
set_option maxHeartbeats 2000000
/-! Dn15: zip of three. -/
namespace L2.Dn
open PySem PySem.Spec PyProof.Rows

def zipRows3 (xs ys zs : List V) : List (List V) := List.zipWith (fun r z => r ++ [z]) (zipRows xs ys) zs
theorem zipRows3_get {xs ys zs : List V} {i : Nat} {x y z : V} (h : xs[i]? = some x) (k : ys[i]? = some y) (l : zs[i]? = some z) : (zipRows3 xs ys zs)[i]? = some [x, y, z] := by
  unfold zipRows3
  rw [List.getElem?_zipWith, zipRows_get h k, l]
  rfl
theorem zipRows3_length {xs ys zs : List V} : (zipRows3 xs ys zs).length = min (min xs.length ys.length) zs.length := by
  unfold zipRows3
  rw [List.length_zipWith, zipRows_length]
def PZ3 (K : PySem.W.Frag) (s1 s2 s3 : Sr) : Hp → List (List V) → Prop := fun H rows => ∃ xs ys zs, s1.is K H xs ∧ s2.is K H ys ∧ s3.is K H zs ∧ rows = zipRows3 xs ys zs
/-- z, TI, TO, i1, i2, i3 lie apart -/
structure Apart3 (z TI TO i1 i2 i3 : Addr) : Prop where
  a1 : TI ≠ z
  a2 : TO ≠ z
  a3 : TI ≠ TO
  a4 : TI ≠ i1
  a5 : TI ≠ i2
  a6 : TI ≠ i3
  b1 : z ≠ i1
  b2 : z ≠ i2
  b3 : z ≠ i3
  c1 : TO ≠ i1
  c2 : TO ≠ i2
  c3 : TO ≠ i3
  d1 : i1 ≠ i2
  d2 : i1 ≠ i3
  d3 : i2 ≠ i3
abbrev tnZ3 (s1 s2 s3 : Sr) (z TI TO i1 i2 i3 : Addr) : Nat → Heap → Prop := fun i h =>
  IsZip h z TI TO .none ∧ IsTupOf3 h TI (.ref i1) (.ref i2) (.ref i3) ∧ (∃ a1 a2 a3, IsTupOf3 h TO a1 a2 a3) ∧ s1.At h i1 i ∧ s2.At h i2 i ∧ s3.At h i3 i
theorem wt_zip3 {K : PySem.W.Frag} {s1 s2 s3 : Sr} {z TI TO i1 i2 i3 : Addr} (ap : Apart3 z TI TO i1 i2 i3) : WtOk K (PZ3 K s1 s2 s3) z [z, TI, TO, i1, i2, i3] (tnZ3 s1 s2 s3 z TI TO i1 i2 i3) := by
  intro X hK i pins s σ H rows hc I hf st hp
  subst hK
  obtain ⟨xs, ys, zs, hs, hy, hw, rfl⟩ := hp
  obtain ⟨hz, hTI, ⟨a1, a2, a3, hTO⟩, hat1, hat2, hat3⟩ := id st
  refine ⟨fun rows' ⟨xs', ys', zs', hx', hy', hz', er⟩ => by rw [er, Sr.inj I hx' hs, Sr.inj I hy' hy, Sr.inj I hz' hw], ?_⟩
  obtain ⟨fp1, n1, P1, St1, D1, hst1, hif1, hn1, hP1, hat1', hfp1⟩ := Sr.draws I hc hs hat1
  obtain ⟨fp2, n2, P2, St2, D2, hst2, hif2, hn2, hP2, hat2', hfp2⟩ := Sr.draws I hc hy hat2
  obtain ⟨fp3, n3, P3, St3, D3, hst3, hif3, hn3, hP3, hat3', hfp3⟩ := Sr.draws I hc hw hat3
  have off : ∀ {fp : List Addr} {it : Addr}, (∀ b ∈ fp, b ≠ it → ∃ o, s.heap.get? b = some o ∧ (o.cls = .type "list" ∨ o.cls = .type "tuple") ∧ ∃ vs n, o.data = .seq vs n ∧ H b ≠ none ∨ (∃ o', X.K.lookup b = some o')) →
      ∀ c ∈ [z, TI, TO, i1, i2, i3], c ≠ it → c ∉ fp := fun {fp it} hfp c hcm hne hm => by
    obtain ⟨o, ho, hcl, vs, nn, hd⟩ := hfp c hm hne
    obtain ⟨f0, f1, f2, f3, f4, f5⟩ := hf c hcm
    rcases hd with ⟨_, hd⟩ | ⟨o', hk⟩
    · exact hd f0
    · have e1 : X.base.get? c = some o' := I.ok.mod.kin _ _ hk
      rcases f3 with q | q
      · exact I.ok.noex _ _ e1 q
      · exact absurd (Nat.lt_of_lt_of_le (Heap.lt_size (I.ok.bs _ _ e1).1) q) (Nat.lt_irrefl _)
  have S : ZipSep3 z TI TO i1 i2 i3 fp1 fp2 fp3 :=
    { TIz := ap.a1, TOz := ap.a2, TITO := ap.a3, TIi1 := ap.a4, TIi2 := ap.a5, TIi3 := ap.a6, mem1 := hif1, mem2 := hif2, mem3 := hif3,
      zf1 := off hfp1 z (by simp) ap.b1, zf2 := off hfp2 z (by simp) ap.b2, zf3 := off hfp3 z (by simp) ap.b3,
      Tf1 := off hfp1 TO (by simp) ap.c1, Tf2 := off hfp2 TO (by simp) ap.c2, Tf3 := off hfp3 TO (by simp) ap.c3,
      sep1_2 := off hfp2 i1 (by simp) ap.d1, sep1_3 := off hfp3 i1 (by simp) ap.d2, sep2_1 := off hfp1 i2 (by simp) (Ne.symm ap.d1), sep2_3 := off hfp3 i2 (by simp) ap.d3,
      sep3_1 := off hfp1 i3 (by simp) (Ne.symm ap.d2), sep3_2 := off hfp2 i3 (by simp) (Ne.symm ap.d3) }
  refine ⟨_, _, _, _, _, _, WalksT.zipD3 S D1 D2 D3, fun b hb => ?_, ⟨hz, hTI, ⟨a1, a2, a3, hTO⟩, hst1, hst2, hst3⟩, by rw [hn1, hn2, hn3, zipRows3_length], fun j h ⟨q1, q2, q3, q4, q5, q6⟩ => ⟨q1, q2, q3, hat1' j h q4, hat2' j h q5, hat3' j h q6⟩, fun j vals ⟨u, u2, u3, hu, hu2, hu3, ev⟩ => ?_⟩
  · have e' : b = z ∨ b = TO ∨ b = i1 ∨ b = i2 ∨ b = i3 := by simpa using hb
    rcases e' with q | q | q | q | q <;> rw [q] <;> simp
  · obtain ⟨x, hx, rx⟩ := hP1 j u hu
    obtain ⟨y, hy, ry⟩ := hP2 j u2 hu2
    obtain ⟨z', hz', rz⟩ := hP3 j u3 hu3
    refine ⟨[x, y, z'], zipRows3_get hx hy hz', ?_, by show 3 ≤ sizeLine; decide⟩
    rw [ev]
    exact .cons rx (.cons ry (.cons rz .nil))
theorem turn_zip3 {P : Program} {w : World} {K : PySem.W.Frag} {elts : List Expr} {kk : Nat} {tpos : Pos} (s1 s2 s3 : Sr) {z TI TO i1 i2 i3 : Addr} (ap : Apart3 z TI TO i1 i2 i3) :
    Turn P w K (.Tuple elts kk tpos) (ItT (PZ3 K s1 s2 s3)) [z, TI, TO, i1, i2, i3] z (tnZ3 s1 s2 s3 z TI TO i1 i2 i3) :=
  turn_t (by simp) (fun i h st b hb => by
      obtain ⟨hz, hTI, ⟨a1, a2, a3, hTO⟩, hat1, hat2, hat3⟩ := st
      have e' : b = z ∨ b = TI ∨ b = TO ∨ b = i1 ∨ b = i2 ∨ b = i3 := by simpa using hb
      rcases e' with q | q | q | q | q | q
      · rw [q]; exact ⟨_, hz, fun v q => nomatch q⟩
      · rw [q]; exact ⟨_, hTI, fun v q => nomatch q⟩
      · rw [q]; exact ⟨_, hTO, fun v q => nomatch q⟩
      · rw [q]; exact hat1.obj
      · rw [q]; exact hat2.obj
      · rw [q]; exact hat3.obj)
    (fun i h h' st k => by
      obtain ⟨hz, hTI, ⟨a1, a2, a3, hTO⟩, hat1, hat2, hat3⟩ := st
      exact ⟨k z (by simp) _ hz, k TI (by simp) _ hTI, ⟨a1, a2, a3, k TO (by simp) _ hTO⟩, hat1.keep fun o q => k i1 (by simp) o q, hat2.keep fun o q => k i2 (by simp) o q, hat3.keep fun o q => k i3 (by simp) o q⟩)
    (fun A i s Q E st h => wpAny_pyIter_zip st.1 h) (wt_zip3 ap)
def iZip3 (K : PySem.W.Frag) (ta : TA) : TI := fun σ H R => ta σ H fun vs H1 => ∃ s1 s2 s3 xs ys zs, vs = [Sr.v s1, Sr.v s2, Sr.v s3] ∧ s1.is K H1 xs ∧ s2.is K H1 ys ∧ s3.is K H1 zs ∧ R (ItT (PZ3 K s1 s2 s3)) H1
theorem pi_zip3 {X : Cx} {e e2 e3 : Expr} {ta : TA} {p pos tpos : Pos} {elts : List Expr} {kk : Nat} (hg : Gl X "zip") (hm : X.mg "zip" = none) (ha : PA X [e, e2, e3] ta)
    (hs : starEach [e, e2, e3] X.env = (false, eval e X.env) :: starEach [e2, e3] X.env := by rfl) (hpl : (backTo pos (starEach [e2, e3] X.env)).any (·.1) = false := by rfl) :
    PI X (.Tuple elts kk tpos) (.Call (.Name "zip" p) [e, e2, e3] [] pos) (iZip3 X.K ta) := by
  refine ⟨fun pins s σ H R I h => ?_⟩
  refine Call_ (ld_blt I hg hm PyProof.Rows.boot_zip (PyProof.Rows.callWith_type1 (thn (ha.run pos pins s σ H _ I h) fun us s1 ⟨vs, H1, I1, r1, q1⟩ => ?_) hs hpl))
  obtain ⟨sr1, sr2, sr3, xs, ys, zs, ex, hqx, hqy, hqz, q⟩ := q1
  subst ex
  cases r1 with
  | cons r rr =>
    cases rr with
    | cons r' rr =>
      cases rr with
      | cons r'' rr =>
        cases rr
        obtain ⟨o1, Hh1, B1, hB1, hat1⟩ := Sr.begins I1 hqx r
        obtain ⟨o2, Hh2, B2, hB2, hat2⟩ := Sr.begins I1 hqy r'
        obtain ⟨o3, Hh3, B3, hB3, hat3⟩ := Sr.begins I1 hqz r''
        refine zip_begins3 B1 B2 B3 hB1 hB2 hB3 fun h' hz hTI hTO h1 h2 h3 hsz hk => wpAny_pyIter_zip hz ?_
        have I2 : Inv X pins σ H1 { s1 with heap := h' } := I1.kept (t' := s1.toks) hk
        have ap : ∀ N : Nat, Apart3 (N + 5) (N + 3) (N + 4) N (N + 1) (N + 2) := fun N =>
          ⟨show (N + 3 : Nat) ≠ N + 5 by omega, show (N + 4 : Nat) ≠ N + 5 by omega, show (N + 3 : Nat) ≠ N + 4 by omega, show (N + 3 : Nat) ≠ N by omega, show (N + 3 : Nat) ≠ N + 1 by omega, show (N + 3 : Nat) ≠ N + 2 by omega,
            show (N + 5 : Nat) ≠ N by omega, show (N + 5 : Nat) ≠ N + 1 by omega, show (N + 5 : Nat) ≠ N + 2 by omega, show (N + 4 : Nat) ≠ N by omega, show (N + 4 : Nat) ≠ N + 1 by omega, show (N + 4 : Nat) ≠ N + 2 by omega,
            show (N : Nat) ≠ N + 1 by omega, show (N : Nat) ≠ N + 2 by omega, show (N + 1 : Nat) ≠ N + 2 by omega⟩
        refine ⟨s1.heap.objs.size + 5, [s1.heap.objs.size + 5, s1.heap.objs.size + 3, s1.heap.objs.size + 4, s1.heap.objs.size, s1.heap.objs.size + 1, s1.heap.objs.size + 2], _, _, H1, rfl, I2, turn_zip3 sr1 sr2 sr3 (ap _), ⟨hz, hTI, ⟨_, _, _, hTO⟩, hat1 _ _ h1, hat2 _ _ h2, hat3 _ _ h3⟩, fun c hcm => ?_, q⟩
        have e' : c = s1.heap.objs.size + 5 ∨ c = s1.heap.objs.size + 3 ∨ c = s1.heap.objs.size + 4 ∨ c = s1.heap.objs.size ∨ c = s1.heap.objs.size + 1 ∨ c = s1.heap.objs.size + 2 := by simpa using hcm
        have hle : s1.heap.objs.size ≤ c := by
          rcases e' with z | z | z | z | z | z
          · rw [z]; exact Nat.le_add_right _ _
          · rw [z]; exact Nat.le_add_right _ _
          · rw [z]; exact Nat.le_add_right _ _
          · rw [z]; exact Nat.le_refl _
          · rw [z]; exact Nat.le_add_right _ _
          · rw [z]; exact Nat.le_add_right _ _
        exact I1.fpOk hle (I1.hok.fresh hle)

section
variable {K : PySem.W.Frag} {cv : Cv} {W : WX}
def zip3D (xs ys zs : List D) : List (List D) := List.zipWith (fun r z => r ++ [z]) (zipD xs ys) zs
def pZip3 : List D → R (List D)
  | [d, e, f] => anyL d >>= fun ds => anyL e >>= fun es => anyL f >>= fun fs => .val ((zip3D ds es fs).map .tuple)
  | _ => .stk
theorem zip3D_get {xs ys zs : List D} {i : Nat} {r : List D} (h : (zip3D xs ys zs)[i]? = some r) : ∃ x y z, xs[i]? = some x ∧ ys[i]? = some y ∧ zs[i]? = some z ∧ r = [x, y, z] := by
  unfold zip3D zipD at h
  rw [List.getElem?_zipWith, List.getElem?_zipWith] at h
  cases q1 : xs[i]? with
  | none => rw [q1] at h; cases h
  | some x =>
    cases q2 : ys[i]? with
    | none => rw [q1, q2] at h; cases h
    | some y =>
      cases q3 : zs[i]? with
      | none => rw [q1, q2, q3] at h; cases h
      | some z =>
        rw [q1, q2, q3] at h
        exact ⟨x, y, z, rfl, rfl, rfl, (Option.some.inj h).symm⟩
theorem si_zip3 {t : TA} {ds : List (En → R D)} (h : SA cv W t (dArgs ds)) : SI cv W (iZip3 K t) (dApp pZip3 ds) := fun B F H ρ σ Q A hq =>
  h.bind A hq fun a F1 H1 vs n1 A1 e1 h1 => by
    unfold pZip3 at h1
    split at h1
    · rename_i d d' d''
      cases e1 with
      | cons a1 r =>
        cases r with
        | cons a2 r =>
          cases r with
          | cons a3 r =>
            cases r
            cases e : anyL d with
            | stk => rw [e] at h1; exact h1.elim
            | exc c => exact absurd e anyL_nox
            | val es =>
              rw [e, R.bind_val] at h1
              cases e' : anyL d' with
              | stk => rw [e'] at h1; exact h1.elim
              | exc c => exact absurd e' anyL_nox
              | val es' =>
                rw [e', R.bind_val] at h1
                cases e'' : anyL d'' with
                | stk => rw [e''] at h1; exact h1.elim
                | exc c => exact absurd e'' anyL_nox
                | val es'' =>
                  rw [e''] at h1
                  obtain ⟨sr, xs, rfl, hs, hd, hz⟩ := sr_of (K := K) A1 a1 e
                  obtain ⟨sr', xs', rfl, hs', hd', hz'⟩ := sr_of (K := K) A1 a2 e'
                  obtain ⟨sr'', xs'', rfl, hs'', hd'', hz''⟩ := sr_of (K := K) A1 a3 e''
                  refine ⟨sr, sr', sr'', xs, xs', xs'', rfl, hs H1 A1.sub, hs' H1 A1.sub, hs'' H1 A1.sub, h1 F1 H1 _ Nw.refl A1 (it_t (rows := zipRows3 xs xs' xs'') (ds := zip3D es es' es'') (fun H2 l => ⟨xs, xs', xs'', hs H2 l, hs' H2 l, hs'' H2 l, rfl⟩) (fun i d' z => ?_) ?_ ?_ fun ys hy => ?_)⟩
                  · obtain ⟨x, y, w, q1, q1', q1'', rfl⟩ := zip3D_get z
                    obtain ⟨v, q2, q3⟩ := DpAll.get hd q1
                    obtain ⟨v', q2', q3'⟩ := DpAll.get hd' q1'
                    obtain ⟨v'', q2'', q3''⟩ := DpAll.get hd'' q1''
                    exact ⟨_, zipRows3_get q2 q2' q2'', fun F2 f => .cons (Dp.le f q3) (.cons (Dp.le f q3') (.cons (Dp.le f q3'') .nil))⟩
                  · rw [zipRows3_length, DpAll.length hd, DpAll.length hd', DpAll.length hd'']
                    unfold zip3D zipD
                    rw [List.length_zipWith, List.length_zipWith]
                  · unfold zip3D zipD
                    rw [List.length_zipWith, List.length_zipWith]
                    omega
                  · obtain ⟨i, hi, rfl⟩ := List.getElem_of_mem hy
                    have hi' := hi
                    rw [zipRows3_length] at hi'
                    have q1 : xs[i]? = some (xs[i]'(by omega)) := List.getElem?_eq_getElem _
                    have q2 : xs'[i]? = some (xs'[i]'(by omega)) := List.getElem?_eq_getElem _
                    have q3 : xs''[i]? = some (xs''[i]'(by omega)) := List.getElem?_eq_getElem _
                    have q4 := zipRows3_get q1 q2 q3
                    rw [List.getElem?_eq_getElem hi] at q4
                    rw [Option.some.inj q4]
                    show 3 ≤ 1000
                    decide
    · exact h1.elim
end
end L2.Dn


set_option Elab.async false
set_option linter.all false
set_option maxRecDepth 100000
set_option maxHeartbeats 2000000
/-! Dn16: list.count, list.index of data. -/
namespace L2.Dn
open PySem PySem.Spec PyProof.Rows

/-- l.count(x): how many are equal -/
def rLCount (K : PySem.W.Frag) : V → List V → Hp → VK → Prop := fun x xs H Q => ∃ (a : Addr) (y : V) (d : PyData) (ds : List PyData), x = V.ref a ∧ xs = [y] ∧ Dp K H (V.ref a) (.list ds) ∧ Dp K H y d ∧
  SeqAt.shaped (.list ds) = true ∧ SeqAt.shaped d = true ∧ Q (.int ((ds.countP fun z => PyData.eqv z d : Nat) : Int)) H
theorem mt_lcountD {X : Cx} (hu : X.A.units + 65 < cLine) : MtR X "list.count" (rLCount X.K) := by
  intro pins s σ H x xs v us Q I rx rxs h
  obtain ⟨a, y, d, ds, rfl, rfl, hl, hy, sl, sd, q⟩ := h
  cases rx
  cases rxs with
  | cons ry rt =>
    rename_i uy ut
    cases rt
    obtain ⟨bs, r1⟩ := Dp.reads I d y uy hy ry
    have hxs : PyData.canLayAll0 ds = true := SeqAt.canLay_of_shaped sl
    have hroom : X.A.units + 1 + min (PyData.depthAll ds) d.depth < cLine := room_in_shaped sd hu
    cases hl with
    | lst hs ha =>
      obtain ⟨its, rv, ⟨⟨cls, dd, data, sls⟩, n, ho, hc, hdn, hdt⟩, hlen⟩ := I.list hs
      simp only at hc hdt
      subst hc hdt
      obtain ⟨as, h4⟩ := Dp.readsAll I ds _ its ha rv
      have hmap : its.map (SeqAt.readOf s.heap) = ds := SeqAt.readsAll_map ds its as hxs h4
      have hcnt : its.toArray.toList.countP (fun u => PyData.eqv (SeqAt.readOf s.heap u) d) = ds.countP fun z => PyData.eqv z d := by
        rw [← hmap, List.countP_map]
        rfl
      rw [← hcnt] at q
      refine call_meets PySem.F.slot_list_count ⟨_, ho, rfl⟩ PySem.F.entry_list_count (PySem.F.args_list_count_2 _ _)
        (SeqAt.list_countAt a its.toArray n dd sls uy (fun u => PyData.eqv (SeqAt.readOf s.heap u) d)) ⟨ho, SeqAt.items_eqAt (vs := its.toArray) (show ReadsAll s.heap its.toArray.toList ds as from h4) r1 hxs (SeqAt.canLay_of_shaped sd) hroom, ?_⟩
      exact ⟨.int _, H, I.kept (t' := s.toks + 1) fun _ _ e => e, ⟨_, rfl⟩, q⟩
section
variable {K : PySem.W.Frag} {cv : Cv} {W : WX}
def pLCount : D → List D → R D
  | .list ds, [d] => if SeqAt.shaped (.list ds) && SeqAt.shaped d then .val (.int ((ds.countP fun z => PyData.eqv z d : Nat) : Int)) else .stk
  | _, _ => .stk
theorem rm_lcount : RelMth cv W (rLCount K) pLCount := fun B F H ρ σ v vs d ds Q A e es hp => by
  unfold pLCount at hp
  split at hp
  · rename_i ds d
    split at hp
    · rename_i z
      rw [Bool.and_eq_true] at z
      cases es with
      | cons x r =>
        cases r
        cases e with
        | lst s b => exact ⟨_, _, d, ds, rfl, rfl, Dp.sub A (.lst s b), Dp.sub A x, z.1, z.2, hp.ret A (.int _)⟩
    · exact hp.elim
  · exact hp.elim
/-- the first place of an equal one; none: the worth says nothing -/
def pLIndex : D → List D → R D
  | .list ds, [d] => if SeqAt.shaped (.list ds) && SeqAt.shaped d then (match ds.findIdx? (fun z => PyData.eqv z d) with | some j => .val (.int (j : Nat)) | none => .stk) else .stk
  | _, _ => .stk
theorem rm_lindex : RelMth cv W (rIndexD K) pLIndex := fun B F H ρ σ v vs d ds Q A e es hp => by
  unfold pLIndex at hp
  split at hp
  · rename_i ds d
    split at hp
    · rename_i z
      rw [Bool.and_eq_true] at z
      split at hp
      · rename_i j hj
        obtain ⟨hlt, h1, h2⟩ := List.findIdx?_eq_some_iff_getElem.mp hj
        cases es with
        | cons x r =>
          cases r
          cases e with
          | lst s b =>
            refine ⟨_, _, d, ds, j, ds[j], rfl, rfl, Dp.sub A (.lst s b), Dp.sub A x, z.1, z.2, List.getElem?_eq_getElem hlt, h1, fun m z' hm hz => ?_, hp.ret A (.int _)⟩
            obtain ⟨hml, rfl⟩ := List.getElem?_eq_some_iff.mp hz
            have := h2 m hm
            simpa using this
      · exact hp.elim
    · exact hp.elim
  · exact hp.elim
end
end L2.Dn


set_option Elab.async false
set_option linter.all false
set_option maxRecDepth 100000
set_option maxHeartbeats 2000000
/-! Dn17: the greatest of a list or a tuple of ints. -/
namespace L2.Dn
open PySem PySem.Spec PyProof.Rows
section
variable {prog : Program} {w : World} {A : Around} {E : Value → Shared → Prop} {s : Shared}
theorem max_intTuple {l : Addr} {xs : Array (Int × Tok)} {Q : Value → Shared → Prop} (hh : A.handled = none) (hl : s.heap.IsTuple l (intItems xs)) (hne : 0 < xs.size)
    (h : ∀ v h' tk, (intItems xs)[argBest (fun i j => decide (numAt xs i > numAt xs j)) (xs.size - 1)]? = some v → (∀ b o, s.heap.get? b = some o → h'.get? b = some o) → Q v { s with heap := h', toks := tk }) :
    wpAny (model prog w) A (call (.builtin "max") [.ref l]) Q E s := by
  obtain ⟨o, ho, hs⟩ := id hl
  have hlt : l < s.heap.objs.size := Heap.lt_size ho
  refine call_max_walk (wpAny_pyIter_tuple hl ?_)
  have hl2 : ({ s with heap := s.heap.push { cls := .type "tuple_iterator", data := .fields #[.ref l, .int 0 0] } } : Shared).heap.IsTuple l (intItems xs) := hl.at fun o e => Heap.get?_push_of_some _ e
  refine ⟨_, _, _, _, _, _, _, rfl, Walks.tuple (A := A.in1) hh s.heap.objs.size l (Nat.ne_of_lt hlt) (intItems xs), ⟨⟨_, Heap.get?_push_size _ rfl, rfl, rfl⟩, hl2⟩, fun b hb => ?_, by simpa [intItems] using hne, CmpOf.ints_gt (numAt xs) (fun _ _ => intItems_at), fun v h' tk hP hk => ?_⟩
  · have hb' : b = s.heap.objs.size ∨ b = l := by simpa using hb
    rw [Heap.size_push]
    rcases hb' with q | q
    · rw [q]; exact Nat.lt_succ_self _
    · rw [q]; exact Nat.lt_succ_of_lt hlt
  · exact h v h' tk (by simpa [intItems] using hP) fun b o e => hk b o (fun q => by
      have q' : b = s.heap.objs.size := by simpa using q
      exact absurd (Heap.lt_size e) (by rw [q']; exact Nat.lt_irrefl _)) (Heap.get?_push_of_some _ e)
theorem max_rawT {l : Addr} {its : List Value} {ns : List Int} {Q : Value → Shared → Prop} (hh : A.handled = none) (hl : s.heap.IsTuple l its.toArray) (hi : IntsAre its ns) (hne : 0 < ns.length)
    (h : ∀ h' tk M t', (∀ b o, s.heap.get? b = some o → h'.get? b = some o) → M ∈ ns → (∀ a, a ∈ ns → a ≤ M) → Q (.int M t') { s with heap := h', toks := tk }) : wpAny (model prog w) A (call (.builtin "max") [.ref l]) Q E s := by
  obtain ⟨xs, e⟩ := hi.allInts.items
  have hn : numsOf (intItems xs).toList = ns := by rw [← e]; exact hi.numsOf
  rw [nums_intItems] at hn
  subst hn
  rw [e] at hl
  have hsz : 0 < xs.size := by simpa using hne
  refine max_intTuple hh hl hsz fun v h' tk hv hk => ?_
  obtain ⟨t, rfl⟩ := intItems_at hv
  obtain ⟨h1, h2⟩ := argBest_gt (numAt xs) (xs.size - 1)
  refine h h' tk _ t hk ?_ fun a ha => ?_
  · rw [numAt_eq]; exact PySem.getD_mem (by rw [List.length_map, Array.length_toList]; omega)
  · obtain ⟨j, hj, rfl⟩ := mem_getD ha
    rw [List.length_map, Array.length_toList] at hj
    rw [← numAt_eq]; exact h2 j (by omega)
end
def rMaxT (K : PySem.W.Frag) : List V → Hp → VK → Prop := fun vs H Q => ∃ (a : Addr) (ns : List Int), vs = [V.ref a] ∧ SqT K H a (ns.map V.int) ∧ 0 < ns.length ∧ ∀ m, m ∈ ns → (∀ y, y ∈ ns → y ≤ m) → Q (.int m) H
def rMaxA (K : PySem.W.Frag) : List V → Hp → VK → Prop := fun vs H Q => rMax K vs H Q ∨ rMaxT K vs H Q
theorem cr_maxA {X : Cx} (hc : X.calm = true) : CallR X (.builtin "max") (rMaxA X.K) := by
  intro pins s σ H vs us Q I r h
  rcases h with h | h
  · exact cr_max hc pins s σ H vs us Q I r h
  · obtain ⟨a, ns, rfl, hs, hne, q⟩ := h
    obtain ⟨its, rv, hl, _⟩ := I.tuple hs
    rw [Vals.ref1 r]
    exact max_rawT (I.ok.hd hc) hl rv.ints hne fun h' tk m t' hk h1 h2 => ⟨.int _, H, I.kept hk, ⟨_, rfl⟩, q m h1 h2⟩
section
variable {K : PySem.W.Frag} {cv : Cv} {W : WX}
def mostD (ds : List D) : R D := match asInts ds with
  | some ns => if 0 < ns.length then .val (.int (mostI ns)) else .stk
  | none => .stk
def pMaxA : List D → R D
  | [.list ds] => mostD ds
  | [.tuple ds] => mostD ds
  | _ => .stk
theorem rc_maxA : RelCall cv W (rMaxA K) pMaxA := fun B F H ρ σ vs ds Q A e hp => by
  unfold pMaxA at hp
  split at hp
  · unfold mostD at hp
    split at hp
    · rename_i z
      split at hp
      · rename_i h0
        cases e with
        | cons a r =>
          cases r
          cases a with
          | lst s a =>
            have q := asInts_eq z a
            subst q
            refine .inl ⟨_, _, rfl, SqL.sub A s, h0, fun m h1 h2 => ?_⟩
            have e1 := most_of h0
            rw [show m = mostI _ from Int.le_antisymm (e1.2 _ h1) (h2 _ e1.1)]
            exact hp.ret A (.int _)
      · exact hp.elim
    · exact hp.elim
  · unfold mostD at hp
    split at hp
    · rename_i z
      split at hp
      · rename_i h0
        cases e with
        | cons a r =>
          cases r
          cases a with
          | tup s a =>
            have q := asInts_eq z a
            subst q
            refine .inr ⟨_, _, rfl, SqT.sub A s, h0, fun m h1 h2 => ?_⟩
            have e1 := most_of h0
            rw [show m = mostI _ from Int.le_antisymm (e1.2 _ h1) (h2 _ e1.1)]
            exact hp.ret A (.int _)
      · exact hp.elim
    · exact hp.elim
  · exact hp.elim
end
end L2.Dn


set_option Elab.async false
set_option linter.all false
set_option maxRecDepth 100000
set_option maxHeartbeats 2000000
/-! Dn18: the square of an int of many bits. -/
namespace L2.Dn
open PySem PySem.Spec PyProof.Rows
def CSq (i j : Int) : Prop := 0 ≤ j ∧ (Builtin.Int.intBits i : Int) * j ≤ 134217728
theorem op_sq {X : Cx} : OpR X (binaryOp .Pow) (rI CSq fun i j => .int (i ^ j.toNat)) := opI fun _ _ _ _ _ _ _ hc q => pow_int hc.1 (by rw [show (2 : Int) ^ 27 = 134217728 by decide]; exact hc.2) q
section
variable {K : PySem.W.Frag} {cv : Cv} {W : WX}
def pSq : D → D → R D := pII fun i j => if decide (0 ≤ j) && decide ((Builtin.Int.intBits i : Int) * j ≤ 134217728) then .val (.int (i ^ j.toNat)) else .stk
theorem ro_sq : RelOp cv W (rI CSq fun i j => .int (i ^ j.toNat)) pSq := ro_rI (fun i j z => by
  rw [Bool.and_eq_true, decide_eq_true_iff, decide_eq_true_iff] at z
  exact z) fun _ _ _ => .int _
end
theorem sq_eq {i : Int} (h : Builtin.Int.intBits i ≤ 1048600) : pSq (.int i) (.int 2) = .val (.int (i ^ 2)) := by
  show (if decide ((0 : Int) ≤ 2) && decide ((Builtin.Int.intBits i : Int) * 2 ≤ 134217728) then R.val (PyData.int (i ^ (2 : Int).toNat)) else .stk) = _
  rw [decide_eq_true (show (Builtin.Int.intBits i : Int) * 2 ≤ 134217728 by omega)]
  rfl
/-- bits of a sum with a small one -/
theorem bits_le_iff {i : Int} {m : Nat} : Builtin.Int.intBits i ≤ m ↔ i.natAbs < 2 ^ m := by
  unfold Builtin.Int.intBits
  by_cases h : i = 0
  · subst h
    simp
    exact Nat.pow_pos (by decide)
  · have h' : (i == 0) = false := by simpa using h
    rw [h']
    show i.natAbs.log2 + 1 ≤ m ↔ _
    have hn : i.natAbs ≠ 0 := by omega
    rw [← Nat.log2_lt hn]
    omega
theorem bits_add {i c : Int} (h : Builtin.Int.intBits i ≤ 1048576) (hc : c.natAbs < 2 ^ 20) : Builtin.Int.intBits (i + c) ≤ 1048600 := by
  rw [bits_le_iff] at h ⊢
  have h1 : (i + c).natAbs ≤ i.natAbs + c.natAbs := Int.natAbs_add_le i c
  have h2 : (2 : Nat) ^ 20 ≤ 2 ^ 1048576 := Nat.pow_le_pow_right (by decide) (by decide)
  have h3 : (2 : Nat) ^ 1048576 + 2 ^ 1048576 = 2 ^ (1048576 + 1) := by rw [Nat.pow_succ 2 1048576]; omega
  have h4 : (2 : Nat) ^ (1048576 + 1) ≤ 2 ^ 1048600 := Nat.pow_le_pow_right (by decide) (by decide)
  generalize (2 : Nat) ^ 1048576 = A at *
  generalize (2 : Nat) ^ (1048576 + 1) = B at *
  generalize (2 : Nat) ^ 1048600 = C at *
  generalize (2 : Nat) ^ 20 = D at *
  omega
end L2.Dn


set_option Elab.async false
set_option linter.all false
set_option maxRecDepth 100000
set_option maxHeartbeats 2000000
/-! Dn19: dicts: locked for good, walked, sorted, told to another def; += of ints. -/
namespace L2.Dn
open PySem PySem.Spec PyProof.Rows
/-- a dict is locked for good: from then on it is only read -/
def tLockV (td : TE) : TE := fun σ H Q => td σ H fun x H1 => ∃ d kvs, x = .ref d ∧ H1 d = some (.dK kvs) ∧ ∀ o, Q (.ref d) (upd H1 d (.frz o (.dK kvs)))
theorem pe_lockV {X : Cx} {e : Expr} {td : TE} (he : PE X e td) : PE X e (tLockV td) := by
  refine ⟨fun pins s σ H Q I h => ?_⟩
  refine thn (he.run pins s σ H _ I h) fun u s1 ⟨x, H1, I1, rx, d, kvs, ex, hd, q⟩ => ?_
  subst ex
  obtain ⟨od, I2⟩ := I1.lock hd trivial
  exact ⟨.ref d, _, I2, rx, q od⟩
section
variable {P : Program} {w : World} {K : PySem.W.Frag} {cv : Cv} {W : WX} {B B' F F' H H' : Hp} {ρ ρ' : En} {σ : St}
def pAddI : D → D → R D := pII fun i j => .val (.int (i + j))
theorem ro_addI : RelOp cv W (ipI fun i j => i + j) pAddI := ro_II fun B F H ρ σ i j Q A hp => ⟨i, j, rfl, rfl, hp.ret A (.int _)⟩
/-! ### keys -/
def kD : Key → D
  | .inl i => .int i
  | .inr x => .str x
theorem kD_rel {F : Hp} (k : Key) : Dp [] F (kV k) (kD k) := by
  cases k with
  | inl i => exact .int i
  | inr x => exact .str x
def keysD (kvs : List (Key × D)) : List D := kvs.map fun p => kD p.1
theorem KVp.get {ks : List (Key × V)} {kvs : List (Key × D)} (h : KVp F ks kvs) {i : Nat} {d : D} (e : (keysD kvs)[i]? = some d) : ∃ k v, ks[i]? = some (k, v) ∧ Dp [] F (kV k) d := by
  induction h generalizing i with
  | nil => simp [keysD] at e
  | @cons a b _ _ q _ ih =>
    cases i with
    | zero =>
      have e' : kD b.1 = d := by simpa [keysD] using e
      refine ⟨a.1, a.2, rfl, ?_⟩
      rw [q.1, ← e']
      exact kD_rel _
    | succ i => exact ih (by simpa [keysD] using e)
theorem it_keys {a : Addr} {o : Obj} {ks : List (Key × V)} {kvs : List (Key × D)} (h : F a = some (.frz o (.dK ks))) (e : KVp F ks kvs) (z : kvs.length ≤ M) : ItOk B F (Itk a o ks) (keysD kvs) := .same
  (fun i d F1 H1 f s b e1 => by
    obtain ⟨k, v, e2, e3⟩ := e.get e1
    refine ⟨⟨s _ _ (f _ _ h), (List.getElem?_eq_some_iff.mp e2).1⟩, fun x H2 y => ⟨y.1, ?_⟩⟩
    obtain ⟨_, k', v', e4, rfl⟩ := y
    rw [e2] at e4
    cases e4
    exact Dp.le f e3)
  (fun i F1 H1 f s b e1 => ⟨s _ _ (f _ _ h), by rw [e.length, e1]; simp [keysD]⟩)
  (by simpa [keysD] using z)
/-- a new dict is locked: it is data from then on -/
theorem Ag.lockNew {a : Addr} {ks : List (Key × V)} (A : Ag cv B F H ρ σ) (hF : F a = none) (hB : B a = none) (fr : Free a ρ σ) (hu : H a = some (.dK ks)) (o : Obj) :
    Ag cv B (upd F a (.frz o (.dK ks))) (upd H a (.frz o (.dK ks))) ρ σ ∧ Nw B F (upd F a (.frz o (.dK ks))) :=
  (A.updFree (o := .frz o (.dK ks)) hF hB fr hu).freeze hF hB upd_same fr trivial
/-- a locked dict -/
def relKl : Hp → Hp → Hp → En → St → V → List (Key × D) → Prop := fun _ F _ _ _ v kvs => ∃ a o ks, v = .ref a ∧ F a = some (.frz o (.dK ks)) ∧ KVp F ks kvs
abbrev SKl (cv : Cv) (W : WX) (t : TE) (d : En → R (List (Key × D))) : Prop := Sm cv W relKl t d
theorem kl_lock {td : TE} {d : En → R (List (Key × D))} (h : SK cv W td d) : SKl cv W (tLockV td) d := fun B F H ρ σ Q A hq => by
  refine h B F H ρ σ _ A ?_
  cases e : d ρ with
  | val kvs =>
    rw [e] at hq
    intro F1 H1 v n1 A1 ⟨a, ks, e1, e2, e3, e4, e5, e6⟩
    refine ⟨a, ks, e1, e4, fun o => ?_⟩
    obtain ⟨A2, n2⟩ := A1.lockNew (ks := ks) e2 e3 e6 e4 o
    exact hq _ _ _ (n1.trans n2) A2 ⟨a, o, ks, rfl, upd_same, KVp.le n2.1 e5⟩
  | exc c => rw [e] at hq; exact hq
  | stk => rw [e] at hq; exact hq
/-- a slot's locked dict -/
def lkAt (ρ : En) (i : Nat) : R (List (Key × D)) := match ρ[i]? with
  | some (.lk kvs) => .val kvs
  | _ => .stk
def dLk (i : Nat) : En → R (List (Key × D)) := fun ρ => lkAt ρ i
theorem kl_var {i : Nat} : SKl cv W (tVar i) (dLk i) := fun B F H ρ σ Q A hq => by
  unfold dLk lkAt at hq
  split at hq
  · rename_i kvs e
    obtain ⟨a, ks, o, e1, e2, e3⟩ := A.ok i _ e
    exact ⟨.ref a, sAt_some e1, hq F H _ Nw.refl A ⟨a, o, ks, rfl, e2, e3⟩⟩
  · exact hq.elim
/-- what is walked: keys -/
def dKeys (d : En → R (List (Key × D))) : En → R (List D) := fun ρ => d ρ >>= fun kvs => if kvs.length ≤ M then .val (keysD kvs) else .stk
theorem si_keysL {td : TE} {d : En → R (List (Key × D))} (h : SKl cv W td d) : SI cv W (iKeysM td) (dKeys d) := fun B F H ρ σ Q A hq =>
  h.bind A hq fun kvs F1 H1 v n1 A1 ⟨a, o, ks, e1, e2, e3⟩ h1 => by
    split at h1
    · rename_i hz
      exact ⟨a, o, ks, e1, A1.sub _ _ e2, h1 F1 H1 _ Nw.refl A1 (it_keys e2 e3 hz)⟩
    · exact h1.elim
theorem pi_keysM {X : Cx} {tg e : Expr} {td : TE} (he : PE X e td) : PI X tg e (iKeysM td) := by
  refine ⟨fun pins s σ H R I h => ?_⟩
  refine thn (he.run pins s σ H _ I h) fun u s1 ⟨x, H1, I1, rx, d, o, kvs, ex, hd, q⟩ => ?_
  subst ex
  obtain rfl : u = Value.ref d := rx
  obtain ⟨hs, hgd, hx, es, ep, vs, hdt, hsz, kv, hm⟩ := I1.frzK hd
  refine iter_keys hs hgd hx hdt (pi_one (tk := s1.toks) I1 _ (turn_keys _ hdt) ⟨_, Heap.get?_push_size _ rfl, rfl, ?_⟩ q)
  rw [hsz] <;> rfl
/-! ### a locked dict in a slot -/
def oSetLk (i : Nat) (d : En → R (List (Key × D))) : En → Out := fun ρ => toO (d ρ) ρ fun x => .nx (ρ.set i (.lk x))
theorem ss_setLk {i : Nat} {t : TE} {d : En → R (List (Key × D))} (h : SKl cv W t d) : SS cv W (tAsg t (gName i)) (oSetLk i d) := fun B F H ρ σ D A q =>
  h.bindS A q fun kvs F1 H1 v n1 A1 ⟨a, o, ks, e1, e2, e3⟩ h1 => by
    subst e1
    exact h1 F1 H1 _ Nw.refl (A1.set (s := .lk kvs) ⟨a, ks, o, rfl, e2, e3⟩ fun z => by cases z)
/-! ### membership, in a new dict -/
def dInN (neg : Bool) (b : En → R D) (d : En → R (List (Key × D))) : En → R D := fun ρ => b ρ >>= fun y => asK y >>= fun k => d ρ >>= fun kvs => .val (.bool (if neg then !(valD kvs k).isSome else (valD kvs k).isSome))
theorem se_dinN {ty td : TE} {b : En → R D} {d : En → R (List (Key × D))} {neg : Bool} {t : TE} (ht : t = if neg then tDNotIn ty td else tDIn ty td) (hb : SE cv W ty b) (hd : SK cv W td d) : SE cv W t (dInN neg b d) := fun B F H ρ σ Q A hq => by
  subst ht
  have go : ty σ H fun y H1 => td σ H1 fun x H2 => ∃ a o, x = .ref a ∧ DGet H2 a y o ∧ Q (.bl (if neg then !o.isSome else o.isSome)) H2 := hb.bind A hq fun y F2 H2 v n2 A2 ey q2 => by
    obtain ⟨k, ek, q3⟩ := asK_bind q2
    have ev := asK_eq ek ey
    refine hd.bind A2 q3 fun kvs F3 H3 u n3 A3 ⟨a, ks, e1, e2, e3, e4, e5, e6⟩ q4 => ?_
    refine ⟨a, valV ks k, e1, .inl ⟨ks, k, .inl e4, ev, rfl⟩, ?_⟩
    have es : (valV ks k).isSome = (valD kvs k).isSome := by
      rcases e5.val k with ⟨z, z'⟩ | ⟨_, _, z, z', _⟩ <;> rw [z, z'] <;> rfl
    rw [es]
    exact q4.ret A3 (.bl _)
  cases neg with
  | true => exact go
  | false => exact go
/-! ### sorted(d) -/
def rSortedDA : List V → Hp → VK → Prop := fun xs H Q => ∃ (a : Addr) (kvs : List (Key × V)) (ks : List Str), xs = [.ref a] ∧ Rd H a (.dK kvs) ∧ kvs.map (·.1) = ks.map Sum.inr ∧ ks.length ≤ sizeLine ∧
    ∀ ys p, ys.Perm ks → sortedS ys = true → H p = none → Q (.ref p) (upd H p (.lst (ys.map V.str)))
/-- of texts, however many -/
theorem cr_sortedDA {X : Cx} (hcalm : X.calm = true) : CallR X (.builtin "sorted") rSortedDA := by
  intro pins s σ H xs us Q I r q
  obtain ⟨a, kvs, ks, ex, hd, hks, hsz, q⟩ := q
  subst ex
  obtain ⟨u, eu, rx⟩ := vals1 r
  subst eu
  cases rx
  obtain ⟨z, lo, vs, rel, dd⟩ := dk_rd I.hok hd
  obtain ⟨ep, hat⟩ := dd.dictAt
  have hkeys : vs.map (·.1) = ks.map Sum.inr := rel.keys.symm.trans hks
  have hl : vs.length = ks.length := by
    have e := congrArg List.length hkeys
    rw [List.length_map, List.length_map] at e
    exact e
  have h16 : vs.length ≤ sizeLine := by rw [hl]; exact hsz
  refine Calls.call_function_entry PyProof.Rows.kind_sorted PyProof.Rows.plain_sorted PyProof.Rows.entry_sorted (PyProof.Rows.args_sorted1 _) ?_
  unfold Builtin.«sorted»
  refine wpAny_bind (m := checkCount "sorted" 1 1 _) (wpAny_pure ?_)
  refine wpAny_bind (PySem.W.kdu_collect (A := X.A.in1) (PySem.W.kdl_dict (knd := mixKind X.prog X.w) (kvs := vs) (ep := ep) lo) (I.ok.hd hcalm) hat h16 fun h' tk acc hk hacc => ?_)
  have hal : acc.toList.length = ks.length := by rw [Array.length_toList, hacc.1, hl]
  have hS : StrsAre acc.toList ks := strs_at hal fun j v e => by
    obtain ⟨k, x, e1, e2⟩ := hacc.2 j v (by rw [← Array.getElem?_toList]; exact e)
    have e3 : (vs.map (·.1))[j]? = some k := by rw [List.getElem?_map, e1]; all_goals rfl
    rw [hkeys, List.getElem?_map] at e3
    cases e4 : ks[j]? with
    | none => rw [e4] at e3; cases e3
    | some y =>
      rw [e4] at e3
      have e5 : Sum.inr y = k := Option.some.inj e3
      subst e5
      obtain ⟨t, ev⟩ := Value.isStrOf_shape (x := y) (v := v) e2
      exact ⟨y, t, rfl, ev⟩
  have I1 : Inv X pins σ H { s with heap := h', toks := tk } := I.kept hk
  refine wpAny_bind (wpAny_newList ?_ (by rw [hal]; exact hsz))
  have hoL : (h'.push (seqObj "list" acc.toList.toArray 0)).get? h'.objs.size = some (seqObj "list" acc.toList.toArray 0) := Heap.get?_push_size _ rfl
  show wpAny _ _ _ _ _ { s with heap := h'.push (seqObj "list" acc.toList.toArray 0), toks := tk }
  refine wpAny_bind (wpAny_holding (wpAny_call_entry PyProof.Rows.slot_list_sort ⟨_, hoL, rfl⟩ PyProof.Rows.entry_list_sort
    (list_sort_treeKAny strKind_oneLt (s := { s with heap := h'.push (seqObj "list" acc.toList.toArray 0), toks := tk }) hoL hS.keysOf (fun v₁ v₂ rest e => keyKind_strs (by rw [← e]; exact hS)) (by rw [hal]; exact hsz) fun st' hp hs => ⟨_, rfl, ?_⟩)
    (PyProof.Rows.args_list_sort _)))
  obtain ⟨ys, g1, g2, g3⟩ := sorted_out_str hS hp hs
  obtain ⟨e', he'⟩ := PyProof.Rows.sortedHeap_at (vs := acc.toList) (out := (arrOf st').map (·.2)) hoL
  have hlen : (ys.map V.str).length ≤ sizeLine := by
    rw [List.length_map, g2.length_eq]
    exact hsz
  refine wpAny_pure ⟨_, rfl, .ref h'.objs.size, upd H h'.objs.size (.lst (ys.map V.str)), I1.laid (t' := tk) (fun b u e => ?_) (Nat.le_refl _)
    (show ObjOk X.prog X.w _ _ _ (.lst (ys.map V.str)) from ⟨hlen, ((arrOf st').map (·.2)).toList, e', vals_of_strs g1, by rw [Array.toArray_toList]; exact he'⟩), rfl, q ys _ g2 g3 (I1.hok.fresh (Nat.le_refl _))⟩
  have hb : b < h'.objs.size := Heap.lt_size e
  rw [PyProof.Rows.sortedHeap_old (Nat.ne_of_lt hb) (by rw [size_push']; exact Nat.lt_succ_of_lt hb)]
  exact Heap.get?_push_of_some _ e
def asSK : List (Key × D) → Option (List Str)
  | [] => some []
  | (.inr x, _) :: r => (asSK r).map (x :: ·)
  | (.inl _, _) :: _ => none
theorem asSK_keys : ∀ {kvs : List (Key × D)} {xs : List Str}, asSK kvs = some xs → kvs.map (·.1) = xs.map Sum.inr
  | [], xs, h => by cases h; rfl
  | (.inr x, d) :: r, xs, h => by
    cases e : asSK r with
    | none => simp [asSK, e] at h
    | some ys =>
      have h' : x :: ys = xs := by simpa [asSK, e] using h
      subst h'
      rw [List.map_cons, List.map_cons, asSK_keys e]
  | (.inl i, d) :: r, xs, h => by simp [asSK] at h
theorem KVp.keys {ks : List (Key × V)} {kvs : List (Key × D)} (h : KVp F ks kvs) : ks.map (·.1) = kvs.map (·.1) := by
  induction h with
  | nil => rfl
  | cons q _ ih => rw [List.map_cons, List.map_cons, q.1, ih]
def sortK (kvs : List (Key × D)) : R (List D) := match asSK kvs with
  | some xs => if xs.length ≤ M then .val ((srtS xs).map .str) else .stk
  | none => .stk
def dSortK (d : En → R (List (Key × D))) : En → R (List D) := fun ρ => d ρ >>= sortK
theorem sortK_run {ks : List (Key × V)} {kvs : List (Key × D)} {a : Addr} {Q : VK} (h : Post cv W relL B F ρ σ (sortK kvs) Q) (A : Ag cv B F H ρ σ) (e : KVp F ks kvs) (hd : Rd H a (.dK ks)) : rSortedDA [.ref a] H Q := by
  unfold sortK at h
  split at h
  · rename_i xs ex
    split at h
    · rename_i hz
      refine ⟨a, ks, xs, rfl, hd, by rw [e.keys, asSK_keys ex], M_line hz, fun ys p hp hs hn => ?_⟩
      have hys : ys = srtS xs := srtS_of hp (sortedS_pw hs)
      refine newL h A (by rw [List.length_map, (srtS_perm xs).length_eq]; exact hz) ?_ hn
      rw [hys]
      exact DpAll.dstrs
    · exact h.elim
  · exact h.elim
theorem sl_sortK {td : TE} {d : En → R (List (Key × D))} (h : SK cv W td d) : SL cv W (tCB rSortedDA (tCons td tNil)) (dSortK d) := fun B F H ρ σ Q A hq =>
  h.bind A hq fun kvs F1 H1 v n1 A1 ⟨a, ks, e1, e2, e3, e4, e5, e6⟩ h1 => by
    subst e1
    exact sortK_run h1 A1 e5 (.inl e4)
def dOd (i : Nat) : En → R (List (Key × D)) := fun ρ => odAt ρ i
theorem sl_sortO {i : Nat} : SL cv W (tCB rSortedDA (tCons (tVar i) tNil)) (dSortK (dOd i)) := fun B F H ρ σ Q A hq => by
  unfold dSortK dOd at hq
  obtain ⟨kvs, eo, h1⟩ := odAt_val hq
  obtain ⟨a, ks, z1, rd, e5⟩ := odAt_rd A eo
  exact ⟨.ref a, sAt_some z1, sortK_run h1 A e5 rd⟩
end
end L2.Dn


set_option Elab.async false
set_option linter.all false
set_option maxRecDepth 100000
set_option maxHeartbeats 2000000
/-! Dn20: defs that tell a dict, or are told one; dict(pairs); sorted(d) of ints; text.split, int(text); range of three. -/
namespace L2.Dn
open PySem PySem.Spec PyProof.Rows
def rSortedDI : List V → Hp → VK → Prop := fun xs H Q => ∃ (a : Addr) (kvs : List (Key × V)) (ks : List Int), xs = [.ref a] ∧ Rd H a (.dK kvs) ∧ kvs.map (·.1) = ks.map Sum.inl ∧ ks.length < 64 ∧
    ∀ (ys : List Int) (p : Addr), ys.Perm ks → ys.Pairwise (· ≤ ·) → H p = none → Q (.ref p) (upd H p (.lst (ys.map V.int)))
def rSortedDX : List V → Hp → VK → Prop := fun xs H Q => rSortedDA xs H Q ∨ rSortedDI xs H Q
theorem cr_sortedDX {X : Cx} (hcalm : X.calm = true) : CallR X (.builtin "sorted") rSortedDX := fun pins s σ H xs us Q I r q => q.elim (cr_sortedDA hcalm pins s σ H xs us Q I r) (call_sortedDI hcalm pins s σ H xs us Q I r)
def rDictP (K : PySem.W.Frag) : List V → Hp → VK → Prop := fun xs H Q => ∃ (a : Addr) (ps : List Addr) (kvs : List (Key × V)), xs = [.ref a] ∧ SqL K H a (ps.map V.ref) ∧ Paired (fun p kv => SqT K H p [kV kv.1, kv.2]) ps kvs ∧
    ∀ p, H p = none → Q (.ref p) (upd H p (.dK (mergeK [] kvs)))
theorem cr_dictP {X : Cx} (hcalm : X.calm = true) : CallR X (.type "dict") (rDictP X.K) := call_dictP hcalm
def rSplit : V → List V → Hp → VK → Prop := fun x xs H Q => ∃ a b, x = .str a ∧ xs = [.str b] ∧ (b.length == 0) = false ∧ a.length + 2 ≤ sizeLine ∧ rNewStrs (Txt.split a b) H Q
theorem mt_splitD {X : Cx} : MtR X "str.split" rSplit := mt_split
def rIntS : List V → Hp → VK → Prop := fun xs H Q => ∃ a n, xs = [.str a] ∧ PySem.intText? a = some n ∧ a.length ≤ 640 ∧ Q (.int n) H
theorem cr_intS {X : Cx} : CallR X (.type "int") rIntS := call_int_str
section
variable {P : Program} {w : World} {K : PySem.W.Frag} {cv : Cv} {W : WX} {B B' F F' H H' : Hp} {ρ ρ' : En} {σ : St}
/-! ### sorted(d) -/
def asIK : List (Key × D) → Option (List Int)
  | [] => some []
  | (.inl x, _) :: r => (asIK r).map (x :: ·)
  | (.inr _, _) :: _ => none
theorem asIK_keys : ∀ {kvs : List (Key × D)} {xs : List Int}, asIK kvs = some xs → kvs.map (·.1) = xs.map Sum.inl
  | [], xs, h => by cases h; rfl
  | (.inl x, d) :: r, xs, h => by
    cases e : asIK r with
    | none => simp [asIK, e] at h
    | some ys =>
      have h' : x :: ys = xs := by simpa [asIK, e] using h
      subst h'
      rw [List.map_cons, List.map_cons, asIK_keys e]
  | (.inr i, d) :: r, xs, h => by simp [asIK] at h
def sortX (kvs : List (Key × D)) : R (List D) := match asSK kvs with
  | some xs => if xs.length ≤ M then .val ((srtS xs).map .str) else .stk
  | none => match asIK kvs with
    | some ns => if ns.length < 64 then .val ((srtI ns).map .int) else .stk
    | none => .stk
def dSortX (d : En → R (List (Key × D))) : En → R (List D) := fun ρ => d ρ >>= sortX
theorem sortX_run {ks : List (Key × V)} {kvs : List (Key × D)} {a : Addr} {Q : VK} (h : Post cv W relL B F ρ σ (sortX kvs) Q) (A : Ag cv B F H ρ σ) (e : KVp F ks kvs) (hd : Rd H a (.dK ks)) : rSortedDX [.ref a] H Q := by
  unfold sortX at h
  split at h
  · rename_i xs ex
    refine .inl (sortK_run (cv := cv) (W := W) (B := B) (F := F) (ρ := ρ) (σ := σ) ?_ A e hd)
    unfold sortK
    rw [ex]
    exact h
  · split at h
    · rename_i ns ex
      split at h
      · rename_i hz
        refine .inr ⟨a, ks, ns, rfl, hd, by rw [e.keys, asIK_keys ex], hz, fun ys p hp hs hn => ?_⟩
        have hys : ys = srtI ns := srtI_of hp hs
        refine newL h A (by rw [List.length_map, (srtI_perm ns).length_eq]; show ns.length ≤ 16777216; omega) ?_ hn
        rw [hys]
        exact DpAll.dints
      · exact h.elim
    · exact h.elim
theorem sl_sortX {td : TE} {d : En → R (List (Key × D))} (h : SK cv W td d) : SL cv W (tCB rSortedDX (tCons td tNil)) (dSortX d) := fun B F H ρ σ Q A hq =>
  h.bind A hq fun kvs F1 H1 v n1 A1 ⟨a, ks, e1, e2, e3, e4, e5, e6⟩ h1 => by
    subst e1
    exact sortX_run h1 A1 e5 (.inl e4)
theorem sl_sortXO {i : Nat} : SL cv W (tCB rSortedDX (tCons (tVar i) tNil)) (dSortX (dOd i)) := fun B F H ρ σ Q A hq => by
  unfold dSortX dOd at hq
  obtain ⟨kvs, eo, h1⟩ := odAt_val hq
  obtain ⟨a, ks, z1, rd, e5⟩ := odAt_rd A eo
  exact ⟨.ref a, sAt_some z1, sortX_run h1 A e5 rd⟩
/-! ### dict(pairs) -/
def pairD : D → Option (Key × D)
  | .tuple [.int i, v] => some (.inl i, v)
  | .tuple [.str x, v] => some (.inr x, v)
  | _ => none
def pairsD : List D → Option (List (Key × D))
  | [] => some []
  | d :: r => match pairD d, pairsD r with
    | some p, some ps => some (p :: ps)
    | _, _ => none
theorem pairD_run {v : V} {d : D} {kv : Key × D} (h : Dp [] F v d) (e : pairD d = some kv) : ∃ p x, v = .ref p ∧ SqT [] F p [kV kv.1, x] ∧ Dp [] F x kv.2 := by
  unfold pairD at e
  split at e
  · cases e
    cases h with
    | tup s a =>
      cases a with
      | cons a1 a2 =>
        cases a2 with
        | cons a3 a4 =>
          cases a4
          cases a1
          exact ⟨_, _, rfl, s, a3⟩
  · cases e
    cases h with
    | tup s a =>
      cases a with
      | cons a1 a2 =>
        cases a2 with
        | cons a3 a4 =>
          cases a4
          cases a1
          exact ⟨_, _, rfl, s, a3⟩
  · cases e
theorem pairsD_run (l : Le F H) : ∀ {xs : List V} {ds : List D} {kvs : List (Key × D)}, DpAll [] F xs ds → pairsD ds = some kvs → ∃ (ps : List Addr) (ks : List (Key × V)), xs = ps.map V.ref ∧ Paired (fun p kv => SqT K H p [kV kv.1, kv.2]) ps ks ∧ KVp F ks kvs
  | _, _, _, .nil, e => by cases e; exact ⟨[], [], rfl, .nil, .nil⟩
  | _, _, _, .cons (d := d) (ds := r) h1 h2, e => by
    unfold pairsD at e
    cases e1 : pairD d with
    | none => rw [e1] at e; cases e
    | some kv =>
      cases e2 : pairsD r with
      | none => rw [e1, e2] at e; cases e
      | some kvs =>
        rw [e1, e2] at e
        cases e
        obtain ⟨p, x, rfl, s, q⟩ := pairD_run h1 e1
        obtain ⟨ps, ks, rfl, q2, q3⟩ := pairsD_run l h2 e2
        exact ⟨p :: ps, (kv.1, x) :: ks, rfl, .cons (SqT.toK (SqT.le l s)) q2, .cons ⟨rfl, q⟩ q3⟩
def dDictP (a : En → R D) : En → R (List (Key × D)) := fun ρ => a ρ >>= fun x => asL x >>= fun ds => match pairsD ds with
  | some kvs => .val (mergeD [] kvs)
  | none => .stk
theorem sk_dictP {t : TE} {a : En → R D} (h : SE cv W t a) : SK cv W (tCB (rDictP K) (tCons t tNil)) (dDictP a) := fun B F H ρ σ Q A hq =>
  h.bind A hq fun x F1 H1 v n1 A1 e1 h1 => by
    obtain ⟨ds, rfl, h2⟩ := asL_bind h1
    cases e1 with
    | lst s q =>
      rename_i ad xs
      cases e : pairsD ds with
      | none => rw [e] at h2; exact h2.elim
      | some kvs =>
        rw [e] at h2
        obtain ⟨ps, ks, rfl, q2, q3⟩ := pairsD_run (K := K) A1.sub q e
        refine ⟨ad, ps, ks, rfl, SqL.sub A1 s, q2, fun p hp => ?_⟩
        obtain ⟨A2, hF, hB⟩ := A1.loose (.dK (mergeK [] ks)) hp
        exact h2 F1 _ _ Nw.refl A2 ⟨p, _, rfl, hF, hB, upd_same, KVp.merge .nil q3, free_new A1 hp⟩
/-! ### defs that tell a dict -/
theorem body_ofK {N : List Str} {n : Nat} {t : TS} {o : En → Out} {vs : List V} {Q : VK} {E : XK} (hb : SS cv (WD E) t o) (h : spK cv n (dDefK N.length o) vs H Q E) (hn : n ≤ N.length := by decide) : t { nx := fun _ H' => Q .non H', rt := Q } (start N vs) H := by
  obtain ⟨hl, F, ds, s, z, tb, e, q⟩ := h
  have A := Ag.entry (N := N) s z tb e (by rw [hl]; exact hn)
  refine hb (noT H) F H _ _ _ A ?_
  unfold dDefK at q
  cases eo : o (ent N.length ds) with
  | nx ρ' => rw [eo] at q; exact q.elim
  | rt d => rw [eo] at q; exact q.elim
  | rd kvs =>
    rw [eo] at q
    exact fun F' H' a ks n s l z tb e1 e2 e3 e4 => q F' H' a ks n.1 s l n.2 z tb e1 e2 e3 e4
  | xc c ρ' =>
    rw [eo] at q
    exact fun F' H' σ' n A' => q H' A'.prot A'.tabs
  | bk _ => rw [eo] at q; exact q.elim
  | ct _ => rw [eo] at q; exact q.elim
  | stk => rw [eo] at q; exact q.elim
/-- a dict that is dropped -/
def oDropK (d : En → R (List (Key × D))) : En → Out := fun ρ => toO (d ρ) ρ fun _ => .nx ρ
theorem ss_dropK {t : TE} {d : En → R (List (Key × D))} (h : SK cv W t d) : SS cv W (tDrop t) (oDropK d) := fun B F H ρ σ D A q =>
  h.bindS A q fun x F1 H1 v n1 A1 _ h1 => h1 F1 H1 _ Nw.refl A1
/-! ### defs that are told a dict -/
def spL (cv : Cv) (d : List (Key × D) → R D) : Sp := fun vs H Q E => ∃ (F : Hp) (a : Addr) (o : Obj) (ks : List (Key × V)) (kvs : List (Key × D)), vs = [.ref a] ∧ F a = some (.frz o (.dK ks)) ∧ KVp F ks kvs ∧ Le F H ∧ Sz F ∧ TabAll cv.T H ∧ PostF cv F H (d kvs) Q E
def entL (N : Nat) (kvs : List (Key × D)) : En := .lk kvs :: List.replicate (N - 1) .un
def dDefL (N : Nat) (o : En → Out) : List (Key × D) → R D := fun kvs => fin (o (entL N kvs))
theorem body_ofL {N : List Str} {t : TS} {o : En → Out} {vs : List V} {Q : VK} {E : XK} (hb : SS cv (WD E) t o) (h : spL cv (dDefL N.length o) vs H Q E) (hn : 1 ≤ N.length := by decide) : t { nx := fun _ H' => Q .non H', rt := Q } (start N vs) H := by
  obtain ⟨F, a, o', ks, kvs, rfl, e1, e2, s, z, tb, q⟩ := h
  have A : Ag cv (noT H) F H (entL N.length kvs) (start N [.ref a]) := {
    sub := s
    prot := fun _ _ h => (noT_of h).1
    nb := fun _ _ h => (noT_of h).2
    tabs := tb
    sz := z
    len := by
      simp only [entL, start, List.length_append, List.length_map, List.length_replicate, List.length_cons, List.length_nil]
      omega
    ok := fun i t h => by
      cases i with
      | zero =>
        have h' : Sl.lk kvs = t := by simpa [entL] using h
        subst h'
        exact ⟨a, ks, o', rfl, e1, e2⟩
      | succ i =>
        have h' : (List.replicate (N.length - 1) Sl.un)[i]? = some t := by simpa [entL] using h
        rw [List.getElem?_replicate] at h'
        split at h'
        · cases h'; trivial
        · cases h'
    dj := fun i j s t a h _ o => by
      cases i with
      | zero =>
        have h' : Sl.lk kvs = s := by simpa [entL] using h
        subst h'
        cases o
      | succ i =>
        have h' : (List.replicate (N.length - 1) Sl.un)[i]? = some s := by simpa [entL] using h
        rw [List.getElem?_replicate] at h'
        split at h'
        · cases h'; cases o
        · cases h' }
  refine hb (noT H) F H _ _ _ A ?_
  unfold dDefL at q
  cases eo : o (entL N.length kvs) with
  | nx ρ' =>
    rw [eo] at q
    exact fun F' H' σ' n A' => q F' H' .non n.1 A'.sub A'.prot n.2 A'.sz A'.tabs .non
  | rt d =>
    rw [eo] at q
    exact fun F' H' v n s l z tb e => q F' H' v n.1 s l n.2 z tb e
  | xc c ρ' =>
    rw [eo] at q
    exact fun F' H' σ' n A' => q H' A'.prot A'.tabs
  | bk _ => rw [eo] at q; exact q.elim
  | ct _ => rw [eo] at q; exact q.elim
  | rd _ => rw [eo] at q; exact q.elim
  | stk => rw [eo] at q; exact q.elim
def dAppL (f : List (Key × D) → R D) (d : En → R (List (Key × D))) : En → R D := fun ρ => d ρ >>= f
theorem se_callL {f : List (Key × D) → R D} {td : TE} {d : En → R (List (Key × D))} (h : SKl cv W td d) : SE cv W (tCallS (spL cv f) (WE W) (tCons td tNil)) (dAppL f d) := fun B F H ρ σ Q A hq =>
  h.bind A hq fun kvs F1 H1 v n1 A1 ⟨a, o, ks, e1, e2, e3⟩ h1 => by
    subst e1
    refine ⟨F1, a, o, ks, kvs, rfl, e2, e3, A1.sub, A1.sz, A1.tabs, ?_⟩
    cases e : f kvs with
    | val x =>
      rw [e] at h1
      exact fun F' H' v f s l w z tb e2 => h1 F' H' v (A1.nwN f w) (A1.upN f s l tb w z) e2
    | exc c =>
      rw [e] at h1
      exact fun H' l tb => h1 F1 H' Nw.refl (A1.still l tb)
    | stk => rw [e] at h1; exact h1
/-! ### text.split(sep), int(text) -/
def splitD : D → List D → R (List D)
  | .str a, [.str b] => if decide (b.length ≠ 0) && decide (a.length + 2 ≤ M) && decide ((Txt.split a b).length ≤ M) then .val ((Txt.split a b).map .str) else .stk
  | _, _ => .stk
def dSplit (a : En → R D) (ds : List (En → R D)) : En → R (List D) := fun ρ => a ρ >>= fun x => if isS x then dArgs ds ρ >>= fun xs => splitD x xs else .stk
theorem sl_split {to : TE} {t : TA} {a : En → R D} {ds : List (En → R D)} (ho : SE cv W to a) (h : SA cv W t (dArgs ds)) : SL cv W (tBM K "str" rSplit to t) (dSplit a ds) := fun B F H ρ σ Q A hq =>
  ho.bind A hq fun x F1 H1 v n1 A1 e1 h1 => by
    split at h1
    · rename_i hx
      cases e1 with
      | str z =>
        refine ⟨rfl, h.bind A1 h1 fun xs F2 H2 vs n2 A2 e2 h2 => ?_⟩
        unfold splitD at h2
        split at h2
        · rename_i a b ea
          cases ea
          split at h2
          · rename_i c
            rw [Bool.and_eq_true, Bool.and_eq_true, decide_eq_true_iff, decide_eq_true_iff, decide_eq_true_iff] at c
            cases e2 with
            | cons x r =>
              cases r
              cases x
              exact ⟨_, _, rfl, rfl, beq_eq_false_iff_ne.mpr c.1.1, M_line c.1.2, fun p hp => newL h2 A2 (by rw [List.length_map]; exact c.2) DpAll.dstrs hp⟩
          · exact h2.elim
        · exact h2.elim
      | non => cases hx
      | bl _ => cases hx
      | int _ => cases hx
      | lst _ _ => cases hx
      | tup _ _ => cases hx
    · exact h1.elim
def pIntS : List D → R D
  | [.str a] => match PySem.intText? a with
    | some n => if a.length ≤ 640 then .val (.int n) else .stk
    | none => .stk
  | _ => .stk
theorem rc_intS : RelCall cv W rIntS pIntS := fun B F H ρ σ vs ds Q A es hp => by
  unfold pIntS at hp
  split at hp
  · rename_i a
    split at hp
    · rename_i n en
      split at hp
      · rename_i hz
        cases es with
        | cons x r =>
          cases r
          cases x
          exact ⟨_, n, rfl, en, hz, hp.ret A (.int _)⟩
      · exact hp.elim
    · exact hp.elim
  · exact hp.elim
end
end L2.Dn


set_option Elab.async false
set_option linter.all false
set_option maxRecDepth 100000
set_option maxHeartbeats 2000000
/-! Dn21: a, b = x, y. -/
namespace L2.Dn
open PySem PySem.Spec PyProof.Rows
section
variable {P : Program} {w : World} {K : PySem.W.Frag} {cv : Cv} {W : WX} {B B' F F' H H' : Hp} {ρ ρ' : En} {σ : St}
def oPar (i j : Nat) (a b : En → R D) : En → Out := fun ρ => toO (a ρ) ρ fun x => toO (b ρ) ρ fun y => .nx ((ρ.set i (.fz x)).set j (.fz y))
theorem ss_par {i j : Nat} {ta tb : TE} {a b : En → R D} (ha : SE cv W ta a) (hb : SE cv W tb b) : SS cv W (tPar i j (tCons ta (tCons tb tNil))) (oPar i j a b) := fun B F H ρ σ D A q =>
  ha.bindS A q fun x F1 H1 v n1 A1 e1 h1 => hb.bindS A1 h1 fun y F2 H2 w n2 A2 e2 h2 =>
    ⟨v, w, rfl, h2 F2 H2 _ Nw.refl ((A2.set (s := .fz x) ⟨v, rfl, Dp.le n2.1 e1⟩ fun z => by cases z).set (s := .fz y) ⟨w, rfl, e2⟩ fun z => by cases z)⟩
theorem Free.put {a : Addr} {i : Nat} {s : Sl} {v : V} (f : Free a ρ σ) (o : s.own = false) : Free a (ρ.set i s) (σ.set i (some v)) := fun j t e ow => by
  by_cases h : i = j
  · subst h
    rw [List.getElem?_set] at e
    rw [if_pos rfl] at e
    split at e
    · cases e; rw [o] at ow; cases ow
    · cases e
  · rw [List.getElem?_set_ne h] at e
    rw [sAt_set' h]
    exact f j t e ow
def oParFL (i j : Nat) (a : En → R D) (b : En → R (List D)) : En → Out := fun ρ => toO (a ρ) ρ fun x => toO (b ρ) ρ fun y => .nx ((ρ.set i (.fz x)).set j (.ol y))
theorem ss_parFL {i j : Nat} {ta tb : TE} {a : En → R D} {b : En → R (List D)} (ha : SE cv W ta a) (hb : SL cv W tb b) : SS cv W (tPar i j (tCons ta (tCons tb tNil))) (oParFL i j a b) := fun B F H ρ σ D A q =>
  ha.bindS A q fun x F1 H1 v n1 A1 e1 h1 => hb.bindS A1 h1 fun y F2 H2 w n2 A2 ⟨e0, p, xs, g1, g2, g3, g4, g5, g6⟩ h2 => by
    subst g1
    exact ⟨v, .ref p, rfl, h2 F2 H2 _ Nw.refl ((A2.set (s := .fz x) ⟨v, rfl, Dp.le n2.1 e1⟩ fun z => by cases z).set (s := .ol y) ⟨e0, p, xs, rfl, g2, g3, g4, g5⟩ fun _ b z => by
      cases z
      exact (g6.put (s := .fz x) (v := v) rfl).un)⟩
end
end L2.Dn


set_option Elab.async false
set_option linter.all false
set_option maxRecDepth 100000
set_option maxHeartbeats 2000000
/-! Dn22: text.index, range of three. -/
namespace L2.Dn
open PySem PySem.Spec PyProof.Rows
def rSIndex : V → List V → Hp → VK → Prop := fun x xs H Q => ∃ a b i rest, x = .str a ∧ xs = [.str b] ∧ Builtin.Str.occurrences a b 0 a.length 1 = i :: rest ∧ Q (.int (i : Nat)) H
theorem mt_sindexD {X : Cx} : MtR X "str.index" rSIndex := mt_sindex
section
variable {P : Program} {w : World} {K : PySem.W.Frag} {cv : Cv} {W : WX} {B B' F F' H H' : Hp} {ρ ρ' : En} {σ : St}
def pSIndex : D → List D → R D
  | .str a, [.str b] => (match Builtin.Str.occurrences a b 0 a.length 1 with
    | i :: _ => .val (.int (i : Nat))
    | [] => .stk)
  | _, _ => .stk
theorem rm_sindex : RelMth cv W rSIndex pSIndex := fun B F H ρ σ v vs d ds Q A e es hp => by
  unfold pSIndex at hp
  split at hp
  · rename_i a b
    split at hp
    · rename_i i rest ho
      have e' := Dp.str' e
      subst e'
      cases es with
      | cons x r =>
        cases r
        have x' := Dp.str' x
        subst x'
        exact ⟨a, b, i, rest, rfl, rfl, ho, hp.ret A (.int _)⟩
    · exact hp.elim
  · exact hp.elim
/-! ### range(i, j, -1) -/
def pRng3 : List D → R (List D)
  | [.int i, .int j, .int (-1)] => if okR i && okR j then .val ((List.range (i - j).toNat).map fun (k : Nat) => .int (i + (k : Int) * (-1))) else .stk
  | _ => .stk
theorem it_rng3 {lo c : Int} {n : Nat} {ds : List D} (hd : ds = (List.range n).map fun (k : Nat) => PyData.int (lo + (k : Int) * c)) (hn : n ≤ M) : ItOk B F (Itc lo c n) ds := .same
  (fun i d F1 H1 f s b e => by
    subst hd
    rw [List.getElem?_map] at e
    cases e2 : (List.range n)[i]? with
    | none => rw [e2] at e; cases e
    | some j =>
      rw [e2] at e
      obtain ⟨h1, h2⟩ := List.getElem?_eq_some_iff.mp e2
      rw [List.getElem_range] at h2
      rw [List.length_range] at h1
      refine ⟨h1, fun x H2 y => ⟨y.1, ?_⟩⟩
      rw [y.2, ← Option.some.inj e, h2]
      exact .int _)
  (fun i F1 H1 f s b e => by subst hd; rw [List.length_map, List.length_range] at e; exact Nat.le_of_eq e.symm)
  (by subst hd; rw [List.length_map, List.length_range]; exact hn)
theorem si_rng3 {t : TA} {ds : List (En → R D)} (h : SA cv W t (dArgs ds)) : SI cv W (iRng3 t) (dApp pRng3 ds) := fun B F H ρ σ Q A hq =>
  h.bind A hq fun x F1 H1 v n1 A1 e1 h1 => by
    unfold pRng3 at h1
    split at h1
    · rename_i i j
      split at h1
      · rename_i c
        rw [Bool.and_eq_true] at c
        obtain ⟨c1, c2, c5, c6⟩ := okR_iff c.1
        obtain ⟨c3, c4, c7, c8⟩ := okR_iff c.2
        cases e1 with
        | cons a r =>
          cases r with
          | cons a2 r =>
            cases r with
            | cons a3 r =>
              cases r
              cases a
              cases a2
              cases a3
              exact ⟨i, j, -1, (i - j).toNat, rfl, RgC.neg (by omega) (by omega) (by omega) (by omega), h1 F1 H1 _ Nw.refl A1 (it_rng3 rfl (by show _ ≤ 16777216; omega))⟩
      · exact h1.elim
    · exact h1.elim
end
end L2.Dn


set_option Elab.async false
set_option linter.all false
set_option maxRecDepth 100000
set_option maxHeartbeats 2000000
/-! Dn23: sorted of a tuple of ints. -/
namespace L2.Dn
open PySem PySem.Spec PyProof.Rows
section
variable {prog : Program} {w : World} {A : Around} {E : Value → Shared → Prop} {s : Shared}
theorem collect_tup {l : Addr} {vs : List Value} {Q : List Value → Shared → Prop} (hl : IsTup s.heap l vs.toArray) (hsz : vs.length ≤ sizeLine)
    (h : Q vs { s with heap := (s.heap.push (seqObj "list" #[] 0)).update s.heap.objs.size (Obj.mapSeq (· ++ vs.toArray)) }) :
    wpAny (model prog w) A (collect (.ref l)) Q E s := by
  obtain ⟨o, ho, hc, n, hd⟩ := id hl
  unfold collect
  refine wpAny_bind (wpAny_runValue (codeAny_builtin entry_proto_collect' ?_))
  show wpAny _ _ (do again (.builtin "list.__iadd__" ⟨[← newList [], .ref l], []⟩)) _ _ s
  refine wpAny_bind (wpAny_newList (wpAny_pure ⟨Code.quiet_builtin _ (by decide +kernel), codeAny_builtin entry_list_iadd' ?_⟩))
  show wpAny _ _ (Builtin.List.listExtendWith (.ref s.heap.objs.size) (.ref l) (.ref s.heap.objs.size)) _ _ { s with heap := s.heap.push (seqObj "list" #[] 0) }
  unfold Builtin.List.listExtendWith
  have ho' : (s.heap.push (seqObj "list" #[] 0)).get? l = some o := Heap.get?_push_of_some _ ho
  refine wpAny_bind (wpAny_typeOf (T := "tuple") ⟨o, ho', hc⟩ ?_)
  have ht : (Value.type "tuple" == Value.type "tuple") = true := by rfl
  rw [if_pos (by rw [ht]; simp)]
  refine wpAny_bind (listItems_at ho' hd ?_)
  refine wpAny_bind (listItems_at (xs := #[]) (n := 0) (Heap.get?_push_size _ rfl) rfl ?_)
  rw [if_neg (by simp)]
  refine wpAny_bind (listUpdate_at (xs := #[]) (n := 0) (Heap.get?_push_size _ rfl) rfl ?_ (Nat.zero_le _) (by show (#[] ++ vs.toArray).size ≤ sizeLine + 1; simp only [Array.size_append, List.size_toArray, List.length_nil]; omega))
  refine wpAny_pure ?_
  show wpAny (model prog w) A (do
      let o ← load s.heap.objs.size
      match o.data with
      | .seq xs _ => pure xs.toList
      | _ => unsupported "internal:collect") Q E { s with heap := (s.heap.push (seqObj "list" #[] 0)).update s.heap.objs.size (Obj.mapSeq (· ++ vs.toArray)) }
  refine wpAny_bind (wpAny_load (get?_update_seq (Heap.get?_push_size _ rfl) _) ?_)
  show wpAny _ _ (pure ((#[] : Array Value) ++ vs.toArray).toList) Q E _
  rw [show ((#[] : Array Value) ++ vs.toArray).toList = vs by simp]
  exact wpAny_pure h
theorem sorted_tupInts {l : Addr} {vs : List Value} {ns : List Int} {Q : Value → Shared → Prop} (hl : IsTup s.heap l vs.toArray) (hI : IntsAre vs ns) (hL : vs.length ≤ sizeLine)
    (h : ∀ (out : Array Value) (ns' : List Int), IntsAre out.toList ns' → ns'.Perm ns → ns'.Pairwise (· ≤ ·) → Q (.ref (s.heap.objs.size + 1)) { s with heap := sortedAll s.heap vs out }) :
    wpAny (model prog w) A (call (.builtin "sorted") [.ref l]) Q E s := by
  refine Calls.call_function_entry kind_sorted plain_sorted entry_sorted (args_sorted1 _) ?_
  unfold Builtin.«sorted»
  refine wpAny_bind (m := checkCount "sorted" 1 1 _) (wpAny_pure ?_)
  refine wpAny_bind (collect_tup hl hL ?_)
  refine wpAny_bind (wpAny_newList ?_)
  have hsz : ((s.heap.push (seqObj "list" #[] 0)).update s.heap.objs.size (Obj.mapSeq (· ++ vs.toArray))).objs.size = s.heap.objs.size + 1 := by
    rw [Heap.size_update, size_push']
  have hoL : (((s.heap.push (seqObj "list" #[] 0)).update s.heap.objs.size (Obj.mapSeq (· ++ vs.toArray))).push (seqObj "list" vs.toArray 0)).get? (s.heap.objs.size + 1) = some (seqObj "list" vs.toArray 0) := by
    rw [← hsz]; exact Heap.get?_push_size _ rfl
  show wpAny _ _ _ _ _ { s with heap := ((s.heap.push (seqObj "list" #[] 0)).update s.heap.objs.size (Obj.mapSeq (· ++ vs.toArray))).push (seqObj "list" vs.toArray 0) }
  rw [hsz]
  refine wpAny_bind (wpAny_holding (wpAny_call_entry slot_list_sort ⟨_, hoL, rfl⟩ entry_list_sort (list_sort_treeAny hoL hI hL fun out ns' a1 a2 a3 => ⟨_, rfl, ?_⟩) (args_list_sort _)))
  exact wpAny_pure ⟨_, rfl, h out ns' a1 a2 a3⟩
end
def rSortedTI (K : PySem.W.Frag) : List V → Hp → VK → Prop := fun vs H Q => ∃ (a : Addr) (ns : List Int), vs = [V.ref a] ∧ SqT K H a (ns.map V.int) ∧
  ∀ (ys : List Int) (p : Addr), ys.Perm ns → ys.Pairwise (· ≤ ·) → H p = none → Q (.ref p) (upd H p (.lst (ys.map V.int)))
theorem cr_sortedTI {X : Cx} : CallR X (.builtin "sorted") (rSortedTI X.K) := by
  intro pins s σ H vs us Q I r h
  obtain ⟨a, xs, rfl, hs, q⟩ := h
  obtain ⟨its, rv, hl, hz⟩ := I.tuple hs
  rw [Vals.ref1 r]
  have hlen0 := rv.length
  rw [List.length_map] at hlen0 hz
  refine sorted_tupInts hl rv.ints (by rw [← hlen0]; exact hz) fun out ys h1 h2 h3 => ?_
  obtain ⟨ep, he'⟩ := PyProof.Rows.sortedAll_at s.heap its out
  have hlen : (ys.map V.int).length ≤ sizeLine := by rw [List.length_map, h2.length_eq]; exact hz
  exact ⟨.ref _, upd H (s.heap.objs.size + 1) (.lst (ys.map V.int)), I.laid (t' := s.toks) (fun _ _ => PyProof.Rows.sortedAll_old) (Nat.le_succ _) ⟨hlen, out.toList, ep, vals_of_ints h1, he'⟩, rfl, q ys _ h2 h3 (I.hok.fresh (Nat.le_succ _))⟩
section
variable {P : Program} {w : World} {K : PySem.W.Frag} {cv : Cv} {W : WX} {B B' F F' H H' : Hp} {ρ ρ' : En} {σ : St}
def dSortT (a : En → R D) : En → R (List D) := fun ρ => a ρ >>= fun x => asT x >>= fun ds => match asInts ds with
  | some ns => .val ((srtI ns).map .int)
  | none => .stk
theorem sl_sortT {t : TE} {a : En → R D} (h : SE cv W t a) : SL cv W (tCB (rSortedTI K) (tCons t tNil)) (dSortT a) := fun B F H ρ σ Q A hq =>
  h.bind A hq fun x F1 H1 v n1 A1 e1 h1 => by
    cases e1 with
    | tup s q =>
      rename_i ad xs ds
      replace h1 : Post cv W relL B F1 ρ σ (match asInts ds with
        | some ns => .val ((srtI ns).map .int)
        | none => .stk) Q := h1
      split at h1
      · rename_i ns ei
        have hz : ds.length ≤ M := by rw [← DpAll.length q]; exact SqT.sz A1.sz s
        have ex := asInts_eq ei q
        subst ex
        refine ⟨ad, ns, rfl, SqT.sub A1 s, fun ys p hp hs hn => ?_⟩
        have hys : ys = srtI ns := srtI_of hp hs
        refine newL h1 A1 (by rw [List.length_map, (srtI_perm ns).length_eq]; have := DpAll.length q; rw [List.length_map] at this; omega) ?_ hn
        rw [hys]
        exact DpAll.dints
      · exact h1.elim
    | non => exact h1.elim
    | bl _ => exact h1.elim
    | int _ => exact h1.elim
    | str _ => exact h1.elim
    | lst _ _ => exact h1.elim
end
end L2.Dn


set_option Elab.async false
set_option linter.all false
set_option maxRecDepth 100000
set_option maxHeartbeats 2000000
/-! Dn24: list(x) of an own list: a copy. -/
namespace L2.Dn
open PySem PySem.Spec PyProof.Rows
section
variable {K : PySem.W.Frag} {cv : Cv} {W : WX}
def olR : Option Sl → R (List D)
  | some (.ol ds) => .val ds
  | some (.fz (.list ds)) => .val ds
  | _ => .stk
@[simp] theorem olR_ol (ds : List D) : olR (some (.ol ds)) = .val ds := rfl
@[simp] theorem olR_fz (ds : List D) : olR (some (.fz (.list ds))) = .val ds := rfl
def dCopyO (i : Nat) : En → R (List D) := fun ρ => olR ρ[i]?
@[simp] theorem ap_dCopyO (i : Nat) (ρ : En) : dCopyO i ρ = olR ρ[i]? := rfl
theorem sl_copyO {i : Nat} : SL cv W (tCB (rListA K) (tCons (tVar i) tNil)) (dCopyO i) := fun B F H ρ σ Q A hq => by
  unfold dCopyO at hq
  cases e : ρ[i]? with
  | none => rw [e] at hq; exact hq.elim
  | some s =>
    rw [e] at hq
    cases s with
    | un => exact hq.elim
    | fz d =>
      obtain ⟨v, z1, z2⟩ := A.ok i _ e
      cases z2 with
      | lst s a =>
        rename_i p ys es
        refine ⟨_, sAt_some z1, .inl ⟨p, ys, rfl, .inl (SqL.sub A s), fun l hp => ?_⟩⟩
        obtain ⟨A2, hF, hB⟩ := A.loose (.lst ys) hp
        exact hq _ _ _ Nw.refl A2 ⟨by rw [← DpAll.length a]; exact SqL.sz A.sz s, l, ys, rfl, hF, hB, upd_same, a, free_new A hp⟩
      | non => exact hq.elim
      | bl _ => exact hq.elim
      | int _ => exact hq.elim
      | str _ => exact hq.elim
      | tup _ _ => exact hq.elim
    | od d => exact hq.elim
    | lk d => exact hq.elim
    | ol ds =>
      obtain ⟨hz, a, xs, z1, z2, z3, z4, z5⟩ := A.ok i _ e
      refine ⟨.ref a, sAt_some z1, .inl ⟨a, xs, rfl, .inl (.inl (.inl z4)), fun p hp => ?_⟩⟩
      obtain ⟨A2, hF, hB⟩ := A.loose (.lst xs) hp
      exact hq _ _ _ Nw.refl A2 ⟨hz, p, xs, rfl, hF, hB, upd_same, z5, free_new A hp⟩
end
end L2.Dn


set_option Elab.async false
set_option linter.all false
set_option maxRecDepth 100000
set_option maxHeartbeats 4000000
/-! Dn25: a comprehension whose element lets an exception out (of a call). -/
namespace L2.Dn
open PySem PySem.Spec PyProof.Rows

theorem noteFrame_same {e : Value} {env env' : Env} (h : env.frame = env'.frame) : noteFrame e env = noteFrame e env' := by
  unfold noteFrame PySem.frameOf
  rw [h]
theorem funFrames_stay {base h h' : Heap} : ∀ {l : List Env}, h.FunFrames base l → (∀ b ∈ frs l, ∀ o, h.get? b = some o → h'.get? b = some o) → h'.FunFrames base l
  | [], _, _ => trivial
  | env :: l, hh, hn => by
    obtain ⟨hk, ⟨L, o, hf, h0, ho, hd⟩, hr⟩ := hh
    exact ⟨hk, ⟨L, o, hf, h0, hn L (List.mem_filterMap.mpr ⟨env, List.mem_cons_self, hf⟩) o ho, hd⟩, funFrames_stay hr fun b hb => by
      obtain ⟨e, he, q⟩ := List.mem_filterMap.mp hb
      exact hn b (List.mem_filterMap.mpr ⟨e, List.mem_cons_of_mem _ he, q⟩)⟩
/-- the context of a block that lets exceptions out -/
abbrev blkX (X : Cx) (s : Shared) (H : Hp) (scope : Scope) (cenv : Env) (fp : List Addr) : Cx :=
  { X with s_0 := s, H_0 := H, env := cenv, outer := X.stack, ex := fp, fn := fun x => scope.names.lookup x == some .cell, pn := [], xe := notedBy (model X.prog X.w) X.A cenv (CompFails (model X.prog X.w) X.A X.xe cenv) }
section
variable {X : Cx} {W : WX} {pins : List (Addr × Obj)} {σ : St} {H H3 : Hp} {s s3 : Shared} {scope : Scope} {cenv : Env} {fp : List Addr}
theorem toX {pins' : List (Addr × Obj)} {σ' : St} {H' : Hp} {s' : Shared} (I : Inv (X.blk s3 H3 scope cenv fp) pins' σ' H' s') : Inv (blkX X s3 H3 scope cenv fp) pins' σ' H' s' :=
  ⟨⟨I.ok.mod, I.ok.kind, I.ok.glob, I.ok.blt, I.ok.above, I.ok.inj, I.ok.has, I.ok.cab, I.ok.hd, I.ok.frames, I.ok.stk, I.ok.exf, I.ok.bs, I.ok.bsz, I.ok.noex, I.ok.exfs, I.ok.funs, I.ok.frf⟩, I.os, I.bare, I.base, I.loc, I.cell, I.free, I.freeC, I.pin, I.hok, I.len⟩
theorem ofX {pins' : List (Addr × Obj)} {σ' : St} {H' : Hp} {s' : Shared} (I : Inv (blkX X s3 H3 scope cenv fp) pins' σ' H' s') : Inv (X.blk s3 H3 scope cenv fp) pins' σ' H' s' :=
  ⟨⟨I.ok.mod, I.ok.kind, I.ok.glob, I.ok.blt, I.ok.above, I.ok.inj, I.ok.has, I.ok.cab, I.ok.hd, I.ok.frames, I.ok.stk, I.ok.exf, I.ok.bs, I.ok.bsz, I.ok.noex, I.ok.exfs, I.ok.funs, I.ok.frf⟩, I.os, I.bare, I.base, I.loc, I.cell, I.free, I.freeC, I.pin, I.hok, I.len⟩
/-- what a callee lets out in the block is taken -/
theorem blk_passes (I3 : Inv X pins σ H3 s3) (hs : X.stack = X.env :: X.outer) (hf : X.env.frame = some X.env.locals) (tk : Takes X W) (hW : ∀ c d σ σ' H, W c d σ H → W c d σ' H)
    (cL : cenv.locals = s3.heap.objs.size) (cF : cenv.frame = X.env.frame) (f3 : ∀ b ∈ fp, FpOk X pins H3 b ∧ b < s3.heap.objs.size) (σ' : St) : PassesAt (L2.CX X.prog X.w) (blkX X s3 H3 scope cenv fp) σ' (WE W σ') := by
  intro pins' H5 s5 e s' I5 c
  obtain ⟨a, B, H', cls, d, rfl, fl, hok, ub, na, os, ag, hE⟩ := c
  have hfr : X.A.frames = some (X.env :: X.outer) := by rw [I3.ok.frames, hs]
  have nCs : s3.heap.objs.size ∉ frs X.stack := fun z => by
    rcases List.mem_cons.mp (I3.stkSub _ z) with e | e
    · have h1 := I3.lt
      rw [← e] at h1
      exact Nat.lt_irrefl _ h1
    · exact I3.nofs (Nat.le_refl _) e
  obtain ⟨m, hn5, _⟩ := I5.loc
  have hn5 : s5.heap.Ns cenv.locals m := hn5
  rw [cL] at hn5
  obtain ⟨oC, es, ep, hoC, hdC, hrC⟩ := hn5
  have nC5 : H5 s3.heap.objs.size = none := by
    have z : H5 cenv.locals = none := I5.free
    rw [cL] at z; exact z
  have BC : B.get? s3.heap.objs.size = some oC := ub.keep _ oC hoC nC5 nCs
  have nC' : H' s3.heap.objs.size = none := ub.free _ oC hoC nC5
  show wpAny (model X.prog X.w) X.A (noteFrame (.ref a) cenv) (fun _ s'' => CompFails (model X.prog X.w) X.A X.xe cenv (.ref a) s'') _ s'
  rw [noteFrame_same cF]
  have fl' : HandSPX.FlyingZ B (X.env :: X.outer) a (Zc cls d) s'.heap := by rw [← hs]; exact fl
  refine HandSPX.looks_onZ Zc.steady hfr hf fl' fun h1 hh1 up1 => ?_
  have hC1 : h1.get? s3.heap.objs.size = some oC := hh1.1 _ _ BC
  refine ⟨m, by rw [cL]; exact ⟨oC, es, ep, hC1, hdC, hrC⟩, fun h' m' hn' sb => ?_⟩
  rw [cL] at sb
  obtain ⟨B', b1, b2⟩ := restrict B fun b => !decide (b = s3.heap.objs.size)
  have same : ∀ b, b ≠ s3.heap.objs.size → h'.get? b = h1.get? b := fun b hb => sb.2 b hb
  have toB' : ∀ b o, b ≠ s3.heap.objs.size → B.get? b = some o → B'.get? b = some o := fun b o hb e => by rw [b1 b (by simp [hb])]; exact e
  have ofB' : ∀ b o, B'.get? b = some o → b ≠ s3.heap.objs.size ∧ B.get? b = some o := fun b o e => by
    by_cases hb : b = s3.heap.objs.size
    · rw [b2 b (by simp [hb])] at e; cases e
    · rw [b1 b (by simp [hb])] at e; exact ⟨hb, e⟩
  have noneB' : ∀ b, B.get? b = none → B'.get? b = none := fun b e => by
    cases q : B'.get? b with
    | none => rfl
    | some o => rw [(ofB' b o q).2] at e; cases e
  have hh' : HandSPX.HeldZ B' (X.env :: X.outer) a (Zc cls d) X.env.locals h' := by
    obtain ⟨k1, k2, k3, oe, vs, T, oT, ts, he, hz, hd, h1', hnT, hTe, hT, hdT, h3⟩ := id hh1
    have aC : a ≠ s3.heap.objs.size := fun z => by
      rw [z, hC1] at he; cases he; rw [hdC] at hd; cases hd
    have TC : T ≠ s3.heap.objs.size := fun z => by
      rw [z, hC1] at hT; cases hT; rw [hdC] at hdT; cases hdT
    refine ⟨fun b o e => ?_, noneB' a k2, ?_, oe, vs, T, oT, ts, (same a aC).trans he, hz, hd, h1', noneB' T hnT, hTe, (same T TC).trans hT, hdT, h3⟩
    · obtain ⟨q1, q2⟩ := ofB' b o e
      exact (same b q1).trans (k1 b o q2)
    · have ff : h'.FunFrames B (X.env :: X.outer) := funFrames_stay k3 fun b hb o e => (same b (fun z => nCs (by rw [hs, ← z]; exact hb))).trans e
      exact funFrames_none ff fun L hL => noneB' L (by
        obtain ⟨q, _⟩ := k3.mem hL
        exact q)
  obtain ⟨k1, k2, k3, oe, vs, T, oT, ts, he, hz, hd, h1', hnT, hTe, hT, hdT, h3⟩ := id hh'
  unfold PySem.passOn
  refine wpAny_bind (wpAny_field he hd h1' ?_)
  rw [if_neg (show ¬ ((Value.ref T == Value.none) = true) from by simp)]
  -- the state without the exception
  obtain ⟨G, g1, g2⟩ := restrict s'.heap fun b => (B'.get? b).isSome || decide (b ∈ frs X.stack)
  have st : B.StaysIn s'.heap := fl.1
  have gB : ∀ b o, B'.get? b = some o → G.get? b = some o := fun b o e => by
    rw [g1 b (by simp [e])]
    exact st b o (ofB' b o e).2
  have gF : ∀ b, b ∈ frs X.stack → G.get? b = s'.heap.get? b := fun b hb => g1 b (by simp [hb])
  have og : ∀ b o, G.get? b = some o → s'.heap.get? b = some o ∧ ((B'.get? b).isSome = true ∨ b ∈ frs X.stack) := fun b o e => by
    cases q : ((B'.get? b).isSome || decide (b ∈ frs X.stack)) with
    | false => rw [g2 b q] at e; cases e
    | true =>
      rw [g1 b q] at e
      exact ⟨e, by simpa [Bool.or_eq_true] using q⟩
  have lt3 : ∀ b o, s3.heap.get? b = some o → b ≠ s3.heap.objs.size := fun b o e => Nat.ne_of_lt (Heap.lt_size e)
  have J : Inv X pins σ H' { s' with heap := G } := by
    refine I3.call' (ch := fp) (os.trans I5.os) ⟨fun b o e n hb hx => ?_, fun b o e n hb hx => ?_, fun b o e n hx => ?_, fun b o e hx => ?_, fun b xs e => ub.tups b xs (I5.base.tups b xs e), fun b o xs e => ub.frzs b o xs (I5.base.frzs b o xs e), fun b ps e => ?_⟩
      (fun b o q => (hok b o q).stay (fun c u hc r => gB c u (toB' c u (fun z => ?_) r)) (fun _ r => r) fun _ _ r => r) ag fun b hb => ⟨(f3 b hb).1.2.2.2.1, (f3 b hb).1.2.1, (f3 b hb).1.2.2.2.2.1, (f3 b hb).1.2.2.2.2.2⟩
    · exact gB b o (toB' b o (lt3 b o e) (ub.keep b o (I5.base.keep b o e n hb hx) (I5.base.free b o e n hx) hb))
    · obtain ⟨sl, q⟩ := I5.base.slot b o e n hb hx
      obtain ⟨sl', q'⟩ := ub.slot b _ q hb
      exact ⟨sl', by rw [gF b hb]; exact q'⟩
    · obtain ⟨o', q⟩ := I5.base.there b o e hx
      exact ub.free b o' q (I5.base.free b o e n hx)
    · obtain ⟨o', q⟩ := I5.base.there b o e hx
      by_cases hb : b ∈ frs X.stack
      · obtain ⟨sl, q'⟩ := ub.slot b _ q hb
        exact ⟨_, (gF b hb).trans q'⟩
      · obtain ⟨o2, q'⟩ := ub.there b o' q hb
        exact ⟨o2, gB b o2 (toB' b o2 (lt3 b o e) q')⟩
    · obtain ⟨m1, e1⟩ := I5.base.tbls b ps e
      obtain ⟨m2, e2⟩ := ub.tbls b _ e1
      exact ⟨m1 ++ m2, by rw [e2, Array.append_assoc]⟩
    · subst z
      rcases hc with hc | hc
      · rw [hc, q] at nC'; cases nC'
      · rw [nC'] at hc; cases hc
  have fin : wpAny (model X.prog X.w) X.A (setFlight (.ref a) cenv.frame) (fun _ s4 => wpAny (model X.prog X.w) X.A (throw (.ref a) : Sem Value) (fun _ _ => False) X.xe s4) X.xe { s' with heap := h' } := by
    rw [cF, hf]
    refine HandSPX.setFlight_onZ hh' fun h4 hh4 up4 => wpAny_throw (tk _ _ ?_)
    refine ⟨a, B', { s' with heap := G }, pins, σ, H', cls, d, rfl, J, fun b o e hb => ?_, fun b o e hnf => ?_, .inr (.inr (by rw [hs]; exact hh4)), na, rfl, ag, hW _ _ σ' σ _ hE⟩
    · obtain ⟨e', h⟩ := og b o e
      rcases h with h | h
      · obtain ⟨o', q⟩ := Option.isSome_iff_exists.mp h
        have z := st b o' (ofB' b o' q).2
        rw [e'] at z; cases z
        exact q
      · exact absurd h hb
    · obtain ⟨e', h⟩ := og b o e
      have hbC : b ≠ s3.heap.objs.size := by
        rcases h with h | h
        · obtain ⟨o', q⟩ := Option.isSome_iff_exists.mp h
          exact (ofB' b o' q).1
        · exact fun z => nCs (by rw [← z]; exact h)
      obtain ⟨sl, q⟩ := up1 b o e' hnf
      obtain ⟨sl2, q2⟩ := up4 b _ ((same b hbC).trans q) hnf
      exact ⟨sl2, q2⟩
  first
    | exact wpAny_bind (wpAny_pure (wpAny_bind fin))
    | exact wpAny_bind fin
theorem thnE {α : Type} {t : Sem α} {Q Q' : α → Shared → Prop} {M : Model} {A : Around} {E : Value → Shared → Prop} {s : Shared} (h : wpAny M A t Q E s) (hQ : ∀ a s, Q a s → Q' a s) : wpAny M A t Q' E s := wpAny_mono h hQ fun _ _ z => z
/-- [elt for tg in iter if ..], the element may let out what X takes -/
theorem pe_lcX {elt tg iter : Expr} {ifs : List Expr} {scope : Scope} {own : List (Str × Nat)} {pos : Pos} {wi : TI} {g : TG} {tt : TT} {te : TE} (hc : X.calm = true) (hN : X.N.Nodup) (hs : X.stack = X.env :: X.outer) (hf : X.env.frame = some X.env.locals)
    (tk : Takes X W) (hW : ∀ c d σ σ' H, W c d σ H → W c d σ' H) (hi : PI X tg iter wi) (ok : BlkOk X.N X.env.scope scope own)
    (hg : ∀ (s : Shared) (H : Hp) (C : Addr) (cl : List (Str × Addr)) (fp : List Addr), PG (blkX X s H scope (compEnvC scope cl C X.env) fp) tg g) (ht : ∀ (s : Shared) (H : Hp) (C : Addr) (cl : List (Str × Addr)) (fp : List Addr), PTs (blkX X s H scope (compEnvC scope cl C X.env) fp) ifs tt)
    (he : ∀ (s : Shared) (H : Hp) (C : Addr) (cl : List (Str × Addr)) (fp : List Addr), (∀ σ, PassesAt (L2.CX X.prog X.w) (blkX X s H scope (compEnvC scope cl C X.env) fp) σ (WE W σ)) → PE (blkX X s H scope (compEnvC scope cl C X.env) fp) elt te)
    (hfs : ∀ x, foldedSetIterable iter X.env x = pure x := by intro _; rfl) :
    PE X (.ListComp elt [⟨tg, iter, ifs, 0⟩] scope pos) (tLc wi g tt te (own.map (·.2))) := by
  refine ⟨fun pins s σ H Q I h => ?_⟩
  rw [eval_ListComp]
  have hfree : ∀ y ∈ scope.names, y.2 = .free → ∃ c, X.env.cells.lookup y.1 = some c := fun y hy e => by
    rcases ok.free y hy e with k | k
    · exact I.ok.has _ (.inl k)
    · exact I.ok.has _ (.inr k)
  refine comprehension_at (use := none) rfl hfs (closure_ok hfree) ok.kind (fun y hy e => by rw [ok.uniq y hy, e])
    (thn (hi.run pins s σ H _ I h) fun xv s1 hx => thn hx fun itv s2 h2 => ?_)
  obtain ⟨it, fp, tn, J, H2, e, I2, T, st2, f2, q⟩ := h2
  subst e
  refine wpAny_newObj_type (newEnv_comp ?_) (by show 0 ≤ sizeLine; decide)
  generalize hD : s2.heap.objs.size = D
  have hDn : H2 D = none := I2.hok.fresh (Nat.le_of_eq hD)
  obtain ⟨Wm, ⟨m0, w0⟩, turn⟩ := q D hDn
  generalize hs3 : ({ s2 with heap := s2.heap.push { cls := .type "list", data := .seq ([] : List Value).toArray } } : Shared) = s3
  have I3 : Inv X pins σ (upd H2 D (.lst [])) s3 := by
    rw [← hs3]
    refine I2.laid (t' := s2.toks) (fun b o e => Heap.get?_push_of_some _ e) (Nat.le_of_eq hD) ⟨Nat.zero_le _, [], 0, .nil, ?_⟩
    rw [← hD]
    exact Heap.get?_push_size _ rfl
  have h3 : s3.heap = s2.heap.push { cls := .type "list", data := .seq ([] : List Value).toArray } := by rw [← hs3]
  have sz : ∀ b ∈ fp, b < s2.heap.objs.size := fun b hb => by
    obtain ⟨o, e, _⟩ := T.obj _ _ st2 b hb
    exact Heap.lt_size e
  have f3 : ∀ b ∈ fp, FpOk X pins (upd H2 D (.lst [])) b ∧ b < s3.heap.objs.size := fun b hb => by
    have hlt := sz b hb
    refine ⟨⟨?_, (f2 b hb).2⟩, by rw [h3, Heap.size_push]; exact Nat.lt_succ_of_lt hlt⟩
    rw [upd_ne (by rw [← hD]; exact Nat.ne_of_lt hlt)]
    exact (f2 b hb).1
  have st3 : tn 0 s3.heap := T.keep _ _ _ st2 fun b _ o e => by rw [h3]; exact Heap.get?_push_of_some _ e
  have I4 := block_start I3 ok hN f3
  have pg := hg s3 (upd H2 D (.lst [])) s3.heap.objs.size (cellsFrom (s3.heap.objs.size + 1) scope.names (cloFrom X.env.cells scope.names [])) fp
  have pt := ht s3 (upd H2 D (.lst [])) s3.heap.objs.size (cellsFrom (s3.heap.objs.size + 1) scope.names (cloFrom X.env.cells scope.names [])) fp
  have pe := he s3 (upd H2 D (.lst [])) s3.heap.objs.size (cellsFrom (s3.heap.objs.size + 1) scope.names (cloFrom X.env.cells scope.names [])) fp (blk_passes I3 hs hf tk hW rfl rfl f3)
  show codeAny _ _ (.compStart (.ListComp elt [⟨tg, iter, ifs, 0⟩] scope pos) 0 (.ref it) (.ref D) (compEnvC scope (cellsFrom (s3.heap.objs.size + 1) scope.names (cloFrom X.env.cells scope.names [])) s3.heap.objs.size X.env)) (compEnds (model X.prog X.w) X.A X.xe none (EP X pins σ Q) (.ref D) (compEnvC scope (cellsFrom (s3.heap.objs.size + 1) scope.names (cloFrom X.env.cells scope.names [])) s3.heap.objs.size X.env)) { s3 with heap := pushCells (s3.heap.push { cls := .type "dict", data := .dict #[] }) scope.names }
  have nfp : ∀ b ∈ fp, (upd H2 D (.lst [])) b = none := fun b hb => (f3 b hb).1.1
  generalize hce : compEnvC scope (cellsFrom (s3.heap.objs.size + 1) scope.names (cloFrom X.env.cells scope.names [])) s3.heap.objs.size X.env = ce at I4 pg pt pe ⊢
  have cL : ce.locals = s3.heap.objs.size := by subst hce; rfl
  generalize hH3 : upd H2 D (.lst []) = H3 at I3 I4 pg pt pe w0 nfp f3
  generalize hs4 : ({ s3 with heap := pushCells (s3.heap.push { cls := .type "dict", data := .dict #[] }) scope.names } : Shared) = s4 at I4 ⊢
  have st4 : tn 0 s4.heap := T.keep _ _ _ st3 fun b _ o e => by rw [← hs4]; exact pushCells_keeps _ _ _ _ (Heap.get?_push_of_some _ e)
  have I4 := toX I4
  have stat : ∀ {σ' : St} {H' : Hp} {s' : Shared}, Inv (blkX X s3 H3 scope ce fp) [] σ' H' s' → (∀ b ∈ fp, H' b = none) → ∀ b ∈ fp, FpOk (blkX X s3 H3 scope ce fp) [] H' b := fun {σ' H' s'} I' hn b hb =>
    ⟨hn b hb, (I'.ok.exf b hb).1, I'.ok.exfs b hb, .inl hb, fun x c e => (I'.ok.exf b hb).2 x c e, fun p hp => absurd (show p ∈ ([] : List (Addr × Obj)) ++ [] from hp) (by simp)⟩
  have loop : codeAny (model X.prog X.w) X.A (.compLoop (.ListComp elt [⟨tg, iter, ifs, 0⟩] scope pos) 0 (.ref it) (.ref D) ce) (compEnds (model X.prog X.w) X.A X.xe none (EP X pins σ Q) (.ref D) ce) s4 := by
    refine compLoop_any (fun n s' => ∃ i H', Inv (blkX X s3 H3 scope ce fp) [] (wipe σ (own.map (·.2))) H' s' ∧ tn i s'.heap ∧ (∀ b ∈ fp, H' b = none) ∧ Wm i n H') ?_ m0 ⟨0, H3, I4, st4, nfp, w0⟩
    rintro n s5 ⟨i, H5, I5, st5, n5, w5⟩
    rcases turn i n H5 w5 with ⟨stop, qq⟩ | ⟨go, Nx, hNx, step⟩
    · have td := T.done (blkX X s3 H3 scope ce fp) rfl rfl rfl hc i [] s5 _ H5 (fun _ _ => False) I5 (stat I5 n5) st5 stop
      refine thnF td fun r s6 ⟨hr, I6⟩ => ?_
      subst hr
      have I7 : Inv X pins σ H5 s6 := I3.call' (ch := fp) I6.os I6.base I6.hok I6.bare fun b hb => ⟨(f3 b hb).1.2.2.2.1, (f3 b hb).1.2.1, (f3 b hb).1.2.2.2.2.1, (f3 b hb).1.2.2.2.2.2⟩
      have nC : H5 s3.heap.objs.size = none := by
        have z : H5 ce.locals = none := I6.free
        rw [cL] at z
        exact z
      obtain ⟨m, hn, _⟩ := I6.loc
      have hn : s6.heap.Ns ce.locals m := hn
      refine ⟨m, hn, fun h'' sb => ?_⟩
      obtain ⟨f0, f1, f2, f3, f4, f5⟩ := I3.fpOk (Nat.le_refl _) nC
      rw [cL] at sb
      exact ⟨.ref D, H5, I7.turned (t' := s6.toks) (fun b o hb e => (sb.2 b hb).trans e) f0 f1 f3 f4 f5, rfl, qq⟩
    · have ti := T.item (blkX X s3 H3 scope ce fp) rfl rfl rfl hc i [] s5 _ H5 (fun _ _ => False) I5 (stat I5 n5) st5 go
      refine thnF ti fun r s6 ⟨u, hr, h6⟩ => ?_
      subst hr
      refine thnF h6 fun _ s7 ⟨x, H7, I7, r7, y7, st7, n7⟩ => ?_
      have I7' := I7.pinned (stat I7 n7) (T.obj _ _ st7)
      refine thnE (pg.run _ s7 _ H7 x u _ I7' r7 (step x H7 y7)) fun _ s8 ⟨σ8, H8, I8, hw8, q8⟩ => ?_
      refine thnE (pt.run _ s8 σ8 H8 _ I8 q8) fun b s9 ⟨H9, I9, q9⟩ => ?_
      have fin : ∀ {s' : Shared} {H' : Hp}, Inv (blkX X s3 H3 scope ce fp) ([] ++ pinsAt fp s7.heap) σ8 H' s' → Nx H' → ∃ m, m < n ∧ ∃ i H', Inv (blkX X s3 H3 scope ce fp) [] (wipe σ (own.map (·.2))) H' s' ∧ tn i s'.heap ∧ (∀ b ∈ fp, H' b = none) ∧ Wm i m H' := fun {s' H'} I' nx => by
        obtain ⟨m', hm, w'⟩ := hNx H' nx
        have pin' : ∀ b ∈ fp, ∀ o, s7.heap.get? b = some o → s'.heap.get? b = some o ∧ H' b = none := fun b hb o e =>
          let z := I'.pin (b, o) (List.mem_append_right _ (List.mem_append_right _ (mem_pinsAt hb e)))
          ⟨z.1, z.2.1⟩
        have hl : (wipe σ (own.map (·.2))).length = σ8.length := by rw [← hw8, wipe_length]
        refine ⟨m', hm, i + 1, H', (I'.unpinned (pins := [])).weak hl (fun j v e => ?_), T.keep _ _ _ st7 fun b hb o e => (pin' b hb o e).1, fun b hb => ?_, w'⟩
        · rw [← hw8] at e
          exact (wipe_some e).1
        · obtain ⟨o, e, _⟩ := T.obj _ _ st7 b hb
          exact (pin' b hb o e).2
      cases b with
      | false =>
        simp only [Bool.false_eq_true, if_false] at q9 ⊢
        exact fin I9 q9
      | true =>
        simp only [if_true] at q9 ⊢
        refine thnE (pe.run _ s9 σ8 H9 _ I9 q9) fun z s10 ⟨yv, H10, I10, r10, acc, hD10, hz10, nx⟩ => ?_
        exact app_ok (X := blkX X s3 H3 scope ce fp) I10 hD10 hz10 r10 fun s11 I11 => fin I11 nx
  exact codeAny_compStart_list loop (T.self X.A 0 _ _ _ st4 loop)
/-- a call in such a block -/
theorem pe_okX {X : Cx} {W : WX} {x : Str} {ps : List Str} {sp : Sp} {k j : Nat} {e : Expr} {es : List Expr} {t : TA} {p pos : Pos} (ha : PA X (e :: es) t) (o : Ok X.prog X.w X.K X.mg X.base k x ps sp) (hr : Room j X.A) (hx : ∀ σ, PassesAt (L2.CX X.prog X.w) X σ (WE W σ)) (hk : k ≤ j := by decide) (hg : Gl X x := by rfl) (hdb : (x == ("__debug__" : Str)) = false := by decide)
    (he : starEach (e :: es) X.env = (false, eval e X.env) :: starEach es X.env := by rfl) (hpl : (backTo pos (starEach es X.env)).any (·.1) = false := by rfl) : PE X (.Call (.Name x p) (e :: es) [] pos) (tCallS sp (WE W) t) := by
  obtain ⟨f, fd, hm, kp, b, F⟩ := o.ex
  exact pe_callS F (hr.mono hk) hg hm kp b hx ha hdb he hpl
end

/-! ### its worth -/
def lcTurnsX (b : D → En → Option En) (c : En → R Bool) (e : En → R D) : List D → En → R (List D)
  | [], _ => .val []
  | x :: r, ρ => match b x ρ with
    | none => .stk
    | some ρ1 => c ρ1 >>= fun k => if k then e ρ1 >>= fun y => lcTurnsX b c e r ρ >>= fun ys => .val (y :: ys) else lcTurnsX b c e r ρ
def dLcX (vs : List Nat) (di : En → R (List D)) (b : D → En → Option En) (c : En → R Bool) (e : En → R D) : En → R (List D) := fun ρ => di ρ >>= fun ds => if noOwn ρ vs then lcTurnsX b c e ds (wipeE ρ vs) else .stk
section
variable {K : PySem.W.Frag} {cv : Cv} {W : WX} {B B' F F' H H' : Hp} {ρ ρ' : En} {σ σ' : St}
theorem lcTurnsX_len {b : D → En → Option En} {c : En → R Bool} {e : En → R D} : ∀ {ds : List D} {ρ : En} {ys : List D}, lcTurnsX b c e ds ρ = .val ys → ys.length ≤ ds.length
  | [], _, _, h => by cases h; exact Nat.le_refl _
  | x :: r, ρ, ys, h => by
    unfold lcTurnsX at h
    cases e1 : b x ρ with
    | none => rw [e1] at h; cases h
    | some ρ1 =>
      rw [e1] at h
      obtain ⟨k, _, h⟩ := bind_val h
      cases k with
      | false => exact Nat.le_succ_of_le (lcTurnsX_len h)
      | true =>
        rw [if_pos rfl] at h
        obtain ⟨y, _, h⟩ := bind_val h
        obtain ⟨zs, h4, h⟩ := bind_val h
        cases h
        exact Nat.succ_le_succ (lcTurnsX_len h4)
theorem lcTurnsX_nil {b : D → En → Option En} {c : En → R Bool} {e : En → R D} {ρ : En} : lcTurnsX b c e [] ρ = .val [] := rfl
theorem lcTurnsX_cons {b : D → En → Option En} {c : En → R Bool} {e : En → R D} {x : D} {r : List D} {ρ : En} : lcTurnsX b c e (x :: r) ρ = match b x ρ with
    | none => .stk
    | some ρ1 => c ρ1 >>= fun k => if k then e ρ1 >>= fun y => lcTurnsX b c e r ρ >>= fun ys => .val (y :: ys) else lcTurnsX b c e r ρ := rfl
theorem R.bind_pure' {α : Type} (r : R α) : (r >>= fun y => R.val y) = r := by cases r <;> rfl
theorem sl_lcX {is vs : List Nat} {wi : TI} {g : TG} {tt : TT} {te : TE} {di : En → R (List D)} {b : D → En → Option En} {c : En → R Bool} {e : En → R D} (hW : ∀ c d σ σ' H, W c d σ H → W c d σ' H)
    (hi : SI cv W wi di) (hg : SG cv is g b) (hc : STt cv W tt c) (he : SE cv W te e) (hs : ∀ i ∈ is, i ∈ vs := by decide) : SL cv W (tLc wi g tt te vs) (dLcX vs di b c e) := fun B F H ρ σ Q A hq =>
  hi.bind A hq fun ds F1 H1 J n1 A1 io h1 => by
    intro D hD
    replace h1 : Post cv W (relL) B F1 ρ σ (if noOwn ρ vs then lcTurnsX b c e ds (wipeE ρ vs) else .stk) Q := h1
    by_cases no : noOwn ρ vs = true
    rotate_left
    · rw [if_neg no] at h1; exact h1.elim
    rw [if_pos no] at h1
    obtain ⟨A2, hF, hB⟩ := A1.loose (.lst []) hD
    have fr : Free D ρ σ := free_new A1 hD
    refine ⟨fun i m H2 => ∃ F2 acc dacc, Nw B F1 F2 ∧ Ag cv B F2 H2 ρ σ ∧ F2 D = none ∧ H2 D = some (.lst acc) ∧ DpAll [] F2 acc dacc ∧ i + m = ds.length ∧ dacc.length ≤ i ∧ lcTurnsX b c e ds (wipeE ρ vs) = (lcTurnsX b c e (ds.drop i) (wipeE ρ vs) >>= fun ys => .val (dacc ++ ys)),
      ⟨ds.length, F1, [], [], Nw.refl, A2, hF, upd_same, .nil, by omega, Nat.le_refl _, by rw [List.drop_zero]; exact (R.bind_pure' _).symm⟩, ?_⟩
    rintro i m H2 ⟨F2, acc, dacc, n2, A3, f3, h3, d3, em, ei, et⟩
    have hsz := io.size
    by_cases hl : i < ds.length
    · right
      have eg : ds[i]? = some ds[i] := List.getElem?_eq_getElem hl
      have ed : ds.drop i = ds[i] :: ds.drop (i + 1) := List.drop_eq_getElem_cons hl
      rw [ed] at et
      rw [lcTurnsX_cons] at et
      have A3' : Ag cv (upd B D (.lst acc)) F2 H2 ρ σ := A3.moreB hB h3 fr
      have lB : Le B (upd B D (.lst acc)) := le_upd hB
      obtain ⟨hgo, hy⟩ := io.go i ds[i] F2 H2 n2.1 A3.sub A3.prot eg
      refine ⟨hgo, fun H' => ∃ F2 acc dacc, Nw B F1 F2 ∧ Ag cv B F2 H' ρ σ ∧ F2 D = none ∧ H' D = some (.lst acc) ∧ DpAll [] F2 acc dacc ∧ dacc.length ≤ i + 1 ∧ lcTurnsX b c e ds (wipeE ρ vs) = (lcTurnsX b c e (ds.drop (i + 1)) (wipeE ρ vs) >>= fun ys => .val (dacc ++ ys)),
        fun H' ⟨F2, acc, dacc, a1, a2, a3, a4, a5, a6, a7⟩ => ⟨m - 1, by omega, F2, acc, dacc, a1, a2, a3, a4, a5, by omega, a6, a7⟩, ?_⟩
      intro x H4 y
      obtain ⟨F4, f4, s4, l4, w4, z4, e4⟩ := hy x H4 y
      have A4 : Ag cv (upd B D (.lst acc)) F4 H4 ρ σ := A3'.up f4 s4 l4 w4 (z4 A3.sz)
      have n4 : Nw (upd B D (.lst acc)) F2 F4 := A3'.nw f4 w4
      cases eb : b ds[i] (wipeE ρ vs) with
      | none =>
        rw [eb] at et
        rw [et] at h1
        exact h1.elim
      | some ρ5 =>
        rw [eb] at et
        replace et : lcTurnsX b c e ds (wipeE ρ vs) = ((c ρ5 >>= fun k => if k then e ρ5 >>= fun y => lcTurnsX b c e (ds.drop (i + 1)) (wipeE ρ vs) >>= fun ys => R.val (y :: ys) else lcTurnsX b c e (ds.drop (i + 1)) (wipeE ρ vs)) >>= fun ys => .val (dacc ++ ys)) := et
        refine hg (upd B D (.lst acc)) F4 H4 (wipeE ρ vs) ρ5 (L2.wipe σ vs) x ds[i] _ A4.wipe e4 eb fun F5 H5 σ5 n5 A5 g5 => ⟨?_, ?_⟩
        · refine List.ext_getElem? fun j => ?_
          by_cases hj : j ∈ vs
          · by_cases hjl : j < σ.length
            · rw [wipe_none hj (by rw [g5.1, wipe_length]; exact hjl), wipe_none hj hjl]
            · rw [List.getElem?_eq_none (by rw [wipe_length, g5.1, wipe_length]; omega), List.getElem?_eq_none (by rw [wipe_length]; omega)]
          · rw [wipe_get hj, wipe_get hj, (g5.2.2 j fun z => hj (hs j z)).1, wipe_get hj]
        · have finish : ∀ {F6 H6 : Hp}, Nw (upd B D (.lst acc)) F4 F6 → Ag cv (upd B D (.lst acc)) F6 H6 ρ5 σ5 → Nw B F1 F6 ∧ Ag cv B F6 H6 ρ σ ∧ F6 D = none ∧ H6 D = some (.lst acc) ∧ DpAll [] F6 acc dacc := fun {F6 H6} n6 A6 => by
            have n26 := n4.trans n6
            have nB : Nw B F2 F6 := ⟨n26.1, fun a o z => (n26.2 a o z).imp id fun w => by
              by_cases q : a = D
              · subst q; exact hB
              · rw [upd_ne q] at w; exact w⟩
            refine ⟨n2.trans nB, A3.around A6 n26 lB g5 hs no, ?_, A6.prot D _ upd_same, DpAll.le n26.1 d3⟩
            cases z : F6 D with
            | none => rfl
            | some o =>
              rcases n26.2 D o z with w | w
              · rw [f3] at w; cases w
              · rw [upd_same] at w; cases w
          refine hc (upd B D (.lst acc)) F5 H5 ρ5 σ5 _ A5 ?_
          cases ec : c ρ5 with
          | stk =>
            rw [ec] at et
            rw [et] at h1
            exact h1.elim
          | exc x =>
            rw [ec] at et
            rw [et] at h1
            intro F' H' n' A'
            obtain ⟨a1, a2, _⟩ := finish (n5.trans n') A'
            exact hW _ _ _ _ _ (h1 F' H' a1 a2)
          | val k =>
          rw [ec, R.bind_val] at et
          intro F6 H6 k' n6 A6 e6
          have e7 : k' = k := e6
          subst e7
          cases k' with
          | false =>
            rw [if_neg Bool.false_ne_true] at et ⊢
            obtain ⟨a1, a2, a3, a4, a5⟩ := finish (n5.trans n6) A6
            exact ⟨F6, acc, dacc, a1, a2, a3, a4, a5, by omega, et⟩
          | true =>
            rw [if_pos rfl] at et ⊢
            refine he (upd B D (.lst acc)) F6 H6 ρ5 σ5 _ A6 ?_
            cases ee : e ρ5 with
            | stk =>
              rw [ee] at et
              rw [et] at h1
              exact h1.elim
            | exc x =>
              rw [ee] at et
              rw [et] at h1
              intro F' H' n' A'
              obtain ⟨a1, a2, _⟩ := finish ((n5.trans n6).trans n') A'
              exact hW _ _ _ _ _ (h1 F' H' a1 a2)
            | val yd =>
            rw [ee, R.bind_val] at et
            intro F7 H7 yv n7 A7 e10
            obtain ⟨a1, a2, a3, a4, a5⟩ := finish ((n5.trans n6).trans n7) A7
            have hlen : acc.length < M := by
              rw [DpAll.length d3]
              omega
            refine ⟨acc, a4, M_line' hlen, F7, acc ++ [yv], dacc ++ [yd], a1, a2.updFree a3 hB fr a4, a3, upd_same, DpAll.snoc a5 e10, by rw [List.length_append, List.length_singleton]; omega, ?_⟩
            rw [et, R.bind_assoc]
            congr 1
            funext ys
            rw [R.bind_val, List.append_assoc]
            rfl
    · left
      have ed : ds.drop i = [] := List.drop_eq_nil_of_le (by omega)
      rw [ed] at et
      rw [lcTurnsX_nil, R.bind_val, List.append_nil] at et
      rw [et] at h1
      exact ⟨io.stop i F2 H2 n2.1 A3.sub A3.prot (by omega), h1 F2 H2 _ n2 A3 ⟨by omega, D, acc, rfl, f3, hB, h3, d3, fr⟩⟩
end
end L2.Dn


set_option Elab.async false
set_option linter.all false
set_option maxRecDepth 100000
set_option maxHeartbeats 4000000
/-! Dn26: sorted(.., key=f) of texts, f a def or a lambda that tells an int and raises nothing. -/
namespace L2.Dn
open PySem PySem.Spec PyProof.Rows PySem.W

/-- as it was, but for the slots of the frames fs -/
structure KeepF (fs : List Addr) (s s' : Shared) : Prop where
  os : s'.os = s.os
  bare : AllBare s'.gens
  keep : ∀ b o, b ∉ fs → s.heap.get? b = some o → s'.heap.get? b = some o
  slot : ∀ b o, b ∈ fs → s.heap.get? b = some o → ∃ sl, s'.heap.get? b = some { o with slots := sl }
theorem KeepF.trans {fs : List Addr} {s s' s'' : Shared} (x : KeepF fs s s') (y : KeepF fs s' s'') : KeepF fs s s'' :=
  ⟨y.os.trans x.os, y.bare, fun b o n e => y.keep b o n (x.keep b o n e), fun b o n e => by
    obtain ⟨sl, q⟩ := x.slot b o n e
    obtain ⟨sl', q'⟩ := y.slot b _ n q
    exact ⟨sl', q'⟩⟩
theorem KeepF.there {fs : List Addr} {s s' : Shared} (x : KeepF fs s s') {b : Addr} {o : Obj} (e : s.heap.get? b = some o) : ∃ o', s'.heap.get? b = some o' := by
  by_cases h : b ∈ fs
  · obtain ⟨sl, q⟩ := x.slot b o h e
    exact ⟨_, q⟩
  · exact ⟨o, x.keep b o h e⟩
theorem KeepF.fresh {fs : List Addr} {s s' : Shared} (x : KeepF fs s s') {b : Addr} (h : s'.heap.objs.size ≤ b) : s.heap.get? b = none := by
  cases e : s.heap.get? b with
  | none => rfl
  | some o =>
    obtain ⟨o', q⟩ := x.there e
    exact absurd (Nat.lt_of_lt_of_le (Heap.lt_size q) h) (Nat.lt_irrefl _)
/-- things that were not there are changed, new ones are laid -/
theorem KeepF.on {fs : List Addr} {s s' : Shared} (x : KeepF fs s s') {h' : Heap} {t' : Nat} (k : ∀ b o, s.heap.get? b ≠ none → s'.heap.get? b = some o → h'.get? b = some o) : KeepF fs s { s' with heap := h', toks := t' } :=
  ⟨x.os, x.bare, fun b o n e => k b o (by rw [e]; exact fun z => nomatch z) (x.keep b o n e), fun b o n e => by
    obtain ⟨sl, q⟩ := x.slot b o n e
    exact ⟨sl, k b _ (by rw [e]; exact fun z => nomatch z) q⟩⟩
def IntK (v : Value) (n : Int) : Prop := ∃ t, v = .int n t

section
variable {prog : Program} {w : World} {A : Around} {E : Value → Shared → Prop} {s s0 : Shared} {a kS : Addr} {fs : List Addr} {vs : List Value} {kz : List Int} {e1 : Nat} {P : PySem.Fin → Shared → Prop} {f : Value}
theorem alike_ints (ks : List Int) : AllAlike (ks.map PyData.int) := fun d hd d' hd' => by
  obtain ⟨_, _, rfl⟩ := List.mem_map.mp hd
  obtain ⟨_, _, rfl⟩ := List.mem_map.mp hd'
  rfl
theorem sortable_ints (ks : List Int) : Sortable (ks.map PyData.int) := .inr fun d hd => by
  obtain ⟨_, _, rfl⟩ := List.mem_map.mp hd
  exact ⟨fun z => (nomatch z), fun _ z => (nomatch z)⟩
theorem reads_ints (h : Heap) : ∀ {us : List Value} {ks : List Int}, EachIs IntK us ks → EachIs (fun v d => ∃ as, Reads h v d as) us (ks.map PyData.int)
  | _, _, .nil => .nil
  | _, _, .cons ⟨t, e⟩ r => .cons ⟨[], by rw [e]; exact .int _ _⟩ (reads_ints h r)
theorem sortKey_rest (kp : KeepF fs s0 s) (nk : s.heap.get? kS = some (seqObj "list" #[] 0)) (na : s.heap.get? a = some (seqObj "list" #[] e1)) (hka : kS ≠ a) (n0 : s0.heap.get? kS = none) (n0a : s0.heap.get? a = none) (fk : kS ∉ fs) (fa : a ∉ fs)
    (hlen : kz.length = vs.length) (hZ : vs.length ≤ sizeLine) (hu : A.units < cLine)
    (turn : ∀ (i : Nat) (v : Value) (k : Int), vs[i]? = some v → kz[i]? = some k → ∀ s', KeepF fs s0 s' → wpAny (model prog w) A (call f [v]) (fun u s'' => IntK u k ∧ KeepF fs s' s'') (fun _ _ => False) s')
    (h : ∀ s' out c, KeepF fs s0 s' → s'.heap.get? a = some (seqObj "list" (List.toArray out) c) → KeyedOut false (kz.map PyData.int) vs out → P (.done (.ret .none)) s') :
    wpAny (model prog w) A (ksk_rest a f false vs.toArray e1 (.ref kS)) P E s := by
  have n0k : ∀ b, s0.heap.get? b ≠ none → b ≠ kS := fun b hb z => hb (by rw [z]; exact n0)
  have n0a' : ∀ b, s0.heap.get? b ≠ none → b ≠ a := fun b hb z => hb (by rw [z]; exact n0a)
  unfold ksk_rest
  refine wpAny_bind (wpAny_rule ?_)
  first
    | rw [List.forIn_toArray]
    | (rw [← Array.forIn_toList]; simp only [List.toList_toArray])
    | rw [← Array.forIn_toList]
  refine wpAny_bind (ksk_fold (fun i s' => KeepF fs s0 s' ∧ ∃ kA e, s'.heap.get? kS = some (seqObj "list" kA e) ∧ s'.heap.get? a = some (seqObj "list" #[] e1) ∧ EachIs IntK kA.toList (kz.take i)) vs 0 s
    ⟨kp, #[], 0, nk, na, by rw [List.take_zero]; exact EachIs.nil⟩ ?turns ?ends)
  case turns =>
    rintro j x s1 hx ⟨kp1, kA, e, nk1, na1, hk⟩
    simp only [Nat.zero_add] at hk ⊢
    have hj : j < vs.length := (List.getElem?_eq_some_iff.mp hx).1
    obtain ⟨k, hkj⟩ : ∃ k, kz[j]? = some k := ⟨_, List.getElem?_eq_getElem (by omega)⟩
    have hz : kA.size ≤ vs.length := by
      have q := hk.length
      rw [Array.length_toList, List.length_take] at q
      omega
    refine wpAny_bind (wpAny_attempt (wpAny_mono (turn j x k hx hkj s1 kp1) (fun v s2 ⟨hv, k2⟩ => ?_) fun _ _ z => z.elim))
    try dsimp only
    have nk2 := k2.keep _ _ fk nk1
    have na2 := k2.keep _ _ fa na1
    have up := Heap.SameBut.update s2.heap kS (Obj.mapSeq (·.push v))
    obtain ⟨c2, hc2⟩ : ∃ c2, (s2.heap.update kS (Obj.mapSeq (·.push v))).get? kS = some (seqObj "list" (kA.push v) c2) := ⟨_, get?_update_seq nk2 (·.push v)⟩
    refine wpAny_bind (listUpdate_at nk2 rfl ?_ (Nat.le_trans hz hZ) (Nat.le_trans (Nat.le_of_eq (Array.size_push ..)) (Nat.succ_le_succ (Nat.le_trans hz hZ))))
    refine wpAny_pure ⟨rfl, (kp1.trans k2).on (t' := s2.toks) fun b o hb q => (up.2 b (n0k b hb)).trans q, kA.push v, c2, hc2, (up.2 a hka.symm).trans na2, ?_⟩
    rw [show (kA.push v).toList = kA.toList ++ [v] by simp, show kz.take (j + 1) = kz.take j ++ [k] by rw [List.take_add_one, hkj]; simp]
    exact each_snoc hv hk
  case ends =>
    rintro s1 ⟨kp1, kA, e, nk1, na1, hk⟩
    rw [List.take_of_length_le (by omega)] at hk
    have hsz : kA.size = vs.length := by
      have q := hk.length
      rw [Array.length_toList] at q
      omega
    have hR := reads_ints s1.heap hk
    try dsimp only
    refine wpAny_bind (listItems_at nk1 rfl ?_)
    have hid : ∀ b o, b ≠ kS → s1.heap.get? b = some o → (hideAll s1.heap [kS]).get? b = some o := fun b o n e => hideAll_get _ e (by simpa using n)
    refine keyH_end (κ := dataKind s1.heap (kz.map PyData.int)) (h₁ := hideAll s1.heap [kS]) (fun b o _ q => of_hideAll _ q) (hideAll_none _ (by simp)) nk1 na1 hka
      (SortsAt.data hR (alike_ints kz) (sortable_ints kz) (fun d hd => ?_)) hsz hZ fun h3 tk3 c k3 n3 => ?_
    · obtain ⟨n, _, rfl⟩ := List.mem_map.mp hd
      exact hu
    · exact h _ _ c (kp1.on fun b o hb q => k3 b o (n0a' b hb) (hid b o (n0k b hb) q)) n3 ⟨s1.heap, kA.toList, alike_ints kz, rfl, hR⟩
theorem sortKey_tree {n : Nat} (ho : s.heap.get? a = some (seqObj "list" vs.toArray n)) (kp : KeepF fs s0 s) (n0a : s0.heap.get? a = none) (hfs : ∀ b ∈ fs, s0.heap.get? b ≠ none) (hlen : kz.length = vs.length) (hZ : vs.length ≤ sizeLine) (hu : A.units < cLine)
    (turn : ∀ (i : Nat) (v : Value) (k : Int), vs[i]? = some v → kz[i]? = some k → ∀ s', KeepF fs s0 s' → wpAny (model prog w) A (call f [v]) (fun u s'' => IntK u k ∧ KeepF fs s' s'') (fun _ _ => False) s')
    (h : ∀ s' out c, KeepF fs s0 s' → s'.heap.get? a = some (seqObj "list" (List.toArray out) c) → KeyedOut false (kz.map PyData.int) vs out → P (.done (.ret .none)) s') :
    wpAny (model prog w) A (ksk_tree a f false) P E s := by
  have ha : a < s.heap.objs.size := Heap.lt_size ho
  have nfs : ∀ b, s0.heap.get? b = none → b ∉ fs := fun b e hb => hfs b hb e
  have up := Heap.SameBut.update s.heap a (Obj.mapSeq fun _ => (#[] : Array Value))
  obtain ⟨e1, ho1⟩ : ∃ e1, (s.heap.update a (Obj.mapSeq fun _ => (#[] : Array Value))).get? a = some (seqObj "list" #[] e1) := ⟨_, get?_update_seq ho fun _ => #[]⟩
  have hkS : ((s.heap.update a (Obj.mapSeq fun _ => (#[] : Array Value))).push (seqObj "tuple" vs.toArray 0)).objs.size = s.heap.objs.size + 1 := by rw [size_push', Heap.size_update]
  have n0k : s0.heap.get? (s.heap.objs.size + 1) = none := kp.fresh (Nat.le_succ _)
  have n0a' : ∀ b, s0.heap.get? b ≠ none → b ≠ a := fun b hb z => hb (by rw [z]; exact n0a)
  unfold ksk_tree
  refine wpAny_bind (listItems_at ho rfl (wpAny_bind (listUpdate_at ho rfl (wpAny_bind (seqEpoch_at ho1 rfl (wpAny_bind (wpAny_newTuple (wpAny_bind (wpAny_newList (wpAny_holding ?_) (Nat.zero_le _))) (by show vs.length ≤ _; exact hZ))))) (by rw [List.size_toArray]; exact hZ) (Nat.zero_le _))))
  refine sortKey_rest (kz := kz) (s0 := s0) (s := { s with heap := ((s.heap.update a (Obj.mapSeq fun _ => (#[] : Array Value))).push (seqObj "tuple" vs.toArray 0)).push (seqObj "list" #[] 0) }) (kS := ((s.heap.update a (Obj.mapSeq fun _ => (#[] : Array Value))).push (seqObj "tuple" vs.toArray 0)).objs.size)
    (kp.on (t' := s.toks) fun b o hb q => Heap.get?_push_of_some _ (Heap.get?_push_of_some _ ((up.2 b (n0a' b hb)).trans q))) (Heap.get?_push_size _ rfl) (Heap.get?_push_of_some _ (Heap.get?_push_of_some _ ho1)) (by rw [hkS]; exact Nat.ne_of_gt (Nat.lt_succ_of_lt ha)) (by rw [hkS]; exact n0k) n0a (by rw [hkS]; exact nfs _ n0k) (nfs _ n0a) hlen hZ hu turn h
end

/-! ### sorted(xs, key=f) -/
/-- f tells the int k x of a text x -/
def KeyCall (X : Cx) (f : Value) (k : Str → Int) (s : Shared) : Prop := ∀ (x : Str) (t : Tok) (s' : Shared), KeepF (frs X.stack) s s' → wpAny (model X.prog X.w) X.A.in1.in1 (call f [.str x t]) (fun u s'' => IntK u (k x) ∧ KeepF (frs X.stack) s' s'') (fun _ _ => False) s'
def byK (k : Str → Int) (xs : List Str) : List Str := xs.mergeSort fun a b => decide (k a ≤ k b)
def StrK (v : Value) (x : Str) : Prop := ∃ t, v = .str x t
theorem each_get {α β : Type} {R : α → β → Prop} : ∀ {as : List α} {bs : List β} {i : Nat} {a : α} {b : β}, EachIs R as bs → as[i]? = some a → bs[i]? = some b → R a b
  | _, _, _, _, _, .nil, e, _ => by simp at e
  | _, _, 0, a, b, .cons q _, e, e' => by
    have z := Option.some.inj e
    have z' := Option.some.inj e'
    subst z; subst z'; exact q
  | _, _, i + 1, _, _, .cons _ r, e, e' => each_get (i := i) r e e'
theorem each_strs : ∀ {xs : List Str} {us : List Value}, Vals (xs.map V.str) us → EachIs StrK us xs
  | [], _, .nil => .nil
  | _ :: _, _, .cons q r => .cons q (each_strs r)
theorem each_are : ∀ {us : List Value} {xs : List Str}, StrsAre us xs → EachIs StrK us xs
  | _, _, h => by
    induction h with
    | nil => exact .nil
    | cons y t _ ih => exact .cons ⟨t, rfl⟩ ih
theorem vals_each : ∀ {xs : List Str} {us : List Value}, EachIs StrK us xs → Vals (xs.map V.str) us
  | [], _, .nil => .nil
  | _ :: _, _, .cons q r => .cons q (vals_each r)
section
variable {X : Cx} {pins : List (Addr × Obj)} {σ : St} {H : Hp} {s : Shared} {Q : VK} {f : Value} {k : Str → Int}
/-- behind it: a new list -/
theorem keepF_new {s' : Shared} {p : Addr} {c : Nat} {out : List Value} {xs : List Str} (I : Inv X pins σ H s) (kp : KeepF (frs X.stack) s s') (hp : s.heap.get? p = none) (hn : H p = none) (ho : s'.heap.get? p = some (seqObj "list" (List.toArray out) c)) (hv : EachIs StrK out xs) (hz : xs.length ≤ sizeLine) :
    Inv X pins σ (upd H p (.lst (xs.map V.str))) s' := by
  have ne : ∀ b u, H b = some u → b ≠ p := fun b u e => ne_of_none e hn
  have old : ∀ b o, s.heap.get? b = some o → b ≠ p := fun b o e z => by rw [z, hp] at e; cases e
  have kt : ∀ b u, H b ≠ none → s.heap.get? b = some u → s'.heap.get? b = some u := fun b u hb e => kp.keep b u (fun z => hb (I.stkFree b z)) e
  refine I.call' (ch := []) kp.os ⟨fun b o e n hb _ => kp.keep b o hb e, fun b o e n hb _ => kp.slot b o hb e, fun b o e n _ => by rw [upd_ne (old b o e)]; exact n, fun b o e _ => kp.there e, fun b ys e => by rw [upd_ne (ne b _ e)]; exact e, fun b o ys e => by rw [upd_ne (ne b _ e)]; exact e, fun b ps e => ⟨#[], by rw [upd_ne (ne b _ e), e]; simp⟩⟩
    (fun b o q => ?_) kp.bare (fun _ z => nomatch z)
  by_cases hb : b = p
  · subst hb
    rw [upd_same] at q
    cases q
    exact ⟨by rw [List.length_map]; exact hz, out, c, vals_each hv, ho⟩
  · rw [upd_ne hb] at q
    exact (I.hok b o q).stay (fun c u hc r => kt c u (by
      rcases hc with z | z
      · rw [z, q]; exact fun z => nomatch z
      · rw [z]; exact fun z => nomatch z) r) (fun c r => by rw [upd_ne (ne c _ r)]; exact r) fun c ys r => by rw [upd_ne (ne c _ r)]; exact r
theorem frs_there (I : Inv X pins σ H s) : ∀ b ∈ frs X.stack, s.heap.get? b ≠ none := fun b hb => by
  obtain ⟨_, o, ho, _⟩ := I.stack.mem hb
  rw [ho]; exact fun z => nomatch z
theorem keepF_refl (I : Inv X pins σ H s) : KeepF (frs X.stack) s s := ⟨rfl, I.bare, fun _ _ _ e => e, fun b o _ e => ⟨o.slots, e⟩⟩
/-- of a list -/
theorem sortKey_list {a : Addr} {xs : List Str} (I : Inv X pins σ H s) (hu : X.A.units + 2 < cLine) (hs : SqL X.K H a (xs.map V.str)) (kc : KeyCall X f k s) (ht : ∀ x, Builtin.«list.sort» ⟨[.ref x], [(Str.ofString "key", f)]⟩ = ksk_tree x f false)
    (q : ∀ p, H p = none → Q (.ref p) (upd H p (.lst ((byK k xs).map V.str)))) : wpAny (model X.prog X.w) X.A (call (.builtin "sorted") [.ref a] [(Str.ofString "key", f)]) (EP X pins σ Q) X.xe s := by
  obtain ⟨its, rv, pl, hz⟩ := I.list hs
  have ev := each_strs rv
  have hl : its.length = xs.length := ev.length
  have hz' : its.length ≤ sizeLine := by rw [hl]; simpa using hz
  have n1 : s.heap.get? (s.heap.objs.size + 1) = none := Heap.get?_none_of_le (Nat.le_succ _)
  refine sorted_of_sort pl.isList hz' (ksk_s1 _ _) (fun _ => ksk_l1 _ _) fun E' => ?_
  rw [ht]
  refine sortKey_tree (s0 := s) (s := { s with heap := copyHeap s.heap its }) (fs := frs X.stack) (kz := xs.map k) (copyHeap_at s.heap its) ((keepF_refl I).on (t' := s.toks) fun b o _ e => copyHeap_old e) n1 (frs_there I) (by rw [List.length_map, hl]) hz' hu
    (fun i v j hv hj s' kp => ?_) fun s' out c kp ho ko => ⟨rfl, ?_⟩
  · rw [List.getElem?_map] at hj
    cases e : xs[i]? with
    | none => rw [e] at hj; cases hj
    | some x =>
      rw [e] at hj
      obtain ⟨t, rfl⟩ := each_get ev hv e
      cases hj
      exact kc x t s' kp
  · have eo := keyedOut_each (fun x => PyData.int (k x)) (by rw [List.map_map] at ko; exact ko) ev
    rw [dataLe_int] at eo
    have hb : (byK k xs).length ≤ sizeLine := by
      unfold byK
      rw [List.length_mergeSort, ← hl]
      exact hz'
    exact ⟨.ref (s.heap.objs.size + 1), _, keepF_new I kp n1 (I.hok.fresh (Nat.le_succ _)) ho eo hb, rfl, q _ (I.hok.fresh (Nat.le_succ _))⟩
/-- of a dict of texts -/
theorem sortKey_dict {a : Addr} {kvs : List (Key × V)} {ks : List Str} (I : Inv X pins σ H s) (hcalm : X.calm = true) (hu : X.A.units + 2 < cLine) (hd : Rd H a (.dK kvs)) (hks : kvs.map (·.1) = ks.map Sum.inr) (hsz : ks.length ≤ sizeLine) (kc : KeyCall X f k s)
    (ht : ∀ x, Builtin.«list.sort» ⟨[.ref x], [(Str.ofString "key", f)]⟩ = ksk_tree x f false)
    (q : ∀ p, H p = none → Q (.ref p) (upd H p (.lst ((byK k ks).map V.str)))) : wpAny (model X.prog X.w) X.A (call (.builtin "sorted") [.ref a] [(Str.ofString "key", f)]) (EP X pins σ Q) X.xe s := by
  obtain ⟨z, lo, vs, rel, dd⟩ := dk_rd I.hok hd
  obtain ⟨ep, hat⟩ := dd.dictAt
  have hkeys : vs.map (·.1) = ks.map Sum.inr := rel.keys.symm.trans hks
  have hl : vs.length = ks.length := by
    have e := congrArg List.length hkeys
    rw [List.length_map, List.length_map] at e
    exact e
  have h16 : vs.length ≤ sizeLine := by rw [hl]; exact hsz
  refine call_function_entry_kw kind_sorted plain_sorted entry_sorted (ksk_s1 _ _) ?_
  unfold Builtin.«sorted»
  refine wpAny_bind (m := checkCount "sorted" 1 1 _) (wpAny_pure ?_)
  refine wpAny_bind (PySem.W.kdu_collect (A := X.A.in1) (PySem.W.kdl_dict (knd := mixKind X.prog X.w) (kvs := vs) (ep := ep) lo) (I.ok.hd hcalm) hat h16 fun h' tk acc hk hacc => ?_)
  have hal : acc.toList.length = ks.length := by rw [Array.length_toList, hacc.1, hl]
  have hS : StrsAre acc.toList ks := strs_at hal fun j v e => by
    obtain ⟨y, x, e1, e2⟩ := hacc.2 j v (by rw [← Array.getElem?_toList]; exact e)
    have e3 : (vs.map (·.1))[j]? = some y := by rw [List.getElem?_map, e1]; all_goals rfl
    rw [hkeys, List.getElem?_map] at e3
    cases e4 : ks[j]? with
    | none => rw [e4] at e3; cases e3
    | some y =>
      rw [e4] at e3
      have e5 : Sum.inr y = _ := Option.some.inj e3
      subst e5
      obtain ⟨t, ev⟩ := Value.isStrOf_shape (x := y) (v := v) e2
      exact ⟨y, t, rfl, ev⟩
  have ev : EachIs StrK acc.toList ks := each_are hS
  refine wpAny_bind (wpAny_newList ?_ (by rw [hal]; exact hsz))
  have hoL : (h'.push (seqObj "list" acc.toList.toArray 0)).get? h'.objs.size = some (seqObj "list" acc.toList.toArray 0) := Heap.get?_push_size _ rfl
  show wpAny _ _ _ _ _ { s with heap := h'.push (seqObj "list" acc.toList.toArray 0), toks := tk }
  have kp0 : KeepF (frs X.stack) s { s with heap := h'.push (seqObj "list" acc.toList.toArray 0), toks := tk } := (keepF_refl I).on (t' := tk) fun b o _ e => Heap.get?_push_of_some _ (hk b o e)
  have n1 : s.heap.get? h'.objs.size = none := by
    cases e : s.heap.get? h'.objs.size with
    | none => rfl
    | some o => exact absurd (Heap.lt_size (hk _ _ e)) (Nat.lt_irrefl _)
  have n2 : H h'.objs.size = none := by
    cases e : H h'.objs.size with
    | none => rfl
    | some o => exact absurd (((I.hok.kept hk) _ _ e).lt) (Nat.lt_irrefl _)
  refine wpAny_bind (wpAny_holding (wpAny_call_entry_kw slot_list_sort ⟨_, hoL, rfl⟩ entry_list_sort ?_ (ksk_l1 _ _)))
  show wpAny (model X.prog X.w) X.A.in1.in1 _ _ _ _
  rw [ht]
  refine sortKey_tree (s0 := s) (s := { s with heap := h'.push (seqObj "list" acc.toList.toArray 0), toks := tk }) (fs := frs X.stack) (kz := ks.map k) hoL kp0 n1 (frs_there I) (by rw [List.length_map, hal]) (by rw [hal]; exact hsz) hu
    (fun i v j hv hj s' kp => ?_) fun s' out c kp ho ko => ⟨_, rfl, wpAny_pure ⟨_, rfl, ?_⟩⟩
  · rw [List.getElem?_map] at hj
    cases e : ks[i]? with
    | none => rw [e] at hj; cases hj
    | some x =>
      rw [e] at hj
      obtain ⟨t, rfl⟩ := each_get ev hv e
      cases hj
      exact kc x t s' kp
  · have eo := keyedOut_each (fun x => PyData.int (k x)) (by rw [List.map_map] at ko; exact ko) ev
    rw [dataLe_int] at eo
    have hb : (byK k ks).length ≤ sizeLine := by
      unfold byK
      rw [List.length_mergeSort]
      exact hsz
    exact ⟨.ref h'.objs.size, _, keepF_new I kp n1 n2 ho eo hb, rfl, q _ n2⟩
/-- what sorted(.., key=f) asks -/
def rSortKey (K : PySem.W.Frag) (k : Str → Int) : List V → Hp → VK → Prop := fun vs H Q => ∃ (a : Addr) (ks : List Str), vs = [.ref a] ∧ (SqL K H a (ks.map V.str) ∨ ∃ kvs, Rd H a (.dK kvs) ∧ kvs.map (·.1) = ks.map Sum.inr) ∧ ks.length ≤ sizeLine ∧
  ∀ p, H p = none → Q (.ref p) (upd H p (.lst ((byK k ks).map V.str)))
theorem sortKey_run {vs : List V} {us : List Value} (I : Inv X pins σ H s) (hcalm : X.calm = true) (hu : X.A.units + 2 < cLine) (r : Vals vs us) (h : rSortKey X.K k vs H Q) (kc : KeyCall X f k s)
    (ht : ∀ x, Builtin.«list.sort» ⟨[.ref x], [(Str.ofString "key", f)]⟩ = ksk_tree x f false) : wpAny (model X.prog X.w) X.A (call (.builtin "sorted") us [(Str.ofString "key", f)]) (EP X pins σ Q) X.xe s := by
  obtain ⟨a, ks, rfl, h1, h2, h3⟩ := h
  obtain ⟨u, eu, rx⟩ := vals1 r
  subst eu
  cases rx
  rcases h1 with h1 | ⟨kvs, h1, h4⟩
  · exact sortKey_list I hu h1 kc ht h3
  · exact sortKey_dict I hcalm hu h1 h4 h2 kc ht h3
/-- the call of a def of the worth d -/
theorem keyCall_ok {cv : Cv} {ps : List Str} {d : List D → R D} {j m : Nat} {fa : Addr} {fd : FuncData} (I : Inv X pins σ H s) (hr : Room m X.A) (hj : j + 1 ≤ m) (b : Binds X.K fd ps []) (F : FnOk X.prog X.w X.K X.mg X.base (L2.CX X.prog X.w) j fa fd ps (spD cv 1 d)) (hT : cv.T = []) (hd : ∀ y, d [.str y] = .val (.int (k y))) : KeyCall X (.ref fa) k s := by
  intro y t s' kp
  have tb : TabAll cv.T (fun _ => none) := by rw [hT]; exact tab_no
  have nB : ∀ b o, X.base.get? b = some o → b ∉ frs X.stack := fun b o e hb => by
    obtain ⟨q, _⟩ := I.stack.mem hb
    rw [e] at q; cases q
  have bs : ∀ b o, X.base.get? b = some o → s'.heap.get? b = some o := fun b o e => kp.keep b o (nB b o e) (I.bk b o e)
  have sz : X.base.objs.size ≤ s'.heap.objs.size := by
    obtain ⟨_, ⟨o, _, _, ho, _⟩, _⟩ := I.loc
    obtain ⟨o', q⟩ := kp.there ho
    exact Nat.le_trans I.ok.bsz (Nat.le_trans I.ok.above (Nat.le_of_lt (Heap.lt_size q)))
  have env : Env0 X.prog X.w X.K X.mg X.base X.A.in1.in1 X.stack s' (fun _ => none) := by
    refine ⟨I.ok.frames, I.ok.mod, fun b o e => ⟨bs b o e, rfl⟩, sz, I.stack.of_keeps fun b o e _ => ?_, fun _ _ => rfl, fun _ _ e => (nomatch e), kp.bare⟩
    by_cases hb : b ∈ frs X.stack
    · obtain ⟨sl, q⟩ := kp.slot b o hb e
      exact ⟨_, q, rfl⟩
    · exact ⟨o, kp.keep b o hb e, rfl⟩
  have hps : (1 : Nat) = ps.length := F.len [.str y] (fun _ => none) (fun _ _ => True) (fun _ _ _ => True) ⟨rfl, fun _ => none, [.str y], fun _ _ e => e, fun _ _ e => (nomatch e), tb, .cons (.str y) .nil, by rw [hd]; exact fun _ _ _ _ _ _ _ _ _ _ => trivial⟩
  have bb := b s' [.str y t] (I.ok.mod.kin.keeps bs) (by rw [List.append_nil]; exact hps)
  rw [List.append_nil] at bb
  refine wpAny_call (codeAny_mono (F.run X.A.in1.in1 X.stack s' (fun _ => none) ⟨[.str y t], []⟩ [.str y t] [.str y] (fun v _ => v = .int (k y)) (fun _ _ _ => False) ⟨hr.hd, by have := hr.dp; show X.A.depth + 3 * j + 5 < _; omega, by have := hr.un; show X.A.units + 1 + 1 + 16 * j + 200 < _; omega⟩ env bb (.cons ⟨t, rfl⟩ .nil)
    ⟨rfl, fun _ => none, [.str y], fun _ _ e => e, fun _ _ e => (nomatch e), tb, .cons (.str y) .nil, ?_⟩) fun r s2 hq => ?_)
  · rw [hd]
    intro F' H' v _ _ _ _ _ _ e
    cases e
    rfl
  · cases r with
    | error e =>
      obtain ⟨_, _, _, _, _, _, _, _, _, _, _, _, z⟩ := hq
      exact z.elim
    | ok fl =>
      cases fl with
      | ret u =>
        obtain ⟨v, H', os, ag, un, _, rv, rfl⟩ := hq
        exact ⟨rv, os, ag, fun b o n e => un.keep b o e rfl n (by simp), fun b o n e => un.slot b o e rfl n (by simp)⟩
      | next => exact False.elim hq
      | brk => exact False.elim hq
      | cont => exact False.elim hq
/-- sorted(e, key=g), g a def -/
theorem pe_sortKey {cv : Cv} {g : Str} {ps : List Str} {d : List D → R D} {j m : Nat} {e : Expr} {te : TE} {p p1 p2 pos : Pos} (o : Ok X.prog X.w X.K X.mg X.base j g ps (spD cv 1 d)) (hT : cv.T = []) (hd : ∀ y, d [.str y] = .val (.int (k y))) (hr : Room m X.A) (hj : j + 1 ≤ m) (hcalm : X.calm = true)
    (hgs : Gl X "sorted") (hms : X.mg "sorted" = none) (hg : Gl X g) (ha : PA X [e] (tCons te tNil)) (hdb : (g == ("__debug__" : Str)) = false := by decide)
    (he : backTo pos (starEach [e] X.env) = (false, eval e X.env) :: backTo pos (starEach [] X.env) := by rfl) (hpl : (backTo pos (starEach [e] X.env)).any (·.1) = false := by rfl)
    (hall : (backToKw pos (keywordEach [⟨some "key", .Name g p1, p2⟩] X.env)).all (·.1.isSome) = true := by rfl) (hnone : (backToKw pos (keywordEach [⟨some "key", .Name g p1, p2⟩] X.env)).any (·.1.isNone) = false := by rfl) (hks : (backToKw pos (keywordEach [⟨some "key", .Name g p1, p2⟩] X.env)).filterMap (·.1) = [Str.ofString "key"] := by rfl) :
    PE X (.Call (.Name "sorted" p) [e] [⟨some "key", .Name g p1, p2⟩] pos) (tCB (rSortKey X.K k) (tCons te tNil)) := by
  obtain ⟨fa, fd, hm, kp, b, F⟩ := o.ex
  have hu : X.A.units + 2 < cLine := by have := hr.un; omega
  have hk : PK X [⟨some "key", .Name g p1, p2⟩] (tCons (tC (.ref fa)) tNil) := pk_cons (pe_glob hg hm rfl hdb) pk_nil
  refine ⟨fun pins s σ H Q I h => ?_⟩
  refine wpAny_Call_Name_kw (ld_blt I hgs hms bt_sorted ?_ (by decide) (by decide))
  refine PyProof.Rows.callWith_kw (thn (ha.run pos pins s σ H _ I h) fun us s1 ⟨vs, H1, I1, r1, q1⟩ => thn (hk.run pos pins s1 σ H1 (fun zs H2 => zs = [V.ref fa] ∧ H2 = H1) I1 ⟨rfl, rfl⟩) fun ws s2 ⟨zs, H2, I2, r2, ⟨q2, q3⟩⟩ => ?_) he hpl hall hnone
  rw [hks]
  subst q2; subst q3
  obtain ⟨u, eu, rx⟩ := vals1 r2
  subst eu
  cases rx
  exact sortKey_run I2 hcalm hu r1 q1 (keyCall_ok (cv := cv) I2 hr hj b F hT hd) (fun _ => ksk_t1 _ _)
end
/-! ### its worth -/
def keyPegs (x : Str) : Int := Txt.count x (PySem.Str.ofString "o")
def sortKD (k : Str → Int) (xs : List Str) : R (List D) := if xs.length ≤ M then .val ((byK k xs).map .str) else .stk
def asStrL (ds : List D) : R (List Str) := match asStrs ds with
  | some xs => .val xs
  | none => .stk
def dSortKL (k : Str → Int) (a : En → R D) : En → R (List D) := fun ρ => a ρ >>= fun x => asL x >>= fun ds => asStrL ds >>= sortKD k
def dSortKD (k : Str → Int) (d : En → R (List (Key × D))) : En → R (List D) := fun ρ => d ρ >>= fun kvs => match asSK kvs with
  | some xs => sortKD k xs
  | none => .stk
section
variable {K : PySem.W.Frag} {cv : Cv} {W : WX} {B F H : Hp} {ρ : En} {σ : St} {k : Str → Int}
theorem sortKD_run {a : Addr} {xs : List Str} {Q : VK} (h : Post cv W relL B F ρ σ (sortKD k xs) Q) (A : Ag cv B F H ρ σ) (hs : SqL K H a (xs.map V.str) ∨ ∃ kvs, Rd H a (.dK kvs) ∧ kvs.map (·.1) = xs.map Sum.inr) : rSortKey K k [.ref a] H Q := by
  unfold sortKD at h
  split at h
  · rename_i hz
    refine ⟨a, xs, rfl, hs, M_line hz, fun p hn => newL h A (by unfold byK; rw [List.length_map, List.length_mergeSort]; exact hz) DpAll.dstrs hn⟩
  · exact h.elim
theorem sl_sortKL {te : TE} {a : En → R D} (h : SE cv W te a) : SL cv W (tCB (rSortKey K k) (tCons te tNil)) (dSortKL k a) := fun B F H ρ σ Q A hq =>
  h.bind A hq fun x F1 H1 v n1 A1 e1 h1 => by
    obtain ⟨ds, rfl, h2⟩ := asL_bind h1
    cases e1 with
    | lst s q =>
      unfold asStrL at h2
      cases e : asStrs ds with
      | none => rw [e] at h2; exact h2.elim
      | some xs =>
        rw [e] at h2
        have q1 := asStrs_eq e q
        subst q1
        exact sortKD_run h2 A1 (.inl (SqL.sub A1 s))
theorem sl_sortKD {td : TE} {d : En → R (List (Key × D))} (h : SK cv W td d) : SL cv W (tCB (rSortKey K k) (tCons td tNil)) (dSortKD k d) := fun B F H ρ σ Q A hq =>
  h.bind A hq fun kvs F1 H1 v n1 A1 ⟨a, ks, e1, e2, e3, e4, e5, e6⟩ h1 => by
    subst e1
    cases e : asSK kvs with
    | none => rw [e] at h1; exact h1.elim
    | some xs =>
      rw [e] at h1
      exact sortKD_run h1 A1 (.inr ⟨ks, .inl e4, by rw [e5.keys, asSK_keys e]⟩)
end
end L2.Dn


set_option Elab.async false
set_option linter.all false
set_option maxRecDepth 100000
set_option maxHeartbeats 4000000
/-! Dn27: sorted(.., key=lambda one: one.count("o")). -/
namespace L2.Dn
open PySem PySem.Spec PyProof.Rows PySem.W
/-- the lambda's one name is its parameter -/
def lamScope (x : Str) (scope : Scope) : Bool := decide (scope.kind = .function) && !scope.isCoroutine && !scope.isGenerator && decide (scope.names.lookup x = some .local) && scope.names.all fun y => decide (y.2 ≠ .cell) && decide (y.2 ≠ .free)
section
variable {X : Cx} {pins : List (Addr × Obj)} {σ : St} {H : Hp} {s : Shared} {Q : VK}
/-- the context of the lambda's body -/
def lamC (X : Cx) (A : Around) (s : Shared) (q x : Str) (scope : Scope) (f : Addr) (cd : Value) : Cx where
  prog := X.prog
  w := X.w
  K := X.K
  mg := X.mg
  base := X.base
  A := A.deeper (envX q scope s.heap.objs.size f cd [])
  N := [x]
  s_0 := s
  H_0 := fun _ => none
  env := envX q scope s.heap.objs.size f cd []
  outer := X.stack
  stack := envX q scope s.heap.objs.size f cd [] :: X.stack
  ex := []
  fn := fun _ => true
  calm := true
  pn := []
  xe := fun _ _ => False
theorem keyF_env (I : Inv X pins σ H s) {s' : Shared} (kp : KeepF (frs X.stack) s s') : Env0 X.prog X.w X.K X.mg X.base X.A.in1.in1 X.stack s' (fun _ => none) := by
  have nB : ∀ b o, X.base.get? b = some o → b ∉ frs X.stack := fun b o e hb => by
    obtain ⟨q, _⟩ := I.stack.mem hb
    rw [e] at q; cases q
  have bs : ∀ b o, X.base.get? b = some o → s'.heap.get? b = some o := fun b o e => kp.keep b o (nB b o e) (I.bk b o e)
  have sz : X.base.objs.size ≤ s'.heap.objs.size := by
    obtain ⟨_, ⟨o, _, _, ho, _⟩, _⟩ := I.loc
    obtain ⟨o', q⟩ := kp.there ho
    exact Nat.le_trans I.ok.bsz (Nat.le_trans I.ok.above (Nat.le_of_lt (Heap.lt_size q)))
  refine ⟨I.ok.frames, I.ok.mod, fun b o e => ⟨bs b o e, rfl⟩, sz, I.stack.of_keeps fun b o e _ => ?_, fun _ _ => rfl, fun _ _ e => (nomatch e), kp.bare⟩
  by_cases hb : b ∈ frs X.stack
  · obtain ⟨sl, q⟩ := kp.slot b o hb e
    exact ⟨_, q, rfl⟩
  · exact ⟨o, kp.keep b o hb e, rfl⟩
theorem lam_inv {A : Around} {q x : Str} {scope : Scope} {f : Addr} {cd v : Value} {w : V} {h₁ : Heap} {tk : Nat} {m : Str → Option Value} (e0 : Env0 X.prog X.w X.K X.mg X.base A X.stack s (fun _ => none)) (hA : A.handled = none) (L : lamScope x scope = true) (rv : RelV w v)
    (hns : h₁.Ns s.heap.objs.size m) (hm : m x = some v) (kp : ∀ b o, s.heap.get? b = some o → h₁.get? b = some o) : Inv (lamC X A s q x scope f cd) [] [some w] (fun _ => none) { s with heap := h₁, toks := tk } := by
  unfold lamScope at L
  simp only [Bool.and_eq_true, Bool.not_eq_true', decide_eq_true_eq, List.all_eq_true] at L
  obtain ⟨⟨⟨⟨h1, h2⟩, h3⟩, h4⟩, h5⟩ := L
  have noA : ∀ b : Addr, b ∉ (lamC X A s q x scope f cd).ex := fun b z => absurd (show b ∈ ([] : List Addr) from z) (by simp)
  have noC : ∀ (y : Str) (c : Addr), (lamC X A s q x scope f cd).env.cells.lookup y = some c → False := fun y c e => by cases (show ([] : List (Str × Addr)).lookup y = some c from e)
  refine ⟨⟨e0.mod, h1, rfl, rfl, Nat.le_refl _, fun y z c e1 e2 => (noC _ _ e1).elim, fun y hy => ?_, fun y c z e => (noC _ _ e).elim, fun _ => hA, Around.frames_deeper e0.frames, .inr ⟨rfl, rfl⟩, fun b z => absurd z (noA b), e0.bs, e0.bsz, fun b _ _ => noA b,
      fun b z => absurd z (noA b), e0.funs, fun _ _ => rfl⟩,
    rfl, e0.bare, Un.kept kp, ⟨m, hns, fun i y v' e1 e2 e3 => ?_⟩, fun y c e => (noC _ _ e).elim, rfl, fun y c e => (noC _ _ e).elim, fun p hp => absurd (show p ∈ ([] : List (Addr × Obj)) ++ [] from hp) (by simp), fun _ _ e => (nomatch e), rfl⟩
  · have hy : scope.names.lookup y = some .cell ∨ scope.names.lookup y = some .free := hy
    rcases hy with hy | hy
    · exact absurd rfl (h5 _ (PySem.mem_of_lookup hy)).1
    · exact absurd rfl (h5 _ (PySem.mem_of_lookup hy)).2
  · cases i with
    | zero =>
      have ey : x = y := Option.some.inj e1
      subst ey
      have ev : w = v' := Option.some.inj (Option.some.inj e2)
      subst ev
      exact ⟨v, rv, .inl ⟨h4, hm⟩⟩
    | succ i => cases (show ([] : List Str)[i]? = some y from e1)
/-- the body: one.count("o") -/
theorem lam_body {A : Around} {q x : Str} {scope : Scope} {f : Addr} {cd : Value} {z : Str} {s1 : Shared} {body : Expr} (hb : PE (lamC X A s q x scope f cd) body (tBM X.K "str" rSCount (tVar 0) (tCons (tC (.str "o")) tNil)))
    (J : Inv (lamC X A s q x scope f cd) [] [some (.str z)] (fun _ => none) s1) :
    wpAny (model X.prog X.w) (lamC X A s q x scope f cd).A (eval body (lamC X A s q x scope f cd).env) (EP (lamC X A s q x scope f cd) [] [some (.str z)] (fun v _ => v = .int (keyPegs z))) (fun _ _ => False) s1 := by
  have se : SE (⟨fun _ => .none, []⟩ : Cv) W0 (tBM X.K "str" rSCount (tVar 0) (tCons (tC (.str "o")) tNil)) (dBm isS pSCount (dVar 0) [dC (.str "o")]) := se_bmS rm_scount se_var (sa_cons se_str sa_nil)
  refine hb.run [] s1 _ _ _ J (se (fun _ => none) (fun _ => none) (fun _ => none) [.fz (.str z)] [some (.str z)] _ ⟨fun _ _ e => e, fun _ _ e => e, fun _ _ e => (nomatch e), tab_no, fun _ _ e => (nomatch e), rfl, fun i t e => ?_, fun i j t u a e _ o => ?_⟩ ?_)
  · cases i with
    | zero =>
      have e' : Sl.fz (.str z) = t := Option.some.inj e
      subst e'
      exact ⟨.str z, rfl, .str z⟩
    | succ i => cases (show ([] : List Sl)[i]? = some t from e)
  · cases i with
    | zero =>
      have e' : Sl.fz (.str z) = t := Option.some.inj e
      subst e'
      cases o
    | succ i => cases (show ([] : List Sl)[i]? = some t from e)
  · intro F' H' v _ _ e
    have e' : Dp [] F' v (.int (keyPegs z)) := e
    cases e'
    rfl
/-- the call of such a lambda -/
theorem keyCall_lam {m : Nat} {f c' : Addr} {q x : Str} {pm ctv : Value} {params : Arguments} {body : Expr} {scope : Scope} (I : Inv X pins σ H s) (hr : Room m X.A) (hm : 1 ≤ m) (L : lamScope x scope = true)
    (hf : s.heap.get? f = some (kla_obj "<lambda>" q params body scope [] pm c' ctv)) (hfr : f ∉ frs X.stack) (hc : H c' = some (LamX.CodeO c' q))
    (hbind : ∀ v, bindArgs (kla_fn "<lambda>" q params body scope [] pm (.ref c') ctv) ⟨[v], []⟩ = pure [(x, v)])
    (hb : ∀ (A : Around) (s : Shared) (cd : Value), PE (lamC X A s q x scope f cd) body (tBM X.K "str" rSCount (tVar 0) (tCons (tC (.str "o")) tNil))) : KeyCall X (.ref f) keyPegs s := by
  intro z t s' kp
  have e0 := keyF_env I kp
  have L' := L
  unfold lamScope at L'
  simp only [Bool.and_eq_true, Bool.not_eq_true', decide_eq_true_eq, List.all_eq_true] at L'
  obtain ⟨⟨⟨⟨h1, h2⟩, h3⟩, h4⟩, h5⟩ := L'
  have of1 := kp.keep f _ hfr hf
  have cfr : c' ∉ frs X.stack := fun z => by
    have q := I.stkFree c' z
    rw [hc] at q; cases q
  obtain ⟨⟨oc, vs, t', hoc, hdc, hvc⟩, _, _⟩ := I.hok c' _ hc
  have hoc' := kp.keep c' _ cfr hoc
  have dp : X.A.in1.in1.depth < recursionLimit := by have := hr.dp; show X.A.depth < _; omega
  have lim : s'.heap.NoLimit := e0.mod.nolimit.keeps fun b o e => (e0.bs b o e).1
  refine wpAny_call ?_
  refine kla_callFunE dp of1 rfl h2 h3 rfl ⟨c', oc, vs, t', rfl, hoc', hdc, hvc⟩ ?_
  rw [hbind]
  refine wpAny_pure (wpAny_newFunctionEnv (fun y hy => (h5 y hy).1) (fun y hy => by
    have e : y = (x, .str z t) := by simpa using hy
    rw [e]; exact h4) (fun h₁ hns hsb => ⟨lim.fresh _ hsb, ?_⟩) h1)
  have kp1 : ∀ b o, s'.heap.get? b = some o → h₁.get? b = some o := fun b o e => hsb.extBut b o (Nat.ne_of_lt (Heap.lt_size e)) (Heap.get?_push_of_some _ e)
  have J : Inv (lamC X X.A.in1.in1 s' q x scope f (.ref c')) [] [some (.str z)] (fun _ => none) { s' with heap := h₁, toks := s'.toks + [(x, Value.str z t)].length } :=
    lam_inv e0 hr.hd L ⟨t, rfl⟩ hns (by simp) kp1
  show codeAny _ _ (.expr body (lamC X X.A.in1.in1 s' q x scope f (.ref c')).env) _ _
  refine kla_codeExpr (wpAny_mono (lam_body (hb X.A.in1.in1 s' (.ref c')) J) (fun u s2 hq => ?_) fun e s2 hq => hq.elim)
  obtain ⟨v, H', J', rv, ev⟩ := hq
  subst ev
  exact ⟨rv, J'.os, J'.bare, fun b o n e => J'.base.keep b o e rfl n (by intro w; cases (show b ∈ ([] : List Addr) from w)), fun b o n e => J'.base.slot b o e rfl n (by intro w; cases (show b ∈ ([] : List Addr) from w))⟩
end
/-- a lambda made, then sorted by it -/
def tSortLam (K : PySem.W.Frag) (T : List Addr) (k : Str → Int) (te : TE) : TE := fun σ H Q => te σ H fun v H1 => TabAll T H1 ∧ ∀ H2, LamX.ExtN H1 H2 → TabAll T H2 → rSortKey K k [v] H2 Q
section
variable {X : Cx}
theorem pe_sortLam {cv : Cv} {x : Str} {m : Nat} {c P : Addr} {e body : Expr} {te : TE} {params : Arguments} {scope : Scope} {p p1 p2 pos : Pos} (hT : cv.T = [P]) (TB : LamX.TabB X.base X.mg c P) (hcode : X.env.code = .ref c) (hq : X.env.qual ++ "<lambda>" = lamQ) (hr : Room m X.A) (hm : 1 ≤ m) (hcalm : X.calm = true)
    (hgs : Gl X "sorted") (hms : X.mg "sorted" = none) (L : lamScope x scope = true) (hdef : defaultsOf params X.env = ([], [])) (hcl : cloFrom X.env.cells scope.names [] = [])
    (hbind : ∀ (q : Str) (pm cd ctv v : Value), bindArgs (kla_fn "<lambda>" q params body scope [] pm cd ctv) ⟨[v], []⟩ = pure [(x, v)])
    (hb : ∀ (A : Around) (s : Shared) (f : Addr) (cd : Value), PE (lamC X A s lamQ x scope f cd) body (tBM X.K "str" rSCount (tVar 0) (tCons (tC (.str "o")) tNil)))
    (ha : PA X [e] (tCons te tNil))
    (he : backTo pos (starEach [e] X.env) = (false, eval e X.env) :: backTo pos (starEach [] X.env) := by rfl) (hpl : (backTo pos (starEach [e] X.env)).any (·.1) = false := by rfl)
    (hall : (backToKw pos (keywordEach [⟨some "key", .Lambda params body scope p1, p2⟩] X.env)).all (·.1.isSome) = true := by rfl) (hnone : (backToKw pos (keywordEach [⟨some "key", .Lambda params body scope p1, p2⟩] X.env)).any (·.1.isNone) = false := by rfl) (hks : (backToKw pos (keywordEach [⟨some "key", .Lambda params body scope p1, p2⟩] X.env)).filterMap (·.1) = [Str.ofString "key"] := by rfl)
    (hkw : (backToKw pos (keywordEach [⟨some "key", .Lambda params body scope p1, p2⟩] X.env)).map (·.2) = [do let v ← eval (.Lambda params body scope p1) X.env; standAt pos; pure v] := by rfl) :
    PE X (.Call (.Name "sorted" p) [e] [⟨some "key", .Lambda params body scope p1, p2⟩] pos) (tSortLam X.K cv.T keyPegs te) := by
  have hu : X.A.units + 2 < cLine := by have := hr.un; omega
  have hfree : ∀ y ∈ scope.names, y.2 = .free → ∃ c, X.env.cells.lookup y.1 = some c := fun y hy e => by
    unfold lamScope at L
    simp only [Bool.and_eq_true, Bool.not_eq_true', decide_eq_true_eq, List.all_eq_true] at L
    exact absurd e (L.2 y hy).2
  refine ⟨fun pins s σ H Q I h => ?_⟩
  refine wpAny_Call_Name_kw (ld_blt I hgs hms bt_sorted ?_ (by decide) (by decide))
  refine PyProof.Rows.callWith_kw (thn (ha.run pos pins s σ H (fun vs H1 => match vs with | [v] => TabAll cv.T H1 ∧ ∀ H2, LamX.ExtN H1 H2 → TabAll cv.T H2 → rSortKey X.K keyPegs [v] H2 Q | _ => False) I h) fun us s1 ⟨vs, H1, I1, r1, q1⟩ => ?_) he hpl hall hnone
  obtain ⟨v, rfl, tb, q2⟩ : ∃ v, vs = [v] ∧ TabAll cv.T H1 ∧ ∀ H2, LamX.ExtN H1 H2 → TabAll cv.T H2 → rSortKey X.K keyPegs [v] H2 Q := by
    cases vs with
    | nil => exact q1.elim
    | cons v r => cases r with
      | nil => exact ⟨v, rfl, q1⟩
      | cons _ _ => exact q1.elim
  rw [hkw]
  have tabs : LamX.Tabs [(P, X.env.qual ++ "<lambda>")] H1 := fun p hp => by
    rw [List.mem_singleton.mp hp, hq]
    exact tb P (by rw [hT]; exact List.mem_singleton.mpr rfl)
  refine wpAny_evalAll_cons (wpAny_bind (LamX.lam_make2 (T := [(P, X.env.qual ++ "<lambda>")]) I1 TB hcode (List.mem_singleton.mpr rfl) (fun p hp _ => by rw [List.mem_singleton.mp hp]) tabs hdef hfree fun f c' pm ctv H2 s2 I2 ext tabs2 hf hfn hfr hco => wpAny_bind (wpAny_standAt (wpAny_pure (wpAny_evalAll_nil ?_)))))
  rw [hks]
  rw [hcl, hq] at hf
  rw [hq] at hco
  have tb2 : TabAll cv.T H2 := fun Q hQ => by
    rw [hT] at hQ
    rw [List.mem_singleton.mp hQ, ← hq]
    exact tabs2 _ (List.mem_singleton.mpr rfl)
  exact sortKey_run I2 hcalm hu r1 (q2 H2 ext tb2) (keyCall_lam I2 hr hm L hf hfr hco (fun v => hbind _ _ _ _ v) (fun A s cd => hb A s f cd)) (fun _ => ksk_t1 _ _)
end
section
variable {K : PySem.W.Frag} {cv : Cv} {W : WX} {B F H H' : Hp} {ρ : En} {σ : St} {k : Str → Int}
theorem Ag.ext (A : Ag cv B F H ρ σ) (e : LamX.ExtN H H') (tb : TabAll cv.T H') : Ag cv B F H' ρ σ :=
  A.still (fun a o h => e a o (noT_of h).1 fun ps z => by
    have q := (noT_of h).2
    rw [z] at q; cases q) tb
theorem sl_sortLam {te : TE} {a : En → R D} (h : SE cv W te a) : SL cv W (tSortLam K cv.T k te) (dSortKL k a) := fun B F H ρ σ Q A hq =>
  h.bind A hq fun x F1 H1 v n1 A1 e1 h1 => by
    refine ⟨A1.tabs, fun H2 ext tb => ?_⟩
    have A2 := A1.ext ext tb
    obtain ⟨ds, rfl, h2⟩ := asL_bind h1
    cases e1 with
    | lst s q =>
      unfold asStrL at h2
      cases e : asStrs ds with
      | none => rw [e] at h2; exact h2.elim
      | some xs =>
        rw [e] at h2
        have q1 := asStrs_eq e q
        subst q1
        exact sortKD_run h2 A2 (.inl (SqL.sub A2 s))
end
/-! ### a def whose code object is known; the end of a law with the table -/
theorem Fun.okXc {P : Program} {w : World} {K : PySem.W.Frag} {mg : Str → Option Value} {base : Heap} {x qual : Str} {st : Stmt} {f c : Addr} {fd : FuncData} {N ps : List Str} {k : Nat} {sp : Sp} (F : Fun K x qual st f fd) (hc : fd.code = .ref c) (S : FnScope N ps (defScope st)) (len : ∀ vs H Q E, sp vs H Q E → vs.length = ps.length)
    (hbody : ∀ (A : Around) (outer : List Env) (s : Shared) (H : Hp) (vs : List V) (Q : VK) (E : XK), Room k (A.deeper (envOfC qual (defScope st) s.heap.objs.size f (.ref c))) → sp vs H Q E →
      ∃ t, PSs (cxOf (L2.CX P w) P w K mg base N qual (defScope st) f (.ref c) A outer s H E) (defBody st) t ∧ t { nx := fun _ H' => Q .non H', rt := Q } (start N vs) H) : FnOk P w K mg base (L2.CX P w) (k + 1) f fd ps sp := by
  obtain ⟨oc, od, kV, doc, pm, an, cdv, ct, osl, rfl, lk, hcd⟩ := F.ex
  have e : cdv = .ref c := hc
  subst e
  exact fn_of lk hcd S len fun A outer s H vs Q E hr hsp => hbody A outer s H vs Q E hr hsp
/-- the table of the code object at c -/
def tabOfK (K : PySem.W.Frag) (c : Addr) : Option Addr := match K.lookup c with
  | some ⟨_, _, .fields vs, _⟩ => (match (vs[11]? : Option Value) with
    | some (.ref P) => some P
    | _ => none)
  | _ => none
theorem lawAt_mk {l : PySem.W.OpenLaw} {w : World} {K : PySem.W.Frag} {k n : Nat} {x : Str} {mg : Str → Option Value} {fa : Addr} {h : Heap} {c P : Addr} {ts : List Addr} {d : List D → R D} (KX : K.In h) (tabs : ∀ P ∈ ts, h.get? P = some (tabObj #[])) (hm : P ∈ ts) (n1 : codeHdIn K c P = true) (n2 : K.lookup P = none)
    (hsp : ∀ (H : Hp) (a : Addr) (ns : List Int), ns.length ≤ n → (∀ z ∈ ns, Builtin.Int.intBits z ≤ 1048576) → H P = some (.tbl #[]) → SqL K H a (ns.map V.int) → spV [P] 1 d [.ref a] H (fun v _ => v = .bl true) fun _ _ _ => False)
    (all : ∃ fd : FuncData, (∀ (s : Shared) (v : Value), BindsTo s fd ⟨[v], []⟩ [(x, v)]) ∧ ∀ base : Heap, K.In base → base.Ns mainGlobals mg → LamX.TabB base mg c P → FnOk l.prog w K mg base (L2.CX l.prog w) k fa fd [x] (spV [P] 1 d)) :
    LamX.LawAtS l w K (L2.CX l.prog w) k n x mg fa h := by
  obtain ⟨fd, hb, hF⟩ := all
  have one : ∀ {Pr : Addr × Addr → Prop}, Pr (c, P) → ∀ p ∈ [(c, P)], Pr p := fun {Pr} q p hp => by rw [List.mem_singleton.mp hp]; exact q
  exact ⟨fd, [(c, P)], spV [P] 1 d, one (tabs P hm), one n2, one (codeHd_of_K KX n1), hb, fun H a ns h1 h2 h3 h4 => hsp H a ns h1 h2 (h3 (c, P) (List.mem_singleton.mpr rfl)) h4, fun base b1 b2 b3 => hF base b1 b2 (b3 (c, P) (List.mem_singleton.mpr rfl))⟩
end L2.Dn


set_option Elab.async false
set_option linter.all false
set_option maxRecDepth 100000
set_option maxHeartbeats 4000000
namespace L2.Dn
open PySem PySem.Spec PyProof.Rows
def t_BadWorld : Ex → Option Bool := fun c => match c with | .world => some true | .stand => some false | .many => some false | .never => some false | .count => some false | _ => none
def t_BadStand : Ex → Option Bool := fun c => match c with | .world => some false | .stand => some true | .many => some false | .never => some false | .count => some false | _ => none
def t_BadCount : Ex → Option Bool := fun c => match c with | .world => some false | .stand => some false | .many => some false | .never => some false | .count => some true | _ => none
def t_Never : Ex → Option Bool := fun c => match c with | .world => some false | .stand => some false | .many => some false | .never => some true | .count => some false | _ => none
def t_TooMany : Ex → Option Bool := fun c => match c with | .world => some false | .stand => some false | .many => some true | .never => some false | .count => some false | _ => none
-- is_within(thing, low, high): 0 thing, 1 low, 2 high
def o_is_within : En → Out := (oRet (dAndV (dIsi "int" (dVar 0)) (dAndV (dNotT (dIsi "bool" (dVar 0))) (dChain pLe pLe (dVar 1) (dVar 0) (dVar 2)))))
def d_is_within : List D → R (D) := dDef 3 o_is_within
-- is_jump(many, thing): 0 many, 1 thing, 2 one
def o_is_jump : En → Out := (oSeq (oIf (dOr (dNot (dTru (dIsi "tuple" (dVar 1)))) (dOr (dTst (dBin pNe (dApp pLen [(dVar 1)]) (dC (.int 3)))) (dTru (dL (dLc [2] (dWk anyL (dVar 1)) (bName 2) (dNot (dTru (dApp d_is_within [(dVar 2), (dC (.int 0)), (dBin pSub (dVar 0) (dC (.int 1)))]))) (dVar 2)))))) (oRet (dC (.bool false))) oNext)
  (oRet (dBin pEq (dLenSet (dVar 1)) (dC (.int 3)))))
def d_is_jump : List D → R (D) := dDef 3 o_is_jump
-- is_world(thing): 0 thing, 1 one, 2 other
def o_is_world : En → Out := (oSeq (oIf (dOr (dNot (dTru (dIsi "tuple" (dVar 0)))) (dOr (dTst (dBin pNe (dApp pLen [(dVar 0)]) (dC (.int 2)))) (dNot (dTru (dApp d_is_within [(dBin pIx (dVar 0) (dC (.int 0))), (dC (.int 3)), (dC (.int 12))]))))) (oRet (dC (.bool false))) oNext)
  (oSeq (oIf (dOr (dNot (dTru (dIsi "tuple" (dBin pIx (dVar 0) (dC (.int 1)))))) (dTst (dBin pGt (dApp pLen [(dBin pIx (dVar 0) (dC (.int 1)))]) (dC (.int 16))))) (oRet (dC (.bool false))) oNext)
  (oSeq (oIf (dTru (dL (dLc [1] (dWk anyL (dBin pIx (dVar 0) (dC (.int 1)))) (bName 1) (dNot (dTru (dApp d_is_jump [(dBin pIx (dVar 0) (dC (.int 0))), (dVar 1)]))) (dVar 1)))) (oRet (dC (.bool false))) oNext)
  (oRet (dNotT (dL (dLc [1, 2] (dApp pZip [(dBin pIx (dVar 0) (dC (.int 1))), (dSl (dBin pIx (dVar 0) (dC (.int 1))) (dP (dC (.int 1))) dNoP)]) (bAny 2 (bCons (bName 1) (bCons (bName 2) bNil))) (dTst (dBin pGe (dVar 1) (dVar 2))) (dC (.int 1)))))))))
def d_is_world : List D → R (D) := dDef 3 o_is_world
-- look(world): 0 world
def o_look : En → Out := (oIf (dNot (dTru (dApp d_is_world [(dVar 0)]))) (oRaise .world) oNext)
def d_look : List D → R (D) := dDef 1 o_look
-- is_stand(world, thing): 0 world, 1 thing, 2 sign
def o_is_stand : En → Out := (oSeq (oIf (dOr (dNot (dTru (dIsi "str" (dVar 1)))) (dTst (dBin pNe (dApp pLen [(dVar 1)]) (dBin pIx (dVar 0) (dC (.int 0)))))) (oRet (dC (.bool false))) oNext)
  (oRet (dNotT (dL (dLc [2] (dWk anyL (dVar 1)) (bName 2) (dTst (dBin pNotIn (dVar 2) (dC (.str (PySem.Str.ofString "o."))))) (dVar 2))))))
def d_is_stand : List D → R (D) := dDef 3 o_is_stand
-- look_stand(world, stand): 0 world, 1 stand
def o_look_stand : En → Out := (oSeq (oDrop (dApp d_look [(dVar 0)]))
  (oIf (dNot (dTru (dApp d_is_stand [(dVar 0), (dVar 1)]))) (oRaise .stand) oNext))
def d_look_stand : List D → R (D) := dDef 2 o_look_stand
-- look_two(world, start, goal): 0 world, 1 start, 2 goal
def o_look_two : En → Out := (oSeq (oDrop (dApp d_look_stand [(dVar 0), (dVar 1)]))
  (oDrop (dApp d_look_stand [(dVar 0), (dVar 2)])))
def d_look_two : List D → R (D) := dDef 3 o_look_two
-- put(stand, jump, signs): 0 stand, 1 jump, 2 signs, 3 row, 4 cell, 5 sign
def o_put : En → Out := (oSeq (oSetL 3 (dApp pListOf [(dVar 0)]))
  (oSeq (oFor [4, 5] (dApp pZip [(dVar 1), (dVar 2)]) (bAny 2 (bCons (bName 4) (bCons (bName 5) bNil)))
  (oAsg (dVar 5) (bSub 3 (dVar 4))))
  (oPre (frzs [3]) (oRet (dBm isS pJoin (dC (.str (PySem.Str.ofString ""))) [(dVar 3)])))))
def d_put : List D → R (D) := dDef 6 o_put
-- has(stand, jump, signs): 0 stand, 1 jump, 2 signs, 3 cell
def o_has : En → Out := (oRet (dBin pEq (dL (dLc [3] (dWk anyL (dVar 1)) (bName 3) dYes (dBin pIx (dVar 0) (dVar 3)))) (dL (dApp pListOf [(dVar 2)]))))
def d_has : List D → R (D) := dDef 4 o_has
-- moves_of(world, stand): 0 world, 1 stand, 2 found, 3 number, 4 jump
def o_moves_of : En → Out := (oSeq (oSetL 2 (dArgs []))
  (oSeq (oFor [3, 4] (dApp pEnum [(dBin pIx (dVar 0) (dC (.int 1)))]) (bAny 2 (bCons (bName 3) (bCons (bName 4) bNil)))
  (oIf (dTru (dApp d_has [(dVar 1), (dVar 4), (dC (.str (PySem.Str.ofString "oo.")))])) (oApp 2 (dTup [(dVar 3), (dApp d_put [(dVar 1), (dVar 4), (dC (.str (PySem.Str.ofString "..o")))])])) oNext))
  (oPre (frzs [2]) (oRet (dVar 2)))))
def d_moves_of : List D → R (D) := dDef 5 o_moves_of
-- back_of(world, stand): 0 world, 1 stand, 2 found, 3 number, 4 jump
def o_back_of : En → Out := (oSeq (oSetL 2 (dArgs []))
  (oSeq (oFor [3, 4] (dApp pEnum [(dBin pIx (dVar 0) (dC (.int 1)))]) (bAny 2 (bCons (bName 3) (bCons (bName 4) bNil)))
  (oIf (dTru (dApp d_has [(dVar 1), (dVar 4), (dC (.str (PySem.Str.ofString "..o")))])) (oApp 2 (dTup [(dVar 3), (dApp d_put [(dVar 1), (dVar 4), (dC (.str (PySem.Str.ofString "oo.")))])])) oNext))
  (oPre (frzs [2]) (oRet (dVar 2)))))
def d_back_of : List D → R (D) := dDef 5 o_back_of
-- all_from(world, stand): 0 world, 1 stand, 2 found, 3 row, 4 at, 5 number, 6 other
def o_all_from : En → Out := (oSeq (oSetK 2 (dDisp [((dVar 1), (dC (.bool true)))]))
  (oSeq (oSetL 3 (dArgs [(dVar 1)]))
  (oSeq (oSet 4 (dC (.int 0)))
  (oSeq (oWh [5, 6] (dLendT [3] (dTst (dBin pLt (dVar 4) (dApp pLen [(dVar 3)])))) (oSeq (oFor [5, 6] (dWk anyL (dApp d_moves_of [(dVar 0), (dLend [3] (dBin pIx (dVar 3) (dVar 4)))])) (bAny 2 (bCons (bName 5) (bCons (bName 6) bNil)))
  (oIf (dTst (dInO true (dVar 6) 2)) (oSeq (oPut 2 (dVar 6) (dC (.bool true)))
  (oApp 3 (dVar 6))) oNext))
  (oSeq (oAug 4 pAddI (dC (.int 1)))
  (oIf (dLendT [3] (dTst (dBin pGt (dApp pLen [(dVar 3)]) (dC (.int 80))))) (oRaise .many) oNext))) 20000)
  (oRetO 2)))))
def d_all_from : List D → R (List (Key × D)) := dDefK 7 o_all_from
-- all_to(world, stand): 0 world, 1 stand, 2 found, 3 row, 4 at, 5 number, 6 other
def o_all_to : En → Out := (oSeq (oSetK 2 (dDisp [((dVar 1), (dC (.bool true)))]))
  (oSeq (oSetL 3 (dArgs [(dVar 1)]))
  (oSeq (oSet 4 (dC (.int 0)))
  (oSeq (oWh [5, 6] (dLendT [3] (dTst (dBin pLt (dVar 4) (dApp pLen [(dVar 3)])))) (oSeq (oFor [5, 6] (dWk anyL (dApp d_back_of [(dVar 0), (dLend [3] (dBin pIx (dVar 3) (dVar 4)))])) (bAny 2 (bCons (bName 5) (bCons (bName 6) bNil)))
  (oIf (dTst (dInO true (dVar 6) 2)) (oSeq (oPut 2 (dVar 6) (dC (.bool true)))
  (oApp 3 (dVar 6))) oNext))
  (oSeq (oAug 4 pAddI (dC (.int 1)))
  (oIf (dLendT [3] (dTst (dBin pGt (dApp pLen [(dVar 3)]) (dC (.int 80))))) (oRaise .many) oNext))) 20000)
  (oRetO 2)))))
def d_all_to : List D → R (List (Key × D)) := dDefK 7 o_all_to
-- reached(world, stand): 0 world, 1 stand
def o_reached : En → Out := (oSeq (oDrop (dApp d_look_stand [(dVar 0), (dVar 1)]))
  (oRet (dL (dSortX (dApp d_all_from [(dVar 0), (dVar 1)])))))
def d_reached : List D → R (D) := dDef 2 o_reached
-- leading(world, stand): 0 world, 1 stand
def o_leading : En → Out := (oSeq (oDrop (dApp d_look_stand [(dVar 0), (dVar 1)]))
  (oRet (dL (dSortX (dApp d_all_to [(dVar 0), (dVar 1)])))))
def d_leading : List D → R (D) := dDef 2 o_leading
-- ends(world, stand): 0 world, 1 stand, 2 one
def o_ends : En → Out := (oSeq (oDrop (dApp d_look_stand [(dVar 0), (dVar 1)]))
  (oRet (dL (dSort (dL (dLc [2] (dKeys (dApp d_all_from [(dVar 0), (dVar 1)])) (bName 2) (dNot (dTru (dApp d_moves_of [(dVar 0), (dVar 2)]))) (dVar 2)))))))
def d_ends : List D → R (D) := dDef 3 o_ends
-- can_come(world, start, goal): 0 world, 1 start, 2 goal
def o_can_come : En → Out := (oSeq (oDrop (dApp d_look_two [(dVar 0), (dVar 1), (dVar 2)]))
  (oRet (dInN false (dVar 2) (dApp d_all_from [(dVar 0), (dVar 1)]))))
def d_can_come : List D → R (D) := dDef 3 o_can_come
-- between(world, start, goal): 0 world, 1 start, 2 goal, 3 behind, 4 ahead, 5 stand
def o_between : En → Out := (oSeq (oSetLk 3 (dApp d_all_from [(dVar 0), (dVar 1)]))
  (oSeq (oIf (dTst (dInO true (dVar 2) 3)) (oRaise .never) oNext)
  (oSeq (oSetLk 4 (dApp d_all_to [(dVar 0), (dVar 2)]))
  (oRet (dL (dLc [5] (dKeys (dLk 3)) (bName 5) (dTst (dInO false (dVar 5) 4)) (dVar 5)))))))
def d_between : List D → R (D) := dDef 6 o_between
-- row_to(world, start, goal): 0 world, 1 start, 2 goal, 3 on, 4 found, 5 here, 6 number, 7 one
def o_row_to : En → Out := (oSeq (oDrop (dApp d_look_two [(dVar 0), (dVar 1), (dVar 2)]))
  (oSeq (oSet 3 (dApp d_between [(dVar 0), (dVar 1), (dVar 2)]))
  (oSeq (oSetL 4 (dArgs []))
  (oSeq (oSet 5 (dVar 1))
  (oSeq (oWh [6] (dTst (dBin pNe (dVar 5) (dVar 2))) (oSeq (oAsg (dBin pIx (dL (dLc [7] (dWk anyL (dApp d_moves_of [(dVar 0), (dVar 5)])) (bName 7) (dTst (dBin pIn (dBin pIx (dVar 7) (dC (.int 1))) (dVar 3))) (dVar 7))) (dC (.int 0))) (bAny 2 (bCons (bName 6) (bCons (bName 5) bNil))))
  (oApp 4 (dVar 6))) 20000)
  (oPre (frzs [4]) (oRet (dVar 4))))))))
def d_row_to : List D → R (D) := dDef 8 o_row_to
-- last(world, start, goal): 0 world, 1 start, 2 goal, 3 on, 4 number, 5 stand
def o_last : En → Out := (oSeq (oDrop (dApp d_look_two [(dVar 0), (dVar 1), (dVar 2)]))
  (oSeq (oSet 3 (dApp d_between [(dVar 0), (dVar 1), (dVar 2)]))
  (oRet (dL (dLc [4, 5] (dWk anyL (dApp d_back_of [(dVar 0), (dVar 2)])) (bAny 2 (bCons (bName 4) (bCons (bName 5) bNil))) (dTst (dBin pIn (dVar 5) (dVar 3))) (dVar 4))))))
def d_last : List D → R (D) := dDef 6 o_last
-- ahead(world, start, goal, many): 0 world, 1 start, 2 goal, 3 many, 4 on, 5 stand
def o_ahead : En → Out := (oSeq (oDrop (dApp d_look_two [(dVar 0), (dVar 1), (dVar 2)]))
  (oSeq (oIf (dNot (dTru (dApp d_is_within [(dVar 3), (dC (.int 0)), (dC (.int 12))]))) (oRaise .count) oNext)
  (oSeq (oSet 4 (dApp d_between [(dVar 0), (dVar 1), (dVar 2)]))
  (oRet (dL (dSort (dL (dLc [5] (dWk anyL (dVar 4)) (bName 5) (dTst (dBin pEq (dBm isS pSCount (dVar 5) [(dC (.str (PySem.Str.ofString "o")))]) (dBin pPlus (dBm isS pSCount (dVar 2) [(dC (.str (PySem.Str.ofString "o")))]) (dVar 3)))) (dVar 5)))))))))
def d_ahead : List D → R (D) := dDef 6 o_ahead
-- ways_to(world, start, goal): 0 world, 1 start, 2 goal, 3 on, 4 found, 5 stand, 6 number, 7 other
def o_ways_to : En → Out := (oSeq (oSet 3 (dApp d_between [(dVar 0), (dVar 1), (dVar 2)]))
  (oSeq (oSetK 4 (dDisp [((dVar 2), (dC (.int 1)))]))
  (oSeq (oFor [5] (dWk anyL (dL (dSortKL keyPegs (dVar 3)))) (bName 5)
  (oIf (dTst (dBin pNe (dVar 5) (dVar 2))) (oPut 4 (dVar 5) (dApp pSum [(dL (dLc [6, 7] (dWk anyL (dApp d_moves_of [(dVar 0), (dVar 5)])) (bAny 2 (bCons (bName 6) (bCons (bName 7) bNil))) (dTst (dInO false (dVar 7) 4)) (dGetO 4 (dVar 7))))])) oNext))
  (oRetO 4))))
def d_ways_to : List D → R (List (Key × D)) := dDefK 8 o_ways_to
-- how_many(world, start, goal): 0 world, 1 start, 2 goal
def o_how_many : En → Out := (oSeq (oDrop (dApp d_look_two [(dVar 0), (dVar 1), (dVar 2)]))
  (oRet (dGetN (dApp d_ways_to [(dVar 0), (dVar 1), (dVar 2)]) (dVar 1))))
def d_how_many : List D → R (D) := dDef 3 o_how_many
-- without(world, number): 0 world, 1 number
def o_without : En → Out := (oRet (dTup [(dBin pIx (dVar 0) (dC (.int 0))), (dBin pPlus (dSl (dBin pIx (dVar 0) (dC (.int 1))) dNoP (dP (dVar 1))) (dSl (dBin pIx (dVar 0) (dC (.int 1))) (dP (dBin pPlus (dVar 1) (dC (.int 1)))) dNoP))]))
def d_without : List D → R (D) := dDef 2 o_without
-- surely(world, start, goal): 0 world, 1 start, 2 goal, 3 found, 4 number
def o_surely : En → Out := (oSeq (oDrop (dApp d_look_two [(dVar 0), (dVar 1), (dVar 2)]))
  (oSeq (oDrop (dApp d_between [(dVar 0), (dVar 1), (dVar 2)]))
  (oSeq (oSetL 3 (dArgs []))
  (oSeq (oFor [4] (dApp pRng1 [(dApp pLen [(dBin pIx (dVar 0) (dC (.int 1)))])]) (bName 4)
  (oIf (dTst (dInN true (dVar 2) (dApp d_all_from [(dApp d_without [(dVar 0), (dVar 4)]), (dVar 1)]))) (oApp 3 (dVar 4)) oNext))
  (oPre (frzs [3]) (oRet (dVar 3)))))))
def d_surely : List D → R (D) := dDef 5 o_surely
-- perhaps(world, start, goal): 0 world, 1 start, 2 goal, 3 on, 4 found, 5 stand, 6 number, 7 other
def o_perhaps : En → Out := (oSeq (oDrop (dApp d_look_two [(dVar 0), (dVar 1), (dVar 2)]))
  (oSeq (oSetLk 3 (dDictP (dL (dLc [5] (dWk anyL (dApp d_between [(dVar 0), (dVar 1), (dVar 2)])) (bName 5) dYes (dTup [(dVar 5), (dC (.bool true))])))))
  (oSeq (oSetK 4 (fun _ => .val []))
  (oSeq (oFor [5, 6, 7] (dKeys (dLk 3)) (bName 5)
  (oFor [6, 7] (dWk anyL (dApp d_moves_of [(dVar 0), (dVar 5)])) (bAny 2 (bCons (bName 6) (bCons (bName 7) bNil)))
  (oIf (dTst (dInO false (dVar 7) 3)) (oPut 4 (dVar 6) (dC (.bool true))) oNext)))
  (oRet (dL (dSortX (dOd 4))))))))
def d_perhaps : List D → R (D) := dDef 8 o_perhaps
-- is_kept(world, row): 0 world, 1 row, 2 jump, 3 cell
def o_is_kept : En → Out := (oRet (dNotT (dL (dLc [2] (dWk anyL (dBin pIx (dVar 0) (dC (.int 1)))) (bName 2) (dTst (dBin pEq (dBin pMod (dBm isL pLCount (dL (dLc [3] (dWk anyL (dVar 2)) (bName 3) dYes (dBin pIx (dVar 1) (dVar 3)))) [(dC (.str (PySem.Str.ofString "1")))]) (dC (.int 2))) (dC (.int 1)))) (dVar 2)))))
def d_is_kept : List D → R (D) := dDef 4 o_is_kept
-- kept_of(world): 0 world, 1 rows, 2 cell, 3 ready, 4 longer, 5 row, 6 sign, 7 new, 8 jump, 9 one
def o_kept_of : En → Out := (oSeq (oSet 1 (dL (dArgs [(dC (.str (PySem.Str.ofString "")))])))
  (oSeq (oFor [2, 3, 4, 5, 6, 7] (dApp pRng1 [(dBin pIx (dVar 0) (dC (.int 0)))]) (bName 2)
  (oSeq (oSet 3 (dL (dLc [8] (dWk anyL (dBin pIx (dVar 0) (dC (.int 1)))) (bName 8) (dTst (dBin pEq (dApp pMaxA [(dVar 8)]) (dVar 2))) (dVar 8))))
  (oSeq (oSetL 4 (dArgs []))
  (oSeq (oFor [5, 6, 7] (dWk anyL (dVar 1)) (bName 5)
  (oFor [6, 7] (dWk anyL (dC (.str (PySem.Str.ofString "01")))) (bName 6)
  (oSeq (oSet 7 (dBin pPlus (dVar 5) (dVar 6)))
  (oIf (dNot (dTru (dL (dLc [8] (dWk anyL (dVar 3)) (bName 8) (dTst (dBin pEq (dBin pMod (dBm isL pLCount (dL (dLc [9] (dWk anyL (dVar 8)) (bName 9) dYes (dBin pIx (dVar 7) (dVar 9)))) [(dC (.str (PySem.Str.ofString "1")))]) (dC (.int 2))) (dC (.int 1)))) (dVar 8))))) (oApp 4 (dVar 7)) oNext))))
  (oPre (frzs [4]) (oSet 1 (dVar 4)))))))
  (oRet (dVar 1))))
def d_kept_of : List D → R (D) := dDef 10 o_kept_of
-- odd_at(row, stand): 0 row, 1 stand, 2 mark, 3 sign
def o_odd_at : En → Out := (oRet (dBin pMod (dBm isL pLCount (dL (dLc [2, 3] (dApp pZip [(dVar 0), (dVar 1)]) (bAny 2 (bCons (bName 2) (bCons (bName 3) bNil))) (dTst (dBin pEq (dVar 2) (dC (.str (PySem.Str.ofString "1"))))) (dVar 3))) [(dC (.str (PySem.Str.ofString "o")))]) (dC (.int 2))))
def d_odd_at : List D → R (D) := dDef 4 o_odd_at
-- parted_by(world, start, goal): 0 world, 1 start, 2 goal, 3 row
def o_parted_by : En → Out := (oSeq (oDrop (dApp d_look_two [(dVar 0), (dVar 1), (dVar 2)]))
  (oSeq (oFor [3] (dWk anyL (dApp d_kept_of [(dVar 0)])) (bName 3)
  (oIf (dTst (dBin pNe (dApp d_odd_at [(dVar 3), (dVar 1)]) (dApp d_odd_at [(dVar 3), (dVar 2)]))) (oRet (dVar 3)) oNext))
  (oRet (dC .none))))
def d_parted_by : List D → R (D) := dDef 4 o_parted_by
-- is_marks(world, thing): 0 world, 1 thing, 2 sign
def o_is_marks : En → Out := (oRet (dAndV (dIsi "str" (dVar 1)) (dAndV (dBin pEq (dApp pLen [(dVar 1)]) (dBin pIx (dVar 0) (dC (.int 0)))) (dNotT (dL (dLc [2] (dWk anyL (dVar 1)) (bName 2) (dTst (dBin pNotIn (dVar 2) (dC (.str (PySem.Str.ofString "01"))))) (dVar 2)))))))
def d_is_marks : List D → R (D) := dDef 3 o_is_marks
-- are_weights(world, thing): 0 world, 1 thing, 2 one, 3 begin, 4 over, 5 end
def o_are_weights : En → Out := (oSeq (oDrop (dApp d_look [(dVar 0)]))
  (oSeq (oIf (dOr (dNot (dTru (dIsi "tuple" (dVar 1)))) (dTst (dBin pNe (dApp pLen [(dVar 1)]) (dBin pIx (dVar 0) (dC (.int 0)))))) (oRet (dC (.bool false))) oNext)
  (oSeq (oIf (dTru (dL (dLc [2] (dWk anyL (dVar 1)) (bName 2) (dNot (dTru (dApp d_is_within [(dVar 2), (dUn pNeg (dC (.int 99))), (dC (.int 99))]))) (dVar 2)))) (oRet (dC (.bool false))) oNext)
  (oRet (dNotT (dL (dLc [3, 4, 5] (dWk anyL (dBin pIx (dVar 0) (dC (.int 1)))) (bAny 3 (bCons (bName 3) (bCons (bName 4) (bCons (bName 5) bNil)))) (dTst (dBin pLt (dBin pPlus (dBin pIx (dVar 1) (dVar 3)) (dBin pIx (dVar 1) (dVar 4))) (dBin pIx (dVar 1) (dVar 5)))) (dC (.int 1)))))))))
def d_are_weights : List D → R (D) := dDef 6 o_are_weights
-- weight(stand, weights): 0 stand, 1 weights, 2 one, 3 sign
def o_weight : En → Out := (oRet (dApp pSum [(dL (dLc [2, 3] (dApp pZip [(dVar 1), (dVar 0)]) (bAny 2 (bCons (bName 2) (bCons (bName 3) bNil))) (dTst (dBin pEq (dVar 3) (dC (.str (PySem.Str.ofString "o"))))) (dVar 2)))]))
def d_weight : List D → R (D) := dDef 4 o_weight
-- paper(world, start, goal): 0 world, 1 start, 2 goal, 3 row
def o_paper : En → Out := (oSeq (oDrop (dApp d_look_two [(dVar 0), (dVar 1), (dVar 2)]))
  (oSeq (oIf (dTst (dInN false (dVar 2) (dApp d_all_from [(dVar 0), (dVar 1)]))) (oRet (dTup [(dC (.str (PySem.Str.ofString "row"))), (dApp pTupOf [(dApp d_row_to [(dVar 0), (dVar 1), (dVar 2)])])])) oNext)
  (oSeq (oSet 3 (dApp d_parted_by [(dVar 0), (dVar 1), (dVar 2)]))
  (oSeq (oIf (dTst (dBin pIsNot (dVar 3) (dC .none))) (oRet (dTup [(dC (.str (PySem.Str.ofString "counts"))), (dVar 3)])) oNext)
  (oRet (dTup [(dC (.str (PySem.Str.ofString "ahead"))), (dApp pTupOf [(dL (dSortX (dApp d_all_to [(dVar 0), (dVar 2)])))])]))))))
def d_paper : List D → R (D) := dDef 4 o_paper
-- is_row(world, start, goal, thing): 0 world, 1 start, 2 goal, 3 thing, 4 here, 5 number
def o_is_row : En → Out := (oSeq (oSet 4 (dVar 1))
  (oSeq (oFor [5] (dWk anyL (dVar 3)) (bName 5)
  (oSeq (oIf (dOr (dNot (dTru (dApp d_is_within [(dVar 5), (dC (.int 0)), (dBin pSub (dApp pLen [(dBin pIx (dVar 0) (dC (.int 1)))]) (dC (.int 1)))]))) (dNot (dTru (dApp d_has [(dVar 4), (dBin pIx (dBin pIx (dVar 0) (dC (.int 1))) (dVar 5)), (dC (.str (PySem.Str.ofString "oo.")))])))) (oRet (dC (.bool false))) oNext)
  (oSet 4 (dApp d_put [(dVar 4), (dBin pIx (dBin pIx (dVar 0) (dC (.int 1))) (dVar 5)), (dC (.str (PySem.Str.ofString "..o")))]))))
  (oRet (dBin pEq (dVar 4) (dVar 2)))))
def d_is_row : List D → R (D) := dDef 6 o_is_row
-- is_closed(world, start, goal, thing): 0 world, 1 start, 2 goal, 3 thing, 4 known, 5 one, 6 number, 7 other
def o_is_closed : En → Out := (oSeq (oIf (dOr (dTru (dL (dLc [5] (dWk anyL (dVar 3)) (bName 5) (dNot (dTru (dApp d_is_stand [(dVar 0), (dVar 5)]))) (dVar 5)))) (dOr (dTst (dBin pNotIn (dVar 2) (dVar 3))) (dTst (dBin pIn (dVar 1) (dVar 3))))) (oRet (dC (.bool false))) oNext)
  (oSeq (oSetLk 4 (dDictP (dL (dLc [5] (dWk anyL (dVar 3)) (bName 5) dYes (dTup [(dVar 5), (dC (.bool true))])))))
  (oSeq (oFor [5] (dWk anyL (dVar 3)) (bName 5)
  (oIf (dTru (dL (dLc [6, 7] (dWk anyL (dApp d_back_of [(dVar 0), (dVar 5)])) (bAny 2 (bCons (bName 6) (bCons (bName 7) bNil))) (dTst (dInO true (dVar 7) 4)) (dVar 7)))) (oRet (dC (.bool false))) oNext))
  (oRet (dC (.bool true))))))
def d_is_closed : List D → R (D) := dDef 8 o_is_closed
-- is_paper(world, start, goal, thing): 0 world, 1 start, 2 goal, 3 thing
def o_is_paper : En → Out := (oSeq (oDrop (dApp d_look_two [(dVar 0), (dVar 1), (dVar 2)]))
  (oSeq (oIf (dOr (dNot (dTru (dIsi "tuple" (dVar 3)))) (dOr (dTst (dBin pNe (dApp pLen [(dVar 3)]) (dC (.int 2)))) (dNot (dTru (dIsi "str" (dBin pIx (dVar 3) (dC (.int 0)))))))) (oRet (dC (.bool false))) oNext)
  (oSeq (oIf (dTst (dBin pEq (dBin pIx (dVar 3) (dC (.int 0))) (dC (.str (PySem.Str.ofString "counts"))))) (oSeq (oIf (dOr (dNot (dTru (dApp d_is_marks [(dVar 0), (dBin pIx (dVar 3) (dC (.int 1)))]))) (dNot (dTru (dApp d_is_kept [(dVar 0), (dBin pIx (dVar 3) (dC (.int 1)))])))) (oRet (dC (.bool false))) oNext)
  (oRet (dBin pNe (dApp d_odd_at [(dBin pIx (dVar 3) (dC (.int 1))), (dVar 1)]) (dApp d_odd_at [(dBin pIx (dVar 3) (dC (.int 1))), (dVar 2)])))) oNext)
  (oSeq (oIf (dNot (dTru (dIsi "tuple" (dBin pIx (dVar 3) (dC (.int 1)))))) (oRet (dC (.bool false))) oNext)
  (oSeq (oIf (dTst (dBin pEq (dBin pIx (dVar 3) (dC (.int 0))) (dC (.str (PySem.Str.ofString "row"))))) (oRet (dApp d_is_row [(dVar 0), (dVar 1), (dVar 2), (dBin pIx (dVar 3) (dC (.int 1)))])) oNext)
  (oSeq (oIf (dTst (dBin pEq (dBin pIx (dVar 3) (dC (.int 0))) (dC (.str (PySem.Str.ofString "weights"))))) (oRet (dAndV (dApp d_are_weights [(dVar 0), (dBin pIx (dVar 3) (dC (.int 1)))]) (dBin pLt (dApp d_weight [(dVar 1), (dBin pIx (dVar 3) (dC (.int 1)))]) (dApp d_weight [(dVar 2), (dBin pIx (dVar 3) (dC (.int 1)))])))) oNext)
  (oRet (dAndV (dBin pEq (dBin pIx (dVar 3) (dC (.int 0))) (dC (.str (PySem.Str.ofString "ahead")))) (dApp d_is_closed [(dVar 0), (dVar 1), (dVar 2), (dBin pIx (dVar 3) (dC (.int 1)))])))))))))
def d_is_paper : List D → R (D) := dDef 4 o_is_paper
-- _law_cell(_law_script, _law_k): 0 _law_script, 1 _law_k
def o__law_cell : En → Out := (oSeq (oIf (dTst (dBin pLt (dVar 1) (dApp pLen [(dVar 0)]))) (oRet (dBin pIx (dVar 0) (dVar 1))) oNext)
  (oRet (dC (.int 0))))
def d__law_cell : List D → R (D) := dDef 2 o__law_cell
-- _law_seed(_law_seed_here, _law_k): 0 _law_seed_here, 1 _law_k
def o__law_seed : En → Out := (oRet (dBin pMod (dBin pPow (dBin pMod (dBin pPlus (dBin pPlus (dBin pTimes (dVar 0) (dC (.int 1103515245))) (dBin pTimes (dC (.int 7919)) (dVar 1))) (dC (.int 12345))) (dC (.int 2147483647))) (dC (.int 5))) (dC (.int 2147483647))))
def d__law_seed : List D → R (D) := dDef 2 o__law_seed
-- _law_pick(_law_seed_here, _law_many): 0 _law_seed_here, 1 _law_many
def o__law_pick : En → Out := (oRet (dBin pMod (dBin pDiv (dVar 0) (dC (.int 97))) (dVar 1)))
def d__law_pick : List D → R (D) := dDef 2 o__law_pick
-- _law_world(_law_script, _law_at): 0 _law_script, 1 _law_at, 2 _law_seed_here, 3 _law_many, 4 _law_jumps, 5 _law_k, 6 _law_one, 7 _law_begin, 8 _law_over, 9 _law_rest, 10 _law_cell_here
def o__law_world : En → Out := (oSeq (oSet 2 (dApp d__law_seed [(dApp d__law_cell [(dVar 0), (dVar 1)]), (dC (.int 0))]))
  (oSeq (oSet 3 (dBin pIx (dL (dArgs [(dBin pPlus (dC (.int 3)) (dBin pMod (dBin pDiv (dVar 2) (dC (.int 5))) (dC (.int 10)))), (dC (.int 12)), (dC (.int 6)), (dC (.int 9))])) (dBin pMod (dBin pDiv (dVar 2) (dC (.int 7))) (dC (.int 4)))))
  (oSeq (oSetL 4 (dArgs []))
  (oSeq (oIf (dTst (dBin pEq (dBin pMod (dBin pDiv (dVar 2) (dC (.int 11))) (dC (.int 3))) (dC (.int 0)))) (oFor [5] (dApp pRng1 [(dBin pSub (dVar 3) (dC (.int 2)))]) (bName 5)
  (oPre (frzs [4]) (oSet 4 (dBin pPlus (dVar 4) (dL (dArgs [(dTup [(dVar 5), (dBin pPlus (dVar 5) (dC (.int 1))), (dBin pPlus (dVar 5) (dC (.int 2)))]), (dTup [(dBin pPlus (dVar 5) (dC (.int 2))), (dBin pPlus (dVar 5) (dC (.int 1))), (dVar 5)])])))))) (oIf (dTst (dBin pEq (dBin pMod (dBin pDiv (dVar 2) (dC (.int 11))) (dC (.int 3))) (dC (.int 1)))) (oFor [5] (dApp pRng1 [(dVar 3)]) (bName 5)
  (oSeq (oPre (frzs [4]) (oSet 4 (dBin pPlus (dVar 4) (dL (dRep (dArgs [(dTup [(dVar 5), (dBin pPlus (dVar 5) (dC (.int 1))), (dBin pPlus (dVar 5) (dC (.int 2)))])]) (dApp pIntA [(dAndV (dBin pLt (dBin pMod (dVar 5) (dC (.int 4))) (dC (.int 2))) (dBin pLt (dBin pPlus (dVar 5) (dC (.int 2))) (dVar 3)))]))))))
  (oPre (frzs [4]) (oSet 4 (dBin pPlus (dVar 4) (dL (dRep (dArgs [(dTup [(dVar 5), (dBin pPlus (dVar 5) (dC (.int 4))), (dBin pPlus (dVar 5) (dC (.int 8)))]), (dTup [(dBin pPlus (dVar 5) (dC (.int 8))), (dBin pPlus (dVar 5) (dC (.int 4))), (dVar 5)])]) (dApp pIntA [(dBin pLt (dBin pPlus (dVar 5) (dC (.int 8))) (dVar 3))])))))))) (oFor [5, 6, 7, 8, 9] (dApp pRng1 [(dBin pMod (dBin pDiv (dVar 2) (dC (.int 13))) (dC (.int 17)))]) (bName 5)
  (oSeq (oSet 6 (dApp d__law_seed [(dBin pPlus (dApp d__law_cell [(dVar 0), (dBin pPlus (dBin pPlus (dVar 1) (dC (.int 1))) (dBin pMod (dVar 5) (dC (.int 3))))]) (dBin pTimes (dC (.int 41)) (dVar 5))), (dVar 5)]))
  (oSeq (oSet 7 (dBin pMod (dBin pDiv (dVar 6) (dC (.int 5))) (dVar 3)))
  (oSeq (oSet 8 (dBin pMod (dBin pPlus (dBin pPlus (dVar 7) (dC (.int 1))) (dBin pMod (dBin pDiv (dVar 6) (dC (.int 7))) (dBin pSub (dVar 3) (dC (.int 1))))) (dVar 3)))
  (oSeq (oSet 9 (dL (dLc [10] (dApp pRng1 [(dVar 3)]) (bName 10) (dTst (dBin pNotIn (dVar 10) (dTup [(dVar 7), (dVar 8)]))) (dVar 10))))
  (oApp 4 (dTup [(dVar 7), (dVar 8), (dBin pIx (dVar 9) (dBin pMod (dBin pDiv (dVar 6) (dC (.int 11))) (dApp pLen [(dVar 9)])))])))))))))
  (oPre (frzs [4]) (oRet (dTup [(dVar 3), (dSl (dApp pTupOf [(dL (dSetSort (dVar 4)))]) dNoP (dP (dC (.int 16))))])))))))
def d__law_world : List D → R (D) := dDef 11 o__law_world
-- _law_stand(_law_seed_here, _law_many): 0 _law_seed_here, 1 _law_many, 2 _law_k
def o__law_stand : En → Out := (oRet (dBm isS pJoin (dC (.str (PySem.Str.ofString ""))) [(dL (dLc [2] (dApp pRng1 [(dVar 1)]) (bName 2) dYes (dIf (dTst (dBin pLt (dApp d__law_pick [(dApp d__law_seed [(dVar 0), (dVar 2)]), (dC (.int 9))]) (dBin pIx (dL (dArgs [(dC (.int 5)), (dC (.int 7)), (dC (.int 3))])) (dBin pMod (dBin pDiv (dVar 0) (dC (.int 5))) (dC (.int 3)))))) (dC (.str (PySem.Str.ofString "o"))) (dC (.str (PySem.Str.ofString "."))))))]))
def d__law_stand : List D → R (D) := dDef 3 o__law_stand
-- _law_of_two(_law_kind, _law_world_here, _law_start, _law_goal): 0 _law_kind, 1 _law_world_here, 2 _law_start, 3 _law_goal
def o__law_of_two : En → Out := (oSeq (oIf (dTst (dBin pEq (dVar 0) (dC (.int 0)))) (oRet (dApp d_reached [(dVar 1), (dVar 2)])) oNext)
  (oSeq (oIf (dTst (dBin pEq (dVar 0) (dC (.int 1)))) (oRet (dApp d_ends [(dVar 1), (dVar 2)])) oNext)
  (oSeq (oIf (dTst (dBin pEq (dVar 0) (dC (.int 2)))) (oRet (dApp d_leading [(dVar 1), (dVar 3)])) oNext)
  (oSeq (oIf (dTst (dBin pEq (dVar 0) (dC (.int 3)))) (oRet (dApp d_can_come [(dVar 1), (dVar 2), (dVar 3)])) oNext)
  (oSeq (oIf (dTst (dBin pEq (dVar 0) (dC (.int 4)))) (oRet (dApp d_row_to [(dVar 1), (dVar 2), (dVar 3)])) oNext)
  (oSeq (oIf (dTst (dBin pEq (dVar 0) (dC (.int 5)))) (oRet (dApp d_last [(dVar 1), (dVar 2), (dVar 3)])) oNext)
  (oSeq (oIf (dTst (dBin pEq (dVar 0) (dC (.int 6)))) (oRet (dApp d_how_many [(dVar 1), (dVar 2), (dVar 3)])) oNext)
  (oSeq (oIf (dTst (dBin pEq (dVar 0) (dC (.int 7)))) (oRet (dApp d_surely [(dVar 1), (dVar 2), (dVar 3)])) oNext)
  (oRet (dIf (dTst (dBin pEq (dVar 0) (dC (.int 8)))) (dApp d_perhaps [(dVar 1), (dVar 2), (dVar 3)]) (dApp d_paper [(dVar 1), (dVar 2), (dVar 3)])))))))))))
def d__law_of_two : List D → R (D) := dDef 4 o__law_of_two
-- _law_refusal(_law_kind, _law_world_here, _law_start, _law_goal, _law_count): 0 _law_kind, 1 _law_world_here, 2 _law_start, 3 _law_goal, 4 _law_count, 5 _law_caught
def o__law_refusal : En → Out := (oSeq (oSet 5 (dC (.str (PySem.Str.ofString ""))))
  (oSeq (oTry (oIf (dTst (dBin pEq (dVar 0) (dC (.int 2)))) (oDrop (dApp d_ahead [(dVar 1), (dVar 2), (dVar 3), (dVar 4)])) (oIf (dTst (dBin pEq (dVar 0) (dC (.int 9)))) (oDrop (dApp d_parted_by [(dVar 1), (dVar 2), (dVar 3)])) (oIf (dTst (dBin pEq (dVar 0) (dC (.int 8)))) (oDrop (dApp d_is_paper [(dVar 1), (dVar 2), (dVar 3), (dC .none)])) (oIf (dTst (dBin pGt (dVar 0) (dC (.int 5)))) (oDrop (dApp d__law_of_two [(dBin pIx (dL (dArgs [(dC (.int 3)), (dC (.int 9))])) (dBin pSub (dVar 0) (dC (.int 6)))), (dVar 1), (dVar 2), (dVar 3)])) (oDrop (dApp d__law_of_two [(dBin pIx (dL (dArgs [(dC (.int 4)), (dC (.int 5)), (dC (.int 0)), (dC (.int 6)), (dC (.int 7)), (dC (.int 8))])) (dVar 0)), (dVar 1), (dVar 2), (dVar 3)])))))) [(t_BadWorld, (oSet 5 (dC (.str (PySem.Str.ofString "world"))))), (t_BadStand, (oSet 5 (dC (.str (PySem.Str.ofString "stand"))))), (t_BadCount, (oSet 5 (dC (.str (PySem.Str.ofString "count"))))), (t_Never, (oSet 5 (dC (.str (PySem.Str.ofString "never"))))), (t_TooMany, (oSet 5 (dC (.str (PySem.Str.ofString "many")))))])
  (oRet (dVar 5))))
def d__law_refusal : List D → R (D) := dDef 6 o__law_refusal
-- law(_law_script): 0 _law_script, 1 _law_world_here, 2 _law_stand_here, 3 _law_bad, 4 _law_none, 5 _law_kind, 6 _law_told, 7 _law_count, 8 _law_full, 9 _law_empty
def law_s1 : En → Out := (oSet 1 (dApp d__law_world [(dVar 0), (dC (.int 0))]))
def law_s2 : En → Out := (oSet 2 (dApp d__law_stand [(dApp d__law_seed [(dApp d__law_cell [(dVar 0), (dC (.int 4))]), (dC (.int 1))]), (dBin pIx (dVar 1) (dC (.int 0)))]))
def law_s3 : En → Out := (oSet 3 (dBin pIx (dL (dArgs [(dC .none), (dTup [(dC (.int 2)), (dTup [])]), (dTup [(dBin pIx (dVar 1) (dC (.int 0))), (dC .none)]), (dL (dApp pListOf [(dVar 1)])), (dTup [(dC (.int 13)), (dTup [])]), (dTup [(dC (.bool true)), (dTup [])])])) (dBin pMod (dApp d__law_cell [(dVar 0), (dC (.int 5))]) (dC (.int 6)))))
def law_s4 : En → Out := (oSet 4 (dBin pIx (dL (dArgs [(dC (.str (PySem.Str.ofString ""))), (dBin pPlus (dVar 2) (dC (.str (PySem.Str.ofString ".")))), (dSl (dVar 2) (dP (dC (.int 1))) dNoP), (dBin pPlus (dSl (dVar 2) (dP (dC (.int 1))) dNoP) (dC (.str (PySem.Str.ofString "O")))), (dC .none), (dL (dApp pListOf [(dVar 2)]))])) (dBin pMod (dApp d__law_cell [(dVar 0), (dC (.int 6))]) (dC (.int 6)))))
def law_b1 : En → Out := (oSeq (oIf (dTst (dBin pNe (dApp d__law_refusal [(dVar 5), (dVar 3), (dVar 4), (dVar 4), (dC .none)]) (dC (.str (PySem.Str.ofString "world"))))) (oRet (dC (.bool false))) oNext)
  (oSeq (oSet 6 (dL (dArgs [(dApp d__law_refusal [(dVar 5), (dVar 1), (dVar 4), (dVar 2), (dC .none)]), (dApp d__law_refusal [(dVar 5), (dVar 1), (dVar 2), (dVar 4), (dC .none)])])))
  (oIf (dTst (dBin pNe (dVar 6) (dL (dArgs [(dC (.str (PySem.Str.ofString "stand"))), (dC (.str (PySem.Str.ofString "stand")))])))) (oRet (dC (.bool false))) oNext)))
def law_s5 : En → Out := (oFor [5, 6] (dApp pRng1 [(dC (.int 10))]) (bName 5)
  law_b1)
def law_s6 : En → Out := (oSet 7 (dBin pIx (dL (dArgs [(dC (.int 13)), (dUn pNeg (dC (.int 1))), (dC .none), (dC (.bool true)), (dC (.str (PySem.Str.ofString "1")))])) (dBin pMod (dApp d__law_cell [(dVar 0), (dC (.int 7))]) (dC (.int 5)))))
def law_s7 : En → Out := (oAsg (dTup [(dBin pTimes (dC (.str (PySem.Str.ofString "o"))) (dBin pIx (dVar 1) (dC (.int 0)))), (dBin pTimes (dC (.str (PySem.Str.ofString "."))) (dBin pIx (dVar 1) (dC (.int 0))))]) (bAny 2 (bCons (bName 8) (bCons (bName 9) bNil))))
def law_s8 : En → Out := (oIf (dOr (dTst (dBin pNe (dApp d__law_refusal [(dC (.int 2)), (dVar 1), (dVar 2), (dVar 2), (dVar 7)]) (dC (.str (PySem.Str.ofString "count"))))) (dTst (dBin pNe (dApp d_ahead [(dVar 1), (dVar 8), (dVar 8), (dC (.int 0))]) (dL (dArgs [(dVar 8)]))))) (oRet (dC (.bool false))) oNext)
def law_s9 : En → Out := (oIf (dTst (dBin pNe (dL (dLc [5] (dApp pRng1 [(dC (.int 6))]) (bName 5) dYes (dApp d__law_refusal [(dVar 5), (dVar 1), (dVar 9), (dVar 8), (dC (.int 0))]))) (dL (dRep (dArgs [(dC (.str (PySem.Str.ofString "never")))]) (dC (.int 6)))))) (oRet (dC (.bool false))) oNext)
def law_s10 : En → Out := (oIf (dTst (dBin pNe (dL (dLc [5] (dApp pRng1 [(dC (.int 6))]) (bName 5) dYes (dApp d__law_refusal [(dVar 5), (dVar 1), (dVar 8), (dVar 9), (dC (.int 0))]))) (dL (dRep (dArgs [(dC (.str (PySem.Str.ofString "never")))]) (dC (.int 6)))))) (oRet (dC (.bool false))) oNext)
def law_s11 : En → Out := (oIf (dTst (dBin pNe (dApp d_row_to [(dVar 1), (dVar 8), (dVar 8)]) (dL (dArgs [])))) (oRet (dC (.bool false))) oNext)
def law_s12 : En → Out := (oIf (dTst (dBin pNe (dApp d_how_many [(dVar 1), (dVar 9), (dVar 9)]) (dC (.int 1)))) (oRet (dC (.bool false))) oNext)
def law_s13 : En → Out := (oRet (dBin pEq (dApp d_last [(dVar 1), (dVar 8), (dVar 8)]) (dL (dArgs []))))
def o_law : En → Out := (oSeq law_s1
  (oSeq law_s2
  (oSeq law_s3
  (oSeq law_s4
  (oSeq law_s5
  (oSeq law_s6
  (oSeq law_s7
  (oSeq law_s8
  (oSeq law_s9
  (oSeq law_s10
  (oSeq law_s11
  (oSeq law_s12
  law_s13))))))))))))
def d_law : List D → R (D) := dDef 10 o_law
end L2.Dn


set_option Elab.async false
set_option linter.all false
set_option maxRecDepth 100000
set_option maxHeartbeats 2000000
namespace L2.Dn
open PySem PySem.Spec PyProof.Rows
@[simp] theorem ap_dC (d : D) (ρ : En) : dC d ρ = (.val d) := rfl
@[simp] theorem ap_dBin (p : D → D → R D) (a b : En → R D) (ρ : En) : dBin p a b ρ = (a ρ >>= fun x => b ρ >>= fun y => p x y) := rfl
@[simp] theorem ap_dUn (p : D → R D) (a : En → R D) (ρ : En) : dUn p a ρ = (a ρ >>= p) := rfl
@[simp] theorem ap_dTup (ds : List (En → R D)) (ρ : En) : dTup ds ρ = (dArgs ds ρ >>= fun xs => .val (.tuple xs)) := rfl
@[simp] theorem ap_dL (d : En → R (List D)) (ρ : En) : dL d ρ = (d ρ >>= fun xs => .val (.list xs)) := rfl
@[simp] theorem ap_dTst (d : En → R D) (ρ : En) : dTst d ρ = (d ρ >>= asB) := rfl
@[simp] theorem ap_dTru (d : En → R D) (ρ : En) : dTru d ρ = (d ρ >>= truth) := rfl
@[simp] theorem ap_dNot (d : En → R Bool) (ρ : En) : dNot d ρ = (d ρ >>= fun b => .val (!b)) := rfl
@[simp] theorem ap_dNotV (a : En → R D) (ρ : En) : dNotV a ρ = (a ρ >>= fun x => asB x >>= fun k => .val (.bool (!k))) := rfl
@[simp] theorem ap_dNotT (a : En → R D) (ρ : En) : dNotT a ρ = (a ρ >>= truth >>= fun k => .val (.bool (!k))) := rfl
@[simp] theorem ap_dNoP (ρ : En) : dNoP  ρ = (.val none) := rfl
@[simp] theorem ap_dP (d : En → R D) (ρ : En) : dP d ρ = (d ρ >>= fun x => asI x >>= fun i => .val (some i)) := rfl
@[simp] theorem ap_oPre (f : En → En) (a : En → Out) (ρ : En) : oPre f a ρ = (a (f ρ)) := rfl
@[simp] theorem ap_oIf (c : En → R Bool) (a b : En → Out) (ρ : En) : oIf c a b ρ = (toO (c ρ) ρ fun k => if k then a ρ else b ρ) := rfl
@[simp] theorem ap_oRet (d : En → R D) (ρ : En) : oRet d ρ = (toO (d ρ) ρ .rt) := rfl
@[simp] theorem ap_oDrop (d : En → R D) (ρ : En) : oDrop d ρ = (toO (d ρ) ρ fun _ => .nx ρ) := rfl
@[simp] theorem ap_oSet (i : Nat) (d : En → R D) (ρ : En) : oSet i d ρ = (toO (d ρ) ρ fun x => .nx (ρ.set i (.fz x))) := rfl
@[simp] theorem ap_oSetL (i : Nat) (d : En → R (List D)) (ρ : En) : oSetL i d ρ = (toO (d ρ) ρ fun x => .nx (ρ.set i (.ol x))) := rfl
@[simp] theorem ap_oRaise (c : Ex) (ρ : En) : oRaise c ρ = (.xc c ρ) := rfl
@[simp] theorem ap_dWk (f : D → R (List D)) (d : En → R D) (ρ : En) : dWk f d ρ = (d ρ >>= f) := rfl
@[simp] theorem ap_dApp {α : Type} (p : List D → R α) (ds : List (En → R D)) (ρ : En) : dApp p ds ρ = (dArgs ds ρ >>= p) := rfl
@[simp] theorem ap_dBm (ty : D → Bool) (p : D → List D → R D) (a : En → R D) (ds : List (En → R D)) (ρ : En) : dBm ty p a ds ρ = (a ρ >>= fun x => if ty x then dArgs ds ρ >>= fun xs => p x xs else .stk) := rfl
@[simp] theorem ap_dRep (a : En → R (List D)) (b : En → R D) (ρ : En) : dRep a b ρ = (a ρ >>= fun xs => b ρ >>= fun y => pRepL xs y) := rfl
@[simp] theorem ap_dSort (a : En → R D) (ρ : En) : dSort a ρ = (a ρ >>= fun x => asL x >>= sortD) := rfl
@[simp] theorem ap_dSortT (a : En → R D) (ρ : En) : dSortT a ρ = (a ρ >>= fun x => asT x >>= fun ds => match asInts ds with
  | some ns => .val ((srtI ns).map .int)
  | none => .stk) := rfl
@[simp] theorem ap_dSetSort (a : En → R D) (ρ : En) : dSetSort a ρ = (a ρ >>= fun x => asL x >>= setSortD) := rfl
@[simp] theorem ap_dLend (is : List Nat) (d : En → R D) (ρ : En) : dLend is d ρ = (d (lend is ρ) >>= flatR) := rfl
@[simp] theorem ap_dLendT (is : List Nat) (d : En → R Bool) (ρ : En) : dLendT is d ρ = (d (lend is ρ)) := rfl
@[simp] theorem ap_dSl (a : En → R D) (lo hi : En → R (Option Int)) (ρ : En) : dSl a lo hi ρ = (a ρ >>= fun x => lo ρ >>= fun l => hi ρ >>= fun h => pSl x l h) := rfl
@[simp] theorem ap_dIsi (T : String) (a : En → R D) (ρ : En) : dIsi T a ρ = (a ρ >>= fun x => .val (.bool (isiD T x))) := rfl
@[simp] theorem ap_dChain (p p' : D → D → R D) (a b c : En → R D) (ρ : En) : dChain p p' a b c ρ = (a ρ >>= fun x => b ρ >>= fun y => p x y >>= fun z => asB z >>= fun k => if k then c ρ >>= fun w => p' y w else .val (.bool false)) := rfl
@[simp] theorem ap_dAnd (a b : En → R Bool) (ρ : En) : dAnd a b ρ = (a ρ >>= fun x => if x then b ρ else .val false) := rfl
@[simp] theorem ap_dOr (a b : En → R Bool) (ρ : En) : dOr a b ρ = (a ρ >>= fun x => if x then .val true else b ρ) := rfl
@[simp] theorem ap_dAndV (a b : En → R D) (ρ : En) : dAndV a b ρ = (a ρ >>= fun x => asB x >>= fun k => if k then b ρ else .val (.bool false)) := rfl
@[simp] theorem ap_dOrV (a b : En → R D) (ρ : En) : dOrV a b ρ = (a ρ >>= fun x => asB x >>= fun k => if k then .val (.bool true) else b ρ) := rfl
@[simp] theorem ap_dIf {α : Type} (c : En → R Bool) (a b : En → R α) (ρ : En) : dIf c a b ρ = (c ρ >>= fun k => if k then a ρ else b ρ) := rfl
@[simp] theorem ap_dYes (ρ : En) : dYes  ρ = (.val true) := rfl
@[simp] theorem ap_oAug (i : Nat) (p : D → D → R D) (d : En → R D) (ρ : En) : oAug i p d ρ = (toO (dVar i ρ) ρ fun x => toO (d ρ) ρ fun y => toO (p x y) ρ fun z => .nx (ρ.set i (.fz z))) := rfl
@[simp] theorem ap_oFor (wp : List Nat) (di : En → R (List D)) (b : D → En → Option En) (body : En → Out) (ρ : En) : oFor wp di b body ρ = (toO (di ρ) ρ fun ds => oTurns b wp body ds ρ) := rfl
@[simp] theorem ap_dArgs_nil (ρ : En) : dArgs [] ρ = .val [] := rfl
@[simp] theorem ap_dArgs_cons (a : En → R D) (r : List (En → R D)) (ρ : En) : dArgs (a :: r) ρ = (a ρ >>= fun x => dArgs r ρ >>= fun xs => .val (x :: xs)) := rfl
@[simp] theorem ap_dLc (vs : List Nat) (di : En → R (List D)) (b : D → En → Option En) (c : En → R Bool) (e : En → R D) (ρ : En) : dLc vs di b c e ρ = (di ρ >>= fun ds => if noOwn ρ vs then lcTurns b c e ds (wipeE ρ vs) else .stk) := rfl
def lenSetD (ds : List D) : R D := match asInts ds with
  | some ns => if ns.length < 64 then .val (.int (ns.eraseDups.length : Nat)) else .stk
  | none => .stk
@[simp] theorem ap_dLenSet (a : En → R D) (ρ : En) : dLenSet a ρ = (a ρ >>= fun x => asT x >>= lenSetD) := rfl
@[simp] theorem ap_bName (i : Nat) (d : D) (ρ : En) : bName i d ρ = some (ρ.set i (.fz d)) := rfl
@[simp] theorem ap_bNil (ρ : En) : bNil [] ρ = some ρ := rfl
@[simp] theorem ap_bCons (a : D → En → Option En) (r : List D → En → Option En) (d : D) (ds : List D) (ρ : En) : bCons a r (d :: ds) ρ = (a d ρ).bind (r ds) := rfl
@[simp] theorem ap_dDef (N : Nat) (o : En → Out) (ds : List D) : dDef N o ds = fin (o (ent N ds)) := rfl
@[simp] theorem ap_dDefK (N : Nat) (o : En → Out) (ds : List D) : dDefK N o ds = finK (o (ent N ds)) := rfl
@[simp] theorem oNext_eq (ρ : En) : oNext ρ = .nx ρ := rfl
@[simp] theorem oBreak_eq (ρ : En) : oBreak ρ = .bk ρ := rfl
@[simp] theorem oCont_eq (ρ : En) : oCont ρ = .ct ρ := rfl
@[simp] theorem fgt_nil (ρ : En) : fgt [] ρ = ρ := rfl
@[simp] theorem fgt_cons (i : Nat) (is : List Nat) (ρ : En) : fgt (i :: is) ρ = fgt is (ρ.set i .un) := rfl
def slD : Option Sl → R D
  | some (.fz d) => .val d
  | _ => .stk
@[simp] theorem dVar_eq (i : Nat) (ρ : En) : dVar i ρ = slD ρ[i]? := by
  unfold dVar slD
  cases ρ[i]? with
  | none => rfl
  | some s => cases s <;> rfl
@[simp] theorem slD_fz (d : D) : slD (some (.fz d)) = .val d := rfl
def thenO (o : Out) (b : En → Out) : Out := match o with
  | .nx ρ' => b ρ'
  | o => o
@[simp] theorem oSeq_eq (a b : En → Out) (ρ : En) : oSeq a b ρ = thenO (a ρ) b := rfl
@[simp] theorem thenO_nx (ρ : En) (b : En → Out) : thenO (.nx ρ) b = b ρ := rfl
@[simp] theorem thenO_rt (d : D) (b : En → Out) : thenO (.rt d) b = .rt d := rfl
@[simp] theorem thenO_rd (d : List (Key × D)) (b : En → Out) : thenO (.rd d) b = .rd d := rfl
@[simp] theorem thenO_xc (c : Ex) (ρ : En) (b : En → Out) : thenO (.xc c ρ) b = .xc c ρ := rfl
@[simp] theorem thenO_bk (ρ : En) (b : En → Out) : thenO (.bk ρ) b = .bk ρ := rfl
@[simp] theorem thenO_ct (ρ : En) (b : En → Out) : thenO (.ct ρ) b = .ct ρ := rfl
@[simp] theorem toO_val_eq {α : Type} (a : α) (ρ : En) (f : α → Out) : toO (.val a) ρ f = f a := rfl
@[simp] theorem toO_exc {α : Type} (c : Ex) (ρ : En) (f : α → Out) : toO (R.exc c : R α) ρ f = .xc c ρ := rfl
@[simp] theorem fin_nx (ρ : En) : fin (.nx ρ) = .val .none := rfl
@[simp] theorem fin_rt (d : D) : fin (.rt d) = .val d := rfl
@[simp] theorem fin_xc (c : Ex) (ρ : En) : fin (.xc c ρ) = .exc c := rfl
@[simp] theorem finK_rd (d : List (Key × D)) : finK (.rd d) = .val d := rfl
@[simp] theorem finK_xc (c : Ex) (ρ : En) : finK (.xc c ρ) = .exc c := rfl
@[simp] theorem asB_bool (b : Bool) : asB (.bool b) = .val b := rfl
@[simp] theorem asI_int (b : Int) : asI (.int b) = .val b := rfl
@[simp] theorem asL_list (b : List D) : asL (.list b) = .val b := rfl
@[simp] theorem asT_tuple (b : List D) : asT (.tuple b) = .val b := rfl
@[simp] theorem asK_int (b : Int) : asK (.int b) = .val (.inl b) := rfl
@[simp] theorem asK_str (b : Str) : asK (.str b) = .val (.inr b) := rfl
@[simp] theorem truth_bool (b : Bool) : truth (.bool b) = .val b := rfl
@[simp] theorem truth_int (b : Int) : truth (.int b) = .val (b != 0) := rfl
@[simp] theorem truth_none : truth .none = .val false := rfl
@[simp] theorem truth_list (b : List D) : truth (.list b) = .val (!b.isEmpty) := rfl
@[simp] theorem truth_tuple (b : List D) : truth (.tuple b) = .val (!b.isEmpty) := rfl
@[simp] theorem anyL_list (b : List D) : anyL (.list b) = .val b := rfl
@[simp] theorem anyL_tuple (b : List D) : anyL (.tuple b) = .val b := rfl
@[simp] theorem isS_str (b : Str) : isS (.str b) = true := rfl
@[simp] theorem isL_list (b : List D) : isL (.list b) = true := rfl
@[simp] theorem isi_tuple (b : List D) (T : String) : isiD T (.tuple b) = (T == "tuple") := rfl
@[simp] theorem isi_list (b : List D) (T : String) : isiD T (.list b) = (T == "list") := rfl
@[simp] theorem isi_str (b : Str) (T : String) : isiD T (.str b) = (T == "str") := rfl
@[simp] theorem isi_int (b : Int) (T : String) : isiD T (.int b) = (T == "int") := rfl
@[simp] theorem isi_bool (b : Bool) (T : String) : isiD T (.bool b) = (T == "int" || T == "bool") := rfl
@[simp] theorem isi_none (T : String) : isiD T .none = false := rfl
def optR {α : Type} : Option α → R α
  | some a => .val a
  | none => .stk
@[simp] theorem optR_some {α : Type} (a : α) : optR (some a) = .val a := rfl
@[simp] theorem pIx_list (ds : List D) (i : Int) : pIx (.list ds) (.int i) = optR (L2.atI ds i) := by
  show (match L2.atI ds i with | some d => R.val d | none => .stk) = _
  cases L2.atI ds i <;> rfl
@[simp] theorem pIx_tuple (ds : List D) (i : Int) : pIx (.tuple ds) (.int i) = optR (L2.atI ds i) := by
  show (match L2.atI ds i with | some d => R.val d | none => .stk) = _
  cases L2.atI ds i <;> rfl
@[simp] theorem atI_nat' {α : Type} (xs : List α) (i : Nat) : L2.atI xs (i : Int) = xs[i]? := by
  unfold L2.atI ixN
  rw [if_pos (Int.natCast_nonneg i)]
  by_cases h : (i : Int) < xs.length
  · rw [if_pos h]; rfl
  · rw [if_neg h, List.getElem?_eq_none (by omega)]; rfl
@[simp] theorem atI_0 {α : Type} (xs : List α) : L2.atI xs 0 = xs[0]? := atI_nat' xs 0
@[simp] theorem atI_1 {α : Type} (xs : List α) : L2.atI xs 1 = xs[1]? := atI_nat' xs 1
@[simp] theorem atI_2 {α : Type} (xs : List α) : L2.atI xs 2 = xs[2]? := atI_nat' xs 2
theorem atI_of {α : Type} {xs : List α} {i : Int} {x : α} (h0 : 0 ≤ i) (h : xs[i.toNat]? = some x) : L2.atI xs i = some x := by
  have q := atI_nat' xs i.toNat
  rw [Int.toNat_of_nonneg h0] at q
  rw [q, h]
@[simp] theorem pLe_int (i j : Int) : pLe (.int i) (.int j) = .val (.bool (decide (i ≤ j))) := rfl
@[simp] theorem pLt_int (i j : Int) : pLt (.int i) (.int j) = .val (.bool (decide (i < j))) := rfl
@[simp] theorem pGt_int (i j : Int) : pGt (.int i) (.int j) = .val (.bool (decide (j < i))) := rfl
@[simp] theorem pGe_int (i j : Int) : pGe (.int i) (.int j) = .val (.bool (decide (j ≤ i))) := rfl
@[simp] theorem pSub_int (i j : Int) : pSub (.int i) (.int j) = .val (.int (i - j)) := rfl
@[simp] theorem pPlus_int (i j : Int) : pPlus (.int i) (.int j) = .val (.int (i + j)) := rfl
@[simp] theorem pNeg_int (i : Int) : pNeg (.int i) = .val (.int (-i)) := rfl
@[simp] theorem pXor_int (i j : Int) : pXor (.int i) (.int j) = .val (.int (Builtin.bitXor i j)) := rfl
@[simp] theorem pEq_int (i j : Int) : pEq (.int i) (.int j) = .val (.bool (decide (i = j))) := by
  simp [pEq, SeqAt.shaped, PyData.canLay0, PyData.depth, PyData.eqv]
  by_cases h : i = j <;> simp [h]
@[simp] theorem pNe_int (i j : Int) : pNe (.int i) (.int j) = .val (.bool (!decide (i = j))) := by
  simp [pNe, SeqAt.shaped, PyData.canLay0, PyData.depth, PyData.eqv]
  by_cases h : i = j <;> simp [h]
@[simp] theorem pLen_list (ds : List D) : pLen [.list ds] = .val (.int (ds.length : Nat)) := rfl
@[simp] theorem pLen_tuple (ds : List D) : pLen [.tuple ds] = .val (.int (ds.length : Nat)) := rfl
@[simp] theorem pListOf_list (ds : List D) : pListOf [.list ds] = .val ds := rfl
@[simp] theorem pListOf_tuple (ds : List D) : pListOf [.tuple ds] = .val ds := rfl
@[simp] theorem pTupOf_list (ds : List D) : pTupOf [.list ds] = .val (.tuple ds) := rfl
@[simp] theorem pTupOf_tuple (ds : List D) : pTupOf [.tuple ds] = .val (.tuple ds) := rfl
theorem mod_eq {i j : Int} (h : 0 < j) : pMod (.int i) (.int j) = .val (.int (i % j)) := by
  show (if decide (0 < j) then R.val (PyData.int (i % j)) else .stk) = _
  rw [decide_eq_true h]; rfl
theorem div_eq {i j : Int} (h : 0 < j) (h2 : j < 1073741824) : pDiv (.int i) (.int j) = .val (.int (i / j)) := by
  show (if decide (0 < j) && decide (j < 1073741824) then R.val (PyData.int (i / j)) else .stk) = _
  rw [decide_eq_true h, decide_eq_true h2]; rfl
theorem pow_eq {i j : Int} (h : 0 ≤ j) (h2 : j ≤ 1000) (h3 : i.natAbs < 18446744073709551616) : pPow (.int i) (.int j) = .val (.int (i ^ j.toNat)) := by
  show (if decide (0 ≤ j) && decide (j ≤ 1000) && decide (i.natAbs < 18446744073709551616) then R.val (PyData.int (i ^ j.toNat)) else .stk) = _
  rw [decide_eq_true h, decide_eq_true h2, decide_eq_true h3]; rfl
theorem mul_eqL {i j : Int} (h : -18446744073709551616 < i) (h2 : i < 18446744073709551616) : pTimes (.int i) (.int j) = .val (.int (i * j)) := by
  show (if cMul i j then R.val (PyData.int (i * j)) else .stk) = _
  unfold cMul
  rw [decide_eq_true h, decide_eq_true h2]; rfl
theorem mul_eqR {i j : Int} (h : -18446744073709551616 < j) (h2 : j < 18446744073709551616) : pTimes (.int i) (.int j) = .val (.int (i * j)) := by
  show (if cMul i j then R.val (PyData.int (i * j)) else .stk) = _
  unfold cMul
  rw [decide_eq_true h, decide_eq_true h2, Bool.or_comm]; rfl
@[simp] theorem ap_ent (N : Nat) (ds : List D) : ent N ds = ds.map Sl.fz ++ List.replicate (N - ds.length) Sl.un := rfl
def optO : Option En → Out
  | some ρ => .nx ρ
  | none => .stk
@[simp] theorem optO_some (ρ : En) : optO (some ρ) = .nx ρ := rfl
@[simp] theorem oAsg_eq (d : En → R D) (b : D → En → Option En) (ρ : En) : oAsg d b ρ = toO (d ρ) ρ fun x => optO (b x ρ) := by
  unfold oAsg
  congr 1
def afterO (o : Out) (wp : List Nat) (k : En → Out) : Out := match o with
  | .nx ρ => k (fgt wp ρ)
  | .ct ρ => k (fgt wp ρ)
  | .bk ρ => .nx ρ
  | o => o
@[simp] theorem afterO_nx (ρ : En) (wp : List Nat) (k : En → Out) : afterO (.nx ρ) wp k = k (fgt wp ρ) := rfl
@[simp] theorem afterO_ct (ρ : En) (wp : List Nat) (k : En → Out) : afterO (.ct ρ) wp k = k (fgt wp ρ) := rfl
@[simp] theorem afterO_bk (ρ : En) (wp : List Nat) (k : En → Out) : afterO (.bk ρ) wp k = .nx ρ := rfl
@[simp] theorem afterO_rt (d : D) (wp : List Nat) (k : En → Out) : afterO (.rt d) wp k = .rt d := rfl
@[simp] theorem afterO_xc (c : Ex) (ρ : En) (wp : List Nat) (k : En → Out) : afterO (.xc c ρ) wp k = .xc c ρ := rfl
def turnO (o : Option En) (body : En → Out) (wp : List Nat) (k : En → Out) : Out := match o with
  | some ρ => afterO (body ρ) wp k
  | none => .stk
@[simp] theorem turnO_some (ρ : En) (body : En → Out) (wp : List Nat) (k : En → Out) : turnO (some ρ) body wp k = afterO (body ρ) wp k := rfl
@[simp] theorem oTurns_nil (b : D → En → Option En) (wp : List Nat) (body : En → Out) (ρ : En) : oTurns b wp body [] ρ = .nx ρ := rfl
@[simp] theorem oTurns_cons (b : D → En → Option En) (wp : List Nat) (body : En → Out) (x : D) (r : List D) (ρ : En) : oTurns b wp body (x :: r) ρ = turnO (b x ρ) body wp (oTurns b wp body r) := by
  show (match b x ρ with
    | none => Out.stk
    | some ρ1 => match body ρ1 with
      | .nx ρ2 => oTurns b wp body r (fgt wp ρ2)
      | .ct ρ2 => oTurns b wp body r (fgt wp ρ2)
      | .bk ρ2 => .nx ρ2
      | o => o) = _
  cases e : b x ρ with
  | none => rfl
  | some ρ1 =>
    dsimp only
    rw [turnO_some]
    unfold afterO
    cases body ρ1 <;> rfl
theorem ixN_nat (n k : Nat) : ixN n (k : Int) = if k < n then some k else none := by
  unfold ixN
  rw [if_pos (Int.natCast_nonneg k)]
  by_cases h : k < n
  · rw [if_pos h, if_pos (by omega)]; rfl
  · rw [if_neg h, if_neg (by omega)]
def subO (s : Option Sl) (k : R D) (i : Nat) (d : D) (ρ : En) : Option En := match s, k with
  | some (.ol ds), .val (.int k) => (ixN ds.length k).map fun j => ρ.set i (.ol (ds.set j d))
  | _, _ => none
@[simp] theorem bSub_eq (i : Nat) (di : En → R D) (d : D) (ρ : En) : bSub i di d ρ = subO ρ[i]? (di ρ) i d ρ := by
  unfold bSub subO
  cases ρ[i]? with
  | none => rfl
  | some s =>
    cases s with
    | ol ds =>
      cases di ρ with
      | val x =>
        cases x with
        | int k =>
          dsimp only
          cases ixN ds.length k <;> rfl
        | _ => rfl
      | exc c => rfl
      | stk => rfl
    | _ => rfl
@[simp] theorem subO_ol (ds : List D) (k : Int) (i : Nat) (d : D) (ρ : En) : subO (some (.ol ds)) (.val (.int k)) i d ρ = (ixN ds.length k).map fun j => ρ.set i (.ol (ds.set j d)) := rfl
def frzSl : Sl → Sl
  | .ol ds => .fz (.list ds)
  | s => s
@[simp] theorem frzSl_ol (ds : List D) : frzSl (.ol ds) = .fz (.list ds) := rfl
@[simp] theorem frzSl_fz (d : D) : frzSl (.fz d) = .fz d := rfl
theorem frz_eq (i : Nat) (ρ : En) (s : Sl) (h : ρ[i]? = some s) : frz i ρ = ρ.set i (frzSl s) := by
  unfold frz
  rw [h]
  have same : ρ.set i s = ρ := by
    obtain ⟨hi, e⟩ := List.getElem?_eq_some_iff.mp h
    rw [← e]; exact List.set_getElem_self hi
  cases s <;> first | rfl | exact same.symm
@[simp] theorem frzs_nil (ρ : En) : frzs [] ρ = ρ := rfl
@[simp] theorem frzs_cons (i : Nat) (is : List Nat) (ρ : En) : frzs (i :: is) ρ = frzs is (frz i ρ) := rfl
def appO (s : Option Sl) (d : En → R D) (i : Nat) (ρ : En) : Out := match s with
  | some (.ol ds) => toO (d ρ) ρ fun x => if ds.length < M then .nx (ρ.set i (.ol (ds ++ [x]))) else .stk
  | _ => .stk
@[simp] theorem oApp_eq (i : Nat) (d : En → R D) (ρ : En) : oApp i d ρ = appO ρ[i]? d i ρ := rfl
@[simp] theorem appO_ol (ds : List D) (d : En → R D) (i : Nat) (ρ : En) : appO (some (.ol ds)) d i ρ = toO (d ρ) ρ fun x => if ds.length < M then .nx (ρ.set i (.ol (ds ++ [x]))) else .stk := rfl
theorem okR_of {i : Int} (h1 : -1000000 ≤ i) (h2 : i ≤ 1000000) : okR i = true := by
  unfold okR
  rw [decide_eq_true h1, decide_eq_true h2]
  rfl
@[simp] theorem R.nox_val {α : Type} (a : α) : (R.val a).nox = R.val a := rfl
/-- a comprehension, turn by turn -/
theorem lc_filter {b : D → En → Option En} {c : En → R Bool} {e : En → R D} {ρ : En} (g : D → En) (p : D → Bool) (f : D → D) : ∀ (xs : List D), (∀ x ∈ xs, b x ρ = some (g x) ∧ c (g x) = .val (p x) ∧ (p x = true → e (g x) = .val (f x))) →
    lcTurns b c e xs ρ = .val ((xs.filter p).map f)
  | [], _ => rfl
  | x :: r, h => by
    have ih := lc_filter (b := b) (c := c) (e := e) g p f r fun y hy => h y (List.mem_cons_of_mem _ hy)
    obtain ⟨h1, h2, h3⟩ := h x List.mem_cons_self
    unfold lcTurns
    rw [h1]
    dsimp only
    rw [h2]
    cases hp : p x with
    | true =>
      rw [List.filter_cons_of_pos hp, List.map_cons, h3 hp, ih]
      rfl
    | false =>
      rw [List.filter_cons_of_neg (by rw [hp]; exact Bool.false_ne_true)]
      rw [ih]
      rfl
/-- a comprehension over rows of a type: all taken -/
theorem lc_map {α : Type} {b : D → En → Option En} {c : En → R Bool} {e : En → R D} {ρ : En} (en : α → D) (g : α → En) (f : α → D) : ∀ (xs : List α), (∀ x ∈ xs, b (en x) ρ = some (g x) ∧ c (g x) = .val true ∧ e (g x) = .val (f x)) →
    lcTurns b c e (xs.map en) ρ = .val (xs.map f)
  | [], _ => rfl
  | x :: r, h => by
    have ih := lc_map (b := b) (c := c) (e := e) en g f r fun y hy => h y (List.mem_cons_of_mem _ hy)
    obtain ⟨h1, h2, h3⟩ := h x List.mem_cons_self
    rw [List.map_cons]
    unfold lcTurns
    rw [h1]
    dsimp only
    rw [h2, h3, ih]
    rfl
/-- .. some taken -/
theorem lc_some {α : Type} {b : D → En → Option En} {c : En → R Bool} {e : En → R D} {ρ : En} (en : α → D) (g : α → En) (p : α → Bool) (f : α → D) : ∀ (xs : List α), (∀ x ∈ xs, b (en x) ρ = some (g x) ∧ c (g x) = .val (p x) ∧ (p x = true → e (g x) = .val (f x))) →
    lcTurns b c e (xs.map en) ρ = .val ((xs.filter p).map f)
  | [], _ => rfl
  | x :: r, h => by
    have ih := lc_some (b := b) (c := c) (e := e) en g p f r fun y hy => h y (List.mem_cons_of_mem _ hy)
    obtain ⟨h1, h2, h3⟩ := h x List.mem_cons_self
    rw [List.map_cons]
    unfold lcTurns
    rw [h1]
    dsimp only
    rw [h2]
    cases hp : p x with
    | true =>
      rw [List.filter_cons_of_pos hp, List.map_cons, h3 hp, ih]
      rfl
    | false =>
      rw [List.filter_cons_of_neg (by rw [hp]; exact Bool.false_ne_true)]
      rw [ih]
      rfl
/-- a loop whose state is told by s -/
theorem for_fold {α σ : Type} {b : D → En → Option En} {wp : List Nat} {body : En → Out} (en : α → D) (st : σ → En) (step : σ → α → σ) (I : σ → Prop) : ∀ (xs : List α) (s : σ), I s →
    (∀ x ∈ xs, ∀ s, I s → I (step s x) ∧ ∃ ρ ρ', b (en x) (st s) = some ρ ∧ (body ρ = .nx ρ' ∨ body ρ = .ct ρ') ∧ fgt wp ρ' = st (step s x)) → oTurns b wp body (xs.map en) (st s) = .nx (st (xs.foldl step s))
  | [], s, _, _ => rfl
  | x :: r, s, hI, h => by
    obtain ⟨h1, ρ, ρ', h2, h3, h4⟩ := h x List.mem_cons_self s hI
    have ih := for_fold (b := b) (wp := wp) (body := body) en st step I r (step s x) h1 fun y hy => h y (List.mem_cons_of_mem _ hy)
    rw [List.map_cons]
    unfold oTurns
    rw [h2]
    dsimp only
    rcases h3 with h3 | h3
    · rw [h3]
      dsimp only
      rw [h4, ih]
      rfl
    · rw [h3]
      dsimp only
      rw [h4, ih]
      rfl
/-- a loop that leaves all as it was -/
theorem for_same {α : Type} {b : D → En → Option En} {wp : List Nat} {body : En → Out} (en : α → D) (ρ0 : En) (xs : List α) (h : ∀ x ∈ xs, ∃ ρ ρ', b (en x) ρ0 = some ρ ∧ (body ρ = .nx ρ' ∨ body ρ = .ct ρ') ∧ fgt wp ρ' = ρ0) : oTurns b wp body (xs.map en) ρ0 = .nx ρ0 := by
  have q := for_fold (b := b) (wp := wp) (body := body) en (fun _ : Unit => ρ0) (fun s _ => s) (fun _ => True) xs () trivial fun x hx s _ => ⟨trivial, h x hx⟩
  exact q

/-- a loop that gathers in a list of its own -/
theorem for_gather {α : Type} {b : D → En → Option En} {wp : List Nat} {body : En → Out} (en : α → D) (st : List D → En) (p : α → Bool) (f : α → D) : ∀ (xs : List α) (acc : List D), acc.length + xs.length ≤ M →
    (∀ x ∈ xs, ∀ acc : List D, acc.length < M → ∃ ρ ρ', b (en x) (st acc) = some ρ ∧ (body ρ = .nx ρ' ∨ body ρ = .ct ρ') ∧ fgt wp ρ' = st (if p x then acc ++ [f x] else acc)) →
    oTurns b wp body (xs.map en) (st acc) = .nx (st (acc ++ (xs.filter p).map f))
  | [], acc, _, _ => by simp
  | x :: r, acc, hl, h => by
    rw [List.length_cons] at hl
    obtain ⟨ρ, ρ', h2, h3, h4⟩ := h x List.mem_cons_self acc (by omega)
    have e : oTurns b wp body ((x :: r).map en) (st acc) = oTurns b wp body (r.map en) (fgt wp ρ') := by
      rw [List.map_cons, oTurns_cons, h2, turnO_some]
      rcases h3 with h3 | h3 <;> rw [h3] <;> rfl
    rw [e, h4]
    cases hp : p x with
    | true =>
      rw [if_pos rfl, for_gather en st p f r (acc ++ [f x]) (by rw [List.length_append, List.length_singleton]; omega) fun y hy => h y (List.mem_cons_of_mem _ hy), List.filter_cons_of_pos hp, List.map_cons, List.append_assoc]
      rfl
    | false =>
      rw [if_neg Bool.false_ne_true, for_gather en st p f r acc (by omega) fun y hy => h y (List.mem_cons_of_mem _ hy), List.filter_cons_of_neg (by rw [hp]; exact Bool.false_ne_true)]

mutual
/-- data of whole numbers, texts, nothing, lists and tuples, no deeper than n -/
def okD : Nat → D → Bool
  | _, .none => true
  | _, .int _ => true
  | _, .str x => PyData.strOk x
  | n + 1, .list xs => okDs n xs
  | n + 1, .tuple xs => okDs n xs
  | _, _ => false
def okDs : Nat → List D → Bool
  | _, [] => true
  | n, x :: xs => okD n x && okDs n xs
end
mutual
theorem okD_lay : ∀ (n : Nat) (d : D), okD n d = true → d.canLay0 = true ∧ d.depth ≤ n
  | _, .none, _ => ⟨rfl, Nat.zero_le _⟩
  | _, .int _, _ => ⟨rfl, Nat.zero_le _⟩
  | _, .str x, h => by
    have h' : PyData.strOk x = true := by simpa [okD] using h
    exact ⟨by simpa [PyData.canLay0] using h', Nat.zero_le _⟩
  | n + 1, .list xs, h => by
    have q := okDs_lay n xs (by simpa [okD] using h)
    exact ⟨by simpa [PyData.canLay0] using q.1, by simpa [PyData.depth] using q.2⟩
  | n + 1, .tuple xs, h => by
    have q := okDs_lay n xs (by simpa [okD] using h)
    exact ⟨by simpa [PyData.canLay0] using q.1, by simpa [PyData.depth] using q.2⟩
  | 0, .list _, h => by simp [okD] at h
  | 0, .tuple _, h => by simp [okD] at h
  | _, .bool _, h => by simp [okD] at h
  | _, .dict _, h => by simp [okD] at h
theorem okDs_lay : ∀ (n : Nat) (ds : List D), okDs n ds = true → PyData.canLayAll0 ds = true ∧ PyData.depthAll ds ≤ n
  | _, [], _ => ⟨rfl, Nat.zero_le _⟩
  | n, x :: xs, h => by
    have h' : okD n x = true ∧ okDs n xs = true := by simpa [okDs] using h
    have q1 := okD_lay n x h'.1
    have q2 := okDs_lay n xs h'.2
    exact ⟨by simp [PyData.canLayAll0, q1.1, q2.1], by simp only [PyData.depthAll]; omega⟩
end
theorem okD_shaped {n : Nat} {d : D} (h : okD n d = true) (hn : n ≤ 64 := by decide) : SeqAt.shaped d = true := by
  have q := okD_lay n d h
  unfold SeqAt.shaped
  rw [q.1, decide_eq_true (Nat.le_trans q.2 hn)]
  rfl
mutual
theorem eqv_iff : ∀ (n m : Nat) (d e : D), okD n d = true → okD m e = true → (PyData.eqv d e = true ↔ d = e)
  | _, _, .none, .none, _, _ => by simp [PyData.eqv]
  | _, _, .int i, .int j, _, _ => by simp [PyData.eqv]
  | _, _, .str x, .str y, _, _ => by simp [PyData.eqv]
  | n + 1, m + 1, .list xs, .list ys, h, k => by
    have q := eqvAll_iff n m xs ys (by simpa [okD] using h) (by simpa [okD] using k)
    simpa [PyData.eqv] using q
  | n + 1, m + 1, .tuple xs, .tuple ys, h, k => by
    have q := eqvAll_iff n m xs ys (by simpa [okD] using h) (by simpa [okD] using k)
    simpa [PyData.eqv] using q
  | 0, _, .list _, _, h, _ => by simp [okD] at h
  | 0, _, .tuple _, _, h, _ => by simp [okD] at h
  | _, 0, _, .list _, _, h => by simp [okD] at h
  | _, 0, _, .tuple _, _, h => by simp [okD] at h
  | _, _, .bool _, _, h, _ => by simp [okD] at h
  | _, _, .dict _, _, h, _ => by simp [okD] at h
  | _, _, _, .bool _, _, h => by simp [okD] at h
  | _, _, _, .dict _, _, h => by simp [okD] at h
  | _, _, .none, .int _, _, _ => by simp [PyData.eqv]
  | _, _, .none, .str _, _, _ => by simp [PyData.eqv]
  | _, _, .none, .list _, _, _ => by simp [PyData.eqv]
  | _, _, .none, .tuple _, _, _ => by simp [PyData.eqv]
  | _, _, .int _, .none, _, _ => by simp [PyData.eqv]
  | _, _, .int _, .str _, _, _ => by simp [PyData.eqv]
  | _, _, .int _, .list _, _, _ => by simp [PyData.eqv]
  | _, _, .int _, .tuple _, _, _ => by simp [PyData.eqv]
  | _, _, .str _, .none, _, _ => by simp [PyData.eqv]
  | _, _, .str _, .int _, _, _ => by simp [PyData.eqv]
  | _, _, .str _, .list _, _, _ => by simp [PyData.eqv]
  | _, _, .str _, .tuple _, _, _ => by simp [PyData.eqv]
  | _, _, .list _, .none, _, _ => by simp [PyData.eqv]
  | _, _, .list _, .int _, _, _ => by simp [PyData.eqv]
  | _, _, .list _, .str _, _, _ => by simp [PyData.eqv]
  | _, _, .list _, .tuple _, _, _ => by simp [PyData.eqv]
  | _, _, .tuple _, .none, _, _ => by simp [PyData.eqv]
  | _, _, .tuple _, .int _, _, _ => by simp [PyData.eqv]
  | _, _, .tuple _, .str _, _, _ => by simp [PyData.eqv]
  | _, _, .tuple _, .list _, _, _ => by simp [PyData.eqv]
theorem eqvAll_iff : ∀ (n m : Nat) (ds es : List D), okDs n ds = true → okDs m es = true → (PyData.eqvAll ds es = true ↔ ds = es)
  | _, _, [], [], _, _ => by simp [PyData.eqvAll]
  | _, _, [], _ :: _, _, _ => by simp [PyData.eqvAll]
  | _, _, _ :: _, [], _, _ => by simp [PyData.eqvAll]
  | n, m, x :: xs, y :: ys, h, k => by
    have h' : okD n x = true ∧ okDs n xs = true := by simpa [okDs] using h
    have k' : okD m y = true ∧ okDs m ys = true := by simpa [okDs] using k
    have q1 := eqv_iff n m x y h'.1 k'.1
    have q2 := eqvAll_iff n m xs ys h'.2 k'.2
    simp [PyData.eqvAll, q1, q2]
end
theorem pEq_ok {n m : Nat} {x y : D} (h : okD n x = true) (k : okD m y = true) (hn : n ≤ 64 := by decide) (hm : m ≤ 64 := by decide) : pEq x y = .val (.bool (PyData.eqv x y)) := by
  unfold pEq
  rw [okD_shaped h hn, okD_shaped k hm]
  rfl
theorem pEq_same {n : Nat} {x : D} (h : okD n x = true) (hn : n ≤ 64 := by decide) : pEq x x = .val (.bool true) := by
  rw [pEq_ok h h hn hn, (eqv_iff n n x x h h).mpr rfl]
theorem pEq_not {n m : Nat} {x y : D} (h : okD n x = true) (k : okD m y = true) (ne : x ≠ y) (hn : n ≤ 64 := by decide) (hm : m ≤ 64 := by decide) : pEq x y = .val (.bool false) := by
  rw [pEq_ok h k hn hm]
  cases e : PyData.eqv x y with
  | false => rfl
  | true => exact absurd ((eqv_iff n m x y h k).mp e) ne
theorem pNe_same {n : Nat} {x : D} (h : okD n x = true) (hn : n ≤ 64 := by decide) : pNe x x = .val (.bool false) := by
  unfold pNe
  rw [okD_shaped h hn, (eqv_iff n n x x h h).mpr rfl]
  rfl
theorem okDs_iff {n : Nat} : ∀ {ds : List D}, okDs n ds = true ↔ ∀ d ∈ ds, okD n d = true
  | [] => by simp [okDs]
  | x :: xs => by simp [okDs, okDs_iff (ds := xs)]
theorem pIn_list {n : Nat} {x : D} {ds : List D} (h : okD n x = true) (k : ∀ d ∈ ds, okD n d = true) (hn : n + 1 ≤ 64 := by decide) (hm : x ∈ ds) : inB x (.list ds) = .val true := by
  have k' : okD (n + 1) (.list ds) = true := by
    show okDs n ds = true
    exact okDs_iff.mpr k
  show (if SeqAt.shaped x && SeqAt.shaped (.list ds) then R.val (ds.any fun z => PyData.eqv z x) else .stk) = _
  rw [okD_shaped h (Nat.le_of_succ_le hn), okD_shaped k' hn]
  show R.val (ds.any fun z => PyData.eqv z x) = _
  congr 1
  exact List.any_eq_true.mpr ⟨x, hm, (eqv_iff n n x x h h).mpr rfl⟩
section
variable {b : D → En → Option En} {wp : List Nat} {body : En → Out} {c : En → R Bool} {e : En → R D} {ρ : En}
def turn1 (b : D → En → Option En) (wp : List Nat) (body : En → Out) (x : D) (ρ : En) : Out := turnO (b x ρ) body wp .ct
theorem turn1_eq (x : D) (ρ : En) : turn1 b wp body x ρ = turnO (b x ρ) body wp .ct := rfl
def nextO (o : Out) (k : En → Out) : Out := match o with
  | .ct ρ => k ρ
  | o => o
@[simp] theorem nextO_ct (ρ : En) (k : En → Out) : nextO (.ct ρ) k = k ρ := rfl
@[simp] theorem nextO_nx (ρ : En) (k : En → Out) : nextO (.nx ρ) k = .nx ρ := rfl
@[simp] theorem nextO_rt (d : D) (k : En → Out) : nextO (.rt d) k = .rt d := rfl
@[simp] theorem nextO_xc (x : Ex) (ρ : En) (k : En → Out) : nextO (.xc x ρ) k = .xc x ρ := rfl
theorem after_next (o : Out) (wp : List Nat) (k : En → Out) : afterO o wp k = nextO (afterO o wp .ct) k := by
  cases o <;> rfl
theorem turns1 (x : D) (r : List D) (ρ : En) : oTurns b wp body (x :: r) ρ = nextO (turn1 b wp body x ρ) (oTurns b wp body r) := by
  rw [oTurns_cons]
  unfold turn1
  cases b x ρ with
  | none => rfl
  | some ρ1 =>
    rw [turnO_some, turnO_some, after_next]
/-- a loop whose state is told by s -/
theorem for_to {α σ : Type} (en : α → D) (st : σ → En) (step : σ → α → σ) (I : σ → Prop) : ∀ (xs : List α) (s : σ), I s →
    (∀ x ∈ xs, ∀ s, I s → I (step s x) ∧ turn1 b wp body (en x) (st s) = .ct (st (step s x))) → oTurns b wp body (xs.map en) (st s) = .nx (st (xs.foldl step s))
  | [], s, _, _ => rfl
  | x :: r, s, hI, h => by
    obtain ⟨h1, h2⟩ := h x List.mem_cons_self s hI
    rw [List.map_cons, turns1, h2, nextO_ct, for_to en st step I r _ h1 fun y hy => h y (List.mem_cons_of_mem _ hy)]
    rfl
/-- .. with ways out -/
theorem for_run {α σ : Type} (en : α → D) (st : σ → En) (step : σ → α → Except Out σ) (I : σ → Prop) : ∀ (xs : List α) (s : σ), I s →
    (∀ x ∈ xs, ∀ s, I s → match step s x with
      | .ok s' => I s' ∧ turn1 b wp body (en x) (st s) = .ct (st s')
      | .error o => turn1 b wp body (en x) (st s) = o ∧ ∀ ρ, o ≠ .ct ρ) → oTurns b wp body (xs.map en) (st s) = match xs.foldlM step s with
      | .ok s' => .nx (st s')
      | .error o => o
  | [], s, _, _ => rfl
  | x :: r, s, hI, h => by
    have q := h x List.mem_cons_self s hI
    rw [List.map_cons, turns1, List.foldlM_cons]
    cases es : step s x with
    | ok s' =>
      rw [es] at q
      dsimp only at q
      rw [q.2, nextO_ct, for_run en st step I r _ q.1 fun y hy => h y (List.mem_cons_of_mem _ hy)]
      rfl
    | error o =>
      rw [es] at q
      dsimp only at q
      rw [q.1]
      show nextO o _ = o
      cases o with
      | ct ρ => exact absurd rfl (q.2 ρ)
      | _ => rfl
/-- a loop that leaves all as it was -/
theorem for_all {α : Type} (en : α → D) (ρ : En) (xs : List α) (h : ∀ x ∈ xs, turn1 b wp body (en x) ρ = .ct ρ) : oTurns b wp body (xs.map en) ρ = .nx ρ :=
  for_to en (fun _ : Unit => ρ) (fun s _ => s) (fun _ => True) xs () trivial fun x hx s _ => ⟨trivial, h x hx⟩
/-- a loop that looks for one -/
theorem for_first {α : Type} (en : α → D) (p : α → Bool) (f : α → Out) (ρ : En) : ∀ (xs : List α), (∀ x ∈ xs, turn1 b wp body (en x) ρ = if p x then f x else .ct ρ) → (∀ x ρ', f x ≠ .ct ρ') →
    oTurns b wp body (xs.map en) ρ = match xs.find? p with
      | some x => f x
      | none => .nx ρ
  | [], _, _ => rfl
  | x :: r, h, hf => by
    rw [List.map_cons, turns1, h x List.mem_cons_self, List.find?_cons]
    cases hp : p x with
    | true =>
      rw [if_pos rfl]
      have q := hf x
      cases ef : f x with
      | ct ρ' => exact absurd ef (q ρ')
      | _ => simp [ef, nextO]
    | false =>
      rw [if_neg Bool.false_ne_true, nextO_ct]
      exact for_first en p f ρ r (fun y hy => h y (List.mem_cons_of_mem _ hy)) hf
/-- a loop that gathers in a list of its own -/
theorem for_put {α : Type} (en : α → D) (st : List D → En) (f : α → List D) (k : Nat) : ∀ (xs : List α) (acc : List D), acc.length + xs.length * k ≤ M → (∀ x ∈ xs, (f x).length ≤ k) →
    (∀ x ∈ xs, ∀ acc : List D, acc.length + k ≤ M → turn1 b wp body (en x) (st acc) = .ct (st (acc ++ f x))) →
    oTurns b wp body (xs.map en) (st acc) = .nx (st (acc ++ xs.flatMap f))
  | [], acc, _, _, _ => by simp
  | x :: r, acc, hl, hk, h => by
    rw [List.length_cons, Nat.add_mul, Nat.one_mul] at hl
    have hx := hk x List.mem_cons_self
    rw [List.map_cons, turns1, h x List.mem_cons_self acc (by omega), nextO_ct, for_put en st f k r (acc ++ f x) (by rw [List.length_append]; omega) (fun y hy => hk y (List.mem_cons_of_mem _ hy)) fun y hy => h y (List.mem_cons_of_mem _ hy), List.flatMap_cons, List.append_assoc]
theorem flatMap_if {α β : Type} (p : α → Bool) (f : α → β) (xs : List α) : (xs.flatMap fun x => if p x then [f x] else []) = (xs.filter p).map f := by
  induction xs with
  | nil => rfl
  | cons x r ih =>
    rw [List.flatMap_cons, ih]
    cases h : p x with
    | true => rw [if_pos rfl, List.filter_cons_of_pos h]; rfl
    | false => rw [if_neg Bool.false_ne_true, List.filter_cons_of_neg (by rw [h]; exact Bool.false_ne_true)]; rfl
/-- .. one or none each turn -/
theorem for_puts {α : Type} (en : α → D) (st : List D → En) (p : α → Bool) (f : α → D) (xs : List α) (acc : List D) (hl : acc.length + xs.length ≤ M)
    (h : ∀ x ∈ xs, ∀ acc : List D, acc.length < M → turn1 b wp body (en x) (st acc) = .ct (st (if p x then acc ++ [f x] else acc))) :
    oTurns b wp body (xs.map en) (st acc) = .nx (st (acc ++ (xs.filter p).map f)) := by
  rw [for_put en st (fun x => if p x then [f x] else []) 1 xs acc (by omega) (fun x _ => by cases p x <;> simp) fun x hx acc ha => ?_, flatMap_if]
  rw [h x hx acc (by omega)]
  cases p x <;> simp
def lc1 (b : D → En → Option En) (c : En → R Bool) (e : En → R D) (x : D) (ρ : En) : R (Option D) := match b x ρ with
  | none => .stk
  | some ρ1 => (c ρ1).nox >>= fun k => if k then (e ρ1).nox >>= fun y => .val (some y) else .val none
theorem lc_to {α : Type} (en : α → D) (f : α → Option D) : ∀ (xs : List α), (∀ x ∈ xs, lc1 b c e (en x) ρ = .val (f x)) → lcTurns b c e (xs.map en) ρ = .val (xs.filterMap f)
  | [], _ => rfl
  | x :: r, h => by
    have ih := lc_to en f r fun y hy => h y (List.mem_cons_of_mem _ hy)
    have q := h x List.mem_cons_self
    unfold lc1 at q
    rw [List.map_cons]
    unfold lcTurns
    cases e1 : b (en x) ρ with
    | none => rw [e1] at q; cases q
    | some ρ1 =>
      rw [e1] at q
      dsimp only at q ⊢
      cases e2 : (c ρ1).nox with
      | exc _ => rw [e2] at q; cases q
      | stk => rw [e2] at q; cases q
      | val k =>
        rw [e2] at q
        rw [R.bind_val] at q ⊢
        cases k with
        | false =>
          rw [if_neg Bool.false_ne_true] at q ⊢
          injection q with q
          rw [ih, List.filterMap_cons, ← q]
        | true =>
          rw [if_pos rfl] at q ⊢
          cases e3 : (e ρ1).nox with
          | exc _ => rw [e3] at q; cases q
          | stk => rw [e3] at q; cases q
          | val y =>
            rw [e3] at q
            rw [R.bind_val] at q ⊢
            injection q with q
            rw [ih, R.bind_val, List.filterMap_cons, ← q]
theorem filterMap_if {α β : Type} (p : α → Bool) (f : α → β) (xs : List α) : (xs.filterMap fun x => if p x then some (f x) else none) = (xs.filter p).map f := by
  induction xs with
  | nil => rfl
  | cons x r ih =>
    rw [List.filterMap_cons, ih]
    cases h : p x with
    | true => rw [if_pos rfl, List.filter_cons_of_pos h]; rfl
    | false => rw [if_neg Bool.false_ne_true, List.filter_cons_of_neg (by rw [h]; exact Bool.false_ne_true)]
theorem lc_if {α : Type} (en : α → D) (p : α → Bool) (f : α → D) (xs : List α) (h : ∀ x ∈ xs, lc1 b c e (en x) ρ = .val (if p x then some (f x) else none)) : lcTurns b c e (xs.map en) ρ = .val ((xs.filter p).map f) := by
  rw [lc_to en _ xs h, filterMap_if]
theorem lc_each {α : Type} (en : α → D) (f : α → D) (xs : List α) (h : ∀ x ∈ xs, lc1 b c e (en x) ρ = .val (some (f x))) : lcTurns b c e (xs.map en) ρ = .val (xs.map f) := by
  rw [lc_to en _ xs h]
  congr 1
  exact List.filterMap_eq_map ▸ rfl
def runW {σ : Type} (go : σ → Bool) (step : σ → Except Out σ) : Nat → σ → Except Out σ
  | 0, _ => .error .stk
  | n + 1, s => if go s then (match step s with
    | .ok s' => runW go step n s'
    | .error o => .error o) else .ok s
theorem wh_succ (n : Nat) (ρ : En) : oWh wp c body (n + 1) ρ = toO (c ρ) ρ fun k => if k then afterO (body ρ) wp (oWh wp c body n) else .nx ρ := by
  show (toO (c ρ) ρ fun k => if k then (match body ρ with
      | .nx ρ2 => oWh wp c body n (fgt wp ρ2)
      | .ct ρ2 => oWh wp c body n (fgt wp ρ2)
      | .bk ρ2 => .nx ρ2
      | o => o) else .nx ρ) = _
  congr 1
theorem wh_run {σ : Type} (st : σ → En) (go : σ → Bool) (step : σ → Except Out σ) (I : σ → Prop)
    (h : ∀ s, I s → c (st s) = .val (go s) ∧ (go s = true → match step s with
      | .ok s' => I s' ∧ afterO (body (st s)) wp .ct = .ct (st s')
      | .error o => afterO (body (st s)) wp .ct = o ∧ ∀ ρ, o ≠ .ct ρ)) : ∀ (n : Nat) (s : σ), I s → oWh wp c body n (st s) = match runW go step n s with
      | .ok s' => .nx (st s')
      | .error o => o
  | 0, _, _ => rfl
  | n + 1, s, hI => by
    obtain ⟨h1, h2⟩ := h s hI
    rw [wh_succ, h1]
    unfold runW
    cases hg : go s with
    | false => rfl
    | true =>
      have q := h2 hg
      show afterO (body (st s)) wp _ = _
      rw [after_next]
      cases es : step s with
      | ok s' =>
        rw [es] at q
        dsimp only at q
        rw [q.2, nextO_ct, wh_run st go step I h n s' q.1]
        rfl
      | error o =>
        rw [es] at q
        dsimp only at q
        rw [q.1]
        show nextO o _ = o
        cases o with
        | ct ρ => exact absurd rfl (q.2 ρ)
        | _ => rfl
end
@[simp] theorem ap_oSetK (i : Nat) (d : En → R (List (Key × D))) (ρ : En) : oSetK i d ρ = (toO (d ρ) ρ fun x => .nx (ρ.set i (.od x))) := rfl
@[simp] theorem ap_oSetLk (i : Nat) (d : En → R (List (Key × D))) (ρ : En) : oSetLk i d ρ = (toO (d ρ) ρ fun x => .nx (ρ.set i (.lk x))) := rfl
@[simp] theorem ap_oPar (i j : Nat) (a b : En → R D) (ρ : En) : oPar i j a b ρ = (toO (a ρ) ρ fun x => toO (b ρ) ρ fun y => .nx ((ρ.set i (.fz x)).set j (.fz y))) := rfl
@[simp] theorem ap_oParFL (i j : Nat) (a : En → R D) (b : En → R (List D)) (ρ : En) : oParFL i j a b ρ = (toO (a ρ) ρ fun x => toO (b ρ) ρ fun y => .nx ((ρ.set i (.fz x)).set j (.ol y))) := rfl
@[simp] theorem ap_oRetK (d : En → R (List (Key × D))) (ρ : En) : oRetK d ρ = (toO (d ρ) ρ .rd) := rfl
@[simp] theorem ap_oDropK (d : En → R (List (Key × D))) (ρ : En) : oDropK d ρ = (toO (d ρ) ρ fun _ => .nx ρ) := rfl
@[simp] theorem ap_dInN (neg : Bool) (b : En → R D) (d : En → R (List (Key × D))) (ρ : En) : dInN neg b d ρ = (b ρ >>= fun y => asK y >>= fun k => d ρ >>= fun kvs => .val (.bool (if neg then !(valD kvs k).isSome else (valD kvs k).isSome))) := rfl
@[simp] theorem ap_dDictP (a : En → R D) (ρ : En) : dDictP a ρ = (a ρ >>= fun x => asL x >>= fun ds => match pairsD ds with
  | some kvs => .val (mergeD [] kvs)
  | none => .stk) := rfl
@[simp] theorem ap_dSortX (d : En → R (List (Key × D))) (ρ : En) : dSortX d ρ = (d ρ >>= sortX) := rfl
def keysR (kvs : List (Key × D)) : R (List D) := if kvs.length ≤ M then .val (keysD kvs) else .stk
@[simp] theorem ap_dKeys (d : En → R (List (Key × D))) (ρ : En) : dKeys d ρ = (d ρ >>= keysR) := rfl
@[simp] theorem ap_dAppL (f : List (Key × D) → R D) (d : En → R (List (Key × D))) (ρ : En) : dAppL f d ρ = (d ρ >>= f) := rfl
@[simp] theorem ap_dDefL (N : Nat) (o : En → Out) (kvs : List (Key × D)) : dDefL N o kvs = fin (o (entL N kvs)) := rfl
@[simp] theorem ap_entL (N : Nat) (kvs : List (Key × D)) : entL N kvs = .lk kvs :: List.replicate (N - 1) .un := rfl
def odD : Option Sl → R (List (Key × D))
  | some (.od kvs) => .val kvs
  | some (.lk kvs) => .val kvs
  | _ => .stk
@[simp] theorem odD_od (kvs : List (Key × D)) : odD (some (.od kvs)) = .val kvs := rfl
@[simp] theorem odD_lk (kvs : List (Key × D)) : odD (some (.lk kvs)) = .val kvs := rfl
@[simp] theorem odAt_eq (ρ : En) (i : Nat) : odAt ρ i = odD ρ[i]? := by
  unfold odAt odD
  rfl
def lkD : Option Sl → R (List (Key × D))
  | some (.lk kvs) => .val kvs
  | _ => .stk
@[simp] theorem lkD_lk (kvs : List (Key × D)) : lkD (some (.lk kvs)) = .val kvs := rfl
@[simp] theorem dLk_eq (ρ : En) (i : Nat) : dLk i ρ = lkD ρ[i]? := rfl
@[simp] theorem dOd_eq (ρ : En) (i : Nat) : dOd i ρ = odD ρ[i]? := by
  unfold dOd; exact odAt_eq ρ i
@[simp] theorem ap_dInO (neg : Bool) (b : En → R D) (i : Nat) (ρ : En) : dInO neg b i ρ = (b ρ >>= fun y => asK y >>= fun k => odD ρ[i]? >>= fun kvs => .val (.bool (if neg then !(valD kvs k).isSome else (valD kvs k).isSome))) := by
  show (b ρ >>= fun y => asK y >>= fun k => odAt ρ i >>= fun kvs => R.val (PyData.bool (if neg then !(valD kvs k).isSome else (valD kvs k).isSome))) = _
  rw [odAt_eq]
@[simp] theorem ap_dGetO (i : Nat) (b : En → R D) (ρ : En) : dGetO i b ρ = (odD ρ[i]? >>= fun kvs => b ρ >>= fun y => asK y >>= fun k => getD kvs k) := by
  show (odAt ρ i >>= fun kvs => b ρ >>= fun y => asK y >>= fun k => getD kvs k) = _
  rw [odAt_eq]
@[simp] theorem ap_dGetN (a : En → R (List (Key × D))) (b : En → R D) (ρ : En) : dGetN a b ρ = (a ρ >>= fun kvs => b ρ >>= fun y => asK y >>= fun k => getD kvs k) := rfl
def putO (s : Option Sl) (i : Nat) (b e : En → R D) (ρ : En) : Out := match s with
  | some (.od kvs) => toO (e ρ) ρ fun x => toO (b ρ) ρ fun y => toO (asK y) ρ fun k => if kvs.length < M then .nx (ρ.set i (.od (putD kvs k x))) else .stk
  | _ => .stk
@[simp] theorem oPut_eq (i : Nat) (b e : En → R D) (ρ : En) : oPut i b e ρ = putO ρ[i]? i b e ρ := rfl
@[simp] theorem putO_od (kvs : List (Key × D)) (i : Nat) (b e : En → R D) (ρ : En) : putO (some (.od kvs)) i b e ρ = toO (e ρ) ρ fun x => toO (b ρ) ρ fun y => toO (asK y) ρ fun k => if kvs.length < M then .nx (ρ.set i (.od (putD kvs k x))) else .stk := rfl
def retO : Option Sl → Out
  | some (.od kvs) => .rd kvs
  | _ => .stk
@[simp] theorem oRetO_eq (i : Nat) (ρ : En) : oRetO i ρ = retO ρ[i]? := rfl
@[simp] theorem retO_od (kvs : List (Key × D)) : retO (some (.od kvs)) = .rd kvs := rfl
@[simp] theorem ap_dDisp (ds : List ((En → R D) × (En → R D))) (ρ : En) : dDisp ds ρ = (dPairs ds ρ >>= fun kvs => .val (mergeD [] kvs)) := rfl
@[simp] theorem dPairs_nil (ρ : En) : dPairs [] ρ = .val [] := rfl
@[simp] theorem dPairs_cons (a b : En → R D) (r : List ((En → R D) × (En → R D))) (ρ : En) : dPairs ((a, b) :: r) ρ = (a ρ >>= fun x => asK x >>= fun k => b ρ >>= fun y => dPairs r ρ >>= fun ps => .val ((k, y) :: ps)) := rfl
@[simp] theorem mergeD_nil (kvs : List (Key × D)) : mergeD kvs [] = kvs := rfl
@[simp] theorem mergeD_one (k : Key) (v : D) : mergeD [] [(k, v)] = [(k, v)] := rfl
theorem inB_list {α : Type} [DecidableEq α] (en : α → D) (k : Nat) (ok : ∀ x, okD k (en x) = true) (inj : ∀ x y, en x = en y → x = y) (hk : k + 1 ≤ 64) (x : α) (L : List α) : inB (en x) (.list (L.map en)) = .val (decide (x ∈ L)) := by
  have h1 := okD_shaped (ok x) (Nat.le_of_succ_le hk)
  have h2 : SeqAt.shaped (.list (L.map en)) = true := okD_shaped (n := k + 1) (show okDs k (L.map en) = true from okDs_iff.mpr fun d hd => by
    obtain ⟨y, _, rfl⟩ := List.mem_map.mp hd
    exact ok y) hk
  show (if SeqAt.shaped (en x) && SeqAt.shaped (.list (L.map en)) then R.val ((L.map en).any fun z => PyData.eqv z (en x)) else .stk) = _
  rw [h1, h2]
  show R.val ((L.map en).any fun z => PyData.eqv z (en x)) = _
  congr 1
  rw [List.any_map, Bool.eq_iff_iff, List.any_eq_true, decide_eq_true_iff]
  constructor
  · rintro ⟨y, hy, e⟩
    rw [← inj y x ((eqv_iff k k _ _ (ok y) (ok x)).mp e)]; exact hy
  · intro h
    exact ⟨x, h, (eqv_iff k k _ _ (ok x) (ok x)).mpr rfl⟩
theorem inB_tuple {α : Type} [DecidableEq α] (en : α → D) (k : Nat) (ok : ∀ x, okD k (en x) = true) (inj : ∀ x y, en x = en y → x = y) (hk : k + 1 ≤ 64) (x : α) (L : List α) : inB (en x) (.tuple (L.map en)) = .val (decide (x ∈ L)) := by
  have h1 := okD_shaped (ok x) (Nat.le_of_succ_le hk)
  have h2 : SeqAt.shaped (.tuple (L.map en)) = true := okD_shaped (n := k + 1) (show okDs k (L.map en) = true from okDs_iff.mpr fun d hd => by
    obtain ⟨y, _, rfl⟩ := List.mem_map.mp hd
    exact ok y) hk
  show (if SeqAt.shaped (en x) && SeqAt.shaped (.tuple (L.map en)) then R.val ((L.map en).any fun z => PyData.eqv z (en x)) else .stk) = _
  rw [h1, h2]
  show R.val ((L.map en).any fun z => PyData.eqv z (en x)) = _
  congr 1
  rw [List.any_map, Bool.eq_iff_iff, List.any_eq_true, decide_eq_true_iff]
  constructor
  · rintro ⟨y, hy, e⟩
    rw [← inj y x ((eqv_iff k k _ _ (ok y) (ok x)).mp e)]; exact hy
  · intro h
    exact ⟨x, h, (eqv_iff k k _ _ (ok x) (ok x)).mpr rfl⟩
def tryO (o : Out) (hs : List ((Ex → Option Bool) × (En → Out))) : Out := match o with
  | .xc c ρ' => handleO hs c ρ'
  | o => o
@[simp] theorem oTry_eq (a : En → Out) (hs : List ((Ex → Option Bool) × (En → Out))) (ρ : En) : oTry a hs ρ = tryO (a ρ) hs := rfl
@[simp] theorem tryO_nx (ρ : En) (hs : List ((Ex → Option Bool) × (En → Out))) : tryO (.nx ρ) hs = .nx ρ := rfl
@[simp] theorem tryO_rt (d : D) (hs : List ((Ex → Option Bool) × (En → Out))) : tryO (.rt d) hs = .rt d := rfl
@[simp] theorem tryO_xc (c : Ex) (ρ : En) (hs : List ((Ex → Option Bool) × (En → Out))) : tryO (.xc c ρ) hs = handleO hs c ρ := rfl
def handle1 (b : Option Bool) (h : En → Out) (r : List ((Ex → Option Bool) × (En → Out))) (c : Ex) (ρ : En) : Out := match b with
  | some true => h ρ
  | some false => handleO r c ρ
  | none => .stk
@[simp] theorem handle1_true (h : En → Out) (r : List ((Ex → Option Bool) × (En → Out))) (c : Ex) (ρ : En) : handle1 (some true) h r c ρ = h ρ := rfl
@[simp] theorem handle1_false (h : En → Out) (r : List ((Ex → Option Bool) × (En → Out))) (c : Ex) (ρ : En) : handle1 (some false) h r c ρ = handleO r c ρ := rfl
@[simp] theorem handleO_cons (t : Ex → Option Bool) (h : En → Out) (r : List ((Ex → Option Bool) × (En → Out))) (c : Ex) (ρ : En) : handleO ((t, h) :: r) c ρ = handle1 (t c) h r c ρ := by
  unfold handleO handle1
  cases t c with
  | none => rfl
  | some b => cases b <;> rfl
@[simp] theorem handleO_nil (c : Ex) (ρ : En) : handleO [] c ρ = .xc c ρ := rfl
@[simp] theorem asB_bind (b : Bool) : (R.val (PyData.bool b) >>= asB) = R.val b := rfl
section
variable {b : D → En → Option En} {wp : List Nat} {body : En → Out} {c : En → R Bool} {ρ0 : En}
theorem for_at {α σ : Type} (en : α → D) (st : σ → En) (step : σ → α → σ) (I : σ → Prop) (xs : List α) (s : σ) (e : ρ0 = st s) (hI : I s)
    (h : ∀ x ∈ xs, ∀ s, I s → I (step s x) ∧ turn1 b wp body (en x) (st s) = .ct (st (step s x))) : oTurns b wp body (xs.map en) ρ0 = .nx (st (xs.foldl step s)) := e ▸ for_to en st step I xs s hI h
theorem for_ex1 {α : Type} (en : α → D) (I : En → Prop) : ∀ (xs : List α) (ρ : En), I ρ → (∀ x ∈ xs, ∀ ρ, I ρ → ∃ ρ', turn1 b wp body (en x) ρ = .ct ρ' ∧ I ρ') → ∃ ρ', oTurns b wp body (xs.map en) ρ = .nx ρ' ∧ I ρ'
  | [], ρ, hI, _ => ⟨ρ, rfl, hI⟩
  | x :: r, ρ, hI, h => by
    obtain ⟨ρ1, h2, h3⟩ := h x List.mem_cons_self ρ hI
    obtain ⟨ρ2, q1, q2⟩ := for_ex1 en I r ρ1 h3 fun y hy => h y (List.mem_cons_of_mem _ hy)
    refine ⟨ρ2, ?_, q2⟩
    rw [List.map_cons, turns1, h2, nextO_ct, q1]
theorem for_ix (st : Nat → En) (xs : List D) (h : ∀ (i : Nat) (x : D), xs[i]? = some x → turn1 b wp body x (st i) = .ct (st (i + 1))) (e : ρ0 = st 0) : oTurns b wp body xs ρ0 = .nx (st xs.length) := by
  have key : ∀ (ys : List D) (i : Nat), (∀ (j : Nat) (x : D), ys[j]? = some x → turn1 b wp body x (st (i + j)) = .ct (st (i + j + 1))) → oTurns b wp body ys (st i) = .nx (st (i + ys.length)) := by
    intro ys
    induction ys with
    | nil => intro i _; rfl
    | cons y r ih =>
      intro i hy
      have q0 := hy 0 y rfl
      rw [Nat.add_zero] at q0
      rw [turns1, q0, nextO_ct, ih (i + 1) (fun j x hx => by
        have q := hy (j + 1) x (by simpa using hx)
        rw [show i + 1 + j = i + (j + 1) by omega]
        exact q), List.length_cons, show i + 1 + r.length = i + (r.length + 1) by omega]
  rw [e]
  have q := key xs 0 (fun j x hx => by rw [Nat.zero_add]; exact h j x hx)
  rw [Nat.zero_add] at q
  exact q
theorem run_at0 {α σ : Type} (en : α → D) (st : σ → En) (step : σ → α → Except Out σ) (I : σ → Prop) (xs : List α) (s : σ) (e : ρ0 = st s) (hI : I s)
    (h : ∀ x ∈ xs, ∀ s, I s → match step s x with
      | .ok s' => I s' ∧ turn1 b wp body (en x) (st s) = .ct (st s')
      | .error o => turn1 b wp body (en x) (st s) = o ∧ ∀ ρ, o ≠ .ct ρ) : oTurns b wp body (xs.map en) ρ0 = match xs.foldlM step s with
      | .ok s' => .nx (st s')
      | .error o => o := e ▸ for_run en st step I xs s hI h
theorem puts_at {α : Type} (en : α → D) (st : List D → En) (p : α → Bool) (f : α → D) (xs : List α) (acc : List D) (e : ρ0 = st acc) (hl : acc.length + xs.length ≤ M)
    (h : ∀ x ∈ xs, ∀ acc : List D, acc.length < M → turn1 b wp body (en x) (st acc) = .ct (st (if p x then acc ++ [f x] else acc))) :
    oTurns b wp body (xs.map en) ρ0 = .nx (st (acc ++ (xs.filter p).map f)) := e ▸ for_puts en st p f xs acc hl h
def exO {σ : Type} (st : σ → En) : Except Out σ → Out
  | .ok s => .ct (st s)
  | .error o => o
@[simp] theorem exO_ok {σ : Type} (st : σ → En) (s : σ) : exO st (.ok s) = .ct (st s) := rfl
@[simp] theorem exO_error {σ : Type} (st : σ → En) (o : Out) : exO st (.error o) = o := rfl
def exI {σ : Type} (I : σ → Prop) : Except Out σ → Prop
  | .ok s => I s
  | .error o => ∀ ρ, o ≠ .ct ρ
@[simp] theorem exI_ok {σ : Type} (I : σ → Prop) (s : σ) : exI I (.ok s) = I s := rfl
@[simp] theorem exI_error {σ : Type} (I : σ → Prop) (o : Out) : exI I (.error o) = ∀ ρ, o ≠ .ct ρ := rfl
theorem wh_at {σ : Type} (st : σ → En) (go : σ → Bool) (step : σ → Except Out σ) (I : σ → Prop) (n : Nat) (s : σ) (e : ρ0 = st s) (hI : I s) (hc : ∀ s, I s → c (st s) = .val (go s))
    (hs : ∀ s, I s → go s = true → exI I (step s) ∧ afterO (body (st s)) wp .ct = exO st (step s)) : oWh wp c body n ρ0 = match runW go step n s with
      | .ok s' => .nx (st s')
      | .error o => o := by
  rw [e]
  refine wh_run st go step I (fun s hI => ⟨hc s hI, fun hg => ?_⟩) n s hI
  obtain ⟨h1, h2⟩ := hs s hI hg
  cases es : step s with
  | ok s' => rw [es] at h1 h2; exact ⟨h1, h2⟩
  | error o => rw [es] at h1 h2; exact ⟨h2, h1⟩
theorem run_at {α σ : Type} (en : α → D) (st : σ → En) (step : σ → α → Except Out σ) (I : σ → Prop) (xs : List α) (s : σ) (e : ρ0 = st s) (hI : I s)
    (h : ∀ x ∈ xs, ∀ s, I s → exI I (step s x) ∧ turn1 b wp body (en x) (st s) = exO st (step s x)) : oTurns b wp body (xs.map en) ρ0 = match xs.foldlM step s with
      | .ok s' => .nx (st s')
      | .error o => o := by
  refine run_at0 en st step I xs s e hI fun x hx s hI => ?_
  obtain ⟨h1, h2⟩ := h x hx s hI
  cases es : step s x with
  | ok s' => rw [es] at h1 h2; exact ⟨h1, h2⟩
  | error o => rw [es] at h1 h2; exact ⟨h2, h1⟩
theorem while_at {σ : Type} (st : σ → En) (go : σ → Bool) (step : σ → σ) (I : σ → Prop) (n : Nat) (s : σ) (e : ρ0 = st s) (hI : I s) (hc : ∀ s, I s → c (st s) = .val (go s))
    (hs : ∀ s, I s → go s = true → I (step s) ∧ afterO (body (st s)) wp .ct = .ct (st (step s))) : oWh wp c body n ρ0 = match runW go (fun s => .ok (step s)) n s with
      | .ok s' => .nx (st s')
      | .error o => o := wh_at st go (fun s => .ok (step s)) I n s e hI hc hs
end
@[simp] theorem pAddI_int (i j : Int) : pAddI (.int i) (.int j) = .val (.int (i + j)) := rfl
@[simp] theorem atI_3 {α : Type} (xs : List α) : L2.atI xs 3 = xs[3]? := atI_nat' xs 3
@[simp] theorem atI_4 {α : Type} (xs : List α) : L2.atI xs 4 = xs[4]? := atI_nat' xs 4
@[simp] theorem atI_5 {α : Type} (xs : List α) : L2.atI xs 5 = xs[5]? := atI_nat' xs 5
@[simp] theorem atI_6 {α : Type} (xs : List α) : L2.atI xs 6 = xs[6]? := atI_nat' xs 6
@[simp] theorem atI_7 {α : Type} (xs : List α) : L2.atI xs 7 = xs[7]? := atI_nat' xs 7
@[simp] theorem atI_8 {α : Type} (xs : List α) : L2.atI xs 8 = xs[8]? := atI_nat' xs 8
@[simp] theorem atI_9 {α : Type} (xs : List α) : L2.atI xs 9 = xs[9]? := atI_nat' xs 9
@[simp] theorem pIs_none_n : pIs .none .none = .val (.bool true) := rfl
@[simp] theorem pIsNot_none_n : pIsNot .none .none = .val (.bool false) := rfl
@[simp] theorem pIs_list_n (xs : List D) : pIs (.list xs) .none = .val (.bool false) := rfl
@[simp] theorem pIsNot_list_n (xs : List D) : pIsNot (.list xs) .none = .val (.bool true) := rfl
@[simp] theorem pIs_tuple_n (xs : List D) : pIs (.tuple xs) .none = .val (.bool false) := rfl
@[simp] theorem pIsNot_tuple_n (xs : List D) : pIsNot (.tuple xs) .none = .val (.bool true) := rfl
@[simp] theorem pIs_str_n (x : Str) : pIs (.str x) .none = .val (.bool false) := rfl
@[simp] theorem pIsNot_str_n (x : Str) : pIsNot (.str x) .none = .val (.bool true) := rfl
@[simp] theorem pIs_int_n (i : Int) : pIs (.int i) .none = .val (.bool false) := rfl
@[simp] theorem pIsNot_int_n (i : Int) : pIsNot (.int i) .none = .val (.bool true) := rfl
@[simp] theorem pIs_bool_n (b : Bool) : pIs (.bool b) .none = .val (.bool false) := rfl
@[simp] theorem pIsNot_bool_n (b : Bool) : pIsNot (.bool b) .none = .val (.bool true) := rfl
@[simp] theorem pIsNot_bool (a b : Bool) : pIsNot (.bool a) (.bool b) = .val (.bool (!(a == b))) := rfl
theorem seq_two (a b c : En → Out) (ρ : En) : oSeq a (oSeq b c) ρ = thenO (thenO (a ρ) b) c := by
  rw [oSeq_eq]; cases a ρ <;> rfl
@[simp] theorem ap_lenSetD (ds : List D) : lenSetD ds = match asInts ds with
  | some ns => if ns.length < 64 then .val (.int (ns.eraseDups.length : Nat)) else .stk
  | none => .stk := rfl
@[simp] theorem lcTurns_nil (b : D → En → Option En) (c : En → R Bool) (e : En → R D) (ρ : En) : lcTurns b c e [] ρ = .val [] := rfl
@[simp] theorem lcTurns_cons (b : D → En → Option En) (c : En → R Bool) (e : En → R D) (x : D) (r : List D) (ρ : En) : lcTurns b c e (x :: r) ρ = match b x ρ with
  | none => .stk
  | some ρ1 => (c ρ1).nox >>= fun k => if k then (e ρ1).nox >>= fun y => lcTurns b c e r ρ >>= fun ys => .val (y :: ys) else lcTurns b c e r ρ := rfl
@[simp] theorem ap_noOwn (ρ : En) (vs : List Nat) : noOwn ρ vs = vs.all fun i => match ρ[i]? with
  | some s => !s.own
  | none => true := rfl
@[simp] theorem wipeE_nil (ρ : En) : wipeE ρ [] = ρ := rfl
@[simp] theorem wipeE_cons (ρ : En) (v : Nat) (vs : List Nat) : wipeE ρ (v :: vs) = (wipeE ρ vs).set v .un := rfl
@[simp] theorem own_un : Sl.own .un = false := rfl
@[simp] theorem own_fz (d : D) : Sl.own (.fz d) = false := rfl
@[simp] theorem own_ol (d : List D) : Sl.own (.ol d) = true := rfl
@[simp] theorem own_od (d : List (Key × D)) : Sl.own (.od d) = true := rfl
@[simp] theorem own_lk (d : List (Key × D)) : Sl.own (.lk d) = false := rfl
@[simp] theorem asInts_nil : asInts [] = some [] := rfl
@[simp] theorem asInts_int (i : Int) (r : List D) : asInts (.int i :: r) = (asInts r).map (i :: ·) := rfl
def wD (n : Nat) (js : List (List Int)) : D := .tuple [.int n, .tuple (js.map tupD)]
def sg (b : Bool) : Nat := if b then 111 else 46
def sS (s : List Bool) : Str := ⟨(s.map sg).toArray⟩
def sD (s : List Bool) : D := .str (sS s)
def cD (b : Bool) : D := .str ⟨#[sg b]⟩
def JOk (n : Nat) (j : List Int) : Prop := ∃ a b c : Nat, j = [(a : Int), b, c] ∧ a < n ∧ b < n ∧ c < n ∧ a ≠ b ∧ a ≠ c ∧ b ≠ c
structure Good (n : Nat) (js : List (List Int)) : Prop where
  lo : 3 ≤ n
  hi : n ≤ 12
  few : js.length ≤ 16
  ok : ∀ j ∈ js, JOk n j
  up : js.Pairwise fun a b => geL a b = false
theorem w_is_within (i lo hi : Int) : d_is_within [.int i, .int lo, .int hi] = .val (.bool (decide (lo ≤ i) && decide (i ≤ hi))) := by
  simp [d_is_within, o_is_within]
  by_cases h : lo ≤ i <;> simp [h]
theorem w_is_jump {n : Nat} {j : List Int} (h : JOk n j) : d_is_jump [.int n, tupD j] = .val (.bool true) := by
  obtain ⟨a, b, c, rfl, h1, h2, h3, h4, h5, h6⟩ := h
  have k1 : (a : Int) ≤ n - 1 := by omega
  have k2 : (b : Int) ≤ n - 1 := by omega
  have k3 : (c : Int) ≤ n - 1 := by omega
  have e1 : ¬ (b : Int) = a := by omega
  have e2 : ¬ (c : Int) = a := by omega
  have e3 : ¬ (c : Int) = b := by omega
  simp [d_is_jump, o_is_jump, tupD, w_is_within, k1, k2, k3, List.eraseDups_cons, e1, e2, e3, pNe, pEq, SeqAt.shaped, PyData.canLay0, PyData.depth, PyData.eqv]
theorem asInts_tup (j : List Int) : asInts (j.map PyData.int) = some j := asInts_map j
/-- one behind the other, none as great as the next -/
theorem zip_up : ∀ {js : List (List Int)}, (js.Pairwise fun a b => geL a b = false) → ∀ p ∈ List.zip js js.tail, geL p.1 p.2 = false
  | [], _, p, hp => by simp at hp
  | [x], _, p, hp => by simp at hp
  | x :: y :: r, h, p, hp => by
    rw [List.pairwise_cons] at h
    have hp' : p = (x, y) ∨ p ∈ List.zip (y :: r) (y :: r).tail := by simpa using hp
    rcases hp' with e | hp'
    · rw [e]; exact h.1 y List.mem_cons_self
    · exact zip_up h.2 p hp'
theorem zipD_map (xs ys : List (List Int)) : (zipD (xs.map tupD) (ys.map tupD)).map PyData.tuple = (List.zip xs ys).map fun p => .tuple [tupD p.1, tupD p.2] := by
  unfold zipD
  rw [List.zipWith_map, List.map_zipWith, List.zip_eq_zipWith, List.map_zipWith]
theorem pGe_tup (a b : List Int) : pGe (tupD a) (tupD b) = .val (.bool (geL a b)) := by
  unfold pGe tupD
  simp
@[simp] theorem wD_0 (n : Nat) (js : List (List Int)) : pIx (wD n js) (.int 0) = .val (.int n) := by simp [wD]
@[simp] theorem wD_1 (n : Nat) (js : List (List Int)) : pIx (wD n js) (.int 1) = .val (.tuple (js.map tupD)) := by simp [wD]
@[simp] theorem wD_isi (n : Nat) (js : List (List Int)) (T : String) : isiD T (wD n js) = (T == "tuple") := rfl
@[simp] theorem wD_len (n : Nat) (js : List (List Int)) : pLen [wD n js] = .val (.int 2) := rfl
@[simp] theorem pSl_tuple (ds : List D) (l h : Option Int) : pSl (.tuple ds) l h = .val (.tuple (cutL ds l h)) := rfl
@[simp] theorem pSl_list (ds : List D) (l h : Option Int) : pSl (.list ds) l h = .val (.list (cutL ds l h)) := rfl
theorem cutL_drop1 {α : Type} (xs : List α) : cutL xs (some 1) none = xs.tail := by
  unfold cutL
  rw [show HT.sIx xs.length 0 (some 1) = min 1 xs.length from HT.sIx_nat xs.length 0 1, HT.sIx_none]
  cases xs with
  | nil => rfl
  | cons x r =>
    rw [show min 1 (x :: r).length = 1 by rw [List.length_cons]; omega]
    show (List.take ((x :: r).length - 1) r) = r
    rw [List.length_cons, Nat.add_sub_cancel]
    exact List.take_length
@[simp] theorem pZip_tt (xs ys : List D) : pZip [.tuple xs, .tuple ys] = .val ((zipD xs ys).map .tuple) := rfl
@[simp] theorem bAny_tuple (n : Nat) (r : List D → En → Option En) (ds : List D) (ρ : En) : bAny n r (.tuple ds) ρ = if ds.length = n then r ds ρ else none := rfl
theorem w_is_world {n : Nat} {js : List (List Int)} (h : Good n js) : d_is_world [wD n js] = .val (.bool true) := by
  have l1 := h.lo
  have l2 := h.hi
  have l3 := h.few
  have k1 : (3 : Int) ≤ n := by omega
  have k2 : (n : Int) ≤ 12 := by omega
  have k3 : ¬ (16 : Int) < js.length := by omega
  have c1 : lcTurns (bName 1) (dNot (dTru (dApp d_is_jump [dBin pIx (dVar 0) (dC (.int 0)), dVar 1]))) (dVar 1) (js.map tupD) [.fz (wD n js), .un, .un] = .val [] := by
    have q := lc_some (b := bName 1) (c := dNot (dTru (dApp d_is_jump [dBin pIx (dVar 0) (dC (.int 0)), dVar 1]))) (e := dVar 1) (ρ := [.fz (wD n js), .un, .un]) tupD (fun j => [.fz (wD n js), .fz (tupD j), .un]) (fun _ => false) (fun j => tupD j) js fun j hj => by
      refine ⟨by simp, ?_, by simp⟩
      simp [w_is_jump (h.ok j hj)]
    rw [q]
    simp
  have c2 : lcTurns (bAny 2 (bCons (bName 1) (bCons (bName 2) bNil))) (dTst (dBin pGe (dVar 1) (dVar 2))) (dC (.int 1)) ((List.zip js js.tail).map fun p => .tuple [tupD p.1, tupD p.2]) [.fz (wD n js), .un, .un] = .val [] := by
    have q := lc_some (b := bAny 2 (bCons (bName 1) (bCons (bName 2) bNil))) (c := dTst (dBin pGe (dVar 1) (dVar 2))) (e := dC (.int 1)) (ρ := [.fz (wD n js), .un, .un]) (fun p : List Int × List Int => .tuple [tupD p.1, tupD p.2]) (fun p => [.fz (wD n js), .fz (tupD p.1), .fz (tupD p.2)]) (fun _ => false) (fun _ => .int 1) (List.zip js js.tail) fun p hp => by
      refine ⟨by simp, ?_, by simp⟩
      simp [pGe_tup, zip_up h.up p hp]
    rw [q]
    simp
  simp [d_is_world, o_is_world, w_is_within, k1, k2, k3, c1, cutL_drop1]
  rw [← List.map_tail, zipD_map]
  simp [c2]
theorem sS_oo : PySem.Str.ofString "oo." = sS [true, true, false] := by decide +kernel
theorem sS_no : PySem.Str.ofString "..o" = sS [false, false, true] := by decide +kernel
theorem sS_o : PySem.Str.ofString "o" = sS [true] := by decide +kernel
theorem sS_n : PySem.Str.ofString "." = sS [false] := by decide +kernel
theorem sS_on : PySem.Str.ofString "o." = sS [true, false] := by decide +kernel
theorem sS_size (s : List Bool) : (sS s).cps.size = s.length := by simp [sS]
theorem sS_length (s : List Bool) : (sS s).length = s.length := by simp [sS, Str.length]
theorem sg_inj {a b : Bool} (h : sg a = sg b) : a = b := by cases a <;> cases b <;> simp_all [sg]
theorem sS_inj {s t : List Bool} (h : sS s = sS t) : s = t := by
  unfold sS at h
  have h1 : s.map sg = t.map sg := by simpa using h
  exact (List.map_inj_right (fun a b => sg_inj)).mp h1
theorem cD_sD (b : Bool) : cD b = sD [b] := by simp [cD, sD, sS]
theorem signs_sS (s : List Bool) : Dn.signs (sS s) = s.map cD := by
  simp [Dn.signs, sS, cD]
@[simp] theorem sD_isi (s : List Bool) (T : String) : isiD T (sD s) = (T == "str") := rfl
theorem anyL_sD {s : List Bool} (h : s.length ≤ M) : anyL (sD s) = .val (s.map cD) := by
  show (if (sS s).cps.size ≤ M then R.val (signs (sS s)) else .stk) = _
  rw [sS_size, if_pos h, signs_sS]
theorem pLen_sD {s : List Bool} (h : s.length ≤ M) : pLen [sD s] = .val (.int s.length) := by
  show (if (sS s).length ≤ M then R.val (PyData.int ((sS s).length : Nat)) else .stk) = _
  rw [sS_length, if_pos h]
theorem pListOf_sD {s : List Bool} (h : s.length ≤ M) : pListOf [sD s] = .val (s.map cD) := by
  show (if (sS s).cps.size ≤ M then R.val (signs (sS s)) else .stk) = _
  rw [sS_size, if_pos h, signs_sS]
theorem pIx_sD {s : List Bool} {i : Nat} {b : Bool} (h : s.length ≤ M) (e : s[i]? = some b) : pIx (sD s) (.int i) = .val (cD b) := by
  show (if (sS s).length ≤ M then (match L2.atI (sS s).cps.toList (i : Int) with | some c => R.val (PyData.str ⟨#[c]⟩) | none => .stk) else .stk) = _
  rw [sS_length, if_pos h, atI_nat']
  simp [sS, e, cD]
theorem str_app (x y : Str) : (x ++ y).cps.toList = x.cps.toList ++ y.cps.toList := by
  show (x.cps ++ y.cps).toList = _
  rw [Array.toList_append]
theorem join_flat (l : List Str) : (Txt.join (PySem.Str.ofString "") l).cps.toList = (l.map fun x => x.cps.toList).flatten := by
  have e0 : (PySem.Str.ofString "").cps.toList = [] := by decide +kernel
  show (Builtin.Str.glued (PySem.Str.ofString "") l).cps.toList = _
  rw [StrLaws.glued_eq_join]
  induction l with
  | nil => rfl
  | cons x r ih =>
    cases r with
    | nil =>
      show x.cps.toList = _
      simp
    | cons y r =>
      show (x ++ PySem.Str.ofString "" ++ Str.join (PySem.Str.ofString "") (y :: r)).cps.toList = _
      rw [str_app, str_app, e0, List.append_nil, ih]
      simp
theorem joinOf_eq (xs : List Str) (a : Str) (h : (xs.map (·.length)).sum + xs.length * a.length ≤ 16777216) : joinOf a (xs.map PyData.str) = .val (.str (Txt.join a xs)) := by
  unfold joinOf
  rw [asStrs_map]
  show (if _ then _ else _) = _
  rw [if_pos h]
theorem join_sD (s : List Bool) (h : s.length ≤ M) : pJoin (.str (PySem.Str.ofString "")) [.list (s.map cD)] = .val (sD s) := by
  have e : s.map cD = (s.map fun b => (⟨#[sg b]⟩ : Str)).map PyData.str := by
    rw [List.map_map]; rfl
  show joinOf _ (s.map cD) = _
  rw [e, joinOf_eq]
  · congr 1
    unfold sD
    congr 1
    refine str_ext ?_
    rw [join_flat, List.map_map]
    clear e h
    unfold sS
    induction s with
    | nil => rfl
    | cons b r ih =>
      rw [List.map_cons, List.flatten_cons, List.map_cons]
      simp at ih ⊢
      rw [ih]
  · have e0 : (PySem.Str.ofString "").length = 0 := by decide +kernel
    rw [e0, Nat.mul_zero, Nat.add_zero, List.map_map]
    have e1 : (s.map ((fun x : Str => x.length) ∘ fun b => (⟨#[sg b]⟩ : Str))) = s.map fun _ => 1 := by
      refine List.map_congr_left fun b _ => rfl
    rw [e1]
    have e2 : (s.map fun _ => 1).sum = s.length := by
      clear e e1 h
      induction s with
      | nil => rfl
      | cons b r ih => rw [List.map_cons, List.sum_cons, ih, List.length_cons]; omega
    rw [e2]; exact h
theorem okD_sD (n : Nat) (s : List Bool) : okD n (sD s) = true := by
  have e : PyData.strOk (sS s) = true := by
    unfold PyData.strOk sS
    simp only [List.all_toArray, List.all_map, List.all_eq_true]
    intro b _
    cases b <;> rfl
  cases n <;> exact e
theorem inB_sign (b : Bool) : inB (cD b) (.str (PySem.Str.ofString "o.")) = .val true := by
  cases b <;> rfl
theorem stand_M {n : Nat} {s : List Bool} (h : s.length = n) (hn : n ≤ 12) : s.length ≤ M := by show s.length ≤ 16777216; omega
theorem w_is_stand {n : Nat} {js : List (List Int)} {s : List Bool} (h : s.length = n) (hn : n ≤ 12) : d_is_stand [wD n js, sD s] = .val (.bool true) := by
  have hM := stand_M h hn
  have c1 : lcTurns (bName 2) (dTst (dBin pNotIn (dVar 2) (dC (.str (PySem.Str.ofString "o."))))) (dVar 2) (s.map cD) [.fz (wD n js), .fz (sD s), .un] = .val [] := by
    have q := lc_some (b := bName 2) (c := dTst (dBin pNotIn (dVar 2) (dC (.str (PySem.Str.ofString "o."))))) (e := dVar 2) (ρ := [.fz (wD n js), .fz (sD s), .un]) cD (fun b => [.fz (wD n js), .fz (sD s), .fz (cD b)]) (fun _ => false) cD s fun b hb => by
      refine ⟨by simp, ?_, by simp⟩
      simp [pNotIn, inB_sign]
    rw [q]
    simp
  simp [d_is_stand, o_is_stand, pLen_sD hM, anyL_sD hM, h, c1]
theorem w_look {n : Nat} {js : List (List Int)} (g : Good n js) : d_look [wD n js] = .val .none := by
  simp [d_look, o_look, w_is_world g]
theorem w_look_stand {n : Nat} {js : List (List Int)} {s : List Bool} (g : Good n js) (h : s.length = n) : d_look_stand [wD n js, sD s] = .val .none := by
  simp [d_look_stand, o_look_stand, w_look g, w_is_stand h g.hi]
def hasT (s : List Bool) (j : List Int) (p : List Bool) : Bool := j.map (fun c => s[c.toNat]?.getD false) == p
def putT (s : List Bool) (j : List Int) (p : List Bool) : List Bool := (List.zip j p).foldl (fun r cb => r.set cb.1.toNat cb.2) s
theorem okDs_cD (n : Nat) (l : List Bool) : okDs n (l.map cD) = true := by
  refine okDs_iff.mpr fun d hd => ?_
  obtain ⟨b, _, rfl⟩ := List.mem_map.mp hd
  rw [cD_sD]
  exact okD_sD n [b]
theorem cD_inj {a b : Bool} (h : cD a = cD b) : a = b := by
  unfold cD at h
  simp at h
  exact sg_inj h
theorem eqv_cDs (l m : List Bool) : PyData.eqv (.list (l.map cD)) (.list (m.map cD)) = (l == m) := by
  have q := eqv_iff 1 1 (.list (l.map cD)) (.list (m.map cD)) (okDs_cD 0 l) (okDs_cD 0 m)
  rw [Bool.eq_iff_iff, q, beq_iff_eq]
  constructor
  · intro h
    have h' : l.map cD = m.map cD := by injection h
    exact (List.map_inj_right fun a b => cD_inj).mp h'
  · intro h; rw [h]
theorem pEq_cDs (l m : List Bool) : pEq (.list (l.map cD)) (.list (m.map cD)) = .val (.bool (l == m)) := by
  rw [pEq_ok (n := 1) (m := 1) (show okD 1 (.list (l.map cD)) = true from okDs_cD 0 l) (show okD 1 (.list (m.map cD)) = true from okDs_cD 0 m), eqv_cDs]
theorem getD_some {s : List Bool} {n a : Nat} (h : s.length = n) (ha : a < n) : s[a]? = some (s[a]?.getD false) := by
  rw [List.getElem?_eq_getElem (by omega)]
  rfl
theorem w_has {n : Nat} {s : List Bool} {j : List Int} {p : List Bool} (h : s.length = n) (hn : n ≤ 12) (hj : JOk n j) (hp : p.length ≤ M) : d_has [sD s, tupD j, sD p] = .val (.bool (hasT s j p)) := by
  have hM := stand_M h hn
  obtain ⟨a, b, c, rfl, h1, h2, h3, -⟩ := hj
  have e := pEq_cDs [s[a]?.getD false, s[b]?.getD false, s[c]?.getD false] p
  simp only [List.map_cons, List.map_nil] at e
  simp [d_has, o_has, tupD, pIx_sD hM (getD_some h h1), pIx_sD hM (getD_some h h2), pIx_sD hM (getD_some h h3), pListOf_sD hp, e, hasT]
@[simp] theorem pZip_ts (xs : List D) (x : Str) (h : x.cps.size ≤ M) : pZip [.tuple xs, .str x] = .val ((zipD xs (signs x)).map .tuple) := by
  show (anyL (.tuple xs) >>= fun ds => (if x.cps.size ≤ M then R.val (signs x) else .stk) >>= fun es => R.val ((zipD ds es).map PyData.tuple)) = _
  rw [if_pos h]
  rfl
theorem pZip_sD (xs : List D) {s : List Bool} (h : s.length ≤ M) : pZip [.tuple xs, sD s] = .val ((zipD xs (s.map cD)).map .tuple) := by
  have q := pZip_ts xs (sS s) (by rw [sS_size]; exact h)
  rw [signs_sS] at q
  exact q
theorem w_put {n : Nat} {s : List Bool} {j : List Int} {x y z : Bool} (h : s.length = n) (hn : n ≤ 12) (hj : JOk n j) : d_put [sD s, tupD j, sD [x, y, z]] = .val (sD (putT s j [x, y, z])) := by
  have hM := stand_M h hn
  obtain ⟨a, b, c, rfl, h1, h2, h3, -⟩ := hj
  have hz : ([x, y, z] : List Bool).length ≤ M := by show 3 ≤ 16777216; decide
  have j1 := join_sD (putT s [(a : Int), b, c] [x, y, z]) (by simp [putT]; exact hM)
  simp only [putT, List.zip_cons_cons, List.zip_nil_left, List.foldl_cons, List.foldl_nil, Int.toNat_natCast] at j1 ⊢
  simp [d_put, o_put, tupD, pListOf_sD hM, pZip_sD _ hz, zipD, frz, ixN_nat, h, h1, h2, h3]
  rw [List.map_set, List.map_set, List.map_set] at j1
  simp [j1]
def stepT (js : List (List Int)) (s p q : List Bool) : List (Nat × List Bool) := (js.zipIdx.filter fun x => hasT s x.1 p).map fun x => (x.2, putT s x.1 q)
def mvD (m : Nat × List Bool) : D := .tuple [.int m.1, sD m.2]
abbrev pegs2 : List Bool := [true, true, false]
abbrev pegs1 : List Bool := [false, false, true]
theorem enum_eq (js : List (List Int)) : pEnum [.tuple (js.map tupD)] = .val (js.zipIdx.map fun p => .tuple [.int (p.2 : Nat), tupD p.1]) := by
  show R.val ((enumD (js.map tupD)).map PyData.tuple) = _
  congr 1
  unfold enumD
  rw [List.zipIdx_map, List.map_map, List.map_map]
  rfl
theorem zipIdx_mem {α : Type} {l : List α} {p : α × Nat} (h : p ∈ l.zipIdx) : p.1 ∈ l ∧ l[p.2]? = some p.1 := by
  have q := List.mem_zipIdx_iff_getElem?.mp h
  exact ⟨List.mem_of_getElem? q, q⟩
theorem w_moves_of {n : Nat} {js : List (List Int)} {s : List Bool} (g : Good n js) (h : s.length = n) : d_moves_of [wD n js, sD s] = .val (.list ((stepT js s pegs2 pegs1).map mvD)) := by
  have q := for_gather (b := bAny 2 (bCons (bName 3) (bCons (bName 4) bNil))) (wp := [3, 4]) (body := oIf (dTru (dApp d_has [dVar 1, dVar 4, dC (.str (PySem.Str.ofString "oo."))])) (oApp 2 (dTup [dVar 3, dApp d_put [dVar 1, dVar 4, dC (.str (PySem.Str.ofString "..o"))]])) oNext)
    (fun p : List Int × Nat => .tuple [.int (p.2 : Nat), tupD p.1]) (fun acc => [.fz (wD n js), .fz (sD s), .ol acc, .un, .un]) (fun p => hasT s p.1 pegs2) (fun p => mvD (p.2, putT s p.1 pegs1)) js.zipIdx [] (by have := g.few; rw [List.length_zipIdx]; show 0 + js.length ≤ 16777216; omega) fun p hp acc hacc => by
      have hj := g.ok p.1 (zipIdx_mem hp).1
      have e1 := w_has (p := pegs2) h g.hi hj (by show 3 ≤ 16777216; decide)
      have e2 := w_put (x := false) (y := false) (z := true) h g.hi hj
      rw [show sD pegs2 = .str (PySem.Str.ofString "oo.") by rw [sS_oo]; rfl] at e1
      rw [show sD [false, false, true] = .str (PySem.Str.ofString "..o") by rw [sS_no]; rfl] at e2
      cases hh : hasT s p.1 pegs2 with
      | true => exact ⟨[.fz (wD n js), .fz (sD s), .ol acc, .fz (.int p.2), .fz (tupD p.1)], [.fz (wD n js), .fz (sD s), .ol (acc ++ [mvD (p.2, putT s p.1 pegs1)]), .fz (.int p.2), .fz (tupD p.1)], by simp, by simp [e1, hh, e2, hacc, mvD], by simp⟩
      | false => exact ⟨[.fz (wD n js), .fz (sD s), .ol acc, .fz (.int p.2), .fz (tupD p.1)], [.fz (wD n js), .fz (sD s), .ol acc, .fz (.int p.2), .fz (tupD p.1)], by simp, by simp [e1, hh], by simp⟩
  simp [d_moves_of, o_moves_of, enum_eq, q, frz, stepT, Function.comp_def]
theorem w_back_of {n : Nat} {js : List (List Int)} {s : List Bool} (g : Good n js) (h : s.length = n) : d_back_of [wD n js, sD s] = .val (.list ((stepT js s pegs1 pegs2).map mvD)) := by
  have q := for_gather (b := bAny 2 (bCons (bName 3) (bCons (bName 4) bNil))) (wp := [3, 4]) (body := oIf (dTru (dApp d_has [dVar 1, dVar 4, dC (.str (PySem.Str.ofString "..o"))])) (oApp 2 (dTup [dVar 3, dApp d_put [dVar 1, dVar 4, dC (.str (PySem.Str.ofString "oo."))]])) oNext)
    (fun p : List Int × Nat => .tuple [.int (p.2 : Nat), tupD p.1]) (fun acc => [.fz (wD n js), .fz (sD s), .ol acc, .un, .un]) (fun p => hasT s p.1 pegs1) (fun p => mvD (p.2, putT s p.1 pegs2)) js.zipIdx [] (by have := g.few; rw [List.length_zipIdx]; show 0 + js.length ≤ 16777216; omega) fun p hp acc hacc => by
      have hj := g.ok p.1 (zipIdx_mem hp).1
      have e1 := w_has (p := pegs1) h g.hi hj (by show 3 ≤ 16777216; decide)
      have e2 := w_put (x := true) (y := true) (z := false) h g.hi hj
      rw [show sD pegs1 = .str (PySem.Str.ofString "..o") by rw [sS_no]; rfl] at e1
      rw [show sD [true, true, false] = .str (PySem.Str.ofString "oo.") by rw [sS_oo]; rfl] at e2
      cases hh : hasT s p.1 pegs1 with
      | true => exact ⟨[.fz (wD n js), .fz (sD s), .ol acc, .fz (.int p.2), .fz (tupD p.1)], [.fz (wD n js), .fz (sD s), .ol (acc ++ [mvD (p.2, putT s p.1 pegs2)]), .fz (.int p.2), .fz (tupD p.1)], by simp, by simp [e1, hh, e2, hacc, mvD], by simp⟩
      | false => exact ⟨[.fz (wD n js), .fz (sD s), .ol acc, .fz (.int p.2), .fz (tupD p.1)], [.fz (wD n js), .fz (sD s), .ol acc, .fz (.int p.2), .fz (tupD p.1)], by simp, by simp [e1, hh], by simp⟩
  simp [d_back_of, o_back_of, enum_eq, q, frz, stepT, Function.comp_def]
theorem putT_length (s : List Bool) (j : List Int) (p : List Bool) : (putT s j p).length = s.length := by
  unfold putT
  generalize List.zip j p = l
  induction l generalizing s with
  | nil => rfl
  | cons c r ih => rw [List.foldl_cons, ih, List.length_set]
theorem jumpAt {n : Nat} {js : List (List Int)} {i : Nat} {j : List Int} (h : js[i]? = some j) : pIx (.tuple (js.map tupD)) (.int i) = .val (tupD j) := by
  rw [pIx_tuple, atI_nat', List.getElem?_map, h]
  rfl
theorem str_n : PyData.str (PySem.Str.ofString ".") = cD false := by rw [sS_n, cD_sD]; rfl
theorem str_o : PyData.str (PySem.Str.ofString "o") = cD true := by rw [sS_o, cD_sD]; rfl
theorem pEq_cc (a b : Bool) : pEq (cD a) (cD b) = .val (.bool (a == b)) := by
  have ka : okD 0 (cD a) = true := by rw [cD_sD]; exact okD_sD 0 _
  have kb : okD 0 (cD b) = true := by rw [cD_sD]; exact okD_sD 0 _
  by_cases h : a = b
  · subst h
    rw [pEq_same ka, beq_self_eq_true]
  · rw [pEq_not ka kb (fun e => h (cD_inj e))]
    have : (a == b) = false := by simpa using h
    rw [this]
abbrev lD (ns : List Int) : D := .list (ns.map .int)
def cellT (ns : List Int) (k : Nat) : Int := ns[k]?.getD 0
def seedT (s k : Int) : Int := ((s * 1103515245 + 7919 * k + 12345) % 2147483647) ^ 5 % 2147483647
theorem seedT_nn (s k : Int) : 0 ≤ seedT s k := Int.emod_nonneg _ (by decide)
theorem w_cell (ns : List Int) (k : Nat) : d__law_cell [lD ns, .int k] = .val (.int (cellT ns k)) := by
  by_cases h : k < ns.length
  · have h' : (k : Int) < ns.length := by omega
    simp [d__law_cell, o__law_cell, h', cellT, h]
  · have h' : ¬ (k : Int) < ns.length := by omega
    simp [d__law_cell, o__law_cell, h', cellT, h]
theorem w_seed (s k : Int) : d__law_seed [.int s, .int k] = .val (.int (seedT s k)) := by
  have h0 : (0 : Int) ≤ (s * 1103515245 + 7919 * k + 12345) % 2147483647 := Int.emod_nonneg _ (by decide)
  have h1 : (s * 1103515245 + 7919 * k + 12345) % 2147483647 < 2147483647 := Int.emod_lt_of_pos _ (by decide)
  have h2 : ((s * 1103515245 + 7919 * k + 12345) % 2147483647).natAbs < 18446744073709551616 := by omega
  simp [d__law_seed, o__law_seed, mul_eqL, mul_eqR, mod_eq, pow_eq, h2, seedT]
theorem w_pick {s m : Int} (h : 0 < m) : d__law_pick [.int s, .int m] = .val (.int (s / 97 % m)) := by
  simp [d__law_pick, o__law_pick, div_eq, mod_eq, h]
theorem cutL_take {α : Type} (xs : List α) (k : Nat) : cutL xs none (some (k : Int)) = xs.take k := by
  unfold cutL
  rw [HT.sIx_nat, HT.sIx_none, Nat.sub_zero]
  show xs.take (min k xs.length) = _
  by_cases h : k ≤ xs.length
  · rw [Nat.min_eq_left h]
  · rw [Nat.min_eq_right (by omega), List.take_of_length_le (Nat.le_refl _), List.take_of_length_le (by omega)]
theorem JOk_len {n : Nat} {j : List Int} (h : JOk n j) : j.length = 3 := by
  obtain ⟨a, b, c, rfl, -⟩ := h
  rfl
theorem okTups_of {n : Nat} {ts : List (List Int)} (hn : n ≤ 12) (h : ∀ j ∈ ts, JOk n j) (hl : ts.length < 64) : okTups ts = true := by
  unfold okTups
  rw [decide_eq_true hl, Bool.true_and]
  cases ts with
  | nil => rfl
  | cons t r =>
    have ht := JOk_len (h t List.mem_cons_self)
    show (decide (1 ≤ t.length) && (t :: r).all fun u => decide (u.length = t.length) && u.all fun x => decide (0 ≤ x) && decide (x < 64)) = true
    rw [ht, Bool.and_eq_true]
    refine ⟨rfl, List.all_eq_true.mpr fun u hu => ?_⟩
    have q := h u hu
    rw [JOk_len q, Bool.and_eq_true]
    refine ⟨rfl, List.all_eq_true.mpr fun x hx => ?_⟩
    obtain ⟨a, b, c, rfl, h1, h2, h3, -⟩ := q
    rw [Bool.and_eq_true, decide_eq_true_iff, decide_eq_true_iff]
    simp at hx
    omega
theorem asTups_map (ts : List (List Int)) : asTups (ts.map tupD) = some ts := by
  induction ts with
  | nil => rfl
  | cons t r ih =>
    rw [List.map_cons]
    show (match asInts (t.map PyData.int), asTups (r.map tupD) with
      | some n, some ns => some (n :: ns)
      | _, _ => none) = _
    rw [asInts_map, ih]
theorem strict_of {ts : List (List Int)} (h : ts.Pairwise fun a b => leL a b = true) (k : ts.Nodup) : ts.Pairwise fun a b => geL a b = false := by
  refine (h.and k).imp fun {a b} q => ?_
  cases e : geL a b with
  | false => rfl
  | true => exact absurd (leL_anti (show leL a b = true from q.1) (show leL b a = true from e)) q.2
/-- what the rows of jumps make -/
def jumpsOf (ts : List (List Int)) : List (List Int) := (srtT ts.eraseDups).take 16
theorem good_of {n : Nat} {ts : List (List Int)} (h1 : 3 ≤ n) (h2 : n ≤ 12) (h : ∀ j ∈ ts, JOk n j) : Good n (jumpsOf ts) where
  lo := h1
  hi := h2
  few := by unfold jumpsOf; rw [List.length_take]; exact Nat.min_le_left _ _
  ok := fun j hj => by
    have q := List.mem_of_mem_take hj
    rw [(srtT_perm _).mem_iff, List.mem_eraseDups] at q
    exact h j q
  up := by
    have nd : (srtT ts.eraseDups).Nodup := (srtT_perm _).nodup_iff.mpr (eraseDupsL_nodup _ _ (Nat.le_refl _))
    exact (strict_of (srtT_pw _) nd).sublist (List.take_sublist _ _)
theorem setSort_eq {n : Nat} {ts : List (List Int)} (hn : n ≤ 12) (h : ∀ j ∈ ts, JOk n j) (hl : ts.length < 64) : setSortD (ts.map tupD) = .val ((srtT ts.eraseDups).map tupD) := by
  unfold setSortD
  rw [asTups_map]
  show (if okTups ts then _ else _) = _
  rw [okTups_of hn h hl]
  rfl
/-- a loop that lays rows behind a list -/
theorem for_rows {α : Type} {b : D → En → Option En} {wp : List Nat} {body : En → Out} (en : α → D) (st : Bool → List D → En) (f : α → List D) (c : Nat) : ∀ (xs : List α) (k : Bool) (acc : List D), acc.length + xs.length * c ≤ M → (∀ x ∈ xs, (f x).length ≤ c) →
    (∀ x ∈ xs, ∀ (k : Bool) (acc : List D), acc.length + c ≤ M → ∃ ρ ρ', b (en x) (st k acc) = some ρ ∧ (body ρ = .nx ρ' ∨ body ρ = .ct ρ') ∧ fgt wp ρ' = st true (acc ++ f x)) →
    ∃ k', oTurns b wp body (xs.map en) (st k acc) = .nx (st k' (acc ++ xs.flatMap f))
  | [], k, acc, _, _, _ => ⟨k, by simp⟩
  | x :: r, k, acc, hl, hc, h => by
    rw [List.length_cons, Nat.add_mul, Nat.one_mul] at hl
    obtain ⟨ρ, ρ', h2, h3, h4⟩ := h x List.mem_cons_self k acc (by omega)
    have e : oTurns b wp body ((x :: r).map en) (st k acc) = oTurns b wp body (r.map en) (fgt wp ρ') := by
      rw [List.map_cons, oTurns_cons, h2, turnO_some]
      rcases h3 with h3 | h3 <;> rw [h3] <;> rfl
    have hx := hc x List.mem_cons_self
    obtain ⟨k', q⟩ := for_rows en st f c r true (acc ++ f x) (by rw [List.length_append]; omega) (fun y hy => hc y (List.mem_cons_of_mem _ hy)) fun y hy => h y (List.mem_cons_of_mem _ hy)
    refine ⟨k', ?_⟩
    rw [e, h4, q, List.flatMap_cons, List.append_assoc]
theorem rng_eq (n : Nat) : rng 0 n = (List.range n).map fun (k : Nat) => PyData.int (k : Int) := by
  unfold rng
  refine List.map_congr_left fun k _ => ?_
  rw [Int.zero_add]
theorem rng1_eq (n : Nat) (h : n ≤ 1000000) : pRng1 [.int (n : Int)] = .val ((List.range n).map fun (k : Nat) => PyData.int (k : Int)) := by
  show (if okR (n : Int) then R.val (rng 0 (n : Int).toNat) else .stk) = _
  rw [okR_of (by omega) (by omega), ← rng_eq]
  rfl
@[simp] theorem pPlus_list (xs ys : List D) (h : xs.length + ys.length ≤ M) : pPlus (.list xs) (.list ys) = .val (.list (xs ++ ys)) := by
  show (if xs.length + ys.length ≤ M then R.val (PyData.list (xs ++ ys)) else .stk) = _
  rw [if_pos h]
@[simp] theorem pInt_bool (b : Bool) : pIntOf [.bool b] = .val (.int (if b then 1 else 0)) := rfl
theorem pRepL_0 (xs : List D) (h : xs.length ≤ 1000) : pRepL xs (.int 0) = .val [] := by
  show (if decide (xs.length ≤ 1000) && decide ((0 : Int) ≤ 0) && decide ((0 : Int) ≤ 1000) then R.val (List.replicate 0 xs).flatten else .stk) = _
  rw [decide_eq_true h]; rfl
theorem pRepL_1 (xs : List D) (h : xs.length ≤ 1000) : pRepL xs (.int 1) = .val xs := by
  show (if decide (xs.length ≤ 1000) && decide ((0 : Int) ≤ 1) && decide ((1 : Int) ≤ 1000) then R.val (List.replicate 1 xs).flatten else .stk) = _
  rw [decide_eq_true h]
  show R.val (List.replicate 1 xs).flatten = _
  simp
theorem inB_two (c a b : Int) : inB (.int c) (.tuple [.int a, .int b]) = .val (decide (a = c) || decide (b = c)) := by
  simp [inB, SeqAt.shaped, PyData.canLay0, PyData.canLayAll0, PyData.depth, PyData.depthAll, PyData.eqv]
  by_cases h : a = c <;> by_cases k : b = c <;> simp [h, k]
/-- the first shape -/
def rowsA (k : Nat) : List (List Int) := [[(k : Int), k + 1, k + 2], [(k : Int) + 2, k + 1, k]]
def rowsB (n k : Nat) : List (List Int) := (if k % 4 < 2 ∧ k + 2 < n then [[(k : Int), k + 1, k + 2]] else []) ++ (if k + 8 < n then [[(k : Int), k + 4, k + 8], [(k : Int) + 8, k + 4, k]] else [])
theorem rowsA_ok {n k : Nat} (h : k < n - 2) : ∀ j ∈ rowsA k, JOk n j := by
  intro j hj
  simp [rowsA] at hj
  rcases hj with e | e <;> subst e
  · exact ⟨k, k + 1, k + 2, by simp, by omega, by omega, by omega, by omega, by omega, by omega⟩
  · exact ⟨k + 2, k + 1, k, by simp, by omega, by omega, by omega, by omega, by omega, by omega⟩
theorem rowsB_ok {n k : Nat} (h : k < n) : ∀ j ∈ rowsB n k, JOk n j := by
  intro j hj
  unfold rowsB at hj
  rw [List.mem_append] at hj
  rcases hj with hj | hj
  · split at hj
    · rename_i c
      simp at hj
      subst hj
      exact ⟨k, k + 1, k + 2, by simp, by omega, by omega, by omega, by omega, by omega, by omega⟩
    · simp at hj
  · split at hj
    · rename_i c
      simp at hj
      rcases hj with e | e <;> subst e
      · exact ⟨k, k + 4, k + 8, by simp, by omega, by omega, by omega, by omega, by omega, by omega⟩
      · exact ⟨k + 8, k + 4, k, by simp, by omega, by omega, by omega, by omega, by omega, by omega⟩
    · simp at hj
theorem flat_tup {α : Type} (l : List α) (f : α → List (List Int)) : (l.flatMap fun x => (f x).map tupD) = (l.flatMap f).map tupD := by
  rw [List.map_flatMap]
theorem flat_len {α : Type} (f : α → List (List Int)) (c : Nat) : ∀ (l : List α), (∀ x ∈ l, (f x).length ≤ c) → (l.flatMap f).length ≤ l.length * c
  | [], _ => by simp
  | x :: r, h => by
    have ih := flat_len f c r fun y hy => h y (List.mem_cons_of_mem _ hy)
    have hx := h x List.mem_cons_self
    rw [List.flatMap_cons, List.length_append, List.length_cons, Nat.add_mul, Nat.one_mul]
    omega
theorem many_of (x y : Int) (hx : 0 ≤ x) (hy : 0 ≤ y) : ∃ n : Nat, 3 ≤ n ∧ n ≤ 12 ∧ L2.atI [PyData.int (3 + y / 5 % 10), .int 12, .int 6, .int 9] (x / 7 % 4) = some (.int n) := by
  have h1 : 0 ≤ x / 7 % 4 := Int.emod_nonneg _ (by decide)
  have h2 : x / 7 % 4 < 4 := Int.emod_lt_of_pos _ (by decide)
  have h3 : 0 ≤ y / 5 % 10 := Int.emod_nonneg _ (by decide)
  have h4 : y / 5 % 10 < 10 := Int.emod_lt_of_pos _ (by decide)
  generalize x / 7 % 4 = u at h1 h2
  generalize y / 5 % 10 = v at h3 h4
  have hu : u = 0 ∨ u = 1 ∨ u = 2 ∨ u = 3 := by omega
  rcases hu with e | e | e | e <;> subst e
  · exact ⟨(3 + v).toNat, by omega, by omega, by simp; omega⟩
  · exact ⟨12, by omega, by omega, rfl⟩
  · exact ⟨6, by omega, by omega, rfl⟩
  · exact ⟨9, by omega, by omega, rfl⟩
/-- the third shape: what one turn draws -/
theorem third_of {n : Nat} (h1 : 3 ≤ n) (one : Int) (h0 : 0 ≤ one) : ∃ (a b c : Nat), a < n ∧ b < n ∧ c < n ∧ a ≠ b ∧ a ≠ c ∧ b ≠ c ∧ one / 5 % n = a ∧ (one / 5 % n + 1 + one / 7 % ((n : Int) - 1)) % n = b ∧
    ∃ rest : List Nat, rest = (List.range n).filter (fun k => !(k == a || k == b)) ∧ 0 < rest.length ∧ rest[(one / 11 % (rest.length : Int)).toNat]? = some c ∧ 0 ≤ one / 11 % (rest.length : Int) := by
  have n0 : (0 : Int) < n := by omega
  have a0 : 0 ≤ one / 5 % (n : Int) := Int.emod_nonneg _ (by omega)
  have a1 : one / 5 % (n : Int) < n := Int.emod_lt_of_pos _ n0
  have s0 : 0 ≤ one / 7 % ((n : Int) - 1) := Int.emod_nonneg _ (by omega)
  have s1 : one / 7 % ((n : Int) - 1) < (n : Int) - 1 := Int.emod_lt_of_pos _ (by omega)
  generalize one / 5 % (n : Int) = u at a0 a1
  generalize one / 7 % ((n : Int) - 1) = v at s0 s1
  have b0 : 0 ≤ (u + 1 + v) % (n : Int) := Int.emod_nonneg _ (by omega)
  have b1 : (u + 1 + v) % (n : Int) < n := Int.emod_lt_of_pos _ n0
  have ne : (u + 1 + v) % (n : Int) ≠ u := by
    intro e
    by_cases q : u + 1 + v < n
    · rw [Int.emod_eq_of_lt (by omega) q] at e; omega
    · have q2 : (u + 1 + v) % (n : Int) = u + 1 + v - n := by
        have q3 : u + 1 + v = (u + 1 + v - n) + n * 1 := by omega
        rw [q3, Int.add_mul_emod_self_left, Int.emod_eq_of_lt (by omega) (by omega)]
        omega
      rw [q2] at e; omega
  generalize (u + 1 + v) % (n : Int) = t at b0 b1 ne
  have ha : u.toNat < n := by omega
  have hb : t.toNat < n := by omega
  have hab : u.toNat ≠ t.toNat := by omega
  have hpos : 0 < ((List.range n).filter (fun k => !(k == u.toNat || k == t.toNat))).length := by
    rw [List.length_pos_iff_exists_mem]
    have hc : ∃ k, k < n ∧ k ≠ u.toNat ∧ k ≠ t.toNat := by
      by_cases z0 : u.toNat ≠ 0 ∧ t.toNat ≠ 0
      · exact ⟨0, by omega, by omega, by omega⟩
      · by_cases z1 : u.toNat ≠ 1 ∧ t.toNat ≠ 1
        · exact ⟨1, by omega, by omega, by omega⟩
        · exact ⟨2, by omega, by omega, by omega⟩
    obtain ⟨k, k1, k2, k3⟩ := hc
    exact ⟨k, List.mem_filter.mpr ⟨List.mem_range.mpr k1, by simp [k2, k3]⟩⟩
  have c0 : 0 ≤ one / 11 % (((List.range n).filter (fun k => !(k == u.toNat || k == t.toNat))).length : Int) := Int.emod_nonneg _ (by omega)
  have c1 : one / 11 % (((List.range n).filter (fun k => !(k == u.toNat || k == t.toNat))).length : Int) < (((List.range n).filter (fun k => !(k == u.toNat || k == t.toNat))).length : Int) := Int.emod_lt_of_pos _ (by omega)
  generalize hr : (List.range n).filter (fun k => !(k == u.toNat || k == t.toNat)) = rest at hpos c0 c1
  have hi : (one / 11 % (rest.length : Int)).toNat < rest.length := by omega
  have hc : rest[(one / 11 % (rest.length : Int)).toNat] ∈ rest := List.getElem_mem hi
  have q := List.mem_filter.mp (by rw [hr]; exact hc : rest[(one / 11 % (rest.length : Int)).toNat] ∈ (List.range n).filter (fun k => !(k == u.toNat || k == t.toNat)))
  have q1 := List.mem_range.mp q.1
  have q2 := q.2
  simp at q2
  exact ⟨u.toNat, t.toNat, rest[(one / 11 % (rest.length : Int)).toNat], ha, hb, q1, hab, fun e => q2.1 e.symm, fun e => q2.2 e.symm, by omega, by omega, rest, hr.symm, hpos, List.getElem?_eq_getElem hi, c0⟩
/-- the jumps drawn make a world -/
theorem world_end {n : Nat} {ts : List (List Int)} {ρ : En} {sl : Sl} (h1 : 3 ≤ n) (h2 : n ≤ 12) (h : ∀ j ∈ ts, JOk n j) (hl : ts.length < 64) (e3 : ρ[3]? = some (.fz (.int n))) (e4 : ρ[4]? = some sl) (es : frzSl sl = .fz (.list (ts.map tupD))) :
    fin (oPre (frzs [4]) (oRet (dTup [dVar 3, dSl (dApp pTupOf [dL (dSetSort (dVar 4))]) dNoP (dP (dC (.int 16)))])) ρ) = .val (wD n (jumpsOf ts)) := by
  have hi : 4 < ρ.length := (List.getElem?_eq_some_iff.mp e4).1
  have f4 : (frz 4 ρ)[4]? = some (.fz (.list (ts.map tupD))) := by
    rw [frz_eq 4 ρ sl e4, List.getElem?_set_self hi, es]
  have f3 : (frz 4 ρ)[3]? = some (.fz (.int n)) := by
    rw [frz_eq 4 ρ sl e4, List.getElem?_set_ne (by decide), e3]
  have c := cutL_take ((srtT ts.eraseDups).map tupD) 16
  simp [f3, f4, setSort_eq h2 h hl, wD, jumpsOf]
  have c' : cutL ((srtT ts.eraseDups).map tupD) none (some 16) = ((srtT ts.eraseDups).map tupD).take 16 := c
  exact c'
theorem w_world (ns : List Int) (k : Nat) : ∃ (n : Nat) (js : List (List Int)), Good n js ∧ d__law_world [lD ns, .int k] = .val (wD n js) := by
  obtain ⟨n, n1, n2, hn⟩ := many_of (seedT (cellT ns k) 0) (seedT (cellT ns k) 0) (seedT_nn _ _) (seedT_nn _ _)
  have x0 := seedT_nn (cellT ns k) 0
  generalize hx : seedT (cellT ns k) 0 = x at hn x0
  have m0 : 0 ≤ x / 11 % 3 := Int.emod_nonneg _ (by decide)
  have m1 : x / 11 % 3 < 3 := Int.emod_lt_of_pos _ (by decide)
  by_cases c0 : x / 11 % 3 = 0
  · -- the first shape
    obtain ⟨k', q⟩ := for_rows (b := bName 5) (wp := [5]) (body := oPre (frzs [4]) (oSet 4 (dBin pPlus (dVar 4) (dL (dArgs [dTup [dVar 5, dBin pPlus (dVar 5) (dC (.int 1)), dBin pPlus (dVar 5) (dC (.int 2))], dTup [dBin pPlus (dVar 5) (dC (.int 2)), dBin pPlus (dVar 5) (dC (.int 1)), dVar 5]])))))
      (fun k : Nat => PyData.int (k : Int)) (fun z acc => [.fz (lD ns), .fz (.int k), .fz (.int x), .fz (.int n), if z then .fz (.list acc) else .ol acc, .un, .un, .un, .un, .un, .un]) (fun k => (rowsA k).map tupD) 2 (List.range (n - 2)) false [] (by rw [List.length_range]; show 0 + _ ≤ 16777216; omega) (fun y _ => by simp [rowsA]) fun y hy z acc hacc => by
        have hM : acc.length + 2 ≤ 16777216 := hacc
        cases z with
        | true => exact ⟨_, _, rfl, .inl (by simp [frz, hacc]; rfl), by simp [rowsA, tupD]⟩
        | false => exact ⟨_, _, rfl, .inl (by simp [frz, hacc]; rfl), by simp [rowsA, tupD]⟩
    refine ⟨n, jumpsOf ((List.range (n - 2)).flatMap rowsA), good_of n1 n2 fun j hj => ?_, ?_⟩
    · obtain ⟨y, hy, hj⟩ := List.mem_flatMap.mp hj
      exact rowsA_ok (List.mem_range.mp hy) j hj
    · have w := world_end (ρ := [.fz (lD ns), .fz (.int k), .fz (.int x), .fz (.int n), if k' then .fz (.list (((List.range (n - 2)).flatMap rowsA).map tupD)) else .ol (((List.range (n - 2)).flatMap rowsA).map tupD), .un, .un, .un, .un, .un, .un]) (ts := (List.range (n - 2)).flatMap rowsA) n1 n2 (fun j hj => by
          obtain ⟨y, hy, hj⟩ := List.mem_flatMap.mp hj
          exact rowsA_ok (List.mem_range.mp hy) j hj) (by
          have := flat_len rowsA 2 (List.range (n - 2)) (fun y _ => by simp [rowsA])
          rw [List.length_range] at this
          omega) rfl rfl (by cases k' <;> rfl)
      have r1 := rng1_eq (n - 2) (by omega)
      rw [show ((n - 2 : Nat) : Int) = (n : Int) - 2 by omega] at r1
      rw [flat_tup] at q
      rw [if_neg Bool.false_ne_true, List.nil_append] at q
      simp [d__law_world, o__law_world, w_cell, w_seed, hx, div_eq, mod_eq, hn, c0, r1]
      rw [q, thenO_nx]
      exact w
  by_cases c1 : x / 11 % 3 = 1
  · -- the second shape
    have n0 : (0 : Int) < n := by omega
    obtain ⟨k', q⟩ := for_rows (b := bName 5) (wp := [5]) (body := oSeq (oPre (frzs [4]) (oSet 4 (dBin pPlus (dVar 4) (dL (dRep (dArgs [dTup [dVar 5, dBin pPlus (dVar 5) (dC (.int 1)), dBin pPlus (dVar 5) (dC (.int 2))]]) (dApp pIntA [dAndV (dBin pLt (dBin pMod (dVar 5) (dC (.int 4))) (dC (.int 2))) (dBin pLt (dBin pPlus (dVar 5) (dC (.int 2))) (dVar 3))]))))))
        (oPre (frzs [4]) (oSet 4 (dBin pPlus (dVar 4) (dL (dRep (dArgs [dTup [dVar 5, dBin pPlus (dVar 5) (dC (.int 4)), dBin pPlus (dVar 5) (dC (.int 8))], dTup [dBin pPlus (dVar 5) (dC (.int 8)), dBin pPlus (dVar 5) (dC (.int 4)), dVar 5]]) (dApp pIntA [dBin pLt (dBin pPlus (dVar 5) (dC (.int 8))) (dVar 3)])))))))
      (fun k : Nat => PyData.int (k : Int)) (fun z acc => [.fz (lD ns), .fz (.int k), .fz (.int x), .fz (.int n), if z then .fz (.list acc) else .ol acc, .un, .un, .un, .un, .un, .un]) (fun k => (rowsB n k).map tupD) 3 (List.range n) false [] (by rw [List.length_range]; show 0 + _ ≤ 16777216; omega) (fun y _ => by
        rw [List.length_map]; unfold rowsB; rw [List.length_append]
        have e1 : (if y % 4 < 2 ∧ y + 2 < n then [[(y : Int), y + 1, y + 2]] else []).length ≤ 1 := by split <;> simp
        have e2 : (if y + 8 < n then [[(y : Int), y + 4, y + 8], [(y : Int) + 8, y + 4, y]] else []).length ≤ 2 := by split <;> simp
        omega) fun y hy z acc hacc => by
        have hM : acc.length + 3 ≤ 16777216 := hacc
        have p1 : (y : Int) % 4 < 2 ↔ y % 4 < 2 := by omega
        have p2 : (y : Int) + 2 < n ↔ y + 2 < n := by omega
        have p3 : (y : Int) + 8 < n ↔ y + 8 < n := by omega
        have a1 : acc.length + 1 ≤ 16777216 := by omega
        have a2 : acc.length + 1 + 2 ≤ 16777216 := by omega
        have a3 : acc.length + 2 ≤ 16777216 := by omega
        have a4 : acc.length ≤ 16777216 := by omega
        by_cases u1 : y % 4 < 2 <;> by_cases u2 : y + 2 < n <;> by_cases u3 : y + 8 < n <;> cases z <;>
          exact ⟨_, _, rfl, .inl (by simp [frz, mod_eq, p1, p2, p3, u1, u2, u3, pRepL_0, pRepL_1, a1, a2, a3, a4]; rfl), by simp [rowsB, tupD, u1, u2, u3]⟩
    refine ⟨n, jumpsOf ((List.range n).flatMap (rowsB n)), good_of n1 n2 fun j hj => ?_, ?_⟩
    · obtain ⟨y, hy, hj⟩ := List.mem_flatMap.mp hj
      exact rowsB_ok (List.mem_range.mp hy) j hj
    · have w := world_end (ρ := [.fz (lD ns), .fz (.int k), .fz (.int x), .fz (.int n), if k' then .fz (.list (((List.range n).flatMap (rowsB n)).map tupD)) else .ol (((List.range n).flatMap (rowsB n)).map tupD), .un, .un, .un, .un, .un, .un]) (ts := (List.range n).flatMap (rowsB n)) n1 n2 (fun j hj => by
          obtain ⟨y, hy, hj⟩ := List.mem_flatMap.mp hj
          exact rowsB_ok (List.mem_range.mp hy) j hj) (by
          have := flat_len (rowsB n) 3 (List.range n) (fun y _ => by
            unfold rowsB; rw [List.length_append]
            have e1 : (if y % 4 < 2 ∧ y + 2 < n then [[(y : Int), y + 1, y + 2]] else []).length ≤ 1 := by split <;> simp
            have e2 : (if y + 8 < n then [[(y : Int), y + 4, y + 8], [(y : Int) + 8, y + 4, y]] else []).length ≤ 2 := by split <;> simp
            omega)
          rw [List.length_range] at this
          omega) rfl rfl (by cases k' <;> rfl)
      have r1 := rng1_eq n (by omega)
      rw [flat_tup] at q
      rw [if_neg Bool.false_ne_true, List.nil_append] at q
      simp [d__law_world, o__law_world, w_cell, w_seed, hx, div_eq, mod_eq, hn, c0, c1, r1]
      rw [q, thenO_nx]
      exact w
  · -- the third shape
    have n0 : (0 : Int) < n := by omega
    have n1' : (0 : Int) < (n : Int) - 1 := by omega
    let one : Nat → Int := fun y => seedT (cellT ns (k + 1 + y % 3) + 41 * (y : Int)) y
    let jmp : Nat → List Int := fun y => match third_of n1 (one y) (seedT_nn _ _) with | h => [(h.choose : Int), (h.choose_spec.choose : Int), (h.choose_spec.choose_spec.choose : Int)]
    have hj : ∀ y, JOk n (jmp y) := fun y => by
      have h := third_of n1 (one y) (seedT_nn _ _)
      obtain ⟨z1, z2, z3, z4, z5, z6, -⟩ := h.choose_spec.choose_spec.choose_spec
      exact ⟨_, _, _, rfl, z1, z2, z3, z4, z5, z6⟩
    have m2 : 0 ≤ x / 13 % 17 := Int.emod_nonneg _ (by decide)
    have m3 : x / 13 % 17 < 17 := Int.emod_lt_of_pos _ (by decide)
    obtain ⟨m, hm⟩ : ∃ m : Nat, x / 13 % 17 = m := ⟨(x / 13 % 17).toNat, by omega⟩
    have q := for_gather (b := bName 5) (wp := [5, 6, 7, 8, 9]) (body := oSeq (oSet 6 (dApp d__law_seed [dBin pPlus (dApp d__law_cell [dVar 0, dBin pPlus (dBin pPlus (dVar 1) (dC (.int 1))) (dBin pMod (dVar 5) (dC (.int 3)))]) (dBin pTimes (dC (.int 41)) (dVar 5)), dVar 5]))
        (oSeq (oSet 7 (dBin pMod (dBin pDiv (dVar 6) (dC (.int 5))) (dVar 3)))
        (oSeq (oSet 8 (dBin pMod (dBin pPlus (dBin pPlus (dVar 7) (dC (.int 1))) (dBin pMod (dBin pDiv (dVar 6) (dC (.int 7))) (dBin pSub (dVar 3) (dC (.int 1))))) (dVar 3)))
        (oSeq (oSet 9 (dL (dLc [10] (dApp pRng1 [dVar 3]) (bName 10) (dTst (dBin pNotIn (dVar 10) (dTup [dVar 7, dVar 8]))) (dVar 10))))
        (oApp 4 (dTup [dVar 7, dVar 8, dBin pIx (dVar 9) (dBin pMod (dBin pDiv (dVar 6) (dC (.int 11))) (dApp pLen [dVar 9]))]))))))
      (fun y : Nat => PyData.int (y : Int)) (fun acc => [.fz (lD ns), .fz (.int k), .fz (.int x), .fz (.int n), .ol acc, .un, .un, .un, .un, .un, .un]) (fun _ => true) (fun y => tupD (jmp y)) (List.range m) [] (by rw [List.length_range]; show 0 + m ≤ 16777216; omega) fun y hy acc hacc => by
        have h := third_of n1 (one y) (seedT_nn _ _)
        obtain ⟨z1, z2, z3, z4, z5, z6, za, zb, rest, hr, hpos, hc, hc0⟩ := h.choose_spec.choose_spec.choose_spec
        have ej : jmp y = [(h.choose : Int), (h.choose_spec.choose : Int), (h.choose_spec.choose_spec.choose : Int)] := rfl
        generalize h.choose_spec.choose_spec.choose = c at z3 z5 z6 hc ej
        generalize h.choose_spec.choose = b' at z2 z4 z6 zb hr ej
        generalize h.choose = a at z1 z4 z5 za hr ej
        have hcell : d__law_cell [lD ns, .int ((k : Int) + 1 + (y : Int) % 3)] = .val (.int (cellT ns (k + 1 + y % 3))) := by
          rw [show ((k : Int) + 1 + (y : Int) % 3) = ((k + 1 + y % 3 : Nat) : Int) by omega]
          exact w_cell ns _
        have hone : seedT (cellT ns (k + 1 + y % 3) + 41 * (y : Int)) (y : Int) = one y := rfl
        have r1 := rng1_eq n (by omega)
        have cmp : lcTurns (bName 10) (dTst (dBin pNotIn (dVar 10) (dTup [dVar 7, dVar 8]))) (dVar 10) ((List.range n).map fun (k : Nat) => PyData.int (k : Int)) [.fz (lD ns), .fz (.int k), .fz (.int x), .fz (.int n), .ol acc, .fz (.int y), .fz (.int (one y)), .fz (.int a), .fz (.int b'), .un, .un] = .val (rest.map fun (k : Nat) => PyData.int (k : Int)) := by
          rw [hr]
          refine lc_some (fun (k : Nat) => PyData.int (k : Int)) (fun (z : Nat) => [.fz (lD ns), .fz (.int k), .fz (.int x), .fz (.int n), .ol acc, .fz (.int y), .fz (.int (one y)), .fz (.int a), .fz (.int b'), .un, .fz (.int (z : Int))]) (fun z => !(z == a || z == b')) (fun (k : Nat) => PyData.int (k : Int)) _ fun z _ => ⟨by simp, ?_, by simp⟩
          have eb : (!(decide ((a : Int) = z) || decide ((b' : Int) = z))) = !(z == a || z == b') := by
            rw [Bool.eq_iff_iff]
            simp
            omega
          have ei : pNotIn (.int z) (.tuple [.int a, .int b']) = .val (.bool (!(z == a || z == b'))) := by
            unfold pNotIn
            rw [inB_two, R.bind_val, eb]
          show ((dTst (dBin pNotIn (dVar 10) (dTup [dVar 7, dVar 8]))) _) = _
          simp only [ap_dTst, ap_dBin, dVar_eq, ap_dTup, ap_dArgs_cons, ap_dArgs_nil, List.getElem?_cons_succ, List.getElem?_cons_zero, slD_fz, R.bind_val, ei, asB_bool]
        have hat : L2.atI (rest.map fun (k : Nat) => PyData.int (k : Int)) (one y / 11 % (rest.length : Int)) = some (.int c) := atI_of hc0 (by rw [List.getElem?_map, hc]; rfl)
        have hp' : (0 : Int) < rest.length := by omega
        refine ⟨_, [.fz (lD ns), .fz (.int k), .fz (.int x), .fz (.int n), .ol (acc ++ [tupD (jmp y)]), .fz (.int y), .fz (.int (one y)), .fz (.int a), .fz (.int b'), .fz (.list (rest.map fun (k : Nat) => PyData.int (k : Int))), .un], rfl, .inl ?_, by simp⟩
        have hm1 : ∀ i : Int, pMod (.int i) (.int (n : Int)) = .val (.int (i % n)) := fun i => mod_eq n0
        have hm2 : ∀ i : Int, pMod (.int i) (.int ((n : Int) - 1)) = .val (.int (i % ((n : Int) - 1))) := fun i => mod_eq n1'
        have hm3 : ∀ i : Int, pMod (.int i) (.int (rest.length : Int)) = .val (.int (i % rest.length)) := fun i => mod_eq hp'
        rw [za] at zb
        simp [mod_eq, div_eq, mul_eqL, hcell, w_seed, hone, hm1, hm2, hm3, za, zb, r1, cmp, hat, hacc, ej, tupD]
    refine ⟨n, jumpsOf ((List.range m).map jmp), good_of n1 n2 fun j hj' => ?_, ?_⟩
    · obtain ⟨y, hy, rfl⟩ := List.mem_map.mp hj'
      exact hj y
    · have w := world_end (ρ := [.fz (lD ns), .fz (.int k), .fz (.int x), .fz (.int n), .ol (((List.range m).map jmp).map tupD), .un, .un, .un, .un, .un, .un]) (ts := (List.range m).map jmp) n1 n2 (fun j hj' => by
          obtain ⟨y, hy, rfl⟩ := List.mem_map.mp hj'
          exact hj y) (by rw [List.length_map, List.length_range]; omega) rfl rfl rfl
      have r1 := rng1_eq m (by omega)
      have e : (List.filter (fun _ => true) (List.range m)).map (fun y => tupD (jmp y)) = ((List.range m).map jmp).map tupD := by
        rw [List.map_map, List.filter_eq_self.mpr (fun _ _ => rfl)]
        rfl
      rw [List.nil_append, e] at q
      simp [d__law_world, o__law_world, w_cell, w_seed, hx, div_eq, mod_eq, hn, c0, c1, hm, r1]
      rw [q, thenO_nx]
      exact w
theorem three_of (x : Int) : ∃ v : Int, L2.atI [PyData.int 5, .int 7, .int 3] (x / 5 % 3) = some (.int v) := by
  have h1 : 0 ≤ x / 5 % 3 := Int.emod_nonneg _ (by decide)
  have h2 : x / 5 % 3 < 3 := Int.emod_lt_of_pos _ (by decide)
  generalize x / 5 % 3 = u at h1 h2
  have hu : u = 0 ∨ u = 1 ∨ u = 2 := by omega
  rcases hu with e | e | e <;> subst e
  · exact ⟨5, rfl⟩
  · exact ⟨7, rfl⟩
  · exact ⟨3, rfl⟩
theorem w_stand (x : Int) (n : Nat) (hn : n ≤ 12) : ∃ s : List Bool, s.length = n ∧ d__law_stand [.int x, .int n] = .val (sD s) := by
  obtain ⟨v, hv⟩ := three_of x
  refine ⟨(List.range n).map fun (k : Nat) => decide (seedT x (k : Int) / 97 % 9 < v), by simp, ?_⟩
  have r1 := rng1_eq n (by omega)
  have c1 : lcTurns (bName 2) dYes (dIf (dTst (dBin pLt (dApp d__law_pick [dApp d__law_seed [dVar 0, dVar 2], dC (.int 9)]) (dBin pIx (dL (dArgs [dC (.int 5), dC (.int 7), dC (.int 3)])) (dBin pMod (dBin pDiv (dVar 0) (dC (.int 5))) (dC (.int 3)))))) (dC (.str (PySem.Str.ofString "o"))) (dC (.str (PySem.Str.ofString "."))))
      ((List.range n).map fun (k : Nat) => PyData.int (k : Int)) [.fz (.int x), .fz (.int n), .un] = .val ((List.range n).map fun (k : Nat) => cD (decide (seedT x (k : Int) / 97 % 9 < v))) := by
    refine lc_map (fun (k : Nat) => PyData.int (k : Int)) (fun (k : Nat) => [.fz (.int x), .fz (.int n), .fz (.int (k : Int))]) (fun (k : Nat) => cD (decide (seedT x (k : Int) / 97 % 9 < v))) _ fun k _ => ⟨by simp, by simp, ?_⟩
    simp [w_seed, w_pick, div_eq, mod_eq, hv]
    by_cases h : seedT x (k : Int) / 97 % 9 < v <;> simp [h, str_o, str_n]
  have j1 := join_sD ((List.range n).map fun (k : Nat) => decide (seedT x (k : Int) / 97 % 9 < v)) (by rw [List.length_map, List.length_range]; show n ≤ 16777216; omega)
  rw [List.map_map] at j1
  simp [d__law_stand, o__law_stand, r1, c1]
  rw [show (List.map (fun (k : Nat) => cD (decide (seedT x (k : Int) / 97 % 9 < v))) (List.range n)) = List.map (cD ∘ fun (k : Nat) => decide (seedT x (k : Int) / 97 % 9 < v)) (List.range n) from rfl, j1]
  rfl
@[simp] theorem bAny_str (n : Nat) (r : List D → En → Option En) (x : Str) (ρ : En) : bAny n r (.str x) ρ = if x.cps.size = n then r (x.cps.toList.map fun c => .str ⟨#[c]⟩) ρ else none := rfl
theorem bAny_sD (n : Nat) (r : List D → En → Option En) (s : List Bool) (ρ : En) : bAny n r (sD s) ρ = if s.length = n then r (s.map cD) ρ else none := by
  show (if (sS s).cps.size = n then r (signs (sS s)) ρ else none) = _
  rw [sS_size, signs_sS]
theorem plus_sD (s t : List Bool) (h : s.length + t.length ≤ M) : pPlus (sD s) (sD t) = .val (sD (s ++ t)) := by
  show (if (sS s).length + (sS t).length ≤ M then R.val (PyData.str (sS s ++ sS t)) else .stk) = _
  rw [sS_length, sS_length, if_pos h]
  congr 1
  unfold sD
  congr 1
  refine str_ext ?_
  rw [str_app]
  simp [sS]
theorem pEq_ss (s t : List Bool) : pEq (sD s) (sD t) = .val (.bool (s == t)) := by
  have ka := okD_sD 0 s
  have kb := okD_sD 0 t
  by_cases h : s = t
  · subst h
    rw [pEq_same ka, beq_self_eq_true]
  · rw [pEq_not ka kb (fun e => h (sS_inj (by unfold sD at e; injection e)))]
    have : (s == t) = false := by simpa using h
    rw [this]
theorem pNe_ss (s t : List Bool) : pNe (sD s) (sD t) = .val (.bool (!(s == t))) := by
  have q := pEq_ss s t
  unfold pEq at q
  unfold pNe
  split at q
  · rename_i c
    rw [if_pos c]
    injection q with q
    injection q with q
    rw [q]
  · cases q
theorem okD_tup (n : Nat) (j : List Int) : okD (n + 1) (tupD j) = true := by
  show okDs n (j.map PyData.int) = true
  refine okDs_iff.mpr fun d hd => ?_
  obtain ⟨i, _, rfl⟩ := List.mem_map.mp hd
  cases n <;> rfl
theorem okD_tups (n : Nat) (js : List (List Int)) : okD (n + 2) (.tuple (js.map tupD)) = true := by
  show okDs (n + 1) _ = true
  refine okDs_iff.mpr fun d hd => ?_
  obtain ⟨j, _, rfl⟩ := List.mem_map.mp hd
  exact okD_tup n j
theorem pNe_empty (js : List (List Int)) : pNe (.tuple (js.map tupD)) (.tuple []) = .val (.bool (!js.isEmpty)) := by
  unfold pNe
  rw [okD_shaped (okD_tups 0 js), show SeqAt.shaped (.tuple []) = true by decide]
  cases js with
  | nil => simp [PyData.eqv, PyData.eqvAll]
  | cons j r => simp [PyData.eqv, PyData.eqvAll]
theorem pow3 (x : Int) (p : Int) (h0 : 0 < p) (h1 : p < 1000000) : pPow (.int (x % p)) (.int 3) = .val (.int ((x % p) ^ 3)) := by
  have a := Int.emod_nonneg x (show p ≠ 0 by omega)
  have b := Int.emod_lt_of_pos x h0
  exact pow_eq (by decide) (by decide) (by omega)
def mixT (c p m : Int) : Int := (c * 48271 % p) ^ 3 % p % m
theorem mixT_lt {c p m : Int} (h2 : 0 < m) : 0 ≤ mixT c p m ∧ mixT c p m < m := ⟨Int.emod_nonneg _ (by omega), Int.emod_lt_of_pos _ h2⟩
@[simp] theorem ap_lend (is : List Nat) (ρ : En) : lend is ρ = ρ.zipIdx.map fun p => match p.1 with
  | .ol ds => if is.contains p.2 then .fz (.list ds) else .un
  | .od _ => .un
  | s => s := rfl
@[simp] theorem flat_int (i : Int) : flatR (.int i) = .val (.int i) := rfl
@[simp] theorem flat_str (i : Str) : flatR (.str i) = .val (.str i) := rfl
@[simp] theorem flat_bool (i : Bool) : flatR (.bool i) = .val (.bool i) := rfl
@[simp] theorem flat_none : flatR .none = .val .none := rfl
@[simp] theorem pMin2_eq (i j : Int) : pMin2 [.int i, .int j] = .val (.int (if j < i then j else i)) := rfl
@[simp] theorem pMax2_eq (i j : Int) : pMax2 [.int i, .int j] = .val (.int (if j > i then j else i)) := rfl
@[simp] theorem pPlus_tuple (xs ys : List D) (h : xs.length + ys.length ≤ M) : pPlus (.tuple xs) (.tuple ys) = .val (.tuple (xs ++ ys)) := by
  show (if xs.length + ys.length ≤ M then R.val (PyData.tuple (xs ++ ys)) else .stk) = _
  rw [if_pos h]
theorem pTimes_tup (d : D) (n : Nat) (h1 : 2 ≤ n) (h2 : n ≤ 1000) : pTimes (.tuple [d]) (.int n) = .val (.tuple (List.replicate n d)) := by
  show (if !([d] : List D).isEmpty && decide (2 ≤ (n : Int)) && decide ((n : Int) ≤ 1000) && decide (([d] : List D).length ≤ 1000) then R.val (PyData.tuple (List.replicate (n : Int).toNat [d]).flatten) else .stk) = _
  rw [decide_eq_true (show 2 ≤ (n : Int) by omega), decide_eq_true (show (n : Int) ≤ 1000 by omega)]
  show R.val (PyData.tuple (List.replicate n [d]).flatten) = _
  rw [List.flatten_replicate_singleton]
@[simp] theorem pIs_bool (a b : Bool) : pIs (.bool a) (.bool b) = .val (.bool (a == b)) := rfl
/-- a loop under what stays true -/
theorem for_ex {α : Type} {b : D → En → Option En} {wp : List Nat} {body : En → Out} (en : α → D) (I : En → Prop) : ∀ (xs : List α) (ρ : En), I ρ →
    (∀ x ∈ xs, ∀ ρ, I ρ → ∃ ρ1 ρ', b (en x) ρ = some ρ1 ∧ (body ρ1 = .nx ρ' ∨ body ρ1 = .ct ρ') ∧ I (fgt wp ρ')) → ∃ ρ', oTurns b wp body (xs.map en) ρ = .nx ρ' ∧ I ρ'
  | [], ρ, hI, _ => ⟨ρ, rfl, hI⟩
  | x :: r, ρ, hI, h => by
    obtain ⟨ρ1, ρ', h2, h3, h4⟩ := h x List.mem_cons_self ρ hI
    obtain ⟨ρ2, q1, q2⟩ := for_ex en I r (fgt wp ρ') h4 fun y hy => h y (List.mem_cons_of_mem _ hy)
    refine ⟨ρ2, ?_, q2⟩
    rw [List.map_cons, oTurns_cons, h2, turnO_some]
    rcases h3 with h3 | h3 <;> rw [h3] <;> exact q1
theorem step_mem {js : List (List Int)} {s p q : List Bool} {m : Nat × List Bool} (h : m ∈ stepT js s p q) : ∃ j, js[m.1]? = some j ∧ j ∈ js ∧ hasT s j p = true ∧ m.2 = putT s j q := by
  obtain ⟨x, hx, rfl⟩ := List.mem_map.mp h
  obtain ⟨hx1, hx2⟩ := List.mem_filter.mp hx
  exact ⟨x.1, (zipIdx_mem hx1).2, (zipIdx_mem hx1).1, hx2, rfl⟩
theorem cell_bits {ns : List Int} (hb : ∀ z ∈ ns, Builtin.Int.intBits z ≤ 1048576) (k : Nat) : Builtin.Int.intBits (cellT ns k) ≤ 1048576 := by
  unfold cellT
  cases e : ns[k]? with
  | none => show Builtin.Int.intBits 0 ≤ _; exact Nat.zero_le _
  | some z => exact hb z (List.mem_of_getElem? e)
theorem pNe_emptyL (ms : List (Nat × List Bool)) : pNe (.list (ms.map mvD)) (.list []) = .val (.bool (!ms.isEmpty)) := by
  have k : okD 2 (.list (ms.map mvD)) = true := by
    show okDs 1 _ = true
    refine okDs_iff.mpr fun d hd => ?_
    obtain ⟨m, _, rfl⟩ := List.mem_map.mp hd
    show okDs 0 [PyData.int m.1, sD m.2] = true
    refine okDs_iff.mpr fun d hd => ?_
    simp at hd
    rcases hd with e | e
    · rw [e]; rfl
    · rw [e]; exact okD_sD 0 _
  unfold pNe
  rw [okD_shaped k, show SeqAt.shaped (.list []) = true by decide]
  cases ms with
  | nil => simp [PyData.eqv, PyData.eqvAll]
  | cons j r => simp [PyData.eqv, PyData.eqvAll]
theorem cutS_sS (s : List Bool) (lo hi : Option Int) : cutS (sS s) lo hi = sS (cutL s lo hi) := by
  refine str_ext ?_
  simp [cutS, cutL, sS, Str.length, List.map_drop, List.map_take]
theorem pSl_sD {s : List Bool} (h : s.length ≤ M) (lo hi : Option Int) : pSl (sD s) lo hi = .val (sD (cutL s lo hi)) := by
  show (if (sS s).length ≤ M then R.val (PyData.str (cutS (sS s) lo hi)) else .stk) = _
  rw [sS_length, if_pos h, cutS_sS]
  rfl
theorem cutL_dropS {α : Type} (xs : List α) (k : Nat) : cutL xs (some (k : Int)) none = xs.drop k := by
  unfold cutL
  rw [show HT.sIx xs.length 0 (some (k : Int)) = min k xs.length from HT.sIx_nat xs.length 0 k, HT.sIx_none]
  by_cases h : k ≤ xs.length
  · rw [Nat.min_eq_left h]
    exact List.take_of_length_le (by rw [List.length_drop]; exact Nat.le_refl _)
  · rw [Nat.min_eq_right (by omega), List.drop_of_length_le (Nat.le_refl _), List.drop_of_length_le (by omega)]
    simp
theorem nodup_bits : ∀ (n : Nat) (L : List (List Bool)), L.Nodup → (∀ s ∈ L, s.length = n) → L.length ≤ 2 ^ n
  | 0, L, nd, h => by
    cases L with
    | nil => simp
    | cons a r =>
      cases r with
      | nil => simp
      | cons b r =>
        have e1 : a = [] := List.eq_nil_of_length_eq_zero (h a (by simp))
        have e2 : b = [] := List.eq_nil_of_length_eq_zero (h b (by simp))
        rw [e1, e2] at nd
        simp at nd
  | n + 1, L, nd, h => by
    have key : ∀ x : Bool, (L.filter fun s => s.headD false == x).length ≤ 2 ^ n := fun x => by
      have e : ((L.filter fun s => s.headD false == x).map List.tail).length ≤ 2 ^ n := by
        refine nodup_bits n _ ?_ fun s hs => ?_
        · have nf : (L.filter fun s => s.headD false == x).Nodup := nd.filter _
          refine List.pairwise_map.mpr ?_
          refine List.Pairwise.imp_of_mem ?_ nf
          intro a b ha hb ne
          obtain ⟨ha1, ha2⟩ := List.mem_filter.mp ha
          obtain ⟨hb1, hb2⟩ := List.mem_filter.mp hb
          intro e
          apply ne
          have la := h a ha1
          have lb := h b hb1
          cases a with
          | nil => simp at la
          | cons a0 ar =>
            cases b with
            | nil => simp at lb
            | cons b0 br =>
              simp at ha2 hb2 e
              rw [ha2, hb2, e]
        · obtain ⟨t, ht, rfl⟩ := List.mem_map.mp hs
          have := h t (List.mem_filter.mp ht).1
          rw [List.length_tail]; omega
      rw [List.length_map] at e
      exact e
    have split : (L.filter fun s => s.headD false == true).length + (L.filter fun s => s.headD false == false).length = L.length := by
      clear key nd h
      induction L with
      | nil => rfl
      | cons a r ih =>
        rw [List.filter_cons, List.filter_cons, List.length_cons, ← ih]
        generalize a.headD false = x
        cases x with
        | true =>
          show (a :: List.filter (fun s => s.headD false == true) r).length + (List.filter (fun s => s.headD false == false) r).length = _
          rw [List.length_cons]; omega
        | false =>
          show (List.filter (fun s => s.headD false == true) r).length + (a :: List.filter (fun s => s.headD false == false) r).length = _
          rw [List.length_cons]; omega
    have k1 := key true
    have k2 := key false
    rw [Nat.pow_succ]
    omega
structure Sts (n : Nat) (L : List (List Bool)) : Prop where
  nd : L.Nodup
  len : ∀ s ∈ L, s.length = n
theorem Sts.few {n : Nat} {L : List (List Bool)} (h : Sts n L) (hn : n ≤ 12) : L.length ≤ 4096 := by
  refine Nat.le_trans (nodup_bits n L h.nd h.len) ?_
  exact Nat.le_trans (Nat.pow_le_pow_right (by decide) hn) (by decide)
theorem Sts.one {n : Nat} {s : List Bool} (h : s.length = n) : Sts n [s] := ⟨by simp, fun t ht => by simp at ht; rw [ht]; exact h⟩
theorem Sts.add {n : Nat} {L : List (List Bool)} {s : List Bool} (h : Sts n L) (hs : s.length = n) (ns : s ∉ L) : Sts n (L ++ [s]) where
  nd := List.nodup_append.mpr ⟨h.nd, by simp, fun a ha b hb => by simp at hb; subst hb; exact fun e => ns (e ▸ ha)⟩
  len := fun t ht => by
    rcases List.mem_append.mp ht with q | q
    · exact h.len t q
    · simp at q; rw [q]; exact hs
def kvL (L : List (List Bool)) : List (Key × D) := L.map fun s => (.inr (sS s), .bool true)
@[simp] theorem asK_sD (s : List Bool) : asK (sD s) = .val (.inr (sS s)) := rfl
@[simp] theorem flat_sD (s : List Bool) : flatR (sD s) = .val (sD s) := rfl
theorem kv_some (L : List (List Bool)) (s : List Bool) : (valD (kvL L) (.inr (sS s))).isSome = decide (s ∈ L) := by
  induction L with
  | nil => rfl
  | cons a r ih =>
    by_cases e : a = s
    · subst e
      have q : valD (kvL (a :: r)) (.inr (sS a)) = some (.bool true) := valD_pos (p := (.inr (sS a), .bool true)) rfl
      rw [q]; simp
    · have q : valD (kvL (a :: r)) (.inr (sS s)) = valD (kvL r) (.inr (sS s)) := valD_neg (p := (.inr (sS a), .bool true)) fun h => e (sS_inj (Sum.inr.inj h))
      rw [q, ih]
      have : (s ∈ a :: r) = (s ∈ r) := by simp [Ne.symm e]
      simp [Ne.symm e]
theorem kv_in {L : List (List Bool)} {s : List Bool} (h : s ∈ L) : valD (kvL L) (.inr (sS s)) = some (.bool true) := by
  induction L with
  | nil => simp at h
  | cons a r ih =>
    by_cases e : a = s
    · subst e
      exact valD_pos (p := (.inr (sS a), .bool true)) rfl
    · have q : valD (kvL (a :: r)) (.inr (sS s)) = valD (kvL r) (.inr (sS s)) := valD_neg (p := (.inr (sS a), .bool true)) fun h => e (sS_inj (Sum.inr.inj h))
      rw [q]
      refine ih ?_
      rcases List.mem_cons.mp h with z | z
      · exact absurd z.symm e
      · exact z
theorem kv_out {L : List (List Bool)} {s : List Bool} (h : s ∉ L) : valD (kvL L) (.inr (sS s)) = none := by
  have q := kv_some L s
  rw [decide_eq_false h] at q
  cases e : valD (kvL L) (.inr (sS s)) with
  | none => rfl
  | some d => rw [e] at q; cases q
theorem kv_put {L : List (List Bool)} {s : List Bool} (h : s ∉ L) : putD (kvL L) (.inr (sS s)) (.bool true) = kvL (L ++ [s]) := by
  unfold putD
  have e : ((kvL L).any fun kv => decide (kv.1 = Sum.inr (sS s))) = false := by
    unfold kvL
    rw [List.any_map, List.any_eq_false]
    intro t ht q
    have q' : (Sum.inr (sS t) : Key) = Sum.inr (sS s) := by simpa using q
    exact h ((sS_inj (Sum.inr.inj q')) ▸ ht)
  rw [e, if_neg Bool.false_ne_true]
  unfold kvL
  rw [List.map_append]; rfl
theorem kv_one (s : List Bool) : [((Sum.inr (sS s) : Key), PyData.bool true)] = kvL [s] := rfl
theorem kv_length (L : List (List Bool)) : (kvL L).length = L.length := List.length_map _
theorem keys_kvL (L : List (List Bool)) : keysD (kvL L) = L.map sD := by
  unfold keysD kvL
  rw [List.map_map]; rfl
abbrev Stp := List Bool → List (Nat × List Bool)
def addT (L : List (List Bool)) (m : Nat × List Bool) : List (List Bool) := if m.2 ∈ L then L else L ++ [m.2]
def growT (nx : Stp) (L : List (List Bool)) (k : Nat) : List (List Bool) := (nx (L[k]?.getD [])).foldl addT L
def bfsT (nx : Stp) : Nat → Nat → List (List Bool) → List (List Bool)
  | 0, _, L => L
  | f + 1, k, L => if k < L.length ∧ L.length ≤ 80 then bfsT nx f (k + 1) (growT nx L k) else L
/-- all that come of a stand, in the order in which they are found; more than 80: some of them -/
def farT (nx : Stp) (s : List Bool) : List (List Bool) := bfsT nx 100 0 [s]
/-- what steps keep -/
def Nxt (n : Nat) (nx : Stp) : Prop := ∀ s, s.length = n → (∀ m ∈ nx s, m.2.length = n) ∧ (nx s).length ≤ 16
theorem nxt_step {n : Nat} {js : List (List Int)} (g : Good n js) (p q : List Bool) : Nxt n fun s => stepT js s p q := fun s h => by
  refine ⟨fun m hm => ?_, ?_⟩
  · obtain ⟨j, _, _, _, e⟩ := step_mem hm
    rw [e, putT_length, h]
  · unfold stepT
    rw [List.length_map]
    refine Nat.le_trans (List.length_filter_le _ _) ?_
    rw [List.length_zipIdx]
    exact g.few
theorem addT_sts {n : Nat} {L : List (List Bool)} {m : Nat × List Bool} (h : Sts n L) (hm : m.2.length = n) : Sts n (addT L m) := by
  unfold addT
  by_cases e : m.2 ∈ L
  · rw [if_pos e]; exact h
  · rw [if_neg e]; exact h.add hm e
theorem fold_sts {n : Nat} : ∀ {ms : List (Nat × List Bool)} {L : List (List Bool)}, Sts n L → (∀ m ∈ ms, m.2.length = n) → Sts n (ms.foldl addT L)
  | [], _, h, _ => h
  | m :: r, _, h, k => fold_sts (ms := r) (addT_sts h (k m List.mem_cons_self)) fun x hx => k x (List.mem_cons_of_mem _ hx)
theorem grow_sts {n : Nat} {nx : Stp} (N : Nxt n nx) {L : List (List Bool)} (h : Sts n L) {k : Nat} (hk : k < L.length) : Sts n (growT nx L k) := by
  unfold growT
  rw [List.getElem?_eq_getElem hk]
  exact fold_sts h (N _ (h.len _ (List.getElem_mem hk))).1
theorem bfs_sts {n : Nat} {nx : Stp} (N : Nxt n nx) : ∀ (f k : Nat) {L : List (List Bool)}, Sts n L → Sts n (bfsT nx f k L)
  | 0, _, _, h => h
  | f + 1, k, L, h => by
    unfold bfsT
    split
    · rename_i c
      exact bfs_sts N f (k + 1) (grow_sts N h c.1)
    · exact h
theorem far_sts {n : Nat} {nx : Stp} (N : Nxt n nx) {s : List Bool} (h : s.length = n) : Sts n (farT nx s) := bfs_sts N _ _ (.one h)
theorem addT_le (L : List (List Bool)) (m : Nat × List Bool) : L.length ≤ (addT L m).length := by
  unfold addT; split <;> simp
theorem fold_le : ∀ (ms : List (Nat × List Bool)) (L : List (List Bool)), L.length ≤ (ms.foldl addT L).length
  | [], _ => Nat.le_refl _
  | m :: r, L => Nat.le_trans (addT_le L m) (fold_le r _)
theorem grow_le (nx : Stp) (L : List (List Bool)) (k : Nat) : L.length ≤ (growT nx L k).length := fold_le _ _
theorem bfs_stop (nx : Stp) : ∀ (f k : Nat) (L : List (List Bool)), 80 < L.length → bfsT nx f k L = L
  | 0, _, _, _ => rfl
  | f + 1, k, L, h => by
    unfold bfsT
    rw [if_neg (by omega)]
/-- the turns of a search that refuses at once -/
def stepP (nx : Stp) (bad : List (List Bool) × Nat → Out) (s : List (List Bool) × Nat) : Except Out (List (List Bool) × Nat) :=
  if (growT nx s.1 s.2).length ≤ 80 then .ok (growT nx s.1 s.2, s.2 + 1) else .error (bad (growT nx s.1 s.2, s.2 + 1))
theorem run_prog (nx : Stp) (bad : List (List Bool) × Nat → Out) : ∀ (f m k : Nat) (L : List (List Bool)), L.length ≤ 80 → k ≤ 81 → 81 ≤ k + f → 81 < k + m →
    (∃ k', (bfsT nx f k L).length ≤ 80 ∧ runW (fun s : List (List Bool) × Nat => decide (s.2 < s.1.length)) (stepP nx bad) m (L, k) = .ok (bfsT nx f k L, k')) ∨
    (∃ x, 80 < (bfsT nx f k L).length ∧ runW (fun s : List (List Bool) × Nat => decide (s.2 < s.1.length)) (stepP nx bad) m (L, k) = .error (bad x))
  | 0, m, k, L, h, hk, hf, hm => by
    refine .inl ⟨k, h, ?_⟩
    cases m with
    | zero => omega
    | succ m =>
      unfold runW
      rw [decide_eq_false (show ¬ k < L.length by omega)]
      rfl
  | f + 1, m, k, L, h, hk, hf, hm => by
    cases m with
    | zero => omega
    | succ m =>
      unfold bfsT runW
      by_cases c : k < L.length
      · rw [if_pos ⟨c, h⟩, decide_eq_true c]
        simp only [↓reduceIte]
        unfold stepP
        by_cases c2 : (growT nx L k).length ≤ 80
        · simp only [c2, ↓reduceIte]
          exact run_prog nx bad f m (k + 1) _ c2 (by omega) (by omega) (by omega)
        · simp only [c2, ↓reduceIte]
          refine .inr ⟨_, ?_, rfl⟩
          rw [bfs_stop nx f (k + 1) _ (by omega)]
          omega
      · rw [if_neg (fun z => c z.1), decide_eq_false c]
        exact .inl ⟨k, h, rfl⟩
/-- the turns of a search that stops -/
theorem run_law (nx : Stp) : ∀ (f m k : Nat) (L : List (List Bool)), k ≤ 81 → 81 ≤ k + f → 81 < k + m →
    ∃ k', runW (fun s : List (List Bool) × Nat => decide (s.2 < s.1.length) && decide (s.1.length ≤ 80)) (fun s => .ok (growT nx s.1 s.2, s.2 + 1)) m (L, k) = .ok (bfsT nx f k L, k')
  | 0, m, k, L, hk, hf, hm => by
    refine ⟨k, ?_⟩
    cases m with
    | zero => omega
    | succ m =>
      unfold runW
      have e : (decide (k < L.length) && decide (L.length ≤ 80)) = false := by
        rw [Bool.and_eq_false_iff, decide_eq_false_iff_not, decide_eq_false_iff_not]; omega
      show (if (decide (k < L.length) && decide (L.length ≤ 80)) = true then _ else _) = _
      rw [e]
      rfl
  | f + 1, m, k, L, hk, hf, hm => by
    cases m with
    | zero => omega
    | succ m =>
      unfold bfsT runW
      show ∃ k', (if (decide (k < L.length) && decide (L.length ≤ 80)) = true then _ else _) = _
      by_cases c : k < L.length ∧ L.length ≤ 80
      · rw [if_pos c, decide_eq_true c.1, decide_eq_true c.2]
        exact run_law nx f m (k + 1) _ (by omega) (by omega) (by omega)
      · have e : (decide (k < L.length) && decide (L.length ≤ 80)) = false := by
          rw [Bool.and_eq_false_iff, decide_eq_false_iff_not, decide_eq_false_iff_not]; omega
        rw [if_neg c, e]
        exact ⟨k, rfl⟩
abbrev fwd (js : List (List Int)) : Stp := fun s => stepT js s pegs2 pegs1
abbrev bwd (js : List (List Int)) : Stp := fun s => stepT js s pegs1 pegs2
abbrev stF (n : Nat) (js : List (List Int)) (s : List Bool) (x : List (List Bool) × Nat) : En := [.fz (wD n js), .fz (sD s), .od (kvL x.1), .ol (x.1.map sD), .fz (.int x.2), .un, .un]
theorem ix_sD {L : List (List Bool)} {k : Nat} (h : k < L.length) : (L.map sD)[k]? = some (sD (L[k]?.getD [])) := by
  rw [List.getElem?_map, List.getElem?_eq_getElem h]; rfl
theorem w_all_from {n : Nat} {js : List (List Int)} {s : List Bool} (g : Good n js) (h : s.length = n) : d_all_from [wD n js, sD s] = if (farT (fwd js) s).length ≤ 80 then .val (kvL (farT (fwd js) s)) else .exc .many := by
  have N := nxt_step g pegs2 pegs1
  have hn := g.hi
  simp [d_all_from, o_all_from, -oTurns_cons]
  rw [wh_at (stF n js s) (fun x => decide (x.2 < x.1.length)) (stepP (fwd js) fun x => .xc .many (stF n js s x)) (fun x => Sts n x.1) 20000 ([s], 0) ?e (.one h) ?hc ?hs]
  case e => rfl
  case hc => rintro ⟨L, k⟩ hI; simp
  case hs =>
    rintro ⟨L, k⟩ hI hg
    have hk : k < L.length := by simpa using hg
    have hl := hI.len _ (List.getElem_mem hk)
    have gs : Sts n (growT (fwd js) L k) := grow_sts N hI hk
    have mv := w_moves_of g (s := L[k]?.getD []) (by rw [List.getElem?_eq_getElem hk]; exact hl)
    refine ⟨by unfold stepP; split <;> simp [gs], ?_⟩
    simp [-oTurns_cons, ix_sD hk, mv]
    rw [for_at mvD (fun L => stF n js s (L, k)) addT (Sts n) _ L ?e2 hI ?h2]
    case e2 => rfl
    case h2 =>
      intro m hm L hL
      have hml : m.2.length = n := (N _ (by rw [List.getElem?_eq_getElem hk]; exact hl)).1 m hm
      have few := hL.few hn
      have lt : L.length < M := by show L.length < 16777216; omega
      refine ⟨addT_sts hL hml, ?_⟩
      unfold addT
      by_cases c : m.2 ∈ L
      · simp [turn1, mvD, kv_in c, stF, c]
      · simp [turn1, mvD, kv_out c, kv_length, lt, kv_put c, stF, c]
    change afterO (thenO (Out.nx (stF n js s (growT (fwd js) L k, k))) _) _ _ = _
    unfold stepP
    by_cases c : (growT (fwd js) L k).length ≤ 80
    · have c' : ¬ (80 : Int) < ((growT (fwd js) L k).length : Nat) := by omega
      simp [c, c', stF]
    · have c' : (80 : Int) < ((growT (fwd js) L k).length : Nat) := by omega
      simp [c, c', stF]
  rcases run_prog (fwd js) (fun x => .xc .many (stF n js s x)) 100 20000 0 [s] (by simp) (by decide) (by decide) (by decide) with ⟨k', e1, e2⟩ | ⟨x, e1, e2⟩
  · rw [e2]
    have e1' : (farT (fwd js) s).length ≤ 80 := e1
    rw [if_pos e1']
    rfl
  · rw [e2]
    have e1' : ¬ (farT (fwd js) s).length ≤ 80 := Nat.not_le.mpr e1
    rw [if_neg e1']
    rfl
theorem w_all_to {n : Nat} {js : List (List Int)} {s : List Bool} (g : Good n js) (h : s.length = n) : d_all_to [wD n js, sD s] = if (farT (bwd js) s).length ≤ 80 then .val (kvL (farT (bwd js) s)) else .exc .many := by
  have N := nxt_step g pegs1 pegs2
  have hn := g.hi
  simp [d_all_to, o_all_to, -oTurns_cons]
  rw [wh_at (stF n js s) (fun x => decide (x.2 < x.1.length)) (stepP (bwd js) fun x => .xc .many (stF n js s x)) (fun x => Sts n x.1) 20000 ([s], 0) ?e (.one h) ?hc ?hs]
  case e => rfl
  case hc => rintro ⟨L, k⟩ hI; simp
  case hs =>
    rintro ⟨L, k⟩ hI hg
    have hk : k < L.length := by simpa using hg
    have hl := hI.len _ (List.getElem_mem hk)
    have gs : Sts n (growT (bwd js) L k) := grow_sts N hI hk
    have mv := w_back_of g (s := L[k]?.getD []) (by rw [List.getElem?_eq_getElem hk]; exact hl)
    refine ⟨by unfold stepP; split <;> simp [gs], ?_⟩
    simp [-oTurns_cons, ix_sD hk, mv]
    rw [for_at mvD (fun L => stF n js s (L, k)) addT (Sts n) _ L ?e2 hI ?h2]
    case e2 => rfl
    case h2 =>
      intro m hm L hL
      have hml : m.2.length = n := (N _ (by rw [List.getElem?_eq_getElem hk]; exact hl)).1 m hm
      have few := hL.few hn
      have lt : L.length < M := by show L.length < 16777216; omega
      refine ⟨addT_sts hL hml, ?_⟩
      unfold addT
      by_cases c : m.2 ∈ L
      · simp [turn1, mvD, kv_in c, stF, c]
      · simp [turn1, mvD, kv_out c, kv_length, lt, kv_put c, stF, c]
    change afterO (thenO (Out.nx (stF n js s (growT (bwd js) L k, k))) _) _ _ = _
    unfold stepP
    by_cases c : (growT (bwd js) L k).length ≤ 80
    · have c' : ¬ (80 : Int) < ((growT (bwd js) L k).length : Nat) := by omega
      simp [c, c', stF]
    · have c' : (80 : Int) < ((growT (bwd js) L k).length : Nat) := by omega
      simp [c, c', stF]
  rcases run_prog (bwd js) (fun x => .xc .many (stF n js s x)) 100 20000 0 [s] (by simp) (by decide) (by decide) (by decide) with ⟨k', e1, e2⟩ | ⟨x, e1, e2⟩
  · rw [e2]
    have e1' : (farT (bwd js) s).length ≤ 80 := e1
    rw [if_pos e1']
    rfl
  · rw [e2]
    have e1' : ¬ (farT (bwd js) s).length ≤ 80 := Nat.not_le.mpr e1
    rw [if_neg e1']
    rfl
mutual
def okE : Nat → D → Bool
  | _, .none => true
  | _, .int _ => true
  | _, .bool _ => true
  | _, .str x => PyData.strOk x
  | n + 1, .list xs => okEs n xs
  | n + 1, .tuple xs => okEs n xs
  | _, _ => false
def okEs : Nat → List D → Bool
  | _, [] => true
  | n, x :: xs => okE n x && okEs n xs
end
mutual
theorem okE_lay : ∀ (n : Nat) (d : D), okE n d = true → d.canLay0 = true ∧ d.depth ≤ n
  | _, .none, _ => ⟨rfl, Nat.zero_le _⟩
  | _, .int _, _ => ⟨rfl, Nat.zero_le _⟩
  | _, .bool _, _ => ⟨rfl, Nat.zero_le _⟩
  | _, .str x, h => by
    have h' : PyData.strOk x = true := by simpa [okE] using h
    exact ⟨by simpa [PyData.canLay0] using h', Nat.zero_le _⟩
  | n + 1, .list xs, h => by
    have q := okEs_lay n xs (by simpa [okE] using h)
    exact ⟨by simpa [PyData.canLay0] using q.1, by simpa [PyData.depth] using q.2⟩
  | n + 1, .tuple xs, h => by
    have q := okEs_lay n xs (by simpa [okE] using h)
    exact ⟨by simpa [PyData.canLay0] using q.1, by simpa [PyData.depth] using q.2⟩
  | 0, .list _, h => by simp [okE] at h
  | 0, .tuple _, h => by simp [okE] at h
  | _, .dict _, h => by simp [okE] at h
theorem okEs_lay : ∀ (n : Nat) (ds : List D), okEs n ds = true → PyData.canLayAll0 ds = true ∧ PyData.depthAll ds ≤ n
  | _, [], _ => ⟨rfl, Nat.zero_le _⟩
  | n, x :: xs, h => by
    have h' : okE n x = true ∧ okEs n xs = true := by simpa [okEs] using h
    have q1 := okE_lay n x h'.1
    have q2 := okEs_lay n xs h'.2
    exact ⟨by simp [PyData.canLayAll0, q1.1, q2.1], by simp only [PyData.depthAll]; omega⟩
end
theorem okE_shaped {n : Nat} {d : D} (h : okE n d = true) (hn : n ≤ 64 := by decide) : SeqAt.shaped d = true := by
  have q := okE_lay n d h
  unfold SeqAt.shaped
  rw [q.1, decide_eq_true (Nat.le_trans q.2 hn)]
  rfl
mutual
theorem eqv_self : ∀ (n : Nat) (d : D), okE n d = true → PyData.eqv d d = true
  | _, .none, _ => by simp [PyData.eqv]
  | _, .int i, _ => by simp [PyData.eqv]
  | _, .bool b, _ => by simp [PyData.eqv]
  | _, .str x, _ => by simp [PyData.eqv]
  | n + 1, .list xs, h => by
    have q := eqvAll_self n xs (by simpa [okE] using h)
    simpa [PyData.eqv] using q
  | n + 1, .tuple xs, h => by
    have q := eqvAll_self n xs (by simpa [okE] using h)
    simpa [PyData.eqv] using q
  | 0, .list _, h => by simp [okE] at h
  | 0, .tuple _, h => by simp [okE] at h
  | _, .dict _, h => by simp [okE] at h
theorem eqvAll_self : ∀ (n : Nat) (ds : List D), okEs n ds = true → PyData.eqvAll ds ds = true
  | _, [], _ => by simp [PyData.eqvAll]
  | n, x :: xs, h => by
    have h' : okE n x = true ∧ okEs n xs = true := by simpa [okEs] using h
    simp [PyData.eqvAll, eqv_self n x h'.1, eqvAll_self n xs h'.2]
end
theorem pEq_self {n : Nat} {x : D} (h : okE n x = true) (hn : n ≤ 64 := by decide) : pEq x x = .val (.bool true) := by
  unfold pEq
  rw [okE_shaped h hn, eqv_self n x h]; rfl
theorem pNe_self {n : Nat} {x : D} (h : okE n x = true) (hn : n ≤ 64 := by decide) : pNe x x = .val (.bool false) := by
  unfold pNe
  rw [okE_shaped h hn, eqv_self n x h]; rfl
theorem okEs_iff {n : Nat} : ∀ {ds : List D}, okEs n ds = true ↔ ∀ d ∈ ds, okE n d = true
  | [] => by simp [okEs]
  | x :: xs => by simp [okEs, okEs_iff (ds := xs)]
mutual
theorem okE_of : ∀ (n : Nat) (d : D), okD n d = true → okE n d = true
  | _, .none, _ => by simp [okE]
  | _, .int _, _ => by simp [okE]
  | _, .bool _, h => by simp [okD] at h
  | _, .str x, h => by simpa [okE, okD] using h
  | n + 1, .list xs, h => by
    have q := okEs_of n xs (by simpa [okD] using h)
    simpa [okE] using q
  | n + 1, .tuple xs, h => by
    have q := okEs_of n xs (by simpa [okD] using h)
    simpa [okE] using q
  | 0, .list _, h => by simp [okD] at h
  | 0, .tuple _, h => by simp [okD] at h
  | _, .dict _, h => by simp [okD] at h
theorem okEs_of : ∀ (n : Nat) (ds : List D), okDs n ds = true → okEs n ds = true
  | _, [], _ => by simp [okEs]
  | n, x :: xs, h => by
    have h' : okD n x = true ∧ okDs n xs = true := by simpa [okDs] using h
    simp [okEs, okE_of n x h'.1, okEs_of n xs h'.2]
end
mutual
theorem okE_mono : ∀ (n m : Nat) (d : D), n ≤ m → okE n d = true → okE m d = true
  | _, _, .none, _, _ => by simp [okE]
  | _, _, .int _, _, _ => by simp [okE]
  | _, _, .bool _, _, _ => by simp [okE]
  | _, _, .str x, _, h => by simpa [okE] using h
  | n + 1, m + 1, .list xs, l, h => by
    have q := okEs_mono n m xs (by omega) (by simpa [okE] using h)
    simpa [okE] using q
  | n + 1, m + 1, .tuple xs, l, h => by
    have q := okEs_mono n m xs (by omega) (by simpa [okE] using h)
    simpa [okE] using q
  | n + 1, 0, .list _, l, _ => by omega
  | n + 1, 0, .tuple _, l, _ => by omega
  | 0, _, .list _, _, h => by simp [okE] at h
  | 0, _, .tuple _, _, h => by simp [okE] at h
  | _, _, .dict _, _, h => by simp [okE] at h
theorem okEs_mono : ∀ (n m : Nat) (ds : List D), n ≤ m → okEs n ds = true → okEs m ds = true
  | _, _, [], _, _ => by simp [okEs]
  | n, m, x :: xs, l, h => by
    have h' : okE n x = true ∧ okEs n xs = true := by simpa [okEs] using h
    simp [okEs, okE_mono n m x l h'.1, okEs_mono n m xs l h'.2]
end
theorem okE_sD (n : Nat) (s : List Bool) : okE n (sD s) = true := okE_of _ _ (okD_sD n s)
theorem okE_sDs (n : Nat) (L : List (List Bool)) : okE (n + 1) (.list (L.map sD)) = true := by
  show okEs n _ = true
  refine okEs_iff.mpr fun d hd => ?_
  obtain ⟨s, _, rfl⟩ := List.mem_map.mp hd
  exact okE_sD n s
def leB (a b : List Bool) : Bool := leS (sS a) (sS b)
def srtL (L : List (List Bool)) : List (List Bool) := srtB leB L
theorem insB_map {α β : Type} {le : α → α → Bool} {le' : β → β → Bool} (f : α → β) (h : ∀ a b, le' (f a) (f b) = le a b) (x : α) : ∀ l : List α, insB le' (f x) (l.map f) = (insB le x l).map f
  | [] => rfl
  | y :: r => by
    rw [List.map_cons]
    unfold insB
    rw [h]
    split
    · rfl
    · rw [List.map_cons, insB_map f h x r]
theorem srtB_map {α β : Type} {le : α → α → Bool} {le' : β → β → Bool} (f : α → β) (h : ∀ a b, le' (f a) (f b) = le a b) : ∀ l : List α, srtB le' (l.map f) = (srtB le l).map f
  | [] => rfl
  | x :: r => by
    show insB le' (f x) (srtB le' (r.map f)) = (insB le x (srtB le r)).map f
    rw [srtB_map f h r, insB_map f h]
theorem srtL_sS (L : List (List Bool)) : srtS (L.map sS) = (srtL L).map sS := srtB_map sS (fun _ _ => rfl) L
theorem srtL_perm (L : List (List Bool)) : (srtL L).Perm L := srtB_perm _ _
theorem leB_trans (a b c : List Bool) (h : leB a b = true) (k : leB b c = true) : leB a c = true := leS_trans _ _ _ h k
theorem leB_total (a b : List Bool) : (leB a b || leB b a) = true := leS_total _ _
theorem leB_anti {a b : List Bool} (h : leB a b = true) (k : leB b a = true) : a = b := sS_inj (leS_anti h k)
theorem srtL_pw (L : List (List Bool)) : (srtL L).Pairwise fun a b => leB a b = true := srtB_pw leB_trans leB_total L
theorem srtL_of {L M : List (List Bool)} (h : M.Perm L) (k : M.Pairwise fun a b => leB a b = true) : M = srtL L :=
  List.Perm.eq_of_pairwise (fun a b _ _ => leB_anti) k (srtL_pw L) (h.trans (srtL_perm L).symm)
theorem srtL_eq {L M : List (List Bool)} (h : L.Perm M) : srtL L = srtL M := srtL_of ((srtL_perm L).trans h) (srtL_pw L)
theorem srtL_filter (p : List Bool → Bool) (L : List (List Bool)) : (srtL L).filter p = srtL (L.filter p) := srtL_of ((srtL_perm L).filter p) ((srtL_pw L).filter p)
theorem srtL_mem {L : List (List Bool)} {s : List Bool} : s ∈ srtL L ↔ s ∈ L := (srtL_perm L).mem_iff
theorem asStrs_sD (L : List (List Bool)) : asStrs (L.map sD) = some (L.map sS) := by
  have e : L.map sD = (L.map sS).map PyData.str := by rw [List.map_map]; rfl
  rw [e, asStrs_map]
theorem sortD_sD (L : List (List Bool)) : sortD (L.map sD) = .val ((srtL L).map sD) := by
  cases L with
  | nil => rfl
  | cons a r =>
    unfold sortD
    have e : asInts ((a :: r).map sD) = none := rfl
    rw [e, asStrs_sD]
    show R.val ((srtS ((a :: r).map sS)).map PyData.str) = _
    rw [srtL_sS, List.map_map]
    rfl
theorem asSK_kvL (L : List (List Bool)) : asSK (kvL L) = some (L.map sS) := by
  induction L with
  | nil => rfl
  | cons a r ih =>
    show (asSK (kvL r)).map (sS a :: ·) = _
    rw [ih]; rfl
theorem sortX_kvL {L : List (List Bool)} (h : L.length ≤ M) : sortX (kvL L) = .val ((srtL L).map sD) := by
  unfold sortX
  rw [asSK_kvL]
  show (if (L.map sS).length ≤ M then R.val ((srtS (L.map sS)).map PyData.str) else .stk) = _
  rw [List.length_map, if_pos h, srtL_sS, List.map_map]
  rfl
abbrev okF (nx : Stp) (s : List Bool) : Prop := (farT nx s).length ≤ 80
theorem far_M {n : Nat} {nx : Stp} (N : Nxt n nx) {s : List Bool} (h : s.length = n) (hn : n ≤ 12) : (farT nx s).length ≤ M := by
  have := (far_sts N h).few hn
  show _ ≤ 16777216; omega
theorem w_look_two {n : Nat} {js : List (List Int)} {s t : List Bool} (g : Good n js) (h : s.length = n) (k : t.length = n) : d_look_two [wD n js, sD s, sD t] = .val .none := by
  simp [d_look_two, o_look_two, w_look_stand g h, w_look_stand g k]
theorem w_reached {n : Nat} {js : List (List Int)} {s : List Bool} (g : Good n js) (h : s.length = n) : d_reached [wD n js, sD s] = if okF (fwd js) s then .val (.list ((srtL (farT (fwd js) s)).map sD)) else .exc .many := by
  have z := sortX_kvL (far_M (nxt_step g pegs2 pegs1) h g.hi)
  simp [d_reached, o_reached, w_look_stand g h, w_all_from g h]
  split <;> simp [z]
theorem w_leading {n : Nat} {js : List (List Int)} {s : List Bool} (g : Good n js) (h : s.length = n) : d_leading [wD n js, sD s] = if okF (bwd js) s then .val (.list ((srtL (farT (bwd js) s)).map sD)) else .exc .many := by
  have z := sortX_kvL (far_M (nxt_step g pegs1 pegs2) h g.hi)
  simp [d_leading, o_leading, w_look_stand g h, w_all_to g h]
  split <;> simp [z]
theorem w_can_come {n : Nat} {js : List (List Int)} {s t : List Bool} (g : Good n js) (h : s.length = n) (k : t.length = n) : d_can_come [wD n js, sD s, sD t] = if okF (fwd js) s then .val (.bool (decide (t ∈ farT (fwd js) s))) else .exc .many := by
  simp [d_can_come, o_can_come, w_look_two g h k, w_all_from g h]
  split
  · by_cases c : t ∈ farT (fwd js) s <;> simp [kv_some, c]
  · simp
theorem keysR_kvL {L : List (List Bool)} (h : L.length ≤ M) : keysR (kvL L) = .val (L.map sD) := by
  unfold keysR
  rw [kv_length, if_pos h, keys_kvL]
theorem w_ends {n : Nat} {js : List (List Int)} {s : List Bool} (g : Good n js) (h : s.length = n) : d_ends [wD n js, sD s] = if okF (fwd js) s then .val (.list ((srtL ((farT (fwd js) s).filter fun t => (fwd js t).isEmpty)).map sD)) else .exc .many := by
  have z := far_M (nxt_step g pegs2 pegs1) h g.hi
  have S := far_sts (nxt_step g pegs2 pegs1) h
  simp [d_ends, o_ends, w_look_stand g h, w_all_from g h]
  split
  · simp [keysR_kvL z]
    rw [lc_if sD (fun t => (fwd js t).isEmpty) sD _ ?h]
    case h =>
      intro t ht
      have e := w_moves_of g (S.len t ht)
      cases c : (fwd js t).isEmpty <;> simp [lc1, e, c]
    simp [sortD_sD]
  · simp
abbrev stG (n : Nat) (js : List (List Int)) (s p q : List Bool) (x : List (List Bool) × Nat) : En := [.fz (wD n js), .fz (sD s), .fz (sD p), .fz (sD q), .ol (x.1.map sD), .od (kvL x.1), .fz (.int x.2), .un, .un]
def farD (nx : Stp) (s : List Bool) : D := if okF nx s then .list ((srtL (farT nx s)).map sD) else .none
abbrev manyD : D := .str (PySem.Str.ofString "many")
abbrev neverD : D := .str (PySem.Str.ofString "never")
def orMany (c : Prop) [Decidable c] (d : D) : D := if c then d else manyD
theorem okE_many (n : Nat) : okE n manyD = true := by
  have e : PyData.strOk (PySem.Str.ofString "many") = true := by decide +kernel
  cases n <;> exact e
theorem okE_orMany (n : Nat) (c : Prop) [Decidable c] (d : D) (h : okE n d = true) : okE n (orMany c d) = true := by
  unfold orMany
  split
  · exact h
  · exact okE_many n
theorem eqv_ss (s t : List Bool) : PyData.eqv (sD s) (sD t) = decide (s = t) := by
  have q := eqv_iff 0 0 (sD s) (sD t) (okD_sD 0 s) (okD_sD 0 t)
  have e : (sD s = sD t) ↔ s = t := ⟨fun h => sS_inj (by unfold sD at h; injection h), fun h => by rw [h]⟩
  rw [Bool.eq_iff_iff, q, e, decide_eq_true_iff]
theorem inB_sDs (t : List Bool) (L : List (List Bool)) : inB (sD t) (.list (L.map sD)) = .val (decide (t ∈ L)) := by
  show (if SeqAt.shaped (sD t) && SeqAt.shaped (.list (L.map sD)) then R.val ((L.map sD).any fun z => PyData.eqv z (sD t)) else .stk) = _
  rw [okE_shaped (okE_sD 0 t), okE_shaped (okE_sDs 0 L)]
  show R.val ((L.map sD).any fun z => PyData.eqv z (sD t)) = _
  congr 1
  rw [List.any_map, Bool.eq_iff_iff, List.any_eq_true, decide_eq_true_iff]
  constructor
  · rintro ⟨x, hx, e⟩
    have e' : decide (x = t) = true := (eqv_ss x t) ▸ e
    rw [← of_decide_eq_true e']; exact hx
  · intro h
    exact ⟨t, h, by show PyData.eqv (sD t) (sD t) = true; rw [eqv_ss]; simp⟩
theorem pIn_sDs (t : List Bool) (L : List (List Bool)) : pIn (sD t) (.list (L.map sD)) = .val (.bool (decide (t ∈ L))) := by
  unfold pIn
  rw [inB_sDs]; rfl
theorem pNotIn_sDs (t : List Bool) (L : List (List Bool)) : pNotIn (sD t) (.list (L.map sD)) = .val (.bool (!decide (t ∈ L))) := by
  unfold pNotIn
  rw [inB_sDs]; rfl
theorem fold_mem {s : List Bool} : ∀ (ms : List (Nat × List Bool)) (L : List (List Bool)), s ∈ L → s ∈ ms.foldl addT L
  | [], _, h => h
  | m :: r, L, h => fold_mem r _ (by
    unfold addT; split
    · exact h
    · exact List.mem_append_left _ h)
theorem bfs_mem {nx : Stp} {s : List Bool} : ∀ (f k : Nat) (L : List (List Bool)), s ∈ L → s ∈ bfsT nx f k L
  | 0, _, _, h => h
  | f + 1, k, L, h => by
    unfold bfsT
    split
    · exact bfs_mem f (k + 1) _ (fold_mem _ _ h)
    · exact h
theorem far_self (nx : Stp) (s : List Bool) : s ∈ farT nx s := bfs_mem _ _ _ (by simp)
theorem pEq_emptyM (ms : List (Nat × List Bool)) : pEq (.list (ms.map mvD)) (.list []) = .val (.bool ms.isEmpty) := by
  have q := pNe_emptyL ms
  unfold pNe at q
  unfold pEq
  split at q
  · rename_i c
    rw [if_pos c]
    injection q with q
    injection q with q
    congr 2
    cases h : PyData.eqv (.list (ms.map mvD)) (.list []) <;> rw [h] at q <;> cases h2 : ms.isEmpty <;> rw [h2] at q <;> simp at q ⊢
  · cases q
def bg (b : Bool) : Nat := if b then 49 else 48
def bS (s : List Bool) : Str := ⟨(s.map bg).toArray⟩
def bD (s : List Bool) : D := .str (bS s)
def bC (b : Bool) : D := .str ⟨#[bg b]⟩
theorem bS_1 : PySem.Str.ofString "1" = bS [true] := by decide +kernel
theorem bS_0 : PySem.Str.ofString "0" = bS [false] := by decide +kernel
theorem bS_e : PySem.Str.ofString "" = bS [] := by decide +kernel
theorem bS_01 : PySem.Str.ofString "01" = bS [false, true] := by decide +kernel
theorem bS_size (s : List Bool) : (bS s).cps.size = s.length := by simp [bS]
theorem bS_length (s : List Bool) : (bS s).length = s.length := by simp [bS, Str.length]
theorem bg_inj {a b : Bool} (h : bg a = bg b) : a = b := by cases a <;> cases b <;> simp_all [bg]
theorem bS_inj {s t : List Bool} (h : bS s = bS t) : s = t := by
  unfold bS at h
  have h1 : s.map bg = t.map bg := by simpa using h
  exact (List.map_inj_right (fun a b => bg_inj)).mp h1
theorem bC_bD (b : Bool) : bC b = bD [b] := by simp [bC, bD, bS]
theorem bC_inj {a b : Bool} (h : bC a = bC b) : a = b := by
  unfold bC at h
  simp at h
  exact bg_inj h
theorem signs_bS (s : List Bool) : Dn.signs (bS s) = s.map bC := by
  simp [Dn.signs, bS, bC]
theorem anyL_bD {s : List Bool} (h : s.length ≤ M) : anyL (bD s) = .val (s.map bC) := by
  show (if (bS s).cps.size ≤ M then R.val (signs (bS s)) else .stk) = _
  rw [bS_size, if_pos h, signs_bS]
theorem pLen_bD {s : List Bool} (h : s.length ≤ M) : pLen [bD s] = .val (.int s.length) := by
  show (if (bS s).length ≤ M then R.val (PyData.int ((bS s).length : Nat)) else .stk) = _
  rw [bS_length, if_pos h]
theorem pIx_bD {s : List Bool} {i : Nat} {b : Bool} (h : s.length ≤ M) (e : s[i]? = some b) : pIx (bD s) (.int i) = .val (bC b) := by
  show (if (bS s).length ≤ M then (match L2.atI (bS s).cps.toList (i : Int) with | some c => R.val (PyData.str ⟨#[c]⟩) | none => .stk) else .stk) = _
  rw [bS_length, if_pos h, atI_nat']
  simp [bS, e, bC]
theorem okD_bD (n : Nat) (s : List Bool) : okD n (bD s) = true := by
  have e : PyData.strOk (bS s) = true := by
    unfold PyData.strOk bS
    simp only [List.all_toArray, List.all_map, List.all_eq_true]
    intro b _
    cases b <;> rfl
  cases n <;> exact e
theorem okDs_bC (n : Nat) (l : List Bool) : okDs n (l.map bC) = true := by
  refine okDs_iff.mpr fun d hd => ?_
  obtain ⟨b, _, rfl⟩ := List.mem_map.mp hd
  rw [bC_bD]
  exact okD_bD n [b]
theorem plus_bD (s t : List Bool) (h : s.length + t.length ≤ M) : pPlus (bD s) (bD t) = .val (bD (s ++ t)) := by
  show (if (bS s).length + (bS t).length ≤ M then R.val (PyData.str (bS s ++ bS t)) else .stk) = _
  rw [bS_length, bS_length, if_pos h]
  congr 1
  unfold bD
  congr 1
  refine str_ext ?_
  rw [str_app]
  simp [bS]
theorem pEq_bb (s t : List Bool) : pEq (bD s) (bD t) = .val (.bool (s == t)) := by
  have ka := okD_bD 0 s
  have kb := okD_bD 0 t
  by_cases h : s = t
  · subst h
    rw [pEq_same ka, beq_self_eq_true]
  · rw [pEq_not ka kb (fun e => h (bS_inj (by unfold bD at e; injection e)))]
    have : (s == t) = false := by simpa using h
    rw [this]
theorem eqv_bC (a b : Bool) : PyData.eqv (bC a) (bC b) = (a == b) := by
  have q := eqv_iff 0 0 (bC a) (bC b) (by rw [bC_bD]; exact okD_bD 0 _) (by rw [bC_bD]; exact okD_bD 0 _)
  rw [Bool.eq_iff_iff, q, beq_iff_eq]
  exact ⟨bC_inj, fun e => by rw [e]⟩
theorem count_bC (l : List Bool) : pLCount (.list (l.map bC)) [.str (PySem.Str.ofString "1")] = .val (.int ((l.countP id : Nat) : Int)) := by
  rw [bS_1]
  show (if SeqAt.shaped (.list (l.map bC)) && SeqAt.shaped (bD [true]) then _ else _) = _
  rw [okD_shaped (n := 1) (show okD 1 (.list (l.map bC)) = true from okDs_bC 0 l), okD_shaped (okD_bD 0 [true])]
  show R.val (PyData.int (((l.map bC).countP fun z => PyData.eqv z (bD [true]) : Nat) : Int)) = _
  rw [List.countP_map]
  have e : ((fun z => PyData.eqv z (bD [true])) ∘ bC) = fun b : Bool => id b := by
    funext b
    show PyData.eqv (bC b) (bD [true]) = id b
    rw [← bC_bD, eqv_bC]
    cases b <;> rfl
  rw [e]
/-- how many 1 the row has at the jump's cells -/
def onesT (r : List Bool) (j : List Int) : Nat := (j.map fun c => r[c.toNat]?.getD false).countP id
def oddT (r : List Bool) (j : List Int) : Bool := onesT r j % 2 == 1
def topT (j : List Int) : Nat := (j.map Int.toNat).foldl max 0
theorem ones_le {r : List Bool} {a b c : Nat} : onesT r [(a : Int), b, c] ≤ 3 := by
  unfold onesT
  exact List.countP_le_length
theorem topT_abc (a b c : Nat) : topT [(a : Int), b, c] = max (max a b) c := by
  show max (max (max 0 a) b) c = _
  rw [show max 0 a = a by omega]
theorem w_max (a b c : Nat) : pMaxA [tupD [(a : Int), b, c]] = .val (.int (topT [(a : Int), b, c] : Nat)) := by
  rw [topT_abc]
  simp [pMaxA, tupD, mostD, mostI]
  split <;> split <;> omega
theorem ones_at {r : List Bool} {a b c : Nat} (h : r.length ≤ M) (ha : a < r.length) (hb : b < r.length) (hc : c < r.length) (ρ : En) (i k : Nat) (e1 : slD (ρ.set k (.fz (.int a)))[i]? = .val (bD r)) (e2 : slD (ρ.set k (.fz (.int b)))[i]? = .val (bD r)) (e3 : slD (ρ.set k (.fz (.int c)))[i]? = .val (bD r)) (hk : k < ρ.length) :
    lcTurns (bName k) dYes (dBin pIx (dVar i) (dVar k)) [.int a, .int b, .int c] ρ = .val ([r[a]?.getD false, r[b]?.getD false, r[c]?.getD false].map bC) := by
  have i1 := pIx_bD h (getD_some rfl ha)
  have i2 := pIx_bD h (getD_some rfl hb)
  have i3 := pIx_bD h (getD_some rfl hc)
  simp [e1, e2, e3, hk, i1, i2, i3]
/-- one more cell: the rows that the jumps ending there keep -/
def readyT (js : List (List Int)) (k : Nat) : List (List Int) := js.filter fun j => topT j == k
def goodT (js : List (List Int)) (k : Nat) (r : List Bool) : Bool := ((readyT js k).filter (oddT r)).isEmpty
def extT (js : List (List Int)) (k : Nat) (rows : List (List Bool)) : List (List Bool) := rows.flatMap fun r => [r ++ [false], r ++ [true]].filter (goodT js k)
def keptT (js : List (List Int)) : Nat → List (List Bool)
  | 0 => [[]]
  | k + 1 => extT js k (keptT js k)
theorem ext_len (js : List (List Int)) (k : Nat) (rows : List (List Bool)) : (extT js k rows).length ≤ 2 * rows.length := by
  unfold extT
  induction rows with
  | nil => simp
  | cons r l ih =>
    rw [List.flatMap_cons, List.length_append, List.length_cons]
    have := List.length_filter_le (goodT js k) [r ++ [false], r ++ [true]]
    simp only [List.length_cons, List.length_nil] at this
    omega
theorem kept_len (js : List (List Int)) : ∀ k, (keptT js k).length ≤ 2 ^ k
  | 0 => by simp [keptT]
  | k + 1 => by
    have a := ext_len js k (keptT js k)
    have b := kept_len js k
    show (extT js k (keptT js k)).length ≤ _
    rw [Nat.pow_succ]
    omega
theorem kept_rows (js : List (List Int)) : ∀ k, ∀ r ∈ keptT js k, r.length = k
  | 0, r, h => by
    simp [keptT] at h
    rw [h]; rfl
  | k + 1, r, h => by
    obtain ⟨r', h1, h2⟩ := List.mem_flatMap.mp (show r ∈ extT js k (keptT js k) from h)
    have q := kept_rows js k r' h1
    have h3 := (List.mem_filter.mp h2).1
    simp at h3
    rcases h3 with e | e <;> rw [e] <;> simp [q]
/-- a loop over 0, 1, .., its state told by the number -/
theorem for_up {b : D → En → Option En} {wp : List Nat} {body : En → Out} (st : Nat → En) : ∀ (m a : Nat), (∀ k, a ≤ k → k < a + m → ∃ ρ ρ', b (.int (k : Int)) (st k) = some ρ ∧ (body ρ = .nx ρ' ∨ body ρ = .ct ρ') ∧ fgt wp ρ' = st (k + 1)) →
    oTurns b wp body ((List.range' a m).map fun (k : Nat) => PyData.int (k : Int)) (st a) = .nx (st (a + m))
  | 0, a, _ => rfl
  | m + 1, a, h => by
    obtain ⟨ρ, ρ', h2, h3, h4⟩ := h a (Nat.le_refl _) (by omega)
    have q := for_up (b := b) (wp := wp) (body := body) st m (a + 1) fun k h1 h2 => h k (by omega) (by omega)
    rw [List.range'_succ, List.map_cons, oTurns_cons, h2, turnO_some]
    rw [show a + 1 + m = a + (m + 1) by omega] at q
    rcases h3 with h3 | h3 <;> rw [h3] <;> simp only [afterO_nx, afterO_ct] <;> rw [h4, q]
theorem for_up0 {b : D → En → Option En} {wp : List Nat} {body : En → Out} (st : Nat → En) (n : Nat) (h : ∀ k, k < n → ∃ ρ ρ', b (.int (k : Int)) (st k) = some ρ ∧ (body ρ = .nx ρ' ∨ body ρ = .ct ρ') ∧ fgt wp ρ' = st (k + 1)) :
    oTurns b wp body ((List.range n).map fun (k : Nat) => PyData.int (k : Int)) (st 0) = .nx (st n) := by
  have q := for_up (b := b) (wp := wp) (body := body) st n 0 fun k _ h2 => h k (by omega)
  rw [Nat.zero_add] at q
  rw [List.range_eq_range']
  exact q
theorem odd_val (n : Nat) : pMod (.int (n : Int)) (.int 2) = .val (.int ((n % 2 : Nat) : Int)) := by
  rw [mod_eq (by decide)]
  rfl
theorem str_e : PyData.str (PySem.Str.ofString "") = bD [] := by rw [bS_e]; rfl
theorem any01 : anyL (.str (PySem.Str.ofString "01")) = .val ([false, true].map bC) := by
  rw [bS_01]
  exact anyL_bD (s := [false, true]) (by show 2 ≤ 16777216; decide)
abbrev kBody : En → Out := (oSeq (oSet 7 (dBin pPlus (dVar 5) (dVar 6)))
  (oIf (dNot (dTru (dL (dLc [8] (dWk anyL (dVar 3)) (bName 8) (dTst (dBin pEq (dBin pMod (dBm isL pLCount (dL (dLc [9] (dWk anyL (dVar 8)) (bName 9) dYes (dBin pIx (dVar 7) (dVar 9)))) [(dC (.str (PySem.Str.ofString "1")))]) (dC (.int 2))) (dC (.int 1)))) (dVar 8))))) (oApp 4 (dVar 7)) oNext))
theorem k_test {n k : Nat} {js : List (List Int)} {new : List Bool} (g : Good n js) (hk : k < n) (hn : new.length = k + 1) (a0 a1 a2 a3 a4 a5 a6 : Sl) (e9 : a4.own = a4.own) :
    lcTurns (bName 8) (dTst (dBin pEq (dBin pMod (dBm isL pLCount (dL (dLc [9] (dWk anyL (dVar 8)) (bName 9) dYes (dBin pIx (dVar 7) (dVar 9)))) [(dC (.str (PySem.Str.ofString "1")))]) (dC (.int 2))) (dC (.int 1)))) (dVar 8) ((readyT js k).map tupD) [a0, a1, a2, a3, a4, a5, a6, .fz (bD new), .un, .un]
      = .val (((readyT js k).filter (oddT new)).map tupD) := by
  refine lc_some tupD (fun j => [a0, a1, a2, a3, a4, a5, a6, .fz (bD new), .fz (tupD j), .un]) (oddT new) tupD (readyT js k) fun j hj => ?_
  obtain ⟨hj1, hj2⟩ := List.mem_filter.mp hj
  obtain ⟨a, b, c, rfl, h1, h2, h3, -⟩ := g.ok j hj1
  rw [topT_abc, beq_iff_eq] at hj2
  have hM : new.length ≤ M := by have := g.hi; rw [hn]; show k + 1 ≤ 16777216; omega
  have i1 := pIx_bD hM (getD_some hn (show a < k + 1 by omega))
  have i2 := pIx_bD hM (getD_some hn (show b < k + 1 by omega))
  have i3 := pIx_bD hM (getD_some hn (show c < k + 1 by omega))
  have cnt := count_bC [new[a]?.getD false, new[b]?.getD false, new[c]?.getD false]
  refine ⟨by simp, ?_, fun _ => by simp⟩
  have e : oddT new [(a : Int), b, c] = (([new[a]?.getD false, new[b]?.getD false, new[c]?.getD false].countP id) % 2 == 1) := rfl
  rw [e]
  generalize ([new[a]?.getD false, new[b]?.getD false, new[c]?.getD false].countP id) = m at cnt ⊢
  simp only [List.map_cons, List.map_nil] at cnt
  simp [tupD, i1, i2, i3, cnt, odd_val]
  rw [Bool.eq_iff_iff, decide_eq_true_iff, beq_iff_eq]
  omega
theorem k_sign {n k : Nat} {js : List (List Int)} {r : List Bool} (g : Good n js) (hk : k < n) (hr : r.length = k) (a0 a1 a2 : Sl) (acc : List D) (ha : acc.length + 2 ≤ M) :
    oTurns (bName 6) [6, 7] kBody ([false, true].map bC) [a0, a1, a2, .fz (.list ((readyT js k).map tupD)), .ol acc, .fz (bD r), .un, .un, .un, .un]
      = .nx [a0, a1, a2, .fz (.list ((readyT js k).map tupD)), .ol (acc ++ (([r ++ [false], r ++ [true]].filter (goodT js k)).map bD)), .fz (bD r), .un, .un, .un, .un] := by
  have q := for_gather (b := bName 6) (wp := [6, 7]) (body := kBody) bC (fun acc => [a0, a1, a2, .fz (.list ((readyT js k).map tupD)), .ol acc, .fz (bD r), .un, .un, .un, .un]) (fun b => goodT js k (r ++ [b])) (fun b => bD (r ++ [b])) [false, true] acc (by simpa using ha) fun b _ acc hacc => by
    have hl : (r ++ [b]).length = k + 1 := by simp [hr]
    have hM : r.length + ([b] : List Bool).length ≤ M := by have := g.hi; rw [hr]; show k + 1 ≤ 16777216; omega
    have p := plus_bD r [b] hM
    rw [← bC_bD] at p
    have t := k_test g hk hl a0 a1 a2 (.fz (.list ((readyT js k).map tupD))) (.ol acc) (.fz (bD r)) (.fz (bC b)) rfl
    have e : goodT js k (r ++ [b]) = ((readyT js k).filter (oddT (r ++ [b]))).isEmpty := rfl
    cases hh : goodT js k (r ++ [b]) with
    | true =>
      rw [hh] at e
      exact ⟨[a0, a1, a2, .fz (.list ((readyT js k).map tupD)), .ol acc, .fz (bD r), .fz (bC b), .un, .un, .un], [a0, a1, a2, .fz (.list ((readyT js k).map tupD)), .ol (acc ++ [bD (r ++ [b])]), .fz (bD r), .fz (bC b), .fz (bD (r ++ [b])), .un, .un], by simp, .inl (by simp [-List.isEmpty_iff, p, t, ← e, hacc]), by simp⟩
    | false =>
      rw [hh] at e
      exact ⟨[a0, a1, a2, .fz (.list ((readyT js k).map tupD)), .ol acc, .fz (bD r), .fz (bC b), .un, .un, .un], [a0, a1, a2, .fz (.list ((readyT js k).map tupD)), .ol acc, .fz (bD r), .fz (bC b), .fz (bD (r ++ [b])), .un, .un], by simp, .inl (by simp [-List.isEmpty_iff, p, t, ← e]), by simp⟩
  rw [q]
  have e : (([false, true].filter fun b => goodT js k (r ++ [b])).map fun b => bD (r ++ [b])) = ([r ++ [false], r ++ [true]].filter (goodT js k)).map bD := by
    cases h1 : goodT js k (r ++ [false]) <;> cases h2 : goodT js k (r ++ [true]) <;> simp [h1, h2]
  rw [e]
theorem kept_few {n : Nat} {js : List (List Int)} (g : Good n js) {k : Nat} (h : k ≤ n) : (keptT js k).length ≤ 4096 := by
  have a := kept_len js k
  have b : 2 ^ k ≤ 2 ^ 12 := Nat.pow_le_pow_right (by decide) (by have := g.hi; omega)
  have c : (2 : Nat) ^ 12 = 4096 := by decide
  omega
theorem k_rows {n k : Nat} {js : List (List Int)} (g : Good n js) (hk : k < n) (a0 a1 a2 : Sl) :
    oTurns (bName 5) [5, 6, 7] (oFor [6, 7] (dWk anyL (dC (.str (PySem.Str.ofString "01")))) (bName 6) kBody) ((keptT js k).map bD) [a0, a1, a2, .fz (.list ((readyT js k).map tupD)), .ol [], .un, .un, .un, .un, .un]
      = .nx [a0, a1, a2, .fz (.list ((readyT js k).map tupD)), .ol ((keptT js (k + 1)).map bD), .un, .un, .un, .un, .un] := by
  obtain ⟨k', q⟩ := for_rows (b := bName 5) (wp := [5, 6, 7]) (body := oFor [6, 7] (dWk anyL (dC (.str (PySem.Str.ofString "01")))) (bName 6) kBody) bD (fun _ acc => [a0, a1, a2, .fz (.list ((readyT js k).map tupD)), .ol acc, .un, .un, .un, .un, .un])
    (fun r => ([r ++ [false], r ++ [true]].filter (goodT js k)).map bD) 2 (keptT js k) true [] (by have := kept_few g (Nat.le_of_lt hk); show 0 + (keptT js k).length * 2 ≤ 16777216; omega)
    (fun r _ => by
      have := List.length_filter_le (goodT js k) [r ++ [false], r ++ [true]]
      rw [List.length_map]
      simpa using this)
    fun r hr _ acc hacc => by
      have s := k_sign g hk (kept_rows js k r hr) a0 a1 a2 acc hacc
      exact ⟨[a0, a1, a2, .fz (.list ((readyT js k).map tupD)), .ol acc, .fz (bD r), .un, .un, .un, .un], [a0, a1, a2, .fz (.list ((readyT js k).map tupD)), .ol (acc ++ (([r ++ [false], r ++ [true]].filter (goodT js k)).map bD)), .fz (bD r), .un, .un, .un, .un], by simp, .inl (by rw [ap_oFor, ap_dWk, ap_dC, R.bind_val, any01, toO_val_eq, s]), by simp⟩
  rw [q, List.nil_append]
  have e : ((keptT js k).flatMap fun r => ([r ++ [false], r ++ [true]].filter (goodT js k)).map bD) = (keptT js (k + 1)).map bD := by
    show _ = ((keptT js k).flatMap fun r => [r ++ [false], r ++ [true]].filter (goodT js k)).map bD
    rw [List.map_flatMap]
  rw [e]
theorem k_ready {n k : Nat} {js : List (List Int)} (g : Good n js) (a0 a1 a3 a4 a5 a6 a7 : Sl) :
    lcTurns (bName 8) (dTst (dBin pEq (dApp pMaxA [(dVar 8)]) (dVar 2))) (dVar 8) (js.map tupD) [a0, a1, .fz (.int (k : Nat)), a3, a4, a5, a6, a7, .un, .un] = .val ((readyT js k).map tupD) := by
  refine lc_some tupD (fun j => [a0, a1, .fz (.int (k : Nat)), a3, a4, a5, a6, a7, .fz (tupD j), .un]) (fun j => topT j == k) tupD js fun j hj => ?_
  obtain ⟨a, b, c, rfl, -⟩ := g.ok j hj
  have m := w_max a b c
  generalize topT [(a : Int), b, c] = t at m ⊢
  refine ⟨by simp, ?_, fun _ => by simp⟩
  simp [m]
  rw [Bool.eq_iff_iff, decide_eq_true_iff, beq_iff_eq]
  omega
theorem w_kept_of {n : Nat} {js : List (List Int)} (g : Good n js) : d_kept_of [wD n js] = .val (.list ((keptT js n).map bD)) := by
  have hn := g.hi
  have q := for_up0 (b := bName 2) (wp := [2, 3, 4, 5, 6, 7]) (body := (oSeq (oSet 3 (dL (dLc [8] (dWk anyL (dBin pIx (dVar 0) (dC (.int 1)))) (bName 8) (dTst (dBin pEq (dApp pMaxA [(dVar 8)]) (dVar 2))) (dVar 8))))
  (oSeq (oSetL 4 (dArgs []))
  (oSeq (oFor [5, 6, 7] (dWk anyL (dVar 1)) (bName 5)
  (oFor [6, 7] (dWk anyL (dC (.str (PySem.Str.ofString "01")))) (bName 6) kBody))
  (oPre (frzs [4]) (oSet 1 (dVar 4))))))) (fun k => [.fz (wD n js), .fz (.list ((keptT js k).map bD)), .un, .un, .un, .un, .un, .un, .un, .un]) n fun k hk => by
    have s := k_rows g hk (.fz (wD n js)) (.fz (.list ((keptT js k).map bD))) (.fz (.int (k : Nat)))
    have t := k_ready (k := k) g (.fz (wD n js)) (.fz (.list ((keptT js k).map bD))) .un .un .un .un .un
    refine ⟨[.fz (wD n js), .fz (.list ((keptT js k).map bD)), .fz (.int (k : Nat)), .un, .un, .un, .un, .un, .un, .un], [.fz (wD n js), .fz (.list ((keptT js (k + 1)).map bD)), .fz (.int (k : Nat)), .fz (.list ((readyT js k).map tupD)), .fz (.list ((keptT js (k + 1)).map bD)), .un, .un, .un, .un, .un], by simp, .inl ?_, by simp⟩
    rw [oSeq_eq]
    simp only [ap_oSet, ap_dL, ap_dLc, ap_dWk, ap_dBin, dVar_eq, List.getElem?_cons_zero, slD_fz, ap_dC, R.bind_val, wD_1, anyL_tuple]
    simp [t]
    rw [show ([.fz (wD n js), .fz (.list ((keptT js k).map bD)), .fz (.int (k : Nat)), .fz (.list ((readyT js k).map tupD)), .ol [], .un, .un, .un, .un, .un] : En) = [.fz (wD n js), .fz (.list ((keptT js k).map bD)), .fz (.int (k : Nat)), .fz (.list ((readyT js k).map tupD)), .ol [], .un, .un, .un, .un, .un] from rfl, s]
    simp [frz]
  have r1 := rng1_eq n (by omega)
  simp only [keptT, List.map_cons, List.map_nil] at q
  simp [-oTurns_cons, d_kept_of, o_kept_of, r1, str_e]
  rw [q]
  simp
/-- a loop that tells the first that is found -/
theorem for_find {α : Type} {b : D → En → Option En} {wp : List Nat} {body : En → Out} (en : α → D) (ρ0 : En) (p : α → Bool) (d : α → D) : ∀ xs : List α,
    (∀ x ∈ xs, ∃ ρ, b (en x) ρ0 = some ρ ∧ (p x = true → body ρ = .rt (d x)) ∧ (p x = false → ∃ ρ', (body ρ = .nx ρ' ∨ body ρ = .ct ρ') ∧ fgt wp ρ' = ρ0)) →
    oTurns b wp body (xs.map en) ρ0 = match xs.find? p with
      | some x => .rt (d x)
      | none => .nx ρ0
  | [], _ => rfl
  | x :: r, h => by
    have ih := for_find (b := b) (wp := wp) (body := body) en ρ0 p d r fun y hy => h y (List.mem_cons_of_mem _ hy)
    obtain ⟨ρ, h1, h2, h3⟩ := h x List.mem_cons_self
    rw [List.map_cons, oTurns_cons, h1, turnO_some]
    cases e : p x with
    | true =>
      rw [h2 e, List.find?_cons_of_pos e]
      rfl
    | false =>
      obtain ⟨ρ', h4, h5⟩ := h3 e
      rw [List.find?_cons_of_neg (by rw [e]; decide)]
      rcases h4 with h4 | h4 <;> rw [h4] <;> simp only [afterO_nx, afterO_ct] <;> rw [h5, ih]
theorem pIn_13 (m : Nat) (h : m ≤ 3) : inB (.int (m : Int)) (.tuple [.int 1, .int 3]) = .val (m % 2 == 1) := by
  have e : m = 0 ∨ m = 1 ∨ m = 2 ∨ m = 3 := by omega
  rcases e with e | e | e | e <;> subst e <;> rfl
/-- a jump that is whole in the row and odd there -/
def badT (r : List Bool) (j : List Int) : Bool := decide (topT j < r.length) && oddT r j
def oddAt (r s : List Bool) : Nat := (List.zip r s).countP (fun p => p.1 && p.2) % 2
theorem eqv_cD (a b : Bool) : PyData.eqv (cD a) (cD b) = (a == b) := by
  have q := eqv_iff 0 0 (cD a) (cD b) (by rw [cD_sD]; exact okD_sD 0 _) (by rw [cD_sD]; exact okD_sD 0 _)
  rw [Bool.eq_iff_iff, q, beq_iff_eq]
  exact ⟨cD_inj, fun e => by rw [e]⟩
theorem str_o' : PyData.str (PySem.Str.ofString "o") = cD true := by rw [sS_o, cD_sD]; rfl
theorem count_cD (l : List Bool) : pLCount (.list (l.map cD)) [.str (PySem.Str.ofString "o")] = .val (.int ((l.countP id : Nat) : Int)) := by
  rw [str_o']
  show (if SeqAt.shaped (.list (l.map cD)) && SeqAt.shaped (cD true) then _ else _) = _
  rw [okD_shaped (n := 1) (show okD 1 (.list (l.map cD)) = true by
    refine okDs_iff.mpr fun d hd => ?_
    obtain ⟨b, _, rfl⟩ := List.mem_map.mp hd
    rw [cD_sD]
    exact okD_sD 0 [b]), okD_shaped (n := 0) (by rw [cD_sD]; exact okD_sD 0 [true])]
  show R.val (PyData.int (((l.map cD).countP fun z => PyData.eqv z (cD true) : Nat) : Int)) = _
  rw [List.countP_map]
  have e : ((fun z => PyData.eqv z (cD true)) ∘ cD) = fun b : Bool => id b := by
    funext b
    show PyData.eqv (cD b) (cD true) = id b
    rw [eqv_cD]
    cases b <;> rfl
  rw [e]
theorem zip_bc {r s : List Bool} (h1 : r.length ≤ M) (h2 : s.length ≤ M) : pZip [bD r, sD s] = .val ((List.zip r s).map fun p => .tuple [bC p.1, cD p.2]) := by
  show (anyL (bD r) >>= fun ds => anyL (sD s) >>= fun es => R.val ((zipD ds es).map PyData.tuple)) = _
  rw [anyL_bD h1, anyL_sD h2]
  show R.val ((zipD (r.map bC) (s.map cD)).map PyData.tuple) = _
  congr 1
  unfold zipD
  rw [List.zipWith_map, List.map_zipWith, List.zip_eq_zipWith, List.map_zipWith]
theorem str_1 : PyData.str (PySem.Str.ofString "1") = bC true := by rw [bS_1, bC_bD]; rfl
theorem pEq_b1 (b : Bool) : pEq (bC b) (bC true) = .val (.bool b) := by
  have q := pEq_bb [b] [true]
  rw [← bC_bD, ← bC_bD] at q
  rw [q]
  cases b <;> rfl
theorem pEq_c1 (b : Bool) : pEq (cD b) (cD true) = .val (.bool b) := by
  cases b with
  | true => rw [cD_sD, pEq_same (okD_sD 0 _)]
  | false =>
    rw [cD_sD, cD_sD, pEq_not (okD_sD 0 _) (okD_sD 0 _) fun e => by
      have := sS_inj (by unfold sD at e; injection e)
      cases this]
theorem w_odd_at {r s : List Bool} (h1 : r.length ≤ M) (h2 : s.length ≤ M) : d_odd_at [bD r, sD s] = .val (.int (oddAt r s : Nat)) := by
  have c := lc_some (b := bAny 2 (bCons (bName 2) (bCons (bName 3) bNil))) (c := dTst (dBin pEq (dVar 2) (dC (.str (PySem.Str.ofString "1"))))) (e := dVar 3) (ρ := [.fz (bD r), .fz (sD s), .un, .un]) (fun p : Bool × Bool => .tuple [bC p.1, cD p.2]) (fun p => [.fz (bD r), .fz (sD s), .fz (bC p.1), .fz (cD p.2)]) (fun p => p.1) (fun p => cD p.2) (List.zip r s) fun p _ => ⟨by simp, by simp [str_1, pEq_b1], fun _ => by simp⟩
  have e : ((List.zip r s).filter fun p => p.1).map (fun p => cD p.2) = (((List.zip r s).filter fun p => p.1).map Prod.snd).map cD := by
    rw [List.map_map]; rfl
  rw [e] at c
  have k := count_cD (((List.zip r s).filter fun p => p.1).map Prod.snd)
  have e2 : (((List.zip r s).filter fun p => p.1).map Prod.snd).countP id = (List.zip r s).countP fun p => p.1 && p.2 := by
    rw [List.countP_map, List.countP_filter]
    refine List.countP_congr fun p _ => ?_
    obtain ⟨x, y⟩ := p
    cases x <;> cases y <;> simp
  rw [e2] at k
  generalize ((((List.zip r s).filter fun p => p.1).map Prod.snd).map cD) = l at c k
  simp [d_odd_at, o_odd_at, zip_bc h1 h2, c, k, odd_val, oddAt]
theorem join_bD (s : List Bool) (h : s.length ≤ M) : pJoin (.str (PySem.Str.ofString "")) [.list (s.map bC)] = .val (bD s) := by
  have e : s.map bC = (s.map fun b => (⟨#[bg b]⟩ : Str)).map PyData.str := by
    rw [List.map_map]; rfl
  show joinOf _ (s.map bC) = _
  rw [e, joinOf_eq]
  · congr 1
    unfold bD
    congr 1
    refine str_ext ?_
    rw [join_flat, List.map_map]
    clear e h
    unfold bS
    induction s with
    | nil => rfl
    | cons b r ih =>
      rw [List.map_cons, List.flatten_cons, List.map_cons]
      simp at ih ⊢
      rw [ih]
  · have e0 : (PySem.Str.ofString "").length = 0 := by decide +kernel
    rw [e0, Nat.mul_zero, Nat.add_zero, List.map_map]
    have e1 : (s.map ((fun x : Str => x.length) ∘ fun b => (⟨#[bg b]⟩ : Str))) = s.map fun _ => 1 := by
      refine List.map_congr_left fun b _ => rfl
    rw [e1]
    have e2 : (s.map fun _ => 1).sum = s.length := by
      clear e e1 h
      induction s with
      | nil => rfl
      | cons b r ih => rw [List.map_cons, List.sum_cons, ih, List.length_cons]; omega
    rw [e2]; exact h
theorem odd_lt (r s : List Bool) : oddAt r s < 2 := Nat.mod_lt _ (by decide)
theorem str_bit (m : Nat) (h : m < 2) : pStrOf [.int (m : Int)] = .val (bC (m == 1)) := by
  have e : m = 0 ∨ m = 1 := by omega
  rcases e with e | e <;> subst e <;> with_unfolding_all rfl
/-- the text of the odd counts -/
def bitsT (rows : List (List Bool)) (s : List Bool) : List Bool := rows.map fun r => oddAt r s == 1
theorem w_parted {n : Nat} {js : List (List Int)} {s t : List Bool} (g : Good n js) (h : s.length = n) (k : t.length = n) : d_parted_by [wD n js, sD s, sD t] = .val (match (keptT js n).find? (fun r => !(oddAt r s == oddAt r t)) with
    | some r => bD r
    | none => .none) := by
  have hM := stand_M h g.hi
  have kM := stand_M k g.hi
  have q := for_find (b := bName 3) (wp := [3]) (body := oIf (dTst (dBin pNe (dApp d_odd_at [(dVar 3), (dVar 1)]) (dApp d_odd_at [(dVar 3), (dVar 2)]))) (oRet (dVar 3)) oNext) bD [.fz (wD n js), .fz (sD s), .fz (sD t), .un] (fun r => !(oddAt r s == oddAt r t)) bD (keptT js n) fun r hr => by
    have hr' := kept_rows js n r hr
    have rM : r.length ≤ M := by have := g.hi; rw [hr']; show n ≤ 16777216; omega
    have o1 := w_odd_at (r := r) (s := s) rM hM
    have o2 := w_odd_at (r := r) (s := t) rM kM
    have e : (decide ((oddAt r s : Int) = (oddAt r t : Int))) = (oddAt r s == oddAt r t) := by
      rw [Bool.eq_iff_iff, decide_eq_true_iff, beq_iff_eq]; omega
    refine ⟨[.fz (wD n js), .fz (sD s), .fz (sD t), .fz (bD r)], by simp, fun hp => ?_, fun hp => ⟨[.fz (wD n js), .fz (sD s), .fz (sD t), .fz (bD r)], .inl ?_, by simp⟩⟩
    · simp only [ap_oIf, ap_dTst, ap_dBin, ap_dApp, ap_dArgs_cons, ap_dArgs_nil, dVar_eq, List.getElem?_cons_zero, List.getElem?_cons_succ, slD_fz, R.bind_val, o1, o2, pNe_int, e, asB_bool, toO_val_eq, hp]
      simp
    · simp only [ap_oIf, ap_dTst, ap_dBin, ap_dApp, ap_dArgs_cons, ap_dArgs_nil, dVar_eq, List.getElem?_cons_zero, List.getElem?_cons_succ, slD_fz, R.bind_val, o1, o2, pNe_int, e, asB_bool, toO_val_eq, hp]
      simp
  have l2 : d_look_two [wD n js, sD s, sD t] = .val .none := by simp [d_look_two, o_look_two, w_look_stand g h, w_look_stand g k]
  simp [-oTurns_cons, d_parted_by, o_parted_by, l2, w_kept_of g]
  rw [q]
  cases (keptT js n).find? (fun r => !(oddAt r s == oddAt r t)) <;> simp
theorem odd_ext {n : Nat} {r : List Bool} {b : Bool} {j : List Int} (hj : JOk n j) (h : topT j < r.length) : oddT (r ++ [b]) j = oddT r j := by
  obtain ⟨a, c, d, rfl, -⟩ := hj
  rw [topT_abc] at h
  have e : ∀ x : Nat, x < r.length → (r ++ [b])[x]? = r[x]? := fun x hx => List.getElem?_append_left hx
  unfold oddT onesT
  simp only [List.map_cons, List.map_nil, Int.toNat_natCast]
  rw [e a (by omega), e c (by omega), e d (by omega)]
/-- a row kept is even at every jump that is whole in it -/
theorem kept_even {n : Nat} {js : List (List Int)} (g : Good n js) : ∀ k, ∀ r ∈ keptT js k, ∀ j ∈ js, topT j < k → oddT r j = false
  | 0, _, _, _, _, h => absurd h (Nat.not_lt_zero _)
  | k + 1, r, hr, j, hj, h => by
    obtain ⟨r', h1, h2⟩ := List.mem_flatMap.mp (show r ∈ extT js k (keptT js k) from hr)
    obtain ⟨h3, h4⟩ := List.mem_filter.mp h2
    have hl := kept_rows js k r' h1
    obtain ⟨b, rfl⟩ : ∃ b, r = r' ++ [b] := by
      simp at h3
      rcases h3 with e | e
      · exact ⟨_, e⟩
      · exact ⟨_, e⟩
    by_cases ht : topT j = k
    · have m : j ∈ readyT js k := List.mem_filter.mpr ⟨hj, by rw [beq_iff_eq]; exact ht⟩
      cases ho : oddT (r' ++ [b]) j with
      | false => rfl
      | true =>
        have m2 : j ∈ (readyT js k).filter (oddT (r' ++ [b])) := List.mem_filter.mpr ⟨m, ho⟩
        rw [List.isEmpty_iff.mp h4] at m2
        cases m2
    · rw [odd_ext (g.ok j hj) (by omega)]
      exact kept_even g k r' h1 j hj (by omega)
theorem even_is {n k : Nat} {js : List (List Int)} (g : Good n js) {r : List Bool} (hr : r ∈ keptT js k) (b : Bool) : (js.find? (badT (r ++ [b]))).isNone = goodT js k (r ++ [b]) := by
  have hl := kept_rows js k r hr
  rw [Bool.eq_iff_iff]
  unfold goodT
  rw [Option.isNone_iff_eq_none, List.find?_eq_none, List.isEmpty_iff, List.filter_eq_nil_iff]
  constructor
  · intro h j hj
    obtain ⟨h1, h2⟩ := List.mem_filter.mp hj
    rw [beq_iff_eq] at h2
    intro ho
    apply h j h1
    unfold badT
    rw [ho, Bool.and_true, decide_eq_true_iff, List.length_append, hl, h2]
    exact Nat.lt_succ_self k
  · intro h j hj hb
    unfold badT at hb
    rw [Bool.and_eq_true, decide_eq_true_iff, List.length_append, hl] at hb
    obtain ⟨h1, h2⟩ := hb
    replace h1 : topT j < k + 1 := h1
    by_cases ht : topT j = k
    · exact h j (List.mem_filter.mpr ⟨hj, by rw [beq_iff_eq]; exact ht⟩) h2
    · rw [odd_ext (g.ok j hj) (by omega), kept_even g k r hr j hj (by omega)] at h2
      cases h2
/-- the law's own rows are these -/
theorem due_step {n k : Nat} {js : List (List Int)} (g : Good n js) : ((keptT js k).flatMap fun r => [r ++ [false], r ++ [true]]).filter (fun r => (js.find? (badT r)).isNone) = keptT js (k + 1) := by
  show _ = (keptT js k).flatMap fun r => [r ++ [false], r ++ [true]].filter (goodT js k)
  rw [List.filter_flatMap]
  refine congrArg List.flatten (List.map_congr_left fun r hr => ?_)
  refine List.filter_congr fun x hx => ?_
  simp at hx
  rcases hx with e | e <;> rw [e] <;> exact even_is g hr _
theorem zero_odd (k : Nat) (j : List Int) : oddT (List.replicate k false) j = false := by
  have e : ∀ x : Nat, ((List.replicate k false)[x]?).getD false = false := fun x => by
    rw [List.getElem?_replicate]
    split <;> rfl
  unfold oddT onesT
  have : (j.map fun c => ((List.replicate k false)[c.toNat]?).getD false) = j.map fun _ => false := List.map_congr_left fun c _ => e _
  rw [this]
  have z : (j.map fun _ => false).countP id = 0 := by
    rw [List.countP_eq_zero]
    intro b hb
    obtain ⟨_, _, rfl⟩ := List.mem_map.mp hb
    decide
  rw [z]; rfl
/-- the first row kept is all 0 -/
theorem kept_head (js : List (List Int)) : ∀ k, ∃ l, keptT js k = List.replicate k false :: l
  | 0 => ⟨[], rfl⟩
  | k + 1 => by
    obtain ⟨l, e⟩ := kept_head js k
    have gz : goodT js k (List.replicate k false ++ [false]) = true := by
      rw [← List.replicate_succ']
      unfold goodT
      rw [List.isEmpty_iff, List.filter_eq_nil_iff]
      intro j _
      rw [zero_odd]
      decide
    show ∃ l, ((keptT js k).flatMap fun r => [r ++ [false], r ++ [true]].filter (goodT js k)) = _
    rw [e, List.flatMap_cons, List.filter_cons_of_pos gz, List.replicate_succ']
    exact ⟨_, rfl⟩
def cntT (r s : List Bool) : Nat := (List.zip r s).countP fun p => p.1 && p.2
theorem cnt_set : ∀ (r s : List Bool) (i : Nat) (v : Bool), i < r.length → i < s.length → cntT r (s.set i v) + (r[i]?.getD false && s[i]?.getD false).toNat = cntT r s + (r[i]?.getD false && v).toNat
  | x :: r, y :: s, 0, v, _, _ => by
    unfold cntT
    simp only [List.set_cons_zero, List.zip_cons_cons, List.countP_cons, List.getElem?_cons_zero, Option.getD_some]
    cases x <;> cases y <;> cases v <;> simp
  | x :: r, y :: s, i + 1, v, h1, h2 => by
    have ih := cnt_set r s i v (by simpa using h1) (by simpa using h2)
    unfold cntT at ih ⊢
    simp only [List.set_cons_succ, List.zip_cons_cons, List.countP_cons, List.getElem?_cons_succ]
    omega
  | [], _, _, _, h, _ => by simp at h
  | _ :: _, [], _, _, _, h => by simp at h
theorem odd_move {n : Nat} {r s : List Bool} {j : List Int} (hj : JOk n j) (hr : r.length = n) (hs : s.length = n) (he : oddT r j = false) (hh : hasT s j pegs2 = true) : oddAt r (putT s j pegs1) = oddAt r s := by
  obtain ⟨a, b, c, rfl, h1, h2, h3, h4, h5, h6⟩ := hj
  have ha : [s[a]?.getD false, s[b]?.getD false, s[c]?.getD false] = pegs2 := by simpa [hasT] using hh
  simp only [List.cons.injEq, and_true] at ha
  obtain ⟨sa, sb, sc⟩ := ha
  have e : putT s [(a : Int), b, c] pegs1 = ((s.set a false).set b false).set c true := by simp [putT]
  have c1 := cnt_set r s a false (by omega) (by omega)
  have c2 := cnt_set r (s.set a false) b false (by omega) (by rw [List.length_set]; omega)
  have c3 := cnt_set r ((s.set a false).set b false) c true (by omega) (by rw [List.length_set, List.length_set]; omega)
  rw [List.getElem?_set_ne h4] at c2
  rw [List.getElem?_set_ne h6, List.getElem?_set_ne h5] at c3
  rw [sa] at c1
  rw [sb] at c2
  rw [sc] at c3
  have ho : ([r[a]?.getD false, r[b]?.getD false, r[c]?.getD false].countP id) % 2 ≠ 1 := by
    intro q
    have e2 : oddT r [(a : Int), b, c] = (([r[a]?.getD false, r[b]?.getD false, r[c]?.getD false].countP id) % 2 == 1) := rfl
    rw [e2, q] at he
    cases he
  show cntT r (putT s [(a : Int), b, c] pegs1) % 2 = cntT r s % 2
  rw [e]
  generalize r[a]?.getD false = x at *
  generalize r[b]?.getD false = y at *
  generalize r[c]?.getD false = z at *
  cases x <;> cases y <;> cases z <;> simp at c1 c2 c3 ho ⊢ <;> omega
def nextT (js : List (List Int)) (s : List Bool) : List (List Bool) := (fwd js s).map (·.2)
theorem nextT_eq (js : List (List Int)) (s : List Bool) : nextT js s = (js.filter fun j => hasT s j pegs2).map fun j => putT s j pegs1 := by
  unfold nextT
  show (((js.zipIdx.filter fun x => hasT s x.1 pegs2).map fun x => (x.2, putT s x.1 pegs1)).map (·.2)) = _
  rw [List.map_map]
  have e : js.zipIdx.map Prod.fst = js := by
    apply List.ext_getElem?
    intro i
    rw [List.getElem?_map, List.getElem?_zipIdx]
    cases js[i]? <;> rfl
  conv => rhs; rw [← e]
  rw [List.filter_map, List.map_map]
  rfl
abbrev stN (n : Nat) (js : List (List Int)) (s : List Bool) (x : List (List Bool) × Nat) : En := [.fz (wD n js), .fz (sD s), .ol (x.1.map sD), .od (kvL x.1), .fz (.int x.2), .un]
theorem w_between_many {n : Nat} {js : List (List Int)} {s t : List Bool} (g : Good n js) (h : s.length = n) (k : t.length = n) (c : ¬ okF (fwd js) s) : d_between [wD n js, sD s, sD t] = .exc .many := by
  simp [d_between, o_between, w_all_from g h, c]
theorem w_between_never {n : Nat} {js : List (List Int)} {s t : List Bool} (g : Good n js) (h : s.length = n) (k : t.length = n) (c : okF (fwd js) s) (e : t ∉ farT (fwd js) s) : d_between [wD n js, sD s, sD t] = .exc .never := by
  simp [d_between, o_between, w_all_from g h, c, kv_out e]
theorem w_row_to_many {n : Nat} {js : List (List Int)} {s t : List Bool} (g : Good n js) (h : s.length = n) (k : t.length = n) (c : ¬ okF (fwd js) s) : d_row_to [wD n js, sD s, sD t] = .exc .many := by
  simp [d_row_to, o_row_to, w_look_two g h k, w_between_many g h k c]
theorem w_row_to_never {n : Nat} {js : List (List Int)} {s t : List Bool} (g : Good n js) (h : s.length = n) (k : t.length = n) (c : okF (fwd js) s) (e : t ∉ farT (fwd js) s) : d_row_to [wD n js, sD s, sD t] = .exc .never := by
  simp [d_row_to, o_row_to, w_look_two g h k, w_between_never g h k c e]
theorem get_notT {s : List Bool} {n a : Nat} (h : s.length = n) (ha : a < n) : (s.map not)[a]?.getD false = !(s[a]?.getD false) := by
  rw [List.getElem?_map, getD_some h ha]
  rfl
theorem has_notT {n : Nat} {s : List Bool} {j : List Int} (h : s.length = n) (hj : JOk n j) (x y z : Bool) : hasT (s.map not) j [x, y, z] = hasT s j [!x, !y, !z] := by
  obtain ⟨a, b, c, rfl, h1, h2, h3, -⟩ := hj
  unfold hasT
  simp only [List.map_cons, List.map_nil, Int.toNat_natCast]
  rw [get_notT h h1, get_notT h h2, get_notT h h3]
  cases s[a]?.getD false <;> cases s[b]?.getD false <;> cases s[c]?.getD false <;> cases x <;> cases y <;> cases z <;> rfl
theorem put_notT {n : Nat} {s : List Bool} {j : List Int} (hj : JOk n j) (x y z : Bool) : putT (s.map not) j [x, y, z] = (putT s j [!x, !y, !z]).map not := by
  obtain ⟨a, b, c, rfl, -⟩ := hj
  simp [putT, List.map_set]
theorem step_notT {n : Nat} {js : List (List Int)} {s : List Bool} (g : ∀ j ∈ js, JOk n j) (h : s.length = n) (x y z u v w : Bool) : stepT js (s.map not) [x, y, z] [u, v, w] = (stepT js s [!x, !y, !z] [!u, !v, !w]).map fun m => (m.1, m.2.map not) := by
  unfold stepT
  rw [List.map_map]
  have e1 : js.zipIdx.filter (fun p => hasT (s.map not) p.1 [x, y, z]) = js.zipIdx.filter fun p => hasT s p.1 [!x, !y, !z] := by
    refine List.filter_congr fun p hp => ?_
    exact has_notT h (g p.1 (zipIdx_mem hp).1) x y z
  rw [e1]
  refine List.map_congr_left fun p hp => ?_
  have hj := g p.1 (zipIdx_mem (List.mem_filter.mp hp).1).1
  show (p.2, putT (s.map not) p.1 [u, v, w]) = (p.2, (putT s p.1 [!u, !v, !w]).map not)
  rw [put_notT hj]
theorem not_inj {s t : List Bool} (h : s.map not = t.map not) : s = t := (List.map_inj_right fun a b => by cases a <;> cases b <;> simp).mp h
theorem not_notT (s : List Bool) : (s.map not).map not = s := by
  rw [List.map_map]
  conv => rhs; rw [← List.map_id s]
  refine List.map_congr_left fun b _ => ?_
  cases b <;> rfl
theorem addT_not (L : List (List Bool)) (m : Nat × List Bool) : addT (L.map (List.map not)) (m.1, m.2.map not) = (addT L m).map (List.map not) := by
  unfold addT
  have e : (m.2.map not ∈ L.map (List.map not)) ↔ m.2 ∈ L := by
    constructor
    · intro h
      obtain ⟨x, hx, e⟩ := List.mem_map.mp h
      rw [← not_inj e]; exact hx
    · exact fun h => List.mem_map.mpr ⟨_, h, rfl⟩
  by_cases c : m.2 ∈ L
  · rw [if_pos c, if_pos (e.mpr c)]
  · rw [if_neg c, if_neg (fun z => c (e.mp z)), List.map_append]; rfl
theorem fold_not : ∀ (ms : List (Nat × List Bool)) (L : List (List Bool)), (ms.map fun m => (m.1, m.2.map not)).foldl addT (L.map (List.map not)) = (ms.foldl addT L).map (List.map not)
  | [], L => rfl
  | m :: r, L => by
    rw [List.map_cons, List.foldl_cons, addT_not, fold_not r, List.foldl_cons]
/-- a search by steps that are turned -/
theorem bfs_not {n : Nat} {nx ny : Stp} (N : Nxt n nx) (e : ∀ s, s.length = n → ny (s.map not) = (nx s).map fun m => (m.1, m.2.map not)) : ∀ (f k : Nat) (L : List (List Bool)), Sts n L → bfsT ny f k (L.map (List.map not)) = (bfsT nx f k L).map (List.map not)
  | 0, _, _, _ => rfl
  | f + 1, k, L, h => by
    unfold bfsT
    rw [List.length_map]
    by_cases c : k < L.length ∧ L.length ≤ 80
    · rw [if_pos c, if_pos c]
      have hl := h.len _ (List.getElem_mem c.1)
      have g : growT ny (L.map (List.map not)) k = (growT nx L k).map (List.map not) := by
        unfold growT
        rw [List.getElem?_map, List.getElem?_eq_getElem c.1]
        show (ny (L[k].map not)).foldl addT _ = _
        rw [e _ hl, fold_not]
        rfl
      rw [g]
      exact bfs_not N e f (k + 1) _ (grow_sts N h c.1)
    · rw [if_neg c, if_neg c]
theorem far_not {n : Nat} {js : List (List Int)} {s : List Bool} (g : Good n js) (h : s.length = n) : farT (bwd js) (s.map not) = (farT (fwd js) s).map (List.map not) :=
  bfs_not (nxt_step g pegs2 pegs1) (fun s h => step_notT g.ok h false false true true true false) 100 0 [s] (.one h)
theorem okF_not {n : Nat} {js : List (List Int)} {s : List Bool} (g : Good n js) (h : s.length = n) : okF (bwd js) (s.map not) ↔ okF (fwd js) s := by
  unfold okF
  rw [far_not g h, List.length_map]
theorem lc_swap (i : Nat) (s : List Bool) (ρ : En) (hi : i < ρ.length) :
    lcTurns (bName i) dYes (dGetN (dDisp [(dC (.str (PySem.Str.ofString "o")), dC (.str (PySem.Str.ofString "."))), (dC (.str (PySem.Str.ofString ".")), dC (.str (PySem.Str.ofString "o")))]) (dVar i)) (s.map cD) ρ = .val ((s.map not).map cD) := by
  rw [List.map_map]
  refine lc_map cD (fun b => ρ.set i (.fz (cD b))) (cD ∘ not) s fun b _ => ⟨rfl, rfl, ?_⟩
  have e : (ρ.set i (.fz (cD b)))[i]? = some (.fz (cD b)) := List.getElem?_set_self hi
  have d : dDisp [(dC (.str (PySem.Str.ofString "o")), dC (.str (PySem.Str.ofString "."))), (dC (.str (PySem.Str.ofString ".")), dC (.str (PySem.Str.ofString "o")))] (ρ.set i (.fz (cD b))) = .val (mergeD [] [(.inr (sS [true]), cD false), (.inr (sS [false]), cD true)]) := by
    rw [str_o, str_n, cD_sD, cD_sD]
    rfl
  show (dDisp _ _ >>= fun kvs => dVar i _ >>= fun y => asK y >>= fun k => getD kvs k) = _
  rw [d, R.bind_val, dVar_eq, e, slD_fz, R.bind_val]
  cases b <;> rfl
theorem sign_text (b : Bool) (k : Nat) (h : k ≤ 1000) : pTimes (cD b) (.int (k : Int)) = .val (sD (List.replicate k b)) := by
  rw [cD_sD]
  show (if decide ((sS [b]).length ≤ 1000) && decide (0 ≤ (k : Int)) && decide ((k : Int) ≤ 1000) then R.val (PyData.str ⟨(List.replicate (k : Int).toNat (sS [b]).cps.toList).flatten.toArray⟩) else .stk) = _
  rw [sS_length, decide_eq_true (show ([b] : List Bool).length ≤ 1000 from Nat.succ_le_succ (Nat.zero_le _)), decide_eq_true (show 0 ≤ (k : Int) by omega), decide_eq_true (show (k : Int) ≤ 1000 by omega)]
  show R.val (PyData.str ⟨(List.replicate k [sg b]).flatten.toArray⟩) = _
  rw [List.flatten_replicate_singleton]
  unfold sD sS
  rw [List.map_replicate]
def Rn (nx : Stp) (s t : List Bool) : Prop := ∃ m ∈ nx s, m.2 = t
inductive Rs (nx : Stp) (s : List Bool) : List Bool → Prop
  | refl : Rs nx s s
  | step {t u : List Bool} : Rs nx s t → Rn nx t u → Rs nx s u
theorem Rs.trans {nx : Stp} {s t u : List Bool} (h : Rs nx s t) (k : Rs nx t u) : Rs nx s u := by
  induction k with
  | refl => exact h
  | step _ r ih => exact ih.step r
theorem Rs.head {nx : Stp} {s t u : List Bool} (h : Rn nx s t) (k : Rs nx t u) : Rs nx s u := (Rs.refl.step h).trans k
theorem Rs.cases_head {nx : Stp} {s u : List Bool} (h : Rs nx s u) : s = u ∨ ∃ t, Rn nx s t ∧ Rs nx t u := by
  induction h with
  | refl => exact .inl rfl
  | step h r ih =>
    rcases ih with e | ⟨t, h1, h2⟩
    · subst e; exact .inr ⟨_, r, .refl⟩
    · exact .inr ⟨t, h1, h2.step r⟩
theorem Rs.len {n : Nat} {nx : Stp} (N : Nxt n nx) {s t : List Bool} (h : Rs nx s t) (hs : s.length = n) : t.length = n := by
  induction h with
  | refl => exact hs
  | step _ r ih =>
    obtain ⟨m, hm, rfl⟩ := r
    exact (N _ ih).1 m hm
theorem addT_pre (L : List (List Bool)) (m : Nat × List Bool) : L <+: addT L m := by
  unfold addT; split
  · exact List.prefix_rfl
  · exact List.prefix_append _ _
theorem fold_pre : ∀ (ms : List (Nat × List Bool)) (L : List (List Bool)), L <+: ms.foldl addT L
  | [], _ => List.prefix_rfl
  | m :: r, L => (addT_pre L m).trans (fold_pre r _)
theorem fold_all : ∀ (ms : List (Nat × List Bool)) (L : List (List Bool)), ∀ m ∈ ms, m.2 ∈ ms.foldl addT L
  | m :: r, L, x, hx => by
    rw [List.foldl_cons]
    rcases List.mem_cons.mp hx with e | hx
    · subst e
      refine (fold_pre r _).subset ?_
      unfold addT; split
      · assumption
      · simp
    · exact fold_all r _ x hx
theorem bfs_closed {nx : Stp} : ∀ (f k : Nat) (L : List (List Bool)), 81 ≤ k + f → (∀ i, i < k → i < L.length → ∀ m ∈ nx (L[i]?.getD []), m.2 ∈ L) → (bfsT nx f k L).length ≤ 80 →
    ∀ t ∈ bfsT nx f k L, ∀ m ∈ nx t, m.2 ∈ bfsT nx f k L
  | 0, k, L, hk, hI, hl, t, ht, m, hm => by
    have ht' : t ∈ L := ht
    have hl' : L.length ≤ 80 := hl
    obtain ⟨i, hi, e⟩ := List.getElem_of_mem ht'
    refine hI i (by omega) hi m ?_
    rw [List.getElem?_eq_getElem hi, Option.getD_some, e]; exact hm
  | f + 1, k, L, hk, hI, hl, t, ht, m, hm => by
    unfold bfsT at hl ht ⊢
    by_cases c : k < L.length ∧ L.length ≤ 80
    · rw [if_pos c] at hl ht ⊢
      refine bfs_closed f (k + 1) (growT nx L k) (by omega) (fun i hi hil m hm => ?_) hl t ht m hm
      have pre : L <+: growT nx L k := fold_pre _ _
      have e : (growT nx L k)[i]? = L[i]? := by
        obtain ⟨r, er⟩ := pre
        rw [← er, List.getElem?_append_left (by omega)]
      rw [e] at hm
      by_cases q : i < k
      · exact pre.subset (hI i q (by omega) m hm)
      · have q' : i = k := by omega
        subst q'
        exact fold_all _ _ m hm
    · rw [if_neg c] at hl ht ⊢
      obtain ⟨i, hi, e⟩ := List.getElem_of_mem ht
      refine hI i (by omega) hi m ?_
      rw [List.getElem?_eq_getElem hi, Option.getD_some, e]; exact hm
theorem far_closed {nx : Stp} {s : List Bool} (h : okF nx s) {t : List Bool} (ht : t ∈ farT nx s) {m : Nat × List Bool} (hm : m ∈ nx t) : m.2 ∈ farT nx s :=
  bfs_closed 100 0 [s] (by decide) (fun i hi => absurd hi (Nat.not_lt_zero i)) h t ht m hm
theorem fold_sound {nx : Stp} {s : List Bool} : ∀ (ms : List (Nat × List Bool)) (L : List (List Bool)), (∀ t ∈ L, Rs nx s t) → (∀ m ∈ ms, Rs nx s m.2) → ∀ t ∈ ms.foldl addT L, Rs nx s t
  | [], L, h, _ => h
  | m :: r, L, h, k => by
    rw [List.foldl_cons]
    refine fold_sound r _ (fun t ht => ?_) fun x hx => k x (List.mem_cons_of_mem _ hx)
    unfold addT at ht
    split at ht
    · exact h t ht
    · rcases List.mem_append.mp ht with q | q
      · exact h t q
      · simp at q; rw [q]; exact k m List.mem_cons_self
theorem bfs_sound {nx : Stp} {s : List Bool} : ∀ (f k : Nat) (L : List (List Bool)), (∀ t ∈ L, Rs nx s t) → ∀ t ∈ bfsT nx f k L, Rs nx s t
  | 0, _, _, h => h
  | f + 1, k, L, h => by
    unfold bfsT
    split
    · rename_i c
      refine bfs_sound f (k + 1) _ (fold_sound _ _ h fun m hm => ?_)
      have hx := h _ (List.getElem_mem c.1)
      refine hx.step ⟨m, ?_, rfl⟩
      rw [List.getElem?_eq_getElem c.1] at hm
      exact hm
    · exact h
theorem far_sound {nx : Stp} {s t : List Bool} (h : t ∈ farT nx s) : Rs nx s t := bfs_sound 100 0 [s] (fun t ht => by simp at ht; subst ht; exact .refl) t h
theorem far_iff {nx : Stp} {s : List Bool} (h : okF nx s) (t : List Bool) : t ∈ farT nx s ↔ Rs nx s t := by
  refine ⟨far_sound, fun k => ?_⟩
  induction k with
  | refl => exact far_self nx s
  | step _ r ih =>
    obtain ⟨m, hm, rfl⟩ := r
    exact far_closed h ih hm
theorem memStep {js : List (List Int)} {s p q : List Bool} {i : Nat} {j : List Int} (h : js[i]? = some j) (k : hasT s j p = true) : (i, putT s j q) ∈ stepT js s p q :=
  List.mem_map.mpr ⟨(j, i), List.mem_filter.mpr ⟨List.mem_zipIdx_iff_getElem?.mpr h, k⟩, rfl⟩
theorem putHas {n : Nat} {s : List Bool} {j : List Int} (h : s.length = n) (hj : JOk n j) (x y z : Bool) : hasT (putT s j [x, y, z]) j [x, y, z] = true := by
  obtain ⟨a, b, c, rfl, h1, h2, h3, h4, h5, h6⟩ := hj
  simp [hasT, putT, List.getElem?_set, h, h1, h2, h3, h4, h5, h6, h4.symm, h5.symm, h6.symm]
theorem putPut {n : Nat} {s : List Bool} {j : List Int} (h : s.length = n) (hj : JOk n j) (x y z u v w : Bool) (k : hasT s j [u, v, w] = true) : putT (putT s j [x, y, z]) j [u, v, w] = s := by
  obtain ⟨a, b, c, rfl, h1, h2, h3, h4, h5, h6⟩ := hj
  simp [hasT] at k
  obtain ⟨k1, k2, k3⟩ := k
  have g1 : s[a]? = some u := by rw [getD_some h h1, k1]
  have g2 : s[b]? = some v := by rw [getD_some h h2, k2]
  have g3 : s[c]? = some w := by rw [getD_some h h3, k3]
  simp only [putT, List.zip_cons_cons, List.zip_nil_left, List.foldl_cons, List.foldl_nil, Int.toNat_natCast]
  refine List.ext_getElem? fun i => ?_
  simp only [List.getElem?_set, List.length_set]
  by_cases e1 : c = i
  · subst e1; simp [h, h3]; exact ((List.getElem?_eq_some_iff.mp g3).2).symm
  · by_cases e2 : b = i
    · subst e2; simp [e1, h, h2]; exact ((List.getElem?_eq_some_iff.mp g2).2).symm
    · by_cases e3 : a = i
      · subst e3; simp [e1, e2, h, h1]; exact ((List.getElem?_eq_some_iff.mp g1).2).symm
      · simp [e1, e2, e3]
theorem step_rev {n : Nat} {js : List (List Int)} {s u : List Bool} {i : Nat} (g : Good n js) (h : s.length = n) (m : (i, u) ∈ fwd js s) : (i, s) ∈ bwd js u := by
  obtain ⟨j, h1, h2, h3, h4⟩ := step_mem m
  have hj := g.ok j h2
  have e : u = putT s j [false, false, true] := h4
  have q := memStep (s := u) (p := pegs1) (q := pegs2) h1 (by rw [e]; exact putHas h hj false false true)
  have e2 : putT u j pegs2 = s := by rw [e]; exact putPut h hj false false true true true false h3
  rw [e2] at q
  exact q
theorem step_rev' {n : Nat} {js : List (List Int)} {s u : List Bool} {i : Nat} (g : Good n js) (h : u.length = n) (m : (i, s) ∈ bwd js u) : (i, u) ∈ fwd js s := by
  obtain ⟨j, h1, h2, h3, h4⟩ := step_mem m
  have hj := g.ok j h2
  have e : s = putT u j [true, true, false] := h4
  have q := memStep (s := s) (p := pegs2) (q := pegs1) h1 (by rw [e]; exact putHas h hj true true false)
  have e2 : putT s j pegs1 = u := by rw [e]; exact putPut h hj true true false false false true h3
  rw [e2] at q
  exact q
theorem Rs.rev {n : Nat} {js : List (List Int)} {s t : List Bool} (g : Good n js) (h : s.length = n) (r : Rs (fwd js) s t) : Rs (bwd js) t s := by
  induction r with
  | refl => exact .refl
  | step h1 r ih =>
    obtain ⟨m, hm, e⟩ := r
    have hl := h1.len (nxt_step g pegs2 pegs1) h
    have q : (m.1, _) ∈ bwd js m.2 := step_rev g hl (i := m.1) (u := m.2) hm
    exact Rs.head ⟨_, e ▸ q, rfl⟩ ih
theorem Rs.rev' {n : Nat} {js : List (List Int)} {s t : List Bool} (g : Good n js) (h : t.length = n) (r : Rs (bwd js) t s) : Rs (fwd js) s t := by
  induction r with
  | refl => exact .refl
  | step h1 r ih =>
    obtain ⟨m, hm, e⟩ := r
    have hl := h1.len (nxt_step g pegs1 pegs2) h
    have q : (m.1, _) ∈ fwd js m.2 := step_rev' g hl (i := m.1) (s := m.2) hm
    exact Rs.head ⟨_, e ▸ q, rfl⟩ ih
def pegs (s : List Bool) : Nat := s.count true
theorem count_put : ∀ (s : List Bool) (i : Nat) (v : Bool), i < s.length → (s.set i v).count true + (s[i]?.getD false).toNat = s.count true + v.toNat
  | b :: r, 0, v, _ => by cases b <;> cases v <;> simp [List.count_cons] <;> omega
  | b :: r, i + 1, v, h => by
    have ih := count_put r i v (by simpa using h)
    simp only [List.set_cons_succ, List.count_cons, List.getElem?_cons_succ]
    omega
theorem pegs_step {n : Nat} {js : List (List Int)} {s : List Bool} {m : Nat × List Bool} (g : Good n js) (h : s.length = n) (hm : m ∈ fwd js s) : pegs m.2 + 1 = pegs s := by
  obtain ⟨j, h1, h2, h3, h4⟩ := step_mem hm
  obtain ⟨a, b, c, rfl, k1, k2, k3, k4, k5, k6⟩ := g.ok j h2
  simp [hasT] at h3
  obtain ⟨e1, e2, e3⟩ := h3
  rw [h4]
  unfold pegs
  simp only [putT, List.zip_cons_cons, List.zip_nil_left, List.foldl_cons, List.foldl_nil, Int.toNat_natCast]
  have q1 := count_put s a false (by omega)
  have q2 := count_put (s.set a false) b false (by rw [List.length_set]; omega)
  have q3 := count_put ((s.set a false).set b false) c true (by rw [List.length_set, List.length_set]; omega)
  rw [List.getElem?_set_ne k4] at q2
  rw [List.getElem?_set_ne k6, List.getElem?_set_ne k5] at q3
  rw [e1] at q1
  rw [e2] at q2
  rw [e3] at q3
  simp at q1 q2 q3
  omega
theorem Rs.pegs {n : Nat} {js : List (List Int)} {s t : List Bool} (g : Good n js) (h : s.length = n) (r : Rs (fwd js) s t) : Dn.pegs t ≤ Dn.pegs s ∧ (Dn.pegs t = Dn.pegs s → t = s) := by
  induction r with
  | refl => exact ⟨Nat.le_refl _, fun _ => rfl⟩
  | step h1 r ih =>
    obtain ⟨m, hm, rfl⟩ := r
    have q := pegs_step g (h1.len (nxt_step g pegs2 pegs1) h) hm
    exact ⟨by omega, fun z => by omega⟩
def onT (js : List (List Int)) (s t : List Bool) : List (List Bool) := (farT (fwd js) s).filter fun u => decide (u ∈ farT (bwd js) t)
theorem w_betweenM {n : Nat} {js : List (List Int)} {s t : List Bool} (g : Good n js) (h : s.length = n) (k : t.length = n) (c : ¬ okF (fwd js) s) : d_between [wD n js, sD s, sD t] = .exc .many := by
  simp [d_between, o_between, w_all_from g h, c]
theorem w_betweenN {n : Nat} {js : List (List Int)} {s t : List Bool} (g : Good n js) (h : s.length = n) (k : t.length = n) (c : okF (fwd js) s) (e : t ∉ farT (fwd js) s) : d_between [wD n js, sD s, sD t] = .exc .never := by
  simp [d_between, o_between, w_all_from g h, c, kv_out e]
theorem w_betweenM2 {n : Nat} {js : List (List Int)} {s t : List Bool} (g : Good n js) (h : s.length = n) (k : t.length = n) (c : okF (fwd js) s) (e : t ∈ farT (fwd js) s) (c2 : ¬ okF (bwd js) t) : d_between [wD n js, sD s, sD t] = .exc .many := by
  simp [d_between, o_between, w_all_from g h, w_all_to g k, c, c2, kv_in e]
theorem w_between {n : Nat} {js : List (List Int)} {s t : List Bool} (g : Good n js) (h : s.length = n) (k : t.length = n) (c : okF (fwd js) s) (e : t ∈ farT (fwd js) s) (c2 : okF (bwd js) t) : d_between [wD n js, sD s, sD t] = .val (.list ((onT js s t).map sD)) := by
  have z := far_M (nxt_step g pegs2 pegs1) h g.hi
  simp [d_between, o_between, w_all_from g h, w_all_to g k, c, c2, kv_in e, keysR_kvL z]
  rw [lc_if sD (fun u => decide (u ∈ farT (bwd js) t)) sD _ ?h]
  case h =>
    intro u hu
    by_cases q : u ∈ farT (bwd js) t <;> simp [lc1, kv_some, q]
  rfl
theorem on_start {n : Nat} {js : List (List Int)} {s t : List Bool} (g : Good n js) (h : s.length = n) (k : t.length = n) (e : t ∈ farT (fwd js) s) (c2 : okF (bwd js) t) : s ∈ onT js s t := by
  refine List.mem_filter.mpr ⟨far_self _ _, decide_eq_true ((far_iff c2 s).mpr ?_)⟩
  exact (far_sound e).rev g h
theorem on_goal {n : Nat} {js : List (List Int)} {s t : List Bool} (e : t ∈ farT (fwd js) s) : t ∈ onT js s t :=
  List.mem_filter.mpr ⟨e, decide_eq_true (far_self _ _)⟩
theorem on_len {n : Nat} {js : List (List Int)} {s t u : List Bool} (g : Good n js) (h : s.length = n) (m : u ∈ onT js s t) : u.length = n :=
  (far_sts (nxt_step g pegs2 pegs1) h).len u (List.mem_filter.mp m).1
/-- behind each stand on ways but the goal one more such stands -/
theorem on_next {n : Nat} {js : List (List Int)} {s t u : List Bool} (g : Good n js) (h : s.length = n) (k : t.length = n) (c : okF (fwd js) s) (c2 : okF (bwd js) t) (m : u ∈ onT js s t) (ne : u ≠ t) : ∃ x ∈ fwd js u, x.2 ∈ onT js s t := by
  obtain ⟨m1, m2⟩ := List.mem_filter.mp m
  have r := (far_sound (of_decide_eq_true m2)).rev' g k
  rcases r.cases_head with e | ⟨v, ⟨x, hx, rfl⟩, r2⟩
  · exact absurd e ne
  · refine ⟨x, hx, List.mem_filter.mpr ⟨far_closed c m1 hx, decide_eq_true ((far_iff c2 _).mpr ?_)⟩⟩
    have lx := ((nxt_step g pegs2 pegs1) u (on_len g h m)).1 x hx
    exact r2.rev g lx
/-- jumps by their numbers, one by one -/
def rowT (js : List (List Int)) : List Bool → List Nat → Option (List Bool)
  | s, [] => some s
  | s, k :: ks => match js[k]? with
    | some j => if hasT s j pegs2 then rowT js (putT s j pegs1) ks else none
    | none => none
theorem rowT_snoc {js : List (List Int)} : ∀ {ks : List Nat} {s u : List Bool} {m : Nat × List Bool}, rowT js s ks = some u → m ∈ fwd js u → rowT js s (ks ++ [m.1]) = some m.2
  | [], s, u, m, h, hm => by
    obtain ⟨j, h1, h2, h3, h4⟩ := step_mem hm
    have e : s = u := Option.some.inj h
    subst e
    show (match js[m.1]? with
      | some j => if hasT s j pegs2 then rowT js (putT s j pegs1) [] else none
      | none => none) = _
    rw [h1]
    show (if hasT s j pegs2 then rowT js (putT s j pegs1) [] else none) = _
    rw [if_pos h3, h4]
    rfl
  | k :: ks, s, u, m, h, hm => by
    unfold rowT at h
    show (match js[k]? with
      | some j => if hasT s j pegs2 then rowT js (putT s j pegs1) (ks ++ [m.1]) else none
      | none => none) = _
    cases e : js[k]? with
    | none => rw [e] at h; cases h
    | some j =>
      rw [e] at h
      dsimp only at h ⊢
      by_cases c : hasT s j pegs2 = true
      · rw [if_pos c] at h ⊢
        exact rowT_snoc h hm
      · rw [if_neg c] at h; cases h
theorem rowT_pegs {n : Nat} {js : List (List Int)} (g : Good n js) : ∀ {ks : List Nat} {s u : List Bool}, s.length = n → rowT js s ks = some u → u.length = n ∧ pegs u + ks.length = pegs s ∧ Rs (fwd js) s u
  | [], s, u, h, e => by
    have e' : s = u := Option.some.inj e
    subst e'
    exact ⟨h, rfl, .refl⟩
  | k :: ks, s, u, h, e => by
    unfold rowT at e
    cases e1 : js[k]? with
    | none => rw [e1] at e; cases e
    | some j =>
      rw [e1] at e
      dsimp only at e
      by_cases c : hasT s j pegs2 = true
      · rw [if_pos c] at e
        have m := memStep (q := pegs1) e1 c
        obtain ⟨q1, q2, q3⟩ := rowT_pegs g (by rw [putT_length, h]) e
        have q4 := pegs_step g h m
        refine ⟨q1, ?_, q3.head ⟨_, m, rfl⟩⟩
        rw [List.length_cons]
        have q5 : pegs (putT s j pegs1) + 1 = pegs s := q4
        omega
      · rw [if_neg c] at e; cases e
theorem runW_meas {σ : Type} (go : σ → Bool) (step : σ → σ) (I : σ → Prop) (m : σ → Nat) (hs : ∀ s, I s → go s = true → I (step s) ∧ m (step s) < m s) : ∀ (k : Nat) (s : σ), I s → m s < k → ∃ s', runW go (fun s => (.ok (step s) : Except Out σ)) k s = .ok s' ∧ I s' ∧ go s' = false
  | 0, s, _, h => absurd h (Nat.not_lt_zero _)
  | k + 1, s, hI, h => by
    unfold runW
    cases e : go s with
    | false => exact ⟨s, rfl, hI, e⟩
    | true =>
      obtain ⟨h1, h2⟩ := hs s hI e
      exact runW_meas go step I m hs k (step s) h1 (by omega)
def pickT (js : List (List Int)) (s t here : List Bool) : Nat × List Bool := ((fwd js here).filter fun m => decide (m.2 ∈ onT js s t)).headD (0, [])
abbrev stR (n : Nat) (js : List (List Int)) (s t : List Bool) (x : List Nat × List Bool) : En := [.fz (wD n js), .fz (sD s), .fz (sD t), .fz (.list ((onT js s t).map sD)), .ol (x.1.map fun (k : Nat) => PyData.int (k : Int)), .fz (sD x.2), .un, .un]
structure InR (n : Nat) (js : List (List Int)) (s t : List Bool) (x : List Nat × List Bool) : Prop where
  on : x.2 ∈ onT js s t
  row : rowT js s x.1 = some x.2
theorem w_row_to {n : Nat} {js : List (List Int)} {s t : List Bool} (g : Good n js) (h : s.length = n) (k : t.length = n) (c : okF (fwd js) s) (e : t ∈ farT (fwd js) s) (c2 : okF (bwd js) t) :
    ∃ ks : List Nat, rowT js s ks = some t ∧ d_row_to [wD n js, sD s, sD t] = .val (.list (ks.map fun (k : Nat) => PyData.int (k : Int))) := by
  have bt := w_between g h k c e c2
  have hn := g.hi
  have pick : ∀ x : List Nat × List Bool, InR n js s t x → x.2 ≠ t → pickT js s t x.2 ∈ fwd js x.2 ∧ (pickT js s t x.2).2 ∈ onT js s t ∧ ((fwd js x.2).filter fun m => decide (m.2 ∈ onT js s t)).head? = some (pickT js s t x.2) := by
    intro x hI ne
    obtain ⟨y, h1, h2⟩ := on_next g h k c c2 hI.on ne
    have my : y ∈ (fwd js x.2).filter fun m => decide (m.2 ∈ onT js s t) := List.mem_filter.mpr ⟨h1, decide_eq_true h2⟩
    unfold pickT
    generalize hF : (fwd js x.2).filter (fun m => decide (m.2 ∈ onT js s t)) = F at my
    cases F with
    | nil => simp at my
    | cons a r =>
      have ha : a ∈ (fwd js x.2).filter fun m => decide (m.2 ∈ onT js s t) := by rw [hF]; simp
      obtain ⟨q1, q2⟩ := List.mem_filter.mp ha
      exact ⟨q1, of_decide_eq_true q2, rfl⟩
  have inv : ∀ x : List Nat × List Bool, InR n js s t x → x.2 ≠ t → InR n js s t (x.1 ++ [(pickT js s t x.2).1], (pickT js s t x.2).2) := fun x hI ne => by
    obtain ⟨q1, q2, _⟩ := pick x hI ne
    exact ⟨q2, rowT_snoc hI.row q1⟩
  have I0 : InR n js s t ([], s) := ⟨on_start g h k e c2, rfl⟩
  obtain ⟨⟨ks, u⟩, r1, r2, r3⟩ := runW_meas (fun x : List Nat × List Bool => !(x.2 == t)) (fun x => (x.1 ++ [(pickT js s t x.2).1], (pickT js s t x.2).2)) (InR n js s t) (fun x => pegs x.2)
    (fun x hI hg => by
      have ne : x.2 ≠ t := by simpa using hg
      refine ⟨inv x hI ne, ?_⟩
      have q := pegs_step g (on_len g h hI.on) (pick x hI ne).1
      show pegs (pickT js s t x.2).2 < pegs x.2
      omega) 20000 ([], s) I0 (by
        have : pegs s ≤ s.length := List.count_le_length
        show pegs s < 20000
        omega)
  have eu : u = t := by simpa using r3
  subst eu
  refine ⟨ks, r2.row, ?_⟩
  simp [d_row_to, o_row_to, w_look_two g h k, bt, -oTurns_cons]
  rw [while_at (stR n js s u) (fun x => !(x.2 == u)) (fun x => (x.1 ++ [(pickT js s u x.2).1], (pickT js s u x.2).2)) (InR n js s u) 20000 ([], s) ?e I0 ?hc ?hs]
  case e => rfl
  case hc =>
    intro x hI
    simp [pNe_ss]
  case hs =>
    rintro ⟨acc, here⟩ hI hg
    have ne : here ≠ u := by simpa using hg
    refine ⟨inv _ hI ne, ?_⟩
    have hl := on_len g h hI.on
    have mv := w_moves_of g hl
    obtain ⟨q1, q2, q3⟩ := pick _ hI ne
    have la : acc.length < M := by
      have : pegs here + acc.length = pegs s := (rowT_pegs g h hI.row).2.1
      have : pegs s ≤ s.length := List.count_le_length
      show acc.length < 16777216
      omega
    simp [mv]
    rw [lc_if mvD (fun m => decide (m.2 ∈ onT js s u)) mvD _ ?h]
    case h =>
      intro m hm
      have q := pIn_sDs m.2 (onT js s u)
      by_cases z : m.2 ∈ onT js s u <;> simp [z] at q <;> simp [lc1, mvD, q, z]
    have hd : (((fwd js here).filter fun m => decide (m.2 ∈ onT js s u)).map mvD)[0]? = some (mvD (pickT js s u here)) := by
      rw [← List.head?_eq_getElem?, List.head?_map, q3]; rfl
    simp only [List.head?_eq_getElem?] at q3
    simp [hd, q3, mvD, la, stR]
  rw [r1]
  simp [stR, frz]
abbrev natD (k : Nat) : D := .int (k : Int)
def stepR (js : List (List Int)) (s : List Bool) (k : Nat) : Except Out (List Bool) := match js[k]? with
  | some j => if hasT s j pegs2 then .ok (putT s j pegs1) else .error (.rt (.bool false))
  | none => .error (.rt (.bool false))
theorem fold_row (js : List (List Int)) : ∀ (ks : List Nat) (s : List Bool), ks.foldlM (stepR js) s = match rowT js s ks with
    | some u => .ok u
    | none => .error (.rt (.bool false))
  | [], s => rfl
  | k :: ks, s => by
    rw [List.foldlM_cons]
    unfold stepR rowT
    cases js[k]? with
    | none => rfl
    | some j =>
      dsimp only
      by_cases c : hasT s j pegs2 = true
      · rw [if_pos c, if_pos c]
        exact fold_row js ks _
      · rw [if_neg c, if_neg c]
        rfl
theorem w_is_row {n : Nat} {js : List (List Int)} {s t : List Bool} (g : Good n js) (h : s.length = n) (k : t.length = n) (ks : List Nat) : d_is_row [wD n js, sD s, sD t, .tuple (ks.map natD)] = .val (.bool (rowT js s ks == some t)) := by
  simp [d_is_row, o_is_row, -oTurns_cons]
  rw [run_at natD (fun here => [.fz (wD n js), .fz (sD s), .fz (sD t), .fz (.tuple (ks.map natD)), .fz (sD here), .un]) (stepR js) (fun u => u.length = n) ks s ?e h ?hs]
  case e => rfl
  case hs =>
    intro i _ u hu
    unfold stepR
    cases e : js[i]? with
    | none =>
      have hi : ¬ (i : Int) ≤ (js.length : Nat) - 1 := by
        have := List.getElem?_eq_none_iff.mp e
        omega
      have hi' : ¬ ((i : Int) < (js.length : Nat)) := by omega
      refine ⟨by simp, ?_⟩
      simp [turn1, w_is_within, hi, hi']
    | some j =>
      have hl : i < js.length := (List.getElem?_eq_some_iff.mp e).1
      have hj := g.ok j (List.mem_of_getElem? e)
      have hi : (i : Int) ≤ (js.length : Nat) - 1 := by omega
      have hi' : (i : Int) < (js.length : Nat) := by omega
      have e1 := w_has (p := pegs2) hu g.hi hj (by show 3 ≤ 16777216; decide)
      have e2 := w_put (x := false) (y := false) (z := true) hu g.hi hj
      rw [show sD pegs2 = .str (PySem.Str.ofString "oo.") by rw [sS_oo]; rfl] at e1
      rw [show sD [false, false, true] = .str (PySem.Str.ofString "..o") by rw [sS_no]; rfl] at e2
      by_cases c : hasT u j pegs2 = true
      · refine ⟨by simp [c, putT_length, hu], ?_⟩
        simp [turn1, w_is_within, hi, hi', e, e1, e2, c]
      · refine ⟨by simp [c], ?_⟩
        simp [turn1, w_is_within, hi, hi', e, e1, c]
  rw [fold_row]
  cases e : rowT js s ks with
  | none => simp
  | some u => simp [pEq_ss]
theorem w_is_marks {n : Nat} {js : List (List Int)} {r : List Bool} (h : r.length = n) (hn : n ≤ 12) : d_is_marks [wD n js, bD r] = .val (.bool true) := by
  have hM : r.length ≤ M := by rw [h]; show n ≤ 16777216; omega
  have i : isiD "str" (bD r) = true := rfl
  simp [d_is_marks, o_is_marks, i, pLen_bD hM, h, anyL_bD hM]
  rw [lc_if bC (fun _ => false) bC _ ?h]
  case h =>
    intro b _
    have q : inB (bC b) (.str (PySem.Str.ofString "01")) = .val true := by cases b <;> rfl
    simp [lc1, pNotIn, q]
  simp
theorem w_is_kept {n : Nat} {js : List (List Int)} {r : List Bool} (g : Good n js) (h : r.length = n) : d_is_kept [wD n js, bD r] = .val (.bool ((js.filter (oddT r)).isEmpty)) := by
  have hM : r.length ≤ M := by rw [h]; have := g.hi; show n ≤ 16777216; omega
  simp [d_is_kept, o_is_kept]
  rw [lc_if tupD (oddT r) tupD _ ?h]
  case h =>
    intro j hj
    obtain ⟨a, b, c, rfl, h1, h2, h3, -⟩ := g.ok j hj
    have i1 := pIx_bD hM (show r[a]? = some (r[a]?.getD false) from getD_some h h1)
    have i2 := pIx_bD hM (show r[b]? = some (r[b]?.getD false) from getD_some h h2)
    have i3 := pIx_bD hM (show r[c]? = some (r[c]?.getD false) from getD_some h h3)
    have ct := count_bC [r[a]?.getD false, r[b]?.getD false, r[c]?.getD false]
    simp only [List.map_cons, List.map_nil] at ct
    have od := odd_val (([r[a]?.getD false, r[b]?.getD false, r[c]?.getD false] : List Bool).countP id)
    have eo : oddT r [(a : Int), b, c] = ((([r[a]?.getD false, r[b]?.getD false, r[c]?.getD false] : List Bool).countP id) % 2 == 1) := by
      unfold oddT onesT
      rfl
    rw [eo]
    generalize ([r[a]?.getD false, r[b]?.getD false, r[c]?.getD false] : List Bool).countP id = m at ct od
    by_cases z : m % 2 = 1
    · simp [lc1, tupD, i1, i2, i3, ct, od, z]
    · have z' : ¬ ((m : Int) % 2 = 1) := by omega
      simp [lc1, tupD, i1, i2, i3, ct, od, z, z']
  simp
theorem kept_isk {n : Nat} {js : List (List Int)} {r : List Bool} (g : Good n js) (m : r ∈ keptT js n) : (js.filter (oddT r)).isEmpty = true := by
  rw [List.isEmpty_iff, List.filter_eq_nil_iff]
  intro j hj
  have lt : topT j < n := by
    obtain ⟨a, b, c, rfl, h1, h2, h3, -⟩ := g.ok j hj
    rw [topT_abc]; omega
  rw [kept_even g n r m j hj lt]
  exact Bool.false_ne_true
theorem pairs_sD (L : List (List Bool)) : pairsD (L.map fun s => .tuple [sD s, .bool true]) = some (kvL L) := by
  induction L with
  | nil => rfl
  | cons a r ih =>
    rw [List.map_cons]
    unfold pairsD
    have e : pairD (.tuple [sD a, .bool true]) = some (.inr (sS a), .bool true) := rfl
    rw [e, ih]
    rfl
theorem merge_kvL {L : List (List Bool)} (nd : L.Nodup) : mergeD [] (kvL L) = kvL L := by
  have key : ∀ (A B : List (List Bool)), (A ++ B).Nodup → mergeD (kvL A) (kvL B) = kvL (A ++ B) := by
    intro A B
    induction B generalizing A with
    | nil => intro _; rw [List.append_nil]; rfl
    | cons b r ih =>
      intro nd
      show mergeD (putD (kvL A) (.inr (sS b)) (.bool true)) (kvL r) = _
      have nb : b ∉ A := fun hb => by
        have := (List.nodup_append.mp nd).2.2 b hb b (by simp)
        exact this rfl
      rw [kv_put nb, ih (A ++ [b]) (by rw [List.append_assoc]; exact nd), List.append_assoc]
      rfl
  exact key [] L nd
/-- whether a list of stands is closed -/
def clsT (js : List (List Int)) (s t : List Bool) (L : List (List Bool)) : Bool :=
  decide (t ∈ L) && !decide (s ∈ L) && L.all fun u => (bwd js u).all fun m => decide (m.2 ∈ L)
theorem w_is_closed {n : Nat} {js : List (List Int)} {s t : List Bool} {L : List (List Bool)} (g : Good n js) (S : Sts n L) : d_is_closed [wD n js, sD s, sD t, .tuple (L.map sD)] = .val (.bool (clsT js s t L)) := by
  have it : ∀ u : List Bool, pIn (sD u) (.tuple (L.map sD)) = .val (.bool (decide (u ∈ L))) := fun u => by
    unfold pIn
    rw [inB_tuple sD 0 (okD_sD 0) (fun x y h => sS_inj (by unfold sD at h; injection h)) (by decide) u L]
    simp
  have nit : ∀ u : List Bool, pNotIn (sD u) (.tuple (L.map sD)) = .val (.bool (!decide (u ∈ L))) := fun u => by
    unfold pNotIn
    rw [inB_tuple sD 0 (okD_sD 0) (fun x y h => sS_inj (by unfold sD at h; injection h)) (by decide) u L]
    simp
  have few := S.few g.hi
  simp [d_is_closed, o_is_closed, -oTurns_cons]
  rw [lc_if sD (fun _ => false) sD _ ?h1]
  case h1 =>
    intro u hu
    simp [lc1, w_is_stand (js := js) (S.len u hu) g.hi]
  simp [-oTurns_cons, it, nit]
  unfold clsT
  by_cases c1 : t ∈ L
  rotate_left
  · simp [c1]
  by_cases c2 : s ∈ L
  · simp [c1, c2]
  simp [-oTurns_cons, c1, c2]
  rw [lc_each sD (fun u => .tuple [sD u, .bool true]) _ ?h2]
  case h2 => intro u hu; simp [lc1]
  simp [-oTurns_cons, pairs_sD, merge_kvL S.nd]
  rw [for_first sD (fun u => !((bwd js u).all fun m => decide (m.2 ∈ L))) (fun _ => .rt (.bool false)) _ L ?h3 ?h4]
  case h4 => intro x ρ; simp
  case h3 =>
    intro u hu
    have bk := w_back_of g (S.len u hu)
    simp [turn1, bk]
    rw [lc_if mvD (fun m => !decide (m.2 ∈ L)) (fun m => sD m.2) _ ?h5]
    case h5 =>
      intro m hm
      by_cases z : m.2 ∈ L
      · simp [lc1, mvD, kv_in z, z]
      · simp [lc1, mvD, kv_out z, z]
    by_cases z : (bwd js u).all fun m => decide (m.2 ∈ L)
    · have e : (bwd js u).filter (fun m => !decide (m.2 ∈ L)) = [] := by
        rw [List.filter_eq_nil_iff]
        intro m hm
        have := List.all_eq_true.mp z m hm
        simpa using this
      simp at z
      simp [e]
      exact z
    · have e : (bwd js u).filter (fun m => !decide (m.2 ∈ L)) ≠ [] := by
        intro q
        rw [List.filter_eq_nil_iff] at q
        apply z
        rw [List.all_eq_true]
        intro m hm
        have := q m hm
        simpa using this
      have z' : ((bwd js u).all fun m => decide (m.2 ∈ L)) = false := by simpa using z
      cases hf : (bwd js u).filter (fun m => !decide (m.2 ∈ L)) with
      | nil => exact absurd hf e
      | cons a r => simp [z'] 
  cases hf : L.find? (fun u => !((bwd js u).all fun m => decide (m.2 ∈ L))) with
  | none =>
    have q : (L.all fun u => (bwd js u).all fun m => decide (m.2 ∈ L)) = true := by
      rw [List.all_eq_true]
      intro u hu
      have := List.find?_eq_none.mp hf u hu
      simpa using this
    simp at q
    simp
    exact q
  | some u =>
    have q : (L.all fun u => (bwd js u).all fun m => decide (m.2 ∈ L)) = false := by
      rw [List.all_eq_false]
      have hp := List.find?_some hf
      exact ⟨u, List.mem_of_find?_eq_some hf, by simpa using hp⟩
    simp [q]
def simD : D → Bool
  | .int _ => true
  | .none => true
  | .bool _ => true
  | .str x => PyData.strOk x
  | _ => false
def inW : D → Bool
  | .int i => decide (-99 ≤ i) && decide (i ≤ 99)
  | _ => false
def jumpW (ds : List D) (j : List Int) : Bool := match j with
  | [a, b, c] => match ds[a.toNat]?, ds[b.toNat]?, ds[c.toNat]? with
    | some (.int x), some (.int y), some (.int z) => decide (x + y < z)
    | _, _, _ => false
  | _ => false
def wT (n : Nat) (js : List (List Int)) : D → Bool
  | .tuple ds => decide (ds.length = n) && (ds.filter fun d => !inW d).isEmpty && (js.filter (jumpW ds)).isEmpty
  | _ => false
theorem sim_within (d : D) (h : simD d = true) : d_is_within [d, .int (-99), .int 99] = .val (.bool (inW d)) := by
  cases d with
  | int i => exact w_is_within i (-99) 99
  | none => simp [d_is_within, o_is_within, inW]
  | bool b => simp [d_is_within, o_is_within, inW]
  | str x => simp [d_is_within, o_is_within, inW]
  | list _ => cases h
  | tuple _ => cases h
  | dict _ => cases h
theorem sims_shaped {ds : List D} (h : ∀ d ∈ ds, simD d = true) : SeqAt.shaped (.list ds) = true := by
  have e : PyData.canLayAll0 ds = true ∧ PyData.depthAll ds = 0 := by
    induction ds with
    | nil => exact ⟨rfl, rfl⟩
    | cons d r ih =>
      obtain ⟨i1, i2⟩ := ih fun x hx => h x (List.mem_cons_of_mem _ hx)
      have hd := h d List.mem_cons_self
      cases d with
      | int i => exact ⟨by simp [PyData.canLayAll0, PyData.canLay0, i1], by simp [PyData.depthAll, PyData.depth, i2]⟩
      | none => exact ⟨by simp [PyData.canLayAll0, PyData.canLay0, i1], by simp [PyData.depthAll, PyData.depth, i2]⟩
      | bool b => exact ⟨by simp [PyData.canLayAll0, PyData.canLay0, i1], by simp [PyData.depthAll, PyData.depth, i2]⟩
      | str x =>
        have hx : PyData.strOk x = true := hd
        exact ⟨by simp [PyData.canLayAll0, PyData.canLay0, i1, hx], by simp [PyData.depthAll, PyData.depth, i2]⟩
      | list _ => cases hd
      | tuple _ => cases hd
      | dict _ => cases hd
  unfold SeqAt.shaped
  simp [PyData.canLay0, PyData.depth, e.1, e.2]
theorem eqv_nil (ds : List D) : PyData.eqv (.list ds) (.list []) = ds.isEmpty := by
  cases ds with
  | nil => simp [PyData.eqv, PyData.eqvAll]
  | cons d r => simp [PyData.eqv, PyData.eqvAll]
theorem shaped_nil : SeqAt.shaped (.list []) = true := by decide
theorem pNe_nil {ds : List D} (h : ∀ d ∈ ds, simD d = true) : pNe (.list ds) (.list []) = .val (.bool (!ds.isEmpty)) := by
  unfold pNe
  rw [sims_shaped h, shaped_nil, eqv_nil]
  rfl
theorem pEq_nil {ds : List D} (h : ∀ d ∈ ds, simD d = true) : pEq (.list ds) (.list []) = .val (.bool ds.isEmpty) := by
  unfold pEq
  rw [sims_shaped h, shaped_nil, eqv_nil]
  rfl
theorem inW_int {d : D} (h : inW d = true) : ∃ x, d = .int x := by
  cases d with
  | int x => exact ⟨x, rfl⟩
  | none => cases h
  | bool _ => cases h
  | str _ => cases h
  | list _ => cases h
  | tuple _ => cases h
  | dict _ => cases h
theorem ints_of {ds : List D} (h : (ds.filter fun d => !inW d).isEmpty = true) : ∀ d ∈ ds, ∃ x, d = .int x := fun d hd => by
  refine inW_int ?_
  cases e : inW d with
  | true => rfl
  | false =>
    have m : d ∈ ds.filter fun d => !inW d := List.mem_filter.mpr ⟨hd, by rw [e]; rfl⟩
    rw [List.isEmpty_iff.mp h] at m
    cases m
def okT : D → Prop
  | .tuple ds => ∀ d ∈ ds, simD d = true
  | .list _ => True
  | .none => True
  | _ => False
theorem wT_are {n : Nat} {js : List (List Int)} (g : Good n js) (t : D) (h : okT t) : d_are_weights [wD n js, t] = .val (.bool (wT n js t)) := by
  cases t with
  | none => simp [d_are_weights, o_are_weights, w_look g, wT]
  | list _ => simp [d_are_weights, o_are_weights, w_look g, wT]
  | tuple ds =>
    by_cases hl : ds.length = n
    rotate_left
    · have hl' : ¬ (ds.length : Int) = n := by omega
      simp [d_are_weights, o_are_weights, w_look g, wT, hl, hl']
    have c1 : lcTurns (bName 2) (dNot (dTru (dApp d_is_within [(dVar 2), (dUn pNeg (dC (.int 99))), (dC (.int 99))]))) (dVar 2) ds [.fz (wD n js), .fz (.tuple ds), .un, .un, .un, .un] = .val (ds.filter fun d => !inW d) := by
      have q := lc_filter (b := bName 2) (c := dNot (dTru (dApp d_is_within [(dVar 2), (dUn pNeg (dC (.int 99))), (dC (.int 99))]))) (e := dVar 2) (ρ := [.fz (wD n js), .fz (.tuple ds), .un, .un, .un, .un]) (fun d => [.fz (wD n js), .fz (.tuple ds), .fz d, .un, .un, .un]) (fun d => !inW d) (fun d => d) ds fun d hd => ⟨by simp, by simp [sim_within d (h d hd)], by simp⟩
      rw [q, List.map_id']
    by_cases he : (ds.filter fun d => !inW d).isEmpty = true
    rotate_left
    · have he' : (ds.filter fun d => !inW d).isEmpty = false := by simpa using he
      simp [d_are_weights, o_are_weights, w_look g, wT, hl, c1, he'] 
    have hint := ints_of he
    have c2 : lcTurns (bAny 3 (bCons (bName 3) (bCons (bName 4) (bCons (bName 5) bNil)))) (dTst (dBin pLt (dBin pPlus (dBin pIx (dVar 1) (dVar 3)) (dBin pIx (dVar 1) (dVar 4))) (dBin pIx (dVar 1) (dVar 5)))) (dC (.int 1)) (js.map tupD) [.fz (wD n js), .fz (.tuple ds), .un, .un, .un, .un] = .val ((js.filter (jumpW ds)).map fun _ => .int 1) := by
      refine lc_some tupD (fun j => [.fz (wD n js), .fz (.tuple ds), .un, .fz (.int (j[0]?.getD 0)), .fz (.int (j[1]?.getD 0)), .fz (.int (j[2]?.getD 0))]) (jumpW ds) (fun _ => .int 1) js fun j hj => ?_
      obtain ⟨a, b, c, rfl, h1, h2, h3, -⟩ := g.ok j hj
      obtain ⟨x, hx⟩ := hint (ds[a]'(by omega)) (List.getElem_mem _)
      obtain ⟨y, hy⟩ := hint (ds[b]'(by omega)) (List.getElem_mem _)
      obtain ⟨z, hz⟩ := hint (ds[c]'(by omega)) (List.getElem_mem _)
      have ex : ds[a]? = some (.int x) := by rw [List.getElem?_eq_getElem (by omega), hx]
      have ey : ds[b]? = some (.int y) := by rw [List.getElem?_eq_getElem (by omega), hy]
      have ez : ds[c]? = some (.int z) := by rw [List.getElem?_eq_getElem (by omega), hz]
      exact ⟨by simp [tupD], by simp [ex, ey, ez, jumpW], by simp⟩
    simp [d_are_weights, o_are_weights, w_look g, wT, hl, c1, he, c2]
  | int _ => exact h.elim
  | bool _ => exact h.elim
  | str _ => exact h.elim
  | dict _ => exact h.elim
theorem isEmpty_map' {α β : Type} (l : List α) (f : α → β) : (l.map f).isEmpty = l.isEmpty := by cases l <;> rfl
def wsum (s : List Bool) (xs : List Int) : Int := (List.zipWith (fun b x => if b then x else 0) s xs).sum
theorem sum_set : ∀ (l : List Int) (i : Nat) (v u : Int), l[i]? = some u → (l.set i v).sum = l.sum - u + v
  | [], _, _, _, h => by simp at h
  | x :: r, 0, v, u, h => by
    have e : x = u := by simpa using h
    subst e
    rw [List.set_cons_zero, List.sum_cons, List.sum_cons]; omega
  | x :: r, i + 1, v, u, h => by
    have ih := sum_set r i v u (by simpa using h)
    rw [List.set_cons_succ, List.sum_cons, List.sum_cons, ih]; omega
theorem zip_set (s : List Bool) (xs : List Int) (i : Nat) (b : Bool) : List.zipWith (fun b x => if b then x else (0 : Int)) (s.set i b) xs = (List.zipWith (fun b x => if b then x else (0 : Int)) s xs).set i (if b then xs[i]?.getD 0 else 0) := by
  refine List.ext_getElem? fun k => ?_
  rw [List.getElem?_zipWith, List.getElem?_set, List.getElem?_set, List.getElem?_zipWith, List.length_zipWith]
  by_cases e : i = k
  · subst e
    rw [if_pos rfl, if_pos rfl]
    by_cases h1 : i < s.length
    · rw [if_pos h1]
      by_cases h2 : i < xs.length
      · rw [if_pos (by omega), List.getElem?_eq_getElem h2]
        rfl
      · rw [if_neg (by omega), List.getElem?_eq_none (by omega)]
    · rw [if_neg h1, if_neg (by omega)]
  · rw [if_neg e, if_neg e]
theorem wsum_set {s : List Bool} {xs : List Int} {i : Nat} {u b : Bool} {x : Int} (h1 : s[i]? = some u) (h2 : xs[i]? = some x) : wsum (s.set i b) xs = wsum s xs - (if u then x else 0) + (if b then x else 0) := by
  unfold wsum
  rw [zip_set, sum_set _ i _ (if u then x else 0) (by rw [List.getElem?_zipWith, h1, h2]), h2]
  rfl
theorem wsum_put {n : Nat} {s : List Bool} {xs : List Int} {j : List Int} (h : s.length = n) (hx : xs.length = n) (hj : JOk n j) (hh : hasT s j pegs2 = true) (hw : jumpW (xs.map .int) j = false) : wsum (putT s j pegs1) xs ≤ wsum s xs := by
  obtain ⟨a, b, c, rfl, h1, h2, h3, h4, h5, h6⟩ := hj
  simp [hasT] at hh
  obtain ⟨k1, k2, k3⟩ := hh
  have g1 : s[a]? = some true := by rw [getD_some h h1, k1]
  have g2 : s[b]? = some true := by rw [getD_some h h2, k2]
  have g3 : s[c]? = some false := by rw [getD_some h h3, k3]
  have x1 : xs[a]? = some xs[a] := List.getElem?_eq_getElem (by omega)
  have x2 : xs[b]? = some xs[b] := List.getElem?_eq_getElem (by omega)
  have x3 : xs[c]? = some xs[c] := List.getElem?_eq_getElem (by omega)
  have hw' : ¬ (xs[a] + xs[b] < xs[c]) := by
    have e : jumpW (xs.map .int) [(a : Int), b, c] = decide (xs[a] + xs[b] < xs[c]) := by
      simp [jumpW, x1, x2, x3]
    rw [e] at hw
    exact of_decide_eq_false hw
  simp only [putT, List.zip_cons_cons, List.zip_nil_left, List.foldl_cons, List.foldl_nil, Int.toNat_natCast]
  rw [wsum_set (u := false) (by rw [List.getElem?_set_ne (by omega), List.getElem?_set_ne (by omega)]; exact g3) x3, wsum_set (u := true) (by rw [List.getElem?_set_ne (by omega)]; exact g2) x2, wsum_set g1 x1]
  simp
  omega
theorem filter_sum (s : List Bool) (xs : List Int) (h : s.length = xs.length) : (((List.range s.length).filter fun i => s[i]?.getD false).map fun i => xs[i]?.getD 0).sum = wsum s xs := by
  unfold wsum
  have e : List.zipWith (fun b x => if b then x else (0 : Int)) s xs = (List.range s.length).map fun i => if s[i]?.getD false then xs[i]?.getD 0 else 0 := by
    refine List.ext_getElem? fun k => ?_
    rw [List.getElem?_zipWith, List.getElem?_map]
    by_cases hk : k < s.length
    · rw [List.getElem?_eq_getElem hk, List.getElem?_eq_getElem (show k < xs.length by omega), List.getElem?_range hk]
      simp [hk, show k < xs.length by omega]
    · have q1 : s[k]? = none := List.getElem?_eq_none (by omega)
      have q2 : (List.range s.length)[k]? = none := List.getElem?_eq_none (by rw [List.length_range]; omega)
      rw [q1, q2]
      rfl
  rw [e]
  generalize List.range s.length = l
  induction l with
  | nil => rfl
  | cons i r ih =>
    rw [List.map_cons, List.sum_cons]
    cases hs : s[i]?.getD false with
    | true =>
      rw [List.filter_cons_of_pos (p := fun i => s[i]?.getD false) hs, List.map_cons, List.sum_cons, ih, if_pos rfl]
    | false =>
      rw [List.filter_cons_of_neg (p := fun i => s[i]?.getD false) (by rw [hs]; exact Bool.false_ne_true), ih, if_neg Bool.false_ne_true, Int.zero_add]
theorem cutL_mem {α : Type} {xs : List α} {lo hi : Option Int} {x : α} (h : x ∈ cutL xs lo hi) : x ∈ xs := List.mem_of_mem_drop (List.mem_of_mem_take h)
theorem okT_int (xs : List Int) : okT (.tuple (xs.map .int)) := fun d hd => by
  obtain ⟨i, _, rfl⟩ := List.mem_map.mp hd
  rfl
theorem wT_zero {n : Nat} {js : List (List Int)} (g : Good n js) : wT n js (.tuple (List.replicate n (.int 0))) = true := by
  have e1 : (List.replicate n (PyData.int 0)).filter (fun d => !inW d) = [] := by
    rw [List.filter_eq_nil_iff]
    intro d hd
    rw [List.eq_of_mem_replicate hd]
    decide
  have e2 : js.filter (jumpW (List.replicate n (.int 0))) = [] := by
    rw [List.filter_eq_nil_iff]
    intro j hj
    obtain ⟨a, b, c, rfl, h1, h2, h3, -⟩ := g.ok j hj
    simp [jumpW, List.getElem?_replicate, h1, h2, h3]
  show (decide ((List.replicate n (PyData.int 0)).length = n) && ((List.replicate n (PyData.int 0)).filter fun d => !inW d).isEmpty && (js.filter (jumpW (List.replicate n (.int 0)))).isEmpty) = true
  rw [e1, e2, List.length_replicate]
  simp
theorem wT_good {n : Nat} {js : List (List Int)} {t : D} (h : wT n js t = true) : ∃ xs : List Int, t = .tuple (xs.map .int) ∧ xs.length = n ∧ ∀ j ∈ js, jumpW (xs.map .int) j = false := by
  cases t with
  | tuple ds =>
    have h' : (decide (ds.length = n) && (ds.filter fun d => !inW d).isEmpty && (js.filter (jumpW ds)).isEmpty) = true := h
    rw [Bool.and_eq_true, Bool.and_eq_true, decide_eq_true_iff] at h'
    obtain ⟨⟨h1, h2⟩, h3⟩ := h'
    have hi := ints_of h2
    have e : ∃ xs : List Int, ds = xs.map .int := by
      clear h h1 h2 h3
      induction ds with
      | nil => exact ⟨[], rfl⟩
      | cons d r ih =>
        obtain ⟨x, rfl⟩ := hi d List.mem_cons_self
        obtain ⟨xs, rfl⟩ := ih fun y hy => hi y (List.mem_cons_of_mem _ hy)
        exact ⟨x :: xs, rfl⟩
    obtain ⟨xs, rfl⟩ := e
    refine ⟨xs, rfl, by rw [List.length_map] at h1; exact h1, fun j hj => ?_⟩
    cases e : jumpW (xs.map .int) j with
    | false => rfl
    | true =>
      have m : j ∈ js.filter (jumpW (xs.map .int)) := List.mem_filter.mpr ⟨hj, e⟩
      rw [List.isEmpty_iff.mp h3] at m
      cases m
  | none => cases h
  | bool _ => cases h
  | int _ => cases h
  | str _ => cases h
  | list _ => cases h
  | dict _ => cases h
theorem kept_mem {n : Nat} {js : List (List Int)} (g : Good n js) : ∀ (k : Nat) (r : List Bool), r.length = k → (∀ j ∈ js, topT j < k → oddT r j = false) → r ∈ keptT js k
  | 0, r, h, _ => by
    have e : r = [] := List.eq_nil_of_length_eq_zero h
    rw [e]; simp [keptT]
  | k + 1, r, h, ev => by
    obtain ⟨q, b, rfl⟩ : ∃ q b, r = q ++ [b] := ⟨r.dropLast, r.getLast (by intro e; rw [e] at h; simp at h), (List.dropLast_concat_getLast _).symm⟩
    have hq : q.length = k := by simpa using h
    have ih := kept_mem g k q hq fun j hj lt => by
      rw [← odd_ext (b := b) (g.ok j hj) (by rw [hq]; exact lt)]
      exact ev j hj (by omega)
    show q ++ [b] ∈ extT js k (keptT js k)
    unfold extT
    refine List.mem_flatMap.mpr ⟨q, ih, List.mem_filter.mpr ⟨by cases b <;> simp, ?_⟩⟩
    unfold goodT
    rw [List.isEmpty_iff, List.filter_eq_nil_iff]
    intro j hj
    obtain ⟨h1, h2⟩ := List.mem_filter.mp hj
    have e : topT j = k := by simpa using h2
    rw [ev j h1 (by omega)]
    exact Bool.false_ne_true
def xorT (a b : List Bool) : List Bool := List.zipWith (fun x y => !(x == y)) a b
theorem xor_get {n i : Nat} {a b : List Bool} (ha : a.length = n) (hb : b.length = n) (hi : i < n) : (xorT a b)[i]?.getD false = !((a[i]?.getD false) == (b[i]?.getD false)) := by
  unfold xorT
  rw [List.getElem?_zipWith, List.getElem?_eq_getElem (show i < a.length by omega), List.getElem?_eq_getElem (show i < b.length by omega)]
  rfl
theorem xor_odd {n : Nat} {a b : List Bool} {j : List Int} (ha : a.length = n) (hb : b.length = n) (hj : JOk n j) (h1 : oddT a j = false) (h2 : oddT b j = false) : oddT (xorT a b) j = false := by
  obtain ⟨x, y, z, rfl, k1, k2, k3, -⟩ := hj
  unfold oddT onesT at h1 h2 ⊢
  simp only [List.map_cons, List.map_nil, Int.toNat_natCast] at h1 h2 ⊢
  rw [xor_get ha hb k1, xor_get ha hb k2, xor_get ha hb k3]
  generalize a[x]?.getD false = a1 at *
  generalize a[y]?.getD false = a2 at *
  generalize a[z]?.getD false = a3 at *
  generalize b[x]?.getD false = b1 at *
  generalize b[y]?.getD false = b2 at *
  generalize b[z]?.getD false = b3 at *
  cases a1 <;> cases a2 <;> cases a3 <;> cases b1 <;> cases b2 <;> cases b3 <;> first | rfl | (exfalso; revert h1; decide) | (exfalso; revert h2; decide)
theorem kept_xor {n : Nat} {js : List (List Int)} {a b : List Bool} (g : Good n js) (ha : a ∈ keptT js n) (hb : b ∈ keptT js n) : xorT a b ∈ keptT js n := by
  have la := kept_rows js n a ha
  have lb := kept_rows js n b hb
  refine kept_mem g n _ (by unfold xorT; rw [List.length_zipWith, la, lb, Nat.min_self]) fun j hj lt => ?_
  exact xor_odd la lb (g.ok j hj) (kept_even g n a ha j hj lt) (kept_even g n b hb j hj lt)
theorem odd_Rs {n : Nat} {js : List (List Int)} {s u r : List Bool} (g : Good n js) (h : s.length = n) (k : Rs (fwd js) s u) (m : r ∈ keptT js n) : oddAt r u = oddAt r s := by
  induction k with
  | refl => rfl
  | step h1 r1 ih =>
    obtain ⟨x, hx, rfl⟩ := r1
    have hl := h1.len (nxt_step g pegs2 pegs1) h
    obtain ⟨j, j1, j2, j3, j4⟩ := step_mem hx
    have hj := g.ok j j2
    have lt : topT j < n := by
      obtain ⟨a, b, c, rfl, k1, k2, k3, -⟩ := hj
      rw [topT_abc]; omega
    rw [j4, odd_move hj (kept_rows js n r m) hl (kept_even g n r m j j2 lt) j3, ih]
theorem not_parted {n : Nat} {js : List (List Int)} {s u : List Bool} (g : Good n js) (h : s.length = n) (k : Rs (fwd js) s u) : (keptT js n).find? (fun r => !(oddAt r s == oddAt r u)) = none := by
  rw [List.find?_eq_none]
  intro r hr
  rw [odd_Rs g h k hr]
  simp
theorem bits_Rs {n : Nat} {js : List (List Int)} {s u : List Bool} (g : Good n js) (h : s.length = n) (k : Rs (fwd js) s u) : bitsT (keptT js n) u = bitsT (keptT js n) s := by
  unfold bitsT
  exact List.map_congr_left fun r hr => by rw [odd_Rs g h k hr]
theorem wsum_Rs {n : Nat} {js : List (List Int)} {s u : List Bool} {xs : List Int} (g : Good n js) (h : s.length = n) (hx : xs.length = n) (hw : ∀ j ∈ js, jumpW (xs.map .int) j = false) (k : Rs (fwd js) s u) : wsum u xs ≤ wsum s xs := by
  induction k with
  | refl => exact Int.le_refl _
  | step h1 r1 ih =>
    obtain ⟨x, hx', rfl⟩ := r1
    have hl := h1.len (nxt_step g pegs2 pegs1) h
    obtain ⟨j, j1, j2, j3, j4⟩ := step_mem hx'
    rw [j4]
    exact Int.le_trans (wsum_put hl hx (g.ok j j2) j3 (hw j j2)) ih
theorem count_sS (s : List Bool) : Txt.count (sS s) (PySem.Str.ofString "o") = (pegs s : Int) := by
  have e : PySem.Str.ofString "o" = ⟨#[111]⟩ := by decide +kernel
  rw [e, count_is]
  have e2 : (sS s).cps.toList = s.map sg := by simp [sS]
  rw [e2]
  show cnt 111 (s.map sg) = _
  induction s with
  | nil => rfl
  | cons b r ih =>
    rw [List.map_cons, cnt_cons, ih (by simp [sS])]
    unfold pegs
    rw [List.count_cons]
    cases b <;> simp [sg] <;> omega
theorem w_pegs (s : List Bool) : pSCount (sD s) [.str (PySem.Str.ofString "o")] = .val (.int (pegs s : Nat)) := by
  show R.val (PyData.int (Txt.count (sS s) (PySem.Str.ofString "o"))) = _
  rw [count_sS]
theorem isS_sD (s : List Bool) : isS (sD s) = true := rfl
theorem nodup_sub : ∀ (A B : List (List Bool)), A.Nodup → (∀ x ∈ A, x ∈ B) → A.length ≤ B.length
  | [], _, _, _ => Nat.zero_le _
  | a :: r, B, nd, h => by
    obtain ⟨n1, n2⟩ := List.nodup_cons.mp nd
    have ha := h a List.mem_cons_self
    have q := nodup_sub r (B.erase a) n2 fun x hx => by
      have hne : x ≠ a := fun e => n1 (e ▸ hx)
      exact (List.mem_erase_of_ne hne).mpr (h x (List.mem_cons_of_mem _ hx))
    rw [List.length_erase_of_mem ha] at q
    have := List.length_pos_of_mem ha
    rw [List.length_cons]; omega
theorem far_sub {n : Nat} {nx : Stp} (N : Nxt n nx) {s u : List Bool} (h : s.length = n) (c : okF nx s) (m : u ∈ farT nx s) : ∀ x ∈ farT nx u, x ∈ farT nx s := fun x hx =>
  (far_iff c x).mpr ((far_sound m).trans (far_sound hx))
theorem okF_mono {n : Nat} {nx : Stp} (N : Nxt n nx) {s u : List Bool} (h : s.length = n) (c : okF nx s) (m : u ∈ farT nx s) : okF nx u := by
  have lu := (far_sts N h).len u m
  exact Nat.le_trans (nodup_sub _ _ (far_sts N lu).nd (far_sub N h c m)) c
def pegI (L : List (List Bool)) : List Int := L.map fun u => (pegs u : Int)
def fewN (js : List (List Int)) (s : List Bool) : Nat := (leastI (pegI (farT (fwd js) s))).toNat
theorem pegI_pos {L : List (List Bool)} (h : L ≠ []) : 0 < (pegI L).length := by
  unfold pegI
  rw [List.length_map]
  cases L with
  | nil => exact absurd rfl h
  | cons a r => simp
theorem far_ne (nx : Stp) (s : List Bool) : farT nx s ≠ [] := fun e => by
  have := far_self nx s
  rw [e] at this
  simp at this
theorem fewN_int (js : List (List Int)) (s : List Bool) : leastI (pegI (farT (fwd js) s)) = (fewN js s : Nat) := by
  obtain ⟨h1, h2⟩ := least_of (pegI_pos (far_ne (fwd js) s))
  obtain ⟨u, _, e⟩ := List.mem_map.mp h1
  unfold fewN
  rw [← e]; simp
theorem fewN_at (js : List (List Int)) (s : List Bool) : ∃ u ∈ farT (fwd js) s, pegs u = fewN js s := by
  obtain ⟨h1, h2⟩ := least_of (pegI_pos (far_ne (fwd js) s))
  obtain ⟨u, hu, e⟩ := List.mem_map.mp h1
  refine ⟨u, hu, ?_⟩
  have := fewN_int js s
  rw [← e] at this
  omega
theorem fewN_le {js : List (List Int)} {s u : List Bool} (h : u ∈ farT (fwd js) s) : fewN js s ≤ pegs u := by
  obtain ⟨h1, h2⟩ := least_of (pegI_pos (far_ne (fwd js) s))
  have q := h2 (pegs u : Int) (List.mem_map.mpr ⟨u, h, rfl⟩)
  have := fewN_int js s
  omega
theorem min_pegs {L : List (List Bool)} (h : L ≠ []) : pMinA [.list (L.map fun u => PyData.int (pegs u : Nat))] = .val (.int (leastI (pegI L))) := by
  have e : (L.map fun u => PyData.int (pegs u : Nat)) = (pegI L).map .int := by unfold pegI; rw [List.map_map]; rfl
  rw [e]
  show (match asInts ((pegI L).map PyData.int) with
    | some ns => if 0 < ns.length then R.val (PyData.int (leastI ns)) else .stk
    | none => .stk) = _
  rw [asInts_map]
  show (if 0 < (pegI L).length then _ else _) = _
  rw [if_pos (pegI_pos h)]
theorem max_pegs {L : List (List Bool)} (h : L ≠ []) : pMaxA [.list (L.map fun u => PyData.int (pegs u : Nat))] = .val (.int (mostI (pegI L))) := by
  have e : (L.map fun u => PyData.int (pegs u : Nat)) = (pegI L).map .int := by unfold pegI; rw [List.map_map]; rfl
  rw [e]
  show (match asInts ((pegI L).map PyData.int) with
    | some ns => if 0 < ns.length then R.val (PyData.int (mostI ns)) else .stk
    | none => .stk) = _
  rw [asInts_map]
  show (if 0 < (pegI L).length then _ else _) = _
  rw [if_pos (pegI_pos h)]
section
variable {n : Nat} {js : List (List Int)} {s : List Bool} (g : Good n js) (h : s.length = n)
include g h
end
def goodP (js : List (List Int)) (l : Nat) (u : List Bool) : Bool := decide (fewN js u = l)
section
variable {n : Nat} {js : List (List Int)} {s : List Bool} (g : Good n js) (h : s.length = n) (c : okF (fwd js) s)
include g h c
theorem few_ge {u : List Bool} (m : u ∈ farT (fwd js) s) : fewN js s ≤ fewN js u := by
  obtain ⟨v, hv, e⟩ := fewN_at js u
  rw [← e]
  exact fewN_le (far_sub (nxt_step g pegs2 pegs1) h c m v hv)
theorem good_iff {u : List Bool} (m : u ∈ farT (fwd js) s) : goodP js (fewN js s) u = true ↔ pegs u = fewN js s ∨ ∃ x ∈ fwd js u, goodP js (fewN js s) x.2 = true := by
  have cu := okF_mono (nxt_step g pegs2 pegs1) h c m
  unfold goodP
  simp only [decide_eq_true_iff]
  constructor
  · intro e
    obtain ⟨v, hv, ev⟩ := fewN_at js u
    rcases (far_sound hv).cases_head with q | ⟨t, ⟨x, hx, rfl⟩, r⟩
    · subst q; exact .inl (by omega)
    · right
      refine ⟨x, hx, ?_⟩
      have mx := far_closed c m hx
      have cx := okF_mono (nxt_step g pegs2 pegs1) h c mx
      have q1 := few_ge g h c mx
      have q2 := fewN_le ((far_iff cx v).mpr r)
      omega
  · rintro (e | ⟨x, hx, e⟩)
    · have q1 := few_ge g h c m
      have q2 := fewN_le (far_self (fwd js) u)
      omega
    · have mx := far_closed c m hx
      obtain ⟨v, hv, ev⟩ := fewN_at js x.2
      have q1 := few_ge g h c m
      have hv' : v ∈ farT (fwd js) u := (far_iff cu v).mpr ((Rs.refl.step ⟨x, hx, rfl⟩).trans (far_sound hv))
      have q2 := fewN_le hv'
      omega
end
def addS (L : List (List Bool)) (s : List Bool) : List (List Bool) := if s ∈ L then L else L ++ [s]
theorem kv_put_in {L : List (List Bool)} {s : List Bool} (h : s ∈ L) : putD (kvL L) (.inr (sS s)) (.bool true) = kvL L := by
  unfold putD
  have e : ((kvL L).any fun kv => decide (kv.1 = Sum.inr (sS s))) = true := by
    unfold kvL
    rw [List.any_map, List.any_eq_true]
    exact ⟨s, h, by simp⟩
  rw [e, if_pos rfl]
  unfold kvL
  rw [List.map_map]
  refine List.map_congr_left fun t _ => ?_
  simp
theorem kv_add (L : List (List Bool)) (s : List Bool) : putD (kvL L) (.inr (sS s)) (.bool true) = kvL (addS L s) := by
  unfold addS
  split
  · rename_i q; exact kv_put_in q
  · rename_i q; exact kv_put q
def stepG (js : List (List Int)) (G : List (List Bool)) (u : List Bool) : List (List Bool) := if (fwd js u).any fun m => decide (m.2 ∈ G) then addS G u else G
def lvlT (js : List (List Int)) (B : List (List Bool)) (l : Nat) : Nat → List (List Bool)
  | 0 => B.filter fun u => decide (pegs u = l)
  | k + 1 => (B.filter fun u => decide (pegs u = l + 1 + k)).foldl (stepG js) (lvlT js B l k)
theorem mem_addS {L : List (List Bool)} {s y : List Bool} : y ∈ addS L s ↔ y ∈ L ∨ y = s := by
  unfold addS
  split
  · rename_i q
    exact ⟨.inl, fun z => z.elim id fun e => e ▸ q⟩
  · simp
theorem fold_lvl {n : Nat} {js : List (List Int)} {s : List Bool} (g : Good n js) (h : s.length = n) (c : okF (fwd js) s) (p : Nat) (hp : fewN js s ≤ p) : ∀ (xs G : List (List Bool)),
    (∀ x ∈ xs, x ∈ farT (fwd js) s ∧ pegs x = p + 1) → (∀ x ∈ farT (fwd js) s, pegs x ≤ p → (x ∈ G ↔ goodP js (fewN js s) x = true)) →
    ∀ y, y ∈ xs.foldl (stepG js) G ↔ y ∈ G ∨ (y ∈ xs ∧ goodP js (fewN js s) y = true)
  | [], G, _, _, y => by simp
  | x :: r, G, hx, hG, y => by
    obtain ⟨mx, px⟩ := hx x List.mem_cons_self
    have lx := (far_sts (nxt_step g pegs2 pegs1) h).len x mx
    have any : ((fwd js x).any fun m => decide (m.2 ∈ G)) = true ↔ goodP js (fewN js s) x = true := by
      rw [good_iff g h c mx, List.any_eq_true]
      constructor
      · rintro ⟨m, hm, e⟩
        have pm := pegs_step g lx hm
        right
        exact ⟨m, hm, (hG m.2 (far_closed c mx hm) (by omega)).mp (of_decide_eq_true e)⟩
      · rintro (e | ⟨m, hm, e⟩)
        · omega
        · have pm := pegs_step g lx hm
          exact ⟨m, hm, decide_eq_true ((hG m.2 (far_closed c mx hm) (by omega)).mpr e)⟩
    have hG' : ∀ z ∈ farT (fwd js) s, pegs z ≤ p → (z ∈ stepG js G x ↔ goodP js (fewN js s) z = true) := by
      intro z mz pz
      rw [← hG z mz pz]
      unfold stepG
      split
      · rw [mem_addS]
        exact ⟨fun q => q.elim id fun e => by rw [e] at pz; omega, .inl⟩
      · exact Iff.rfl
    rw [List.foldl_cons, fold_lvl g h c p hp r _ (fun z hz => hx z (List.mem_cons_of_mem _ hz)) hG' y]
    unfold stepG
    by_cases q : ((fwd js x).any fun m => decide (m.2 ∈ G)) = true
    · rw [if_pos q, mem_addS]
      have gx := any.mp q
      constructor
      · rintro ((z | z) | ⟨z1, z2⟩)
        · exact .inl z
        · exact .inr ⟨by rw [z]; exact List.mem_cons_self, by rw [z]; exact gx⟩
        · exact .inr ⟨List.mem_cons_of_mem _ z1, z2⟩
      · rintro (z | ⟨z1, z2⟩)
        · exact .inl (.inl z)
        · rcases List.mem_cons.mp z1 with e | z1
          · exact .inl (.inr e)
          · exact .inr ⟨z1, z2⟩
    · rw [if_neg q]
      have gx : ¬ goodP js (fewN js s) x = true := fun z => q (any.mpr z)
      constructor
      · rintro (z | ⟨z1, z2⟩)
        · exact .inl z
        · exact .inr ⟨List.mem_cons_of_mem _ z1, z2⟩
      · rintro (z | ⟨z1, z2⟩)
        · exact .inl z
        · rcases List.mem_cons.mp z1 with e | z1
          · exact absurd (e ▸ z2) gx
          · exact .inr ⟨z1, z2⟩
theorem lvl_both {n : Nat} {js : List (List Int)} {s : List Bool} (g : Good n js) (h : s.length = n) (c : okF (fwd js) s) (k : Nat) :
    (∀ x ∈ farT (fwd js) s, pegs x ≤ fewN js s + k → (x ∈ lvlT js (farT (fwd js) s) (fewN js s) k ↔ goodP js (fewN js s) x = true)) ∧ ∀ y ∈ lvlT js (farT (fwd js) s) (fewN js s) k, pegs y ≤ fewN js s + k ∧ y ∈ farT (fwd js) s := by
  induction k with
  | zero =>
    refine ⟨fun x m p => ?_, fun y hy => ?_⟩
    · have q := fewN_le m
      have e : pegs x = fewN js s := by omega
      unfold lvlT
      rw [List.mem_filter]
      exact ⟨fun _ => (good_iff g h c m).mpr (.inl e), fun _ => ⟨m, decide_eq_true e⟩⟩
    · obtain ⟨h1, h2⟩ := List.mem_filter.mp hy
      have := of_decide_eq_true h2
      exact ⟨by omega, h1⟩
  | succ k ih =>
    obtain ⟨ih1, ih2⟩ := ih
    have fl := fold_lvl g h c (fewN js s + k) (by omega) ((farT (fwd js) s).filter fun u => decide (pegs u = fewN js s + 1 + k)) (lvlT js (farT (fwd js) s) (fewN js s) k) (fun y hy => by
      obtain ⟨h1, h2⟩ := List.mem_filter.mp hy
      exact ⟨h1, by have := of_decide_eq_true h2; omega⟩) ih1
    refine ⟨fun x m p => ?_, fun y hy => ?_⟩
    · unfold lvlT
      rw [fl x]
      by_cases q : pegs x ≤ fewN js s + k
      · rw [ih1 x m q]
        exact ⟨fun z => z.elim id (·.2), .inl⟩
      · have e : pegs x = fewN js s + 1 + k := by omega
        constructor
        · rintro (z | ⟨_, z⟩)
          · exact absurd (ih2 x z).1 q
          · exact z
        · intro z
          exact .inr ⟨List.mem_filter.mpr ⟨m, decide_eq_true e⟩, z⟩
    · unfold lvlT at hy
      rw [fl y] at hy
      rcases hy with hy | ⟨hy, _⟩
      · obtain ⟨a, b⟩ := ih2 y hy
        exact ⟨by omega, b⟩
      · obtain ⟨h1, h2⟩ := List.mem_filter.mp hy
        have := of_decide_eq_true h2
        exact ⟨by omega, h1⟩
theorem lvl_iff {n : Nat} {js : List (List Int)} {s : List Bool} (g : Good n js) (h : s.length = n) (c : okF (fwd js) s) (k : Nat) : ∀ x ∈ farT (fwd js) s, pegs x ≤ fewN js s + k → (x ∈ lvlT js (farT (fwd js) s) (fewN js s) k ↔ goodP js (fewN js s) x = true) := (lvl_both g h c k).1
inductive El where
  | st (s : List Bool) | it (z : Int) | nn | tt
def elD : El → D
  | .st s => sD s
  | .it z => .int z
  | .nn => .none
  | .tt => .bool true
def isSt : El → Bool
  | .st _ => true
  | _ => false
def stOf : El → Option (List Bool)
  | .st s => some s
  | _ => none
def stands (xs : List El) : List (List Bool) := xs.filterMap stOf
def OKL (n : Nat) : El → Prop
  | .st s => s.length = n
  | _ => True
theorem sim_el (x : El) : simD (elD x) = true := by
  cases x with
  | st s =>
    have q := okD_sD 0 s
    show PyData.strOk (sS s) = true
    simpa [okD, sD] using q
  | it z => rfl
  | nn => rfl
  | tt => rfl
theorem okE_el (x : El) : okE 0 (elD x) = true := by
  cases x with
  | st s => exact okE_of 0 _ (okD_sD 0 s)
  | it z => rfl
  | nn => rfl
  | tt => rfl
theorem eqv_el (x : El) (u : List Bool) : PyData.eqv (elD x) (sD u) = decide (stOf x = some u) := by
  cases x with
  | st s =>
    have q := eqv_iff 0 0 (sD s) (sD u) (okD_sD 0 s) (okD_sD 0 u)
    rw [Bool.eq_iff_iff, decide_eq_true_eq]
    show PyData.eqv (sD s) (sD u) = true ↔ some s = some u
    rw [q]
    exact ⟨fun h => congrArg some (sS_inj (by unfold sD at h; injection h)), fun h => by rw [Option.some.inj h]⟩
  | it z => simp [elD, sD, stOf, PyData.eqv]
  | nn => simp [elD, sD, stOf, PyData.eqv]
  | tt => simp [elD, sD, stOf, PyData.eqv]
theorem inB_els (u : List Bool) (xs : List El) : inB (sD u) (.tuple (xs.map elD)) = .val (decide (u ∈ stands xs)) := by
  have h1 : SeqAt.shaped (sD u) = true := okE_shaped (okE_of 0 _ (okD_sD 0 u)) (by decide)
  have h2 : SeqAt.shaped (.tuple (xs.map elD)) = true := okE_shaped (n := 1) (show okEs 0 _ = true from okEs_iff.mpr fun d hd => by
    obtain ⟨y, _, rfl⟩ := List.mem_map.mp hd
    exact okE_el y) (by decide)
  show (if SeqAt.shaped (sD u) && SeqAt.shaped (.tuple (xs.map elD)) then R.val ((xs.map elD).any fun z => PyData.eqv z (sD u)) else .stk) = _
  rw [h1, h2]
  show R.val _ = _
  congr 1
  rw [Bool.eq_iff_iff, List.any_eq_true, decide_eq_true_eq]
  unfold stands
  rw [List.mem_filterMap]
  constructor
  · rintro ⟨d, hd, e⟩
    obtain ⟨y, hy, rfl⟩ := List.mem_map.mp hd
    rw [eqv_el] at e
    exact ⟨y, hy, of_decide_eq_true e⟩
  · rintro ⟨y, hy, e⟩
    exact ⟨elD y, List.mem_map.mpr ⟨y, hy, rfl⟩, by rw [eqv_el, decide_eq_true e]⟩
theorem pIn_els (u : List Bool) (xs : List El) : pIn (sD u) (.tuple (xs.map elD)) = .val (.bool (decide (u ∈ stands xs))) := by
  unfold pIn; rw [inB_els]; rfl
theorem pNotIn_els (u : List Bool) (xs : List El) : pNotIn (sD u) (.tuple (xs.map elD)) = .val (.bool (!decide (u ∈ stands xs))) := by
  unfold pNotIn; rw [inB_els]; rfl
theorem stands_st (L : List (List Bool)) : stands (L.map El.st) = L := by
  unfold stands
  rw [List.filterMap_map]
  exact List.filterMap_some
theorem all_st {xs : List El} (h : xs.all isSt = true) : xs = (stands xs).map El.st := by
  induction xs with
  | nil => rfl
  | cons x r ih =>
    rw [List.all_cons, Bool.and_eq_true] at h
    cases x with
    | st s =>
      show _ = El.st s :: (stands r).map El.st
      rw [← ih h.2]
    | it z => cases h.1
    | nn => cases h.1
    | tt => cases h.1
theorem merge_any (L : List (List Bool)) : ∃ K, mergeD [] (kvL L) = kvL K ∧ ∀ u, u ∈ K ↔ u ∈ L := by
  have key : ∀ (B A : List (List Bool)), mergeD (kvL A) (kvL B) = kvL (B.foldl addS A) ∧ ∀ u, u ∈ B.foldl addS A ↔ u ∈ A ∨ u ∈ B := by
    intro B
    induction B with
    | nil => intro A; exact ⟨rfl, fun u => by simp⟩
    | cons b r ih =>
      intro A
      obtain ⟨h1, h2⟩ := ih (addS A b)
      refine ⟨?_, fun u => ?_⟩
      · show mergeD (putD (kvL A) (.inr (sS b)) (.bool true)) (kvL r) = _
        rw [kv_add, h1]; rfl
      · show u ∈ r.foldl addS (addS A b) ↔ _
        rw [h2, mem_addS, List.mem_cons, or_assoc]
  obtain ⟨h1, h2⟩ := key L []
  exact ⟨_, h1, fun u => by rw [h2]; simp⟩
section
variable {n : Nat} {js : List (List Int)} (g : Good n js)
include g
theorem stand_el {x : El} (ok : OKL n x) : d_is_stand [wD n js, elD x] = .val (.bool (isSt x)) := by
  cases x with
  | st s => exact w_is_stand (js := js) ok g.hi
  | it z => simp [elD, d_is_stand, o_is_stand, isSt]
  | nn => simp [elD, d_is_stand, o_is_stand, isSt]
  | tt => simp [elD, d_is_stand, o_is_stand, isSt]
theorem w_closedL {s t : List Bool} {L : List (List Bool)} (ln : ∀ u ∈ L, u.length = n) : d_is_closed [wD n js, sD s, sD t, .tuple (L.map sD)] = .val (.bool (clsT js s t L)) := by
  have em : L.map sD = (L.map El.st).map elD := by rw [List.map_map]; rfl
  have it : ∀ u : List Bool, pIn (sD u) (.tuple (L.map sD)) = .val (.bool (decide (u ∈ L))) := fun u => by
    rw [em, pIn_els, stands_st]
  have nit : ∀ u : List Bool, pNotIn (sD u) (.tuple (L.map sD)) = .val (.bool (!decide (u ∈ L))) := fun u => by
    rw [em, pNotIn_els, stands_st]
  simp [d_is_closed, o_is_closed, -oTurns_cons]
  rw [lc_if sD (fun _ => false) sD _ ?h1]
  case h1 =>
    intro u hu
    simp [lc1, w_is_stand (js := js) (ln u hu) g.hi]
  simp [-oTurns_cons, it, nit]
  unfold clsT
  by_cases c1 : t ∈ L
  rotate_left
  · simp [c1]
  by_cases c2 : s ∈ L
  · simp [c1, c2]
  simp [-oTurns_cons, c1, c2]
  rw [lc_each sD (fun u => .tuple [sD u, .bool true]) _ ?h2]
  case h2 => intro u hu; simp [lc1]
  obtain ⟨K, k1, k2⟩ := merge_any L
  simp [-oTurns_cons, pairs_sD, k1]
  rw [for_first sD (fun u => !((bwd js u).all fun m => decide (m.2 ∈ L))) (fun _ => .rt (.bool false)) _ L ?h3 ?h4]
  case h4 => intro x ρ; simp
  case h3 =>
    intro u hu
    have bk := w_back_of g (ln u hu)
    simp [turn1, bk]
    rw [lc_if mvD (fun m => !decide (m.2 ∈ L)) (fun m => sD m.2) _ ?h5]
    case h5 =>
      intro m hm
      by_cases z : m.2 ∈ L
      · simp [lc1, mvD, kv_in ((k2 _).mpr z), z]
      · simp [lc1, mvD, kv_out (fun q => z ((k2 _).mp q)), z]
    by_cases z : (bwd js u).all fun m => decide (m.2 ∈ L)
    · have e : (bwd js u).filter (fun m => !decide (m.2 ∈ L)) = [] := by
        rw [List.filter_eq_nil_iff]
        intro m hm
        have := List.all_eq_true.mp z m hm
        simpa using this
      simp at z
      simp [e]
      exact z
    · have e : (bwd js u).filter (fun m => !decide (m.2 ∈ L)) ≠ [] := by
        intro q
        rw [List.filter_eq_nil_iff] at q
        apply z
        rw [List.all_eq_true]
        intro m hm
        have := q m hm
        simpa using this
      have z' : ((bwd js u).all fun m => decide (m.2 ∈ L)) = false := by simpa using z
      cases hf : (bwd js u).filter (fun m => !decide (m.2 ∈ L)) with
      | nil => exact absurd hf e
      | cons a r => simp [z'] 
  cases hf : L.find? (fun u => !((bwd js u).all fun m => decide (m.2 ∈ L))) with
  | none =>
    have q : (L.all fun u => (bwd js u).all fun m => decide (m.2 ∈ L)) = true := by
      rw [List.all_eq_true]
      intro u hu
      have := List.find?_eq_none.mp hf u hu
      simpa using this
    simp at q
    simp
    exact q
  | some u =>
    have q : (L.all fun u => (bwd js u).all fun m => decide (m.2 ∈ L)) = false := by
      rw [List.all_eq_false]
      have hp := List.find?_some hf
      exact ⟨u, List.mem_of_find?_eq_some hf, by simpa using hp⟩
    simp [q]
theorem w_closedE {s t : List Bool} {xs : List El} (ok : ∀ x ∈ xs, OKL n x) : d_is_closed [wD n js, sD s, sD t, .tuple (xs.map elD)] = .val (.bool (xs.all isSt && clsT js s t (stands xs))) := by
  by_cases c : xs.all isSt = true
  · rw [c]
    have e := all_st c
    have ln : ∀ u ∈ stands xs, u.length = n := fun u hu => by
      obtain ⟨y, hy, e⟩ := List.mem_filterMap.mp hu
      cases y with
      | st v => injection e with e; subst e; exact ok _ hy
      | it z => cases e
      | nn => cases e
      | tt => cases e
    have q := w_closedL g (s := s) (t := t) ln
    have em : xs.map elD = (stands xs).map sD := by
      conv => lhs; rw [e]
      rw [List.map_map]; rfl
    rw [em, q]; rfl
  · have c' : xs.all isSt = false := by simpa using c
    rw [c']
    have ne : (xs.filter fun x => !isSt x).isEmpty = false := by
      cases hf : xs.filter fun x => !isSt x with
      | nil =>
        exfalso
        apply c
        rw [List.all_eq_true]
        intro x hx
        have := List.filter_eq_nil_iff.mp hf x hx
        simpa using this
      | cons a r => rfl
    simp [d_is_closed, o_is_closed, -oTurns_cons]
    rw [lc_if elD (fun x => !isSt x) elD _ ?h1]
    case h1 =>
      intro u hu
      cases q : isSt u <;> simp [lc1, stand_el g (ok u hu), q]
    have ne' : ((xs.filter fun x => !isSt x).map elD).isEmpty = false := by rw [isEmpty_map', ne]
    simp only [R.bind_val, truth_list, ne']
    simp
end
def stepE (js : List (List Int)) (u : List Bool) : El → Option (List Bool)
  | .it z => if 0 ≤ z then (match js[z.toNat]? with
    | some j => if hasT u j pegs2 then some (putT u j pegs1) else none
    | none => none) else none
  | _ => none
def rowE (js : List (List Int)) : List El → List Bool → Option (List Bool)
  | [], u => some u
  | x :: r, u => (stepE js u x).bind (rowE js r)
def stepX (js : List (List Int)) (u : List Bool) (x : El) : Except Out (List Bool) := match stepE js u x with
  | some v => .ok v
  | none => .error (.rt (.bool false))
theorem fold_rowE (js : List (List Int)) : ∀ (xs : List El) (u : List Bool), xs.foldlM (stepX js) u = match rowE js xs u with
    | some v => .ok v
    | none => .error (.rt (.bool false))
  | [], u => rfl
  | x :: r, u => by
    rw [List.foldlM_cons]
    unfold rowE stepX
    cases stepE js u x with
    | none => rfl
    | some v => exact fold_rowE js r v
section
variable {n : Nat} {js : List (List Int)} (g : Good n js)
include g
theorem w_is_rowE {s t : List Bool} (h : s.length = n) (k : t.length = n) (xs : List El) : d_is_row [wD n js, sD s, sD t, .tuple (xs.map elD)] = .val (.bool (rowE js xs s == some t)) := by
  simp [d_is_row, o_is_row, -oTurns_cons]
  rw [run_at elD (fun here => [.fz (wD n js), .fz (sD s), .fz (sD t), .fz (.tuple (xs.map elD)), .fz (sD here), .un]) (stepX js) (fun u => u.length = n) xs s ?e h ?hs]
  case e => rfl
  case hs =>
    intro x _ u hu
    unfold stepX
    cases x with
    | st v =>
      refine ⟨by simp [stepE], ?_⟩
      have i : isiD "int" (sD v) = false := rfl
      simp [turn1, elD, stepE, d_is_within, o_is_within, i]
    | nn =>
      refine ⟨by simp [stepE], ?_⟩
      simp [turn1, elD, stepE, d_is_within, o_is_within]
    | tt =>
      refine ⟨by simp [stepE], ?_⟩
      simp [turn1, elD, stepE, d_is_within, o_is_within]
    | it z =>
      by_cases z0 : 0 ≤ z
      rotate_left
      · refine ⟨by simp [stepE, z0], ?_⟩
        simp [turn1, elD, stepE, z0, w_is_within]
      · obtain ⟨i, rfl⟩ := Int.eq_ofNat_of_zero_le z0
        cases e : js[i]? with
        | none =>
          have hi' : ¬ ((i : Int) < (js.length : Nat)) := by
            have := List.getElem?_eq_none_iff.mp e
            omega
          have hi : ¬ (i : Int) ≤ (js.length : Nat) - 1 := by omega
          refine ⟨by simp [stepE, e], ?_⟩
          simp [turn1, elD, stepE, e, w_is_within, hi, hi']
        | some j =>
          have hl : i < js.length := (List.getElem?_eq_some_iff.mp e).1
          have hj := g.ok j (List.mem_of_getElem? e)
          have hi : (i : Int) ≤ (js.length : Nat) - 1 := by omega
          have hi' : (i : Int) < (js.length : Nat) := by omega
          have e1 := w_has (p := pegs2) hu g.hi hj (by show 3 ≤ 16777216; decide)
          have e2 := w_put (x := false) (y := false) (z := true) hu g.hi hj
          rw [show sD pegs2 = .str (PySem.Str.ofString "oo.") by rw [sS_oo]; rfl] at e1
          rw [show sD [false, false, true] = .str (PySem.Str.ofString "..o") by rw [sS_no]; rfl] at e2
          by_cases c : hasT u j pegs2 = true
          · refine ⟨by simp [stepE, e, c, putT_length, hu], ?_⟩
            simp [turn1, elD, stepE, w_is_within, hi, hi', e, e1, e2, c]
          · refine ⟨by simp [stepE, e, c], ?_⟩
            simp [turn1, elD, stepE, w_is_within, hi, hi', e, e1, c]
  rw [fold_rowE]
  cases e : rowE js xs s with
  | none => simp
  | some u => simp [pEq_ss]
end
theorem zip_sum : ∀ (s : List Bool) (xs : List Int), (((List.zip xs s).filter fun p => p.2).map fun p => p.1).sum = wsum s xs
  | [], xs => by cases xs <;> rfl
  | _ :: _, [] => rfl
  | b :: s, x :: xs => by
    have ih := zip_sum s xs
    unfold wsum at ih ⊢
    cases b
    · simpa using ih
    · simpa using ih
theorem w_weight {n : Nat} {s : List Bool} {xs : List Int} (h : s.length = n) (hn : n ≤ 12) : d_weight [sD s, .tuple (xs.map .int)] = .val (.int (wsum s xs)) := by
  have hM := stand_M h hn
  have zp := pZip_sD (xs.map .int) hM
  have ez : (zipD (xs.map PyData.int) (s.map cD)).map PyData.tuple = (List.zip xs s).map fun p => .tuple [.int p.1, cD p.2] := by
    unfold zipD
    rw [List.zipWith_map, List.map_zipWith, List.zip_eq_zipWith, List.map_zipWith]
  rw [ez] at zp
  simp [d_weight, o_weight, zp]
  rw [lc_if (fun p : Int × Bool => .tuple [.int p.1, cD p.2]) (fun p => p.2) (fun p => .int p.1) _ ?h1]
  case h1 =>
    intro p _
    cases hp : p.2 <;> simp [lc1, str_o, pEq_cc, hp]
  have ps : pSum [.list (((List.zip xs s).filter fun p => p.2).map fun p => PyData.int p.1)] = .val (.int (wsum s xs)) := by
    rw [show (((List.zip xs s).filter fun p => p.2).map fun p => PyData.int p.1) = (((List.zip xs s).filter fun p => p.2).map fun p => p.1).map PyData.int by rw [List.map_map]; rfl]
    show (match asInts _ with | some ns => R.val (PyData.int ns.sum) | none => .stk) = _
    rw [asInts_map]
    show R.val (PyData.int _) = _
    rw [zip_sum]
  simp [ps]
@[simp] theorem ap_dSortKD (k : Str → Int) (d : En → R (List (Key × D))) (ρ : En) : dSortKD k d ρ = (d ρ >>= fun kvs => match asSK kvs with
  | some xs => sortKD k xs
  | none => .stk) := rfl
@[simp] theorem ap_dSortKL (k : Str → Int) (a : En → R D) (ρ : En) : dSortKL k a ρ = (a ρ >>= fun x => asL x >>= fun ds => asStrL ds >>= sortKD k) := rfl
def mexF (L : List Nat) : List Nat := (List.range (L.length + 1)).filter fun k => !decide (k ∈ L)
def mexN (L : List Nat) : Nat := (mexF L).headD 0
theorem mex_nodup_sub : ∀ (A B : List Nat), A.Nodup → (∀ x ∈ A, x ∈ B) → A.length ≤ B.length
  | [], _, _, _ => Nat.zero_le _
  | a :: r, B, nd, h => by
    obtain ⟨n1, n2⟩ := List.nodup_cons.mp nd
    have ha := h a List.mem_cons_self
    have q := mex_nodup_sub r (B.erase a) n2 fun x hx => (List.mem_erase_of_ne (fun e : x = a => n1 (e ▸ hx))).mpr (h x (List.mem_cons_of_mem _ hx))
    rw [List.length_erase_of_mem ha] at q
    have := List.length_pos_of_mem ha
    rw [List.length_cons]; omega
theorem mexF_ne (L : List Nat) : mexF L ≠ [] := fun e => by
  have h : ∀ k ∈ List.range (L.length + 1), k ∈ L := fun k hk => by
    have q := List.filter_eq_nil_iff.mp e k hk
    simpa using q
  have q := mex_nodup_sub _ L List.nodup_range h
  rw [List.length_range] at q
  omega
theorem mex_head (L : List Nat) : (mexF L)[0]? = some (mexN L) := by
  unfold mexN
  cases e : mexF L with
  | nil => exact absurd e (mexF_ne L)
  | cons a r => rfl
theorem mex_mem (L : List Nat) : mexN L ∈ mexF L := by
  have q := mex_head L
  exact List.mem_of_getElem? q
theorem mex_not (L : List Nat) : mexN L ∉ L := by
  have q := (List.mem_filter.mp (mex_mem L)).2
  simpa using q
theorem mex_le (L : List Nat) : mexN L ≤ L.length := by
  have q := List.mem_range.mp (List.mem_filter.mp (mex_mem L)).1
  omega
theorem head_least : ∀ {l : List Nat} {p : Nat → Bool} {a : Nat}, l.Pairwise (· < ·) → (l.filter p)[0]? = some a → ∀ k ∈ l, k < a → p k = false
  | [], _, _, _, h, _, hk, _ => by simp at hk
  | x :: r, p, a, pw, h, k, hk, lt => by
    obtain ⟨h1, h2⟩ := List.pairwise_cons.mp pw
    by_cases c : p x = true
    · rw [List.filter_cons, if_pos c] at h
      have e : x = a := by simpa using h
      rcases List.mem_cons.mp hk with z | z
      · omega
      · have := h1 k z; omega
    · rw [List.filter_cons, if_neg c] at h
      rcases List.mem_cons.mp hk with z | z
      · rw [z]; simpa using c
      · exact head_least h2 h k z lt
theorem mex_less (L : List Nat) {k : Nat} (h : k < mexN L) : k ∈ L := by
  have q := head_least List.pairwise_lt_range (mex_head L) k (List.mem_range.mpr (by have := mex_le L; omega)) h
  simpa using q
theorem mex_zero (L : List Nat) : mexN L = 0 ↔ 0 ∉ L := by
  constructor
  · intro e h
    exact mex_not L (e ▸ h)
  · intro h
    cases e : mexN L with
    | zero => rfl
    | succ k => exact absurd (mex_less L (by omega)) h
def gnT (js : List (List Int)) : Nat → List Bool → Nat
  | 0, _ => 0
  | f + 1, s => mexN ((fwd js s).map fun m => gnT js f m.2)
def gN (js : List (List Int)) (s : List Bool) : Nat := gnT js (pegs s) s
theorem gN_eq {n : Nat} {js : List (List Int)} {s : List Bool} (g : Good n js) (h : s.length = n) : gN js s = mexN ((fwd js s).map fun m => gN js m.2) := by
  have e : ∀ m ∈ fwd js s, gN js m.2 = gnT js (pegs s - 1) m.2 := fun m hm => by
    have := pegs_step g h hm
    unfold gN
    rw [show pegs s - 1 = pegs m.2 by omega]
  rw [List.map_congr_left e]
  unfold gN
  cases c : pegs s with
  | zero =>
    have z : fwd js s = [] := by
      cases q : fwd js s with
      | nil => rfl
      | cons m r =>
        have := pegs_step g h (m := m) (by rw [q]; simp)
        omega
    rw [z]
    show 0 = mexN []
    rfl
  | succ k => rfl
def ordL (L : List (List Bool)) : List (List Bool) := L.mergeSort fun a b => decide ((pegs a : Int) ≤ pegs b)
theorem keyPegs_sS (s : List Bool) : keyPegs (sS s) = (pegs s : Nat) := by
  have q := w_pegs s
  have q' : R.val (PyData.int (keyPegs (sS s))) = R.val (PyData.int (pegs s : Nat)) := q
  injection q' with q'
  injection q'
theorem byK_sS (L : List (List Bool)) : byK keyPegs (L.map sS) = (ordL L).map sS := by
  unfold byK ordL
  rw [List.map_mergeSort]
  intro a _ b _
  rw [keyPegs_sS, keyPegs_sS]
theorem ordL_perm (L : List (List Bool)) : (ordL L).Perm L := List.mergeSort_perm _ _
theorem ordL_pw (L : List (List Bool)) : (ordL L).Pairwise fun a b => pegs a ≤ pegs b := by
  refine (List.pairwise_mergeSort (le := fun a b => decide ((pegs a : Int) ≤ pegs b)) (fun a b c h k => ?_) (fun a b => ?_) L).imp fun h => ?_
  · have := of_decide_eq_true h
    have := of_decide_eq_true k
    exact decide_eq_true (by omega)
  · rw [Bool.or_eq_true, decide_eq_true_eq, decide_eq_true_eq]; omega
  · have := of_decide_eq_true h
    omega
theorem sortKD_kvL {L : List (List Bool)} (h : L.length ≤ M) : (match asSK (kvL L) with
  | some xs => sortKD keyPegs xs
  | none => .stk) = .val ((ordL L).map sD) := by
  rw [asSK_kvL]
  show sortKD keyPegs (L.map sS) = _
  unfold sortKD
  rw [List.length_map, if_pos h, byK_sS, List.map_map]
  rfl
def kvN (js : List (List Int)) (L : List (List Bool)) : List (Key × D) := L.map fun s => (.inr (sS s), .int (gN js s : Nat))
theorem kvN_in {js : List (List Int)} {L : List (List Bool)} {s : List Bool} (h : s ∈ L) : valD (kvN js L) (.inr (sS s)) = some (.int (gN js s : Nat)) := by
  induction L with
  | nil => simp at h
  | cons a r ih =>
    by_cases e : a = s
    · subst e
      exact valD_pos (p := (.inr (sS a), .int (gN js a : Nat))) rfl
    · have q : valD (kvN js (a :: r)) (.inr (sS s)) = valD (kvN js r) (.inr (sS s)) := valD_neg (p := (.inr (sS a), .int (gN js a : Nat))) fun h => e (sS_inj (Sum.inr.inj h))
      rw [q]
      refine ih ?_
      rcases List.mem_cons.mp h with z | z
      · exact absurd z.symm e
      · exact z
theorem kvN_put {js : List (List Int)} {L : List (List Bool)} {s : List Bool} (h : s ∉ L) : putD (kvN js L) (.inr (sS s)) (.int (gN js s : Nat)) = kvN js (L ++ [s]) := by
  unfold putD
  have e : ((kvN js L).any fun kv => decide (kv.1 = Sum.inr (sS s))) = false := by
    unfold kvN
    rw [List.any_map, List.any_eq_false]
    intro t ht q
    have q' : (Sum.inr (sS t) : Key) = Sum.inr (sS s) := by simpa using q
    exact h ((sS_inj (Sum.inr.inj q')) ▸ ht)
  rw [e, if_neg Bool.false_ne_true]
  unfold kvN
  rw [List.map_append]; rfl
theorem kvN_length (js : List (List Int)) (L : List (List Bool)) : (kvN js L).length = L.length := List.length_map _
theorem getD_in {js : List (List Int)} {L : List (List Bool)} {s : List Bool} (h : s ∈ L) : getD (kvN js L) (.inr (sS s)) = .val (.int (gN js s : Nat)) := by
  unfold getD
  rw [kvN_in h]
theorem nd_inj {α : Type} {l : List α} (h : l.Nodup) {i j : Nat} (hi : i < l.length) (hj : j < l.length) (e : l[i] = l[j]) : i = j := by
  rcases Nat.lt_trichotomy i j with z | z | z
  · exact absurd e (List.pairwise_iff_getElem.mp h i j hi hj z)
  · exact z
  · exact absurd e.symm (List.pairwise_iff_getElem.mp h j i hj hi z)
/-- what is behind stands earlier -/
theorem ord_before {n : Nat} {js : List (List Int)} {s : List Bool} (g : Good n js) (h : s.length = n) (c : okF (fwd js) s) {i : Nat} {u : List Bool} (hu : (ordL (farT (fwd js) s))[i]? = some u) :
    u ∈ farT (fwd js) s ∧ u ∉ (ordL (farT (fwd js) s)).take i ∧ ∀ m ∈ fwd js u, m.2 ∈ (ordL (farT (fwd js) s)).take i := by
  have S := far_sts (nxt_step g pegs2 pegs1) h
  have pm := ordL_perm (farT (fwd js) s)
  have nd : (ordL (farT (fwd js) s)).Nodup := (pm.nodup_iff).mpr S.nd
  have mu : u ∈ farT (fwd js) s := pm.mem_iff.mp (List.mem_of_getElem? hu)
  obtain ⟨hi, ei⟩ := List.getElem?_eq_some_iff.mp hu
  refine ⟨mu, fun z => ?_, fun m hm => ?_⟩
  · obtain ⟨k, hk⟩ := List.mem_iff_getElem?.mp z
    rw [List.getElem?_take] at hk
    split at hk
    · rename_i lt
      obtain ⟨hk', ek⟩ := List.getElem?_eq_some_iff.mp hk
      have := nd_inj nd hk' hi (ek.trans ei.symm)
      omega
    · cases hk
  · have m2 := far_closed c mu hm
    have m3 := pm.mem_iff.mpr m2
    obtain ⟨k, hk⟩ := List.mem_iff_getElem?.mp m3
    have lt := pegs_step g (S.len u mu) hm
    have hki : k < i := by
      rcases Nat.lt_or_ge k i with z | z
      · exact z
      · obtain ⟨hk', ek⟩ := List.getElem?_eq_some_iff.mp hk
        rcases Nat.lt_or_eq_of_le z with z | z
        · have q := List.pairwise_iff_getElem.mp (ordL_pw (farT (fwd js) s)) i k hi hk' z
          rw [ei, ek] at q
          omega
        · subst z
          rw [ei] at ek
          rw [← ek] at lt
          omega
    refine List.mem_iff_getElem?.mpr ⟨k, ?_⟩
    rw [List.getElem?_take, if_pos hki]
    exact hk
theorem notIn_nats (x : Nat) (L : List Nat) : pNotIn (natD x) (.list (L.map natD)) = .val (.bool (!decide (x ∈ L))) := by
  have q := inB_list natD 0 (fun _ => rfl) (fun a b e => by injection e with e; omega) (by decide) x L
  unfold pNotIn
  rw [q]
  rfl
theorem in_nats (x : Nat) (L : List Nat) : pIn (natD x) (.list (L.map natD)) = .val (.bool (decide (x ∈ L))) := by
  have q := inB_list natD 0 (fun _ => rfl) (fun a b e => by injection e with e; omega) (by decide) x L
  unfold pIn
  rw [q]
  rfl
theorem rng_nats (k : Nat) (hk : k ≤ 1000000) : pRng1 [.int (k : Int)] = .val ((List.range k).map natD) := rng1_eq k hk
end L2.Dn


set_option Elab.async false
set_option linter.all false
set_option maxRecDepth 100000
set_option maxHeartbeats 4000000
/-! Mo1: lists of numbers asked whether they are empty; numbers of jumps. -/
namespace L2.Dn
open PySem PySem.Spec PyProof.Rows
theorem okE_nats (ks : List Nat) : okE 1 (.list (ks.map natD)) = true := by
  show okEs 0 _ = true
  refine okEs_iff.mpr fun d hd => ?_
  obtain ⟨i, _, rfl⟩ := List.mem_map.mp hd
  rfl
theorem ne_nil' (x : D) (xs : List D) (h : okE 1 (.list (x :: xs)) = true) : pNe (.list (x :: xs)) (.list []) = .val (.bool true) := by
  unfold pNe
  rw [okE_shaped h (by decide), okE_shaped (n := 1) (d := .list []) rfl (by decide)]
  simp [PyData.eqv, PyData.eqvAll]
theorem eq_nil' (x : D) (xs : List D) (h : okE 1 (.list (x :: xs)) = true) : pEq (.list (x :: xs)) (.list []) = .val (.bool false) := by
  unfold pEq
  rw [okE_shaped h (by decide), okE_shaped (n := 1) (d := .list []) rfl (by decide)]
  simp [PyData.eqv, PyData.eqvAll]
theorem ne_nn : pNe (.list []) (.list []) = .val (.bool false) := pNe_self (n := 1) rfl
theorem eq_nn : pEq (.list []) (.list []) = .val (.bool true) := pEq_self (n := 1) rfl
theorem nats_ne (ks : List Nat) : pNe (.list (ks.map natD)) (.list []) = .val (.bool (!ks.isEmpty)) := by
  cases ks with
  | nil => exact ne_nn
  | cons k r => exact ne_nil' _ _ (okE_nats (k :: r))
theorem nats_eq (ks : List Nat) : pEq (.list (ks.map natD)) (.list []) = .val (.bool ks.isEmpty) := by
  cases ks with
  | nil => exact eq_nn
  | cons k r => exact eq_nil' _ _ (okE_nats (k :: r))
theorem pNe_bb (a b : Bool) : pNe (.bool a) (.bool b) = .val (.bool (a != b)) := by cases a <;> cases b <;> rfl
theorem pEq_tt (a b : Bool) : pEq (.bool a) (.bool b) = .val (.bool (a == b)) := by cases a <;> cases b <;> rfl
/-- a jump has one stand behind it -/
theorem step_uniq {js : List (List Int)} {s p q : List Bool} {m m' : Nat × List Bool} (h : m ∈ stepT js s p q) (h' : m' ∈ stepT js s p q) (e : m.1 = m'.1) : m = m' := by
  obtain ⟨j, e1, _, _, e2⟩ := step_mem h
  obtain ⟨j', e1', _, _, e2'⟩ := step_mem h'
  rw [e, e1'] at e1
  cases e1
  exact Prod.ext e (e2.trans e2'.symm)
end L2.Dn


set_option Elab.async false
set_option linter.all false
set_option maxRecDepth 100000
set_option maxHeartbeats 4000000
/-! Mo2: how many rows lead to a stand. -/
namespace L2.Dn
open PySem PySem.Spec PyProof.Rows
def wayT (js : List (List Int)) (t : List Bool) : Nat → List Bool → Nat
  | 0, s => if s = t then 1 else 0
  | f + 1, s => if s = t then 1 else ((fwd js s).map fun m => wayT js t f m.2).sum
def wayN (js : List (List Int)) (t s : List Bool) : Nat := wayT js t (pegs s) s
theorem wayN_eq {n : Nat} {js : List (List Int)} {t s : List Bool} (g : Good n js) (h : s.length = n) : wayN js t s = if s = t then 1 else ((fwd js s).map fun m => wayN js t m.2).sum := by
  have e : ∀ m ∈ fwd js s, wayN js t m.2 = wayT js t (pegs s - 1) m.2 := fun m hm => by
    have := pegs_step g h hm
    unfold wayN
    rw [show pegs s - 1 = pegs m.2 by omega]
  rw [List.map_congr_left e]
  unfold wayN
  cases c : pegs s with
  | zero =>
    have z : fwd js s = [] := by
      cases q : fwd js s with
      | nil => rfl
      | cons m r =>
        have := pegs_step g h (m := m) (by rw [q]; simp)
        omega
    rw [z]
    rfl
  | succ k => rfl
theorem wayN_self {js : List (List Int)} {t : List Bool} : wayN js t t = 1 := by
  unfold wayN
  cases pegs t <;> unfold wayT <;> rw [if_pos rfl]
theorem sum_zero : ∀ {l : List Nat}, (∀ x ∈ l, x = 0) → l.sum = 0
  | [], _ => rfl
  | a :: r, h => by
    rw [List.sum_cons, h a List.mem_cons_self, sum_zero fun x hx => h x (List.mem_cons_of_mem _ hx)]
theorem wayN_zero {n : Nat} {js : List (List Int)} {t : List Bool} (g : Good n js) : ∀ (k : Nat) {s : List Bool}, s.length = n → pegs s = k → ¬ Rs (fwd js) s t → wayN js t s = 0
  | k, s, h, hk, nr => by
    rw [wayN_eq g h, if_neg (fun e : s = t => nr (by rw [e]; exact .refl))]
    refine sum_zero fun x hx => ?_
    obtain ⟨m, hm, rfl⟩ := List.mem_map.mp hx
    have lt := pegs_step g h hm
    have lm := ((nxt_step g pegs2 pegs1 : Nxt n (fwd js)) s h).1 m hm
    exact wayN_zero g (k - 1) lm (by omega) fun r => nr (Rs.head ⟨m, hm, rfl⟩ r)
termination_by k => k
decreasing_by
  have := pegs_step g h hm
  omega
/-- those that lead nowhere count for nothing -/
theorem sum_filter (p : (Nat × List Bool) → Bool) (f : (Nat × List Bool) → Nat) : ∀ (ms : List (Nat × List Bool)), (∀ m ∈ ms, p m = false → f m = 0) → ((ms.filter p).map f).sum = (ms.map f).sum
  | [], _ => rfl
  | m :: r, h => by
    have ih := sum_filter p f r fun x hx => h x (List.mem_cons_of_mem _ hx)
    rw [List.map_cons, List.sum_cons, List.filter_cons]
    cases e : p m with
    | true => rw [if_pos rfl, List.map_cons, List.sum_cons, ih]
    | false => rw [if_neg Bool.false_ne_true, ih, h m List.mem_cons_self e, Nat.zero_add]
theorem sum_nats (ks : List Nat) : pSum [.list (ks.map natD)] = .val (natD ks.sum) := by
  have e : ks.map natD = (ks.map fun (k : Nat) => (k : Int)).map .int := by rw [List.map_map]; rfl
  rw [e]
  show (match asInts ((ks.map fun (k : Nat) => (k : Int)).map PyData.int) with
    | some ns => R.val (PyData.int ns.sum)
    | none => .stk) = _
  rw [asInts_map]
  show R.val (PyData.int (ks.map fun (k : Nat) => (k : Int)).sum) = R.val (PyData.int (ks.sum : Nat))
  congr 2
  induction ks with
  | nil => rfl
  | cons a r ih =>
    rw [List.map_cons, List.sum_cons, ih (by rw [List.map_map]; rfl), List.sum_cons]
    omega
/-! ### the dict of ways -/
def inWy (t : List Bool) (L : List (List Bool)) : List (List Bool) := t :: L.filter fun u => decide (u ≠ t)
theorem mem_inWy {t u : List Bool} {L : List (List Bool)} : u ∈ inWy t L ↔ u = t ∨ u ∈ L := by
  unfold inWy
  rw [List.mem_cons, List.mem_filter]
  by_cases e : u = t <;> simp [e]
def kvW (js : List (List Int)) (t : List Bool) (L : List (List Bool)) : List (Key × D) := L.map fun s => (.inr (sS s), natD (wayN js t s))
theorem kvW_some (js : List (List Int)) (t : List Bool) (L : List (List Bool)) (s : List Bool) : valD (kvW js t L) (.inr (sS s)) = if s ∈ L then some (natD (wayN js t s)) else none := by
  induction L with
  | nil => rfl
  | cons a r ih =>
    by_cases e : a = s
    · subst e
      have q : valD (kvW js t (a :: r)) (.inr (sS a)) = some (natD (wayN js t a)) := valD_pos (p := (.inr (sS a), natD (wayN js t a))) rfl
      rw [q]; simp
    · have q : valD (kvW js t (a :: r)) (.inr (sS s)) = valD (kvW js t r) (.inr (sS s)) := valD_neg (p := (.inr (sS a), natD (wayN js t a))) fun h => e (sS_inj (Sum.inr.inj h))
      rw [q, ih]
      have : (s ∈ a :: r) = (s ∈ r) := by simp [Ne.symm e]
      simp [Ne.symm e]
theorem kvW_put {js : List (List Int)} {t : List Bool} {L : List (List Bool)} {s : List Bool} (h : s ∉ L) : putD (kvW js t L) (.inr (sS s)) (natD (wayN js t s)) = kvW js t (L ++ [s]) := by
  unfold putD
  have e : ((kvW js t L).any fun kv => decide (kv.1 = Sum.inr (sS s))) = false := by
    unfold kvW
    rw [List.any_map, List.any_eq_false]
    intro u hu q
    have q' : (Sum.inr (sS u) : Key) = Sum.inr (sS s) := by simpa using q
    exact h ((sS_inj (Sum.inr.inj q')) ▸ hu)
  rw [e, if_neg Bool.false_ne_true]
  unfold kvW
  rw [List.map_append]; rfl
theorem kvW_length (js : List (List Int)) (t : List Bool) (L : List (List Bool)) : (kvW js t L).length = L.length := List.length_map _
theorem sortKL_sD {L : List (List Bool)} (h : L.length ≤ M) : (asStrL (L.map sD) >>= sortKD keyPegs) = .val ((ordL L).map sD) := by
  unfold asStrL
  rw [asStrs_sD]
  show sortKD keyPegs (L.map sS) = _
  unfold sortKD
  rw [List.length_map, if_pos h, byK_sS, List.map_map]
  rfl
section
variable {n : Nat} {js : List (List Int)} {s t : List Bool} (g : Good n js) (h : s.length = n) (k : t.length = n) (c : okF (fwd js) s) (e : t ∈ farT (fwd js) s) (c2 : okF (bwd js) t)
include g h k c c2
theorem on_iff {u : List Bool} : u ∈ onT js s t ↔ u ∈ farT (fwd js) s ∧ Rs (fwd js) u t := by
  unfold onT
  rw [List.mem_filter, decide_eq_true_eq]
  constructor
  · rintro ⟨m1, m2⟩
    exact ⟨m1, (far_sound m2).rev' g k⟩
  · rintro ⟨m1, r⟩
    exact ⟨m1, (far_iff c2 u).mpr (r.rev g ((far_sts (nxt_step g pegs2 pegs1) h).len u m1))⟩
theorem on_before {i : Nat} {u : List Bool} (hu : (ordL (onT js s t))[i]? = some u) : u ∈ onT js s t ∧ u ∉ (ordL (onT js s t)).take i ∧ ∀ m ∈ fwd js u, (m.2 ∈ (ordL (onT js s t)).take i ↔ m.2 ∈ onT js s t) := by
  have S := far_sts (nxt_step g pegs2 pegs1) h
  have pm := ordL_perm (onT js s t)
  have nd : (ordL (onT js s t)).Nodup := (pm.nodup_iff).mpr (S.nd.filter _)
  have mu : u ∈ onT js s t := pm.mem_iff.mp (List.mem_of_getElem? hu)
  obtain ⟨hi, ei⟩ := List.getElem?_eq_some_iff.mp hu
  have lu := on_len g h mu
  refine ⟨mu, fun z => ?_, fun m hm => ⟨fun z => pm.mem_iff.mp (List.mem_of_mem_take z), fun m2 => ?_⟩⟩
  · obtain ⟨k, hk⟩ := List.mem_iff_getElem?.mp z
    rw [List.getElem?_take] at hk
    split at hk
    · rename_i lt
      obtain ⟨hk', ek⟩ := List.getElem?_eq_some_iff.mp hk
      have := nd_inj nd hk' hi (ek.trans ei.symm)
      omega
    · cases hk
  · have m3 := pm.mem_iff.mpr m2
    obtain ⟨k, hk⟩ := List.mem_iff_getElem?.mp m3
    have lt := pegs_step g lu hm
    have hki : k < i := by
      rcases Nat.lt_or_ge k i with z | z
      · exact z
      · obtain ⟨hk', ek⟩ := List.getElem?_eq_some_iff.mp hk
        rcases Nat.lt_or_eq_of_le z with z | z
        · have q := List.pairwise_iff_getElem.mp (ordL_pw (onT js s t)) i k hi hk' z
          rw [ei, ek] at q
          omega
        · subst z
          rw [ei] at ek
          rw [← ek] at lt
          omega
    refine List.mem_iff_getElem?.mpr ⟨k, ?_⟩
    rw [List.getElem?_take, if_pos hki]
    exact hk
include e
theorem w_ways_to : d_ways_to [wD n js, sD s, sD t] = .val (kvW js t (inWy t (ordL (onT js s t)))) := by
  have wb := w_between g h k c e c2
  have S := far_sts (nxt_step g pegs2 pegs1) h
  have few := S.few g.hi
  have ol : (onT js s t).length ≤ M := by
    have : (onT js s t).length ≤ (farT (fwd js) s).length := List.length_filter_le _ _
    show _ ≤ 16777216; omega
  have sk := sortKL_sD ol
  have ob := fun i u (hu : (ordL (onT js s t))[i]? = some u) => on_before g h k c c2 hu
  have oi := fun u => on_iff g h k c c2 (u := u)
  have fc := fun u (m : u ∈ onT js s t) x (hx : x ∈ fwd js u) => far_closed c (List.mem_filter.mp m).1 hx
  have olen := fun u (m : u ∈ onT js s t) => on_len g h m
  have pl : (ordL (onT js s t)).length ≤ 4096 := by
    rw [(ordL_perm _).length_eq]
    exact Nat.le_trans (List.length_filter_le _ _) few
  have e0 : kvW js t (inWy t []) = [(.inr (sS t), .int 1)] := by
    show [((Sum.inr (sS t) : Key), natD (wayN js t t))] = _
    rw [wayN_self]; rfl
  generalize onT js s t = O at *
  generalize ordL O = L at *
  unfold d_ways_to o_ways_to
  simp -implicitDefEqProofs [wb, -oTurns_cons]
  simp -implicitDefEqProofs only [R.bind_val, sk]
  simp -implicitDefEqProofs only [R.bind_val, anyL_list]
  show finK (thenO (oTurns _ _ _ _ _) _) = _
  rw [for_ix (fun i => [.fz (wD n js), .fz (sD s), .fz (sD t), .fz (.list (O.map sD)), .od (kvW js t (inWy t (L.take i))), .un, .un, .un]) _ ?h1 ?e1]
  case e1 =>
    rw [List.take_zero, e0]
  case h1 =>
    intro i x hx
    rw [List.getElem?_map] at hx
    cases hu : L[i]? with
    | none => rw [hu] at hx; cases hx
    | some u =>
    rw [hu] at hx
    have ex : x = sD u := (Option.some.inj hx).symm
    subst ex
    obtain ⟨mu, nu, before⟩ := ob i u hu
    have lu := olen u mu
    have mv := w_moves_of g lu
    have e3 : L.take (i + 1) = (L.take i) ++ [u] := by rw [List.take_add_one, hu]; rfl
    have ne := pNe_ss u t
    by_cases z : u = t
    · subst z
      have e4 : inWy u (L.take i ++ [u]) = inWy u (L.take i) := by unfold inWy; rw [List.filter_append]; simp
      rw [e3, e4]
      simp -implicitDefEqProofs [turn1, ne]
    · have zb : (u == t) = false := by simpa using z
      rw [zb] at ne
      have e4 : inWy t (L.take i ++ [u]) = inWy t (L.take i) ++ [u] := by unfold inWy; rw [List.filter_append]; simp [z]
      have nw : u ∉ inWy t (L.take i) := fun q => (mem_inWy.mp q).elim z nu
      have lt : (inWy t (L.take i)).length < M := by
        unfold inWy
        rw [List.length_cons]
        have q1 := List.length_filter_le (fun u => decide (u ≠ t)) (L.take i)
        rw [List.length_take] at q1
        show _ < 16777216; omega
      rw [e3, e4, ← kvW_put nw]
      have wn := wayN_eq (t := t) g lu
      rw [if_neg z] at wn
      have sf : (((fwd js u).filter fun m => decide (m.2 ∈ inWy t (L.take i))).map fun m => wayN js t m.2).sum = wayN js t u := by
        rw [wn]
        refine sum_filter _ _ _ fun m hm q => ?_
        have lm := ((nxt_step g pegs2 pegs1 : Nxt n (fwd js)) u lu).1 m hm
        refine wayN_zero g _ lm rfl fun r => ?_
        have q1 : m.2 ∈ O := (oi m.2).mpr ⟨fc u mu m hm, r⟩
        have q2 : m.2 ∈ inWy t (L.take i) := mem_inWy.mpr (.inr ((before m hm).mpr q1))
        rw [decide_eq_true q2] at q
        cases q
      have sn := sum_nats (((fwd js u).filter fun m => decide (m.2 ∈ inWy t (L.take i))).map fun m => wayN js t m.2)
      rw [sf, List.map_map] at sn
      simp -implicitDefEqProofs [turn1, ne, mv]
      rw [lc_if mvD (fun m => decide (m.2 ∈ inWy t (L.take i))) (fun m => natD (wayN js t m.2)) _ ?h2]
      case h2 =>
        intro m hm
        have q := kvW_some js t (inWy t (L.take i)) m.2
        have q2 : getD (kvW js t (inWy t (L.take i))) (.inr (sS m.2)) = if m.2 ∈ inWy t (L.take i) then .val (natD (wayN js t m.2)) else .stk := by
          unfold getD
          rw [q]
          by_cases w : m.2 ∈ inWy t (L.take i)
          · rw [if_pos w, if_pos w]
          · rw [if_neg w, if_neg w]
        by_cases w : m.2 ∈ inWy t (L.take i)
        · rw [if_pos w] at q q2
          simp [lc1, mvD, q, q2, w]
        · rw [if_neg w] at q
          simp [lc1, mvD, q, w]
      have sn' : pSum [.list (((stepT js u pegs2 pegs1).filter fun m => decide (m.2 ∈ inWy t (L.take i))).map fun m => natD (wayN js t m.2))] = .val (natD (wayN js t u)) := sn
      simp -implicitDefEqProofs only [R.bind_val, sn']
      simp -implicitDefEqProofs [kvW_length, lt]
  simp -implicitDefEqProofs
theorem w_how_many_ok : d_how_many [wD n js, sD s, sD t] = .val (natD (wayN js t s)) := by
  have w := w_ways_to g h k c e c2
  have m : s ∈ inWy t (ordL (onT js s t)) := mem_inWy.mpr (.inr ((ordL_perm _).mem_iff.mpr (on_start g h k e c2)))
  have q := kvW_some js t (inWy t (ordL (onT js s t))) s
  rw [if_pos m] at q
  simp [d_how_many, o_how_many, w_look_two g h k, w, getD, q]
end
end L2.Dn


set_option Elab.async false
set_option linter.all false
set_option maxRecDepth 100000
set_option maxHeartbeats 4000000
/-! Mo3: what is refused; full and empty stands. -/
namespace L2.Dn
open PySem PySem.Spec PyProof.Rows
abbrev wWorld : D := .str (PySem.Str.ofString "world")
abbrev wStand : D := .str (PySem.Str.ofString "stand")
abbrev wCount : D := .str (PySem.Str.ofString "count")
abbrev wNever : D := .str (PySem.Str.ofString "never")
theorem two_bad {d s t : D} (h : d_is_world [d] = .val (.bool false)) : d_look_two [d, s, t] = .exc .world := by
  simp [d_look_two, o_look_two, d_look_stand, o_look_stand, d_look, o_look, h]
/-- a refusal of the two stands is the refusal of each def -/
theorem refuse_two {w s t : D} {e : Ex} (h : d_look_two [w, s, t] = .exc e) : d_row_to [w, s, t] = .exc e ∧ d_last [w, s, t] = .exc e ∧ (∀ c, d_ahead [w, s, t, c] = .exc e) ∧ d_how_many [w, s, t] = .exc e ∧ d_surely [w, s, t] = .exc e ∧ d_perhaps [w, s, t] = .exc e ∧ d_can_come [w, s, t] = .exc e ∧ d_paper [w, s, t] = .exc e ∧ (∀ c, d_is_paper [w, s, t, c] = .exc e) ∧ d_parted_by [w, s, t] = .exc e := by
  refine ⟨?_, ?_, fun _ => ?_, ?_, ?_, ?_, ?_, ?_, fun _ => ?_, ?_⟩
  · simp [d_row_to, o_row_to, h]
  · simp [d_last, o_last, h]
  · simp [d_ahead, o_ahead, h]
  · simp [d_how_many, o_how_many, h]
  · simp [d_surely, o_surely, h]
  · simp [d_perhaps, o_perhaps, h]
  · simp [d_can_come, o_can_come, h]
  · simp [d_paper, o_paper, h]
  · simp [d_is_paper, o_is_paper, h]
  · simp [d_parted_by, o_parted_by, h]
theorem ten {P : Int → Prop} (h0 : P 0) (h1 : P 1) (h2 : P 2) (h3 : P 3) (h4 : P 4) (h5 : P 5) (h6 : P 6) (h7 : P 7) (h8 : P 8) (h9 : P 9) (k : Nat) (hk : k < 10) : P (k : Int) := by
  match k, hk with
  | 0, _ => exact h0
  | 1, _ => exact h1
  | 2, _ => exact h2
  | 3, _ => exact h3
  | 4, _ => exact h4
  | 5, _ => exact h5
  | 6, _ => exact h6
  | 7, _ => exact h7
  | 8, _ => exact h8
  | 9, _ => exact h9
theorem told_two {w s t c : D} {e : Ex} {x : D} (h : d_look_two [w, s, t] = .exc e) (he : (e = .world ∧ x = wWorld) ∨ (e = .stand ∧ x = wStand)) (k : Nat) (hk : k < 10) : d__law_refusal [.int (k : Int), w, s, t, c] = .val x := by
  obtain ⟨r0, r1, r2, r3, r4, r5, r6, r7, r8, r9⟩ := refuse_two h
  refine ten (P := fun i => d__law_refusal [.int i, w, s, t, c] = .val x) ?_ ?_ ?_ ?_ ?_ ?_ ?_ ?_ ?_ ?_ k hk <;>
    rcases he with ⟨rfl, rfl⟩ | ⟨rfl, rfl⟩ <;> simp [d__law_refusal, o__law_refusal, d__law_of_two, o__law_of_two, r0, r1, r2, r3, r4, r5, r6, r7, r8, r9, t_BadWorld, t_BadStand]
section
variable {n : Nat} {js : List (List Int)} (g : Good n js)
include g
theorem two_first {d t : D} (h : d_is_stand [wD n js, d] = .val (.bool false)) : d_look_two [wD n js, d, t] = .exc .stand := by
  simp [d_look_two, o_look_two, d_look_stand, o_look_stand, w_look g, h]
theorem two_second {s : List Bool} {d : D} (hs : s.length = n) (h : d_is_stand [wD n js, d] = .val (.bool false)) : d_look_two [wD n js, sD s, d] = .exc .stand := by
  simp [d_look_two, o_look_two, w_look_stand g hs]
  simp [d_look_stand, o_look_stand, w_look g, h]
theorem stand_len {s : List Bool} (h : s.length ≠ n) (hs : s.length ≤ M) : d_is_stand [wD n js, sD s] = .val (.bool false) := by
  have i : isiD "str" (sD s) = true := rfl
  have e : ¬ ((s.length : Int) = (n : Int)) := by omega
  simp [d_is_stand, o_is_stand, i, pLen_sD hs, e]
theorem stand_not {d : D} (h : isiD "str" d = false) : d_is_stand [wD n js, d] = .val (.bool false) := by
  simp [d_is_stand, o_is_stand, h]
/-- a jump's refusal of a goal that can not come -/
theorem told_never {s t : List Bool} (hs : s.length = n) (ht : t.length = n) (h : d_between [wD n js, sD s, sD t] = .exc .never) (k : Nat) (hk : k < 6) : d__law_refusal [.int (k : Int), wD n js, sD s, sD t, .int 0] = .val wNever := by
  have l := w_look_two g hs ht
  have r0 : d_row_to [wD n js, sD s, sD t] = .exc .never := by simp [d_row_to, o_row_to, l, h]
  have r1 : d_last [wD n js, sD s, sD t] = .exc .never := by simp [d_last, o_last, l, h]
  have r2 : d_ahead [wD n js, sD s, sD t, .int 0] = .exc .never := by simp [d_ahead, o_ahead, l, w_is_within, h]
  have r3 : d_how_many [wD n js, sD s, sD t] = .exc .never := by simp [d_how_many, o_how_many, d_ways_to, o_ways_to, l, h]
  have r4 : d_surely [wD n js, sD s, sD t] = .exc .never := by simp [d_surely, o_surely, l, h]
  have r5 : d_perhaps [wD n js, sD s, sD t] = .exc .never := by simp [d_perhaps, o_perhaps, l, h]
  match k, hk with
  | 0, _ => simp [d__law_refusal, o__law_refusal, d__law_of_two, o__law_of_two, r0, t_BadWorld, t_BadStand, t_BadCount, t_Never]
  | 1, _ => simp [d__law_refusal, o__law_refusal, d__law_of_two, o__law_of_two, r1, t_BadWorld, t_BadStand, t_BadCount, t_Never]
  | 2, _ => simp [d__law_refusal, o__law_refusal, d__law_of_two, o__law_of_two, r2, t_BadWorld, t_BadStand, t_BadCount, t_Never]
  | 3, _ => simp [d__law_refusal, o__law_refusal, d__law_of_two, o__law_of_two, r3, t_BadWorld, t_BadStand, t_BadCount, t_Never]
  | 4, _ => simp [d__law_refusal, o__law_refusal, d__law_of_two, o__law_of_two, r4, t_BadWorld, t_BadStand, t_BadCount, t_Never]
  | 5, _ => simp [d__law_refusal, o__law_refusal, d__law_of_two, o__law_of_two, r5, t_BadWorld, t_BadStand, t_BadCount, t_Never]
end
/-! ### bad worlds -/
theorem in_any (d : D) (lo hi : Int) : d_is_within [d, .int lo, .int hi] = .val (.bool (match d with
    | .int i => decide (lo ≤ i) && decide (i ≤ hi)
    | _ => false)) := by
  cases d <;> simp [d_is_within, o_is_within, isiD]
  rename_i i
  by_cases h : lo ≤ i <;> simp [h]
theorem bad_world {n : Nat} {js : List (List Int)} (g : Good n js) : ∀ d ∈ [PyData.none, .tuple [.int 2, .tuple []], .tuple [.int n, .none], .list [.int n, .tuple (js.map tupD)], .tuple [.int 13, .tuple []], .tuple [.bool true, .tuple []]], d_is_world [d] = .val (.bool false) := by
  have h1 : (3 : Int) ≤ n := by have := g.lo; omega
  have h2 : (n : Int) ≤ 12 := by have := g.hi; omega
  have tup : ∀ x y : D, isiD "tuple" (.tuple [x, y]) = true := fun _ _ => rfl
  have nt : isiD "tuple" .none = false := rfl
  have lt : ∀ xs : List D, isiD "tuple" (.list xs) = false := fun _ => rfl
  intro d hd
  simp only [List.mem_cons, List.not_mem_nil, or_false] at hd
  rcases hd with rfl | rfl | rfl | rfl | rfl | rfl
  · simp [d_is_world, o_is_world, nt]
  · simp [d_is_world, o_is_world, in_any, tup]
  · simp [d_is_world, o_is_world, in_any, tup, h1, h2, nt]
  · simp [d_is_world, o_is_world, lt]
  · simp [d_is_world, o_is_world, in_any, tup]
  · simp [d_is_world, o_is_world, in_any, tup]
/-! ### full and empty -/
theorem far_nil {nx : Stp} {s : List Bool} (z : nx s = []) : farT nx s = [s] := by
  show bfsT nx 100 0 [s] = [s]
  rw [show (100 : Nat) = 98 + 1 + 1 from rfl]
  unfold bfsT
  rw [if_pos ⟨Nat.zero_lt_succ _, by simp⟩]
  have e : growT nx [s] 0 = [s] := by
    show (nx s).foldl addT [s] = [s]
    rw [z]; rfl
  rw [e]
  unfold bfsT
  rw [if_neg (fun h => by have := h.1; simp at this)]
theorem step_nil {js : List (List Int)} {s p q : List Bool} {n : Nat} (g : Good n js) (h : ∀ j, JOk n j → hasT s j p = false) : stepT js s p q = [] := by
  cases e : stepT js s p q with
  | nil => rfl
  | cons m r =>
    obtain ⟨j, _, mj, hh, _⟩ := step_mem (js := js) (s := s) (p := p) (q := q) (m := m) (by rw [e]; simp)
    rw [h j (g.ok j mj)] at hh
    cases hh
theorem has_rep {n : Nat} {b : Bool} {j : List Int} {x y z : Bool} (hj : JOk n j) (ne : ¬ (x = b ∧ y = b ∧ z = b)) : hasT (List.replicate n b) j [x, y, z] = false := by
  obtain ⟨a, c, d, rfl, h1, h2, h3, _, _, _⟩ := hj
  have e' : hasT (List.replicate n b) [(a : Int), c, d] [x, y, z] = ([b, b, b] == [x, y, z]) := by
    unfold hasT
    rw [List.map_cons, List.map_cons, List.map_cons, List.map_nil]
    have r : ∀ i : Nat, i < n → (List.replicate n b)[((i : Int)).toNat]?.getD false = b := fun i hi => by rw [Int.toNat_natCast, List.getElem?_replicate, if_pos hi]; rfl
    rw [r a h1, r c h2, r d h3]
  rw [e']
  cases x <;> cases y <;> cases z <;> cases b <;> first | rfl | exact absurd ⟨rfl, rfl, rfl⟩ ne
theorem rep_fwd {n : Nat} {js : List (List Int)} (g : Good n js) (b : Bool) : fwd js (List.replicate n b) = [] := step_nil g fun j hj => has_rep hj (by cases b <;> simp)
theorem rep_bwd {n : Nat} {js : List (List Int)} (g : Good n js) (b : Bool) : bwd js (List.replicate n b) = [] := step_nil g fun j hj => has_rep hj (by cases b <;> simp)
/-! ### a text with another sign -/
def xD (l : List Nat) : D := .str ⟨l.toArray⟩
def xsD (c : Nat) : D := .str ⟨#[c]⟩
theorem plus_x (s : List Bool) (c : Nat) (h : s.length + 1 ≤ M) : pPlus (sD s) (xsD c) = .val (xD (s.map sg ++ [c])) := by
  show (if (sS s).length + (⟨#[c]⟩ : Str).length ≤ M then R.val (PyData.str (sS s ++ (⟨#[c]⟩ : Str))) else .stk) = _
  rw [sS_length, show (⟨#[c]⟩ : Str).length = 1 from rfl, if_pos h]
  unfold xD
  congr 2
  refine str_ext ?_
  rw [Str.cps_append]
  simp [sS]
theorem stand_x {n : Nat} {js : List (List Int)} (hn : n ≤ 12) {l : List Nat} (h : l.length = n) {c : Nat} (hc : c ∈ l) (hx : c ≠ 111 ∧ c ≠ 46) : d_is_stand [wD n js, xD l] = .val (.bool false) := by
  have hM : l.length ≤ M := by show _ ≤ 16777216; omega
  have an : anyL (xD l) = .val (l.map xsD) := by
    show (if l.toArray.size ≤ M then R.val (signs ⟨l.toArray⟩) else .stk) = _
    rw [List.size_toArray, if_pos hM]
    simp [Dn.signs, xsD]
  have ln : pLen [xD l] = .val (.int l.length) := by
    show (if (⟨l.toArray⟩ : Str).length ≤ M then R.val (PyData.int ((⟨l.toArray⟩ : Str).length : Nat)) else .stk) = _
    rw [show (⟨l.toArray⟩ : Str).length = l.length from List.size_toArray, if_pos hM]
  have i : isiD "str" (xD l) = true := rfl
  have on : (PySem.Str.ofString "o.").cps.toList = [111, 46] := by decide +kernel
  have ni : ∀ c : Nat, inB (xsD c) (.str (PySem.Str.ofString "o.")) = .val (decide (c ∈ [111, 46])) := fun c => by
    rw [← on]; rfl
  have c1 : lcTurns (bName 2) (dTst (dBin pNotIn (dVar 2) (dC (.str (PySem.Str.ofString "o."))))) (dVar 2) (l.map xsD) [.fz (wD n js), .fz (xD l), .un] = .val ((l.filter fun c => !decide (c ∈ [111, 46])).map xsD) := by
    refine lc_if xsD (fun c => !decide (c ∈ [111, 46])) xsD l fun c _ => ?_
    have q := ni c
    cases z : decide (c ∈ [111, 46])
    · rw [z] at q
      simp [lc1, pNotIn, q]
    · rw [z] at q
      simp [lc1, pNotIn, q]
  have ne : ((l.filter fun c => !decide (c ∈ [111, 46])).map xsD).isEmpty = false := by
    rw [isEmpty_map']
    have m : c ∈ l.filter fun c => !decide (c ∈ [111, 46]) := List.mem_filter.mpr ⟨hc, by simp [hx]⟩
    cases q : l.filter fun c => !decide (c ∈ [111, 46]) with
    | nil => rw [q] at m; cases m
    | cons _ _ => rfl
  generalize (l.filter fun c => !decide (c ∈ [111, 46])).map xsD = bad at c1 ne
  simp [d_is_stand, o_is_stand, i, ln, h, an, c1, ne]
/-! ### a stand at which nothing can be done, asked of itself -/
section
variable {n : Nat} {js : List (List Int)} {s : List Bool} (g : Good n js) (h : s.length = n) (z : fwd js s = []) (z2 : bwd js s = [])
include z
theorem ok_nil : okF (fwd js) s := by rw [okF, far_nil z]; simp
include g h
theorem never_nil {t : List Bool} (k : t.length = n) (ne : t ≠ s) : d_between [wD n js, sD s, sD t] = .exc .never :=
  w_betweenN g h k (ok_nil z) (by rw [far_nil z]; simpa using ne)
include z2
theorem between_nil : d_between [wD n js, sD s, sD s] = .val (.list [sD s]) := by
  rw [w_between g h h (ok_nil z) (by rw [far_nil z]; simp) (by rw [okF, far_nil z2]; simp)]
  have e : onT js s s = [s] := by
    unfold onT
    rw [far_nil z, far_nil z2]
    simp
  rw [e]; rfl
theorem ahead_nil : d_ahead [wD n js, sD s, sD s, .int 0] = .val (.list [sD s]) := by
  have b := between_nil g h z z2
  have so : sortD [sD s] = .val [sD s] := by
    have q := sortD_sD [s]
    exact q.trans (by rfl)
  simp [d_ahead, o_ahead, w_look_two g h h, w_is_within, b, isS_sD, w_pegs, so]
theorem row_nil : d_row_to [wD n js, sD s, sD s] = .val (.list []) := by
  obtain ⟨ks, r, e⟩ := w_row_to g h h (ok_nil z) (by rw [far_nil z]; simp) (by rw [okF, far_nil z2]; simp)
  obtain ⟨_, p, _⟩ := rowT_pegs g h r
  have : ks = [] := List.length_eq_zero_iff.mp (by omega)
  rw [this] at e
  exact e
theorem last_nil : d_last [wD n js, sD s, sD s] = .val (.list []) := by
  have b := between_nil g h z z2
  have k := w_back_of g h
  have z2' : stepT js s pegs1 pegs2 = [] := z2
  rw [z2'] at k
  simp [d_last, o_last, w_look_two g h h, b, k]
theorem many_nil : d_how_many [wD n js, sD s, sD s] = .val (.int 1) := by
  rw [w_how_many_ok g h h (ok_nil z) (by rw [far_nil z]; simp) (by rw [okF, far_nil z2]; simp), wayN_self]
  rfl
end
end L2.Dn


set_option Elab.async false
set_option linter.all false
set_option maxRecDepth 100000
set_option maxHeartbeats 4000000
/-! Lw_k12: the law of the refusals. -/
namespace L2.Dn
open PySem PySem.Spec PyProof.Rows
theorem six_of {x : Int} (h0 : 0 ≤ x) (h1 : x < 6) (a b c d e f : D) : ∃ y ∈ [a, b, c, d, e, f], L2.atI [a, b, c, d, e, f] x = some y := by
  have : x = 0 ∨ x = 1 ∨ x = 2 ∨ x = 3 ∨ x = 4 ∨ x = 5 := by omega
  rcases this with rfl | rfl | rfl | rfl | rfl | rfl
  · exact ⟨a, by simp, rfl⟩
  · exact ⟨b, by simp, rfl⟩
  · exact ⟨c, by simp, rfl⟩
  · exact ⟨d, by simp, rfl⟩
  · exact ⟨e, by simp, rfl⟩
  · exact ⟨f, by simp, rfl⟩
theorem five_of {x : Int} (h0 : 0 ≤ x) (h1 : x < 5) (a b c d e : D) : ∃ y ∈ [a, b, c, d, e], L2.atI [a, b, c, d, e] x = some y := by
  have : x = 0 ∨ x = 1 ∨ x = 2 ∨ x = 3 ∨ x = 4 := by omega
  rcases this with rfl | rfl | rfl | rfl | rfl
  · exact ⟨a, by simp, rfl⟩
  · exact ⟨b, by simp, rfl⟩
  · exact ⟨c, by simp, rfl⟩
  · exact ⟨d, by simp, rfl⟩
  · exact ⟨e, by simp, rfl⟩
theorem str_O : PyData.str (PySem.Str.ofString "O") = xsD 79 := congrArg PyData.str (by decide +kernel)
theorem str_em : PyData.str (PySem.Str.ofString "") = sD [] := congrArg PyData.str (by decide +kernel)
theorem str_dot : PyData.str (PySem.Str.ofString ".") = sD [false] := congrArg PyData.str (by decide +kernel)
section
variable {n : Nat} {js : List (List Int)} {s : List Bool} (g : Good n js) (h : s.length = n)
include g h
theorem bad_stand : ∀ d ∈ [sD [], sD (s ++ [false]), sD s.tail, xD ((s.map sg).tail ++ [79]), .none, .list (s.map cD)], d_is_stand [wD n js, d] = .val (.bool false) := by
  have n1 := g.lo
  have n2 := g.hi
  intro d hd
  simp only [List.mem_cons, List.not_mem_nil, or_false] at hd
  rcases hd with rfl | rfl | rfl | rfl | rfl | rfl
  · exact stand_len g (by simp; omega) (by simp)
  · exact stand_len g (by simp; omega) (by rw [List.length_append]; show _ + 1 ≤ 16777216; omega)
  · exact stand_len g (by simp; omega) (by rw [List.length_tail]; show _ ≤ 16777216; omega)
  · exact stand_x n2 (c := 79) (by simp; omega) (by simp) (by decide)
  · exact stand_not g rfl
  · exact stand_not g rfl
theorem told_count {c : D} (e : d_is_within [c, .int 0, .int 12] = .val (.bool false)) : d__law_refusal [.int 2, wD n js, sD s, sD s, c] = .val wCount := by
  have r : d_ahead [wD n js, sD s, sD s, c] = .exc .count := by simp [d_ahead, o_ahead, w_look_two g h h, e]
  simp [d__law_refusal, o__law_refusal, r, t_BadWorld, t_BadStand, t_BadCount]
end
theorem bad_count : ∀ d ∈ [PyData.int 13, .int (-1), .none, .bool true, .str (PySem.Str.ofString "1")], d_is_within [d, .int 0, .int 12] = .val (.bool false) := by
  intro d hd
  simp only [List.mem_cons, List.not_mem_nil, or_false] at hd
  rcases hd with rfl | rfl | rfl | rfl | rfl <;> rw [in_any] <;> rfl
theorem eq_w : pNe wWorld wWorld = .val (.bool false) := by kernel_rfl
theorem eq_2 : pNe (.list [wStand, wStand]) (.list [wStand, wStand]) = .val (.bool false) := by kernel_rfl
theorem eq_c : pNe wCount wCount = .val (.bool false) := by kernel_rfl
theorem eq_6 : pNe (.list [wNever, wNever, wNever, wNever, wNever, wNever]) (.list [wNever, wNever, wNever, wNever, wNever, wNever]) = .val (.bool false) := by kernel_rfl
theorem rep_6 : pRepL [wNever] (.int 6) = .val [wNever, wNever, wNever, wNever, wNever, wNever] := by kernel_rfl
theorem law_true (ns : List Int) (hl : ns.length ≤ 63) (hb : ∀ z ∈ ns, Builtin.Int.intBits z ≤ 1048576) : d_law [.list (ns.map .int)] = .val (.bool true) := by
  obtain ⟨n, js, g, e1⟩ := w_world ns 0
  obtain ⟨s, hs, e2⟩ := w_stand (seedT (cellT ns 4) 1) n g.hi
  have n1 := g.lo
  have n2 := g.hi
  have hM : s.length ≤ M := by show _ ≤ 16777216; omega
  have e1 : d__law_world [lD ns, .int 0] = .val (wD n js) := e1
  have c4 : d__law_cell [lD ns, .int 4] = .val (.int (cellT ns 4)) := w_cell ns 4
  have c5 : d__law_cell [lD ns, .int 5] = .val (.int (cellT ns 5)) := w_cell ns 5
  have c6 : d__law_cell [lD ns, .int 6] = .val (.int (cellT ns 6)) := w_cell ns 6
  have c7 : d__law_cell [lD ns, .int 7] = .val (.int (cellT ns 7)) := w_cell ns 7
  obtain ⟨bad, mbad, ebad⟩ := six_of (x := cellT ns 5 % 6) (Int.emod_nonneg _ (by decide)) (Int.emod_lt_of_pos _ (by decide)) .none (.tuple [.int 2, .tuple []]) (.tuple [.int n, .none]) (.list [.int n, .tuple (js.map tupD)]) (.tuple [.int 13, .tuple []]) (.tuple [.bool true, .tuple []])
  obtain ⟨non, mnon, enon⟩ := six_of (x := cellT ns 6 % 6) (Int.emod_nonneg _ (by decide)) (Int.emod_lt_of_pos _ (by decide)) (sD []) (sD (s ++ [false])) (sD s.tail) (xD ((s.map sg).tail ++ [79])) .none (.list (s.map cD))
  obtain ⟨cnt, mcnt, ecnt⟩ := five_of (x := cellT ns 7 % 5) (Int.emod_nonneg _ (by decide)) (Int.emod_lt_of_pos _ (by decide)) (.int 13) (.int (-1)) .none (.bool true) (.str (PySem.Str.ofString "1"))
  have b1 := bad_world g bad mbad
  have b2 := bad_stand g hs non mnon
  have b3 := bad_count cnt mcnt
  have tb : ∀ k < 10, d__law_refusal [.int ((k : Nat) : Int), bad, non, non, .none] = .val wWorld := fun k hk => told_two (two_bad b1) (.inl ⟨rfl, rfl⟩) k hk
  have t1 : ∀ k < 10, d__law_refusal [.int ((k : Nat) : Int), wD n js, non, sD s, .none] = .val wStand := fun k hk => told_two (two_first g b2) (.inr ⟨rfl, rfl⟩) k hk
  have t2 : ∀ k < 10, d__law_refusal [.int ((k : Nat) : Int), wD n js, sD s, non, .none] = .val wStand := fun k hk => told_two (two_second g hs b2) (.inr ⟨rfl, rfl⟩) k hk
  have tc := told_count g hs b3
  have full := sign_text true n (by omega)
  have empt := sign_text false n (by omega)
  have lr : ∀ b : Bool, (List.replicate n b).length = n := fun b => List.length_replicate
  have neq : ∀ b : Bool, List.replicate n (!b) ≠ List.replicate n b := fun b q => by
    have z : (List.replicate n (!b))[0]? = (List.replicate n b)[0]? := by rw [q]
    rw [List.getElem?_replicate, List.getElem?_replicate, if_pos (by omega), if_pos (by omega)] at z
    cases b <;> simp at z
  have tn : ∀ b : Bool, ∀ k < 6, d__law_refusal [.int ((k : Nat) : Int), wD n js, sD (List.replicate n b), sD (List.replicate n (!b)), .int 0] = .val wNever := fun b k hk =>
    told_never g (lr _) (lr _) (never_nil g (lr _) (rep_fwd g b) (lr _) (neq b)) k hk
  have nv1 : ∀ b k, k < 6 → d__law_refusal [.int ((k : Nat) : Int), wD n js, sD (List.replicate n b), sD (List.replicate n (!b)), .int 0] = .val wNever := fun b k hk => tn b k hk
  have ah := ahead_nil g (lr true) (rep_fwd g true) (rep_bwd g true)
  have ro := row_nil g (lr true) (rep_fwd g true) (rep_bwd g true)
  have la := last_nil g (lr true) (rep_fwd g true) (rep_bwd g true)
  have hm := many_nil g (lr false) (rep_fwd g false) (rep_bwd g false)
  have tt := nv1 true
  have tf := nv1 false
  have pf : pNe (.list [sD (List.replicate n true)]) (.list [sD (List.replicate n true)]) = .val (.bool false) := pNe_self (n := 2) (by show okEs 1 _ = true; exact okEs_iff.mpr fun d hd => by rw [List.mem_singleton.mp hd]; exact okE_sD _ _)
  rw [Bool.not_true] at tt
  rw [Bool.not_false] at tf
  generalize List.replicate n true = F at *
  generalize List.replicate n false = E at *
  have p1 : pPlus (sD s) (.str (PySem.Str.ofString ".")) = .val (sD (s ++ [false])) := by rw [str_dot]; exact plus_sD s [false] (by simp; show _ ≤ 16777216; omega)
  have p2 : pSl (sD s) (some 1) none = .val (sD s.tail) := by rw [pSl_sD hM]; exact congrArg (fun x => R.val (sD x)) ((cutL_dropS _ 1).trans List.drop_one)
  have p3 : pPlus (sD s.tail) (.str (PySem.Str.ofString "O")) = .val (xD ((s.map sg).tail ++ [79])) := by rw [str_O, ← List.map_tail]; exact plus_x s.tail 79 (by simp; show _ ≤ 16777216; omega)
  have p4 := pListOf_sD hM
  have st : ∀ a : En, a = [.fz (lD ns), .un, .un, .un, .un, .un, .un, .un, .un, .un] → ∀ k : En → Out, oSeq law_s1 (oSeq law_s2 (oSeq law_s3 (oSeq law_s4 k))) a = k [.fz (lD ns), .fz (wD n js), .fz (sD s), .fz bad, .fz non, .un, .un, .un, .un, .un] := by
    intro a ea k
    subst ea
    have s1 : law_s1 [.fz (lD ns), .un, .un, .un, .un, .un, .un, .un, .un, .un] = .nx [.fz (lD ns), .fz (wD n js), .un, .un, .un, .un, .un, .un, .un, .un] := by
      simp [law_s1, e1]
    have s2 : law_s2 [.fz (lD ns), .fz (wD n js), .un, .un, .un, .un, .un, .un, .un, .un] = .nx [.fz (lD ns), .fz (wD n js), .fz (sD s), .un, .un, .un, .un, .un, .un, .un] := by
      simp [law_s2, c4, w_seed, wD, e2]
    have s3 : law_s3 [.fz (lD ns), .fz (wD n js), .fz (sD s), .un, .un, .un, .un, .un, .un, .un] = .nx [.fz (lD ns), .fz (wD n js), .fz (sD s), .fz bad, .un, .un, .un, .un, .un, .un] := by
      simp [law_s3, c5, mod_eq, wD, ebad]
    have s4 : law_s4 [.fz (lD ns), .fz (wD n js), .fz (sD s), .fz bad, .un, .un, .un, .un, .un, .un] = .nx [.fz (lD ns), .fz (wD n js), .fz (sD s), .fz bad, .fz non, .un, .un, .un, .un, .un] := by
      simp [law_s4, c6, mod_eq, p1, p2, p3, p4, str_em, enon]
    rw [oSeq_eq, s1, thenO_nx, oSeq_eq, s2, thenO_nx, oSeq_eq, s3, thenO_nx, oSeq_eq, s4, thenO_nx]
  have s5 : law_s5 [.fz (lD ns), .fz (wD n js), .fz (sD s), .fz bad, .fz non, .un, .un, .un, .un, .un] = .nx [.fz (lD ns), .fz (wD n js), .fz (sD s), .fz bad, .fz non, .un, .un, .un, .un, .un] := by
    have r1 := rng1_eq 10 (by decide)
    have fa := for_all (b := bName 5) (wp := [5, 6]) (body := law_b1) (fun (k : Nat) => PyData.int (k : Int)) [.fz (lD ns), .fz (wD n js), .fz (sD s), .fz bad, .fz non, .un, .un, .un, .un, .un] (List.range 10) fun k hk => by
      have hk' := List.mem_range.mp hk
      have q1 := tb k hk'
      have q2 := t1 k hk'
      have q3 := t2 k hk'
      simp [turn1, law_b1, q1, q2, q3, eq_w, eq_2]
    have r1' : pRng1 [.int 10] = .val ((List.range 10).map fun (k : Nat) => PyData.int (k : Int)) := r1
    unfold law_s5
    simp only [ap_oFor, ap_dApp, ap_dArgs_cons, ap_dArgs_nil, ap_dC, R.bind_val, r1']
    simp [-oTurns_cons, fa]
  have s6 : law_s6 [.fz (lD ns), .fz (wD n js), .fz (sD s), .fz bad, .fz non, .un, .un, .un, .un, .un] = .nx [.fz (lD ns), .fz (wD n js), .fz (sD s), .fz bad, .fz non, .un, .un, .fz cnt, .un, .un] := by
    simp [law_s6, c7, mod_eq, ecnt]
  have s7 : law_s7 [.fz (lD ns), .fz (wD n js), .fz (sD s), .fz bad, .fz non, .un, .un, .fz cnt, .un, .un] = .nx [.fz (lD ns), .fz (wD n js), .fz (sD s), .fz bad, .fz non, .un, .un, .fz cnt, .fz (sD F), .fz (sD E)] := by
    have f' : pTimes (.str (PySem.Str.ofString "o")) (.int n) = .val (sD F) := full
    have e' : pTimes (.str (PySem.Str.ofString ".")) (.int n) = .val (sD E) := empt
    simp [law_s7, wD, f', e']
  have s8 : law_s8 [.fz (lD ns), .fz (wD n js), .fz (sD s), .fz bad, .fz non, .un, .un, .fz cnt, .fz (sD F), .fz (sD E)] = .nx [.fz (lD ns), .fz (wD n js), .fz (sD s), .fz bad, .fz non, .un, .un, .fz cnt, .fz (sD F), .fz (sD E)] := by
    simp [law_s8, tc, eq_c, ah, pf]
  have r6 : pRng1 [.int 6] = .val ((List.range 6).map fun (k : Nat) => PyData.int (k : Int)) := rng1_eq 6 (by decide)
  have s9 : law_s9 [.fz (lD ns), .fz (wD n js), .fz (sD s), .fz bad, .fz non, .un, .un, .fz cnt, .fz (sD F), .fz (sD E)] = .nx [.fz (lD ns), .fz (wD n js), .fz (sD s), .fz bad, .fz non, .un, .un, .fz cnt, .fz (sD F), .fz (sD E)] := by
    have lc := lc_each (b := bName 5) (c := dYes) (e := dApp d__law_refusal [(dVar 5), (dVar 1), (dVar 9), (dVar 8), (dC (.int 0))]) (ρ := [.fz (lD ns), .fz (wD n js), .fz (sD s), .fz bad, .fz non, .un, .un, .fz cnt, .fz (sD F), .fz (sD E)]) (fun (k : Nat) => PyData.int (k : Int)) (fun _ => wNever) (List.range 6) fun k hk => by
      have q := tf k (List.mem_range.mp hk)
      simp [lc1, q]
    have lc' : (List.range 6).map (fun _ => wNever) = [wNever, wNever, wNever, wNever, wNever, wNever] := rfl
    rw [lc'] at lc
    simp [law_s9, r6, lc, rep_6, eq_6]
  have s10 : law_s10 [.fz (lD ns), .fz (wD n js), .fz (sD s), .fz bad, .fz non, .un, .un, .fz cnt, .fz (sD F), .fz (sD E)] = .nx [.fz (lD ns), .fz (wD n js), .fz (sD s), .fz bad, .fz non, .un, .un, .fz cnt, .fz (sD F), .fz (sD E)] := by
    have lc := lc_each (b := bName 5) (c := dYes) (e := dApp d__law_refusal [(dVar 5), (dVar 1), (dVar 8), (dVar 9), (dC (.int 0))]) (ρ := [.fz (lD ns), .fz (wD n js), .fz (sD s), .fz bad, .fz non, .un, .un, .fz cnt, .fz (sD F), .fz (sD E)]) (fun (k : Nat) => PyData.int (k : Int)) (fun _ => wNever) (List.range 6) fun k hk => by
      have q := tt k (List.mem_range.mp hk)
      simp [lc1, q]
    have lc' : (List.range 6).map (fun _ => wNever) = [wNever, wNever, wNever, wNever, wNever, wNever] := rfl
    rw [lc'] at lc
    simp [law_s10, r6, lc, rep_6, eq_6]
  have nn : pNe (.list []) (.list []) = .val (.bool false) := ne_nn
  have en : pEq (.list []) (.list []) = .val (.bool true) := eq_nn
  show fin (o_law [.fz (lD ns), .un, .un, .un, .un, .un, .un, .un, .un, .un]) = _
  unfold o_law
  rw [st _ rfl, oSeq_eq, s5, thenO_nx, oSeq_eq, s6, thenO_nx, oSeq_eq, s7, thenO_nx, oSeq_eq, s8, thenO_nx, oSeq_eq, s9, thenO_nx, oSeq_eq, s10, thenO_nx]
  simp [law_s11, law_s12, law_s13, ro, hm, la, nn, en]
end L2.Dn


set_option Elab.async false
set_option linter.all false
set_option maxRecDepth 100000
set_option maxHeartbeats 4000000
namespace L2.Dn
open PySem PySem.Spec PyProof.Rows
def top (i : Nat) : Stmt := PySem.Challenge.pw_lastjump_k12_refused.main.body.getD i (.Pass ⟨0, 0, 0, 0⟩)
abbrev s_is_within : Stmt := top 10
abbrev s_is_jump : Stmt := top 11
abbrev s_is_world : Stmt := top 12
abbrev s_look : Stmt := top 13
abbrev s_is_stand : Stmt := top 14
abbrev s_look_stand : Stmt := top 15
abbrev s_look_two : Stmt := top 16
abbrev s_put : Stmt := top 17
abbrev s_has : Stmt := top 18
abbrev s_moves_of : Stmt := top 19
abbrev s_back_of : Stmt := top 20
abbrev s_all_from : Stmt := top 23
abbrev s_all_to : Stmt := top 24
abbrev s_reached : Stmt := top 25
abbrev s_leading : Stmt := top 26
abbrev s_ends : Stmt := top 27
abbrev s_can_come : Stmt := top 28
abbrev s_between : Stmt := top 29
abbrev s_row_to : Stmt := top 30
abbrev s_last : Stmt := top 31
abbrev s_ahead : Stmt := top 32
abbrev s_ways_to : Stmt := top 33
abbrev s_how_many : Stmt := top 34
abbrev s_without : Stmt := top 35
abbrev s_surely : Stmt := top 36
abbrev s_perhaps : Stmt := top 37
abbrev s_is_kept : Stmt := top 39
abbrev s_kept_of : Stmt := top 40
abbrev s_odd_at : Stmt := top 41
abbrev s_parted_by : Stmt := top 42
abbrev s_is_marks : Stmt := top 43
abbrev s_are_weights : Stmt := top 44
abbrev s_weight : Stmt := top 45
abbrev s_paper : Stmt := top 46
abbrev s_is_row : Stmt := top 47
abbrev s_is_closed : Stmt := top 48
abbrev s_is_paper : Stmt := top 49
abbrev s__law_cell : Stmt := top 51
abbrev s__law_seed : Stmt := top 52
abbrev s__law_pick : Stmt := top 53
abbrev s__law_world : Stmt := top 54
abbrev s__law_stand : Stmt := top 55
abbrev s__law_of_two : Stmt := top 56
abbrev s__law_refusal : Stmt := top 57
abbrev s_law : Stmt := top 58
structure Glb (mg : Str → Option Value) : Prop where
  b_len : mg (PySem.Str.ofString "len") = none
  b_range : mg (PySem.Str.ofString "range") = none
  b_int : mg (PySem.Str.ofString "int") = none
  b_tuple : mg (PySem.Str.ofString "tuple") = none
  b_sorted : mg (PySem.Str.ofString "sorted") = none
  b_set : mg (PySem.Str.ofString "set") = none
  b_list : mg (PySem.Str.ofString "list") = none
  b_isinstance : mg (PySem.Str.ofString "isinstance") = none
  b_bool : mg (PySem.Str.ofString "bool") = none
  b_zip : mg (PySem.Str.ofString "zip") = none
  b_str : mg (PySem.Str.ofString "str") = none
  b_enumerate : mg (PySem.Str.ofString "enumerate") = none
  b_max : mg (PySem.Str.ofString "max") = none
  b_sum : mg (PySem.Str.ofString "sum") = none
  b_dict : mg (PySem.Str.ofString "dict") = none
  c_MOST_CELLS : ∃ t, mg (PySem.Str.ofString "MOST_CELLS") = some (.int 12 t)
  c_MOST_JUMPS : ∃ t, mg (PySem.Str.ofString "MOST_JUMPS") = some (.int 16 t)
  c_MOST_STANDS : ∃ t, mg (PySem.Str.ofString "MOST_STANDS") = some (.int 80 t)
section
variable {P : Program} {w : World} {K : PySem.W.Frag} {mg : Str → Option Value} {base : Heap} {cv : Cv}
theorem sc_is_within : FnScope [(PySem.Str.ofString "thing"), (PySem.Str.ofString "low"), (PySem.Str.ofString "high")] [(PySem.Str.ofString "thing"), (PySem.Str.ofString "low"), (PySem.Str.ofString "high")] (defScope s_is_within) := ⟨rfl, rfl, rfl, by decide +kernel, rfl, by decide +kernel, by decide +kernel⟩
theorem ok_is_within {f : Addr} {fd : FuncData} (F : Fun K (PySem.Str.ofString "is_within") (PySem.Str.ofString "is_within") s_is_within f fd) (hm : mg (PySem.Str.ofString "is_within") = some (.ref f)) (b : Binds K fd [(PySem.Str.ofString "thing"), (PySem.Str.ofString "low"), (PySem.Str.ofString "high")] []) (G : Glb mg) : Ok P w K mg base 1 (PySem.Str.ofString "is_within") [(PySem.Str.ofString "thing"), (PySem.Str.ofString "low"), (PySem.Str.ofString "high")] (spD cv 3 d_is_within) := by
  have nd := sc_is_within.nd
  refine ⟨f, fd, hm, F.kp, b, ?_⟩
  refine F.okX sc_is_within (fun vs H Q E h => h.1) (fun cdv A outer s H vs Q E hr h => ?_)
  refine ⟨_, (pss_one (ps_ret (pe_and (pe_callB call_isi (by rfl) G.b_isinstance bt_isinstance (pa_cons (pv 0) (pa_cons (pe_bltn (v := .ty "int") (by rfl) G.b_int bt_int rfl) pa_nil))) (pe_and (pe_notT (pe_callB call_isi (by rfl) G.b_isinstance bt_isinstance (pa_cons (pv 0) (pa_cons (pe_bltn (v := .ty "bool") (by rfl) G.b_bool bt_bool rfl) pa_nil)))) (pe_one (pe_chain (op_leA) (op_leA) (pv 1) (pv 0) (pv 2))))))), ?_⟩
  exact body_of (N := [(PySem.Str.ofString "thing"), (PySem.Str.ofString "low"), (PySem.Str.ofString "high")]) (o := o_is_within) (by unfold o_is_within; exact (ss_ret (se_and (se_isi .int se_var) (se_and (se_notT (se_isi .bool se_var)) (se_chain ro_le ro_le se_var se_var se_var))))) h
theorem sc_is_jump : FnScope [(PySem.Str.ofString "many"), (PySem.Str.ofString "thing"), (PySem.Str.ofString "one")] [(PySem.Str.ofString "many"), (PySem.Str.ofString "thing")] (defScope s_is_jump) := ⟨rfl, rfl, rfl, by decide +kernel, rfl, by decide +kernel, by decide +kernel⟩
theorem ok_is_jump {f : Addr} {fd : FuncData} (F : Fun K (PySem.Str.ofString "is_jump") (PySem.Str.ofString "is_jump") s_is_jump f fd) (hm : mg (PySem.Str.ofString "is_jump") = some (.ref f)) (b : Binds K fd [(PySem.Str.ofString "many"), (PySem.Str.ofString "thing")] []) (G : Glb mg) (o_is_within : Ok P w K mg base 1 (PySem.Str.ofString "is_within") [(PySem.Str.ofString "thing"), (PySem.Str.ofString "low"), (PySem.Str.ofString "high")] (spD cv 3 d_is_within)) : Ok P w K mg base 2 (PySem.Str.ofString "is_jump") [(PySem.Str.ofString "many"), (PySem.Str.ofString "thing")] (spD cv 2 d_is_jump) := by
  have nd := sc_is_jump.nd
  refine ⟨f, fd, hm, F.kp, b, ?_⟩
  refine F.okX sc_is_jump (fun vs H Q E h => h.1) (fun cdv A outer s H vs Q E hr h => ?_)
  refine ⟨_, (pss_cons (ps_if (PW.pt (pw_or (pt_not (pt_tru (pe_callB call_isi (by rfl) G.b_isinstance bt_isinstance (pa_cons (pv 1) (pa_cons (pe_bltn (v := .ty "tuple") (by rfl) G.b_tuple bt_tuple rfl) pa_nil))))) (pw_or (pt_cmpR (op_neD (hu64 hr)) (pe_callB call_lenD (by rfl) G.b_len bt_len (pa_cons (pv 1) pa_nil)) pe_int (nomark _)) (pw_or1 (pt_tru (pe_lc (own := [((PySem.Str.ofString "one"), 2)]) (g := (gName 2)) (tt := (tNot (tTru K (tCallS (spD cv 3 d_is_within) (WE W0) (tCons (tVar 2) (tCons (tC (.int 0)) (tCons (tOp (rI0 fun i j => .int (i - j)) (tVar 0) (tC (.int 1))) tNil))))))) (te := (tVar 2)) (by rfl) nd (pi_any (pv 1)) (blkOk_by (own := [((PySem.Str.ofString "one"), 2)]) (N := [(PySem.Str.ofString "many"), (PySem.Str.ofString "thing"), (PySem.Str.ofString "one")]) (sc := defScope s_is_jump) (by decide +kernel)) (fun _ _ _ _ _ => (pg_name (i := 2) nd rfl (by first | exact Or.inl rfl | exact Or.inr rfl))) (fun _ _ _ _ _ => (pts_one (pt_not (pt_tru (pe_okc (W := W0) (sp := (spD cv 3 d_is_within)) (k := 1) (j := 1) (ps := [(PySem.Str.ofString "thing"), (PySem.Str.ofString "low"), (PySem.Str.ofString "high")]) (pa_cons (pv 2) (pa_cons pe_int (pa_cons (pe_op op_sub (pv 0) pe_int) pa_nil))) (o := by exact o_is_within) (hr := by exact hr)))))) (fun _ _ _ _ _ => (pv 2)))))))) (pss_one (ps_ret pe_bl)) pss_nil)
    (pss_one (ps_ret (pe_cmpR (op_eqD (hu64 hr)) (pe_lenSetT rfl (by rfl) G.b_len (by rfl) G.b_set (pv 1)) pe_int (nomark _))))), ?_⟩
  exact body_of (N := [(PySem.Str.ofString "many"), (PySem.Str.ofString "thing"), (PySem.Str.ofString "one")]) (o := o_is_jump) (by unfold o_is_jump; exact (ss_seq (ss_if (st_or (st_not (st_truD (se_isi .tuple se_var))) (st_or (st_tst (se_op ro_ne (se_cb rc_lenD (sa_cons se_var sa_nil)) se_int)) (st_truD (se_l (sl_lc (si_any se_var) sg_name (st_not (st_truD (se_call (sa_cons se_var (sa_cons se_int (sa_cons (se_op ro_sub se_var se_int) sa_nil)))))) se_var))))) (ss_ret se_bl) ss_next)
    (ss_ret (se_op ro_eq (se_lenSet se_var) se_int)))) h
theorem sc_is_world : FnScope [(PySem.Str.ofString "thing"), (PySem.Str.ofString "one"), (PySem.Str.ofString "other")] [(PySem.Str.ofString "thing")] (defScope s_is_world) := ⟨rfl, rfl, rfl, by decide +kernel, rfl, by decide +kernel, by decide +kernel⟩
theorem ok_is_world {f : Addr} {fd : FuncData} (F : Fun K (PySem.Str.ofString "is_world") (PySem.Str.ofString "is_world") s_is_world f fd) (hm : mg (PySem.Str.ofString "is_world") = some (.ref f)) (b : Binds K fd [(PySem.Str.ofString "thing")] []) (G : Glb mg) (o_is_within : Ok P w K mg base 1 (PySem.Str.ofString "is_within") [(PySem.Str.ofString "thing"), (PySem.Str.ofString "low"), (PySem.Str.ofString "high")] (spD cv 3 d_is_within)) (o_is_jump : Ok P w K mg base 2 (PySem.Str.ofString "is_jump") [(PySem.Str.ofString "many"), (PySem.Str.ofString "thing")] (spD cv 2 d_is_jump)) : Ok P w K mg base 3 (PySem.Str.ofString "is_world") [(PySem.Str.ofString "thing")] (spD cv 1 d_is_world) := by
  have nd := sc_is_world.nd
  refine ⟨f, fd, hm, F.kp, b, ?_⟩
  refine F.okX sc_is_world (fun vs H Q E h => h.1) (fun cdv A outer s H vs Q E hr h => ?_)
  refine ⟨_, (pss_cons (ps_if (PW.pt (pw_or (pt_not (pt_tru (pe_callB call_isi (by rfl) G.b_isinstance bt_isinstance (pa_cons (pv 0) (pa_cons (pe_bltn (v := .ty "tuple") (by rfl) G.b_tuple bt_tuple rfl) pa_nil))))) (pw_or (pt_cmpR (op_neD (hu64 hr)) (pe_callB call_lenD (by rfl) G.b_len bt_len (pa_cons (pv 0) pa_nil)) pe_int (nomark _)) (pw_or1 (pt_not (pt_tru (by exact pe_ok (W := (WD E)) o_is_within hr (by decide) (takes_of rfl rfl rfl rfl) (pa_cons (pe_ix ix_seq (pv 0) pe_int (fun _ _ => rfl)) (pa_cons pe_int (pa_cons (pe_glob (v := .int 12) (by rfl) (G.c_MOST_CELLS).choose_spec ⟨_, rfl⟩) pa_nil)))))))))) (pss_one (ps_ret pe_bl)) pss_nil)
    (pss_cons (ps_if (PW.pt (pw_or (pt_not (pt_tru (pe_callB call_isi (by rfl) G.b_isinstance bt_isinstance (pa_cons (pe_ix ix_seq (pv 0) pe_int (fun _ _ => rfl)) (pa_cons (pe_bltn (v := .ty "tuple") (by rfl) G.b_tuple bt_tuple rfl) pa_nil))))) (pw_or1 (pt_cmpR (op_gtA) (pe_callB call_lenD (by rfl) G.b_len bt_len (pa_cons (pe_ix ix_seq (pv 0) pe_int (fun _ _ => rfl)) pa_nil)) (pe_glob (v := .int 16) (by rfl) (G.c_MOST_JUMPS).choose_spec ⟨_, rfl⟩) (nomark _))))) (pss_one (ps_ret pe_bl)) pss_nil)
    (pss_cons (ps_if (pt_tru (pe_lc (own := [((PySem.Str.ofString "one"), 1)]) (g := (gName 1)) (tt := (tNot (tTru K (tCallS (spD cv 2 d_is_jump) (WE W0) (tCons (tOp (rIx K) (tVar 0) (tC (.int 0))) (tCons (tVar 1) tNil)))))) (te := (tVar 1)) (by rfl) nd (pi_any (pe_ix ix_seq (pv 0) pe_int (fun _ _ => rfl))) (blkOk_by (own := [((PySem.Str.ofString "one"), 1)]) (N := [(PySem.Str.ofString "thing"), (PySem.Str.ofString "one"), (PySem.Str.ofString "other")]) (sc := defScope s_is_world) (by decide +kernel)) (fun _ _ _ _ _ => (pg_name (i := 1) nd rfl (by first | exact Or.inl rfl | exact Or.inr rfl))) (fun _ _ _ _ _ => (pts_one (pt_not (pt_tru (pe_okc (W := W0) (sp := (spD cv 2 d_is_jump)) (k := 2) (j := 2) (ps := [(PySem.Str.ofString "many"), (PySem.Str.ofString "thing")]) (pa_cons (pe_ix ix_seq (pv 0) pe_int (fun _ _ => rfl)) (pa_cons (pv 1) pa_nil)) (o := by exact o_is_jump) (hr := by exact hr)))))) (fun _ _ _ _ _ => (pv 1)))) (pss_one (ps_ret pe_bl)) pss_nil)
    (pss_one (ps_ret (pe_notT (pe_lc (own := [((PySem.Str.ofString "one"), 1), ((PySem.Str.ofString "other"), 2)]) (g := (gAny K 2 (gCons (gName 1) (gCons (gName 2) gNil)))) (tt := (tTest (tOp (rGeA K) (tVar 1) (tVar 2)))) (te := (tC (.int 1))) (by rfl) nd (pi_zipX (by rfl) G.b_zip (pa_cons (pe_ix ix_seq (pv 0) pe_int (fun _ _ => rfl)) (pa_cons (pe_slice sl_any (pe_ix ix_seq (pv 0) pe_int (fun _ _ => rfl)) (po_some pe_int) po_none) pa_nil))) (blkOk_by (own := [((PySem.Str.ofString "one"), 1), ((PySem.Str.ofString "other"), 2)]) (N := [(PySem.Str.ofString "thing"), (PySem.Str.ofString "one"), (PySem.Str.ofString "other")]) (sc := defScope s_is_world) (by decide +kernel)) (fun _ _ _ _ _ => (pg_any (n := 2) rfl (pgs_cons (pg_name (i := 1) nd rfl (by first | exact Or.inl rfl | exact Or.inr rfl)) (pgs_cons (pg_name (i := 2) nd rfl (by first | exact Or.inl rfl | exact Or.inr rfl)) pgs_nil)))) (fun _ _ _ _ _ => (pts_one (pt_cmpR (op_geA (hu0 hr)) (pv 1) (pv 2) (nomark _)))) (fun _ _ _ _ _ => pe_int)))))))), ?_⟩
  exact body_of (N := [(PySem.Str.ofString "thing"), (PySem.Str.ofString "one"), (PySem.Str.ofString "other")]) (o := o_is_world) (by unfold o_is_world; exact (ss_seq (ss_if (st_or (st_not (st_truD (se_isi .tuple se_var))) (st_or (st_tst (se_op ro_ne (se_cb rc_lenD (sa_cons se_var sa_nil)) se_int)) (st_not (st_truD (se_call (sa_cons (se_op ro_ix se_var se_int) (sa_cons se_int (sa_cons se_int sa_nil)))))))) (ss_ret se_bl) ss_next)
    (ss_seq (ss_if (st_or (st_not (st_truD (se_isi .tuple (se_op ro_ix se_var se_int)))) (st_tst (se_op ro_gt (se_cb rc_lenD (sa_cons (se_op ro_ix se_var se_int) sa_nil)) se_int))) (ss_ret se_bl) ss_next)
    (ss_seq (ss_if (st_truD (se_l (sl_lc (si_any (se_op ro_ix se_var se_int)) sg_name (st_not (st_truD (se_call (sa_cons (se_op ro_ix se_var se_int) (sa_cons se_var sa_nil))))) se_var))) (ss_ret se_bl) ss_next)
    (ss_ret (se_notT (se_l (sl_lc (si_zip (sa_cons (se_op ro_ix se_var se_int) (sa_cons (se_sl (se_op ro_ix se_var se_int) (so_p se_int) so_no) sa_nil))) (sg_any (sgs_cons sg_name (sgs_cons sg_name sgs_nil))) (st_tst (se_op ro_ge se_var se_var)) se_int)))))))) h
theorem sc_look : FnScope [(PySem.Str.ofString "world")] [(PySem.Str.ofString "world")] (defScope s_look) := ⟨rfl, rfl, rfl, by decide +kernel, rfl, by decide +kernel, by decide +kernel⟩
theorem ok_look {f : Addr} {fd : FuncData} (F : Fun K (PySem.Str.ofString "look") (PySem.Str.ofString "look") s_look f fd) (hm : mg (PySem.Str.ofString "look") = some (.ref f)) (b : Binds K fd [(PySem.Str.ofString "world")] []) (G : Glb mg) (x_BadWorld : ExOk K mg cv (PySem.Str.ofString "BadWorld") .world) (o_is_world : Ok P w K mg base 3 (PySem.Str.ofString "is_world") [(PySem.Str.ofString "thing")] (spD cv 1 d_is_world)) : Ok P w K mg base 4 (PySem.Str.ofString "look") [(PySem.Str.ofString "world")] (spD cv 1 d_look) := by
  have nd := sc_look.nd
  refine ⟨f, fd, hm, F.kp, b, ?_⟩
  refine F.okX sc_look (fun vs H Q E h => h.1) (fun cdv A outer s H vs Q E hr h => ?_)
  refine ⟨_, (pss_one (ps_if (pt_not (pt_tru (by exact pe_ok (W := (WD E)) o_is_world hr (by decide) (takes_of rfl rfl rfl rfl) (pa_cons (pv 0) pa_nil)))) (pss_one (ps_refuse x_BadWorld rfl (takes_of rfl rfl rfl rfl))) pss_nil)), ?_⟩
  exact body_of (N := [(PySem.Str.ofString "world")]) (o := o_look) (by unfold o_look; exact (ss_if (st_not (st_truD (se_call (sa_cons se_var sa_nil)))) ss_raise ss_next)) h
theorem sc_is_stand : FnScope [(PySem.Str.ofString "world"), (PySem.Str.ofString "thing"), (PySem.Str.ofString "sign")] [(PySem.Str.ofString "world"), (PySem.Str.ofString "thing")] (defScope s_is_stand) := ⟨rfl, rfl, rfl, by decide +kernel, rfl, by decide +kernel, by decide +kernel⟩
theorem ok_is_stand {f : Addr} {fd : FuncData} (F : Fun K (PySem.Str.ofString "is_stand") (PySem.Str.ofString "is_stand") s_is_stand f fd) (hm : mg (PySem.Str.ofString "is_stand") = some (.ref f)) (b : Binds K fd [(PySem.Str.ofString "world"), (PySem.Str.ofString "thing")] []) (G : Glb mg) : Ok P w K mg base 1 (PySem.Str.ofString "is_stand") [(PySem.Str.ofString "world"), (PySem.Str.ofString "thing")] (spD cv 2 d_is_stand) := by
  have nd := sc_is_stand.nd
  refine ⟨f, fd, hm, F.kp, b, ?_⟩
  refine F.okX sc_is_stand (fun vs H Q E h => h.1) (fun cdv A outer s H vs Q E hr h => ?_)
  refine ⟨_, (pss_cons (ps_if (PW.pt (pw_or (pt_not (pt_tru (pe_callB call_isi (by rfl) G.b_isinstance bt_isinstance (pa_cons (pv 1) (pa_cons (pe_bltn (v := .ty "str") (by rfl) G.b_str bt_str rfl) pa_nil))))) (pw_or1 (pt_cmpR (op_neD (hu64 hr)) (pe_callB call_lenD (by rfl) G.b_len bt_len (pa_cons (pv 1) pa_nil)) (pe_ix ix_seq (pv 0) pe_int (fun _ _ => rfl)) (nomark _))))) (pss_one (ps_ret pe_bl)) pss_nil)
    (pss_one (ps_ret (pe_notT (pe_lc (own := [((PySem.Str.ofString "sign"), 2)]) (g := (gName 2)) (tt := (tTest (tOp (rNotInA K) (tVar 2) (tC (.str (PySem.Str.ofString "o.")))))) (te := (tVar 2)) (by rfl) nd (pi_any (pv 1)) (blkOk_by (own := [((PySem.Str.ofString "sign"), 2)]) (N := [(PySem.Str.ofString "world"), (PySem.Str.ofString "thing"), (PySem.Str.ofString "sign")]) (sc := defScope s_is_stand) (by decide +kernel)) (fun _ _ _ _ _ => (pg_name (i := 2) nd rfl (by first | exact Or.inl rfl | exact Or.inr rfl))) (fun _ _ _ _ _ => (pts_one (pt_cmpR (op_notInA (hu65 hr)) (pv 2) pe_str (by rfl)))) (fun _ _ _ _ _ => (pv 2))))))), ?_⟩
  exact body_of (N := [(PySem.Str.ofString "world"), (PySem.Str.ofString "thing"), (PySem.Str.ofString "sign")]) (o := o_is_stand) (by unfold o_is_stand; exact (ss_seq (ss_if (st_or (st_not (st_truD (se_isi .str se_var))) (st_tst (se_op ro_ne (se_cb rc_lenD (sa_cons se_var sa_nil)) (se_op ro_ix se_var se_int)))) (ss_ret se_bl) ss_next)
    (ss_ret (se_notT (se_l (sl_lc (si_any se_var) sg_name (st_tst (se_op ro_notIn se_var se_str)) se_var)))))) h
theorem sc_look_stand : FnScope [(PySem.Str.ofString "world"), (PySem.Str.ofString "stand")] [(PySem.Str.ofString "world"), (PySem.Str.ofString "stand")] (defScope s_look_stand) := ⟨rfl, rfl, rfl, by decide +kernel, rfl, by decide +kernel, by decide +kernel⟩
theorem ok_look_stand {f : Addr} {fd : FuncData} (F : Fun K (PySem.Str.ofString "look_stand") (PySem.Str.ofString "look_stand") s_look_stand f fd) (hm : mg (PySem.Str.ofString "look_stand") = some (.ref f)) (b : Binds K fd [(PySem.Str.ofString "world"), (PySem.Str.ofString "stand")] []) (G : Glb mg) (x_BadStand : ExOk K mg cv (PySem.Str.ofString "BadStand") .stand) (o_look : Ok P w K mg base 4 (PySem.Str.ofString "look") [(PySem.Str.ofString "world")] (spD cv 1 d_look)) (o_is_stand : Ok P w K mg base 1 (PySem.Str.ofString "is_stand") [(PySem.Str.ofString "world"), (PySem.Str.ofString "thing")] (spD cv 2 d_is_stand)) : Ok P w K mg base 5 (PySem.Str.ofString "look_stand") [(PySem.Str.ofString "world"), (PySem.Str.ofString "stand")] (spD cv 2 d_look_stand) := by
  have nd := sc_look_stand.nd
  refine ⟨f, fd, hm, F.kp, b, ?_⟩
  refine F.okX sc_look_stand (fun vs H Q E h => h.1) (fun cdv A outer s H vs Q E hr h => ?_)
  refine ⟨_, (pss_cons (ps_expr (by exact pe_ok (W := (WD E)) o_look hr (by decide) (takes_of rfl rfl rfl rfl) (pa_cons (pv 0) pa_nil)))
    (pss_one (ps_if (pt_not (pt_tru (by exact pe_ok (W := (WD E)) o_is_stand hr (by decide) (takes_of rfl rfl rfl rfl) (pa_cons (pv 0) (pa_cons (pv 1) pa_nil))))) (pss_one (ps_refuse x_BadStand rfl (takes_of rfl rfl rfl rfl))) pss_nil))), ?_⟩
  exact body_of (N := [(PySem.Str.ofString "world"), (PySem.Str.ofString "stand")]) (o := o_look_stand) (by unfold o_look_stand; exact (ss_seq (ss_drop (se_call (sa_cons se_var sa_nil)))
    (ss_if (st_not (st_truD (se_call (sa_cons se_var (sa_cons se_var sa_nil))))) ss_raise ss_next))) h
theorem sc_look_two : FnScope [(PySem.Str.ofString "world"), (PySem.Str.ofString "start"), (PySem.Str.ofString "goal")] [(PySem.Str.ofString "world"), (PySem.Str.ofString "start"), (PySem.Str.ofString "goal")] (defScope s_look_two) := ⟨rfl, rfl, rfl, by decide +kernel, rfl, by decide +kernel, by decide +kernel⟩
theorem ok_look_two {f : Addr} {fd : FuncData} (F : Fun K (PySem.Str.ofString "look_two") (PySem.Str.ofString "look_two") s_look_two f fd) (hm : mg (PySem.Str.ofString "look_two") = some (.ref f)) (b : Binds K fd [(PySem.Str.ofString "world"), (PySem.Str.ofString "start"), (PySem.Str.ofString "goal")] []) (G : Glb mg) (o_look_stand : Ok P w K mg base 5 (PySem.Str.ofString "look_stand") [(PySem.Str.ofString "world"), (PySem.Str.ofString "stand")] (spD cv 2 d_look_stand)) : Ok P w K mg base 6 (PySem.Str.ofString "look_two") [(PySem.Str.ofString "world"), (PySem.Str.ofString "start"), (PySem.Str.ofString "goal")] (spD cv 3 d_look_two) := by
  have nd := sc_look_two.nd
  refine ⟨f, fd, hm, F.kp, b, ?_⟩
  refine F.okX sc_look_two (fun vs H Q E h => h.1) (fun cdv A outer s H vs Q E hr h => ?_)
  refine ⟨_, (pss_cons (ps_expr (by exact pe_ok (W := (WD E)) o_look_stand hr (by decide) (takes_of rfl rfl rfl rfl) (pa_cons (pv 0) (pa_cons (pv 1) pa_nil))))
    (pss_one (ps_expr (by exact pe_ok (W := (WD E)) o_look_stand hr (by decide) (takes_of rfl rfl rfl rfl) (pa_cons (pv 0) (pa_cons (pv 2) pa_nil)))))), ?_⟩
  exact body_of (N := [(PySem.Str.ofString "world"), (PySem.Str.ofString "start"), (PySem.Str.ofString "goal")]) (o := o_look_two) (by unfold o_look_two; exact (ss_seq (ss_drop (se_call (sa_cons se_var (sa_cons se_var sa_nil))))
    (ss_drop (se_call (sa_cons se_var (sa_cons se_var sa_nil)))))) h
theorem sc_put : FnScope [(PySem.Str.ofString "stand"), (PySem.Str.ofString "jump"), (PySem.Str.ofString "signs"), (PySem.Str.ofString "row"), (PySem.Str.ofString "cell"), (PySem.Str.ofString "sign")] [(PySem.Str.ofString "stand"), (PySem.Str.ofString "jump"), (PySem.Str.ofString "signs")] (defScope s_put) := ⟨rfl, rfl, rfl, by decide +kernel, rfl, by decide +kernel, by decide +kernel⟩
theorem ok_put {f : Addr} {fd : FuncData} (F : Fun K (PySem.Str.ofString "put") (PySem.Str.ofString "put") s_put f fd) (hm : mg (PySem.Str.ofString "put") = some (.ref f)) (b : Binds K fd [(PySem.Str.ofString "stand"), (PySem.Str.ofString "jump"), (PySem.Str.ofString "signs")] []) (G : Glb mg) : Ok P w K mg base 1 (PySem.Str.ofString "put") [(PySem.Str.ofString "stand"), (PySem.Str.ofString "jump"), (PySem.Str.ofString "signs")] (spD cv 3 d_put) := by
  have nd := sc_put.nd
  refine ⟨f, fd, hm, F.kp, b, ?_⟩
  refine F.okX sc_put (fun vs H Q E h => h.1) (fun cdv A outer s H vs Q E hr h => ?_)
  refine ⟨_, (pss_cons (ps_set (i := 3) nd rfl (by first | exact Or.inl rfl | exact Or.inr rfl) (by exact (pe_callTy (call_listA rfl) (by rfl) G.b_list bt_list (pa_cons (pv 0) pa_nil))))
    (pss_cons (ps_for (passes_of rfl) rfl (pi_zipX (by rfl) G.b_zip (pa_cons (pv 1) (pa_cons (pv 2) pa_nil))) (pg_any (n := 2) rfl (pgs_cons (pg_name (i := 4) nd rfl (by first | exact Or.inl rfl | exact Or.inr rfl)) (pgs_cons (pg_name (i := 5) nd rfl (by first | exact Or.inl rfl | exact Or.inr rfl)) pgs_nil)))
    (pss_one (ps_asg (pv 5) (pg_sub (pv 3) (pv 4) set_list))))
    (pss_one (ps_ret (pe_bm PySem.F.plainAttrs_str PySem.F.slot_str_join PySem.F.type_str_join mt_joinD pe_str (pa_cons (pv 3) pa_nil)))))), ?_⟩
  exact body_of (N := [(PySem.Str.ofString "stand"), (PySem.Str.ofString "jump"), (PySem.Str.ofString "signs"), (PySem.Str.ofString "row"), (PySem.Str.ofString "cell"), (PySem.Str.ofString "sign")]) (o := o_put) (by unfold o_put; exact (ss_seq (ss_setL (sl_listOf (sa_cons se_var sa_nil)))
    (ss_seq (ss_for [4, 5] (si_zip (sa_cons se_var (sa_cons se_var sa_nil))) (sg_any (sgs_cons sg_name (sgs_cons sg_name sgs_nil)))
    (ss_asg se_var (sg_sub (cv := cv) se_var)))
    (ss_frz [3] (ss_ret (se_bmS rm_joinD se_str (sa_cons se_var sa_nil))))))) h
theorem sc_has : FnScope [(PySem.Str.ofString "stand"), (PySem.Str.ofString "jump"), (PySem.Str.ofString "signs"), (PySem.Str.ofString "cell")] [(PySem.Str.ofString "stand"), (PySem.Str.ofString "jump"), (PySem.Str.ofString "signs")] (defScope s_has) := ⟨rfl, rfl, rfl, by decide +kernel, rfl, by decide +kernel, by decide +kernel⟩
theorem ok_has {f : Addr} {fd : FuncData} (F : Fun K (PySem.Str.ofString "has") (PySem.Str.ofString "has") s_has f fd) (hm : mg (PySem.Str.ofString "has") = some (.ref f)) (b : Binds K fd [(PySem.Str.ofString "stand"), (PySem.Str.ofString "jump"), (PySem.Str.ofString "signs")] []) (G : Glb mg) : Ok P w K mg base 1 (PySem.Str.ofString "has") [(PySem.Str.ofString "stand"), (PySem.Str.ofString "jump"), (PySem.Str.ofString "signs")] (spD cv 3 d_has) := by
  have nd := sc_has.nd
  refine ⟨f, fd, hm, F.kp, b, ?_⟩
  refine F.okX sc_has (fun vs H Q E h => h.1) (fun cdv A outer s H vs Q E hr h => ?_)
  refine ⟨_, (pss_one (ps_ret (pe_cmpR (op_eqD (hu64 hr)) (pe_lc (own := [((PySem.Str.ofString "cell"), 3)]) (g := (gName 3)) (tt := tYes) (te := (tOp (rIx K) (tVar 0) (tVar 3))) (by rfl) nd (pi_any (pv 1)) (blkOk_by (own := [((PySem.Str.ofString "cell"), 3)]) (N := [(PySem.Str.ofString "stand"), (PySem.Str.ofString "jump"), (PySem.Str.ofString "signs"), (PySem.Str.ofString "cell")]) (sc := defScope s_has) (by decide +kernel)) (fun _ _ _ _ _ => (pg_name (i := 3) nd rfl (by first | exact Or.inl rfl | exact Or.inr rfl))) (fun _ _ _ _ _ => pts_nil) (fun _ _ _ _ _ => (pe_ix ix_seq (pv 0) (pv 3) (fun _ _ => rfl)))) (pe_callTy (call_listA rfl) (by rfl) G.b_list bt_list (pa_cons (pv 2) pa_nil)) (nomark _)))), ?_⟩
  exact body_of (N := [(PySem.Str.ofString "stand"), (PySem.Str.ofString "jump"), (PySem.Str.ofString "signs"), (PySem.Str.ofString "cell")]) (o := o_has) (by unfold o_has; exact (ss_ret (se_op ro_eq (se_l (sl_lc (si_any se_var) sg_name st_yes (se_op ro_ix se_var se_var))) (se_l (sl_listOf (sa_cons se_var sa_nil)))))) h
theorem sc_moves_of : FnScope [(PySem.Str.ofString "world"), (PySem.Str.ofString "stand"), (PySem.Str.ofString "found"), (PySem.Str.ofString "number"), (PySem.Str.ofString "jump")] [(PySem.Str.ofString "world"), (PySem.Str.ofString "stand")] (defScope s_moves_of) := ⟨rfl, rfl, rfl, by decide +kernel, rfl, by decide +kernel, by decide +kernel⟩
theorem ok_moves_of {f : Addr} {fd : FuncData} (F : Fun K (PySem.Str.ofString "moves_of") (PySem.Str.ofString "moves_of") s_moves_of f fd) (hm : mg (PySem.Str.ofString "moves_of") = some (.ref f)) (b : Binds K fd [(PySem.Str.ofString "world"), (PySem.Str.ofString "stand")] []) (G : Glb mg) (o_has : Ok P w K mg base 1 (PySem.Str.ofString "has") [(PySem.Str.ofString "stand"), (PySem.Str.ofString "jump"), (PySem.Str.ofString "signs")] (spD cv 3 d_has)) (o_put : Ok P w K mg base 1 (PySem.Str.ofString "put") [(PySem.Str.ofString "stand"), (PySem.Str.ofString "jump"), (PySem.Str.ofString "signs")] (spD cv 3 d_put)) : Ok P w K mg base 2 (PySem.Str.ofString "moves_of") [(PySem.Str.ofString "world"), (PySem.Str.ofString "stand")] (spD cv 2 d_moves_of) := by
  have nd := sc_moves_of.nd
  refine ⟨f, fd, hm, F.kp, b, ?_⟩
  refine F.okX sc_moves_of (fun vs H Q E h => h.1) (fun cdv A outer s H vs Q E hr h => ?_)
  refine ⟨_, (pss_cons (ps_set (i := 2) nd rfl (by first | exact Or.inl rfl | exact Or.inr rfl) (by exact (pe_lst pa_nil)))
    (pss_cons (ps_for (passes_of rfl) rfl (pi_enumX (by rfl) G.b_enumerate (pa_cons (pe_ix ix_seq (pv 0) pe_int (fun _ _ => rfl)) pa_nil)) (pg_any (n := 2) rfl (pgs_cons (pg_name (i := 3) nd rfl (by first | exact Or.inl rfl | exact Or.inr rfl)) (pgs_cons (pg_name (i := 4) nd rfl (by first | exact Or.inl rfl | exact Or.inr rfl)) pgs_nil)))
    (pss_one (ps_if (pt_tru (by exact pe_ok (W := (WD E)) o_has hr (by decide) (takes_of rfl rfl rfl rfl) (pa_cons (pv 1) (pa_cons (pv 4) (pa_cons pe_str pa_nil))))) (pss_one (ps_expr (pe_bm PySem.F.plainAttrs_list PySem.F.slot_list_append PySem.F.type_list_append mt_append (pv 2) (pa_cons (pe_tup (pa_cons (pv 3) (pa_cons (by exact pe_ok (W := (WD E)) o_put hr (by decide) (takes_of rfl rfl rfl rfl) (pa_cons (pv 1) (pa_cons (pv 4) (pa_cons pe_str pa_nil)))) pa_nil))) pa_nil)))) pss_nil)))
    (pss_one (ps_ret (pv 2))))), ?_⟩
  exact body_of (N := [(PySem.Str.ofString "world"), (PySem.Str.ofString "stand"), (PySem.Str.ofString "found"), (PySem.Str.ofString "number"), (PySem.Str.ofString "jump")]) (o := o_moves_of) (by unfold o_moves_of; exact (ss_seq (ss_setL (sl_lst sa_nil))
    (ss_seq (ss_for [3, 4] (si_enum (sa_cons (se_op ro_ix se_var se_int) sa_nil)) (sg_any (sgs_cons sg_name (sgs_cons sg_name sgs_nil)))
    (ss_if (st_truD (se_call (sa_cons se_var (sa_cons se_var (sa_cons se_str sa_nil))))) (ss_app (se_tup (sa_cons se_var (sa_cons (se_call (sa_cons se_var (sa_cons se_var (sa_cons se_str sa_nil)))) sa_nil)))) ss_next))
    (ss_frz [2] (ss_ret se_var))))) h
theorem sc_back_of : FnScope [(PySem.Str.ofString "world"), (PySem.Str.ofString "stand"), (PySem.Str.ofString "found"), (PySem.Str.ofString "number"), (PySem.Str.ofString "jump")] [(PySem.Str.ofString "world"), (PySem.Str.ofString "stand")] (defScope s_back_of) := ⟨rfl, rfl, rfl, by decide +kernel, rfl, by decide +kernel, by decide +kernel⟩
theorem ok_back_of {f : Addr} {fd : FuncData} (F : Fun K (PySem.Str.ofString "back_of") (PySem.Str.ofString "back_of") s_back_of f fd) (hm : mg (PySem.Str.ofString "back_of") = some (.ref f)) (b : Binds K fd [(PySem.Str.ofString "world"), (PySem.Str.ofString "stand")] []) (G : Glb mg) (o_has : Ok P w K mg base 1 (PySem.Str.ofString "has") [(PySem.Str.ofString "stand"), (PySem.Str.ofString "jump"), (PySem.Str.ofString "signs")] (spD cv 3 d_has)) (o_put : Ok P w K mg base 1 (PySem.Str.ofString "put") [(PySem.Str.ofString "stand"), (PySem.Str.ofString "jump"), (PySem.Str.ofString "signs")] (spD cv 3 d_put)) : Ok P w K mg base 2 (PySem.Str.ofString "back_of") [(PySem.Str.ofString "world"), (PySem.Str.ofString "stand")] (spD cv 2 d_back_of) := by
  have nd := sc_back_of.nd
  refine ⟨f, fd, hm, F.kp, b, ?_⟩
  refine F.okX sc_back_of (fun vs H Q E h => h.1) (fun cdv A outer s H vs Q E hr h => ?_)
  refine ⟨_, (pss_cons (ps_set (i := 2) nd rfl (by first | exact Or.inl rfl | exact Or.inr rfl) (by exact (pe_lst pa_nil)))
    (pss_cons (ps_for (passes_of rfl) rfl (pi_enumX (by rfl) G.b_enumerate (pa_cons (pe_ix ix_seq (pv 0) pe_int (fun _ _ => rfl)) pa_nil)) (pg_any (n := 2) rfl (pgs_cons (pg_name (i := 3) nd rfl (by first | exact Or.inl rfl | exact Or.inr rfl)) (pgs_cons (pg_name (i := 4) nd rfl (by first | exact Or.inl rfl | exact Or.inr rfl)) pgs_nil)))
    (pss_one (ps_if (pt_tru (by exact pe_ok (W := (WD E)) o_has hr (by decide) (takes_of rfl rfl rfl rfl) (pa_cons (pv 1) (pa_cons (pv 4) (pa_cons pe_str pa_nil))))) (pss_one (ps_expr (pe_bm PySem.F.plainAttrs_list PySem.F.slot_list_append PySem.F.type_list_append mt_append (pv 2) (pa_cons (pe_tup (pa_cons (pv 3) (pa_cons (by exact pe_ok (W := (WD E)) o_put hr (by decide) (takes_of rfl rfl rfl rfl) (pa_cons (pv 1) (pa_cons (pv 4) (pa_cons pe_str pa_nil)))) pa_nil))) pa_nil)))) pss_nil)))
    (pss_one (ps_ret (pv 2))))), ?_⟩
  exact body_of (N := [(PySem.Str.ofString "world"), (PySem.Str.ofString "stand"), (PySem.Str.ofString "found"), (PySem.Str.ofString "number"), (PySem.Str.ofString "jump")]) (o := o_back_of) (by unfold o_back_of; exact (ss_seq (ss_setL (sl_lst sa_nil))
    (ss_seq (ss_for [3, 4] (si_enum (sa_cons (se_op ro_ix se_var se_int) sa_nil)) (sg_any (sgs_cons sg_name (sgs_cons sg_name sgs_nil)))
    (ss_if (st_truD (se_call (sa_cons se_var (sa_cons se_var (sa_cons se_str sa_nil))))) (ss_app (se_tup (sa_cons se_var (sa_cons (se_call (sa_cons se_var (sa_cons se_var (sa_cons se_str sa_nil)))) sa_nil)))) ss_next))
    (ss_frz [2] (ss_ret se_var))))) h
theorem sc_all_from : FnScope [(PySem.Str.ofString "world"), (PySem.Str.ofString "stand"), (PySem.Str.ofString "found"), (PySem.Str.ofString "row"), (PySem.Str.ofString "at"), (PySem.Str.ofString "number"), (PySem.Str.ofString "other")] [(PySem.Str.ofString "world"), (PySem.Str.ofString "stand")] (defScope s_all_from) := ⟨rfl, rfl, rfl, by decide +kernel, rfl, by decide +kernel, by decide +kernel⟩
theorem ok_all_from {f : Addr} {fd : FuncData} (F : Fun K (PySem.Str.ofString "all_from") (PySem.Str.ofString "all_from") s_all_from f fd) (hm : mg (PySem.Str.ofString "all_from") = some (.ref f)) (b : Binds K fd [(PySem.Str.ofString "world"), (PySem.Str.ofString "stand")] []) (G : Glb mg) (x_TooMany : ExOk K mg cv (PySem.Str.ofString "TooMany") .many) (o_moves_of : Ok P w K mg base 2 (PySem.Str.ofString "moves_of") [(PySem.Str.ofString "world"), (PySem.Str.ofString "stand")] (spD cv 2 d_moves_of)) : Ok P w K mg base 3 (PySem.Str.ofString "all_from") [(PySem.Str.ofString "world"), (PySem.Str.ofString "stand")] (spK cv 2 d_all_from) := by
  have nd := sc_all_from.nd
  refine ⟨f, fd, hm, F.kp, b, ?_⟩
  refine F.okX sc_all_from (fun vs H Q E h => h.1) (fun cdv A outer s H vs Q E hr h => ?_)
  refine ⟨_, (pss_cons (ps_set (i := 2) nd rfl (by first | exact Or.inl rfl | exact Or.inr rfl) (by exact (pe_disp (pps_cons (pv 1) pe_bl pps_nil) (by rfl) (by rfl) (by simp) (by decide))))
    (pss_cons (ps_set (i := 3) nd rfl (by first | exact Or.inl rfl | exact Or.inr rfl) (by exact (pe_lst (pa_cons (pv 1) pa_nil))))
    (pss_cons (ps_set (i := 4) nd rfl (by first | exact Or.inl rfl | exact Or.inr rfl) (by exact pe_int))
    (pss_cons (ps_while (passes_of rfl) (pt_cmpR (op_ltA) (pv 4) (pe_callB call_lenD (by rfl) G.b_len bt_len (pa_cons (pv 3) pa_nil)) (nomark _)) (pss_cons (ps_for (passes_of rfl) rfl (pi_any (by exact pe_ok (W := (WD E)) o_moves_of hr (by decide) (takes_of rfl rfl rfl rfl) (pa_cons (pv 0) (pa_cons (pe_ix ix_seq (pv 3) (pv 4) (fun _ _ => rfl)) pa_nil)))) (pg_any (n := 2) rfl (pgs_cons (pg_name (i := 5) nd rfl (by first | exact Or.inl rfl | exact Or.inr rfl)) (pgs_cons (pg_name (i := 6) nd rfl (by first | exact Or.inl rfl | exact Or.inr rfl)) pgs_nil)))
    (pss_one (ps_if (pt_cmp (pc_dnotin (hu1 hr) (pv 6) (pv 2))) (pss_cons (ps_dput (hu1 hr) (pv 2) (pv 6) pe_bl (by rfl))
    (pss_one (ps_expr (pe_bm PySem.F.plainAttrs_list PySem.F.slot_list_append PySem.F.type_list_append mt_append (pv 3) (pa_cons (pv 6) pa_nil))))) pss_nil)))
    (pss_cons (ps_aug (i := 4) nd rfl (by first | exact Or.inl rfl | exact Or.inr rfl) pe_int ip_add)
    (pss_one (ps_if (pt_cmpR (op_gtA) (pe_callB call_lenD (by rfl) G.b_len bt_len (pa_cons (pv 3) pa_nil)) (pe_glob (v := .int 80) (by rfl) (G.c_MOST_STANDS).choose_spec ⟨_, rfl⟩) (nomark _)) (pss_one (ps_refuse x_TooMany rfl (takes_of rfl rfl rfl rfl))) pss_nil)))))
    (pss_one (ps_ret (pv 2))))))), ?_⟩
  exact body_ofK (N := [(PySem.Str.ofString "world"), (PySem.Str.ofString "stand"), (PySem.Str.ofString "found"), (PySem.Str.ofString "row"), (PySem.Str.ofString "at"), (PySem.Str.ofString "number"), (PySem.Str.ofString "other")]) (o := o_all_from) (by unfold o_all_from; exact (ss_seq (ss_setK (sk_disp (.cons se_var se_bl .nil)))
    (ss_seq (ss_setL (sl_lst (sa_cons se_var sa_nil)))
    (ss_seq (ss_set se_int)
    (ss_seq (ss_while [5, 6] 20000 (st_lend [3] (st_tst (se_op ro_lt se_var (se_cb rc_lenD (sa_cons se_var sa_nil))))) (ss_seq (ss_for [5, 6] (si_any (se_call (sa_cons se_var (sa_cons (se_lend [3] (se_op ro_ix se_var se_var)) sa_nil)))) (sg_any (sgs_cons sg_name (sgs_cons sg_name sgs_nil)))
    (ss_if (st_tb (se_dinO (neg := true) rfl se_var)) (ss_seq (ss_put se_var se_bl)
    (ss_app se_var)) ss_next))
    (ss_seq (ss_aug ro_addI se_int)
    (ss_if (st_lend [3] (st_tst (se_op ro_gt (se_cb rc_lenD (sa_cons se_var sa_nil)) se_int))) ss_raise ss_next))))
    ss_retO))))) h
theorem sc_all_to : FnScope [(PySem.Str.ofString "world"), (PySem.Str.ofString "stand"), (PySem.Str.ofString "found"), (PySem.Str.ofString "row"), (PySem.Str.ofString "at"), (PySem.Str.ofString "number"), (PySem.Str.ofString "other")] [(PySem.Str.ofString "world"), (PySem.Str.ofString "stand")] (defScope s_all_to) := ⟨rfl, rfl, rfl, by decide +kernel, rfl, by decide +kernel, by decide +kernel⟩
theorem ok_all_to {f : Addr} {fd : FuncData} (F : Fun K (PySem.Str.ofString "all_to") (PySem.Str.ofString "all_to") s_all_to f fd) (hm : mg (PySem.Str.ofString "all_to") = some (.ref f)) (b : Binds K fd [(PySem.Str.ofString "world"), (PySem.Str.ofString "stand")] []) (G : Glb mg) (x_TooMany : ExOk K mg cv (PySem.Str.ofString "TooMany") .many) (o_back_of : Ok P w K mg base 2 (PySem.Str.ofString "back_of") [(PySem.Str.ofString "world"), (PySem.Str.ofString "stand")] (spD cv 2 d_back_of)) : Ok P w K mg base 3 (PySem.Str.ofString "all_to") [(PySem.Str.ofString "world"), (PySem.Str.ofString "stand")] (spK cv 2 d_all_to) := by
  have nd := sc_all_to.nd
  refine ⟨f, fd, hm, F.kp, b, ?_⟩
  refine F.okX sc_all_to (fun vs H Q E h => h.1) (fun cdv A outer s H vs Q E hr h => ?_)
  refine ⟨_, (pss_cons (ps_set (i := 2) nd rfl (by first | exact Or.inl rfl | exact Or.inr rfl) (by exact (pe_disp (pps_cons (pv 1) pe_bl pps_nil) (by rfl) (by rfl) (by simp) (by decide))))
    (pss_cons (ps_set (i := 3) nd rfl (by first | exact Or.inl rfl | exact Or.inr rfl) (by exact (pe_lst (pa_cons (pv 1) pa_nil))))
    (pss_cons (ps_set (i := 4) nd rfl (by first | exact Or.inl rfl | exact Or.inr rfl) (by exact pe_int))
    (pss_cons (ps_while (passes_of rfl) (pt_cmpR (op_ltA) (pv 4) (pe_callB call_lenD (by rfl) G.b_len bt_len (pa_cons (pv 3) pa_nil)) (nomark _)) (pss_cons (ps_for (passes_of rfl) rfl (pi_any (by exact pe_ok (W := (WD E)) o_back_of hr (by decide) (takes_of rfl rfl rfl rfl) (pa_cons (pv 0) (pa_cons (pe_ix ix_seq (pv 3) (pv 4) (fun _ _ => rfl)) pa_nil)))) (pg_any (n := 2) rfl (pgs_cons (pg_name (i := 5) nd rfl (by first | exact Or.inl rfl | exact Or.inr rfl)) (pgs_cons (pg_name (i := 6) nd rfl (by first | exact Or.inl rfl | exact Or.inr rfl)) pgs_nil)))
    (pss_one (ps_if (pt_cmp (pc_dnotin (hu1 hr) (pv 6) (pv 2))) (pss_cons (ps_dput (hu1 hr) (pv 2) (pv 6) pe_bl (by rfl))
    (pss_one (ps_expr (pe_bm PySem.F.plainAttrs_list PySem.F.slot_list_append PySem.F.type_list_append mt_append (pv 3) (pa_cons (pv 6) pa_nil))))) pss_nil)))
    (pss_cons (ps_aug (i := 4) nd rfl (by first | exact Or.inl rfl | exact Or.inr rfl) pe_int ip_add)
    (pss_one (ps_if (pt_cmpR (op_gtA) (pe_callB call_lenD (by rfl) G.b_len bt_len (pa_cons (pv 3) pa_nil)) (pe_glob (v := .int 80) (by rfl) (G.c_MOST_STANDS).choose_spec ⟨_, rfl⟩) (nomark _)) (pss_one (ps_refuse x_TooMany rfl (takes_of rfl rfl rfl rfl))) pss_nil)))))
    (pss_one (ps_ret (pv 2))))))), ?_⟩
  exact body_ofK (N := [(PySem.Str.ofString "world"), (PySem.Str.ofString "stand"), (PySem.Str.ofString "found"), (PySem.Str.ofString "row"), (PySem.Str.ofString "at"), (PySem.Str.ofString "number"), (PySem.Str.ofString "other")]) (o := o_all_to) (by unfold o_all_to; exact (ss_seq (ss_setK (sk_disp (.cons se_var se_bl .nil)))
    (ss_seq (ss_setL (sl_lst (sa_cons se_var sa_nil)))
    (ss_seq (ss_set se_int)
    (ss_seq (ss_while [5, 6] 20000 (st_lend [3] (st_tst (se_op ro_lt se_var (se_cb rc_lenD (sa_cons se_var sa_nil))))) (ss_seq (ss_for [5, 6] (si_any (se_call (sa_cons se_var (sa_cons (se_lend [3] (se_op ro_ix se_var se_var)) sa_nil)))) (sg_any (sgs_cons sg_name (sgs_cons sg_name sgs_nil)))
    (ss_if (st_tb (se_dinO (neg := true) rfl se_var)) (ss_seq (ss_put se_var se_bl)
    (ss_app se_var)) ss_next))
    (ss_seq (ss_aug ro_addI se_int)
    (ss_if (st_lend [3] (st_tst (se_op ro_gt (se_cb rc_lenD (sa_cons se_var sa_nil)) se_int))) ss_raise ss_next))))
    ss_retO))))) h
theorem sc_reached : FnScope [(PySem.Str.ofString "world"), (PySem.Str.ofString "stand")] [(PySem.Str.ofString "world"), (PySem.Str.ofString "stand")] (defScope s_reached) := ⟨rfl, rfl, rfl, by decide +kernel, rfl, by decide +kernel, by decide +kernel⟩
theorem ok_reached {f : Addr} {fd : FuncData} (F : Fun K (PySem.Str.ofString "reached") (PySem.Str.ofString "reached") s_reached f fd) (hm : mg (PySem.Str.ofString "reached") = some (.ref f)) (b : Binds K fd [(PySem.Str.ofString "world"), (PySem.Str.ofString "stand")] []) (G : Glb mg) (o_look_stand : Ok P w K mg base 5 (PySem.Str.ofString "look_stand") [(PySem.Str.ofString "world"), (PySem.Str.ofString "stand")] (spD cv 2 d_look_stand)) (o_all_from : Ok P w K mg base 3 (PySem.Str.ofString "all_from") [(PySem.Str.ofString "world"), (PySem.Str.ofString "stand")] (spK cv 2 d_all_from)) : Ok P w K mg base 6 (PySem.Str.ofString "reached") [(PySem.Str.ofString "world"), (PySem.Str.ofString "stand")] (spD cv 2 d_reached) := by
  have nd := sc_reached.nd
  refine ⟨f, fd, hm, F.kp, b, ?_⟩
  refine F.okX sc_reached (fun vs H Q E h => h.1) (fun cdv A outer s H vs Q E hr h => ?_)
  refine ⟨_, (pss_cons (ps_expr (by exact pe_ok (W := (WD E)) o_look_stand hr (by decide) (takes_of rfl rfl rfl rfl) (pa_cons (pv 0) (pa_cons (pv 1) pa_nil))))
    (pss_one (ps_ret (pe_callB (cr_sortedDX rfl) (by rfl) G.b_sorted bt_sorted (pa_cons (by exact pe_ok (W := (WD E)) o_all_from hr (by decide) (takes_of rfl rfl rfl rfl) (pa_cons (pv 0) (pa_cons (pv 1) pa_nil))) pa_nil))))), ?_⟩
  exact body_of (N := [(PySem.Str.ofString "world"), (PySem.Str.ofString "stand")]) (o := o_reached) (by unfold o_reached; exact (ss_seq (ss_drop (se_call (sa_cons se_var (sa_cons se_var sa_nil))))
    (ss_ret (se_l (sl_sortX (sk_call (sa_cons se_var (sa_cons se_var sa_nil)))))))) h
theorem sc_leading : FnScope [(PySem.Str.ofString "world"), (PySem.Str.ofString "stand")] [(PySem.Str.ofString "world"), (PySem.Str.ofString "stand")] (defScope s_leading) := ⟨rfl, rfl, rfl, by decide +kernel, rfl, by decide +kernel, by decide +kernel⟩
theorem ok_leading {f : Addr} {fd : FuncData} (F : Fun K (PySem.Str.ofString "leading") (PySem.Str.ofString "leading") s_leading f fd) (hm : mg (PySem.Str.ofString "leading") = some (.ref f)) (b : Binds K fd [(PySem.Str.ofString "world"), (PySem.Str.ofString "stand")] []) (G : Glb mg) (o_look_stand : Ok P w K mg base 5 (PySem.Str.ofString "look_stand") [(PySem.Str.ofString "world"), (PySem.Str.ofString "stand")] (spD cv 2 d_look_stand)) (o_all_to : Ok P w K mg base 3 (PySem.Str.ofString "all_to") [(PySem.Str.ofString "world"), (PySem.Str.ofString "stand")] (spK cv 2 d_all_to)) : Ok P w K mg base 6 (PySem.Str.ofString "leading") [(PySem.Str.ofString "world"), (PySem.Str.ofString "stand")] (spD cv 2 d_leading) := by
  have nd := sc_leading.nd
  refine ⟨f, fd, hm, F.kp, b, ?_⟩
  refine F.okX sc_leading (fun vs H Q E h => h.1) (fun cdv A outer s H vs Q E hr h => ?_)
  refine ⟨_, (pss_cons (ps_expr (by exact pe_ok (W := (WD E)) o_look_stand hr (by decide) (takes_of rfl rfl rfl rfl) (pa_cons (pv 0) (pa_cons (pv 1) pa_nil))))
    (pss_one (ps_ret (pe_callB (cr_sortedDX rfl) (by rfl) G.b_sorted bt_sorted (pa_cons (by exact pe_ok (W := (WD E)) o_all_to hr (by decide) (takes_of rfl rfl rfl rfl) (pa_cons (pv 0) (pa_cons (pv 1) pa_nil))) pa_nil))))), ?_⟩
  exact body_of (N := [(PySem.Str.ofString "world"), (PySem.Str.ofString "stand")]) (o := o_leading) (by unfold o_leading; exact (ss_seq (ss_drop (se_call (sa_cons se_var (sa_cons se_var sa_nil))))
    (ss_ret (se_l (sl_sortX (sk_call (sa_cons se_var (sa_cons se_var sa_nil)))))))) h
theorem sc_ends : FnScope [(PySem.Str.ofString "world"), (PySem.Str.ofString "stand"), (PySem.Str.ofString "one")] [(PySem.Str.ofString "world"), (PySem.Str.ofString "stand")] (defScope s_ends) := ⟨rfl, rfl, rfl, by decide +kernel, rfl, by decide +kernel, by decide +kernel⟩
theorem ok_ends {f : Addr} {fd : FuncData} (F : Fun K (PySem.Str.ofString "ends") (PySem.Str.ofString "ends") s_ends f fd) (hm : mg (PySem.Str.ofString "ends") = some (.ref f)) (b : Binds K fd [(PySem.Str.ofString "world"), (PySem.Str.ofString "stand")] []) (G : Glb mg) (o_look_stand : Ok P w K mg base 5 (PySem.Str.ofString "look_stand") [(PySem.Str.ofString "world"), (PySem.Str.ofString "stand")] (spD cv 2 d_look_stand)) (o_all_from : Ok P w K mg base 3 (PySem.Str.ofString "all_from") [(PySem.Str.ofString "world"), (PySem.Str.ofString "stand")] (spK cv 2 d_all_from)) (o_moves_of : Ok P w K mg base 2 (PySem.Str.ofString "moves_of") [(PySem.Str.ofString "world"), (PySem.Str.ofString "stand")] (spD cv 2 d_moves_of)) : Ok P w K mg base 6 (PySem.Str.ofString "ends") [(PySem.Str.ofString "world"), (PySem.Str.ofString "stand")] (spD cv 2 d_ends) := by
  have nd := sc_ends.nd
  refine ⟨f, fd, hm, F.kp, b, ?_⟩
  refine F.okX sc_ends (fun vs H Q E h => h.1) (fun cdv A outer s H vs Q E hr h => ?_)
  refine ⟨_, (pss_cons (ps_expr (by exact pe_ok (W := (WD E)) o_look_stand hr (by decide) (takes_of rfl rfl rfl rfl) (pa_cons (pv 0) (pa_cons (pv 1) pa_nil))))
    (pss_one (ps_ret (pe_callB (cr_sortedD rfl) (by rfl) G.b_sorted bt_sorted (pa_cons (pe_lc (own := [((PySem.Str.ofString "one"), 2)]) (g := (gName 2)) (tt := (tNot (tTru K (tCallS (spD cv 2 d_moves_of) (WE W0) (tCons (tVar 0) (tCons (tVar 2) tNil)))))) (te := (tVar 2)) (by rfl) nd (pi_keysM (pe_lockV (by exact pe_ok (W := (WD E)) o_all_from hr (by decide) (takes_of rfl rfl rfl rfl) (pa_cons (pv 0) (pa_cons (pv 1) pa_nil))))) (blkOk_by (own := [((PySem.Str.ofString "one"), 2)]) (N := [(PySem.Str.ofString "world"), (PySem.Str.ofString "stand"), (PySem.Str.ofString "one")]) (sc := defScope s_ends) (by decide +kernel)) (fun _ _ _ _ _ => (pg_name (i := 2) nd rfl (by first | exact Or.inl rfl | exact Or.inr rfl))) (fun _ _ _ _ _ => (pts_one (pt_not (pt_tru (pe_okc (W := W0) (sp := (spD cv 2 d_moves_of)) (k := 2) (j := 5) (ps := [(PySem.Str.ofString "world"), (PySem.Str.ofString "stand")]) (pa_cons (pv 0) (pa_cons (pv 2) pa_nil)) (o := by exact o_moves_of) (hr := by exact hr)))))) (fun _ _ _ _ _ => (pv 2))) pa_nil))))), ?_⟩
  exact body_of (N := [(PySem.Str.ofString "world"), (PySem.Str.ofString "stand"), (PySem.Str.ofString "one")]) (o := o_ends) (by unfold o_ends; exact (ss_seq (ss_drop (se_call (sa_cons se_var (sa_cons se_var sa_nil))))
    (ss_ret (se_l (sl_sort (se_l (sl_lc (si_keysL (kl_lock (sk_call (sa_cons se_var (sa_cons se_var sa_nil))))) sg_name (st_not (st_truD (se_call (sa_cons se_var (sa_cons se_var sa_nil))))) se_var))))))) h
theorem sc_can_come : FnScope [(PySem.Str.ofString "world"), (PySem.Str.ofString "start"), (PySem.Str.ofString "goal")] [(PySem.Str.ofString "world"), (PySem.Str.ofString "start"), (PySem.Str.ofString "goal")] (defScope s_can_come) := ⟨rfl, rfl, rfl, by decide +kernel, rfl, by decide +kernel, by decide +kernel⟩
theorem ok_can_come {f : Addr} {fd : FuncData} (F : Fun K (PySem.Str.ofString "can_come") (PySem.Str.ofString "can_come") s_can_come f fd) (hm : mg (PySem.Str.ofString "can_come") = some (.ref f)) (b : Binds K fd [(PySem.Str.ofString "world"), (PySem.Str.ofString "start"), (PySem.Str.ofString "goal")] []) (G : Glb mg) (o_look_two : Ok P w K mg base 6 (PySem.Str.ofString "look_two") [(PySem.Str.ofString "world"), (PySem.Str.ofString "start"), (PySem.Str.ofString "goal")] (spD cv 3 d_look_two)) (o_all_from : Ok P w K mg base 3 (PySem.Str.ofString "all_from") [(PySem.Str.ofString "world"), (PySem.Str.ofString "stand")] (spK cv 2 d_all_from)) : Ok P w K mg base 7 (PySem.Str.ofString "can_come") [(PySem.Str.ofString "world"), (PySem.Str.ofString "start"), (PySem.Str.ofString "goal")] (spD cv 3 d_can_come) := by
  have nd := sc_can_come.nd
  refine ⟨f, fd, hm, F.kp, b, ?_⟩
  refine F.okX sc_can_come (fun vs H Q E h => h.1) (fun cdv A outer s H vs Q E hr h => ?_)
  refine ⟨_, (pss_cons (ps_expr (by exact pe_ok (W := (WD E)) o_look_two hr (by decide) (takes_of rfl rfl rfl rfl) (pa_cons (pv 0) (pa_cons (pv 1) (pa_cons (pv 2) pa_nil)))))
    (pss_one (ps_ret (pe_cmp (pc_din (hu1 hr) (pv 2) (by exact pe_ok (W := (WD E)) o_all_from hr (by decide) (takes_of rfl rfl rfl rfl) (pa_cons (pv 0) (pa_cons (pv 1) pa_nil)))))))), ?_⟩
  exact body_of (N := [(PySem.Str.ofString "world"), (PySem.Str.ofString "start"), (PySem.Str.ofString "goal")]) (o := o_can_come) (by unfold o_can_come; exact (ss_seq (ss_drop (se_call (sa_cons se_var (sa_cons se_var (sa_cons se_var sa_nil)))))
    (ss_ret (se_dinN (neg := false) rfl se_var (sk_call (sa_cons se_var (sa_cons se_var sa_nil))))))) h
theorem sc_between : FnScope [(PySem.Str.ofString "world"), (PySem.Str.ofString "start"), (PySem.Str.ofString "goal"), (PySem.Str.ofString "behind"), (PySem.Str.ofString "ahead"), (PySem.Str.ofString "stand")] [(PySem.Str.ofString "world"), (PySem.Str.ofString "start"), (PySem.Str.ofString "goal")] (defScope s_between) := ⟨rfl, rfl, rfl, by decide +kernel, rfl, by decide +kernel, by decide +kernel⟩
theorem ok_between {f : Addr} {fd : FuncData} (F : Fun K (PySem.Str.ofString "between") (PySem.Str.ofString "between") s_between f fd) (hm : mg (PySem.Str.ofString "between") = some (.ref f)) (b : Binds K fd [(PySem.Str.ofString "world"), (PySem.Str.ofString "start"), (PySem.Str.ofString "goal")] []) (G : Glb mg) (x_Never : ExOk K mg cv (PySem.Str.ofString "Never") .never) (o_all_from : Ok P w K mg base 3 (PySem.Str.ofString "all_from") [(PySem.Str.ofString "world"), (PySem.Str.ofString "stand")] (spK cv 2 d_all_from)) (o_all_to : Ok P w K mg base 3 (PySem.Str.ofString "all_to") [(PySem.Str.ofString "world"), (PySem.Str.ofString "stand")] (spK cv 2 d_all_to)) : Ok P w K mg base 4 (PySem.Str.ofString "between") [(PySem.Str.ofString "world"), (PySem.Str.ofString "start"), (PySem.Str.ofString "goal")] (spD cv 3 d_between) := by
  have nd := sc_between.nd
  refine ⟨f, fd, hm, F.kp, b, ?_⟩
  refine F.okX sc_between (fun vs H Q E h => h.1) (fun cdv A outer s H vs Q E hr h => ?_)
  refine ⟨_, (pss_cons (ps_set (i := 3) nd rfl (by first | exact Or.inl rfl | exact Or.inr rfl) (by exact (pe_lockV (by exact pe_ok (W := (WD E)) o_all_from hr (by decide) (takes_of rfl rfl rfl rfl) (pa_cons (pv 0) (pa_cons (pv 1) pa_nil))))))
    (pss_cons (ps_if (pt_cmp (pc_dnotin (hu1 hr) (pv 2) (pv 3))) (pss_one (ps_refuse x_Never rfl (takes_of rfl rfl rfl rfl))) pss_nil)
    (pss_cons (ps_set (i := 4) nd rfl (by first | exact Or.inl rfl | exact Or.inr rfl) (by exact (pe_lockV (by exact pe_ok (W := (WD E)) o_all_to hr (by decide) (takes_of rfl rfl rfl rfl) (pa_cons (pv 0) (pa_cons (pv 2) pa_nil))))))
    (pss_one (ps_ret (pe_lc (own := [((PySem.Str.ofString "stand"), 5)]) (g := (gName 5)) (tt := (tB (tDIn (tVar 5) (tVar 4)))) (te := (tVar 5)) (by rfl) nd (pi_keysM (pv 3)) (blkOk_by (own := [((PySem.Str.ofString "stand"), 5)]) (N := [(PySem.Str.ofString "world"), (PySem.Str.ofString "start"), (PySem.Str.ofString "goal"), (PySem.Str.ofString "behind"), (PySem.Str.ofString "ahead"), (PySem.Str.ofString "stand")]) (sc := defScope s_between) (by decide +kernel)) (fun _ _ _ _ _ => (pg_name (i := 5) nd rfl (by first | exact Or.inl rfl | exact Or.inr rfl))) (fun _ _ _ _ _ => (pts_one (pt_cmp (pc_din (hu1 hr) (pv 5) (pv 4))))) (fun _ _ _ _ _ => (pv 5)))))))), ?_⟩
  exact body_of (N := [(PySem.Str.ofString "world"), (PySem.Str.ofString "start"), (PySem.Str.ofString "goal"), (PySem.Str.ofString "behind"), (PySem.Str.ofString "ahead"), (PySem.Str.ofString "stand")]) (o := o_between) (by unfold o_between; exact (ss_seq (ss_setLk (kl_lock (sk_call (sa_cons se_var (sa_cons se_var sa_nil)))))
    (ss_seq (ss_if (st_tb (se_dinO (neg := true) rfl se_var)) ss_raise ss_next)
    (ss_seq (ss_setLk (kl_lock (sk_call (sa_cons se_var (sa_cons se_var sa_nil)))))
    (ss_ret (se_l (sl_lc (si_keysL kl_var) sg_name (st_tb (se_dinO (neg := false) rfl se_var)) se_var))))))) h
theorem sc_row_to : FnScope [(PySem.Str.ofString "world"), (PySem.Str.ofString "start"), (PySem.Str.ofString "goal"), (PySem.Str.ofString "on"), (PySem.Str.ofString "found"), (PySem.Str.ofString "here"), (PySem.Str.ofString "number"), (PySem.Str.ofString "one")] [(PySem.Str.ofString "world"), (PySem.Str.ofString "start"), (PySem.Str.ofString "goal")] (defScope s_row_to) := ⟨rfl, rfl, rfl, by decide +kernel, rfl, by decide +kernel, by decide +kernel⟩
theorem ok_row_to {f : Addr} {fd : FuncData} (F : Fun K (PySem.Str.ofString "row_to") (PySem.Str.ofString "row_to") s_row_to f fd) (hm : mg (PySem.Str.ofString "row_to") = some (.ref f)) (b : Binds K fd [(PySem.Str.ofString "world"), (PySem.Str.ofString "start"), (PySem.Str.ofString "goal")] []) (G : Glb mg) (o_look_two : Ok P w K mg base 6 (PySem.Str.ofString "look_two") [(PySem.Str.ofString "world"), (PySem.Str.ofString "start"), (PySem.Str.ofString "goal")] (spD cv 3 d_look_two)) (o_between : Ok P w K mg base 4 (PySem.Str.ofString "between") [(PySem.Str.ofString "world"), (PySem.Str.ofString "start"), (PySem.Str.ofString "goal")] (spD cv 3 d_between)) (o_moves_of : Ok P w K mg base 2 (PySem.Str.ofString "moves_of") [(PySem.Str.ofString "world"), (PySem.Str.ofString "stand")] (spD cv 2 d_moves_of)) : Ok P w K mg base 7 (PySem.Str.ofString "row_to") [(PySem.Str.ofString "world"), (PySem.Str.ofString "start"), (PySem.Str.ofString "goal")] (spD cv 3 d_row_to) := by
  have nd := sc_row_to.nd
  refine ⟨f, fd, hm, F.kp, b, ?_⟩
  refine F.okX sc_row_to (fun vs H Q E h => h.1) (fun cdv A outer s H vs Q E hr h => ?_)
  refine ⟨_, (pss_cons (ps_expr (by exact pe_ok (W := (WD E)) o_look_two hr (by decide) (takes_of rfl rfl rfl rfl) (pa_cons (pv 0) (pa_cons (pv 1) (pa_cons (pv 2) pa_nil)))))
    (pss_cons (ps_set (i := 3) nd rfl (by first | exact Or.inl rfl | exact Or.inr rfl) (by exact (by exact pe_ok (W := (WD E)) o_between hr (by decide) (takes_of rfl rfl rfl rfl) (pa_cons (pv 0) (pa_cons (pv 1) (pa_cons (pv 2) pa_nil))))))
    (pss_cons (ps_set (i := 4) nd rfl (by first | exact Or.inl rfl | exact Or.inr rfl) (by exact (pe_lst pa_nil)))
    (pss_cons (ps_set (i := 5) nd rfl (by first | exact Or.inl rfl | exact Or.inr rfl) (by exact (pv 1)))
    (pss_cons (ps_while (passes_of rfl) (pt_cmpR (op_neD (hu64 hr)) (pv 5) (pv 2) (nomark _)) (pss_cons (ps_asg (pe_ix ix_seq (pe_lc (own := [((PySem.Str.ofString "one"), 7)]) (g := (gName 7)) (tt := (tTest (tOp (rInA K) (tOp (rIx K) (tVar 7) (tC (.int 1))) (tVar 3)))) (te := (tVar 7)) (by rfl) nd (pi_any (by exact pe_ok (W := (WD E)) o_moves_of hr (by decide) (takes_of rfl rfl rfl rfl) (pa_cons (pv 0) (pa_cons (pv 5) pa_nil)))) (blkOk_by (own := [((PySem.Str.ofString "one"), 7)]) (N := [(PySem.Str.ofString "world"), (PySem.Str.ofString "start"), (PySem.Str.ofString "goal"), (PySem.Str.ofString "on"), (PySem.Str.ofString "found"), (PySem.Str.ofString "here"), (PySem.Str.ofString "number"), (PySem.Str.ofString "one")]) (sc := defScope s_row_to) (by decide +kernel)) (fun _ _ _ _ _ => (pg_name (i := 7) nd rfl (by first | exact Or.inl rfl | exact Or.inr rfl))) (fun _ _ _ _ _ => (pts_one (pt_cmpR (op_inA (hu65 hr)) (pe_ix ix_seq (pv 7) pe_int (fun _ _ => rfl)) (pv 3) (by rfl)))) (fun _ _ _ _ _ => (pv 7))) pe_int (fun _ _ => rfl)) (pg_any (n := 2) rfl (pgs_cons (pg_name (i := 6) nd rfl (by first | exact Or.inl rfl | exact Or.inr rfl)) (pgs_cons (pg_name (i := 5) nd rfl (by first | exact Or.inl rfl | exact Or.inr rfl)) pgs_nil))))
    (pss_one (ps_expr (pe_bm PySem.F.plainAttrs_list PySem.F.slot_list_append PySem.F.type_list_append mt_append (pv 4) (pa_cons (pv 6) pa_nil))))))
    (pss_one (ps_ret (pv 4)))))))), ?_⟩
  exact body_of (N := [(PySem.Str.ofString "world"), (PySem.Str.ofString "start"), (PySem.Str.ofString "goal"), (PySem.Str.ofString "on"), (PySem.Str.ofString "found"), (PySem.Str.ofString "here"), (PySem.Str.ofString "number"), (PySem.Str.ofString "one")]) (o := o_row_to) (by unfold o_row_to; exact (ss_seq (ss_drop (se_call (sa_cons se_var (sa_cons se_var (sa_cons se_var sa_nil)))))
    (ss_seq (ss_set (se_call (sa_cons se_var (sa_cons se_var (sa_cons se_var sa_nil)))))
    (ss_seq (ss_setL (sl_lst sa_nil))
    (ss_seq (ss_set se_var)
    (ss_seq (ss_while [6] 20000 (st_tst (se_op ro_ne se_var se_var)) (ss_seq (ss_asg (se_op ro_ix (se_l (sl_lc (si_any (se_call (sa_cons se_var (sa_cons se_var sa_nil)))) sg_name (st_tst (se_op ro_in (se_op ro_ix se_var se_int) se_var)) se_var)) se_int) (sg_any (sgs_cons sg_name (sgs_cons sg_name sgs_nil))))
    (ss_app se_var)))
    (ss_frz [4] (ss_ret se_var)))))))) h
theorem sc_last : FnScope [(PySem.Str.ofString "world"), (PySem.Str.ofString "start"), (PySem.Str.ofString "goal"), (PySem.Str.ofString "on"), (PySem.Str.ofString "number"), (PySem.Str.ofString "stand")] [(PySem.Str.ofString "world"), (PySem.Str.ofString "start"), (PySem.Str.ofString "goal")] (defScope s_last) := ⟨rfl, rfl, rfl, by decide +kernel, rfl, by decide +kernel, by decide +kernel⟩
theorem ok_last {f : Addr} {fd : FuncData} (F : Fun K (PySem.Str.ofString "last") (PySem.Str.ofString "last") s_last f fd) (hm : mg (PySem.Str.ofString "last") = some (.ref f)) (b : Binds K fd [(PySem.Str.ofString "world"), (PySem.Str.ofString "start"), (PySem.Str.ofString "goal")] []) (G : Glb mg) (o_look_two : Ok P w K mg base 6 (PySem.Str.ofString "look_two") [(PySem.Str.ofString "world"), (PySem.Str.ofString "start"), (PySem.Str.ofString "goal")] (spD cv 3 d_look_two)) (o_between : Ok P w K mg base 4 (PySem.Str.ofString "between") [(PySem.Str.ofString "world"), (PySem.Str.ofString "start"), (PySem.Str.ofString "goal")] (spD cv 3 d_between)) (o_back_of : Ok P w K mg base 2 (PySem.Str.ofString "back_of") [(PySem.Str.ofString "world"), (PySem.Str.ofString "stand")] (spD cv 2 d_back_of)) : Ok P w K mg base 7 (PySem.Str.ofString "last") [(PySem.Str.ofString "world"), (PySem.Str.ofString "start"), (PySem.Str.ofString "goal")] (spD cv 3 d_last) := by
  have nd := sc_last.nd
  refine ⟨f, fd, hm, F.kp, b, ?_⟩
  refine F.okX sc_last (fun vs H Q E h => h.1) (fun cdv A outer s H vs Q E hr h => ?_)
  refine ⟨_, (pss_cons (ps_expr (by exact pe_ok (W := (WD E)) o_look_two hr (by decide) (takes_of rfl rfl rfl rfl) (pa_cons (pv 0) (pa_cons (pv 1) (pa_cons (pv 2) pa_nil)))))
    (pss_cons (ps_set (i := 3) nd rfl (by first | exact Or.inl rfl | exact Or.inr rfl) (by exact (by exact pe_ok (W := (WD E)) o_between hr (by decide) (takes_of rfl rfl rfl rfl) (pa_cons (pv 0) (pa_cons (pv 1) (pa_cons (pv 2) pa_nil))))))
    (pss_one (ps_ret (pe_lc (own := [((PySem.Str.ofString "number"), 4), ((PySem.Str.ofString "stand"), 5)]) (g := (gAny K 2 (gCons (gName 4) (gCons (gName 5) gNil)))) (tt := (tTest (tOp (rInA K) (tVar 5) (tVar 3)))) (te := (tVar 4)) (by rfl) nd (pi_any (by exact pe_ok (W := (WD E)) o_back_of hr (by decide) (takes_of rfl rfl rfl rfl) (pa_cons (pv 0) (pa_cons (pv 2) pa_nil)))) (blkOk_by (own := [((PySem.Str.ofString "number"), 4), ((PySem.Str.ofString "stand"), 5)]) (N := [(PySem.Str.ofString "world"), (PySem.Str.ofString "start"), (PySem.Str.ofString "goal"), (PySem.Str.ofString "on"), (PySem.Str.ofString "number"), (PySem.Str.ofString "stand")]) (sc := defScope s_last) (by decide +kernel)) (fun _ _ _ _ _ => (pg_any (n := 2) rfl (pgs_cons (pg_name (i := 4) nd rfl (by first | exact Or.inl rfl | exact Or.inr rfl)) (pgs_cons (pg_name (i := 5) nd rfl (by first | exact Or.inl rfl | exact Or.inr rfl)) pgs_nil)))) (fun _ _ _ _ _ => (pts_one (pt_cmpR (op_inA (hu65 hr)) (pv 5) (pv 3) (by rfl)))) (fun _ _ _ _ _ => (pv 4))))))), ?_⟩
  exact body_of (N := [(PySem.Str.ofString "world"), (PySem.Str.ofString "start"), (PySem.Str.ofString "goal"), (PySem.Str.ofString "on"), (PySem.Str.ofString "number"), (PySem.Str.ofString "stand")]) (o := o_last) (by unfold o_last; exact (ss_seq (ss_drop (se_call (sa_cons se_var (sa_cons se_var (sa_cons se_var sa_nil)))))
    (ss_seq (ss_set (se_call (sa_cons se_var (sa_cons se_var (sa_cons se_var sa_nil)))))
    (ss_ret (se_l (sl_lc (si_any (se_call (sa_cons se_var (sa_cons se_var sa_nil)))) (sg_any (sgs_cons sg_name (sgs_cons sg_name sgs_nil))) (st_tst (se_op ro_in se_var se_var)) se_var)))))) h
theorem sc_ahead : FnScope [(PySem.Str.ofString "world"), (PySem.Str.ofString "start"), (PySem.Str.ofString "goal"), (PySem.Str.ofString "many"), (PySem.Str.ofString "on"), (PySem.Str.ofString "stand")] [(PySem.Str.ofString "world"), (PySem.Str.ofString "start"), (PySem.Str.ofString "goal"), (PySem.Str.ofString "many")] (defScope s_ahead) := ⟨rfl, rfl, rfl, by decide +kernel, rfl, by decide +kernel, by decide +kernel⟩
theorem ok_ahead {f : Addr} {fd : FuncData} (F : Fun K (PySem.Str.ofString "ahead") (PySem.Str.ofString "ahead") s_ahead f fd) (hm : mg (PySem.Str.ofString "ahead") = some (.ref f)) (b : Binds K fd [(PySem.Str.ofString "world"), (PySem.Str.ofString "start"), (PySem.Str.ofString "goal"), (PySem.Str.ofString "many")] []) (G : Glb mg) (x_BadCount : ExOk K mg cv (PySem.Str.ofString "BadCount") .count) (o_look_two : Ok P w K mg base 6 (PySem.Str.ofString "look_two") [(PySem.Str.ofString "world"), (PySem.Str.ofString "start"), (PySem.Str.ofString "goal")] (spD cv 3 d_look_two)) (o_is_within : Ok P w K mg base 1 (PySem.Str.ofString "is_within") [(PySem.Str.ofString "thing"), (PySem.Str.ofString "low"), (PySem.Str.ofString "high")] (spD cv 3 d_is_within)) (o_between : Ok P w K mg base 4 (PySem.Str.ofString "between") [(PySem.Str.ofString "world"), (PySem.Str.ofString "start"), (PySem.Str.ofString "goal")] (spD cv 3 d_between)) : Ok P w K mg base 7 (PySem.Str.ofString "ahead") [(PySem.Str.ofString "world"), (PySem.Str.ofString "start"), (PySem.Str.ofString "goal"), (PySem.Str.ofString "many")] (spD cv 4 d_ahead) := by
  have nd := sc_ahead.nd
  refine ⟨f, fd, hm, F.kp, b, ?_⟩
  refine F.okX sc_ahead (fun vs H Q E h => h.1) (fun cdv A outer s H vs Q E hr h => ?_)
  refine ⟨_, (pss_cons (ps_expr (by exact pe_ok (W := (WD E)) o_look_two hr (by decide) (takes_of rfl rfl rfl rfl) (pa_cons (pv 0) (pa_cons (pv 1) (pa_cons (pv 2) pa_nil)))))
    (pss_cons (ps_if (pt_not (pt_tru (by exact pe_ok (W := (WD E)) o_is_within hr (by decide) (takes_of rfl rfl rfl rfl) (pa_cons (pv 3) (pa_cons pe_int (pa_cons pe_int pa_nil)))))) (pss_one (ps_refuse x_BadCount rfl (takes_of rfl rfl rfl rfl))) pss_nil)
    (pss_cons (ps_set (i := 4) nd rfl (by first | exact Or.inl rfl | exact Or.inr rfl) (by exact (by exact pe_ok (W := (WD E)) o_between hr (by decide) (takes_of rfl rfl rfl rfl) (pa_cons (pv 0) (pa_cons (pv 1) (pa_cons (pv 2) pa_nil))))))
    (pss_one (ps_ret (pe_callB (cr_sortedD rfl) (by rfl) G.b_sorted bt_sorted (pa_cons (pe_lc (own := [((PySem.Str.ofString "stand"), 5)]) (g := (gName 5)) (tt := (tTest (tOp (rEqD K) (tBM K "str" rSCount (tVar 5) (tCons (tC (.str (PySem.Str.ofString "o"))) tNil)) (tOp (rPlus K) (tBM K "str" rSCount (tVar 2) (tCons (tC (.str (PySem.Str.ofString "o"))) tNil)) (tVar 3))))) (te := (tVar 5)) (by rfl) nd (pi_any (pv 4)) (blkOk_by (own := [((PySem.Str.ofString "stand"), 5)]) (N := [(PySem.Str.ofString "world"), (PySem.Str.ofString "start"), (PySem.Str.ofString "goal"), (PySem.Str.ofString "many"), (PySem.Str.ofString "on"), (PySem.Str.ofString "stand")]) (sc := defScope s_ahead) (by decide +kernel)) (fun _ _ _ _ _ => (pg_name (i := 5) nd rfl (by first | exact Or.inl rfl | exact Or.inr rfl))) (fun _ _ _ _ _ => (pts_one (pt_cmpR (op_eqD (hu64 hr)) (pe_bm PySem.F.plainAttrs_str PySem.F.slot_str_count PySem.F.type_str_count mt_count (pv 5) (pa_cons pe_str pa_nil)) (pe_op op_plus (pe_bm PySem.F.plainAttrs_str PySem.F.slot_str_count PySem.F.type_str_count mt_count (pv 2) (pa_cons pe_str pa_nil)) (pv 3)) (nomark _)))) (fun _ _ _ _ _ => (pv 5))) pa_nil))))))), ?_⟩
  exact body_of (N := [(PySem.Str.ofString "world"), (PySem.Str.ofString "start"), (PySem.Str.ofString "goal"), (PySem.Str.ofString "many"), (PySem.Str.ofString "on"), (PySem.Str.ofString "stand")]) (o := o_ahead) (by unfold o_ahead; exact (ss_seq (ss_drop (se_call (sa_cons se_var (sa_cons se_var (sa_cons se_var sa_nil)))))
    (ss_seq (ss_if (st_not (st_truD (se_call (sa_cons se_var (sa_cons se_int (sa_cons se_int sa_nil)))))) ss_raise ss_next)
    (ss_seq (ss_set (se_call (sa_cons se_var (sa_cons se_var (sa_cons se_var sa_nil)))))
    (ss_ret (se_l (sl_sort (se_l (sl_lc (si_any se_var) sg_name (st_tst (se_op ro_eq (se_bmS rm_scount se_var (sa_cons se_str sa_nil)) (se_op ro_plus (se_bmS rm_scount se_var (sa_cons se_str sa_nil)) se_var))) se_var))))))))) h
theorem sc_ways_to : FnScope [(PySem.Str.ofString "world"), (PySem.Str.ofString "start"), (PySem.Str.ofString "goal"), (PySem.Str.ofString "on"), (PySem.Str.ofString "found"), (PySem.Str.ofString "stand"), (PySem.Str.ofString "number"), (PySem.Str.ofString "other")] [(PySem.Str.ofString "world"), (PySem.Str.ofString "start"), (PySem.Str.ofString "goal")] (defScope s_ways_to) := ⟨rfl, rfl, rfl, by decide +kernel, rfl, by decide +kernel, by decide +kernel⟩
theorem ok_ways_to {f : Addr} {fd : FuncData} (F : Fun K (PySem.Str.ofString "ways_to") (PySem.Str.ofString "ways_to") s_ways_to f fd) (hm : mg (PySem.Str.ofString "ways_to") = some (.ref f)) (b : Binds K fd [(PySem.Str.ofString "world"), (PySem.Str.ofString "start"), (PySem.Str.ofString "goal")] []) (G : Glb mg) {c P' : Addr} (hT : cv.T = [P']) (TB : LamX.TabB base mg c P') (hcd : fd.code = .ref c) (o_between : Ok P w K mg base 4 (PySem.Str.ofString "between") [(PySem.Str.ofString "world"), (PySem.Str.ofString "start"), (PySem.Str.ofString "goal")] (spD cv 3 d_between)) (o_moves_of : Ok P w K mg base 2 (PySem.Str.ofString "moves_of") [(PySem.Str.ofString "world"), (PySem.Str.ofString "stand")] (spD cv 2 d_moves_of)) : Ok P w K mg base 5 (PySem.Str.ofString "ways_to") [(PySem.Str.ofString "world"), (PySem.Str.ofString "start"), (PySem.Str.ofString "goal")] (spK cv 3 d_ways_to) := by
  have nd := sc_ways_to.nd
  refine ⟨f, fd, hm, F.kp, b, ?_⟩
  refine Fun.okXc F hcd sc_ways_to (fun vs H Q E h => h.1) (fun A outer s H vs Q E hr h => ?_)
  refine ⟨_, (pss_cons (ps_set (i := 3) nd rfl (by first | exact Or.inl rfl | exact Or.inr rfl) (by exact (by exact pe_ok (W := (WD E)) o_between hr (by decide) (takes_of rfl rfl rfl rfl) (pa_cons (pv 0) (pa_cons (pv 1) (pa_cons (pv 2) pa_nil))))))
    (pss_cons (ps_set (i := 4) nd rfl (by first | exact Or.inl rfl | exact Or.inr rfl) (by exact (pe_disp (pps_cons (pv 2) pe_int pps_nil) (by rfl) (by rfl) (by simp) (by decide))))
    (pss_cons (ps_for (passes_of rfl) rfl (pi_any (by exact pe_sortLam (cv := cv) (x := (PySem.Str.ofString "one")) hT TB rfl (show (PySem.Str.ofString "ways_to" ++ ".<locals>." ++ "<lambda>" : Str) = lamQ from by decide +kernel) hr (by decide) rfl (by rfl) G.b_sorted (by decide +kernel) rfl rfl (fun _ _ _ _ _ => rfl) (fun A s f cd => pe_bm PySem.F.plainAttrs_str PySem.F.slot_str_count PySem.F.type_str_count mt_count (pe_var (i := 0) rfl (Or.inl rfl)) (pa_cons pe_str pa_nil)) (pa_cons (pv 3) pa_nil))) (pg_name (i := 5) nd rfl (by first | exact Or.inl rfl | exact Or.inr rfl))
    (pss_one (ps_if (pt_cmpR (op_neD (hu64 hr)) (pv 5) (pv 2) (nomark _)) (pss_one (ps_dput (hu1 hr) (pv 4) (pv 5) (pe_callB (cr_sum rfl) (by rfl) G.b_sum bt_sum (pa_cons (pe_lc (own := [((PySem.Str.ofString "number"), 6), ((PySem.Str.ofString "other"), 7)]) (g := (gAny K 2 (gCons (gName 6) (gCons (gName 7) gNil)))) (tt := (tB (tDIn (tVar 7) (tVar 4)))) (te := (tDGet (tVar 4) (tVar 7))) (by rfl) nd (pi_any (by exact pe_ok (W := (WD E)) o_moves_of hr (by decide) (takes_of rfl rfl rfl rfl) (pa_cons (pv 0) (pa_cons (pv 5) pa_nil)))) (blkOk_by (own := [((PySem.Str.ofString "number"), 6), ((PySem.Str.ofString "other"), 7)]) (N := [(PySem.Str.ofString "world"), (PySem.Str.ofString "start"), (PySem.Str.ofString "goal"), (PySem.Str.ofString "on"), (PySem.Str.ofString "found"), (PySem.Str.ofString "stand"), (PySem.Str.ofString "number"), (PySem.Str.ofString "other")]) (sc := defScope s_ways_to) (by decide +kernel)) (fun _ _ _ _ _ => (pg_any (n := 2) rfl (pgs_cons (pg_name (i := 6) nd rfl (by first | exact Or.inl rfl | exact Or.inr rfl)) (pgs_cons (pg_name (i := 7) nd rfl (by first | exact Or.inl rfl | exact Or.inr rfl)) pgs_nil)))) (fun _ _ _ _ _ => (pts_one (pt_cmp (pc_din (hu1 hr) (pv 7) (pv 4))))) (fun _ _ _ _ _ => (pe_dget (hu1 hr) (pv 4) (pv 7) (fun _ _ => rfl)))) pa_nil)) (by rfl))) pss_nil)))
    (pss_one (ps_ret (pv 4)))))), ?_⟩
  exact body_ofK (N := [(PySem.Str.ofString "world"), (PySem.Str.ofString "start"), (PySem.Str.ofString "goal"), (PySem.Str.ofString "on"), (PySem.Str.ofString "found"), (PySem.Str.ofString "stand"), (PySem.Str.ofString "number"), (PySem.Str.ofString "other")]) (o := o_ways_to) (by unfold o_ways_to; exact (ss_seq (ss_set (se_call (sa_cons se_var (sa_cons se_var (sa_cons se_var sa_nil)))))
    (ss_seq (ss_setK (sk_disp (.cons se_var se_int .nil)))
    (ss_seq (ss_for [5] (si_any (se_l (sl_sortLam se_var))) sg_name
    (ss_if (st_tst (se_op ro_ne se_var se_var)) (ss_put se_var (se_cb rc_sum (sa_cons (se_l (sl_lc (si_any (se_call (sa_cons se_var (sa_cons se_var sa_nil)))) (sg_any (sgs_cons sg_name (sgs_cons sg_name sgs_nil))) (st_tb (se_dinO (neg := false) rfl se_var)) (se_dgetO se_var))) sa_nil))) ss_next))
    ss_retO)))) h
theorem sc_how_many : FnScope [(PySem.Str.ofString "world"), (PySem.Str.ofString "start"), (PySem.Str.ofString "goal")] [(PySem.Str.ofString "world"), (PySem.Str.ofString "start"), (PySem.Str.ofString "goal")] (defScope s_how_many) := ⟨rfl, rfl, rfl, by decide +kernel, rfl, by decide +kernel, by decide +kernel⟩
theorem ok_how_many {f : Addr} {fd : FuncData} (F : Fun K (PySem.Str.ofString "how_many") (PySem.Str.ofString "how_many") s_how_many f fd) (hm : mg (PySem.Str.ofString "how_many") = some (.ref f)) (b : Binds K fd [(PySem.Str.ofString "world"), (PySem.Str.ofString "start"), (PySem.Str.ofString "goal")] []) (G : Glb mg) (o_look_two : Ok P w K mg base 6 (PySem.Str.ofString "look_two") [(PySem.Str.ofString "world"), (PySem.Str.ofString "start"), (PySem.Str.ofString "goal")] (spD cv 3 d_look_two)) (o_ways_to : Ok P w K mg base 5 (PySem.Str.ofString "ways_to") [(PySem.Str.ofString "world"), (PySem.Str.ofString "start"), (PySem.Str.ofString "goal")] (spK cv 3 d_ways_to)) : Ok P w K mg base 7 (PySem.Str.ofString "how_many") [(PySem.Str.ofString "world"), (PySem.Str.ofString "start"), (PySem.Str.ofString "goal")] (spD cv 3 d_how_many) := by
  have nd := sc_how_many.nd
  refine ⟨f, fd, hm, F.kp, b, ?_⟩
  refine F.okX sc_how_many (fun vs H Q E h => h.1) (fun cdv A outer s H vs Q E hr h => ?_)
  refine ⟨_, (pss_cons (ps_expr (by exact pe_ok (W := (WD E)) o_look_two hr (by decide) (takes_of rfl rfl rfl rfl) (pa_cons (pv 0) (pa_cons (pv 1) (pa_cons (pv 2) pa_nil)))))
    (pss_one (ps_ret (pe_dget (hu1 hr) (by exact pe_ok (W := (WD E)) o_ways_to hr (by decide) (takes_of rfl rfl rfl rfl) (pa_cons (pv 0) (pa_cons (pv 1) (pa_cons (pv 2) pa_nil)))) (pv 1) (fun _ _ => rfl))))), ?_⟩
  exact body_of (N := [(PySem.Str.ofString "world"), (PySem.Str.ofString "start"), (PySem.Str.ofString "goal")]) (o := o_how_many) (by unfold o_how_many; exact (ss_seq (ss_drop (se_call (sa_cons se_var (sa_cons se_var (sa_cons se_var sa_nil)))))
    (ss_ret (se_dgetN (sk_call (sa_cons se_var (sa_cons se_var (sa_cons se_var sa_nil)))) se_var)))) h
theorem sc_without : FnScope [(PySem.Str.ofString "world"), (PySem.Str.ofString "number")] [(PySem.Str.ofString "world"), (PySem.Str.ofString "number")] (defScope s_without) := ⟨rfl, rfl, rfl, by decide +kernel, rfl, by decide +kernel, by decide +kernel⟩
theorem ok_without {f : Addr} {fd : FuncData} (F : Fun K (PySem.Str.ofString "without") (PySem.Str.ofString "without") s_without f fd) (hm : mg (PySem.Str.ofString "without") = some (.ref f)) (b : Binds K fd [(PySem.Str.ofString "world"), (PySem.Str.ofString "number")] []) (G : Glb mg) : Ok P w K mg base 1 (PySem.Str.ofString "without") [(PySem.Str.ofString "world"), (PySem.Str.ofString "number")] (spD cv 2 d_without) := by
  have nd := sc_without.nd
  refine ⟨f, fd, hm, F.kp, b, ?_⟩
  refine F.okX sc_without (fun vs H Q E h => h.1) (fun cdv A outer s H vs Q E hr h => ?_)
  refine ⟨_, (pss_one (ps_ret (pe_tup (pa_cons (pe_ix ix_seq (pv 0) pe_int (fun _ _ => rfl)) (pa_cons (pe_op op_plus (pe_slice sl_any (pe_ix ix_seq (pv 0) pe_int (fun _ _ => rfl)) po_none (po_some (pv 1))) (pe_slice sl_any (pe_ix ix_seq (pv 0) pe_int (fun _ _ => rfl)) (po_some (pe_op op_plus (pv 1) pe_int)) po_none)) pa_nil))))), ?_⟩
  exact body_of (N := [(PySem.Str.ofString "world"), (PySem.Str.ofString "number")]) (o := o_without) (by unfold o_without; exact (ss_ret (se_tup (sa_cons (se_op ro_ix se_var se_int) (sa_cons (se_op ro_plus (se_sl (se_op ro_ix se_var se_int) so_no (so_p se_var)) (se_sl (se_op ro_ix se_var se_int) (so_p (se_op ro_plus se_var se_int)) so_no)) sa_nil))))) h
theorem sc_surely : FnScope [(PySem.Str.ofString "world"), (PySem.Str.ofString "start"), (PySem.Str.ofString "goal"), (PySem.Str.ofString "found"), (PySem.Str.ofString "number")] [(PySem.Str.ofString "world"), (PySem.Str.ofString "start"), (PySem.Str.ofString "goal")] (defScope s_surely) := ⟨rfl, rfl, rfl, by decide +kernel, rfl, by decide +kernel, by decide +kernel⟩
theorem ok_surely {f : Addr} {fd : FuncData} (F : Fun K (PySem.Str.ofString "surely") (PySem.Str.ofString "surely") s_surely f fd) (hm : mg (PySem.Str.ofString "surely") = some (.ref f)) (b : Binds K fd [(PySem.Str.ofString "world"), (PySem.Str.ofString "start"), (PySem.Str.ofString "goal")] []) (G : Glb mg) (o_look_two : Ok P w K mg base 6 (PySem.Str.ofString "look_two") [(PySem.Str.ofString "world"), (PySem.Str.ofString "start"), (PySem.Str.ofString "goal")] (spD cv 3 d_look_two)) (o_between : Ok P w K mg base 4 (PySem.Str.ofString "between") [(PySem.Str.ofString "world"), (PySem.Str.ofString "start"), (PySem.Str.ofString "goal")] (spD cv 3 d_between)) (o_all_from : Ok P w K mg base 3 (PySem.Str.ofString "all_from") [(PySem.Str.ofString "world"), (PySem.Str.ofString "stand")] (spK cv 2 d_all_from)) (o_without : Ok P w K mg base 1 (PySem.Str.ofString "without") [(PySem.Str.ofString "world"), (PySem.Str.ofString "number")] (spD cv 2 d_without)) : Ok P w K mg base 7 (PySem.Str.ofString "surely") [(PySem.Str.ofString "world"), (PySem.Str.ofString "start"), (PySem.Str.ofString "goal")] (spD cv 3 d_surely) := by
  have nd := sc_surely.nd
  refine ⟨f, fd, hm, F.kp, b, ?_⟩
  refine F.okX sc_surely (fun vs H Q E h => h.1) (fun cdv A outer s H vs Q E hr h => ?_)
  refine ⟨_, (pss_cons (ps_expr (by exact pe_ok (W := (WD E)) o_look_two hr (by decide) (takes_of rfl rfl rfl rfl) (pa_cons (pv 0) (pa_cons (pv 1) (pa_cons (pv 2) pa_nil)))))
    (pss_cons (ps_expr (by exact pe_ok (W := (WD E)) o_between hr (by decide) (takes_of rfl rfl rfl rfl) (pa_cons (pv 0) (pa_cons (pv 1) (pa_cons (pv 2) pa_nil)))))
    (pss_cons (ps_set (i := 3) nd rfl (by first | exact Or.inl rfl | exact Or.inr rfl) (by exact (pe_lst pa_nil)))
    (pss_cons (ps_for (passes_of rfl) rfl (pi_range1 (by rfl) G.b_range (pa_cons (pe_callB call_lenD (by rfl) G.b_len bt_len (pa_cons (pe_ix ix_seq (pv 0) pe_int (fun _ _ => rfl)) pa_nil)) pa_nil)) (pg_name (i := 4) nd rfl (by first | exact Or.inl rfl | exact Or.inr rfl))
    (pss_one (ps_if (pt_cmp (pc_dnotin (hu1 hr) (pv 2) (by exact pe_ok (W := (WD E)) o_all_from hr (by decide) (takes_of rfl rfl rfl rfl) (pa_cons (by exact pe_ok (W := (WD E)) o_without hr (by decide) (takes_of rfl rfl rfl rfl) (pa_cons (pv 0) (pa_cons (pv 4) pa_nil))) (pa_cons (pv 1) pa_nil))))) (pss_one (ps_expr (pe_bm PySem.F.plainAttrs_list PySem.F.slot_list_append PySem.F.type_list_append mt_append (pv 3) (pa_cons (pv 4) pa_nil)))) pss_nil)))
    (pss_one (ps_ret (pv 3))))))), ?_⟩
  exact body_of (N := [(PySem.Str.ofString "world"), (PySem.Str.ofString "start"), (PySem.Str.ofString "goal"), (PySem.Str.ofString "found"), (PySem.Str.ofString "number")]) (o := o_surely) (by unfold o_surely; exact (ss_seq (ss_drop (se_call (sa_cons se_var (sa_cons se_var (sa_cons se_var sa_nil)))))
    (ss_seq (ss_drop (se_call (sa_cons se_var (sa_cons se_var (sa_cons se_var sa_nil)))))
    (ss_seq (ss_setL (sl_lst sa_nil))
    (ss_seq (ss_for [4] (si_rng1 (sa_cons (se_cb rc_lenD (sa_cons (se_op ro_ix se_var se_int) sa_nil)) sa_nil)) sg_name
    (ss_if (st_tb (se_dinN (neg := true) rfl se_var (sk_call (sa_cons (se_call (sa_cons se_var (sa_cons se_var sa_nil))) (sa_cons se_var sa_nil))))) (ss_app se_var) ss_next))
    (ss_frz [3] (ss_ret se_var))))))) h
theorem sc_perhaps : FnScope [(PySem.Str.ofString "world"), (PySem.Str.ofString "start"), (PySem.Str.ofString "goal"), (PySem.Str.ofString "on"), (PySem.Str.ofString "found"), (PySem.Str.ofString "stand"), (PySem.Str.ofString "number"), (PySem.Str.ofString "other")] [(PySem.Str.ofString "world"), (PySem.Str.ofString "start"), (PySem.Str.ofString "goal")] (defScope s_perhaps) := ⟨rfl, rfl, rfl, by decide +kernel, rfl, by decide +kernel, by decide +kernel⟩
theorem ok_perhaps {f : Addr} {fd : FuncData} (F : Fun K (PySem.Str.ofString "perhaps") (PySem.Str.ofString "perhaps") s_perhaps f fd) (hm : mg (PySem.Str.ofString "perhaps") = some (.ref f)) (b : Binds K fd [(PySem.Str.ofString "world"), (PySem.Str.ofString "start"), (PySem.Str.ofString "goal")] []) (G : Glb mg) (o_look_two : Ok P w K mg base 6 (PySem.Str.ofString "look_two") [(PySem.Str.ofString "world"), (PySem.Str.ofString "start"), (PySem.Str.ofString "goal")] (spD cv 3 d_look_two)) (o_between : Ok P w K mg base 4 (PySem.Str.ofString "between") [(PySem.Str.ofString "world"), (PySem.Str.ofString "start"), (PySem.Str.ofString "goal")] (spD cv 3 d_between)) (o_moves_of : Ok P w K mg base 2 (PySem.Str.ofString "moves_of") [(PySem.Str.ofString "world"), (PySem.Str.ofString "stand")] (spD cv 2 d_moves_of)) : Ok P w K mg base 7 (PySem.Str.ofString "perhaps") [(PySem.Str.ofString "world"), (PySem.Str.ofString "start"), (PySem.Str.ofString "goal")] (spD cv 3 d_perhaps) := by
  have nd := sc_perhaps.nd
  refine ⟨f, fd, hm, F.kp, b, ?_⟩
  refine F.okX sc_perhaps (fun vs H Q E h => h.1) (fun cdv A outer s H vs Q E hr h => ?_)
  refine ⟨_, (pss_cons (ps_expr (by exact pe_ok (W := (WD E)) o_look_two hr (by decide) (takes_of rfl rfl rfl rfl) (pa_cons (pv 0) (pa_cons (pv 1) (pa_cons (pv 2) pa_nil)))))
    (pss_cons (ps_set (i := 3) nd rfl (by first | exact Or.inl rfl | exact Or.inr rfl) (by exact (pe_lockV (pe_callTy (cr_dictP rfl) (by rfl) G.b_dict bt_dict (pa_cons (pe_lc (own := [((PySem.Str.ofString "stand"), 5)]) (g := (gName 5)) (tt := tYes) (te := (tTup (tCons (tVar 5) (tCons (tC (.bl true)) tNil)))) (by rfl) nd (pi_any (by exact pe_ok (W := (WD E)) o_between hr (by decide) (takes_of rfl rfl rfl rfl) (pa_cons (pv 0) (pa_cons (pv 1) (pa_cons (pv 2) pa_nil))))) (blkOk_by (own := [((PySem.Str.ofString "stand"), 5)]) (N := [(PySem.Str.ofString "world"), (PySem.Str.ofString "start"), (PySem.Str.ofString "goal"), (PySem.Str.ofString "on"), (PySem.Str.ofString "found"), (PySem.Str.ofString "stand"), (PySem.Str.ofString "number"), (PySem.Str.ofString "other")]) (sc := defScope s_perhaps) (by decide +kernel)) (fun _ _ _ _ _ => (pg_name (i := 5) nd rfl (by first | exact Or.inl rfl | exact Or.inr rfl))) (fun _ _ _ _ _ => pts_nil) (fun _ _ _ _ _ => (pe_tup (pa_cons (pv 5) (pa_cons pe_bl pa_nil))))) pa_nil)))))
    (pss_cons (ps_set (i := 4) nd rfl (by first | exact Or.inl rfl | exact Or.inr rfl) (by exact pe_dnewK))
    (pss_cons (ps_for (passes_of rfl) rfl (pi_keysM (pv 3)) (pg_name (i := 5) nd rfl (by first | exact Or.inl rfl | exact Or.inr rfl))
    (pss_one (ps_for (passes_of rfl) rfl (pi_any (by exact pe_ok (W := (WD E)) o_moves_of hr (by decide) (takes_of rfl rfl rfl rfl) (pa_cons (pv 0) (pa_cons (pv 5) pa_nil)))) (pg_any (n := 2) rfl (pgs_cons (pg_name (i := 6) nd rfl (by first | exact Or.inl rfl | exact Or.inr rfl)) (pgs_cons (pg_name (i := 7) nd rfl (by first | exact Or.inl rfl | exact Or.inr rfl)) pgs_nil)))
    (pss_one (ps_if (pt_cmp (pc_din (hu1 hr) (pv 7) (pv 3))) (pss_one (ps_dput (hu1 hr) (pv 4) (pv 6) pe_bl (by rfl))) pss_nil)))))
    (pss_one (ps_ret (pe_callB (cr_sortedDX rfl) (by rfl) G.b_sorted bt_sorted (pa_cons (pv 4) pa_nil)))))))), ?_⟩
  exact body_of (N := [(PySem.Str.ofString "world"), (PySem.Str.ofString "start"), (PySem.Str.ofString "goal"), (PySem.Str.ofString "on"), (PySem.Str.ofString "found"), (PySem.Str.ofString "stand"), (PySem.Str.ofString "number"), (PySem.Str.ofString "other")]) (o := o_perhaps) (by unfold o_perhaps; exact (ss_seq (ss_drop (se_call (sa_cons se_var (sa_cons se_var (sa_cons se_var sa_nil)))))
    (ss_seq (ss_setLk (kl_lock (sk_dictP (se_l (sl_lc (si_any (se_call (sa_cons se_var (sa_cons se_var (sa_cons se_var sa_nil))))) sg_name st_yes (se_tup (sa_cons se_var (sa_cons se_bl sa_nil))))))))
    (ss_seq (ss_setK sk_new)
    (ss_seq (ss_for [5, 6, 7] (si_keysL kl_var) sg_name
    (ss_for [6, 7] (si_any (se_call (sa_cons se_var (sa_cons se_var sa_nil)))) (sg_any (sgs_cons sg_name (sgs_cons sg_name sgs_nil)))
    (ss_if (st_tb (se_dinO (neg := false) rfl se_var)) (ss_put se_var se_bl) ss_next)))
    (ss_ret (se_l sl_sortXO))))))) h
theorem sc_is_kept : FnScope [(PySem.Str.ofString "world"), (PySem.Str.ofString "row"), (PySem.Str.ofString "jump"), (PySem.Str.ofString "cell")] [(PySem.Str.ofString "world"), (PySem.Str.ofString "row")] (defScope s_is_kept) := ⟨rfl, rfl, rfl, by decide +kernel, rfl, by decide +kernel, by decide +kernel⟩
theorem ok_is_kept {f : Addr} {fd : FuncData} (F : Fun K (PySem.Str.ofString "is_kept") (PySem.Str.ofString "is_kept") s_is_kept f fd) (hm : mg (PySem.Str.ofString "is_kept") = some (.ref f)) (b : Binds K fd [(PySem.Str.ofString "world"), (PySem.Str.ofString "row")] []) (G : Glb mg) : Ok P w K mg base 1 (PySem.Str.ofString "is_kept") [(PySem.Str.ofString "world"), (PySem.Str.ofString "row")] (spD cv 2 d_is_kept) := by
  have nd := sc_is_kept.nd
  refine ⟨f, fd, hm, F.kp, b, ?_⟩
  refine F.okX sc_is_kept (fun vs H Q E h => h.1) (fun cdv A outer s H vs Q E hr h => ?_)
  refine ⟨_, (pss_one (ps_ret (pe_notT (pe_lc (own := [((PySem.Str.ofString "jump"), 2)]) (g := (gName 2)) (tt := (tTest (tOp (rEqD K) (tOp (rI (fun _ j => 0 < j) fun i j => .int (i % j)) (tBM K "list" (rLCount K) (tLc (iAny K (tVar 2)) (gName 3) tYes (tOp (rIx K) (tVar 1) (tVar 3)) [3]) (tCons (tC (.str (PySem.Str.ofString "1"))) tNil)) (tC (.int 2))) (tC (.int 1))))) (te := (tVar 2)) (by rfl) nd (pi_any (pe_ix ix_seq (pv 0) pe_int (fun _ _ => rfl))) (blkOk_by (own := [((PySem.Str.ofString "jump"), 2)]) (N := [(PySem.Str.ofString "world"), (PySem.Str.ofString "row"), (PySem.Str.ofString "jump"), (PySem.Str.ofString "cell")]) (sc := defScope s_is_kept) (by decide +kernel)) (fun _ _ _ _ _ => (pg_name (i := 2) nd rfl (by first | exact Or.inl rfl | exact Or.inr rfl))) (fun _ _ _ _ _ => (pts_one (pt_cmpR (op_eqD (hu64 hr)) (pe_op op_mod (pe_bm PySem.F.plainAttrs_list PySem.F.slot_list_count PySem.F.type_list_count (mt_lcountD (hu65 hr)) (pe_lc (own := [((PySem.Str.ofString "cell"), 3)]) (g := (gName 3)) (tt := tYes) (te := (tOp (rIx K) (tVar 1) (tVar 3))) (by rfl) nd (pi_any (pv 2)) (blkOk_by (own := [((PySem.Str.ofString "cell"), 3)]) (N := [(PySem.Str.ofString "world"), (PySem.Str.ofString "row"), (PySem.Str.ofString "jump"), (PySem.Str.ofString "cell")]) (sc := (relS ({ kind := PySem.ScopeKind.function, names := [ (PySem.Str.ofString ".0", PySem.NameKind.local), (PySem.Str.ofString "jump", PySem.NameKind.local), (PySem.Str.ofString "row", PySem.NameKind.free)], isGenerator := false, isCoroutine := false, more := [] : PySem.Scope }) (defScope s_is_kept))) (by decide +kernel)) (fun _ _ _ _ _ => (pg_name (i := 3) nd rfl (by first | exact Or.inl rfl | exact Or.inr rfl))) (fun _ _ _ _ _ => pts_nil) (fun _ _ _ _ _ => (pe_ix ix_seq (pv 1) (pv 3) (fun _ _ => rfl)))) (pa_cons pe_str pa_nil)) pe_int) pe_int (nomark _)))) (fun _ _ _ _ _ => (pv 2)))))), ?_⟩
  exact body_of (N := [(PySem.Str.ofString "world"), (PySem.Str.ofString "row"), (PySem.Str.ofString "jump"), (PySem.Str.ofString "cell")]) (o := o_is_kept) (by unfold o_is_kept; exact (ss_ret (se_notT (se_l (sl_lc (si_any (se_op ro_ix se_var se_int)) sg_name (st_tst (se_op ro_eq (se_op ro_mod (se_bmL rm_lcount (se_l (sl_lc (si_any se_var) sg_name st_yes (se_op ro_ix se_var se_var))) (sa_cons se_str sa_nil)) se_int) se_int)) se_var))))) h
theorem sc_kept_of : FnScope [(PySem.Str.ofString "world"), (PySem.Str.ofString "rows"), (PySem.Str.ofString "cell"), (PySem.Str.ofString "ready"), (PySem.Str.ofString "longer"), (PySem.Str.ofString "row"), (PySem.Str.ofString "sign"), (PySem.Str.ofString "new"), (PySem.Str.ofString "jump"), (PySem.Str.ofString "one")] [(PySem.Str.ofString "world")] (defScope s_kept_of) := ⟨rfl, rfl, rfl, by decide +kernel, rfl, by decide +kernel, by decide +kernel⟩
theorem ok_kept_of {f : Addr} {fd : FuncData} (F : Fun K (PySem.Str.ofString "kept_of") (PySem.Str.ofString "kept_of") s_kept_of f fd) (hm : mg (PySem.Str.ofString "kept_of") = some (.ref f)) (b : Binds K fd [(PySem.Str.ofString "world")] []) (G : Glb mg) : Ok P w K mg base 1 (PySem.Str.ofString "kept_of") [(PySem.Str.ofString "world")] (spD cv 1 d_kept_of) := by
  have nd := sc_kept_of.nd
  refine ⟨f, fd, hm, F.kp, b, ?_⟩
  refine F.okX sc_kept_of (fun vs H Q E h => h.1) (fun cdv A outer s H vs Q E hr h => ?_)
  refine ⟨_, (pss_cons (ps_set (i := 1) nd rfl (by first | exact Or.inl rfl | exact Or.inr rfl) (by exact (pe_lst (pa_cons pe_str pa_nil))))
    (pss_cons (ps_for (passes_of rfl) rfl (pi_range1 (by rfl) G.b_range (pa_cons (pe_ix ix_seq (pv 0) pe_int (fun _ _ => rfl)) pa_nil)) (pg_name (i := 2) nd rfl (by first | exact Or.inl rfl | exact Or.inr rfl))
    (pss_cons (ps_setLc (i := 3) (own := [((PySem.Str.ofString "jump"), 8)]) (g := (gName 8)) (tt := (tTest (tOp (rEqD K) (tCB (rMaxA K) (tCons (tVar 8) tNil)) (tVar 2)))) (te := (tVar 8)) (by rfl) nd rfl rfl (sw_true rfl rfl rfl (by decide +kernel)) (pi_any (pe_ix ix_seq (pv 0) pe_int (fun _ _ => rfl))) (blkOk_by (own := [((PySem.Str.ofString "jump"), 8)]) (N := [(PySem.Str.ofString "world"), (PySem.Str.ofString "rows"), (PySem.Str.ofString "cell"), (PySem.Str.ofString "ready"), (PySem.Str.ofString "longer"), (PySem.Str.ofString "row"), (PySem.Str.ofString "sign"), (PySem.Str.ofString "new"), (PySem.Str.ofString "jump"), (PySem.Str.ofString "one")]) (sc := defScope s_kept_of) (by decide +kernel)) (fun _ _ _ _ _ => (pg_name (i := 8) nd rfl (by first | exact Or.inl rfl | exact Or.inr rfl))) (fun _ _ _ _ _ => (pts_one (pt_cmpR (op_eqD (hu64 hr)) (pe_callB (cr_maxA rfl) (by rfl) G.b_max bt_max (pa_cons (pv 8) pa_nil)) (pv 2) (nomark _)))) (fun _ _ _ _ _ => (pv 8)))
    (pss_cons (ps_set (i := 4) nd rfl (by first | exact Or.inl rfl | exact Or.inr rfl) (by exact (pe_lst pa_nil)))
    (pss_cons (ps_for (passes_of rfl) rfl (pi_any (pv 1)) (pg_name (i := 5) nd rfl (by first | exact Or.inl rfl | exact Or.inr rfl))
    (pss_one (ps_for (passes_of rfl) rfl (pi_any pe_str) (pg_name (i := 6) nd rfl (by first | exact Or.inl rfl | exact Or.inr rfl))
    (pss_cons (ps_set (i := 7) nd rfl (by first | exact Or.inl rfl | exact Or.inr rfl) (by exact (pe_op op_plus (pv 5) (pv 6))))
    (pss_one (ps_if (pt_not (pt_tru (pe_lc (own := [((PySem.Str.ofString "jump"), 8)]) (g := (gName 8)) (tt := (tTest (tOp (rEqD K) (tOp (rI (fun _ j => 0 < j) fun i j => .int (i % j)) (tBM K "list" (rLCount K) (tLc (iAny K (tVar 8)) (gName 9) tYes (tOp (rIx K) (tVar 7) (tVar 9)) [9]) (tCons (tC (.str (PySem.Str.ofString "1"))) tNil)) (tC (.int 2))) (tC (.int 1))))) (te := (tVar 8)) (by rfl) nd (pi_any (pv 3)) (blkOk_by (own := [((PySem.Str.ofString "jump"), 8)]) (N := [(PySem.Str.ofString "world"), (PySem.Str.ofString "rows"), (PySem.Str.ofString "cell"), (PySem.Str.ofString "ready"), (PySem.Str.ofString "longer"), (PySem.Str.ofString "row"), (PySem.Str.ofString "sign"), (PySem.Str.ofString "new"), (PySem.Str.ofString "jump"), (PySem.Str.ofString "one")]) (sc := defScope s_kept_of) (by decide +kernel)) (fun _ _ _ _ _ => (pg_name (i := 8) nd rfl (by first | exact Or.inl rfl | exact Or.inr rfl))) (fun _ _ _ _ _ => (pts_one (pt_cmpR (op_eqD (hu64 hr)) (pe_op op_mod (pe_bm PySem.F.plainAttrs_list PySem.F.slot_list_count PySem.F.type_list_count (mt_lcountD (hu65 hr)) (pe_lc (own := [((PySem.Str.ofString "one"), 9)]) (g := (gName 9)) (tt := tYes) (te := (tOp (rIx K) (tVar 7) (tVar 9))) (by rfl) nd (pi_any (pv 8)) (blkOk_by (own := [((PySem.Str.ofString "one"), 9)]) (N := [(PySem.Str.ofString "world"), (PySem.Str.ofString "rows"), (PySem.Str.ofString "cell"), (PySem.Str.ofString "ready"), (PySem.Str.ofString "longer"), (PySem.Str.ofString "row"), (PySem.Str.ofString "sign"), (PySem.Str.ofString "new"), (PySem.Str.ofString "jump"), (PySem.Str.ofString "one")]) (sc := (relS ({ kind := PySem.ScopeKind.function, names := [ (PySem.Str.ofString ".0", PySem.NameKind.local), (PySem.Str.ofString "jump", PySem.NameKind.local), (PySem.Str.ofString "new", PySem.NameKind.free)], isGenerator := false, isCoroutine := false, more := [] : PySem.Scope }) (defScope s_kept_of))) (by decide +kernel)) (fun _ _ _ _ _ => (pg_name (i := 9) nd rfl (by first | exact Or.inl rfl | exact Or.inr rfl))) (fun _ _ _ _ _ => pts_nil) (fun _ _ _ _ _ => (pe_ix ix_seq (pv 7) (pv 9) (fun _ _ => rfl)))) (pa_cons pe_str pa_nil)) pe_int) pe_int (nomark _)))) (fun _ _ _ _ _ => (pv 8))))) (pss_one (ps_expr (pe_bm PySem.F.plainAttrs_list PySem.F.slot_list_append PySem.F.type_list_append mt_append (pv 4) (pa_cons (pv 7) pa_nil)))) pss_nil))))))
    (pss_one (ps_set (i := 1) nd rfl (by first | exact Or.inl rfl | exact Or.inr rfl) (by exact (pv 4))))))))
    (pss_one (ps_ret (pv 1))))), ?_⟩
  exact body_of (N := [(PySem.Str.ofString "world"), (PySem.Str.ofString "rows"), (PySem.Str.ofString "cell"), (PySem.Str.ofString "ready"), (PySem.Str.ofString "longer"), (PySem.Str.ofString "row"), (PySem.Str.ofString "sign"), (PySem.Str.ofString "new"), (PySem.Str.ofString "jump"), (PySem.Str.ofString "one")]) (o := o_kept_of) (by unfold o_kept_of; exact (ss_seq (ss_set (se_l (sl_lst (sa_cons se_str sa_nil))))
    (ss_seq (ss_for [2, 3, 4, 5, 6, 7] (si_rng1 (sa_cons (se_op ro_ix se_var se_int) sa_nil)) sg_name
    (ss_seq (ss_set (se_l (sl_lc (si_any (se_op ro_ix se_var se_int)) sg_name (st_tst (se_op ro_eq (se_cb rc_maxA (sa_cons se_var sa_nil)) se_var)) se_var)))
    (ss_seq (ss_setL (sl_lst sa_nil))
    (ss_seq (ss_for [5, 6, 7] (si_any se_var) sg_name
    (ss_for [6, 7] (si_any se_str) sg_name
    (ss_seq (ss_set (se_op ro_plus se_var se_var))
    (ss_if (st_not (st_truD (se_l (sl_lc (si_any se_var) sg_name (st_tst (se_op ro_eq (se_op ro_mod (se_bmL rm_lcount (se_l (sl_lc (si_any se_var) sg_name st_yes (se_op ro_ix se_var se_var))) (sa_cons se_str sa_nil)) se_int) se_int)) se_var)))) (ss_app se_var) ss_next))))
    (ss_frz [4] (ss_set se_var))))))
    (ss_ret se_var)))) h
theorem sc_odd_at : FnScope [(PySem.Str.ofString "row"), (PySem.Str.ofString "stand"), (PySem.Str.ofString "mark"), (PySem.Str.ofString "sign")] [(PySem.Str.ofString "row"), (PySem.Str.ofString "stand")] (defScope s_odd_at) := ⟨rfl, rfl, rfl, by decide +kernel, rfl, by decide +kernel, by decide +kernel⟩
theorem ok_odd_at {f : Addr} {fd : FuncData} (F : Fun K (PySem.Str.ofString "odd_at") (PySem.Str.ofString "odd_at") s_odd_at f fd) (hm : mg (PySem.Str.ofString "odd_at") = some (.ref f)) (b : Binds K fd [(PySem.Str.ofString "row"), (PySem.Str.ofString "stand")] []) (G : Glb mg) : Ok P w K mg base 1 (PySem.Str.ofString "odd_at") [(PySem.Str.ofString "row"), (PySem.Str.ofString "stand")] (spD cv 2 d_odd_at) := by
  have nd := sc_odd_at.nd
  refine ⟨f, fd, hm, F.kp, b, ?_⟩
  refine F.okX sc_odd_at (fun vs H Q E h => h.1) (fun cdv A outer s H vs Q E hr h => ?_)
  refine ⟨_, (pss_one (ps_ret (pe_op op_mod (pe_bm PySem.F.plainAttrs_list PySem.F.slot_list_count PySem.F.type_list_count (mt_lcountD (hu65 hr)) (pe_lc (own := [((PySem.Str.ofString "mark"), 2), ((PySem.Str.ofString "sign"), 3)]) (g := (gAny K 2 (gCons (gName 2) (gCons (gName 3) gNil)))) (tt := (tTest (tOp (rEqD K) (tVar 2) (tC (.str (PySem.Str.ofString "1")))))) (te := (tVar 3)) (by rfl) nd (pi_zipX (by rfl) G.b_zip (pa_cons (pv 0) (pa_cons (pv 1) pa_nil))) (blkOk_by (own := [((PySem.Str.ofString "mark"), 2), ((PySem.Str.ofString "sign"), 3)]) (N := [(PySem.Str.ofString "row"), (PySem.Str.ofString "stand"), (PySem.Str.ofString "mark"), (PySem.Str.ofString "sign")]) (sc := defScope s_odd_at) (by decide +kernel)) (fun _ _ _ _ _ => (pg_any (n := 2) rfl (pgs_cons (pg_name (i := 2) nd rfl (by first | exact Or.inl rfl | exact Or.inr rfl)) (pgs_cons (pg_name (i := 3) nd rfl (by first | exact Or.inl rfl | exact Or.inr rfl)) pgs_nil)))) (fun _ _ _ _ _ => (pts_one (pt_cmpR (op_eqD (hu64 hr)) (pv 2) pe_str (nomark _)))) (fun _ _ _ _ _ => (pv 3))) (pa_cons pe_str pa_nil)) pe_int))), ?_⟩
  exact body_of (N := [(PySem.Str.ofString "row"), (PySem.Str.ofString "stand"), (PySem.Str.ofString "mark"), (PySem.Str.ofString "sign")]) (o := o_odd_at) (by unfold o_odd_at; exact (ss_ret (se_op ro_mod (se_bmL rm_lcount (se_l (sl_lc (si_zip (sa_cons se_var (sa_cons se_var sa_nil))) (sg_any (sgs_cons sg_name (sgs_cons sg_name sgs_nil))) (st_tst (se_op ro_eq se_var se_str)) se_var)) (sa_cons se_str sa_nil)) se_int))) h
theorem sc_parted_by : FnScope [(PySem.Str.ofString "world"), (PySem.Str.ofString "start"), (PySem.Str.ofString "goal"), (PySem.Str.ofString "row")] [(PySem.Str.ofString "world"), (PySem.Str.ofString "start"), (PySem.Str.ofString "goal")] (defScope s_parted_by) := ⟨rfl, rfl, rfl, by decide +kernel, rfl, by decide +kernel, by decide +kernel⟩
theorem ok_parted_by {f : Addr} {fd : FuncData} (F : Fun K (PySem.Str.ofString "parted_by") (PySem.Str.ofString "parted_by") s_parted_by f fd) (hm : mg (PySem.Str.ofString "parted_by") = some (.ref f)) (b : Binds K fd [(PySem.Str.ofString "world"), (PySem.Str.ofString "start"), (PySem.Str.ofString "goal")] []) (G : Glb mg) (o_look_two : Ok P w K mg base 6 (PySem.Str.ofString "look_two") [(PySem.Str.ofString "world"), (PySem.Str.ofString "start"), (PySem.Str.ofString "goal")] (spD cv 3 d_look_two)) (o_kept_of : Ok P w K mg base 1 (PySem.Str.ofString "kept_of") [(PySem.Str.ofString "world")] (spD cv 1 d_kept_of)) (o_odd_at : Ok P w K mg base 1 (PySem.Str.ofString "odd_at") [(PySem.Str.ofString "row"), (PySem.Str.ofString "stand")] (spD cv 2 d_odd_at)) : Ok P w K mg base 7 (PySem.Str.ofString "parted_by") [(PySem.Str.ofString "world"), (PySem.Str.ofString "start"), (PySem.Str.ofString "goal")] (spD cv 3 d_parted_by) := by
  have nd := sc_parted_by.nd
  refine ⟨f, fd, hm, F.kp, b, ?_⟩
  refine F.okX sc_parted_by (fun vs H Q E h => h.1) (fun cdv A outer s H vs Q E hr h => ?_)
  refine ⟨_, (pss_cons (ps_expr (by exact pe_ok (W := (WD E)) o_look_two hr (by decide) (takes_of rfl rfl rfl rfl) (pa_cons (pv 0) (pa_cons (pv 1) (pa_cons (pv 2) pa_nil)))))
    (pss_cons (ps_for (passes_of rfl) rfl (pi_any (by exact pe_ok (W := (WD E)) o_kept_of hr (by decide) (takes_of rfl rfl rfl rfl) (pa_cons (pv 0) pa_nil))) (pg_name (i := 3) nd rfl (by first | exact Or.inl rfl | exact Or.inr rfl))
    (pss_one (ps_if (pt_cmpR (op_neD (hu64 hr)) (by exact pe_ok (W := (WD E)) o_odd_at hr (by decide) (takes_of rfl rfl rfl rfl) (pa_cons (pv 3) (pa_cons (pv 1) pa_nil))) (by exact pe_ok (W := (WD E)) o_odd_at hr (by decide) (takes_of rfl rfl rfl rfl) (pa_cons (pv 3) (pa_cons (pv 2) pa_nil))) (nomark _)) (pss_one (ps_ret (pv 3))) pss_nil)))
    (pss_one (ps_ret pe_non)))), ?_⟩
  exact body_of (N := [(PySem.Str.ofString "world"), (PySem.Str.ofString "start"), (PySem.Str.ofString "goal"), (PySem.Str.ofString "row")]) (o := o_parted_by) (by unfold o_parted_by; exact (ss_seq (ss_drop (se_call (sa_cons se_var (sa_cons se_var (sa_cons se_var sa_nil)))))
    (ss_seq (ss_for [3] (si_any (se_call (sa_cons se_var sa_nil))) sg_name
    (ss_if (st_tst (se_op ro_ne (se_call (sa_cons se_var (sa_cons se_var sa_nil))) (se_call (sa_cons se_var (sa_cons se_var sa_nil))))) (ss_ret se_var) ss_next))
    (ss_ret se_non)))) h
theorem sc_is_marks : FnScope [(PySem.Str.ofString "world"), (PySem.Str.ofString "thing"), (PySem.Str.ofString "sign")] [(PySem.Str.ofString "world"), (PySem.Str.ofString "thing")] (defScope s_is_marks) := ⟨rfl, rfl, rfl, by decide +kernel, rfl, by decide +kernel, by decide +kernel⟩
theorem ok_is_marks {f : Addr} {fd : FuncData} (F : Fun K (PySem.Str.ofString "is_marks") (PySem.Str.ofString "is_marks") s_is_marks f fd) (hm : mg (PySem.Str.ofString "is_marks") = some (.ref f)) (b : Binds K fd [(PySem.Str.ofString "world"), (PySem.Str.ofString "thing")] []) (G : Glb mg) : Ok P w K mg base 1 (PySem.Str.ofString "is_marks") [(PySem.Str.ofString "world"), (PySem.Str.ofString "thing")] (spD cv 2 d_is_marks) := by
  have nd := sc_is_marks.nd
  refine ⟨f, fd, hm, F.kp, b, ?_⟩
  refine F.okX sc_is_marks (fun vs H Q E h => h.1) (fun cdv A outer s H vs Q E hr h => ?_)
  refine ⟨_, (pss_one (ps_ret (pe_and (pe_callB call_isi (by rfl) G.b_isinstance bt_isinstance (pa_cons (pv 1) (pa_cons (pe_bltn (v := .ty "str") (by rfl) G.b_str bt_str rfl) pa_nil))) (pe_and (pe_cmpR (op_eqD (hu64 hr)) (pe_callB call_lenD (by rfl) G.b_len bt_len (pa_cons (pv 1) pa_nil)) (pe_ix ix_seq (pv 0) pe_int (fun _ _ => rfl)) (nomark _)) (pe_one (pe_notT (pe_lc (own := [((PySem.Str.ofString "sign"), 2)]) (g := (gName 2)) (tt := (tTest (tOp (rNotInA K) (tVar 2) (tC (.str (PySem.Str.ofString "01")))))) (te := (tVar 2)) (by rfl) nd (pi_any (pv 1)) (blkOk_by (own := [((PySem.Str.ofString "sign"), 2)]) (N := [(PySem.Str.ofString "world"), (PySem.Str.ofString "thing"), (PySem.Str.ofString "sign")]) (sc := defScope s_is_marks) (by decide +kernel)) (fun _ _ _ _ _ => (pg_name (i := 2) nd rfl (by first | exact Or.inl rfl | exact Or.inr rfl))) (fun _ _ _ _ _ => (pts_one (pt_cmpR (op_notInA (hu65 hr)) (pv 2) pe_str (by rfl)))) (fun _ _ _ _ _ => (pv 2))))))))), ?_⟩
  exact body_of (N := [(PySem.Str.ofString "world"), (PySem.Str.ofString "thing"), (PySem.Str.ofString "sign")]) (o := o_is_marks) (by unfold o_is_marks; exact (ss_ret (se_and (se_isi .str se_var) (se_and (se_op ro_eq (se_cb rc_lenD (sa_cons se_var sa_nil)) (se_op ro_ix se_var se_int)) (se_notT (se_l (sl_lc (si_any se_var) sg_name (st_tst (se_op ro_notIn se_var se_str)) se_var))))))) h
theorem sc_are_weights : FnScope [(PySem.Str.ofString "world"), (PySem.Str.ofString "thing"), (PySem.Str.ofString "one"), (PySem.Str.ofString "begin"), (PySem.Str.ofString "over"), (PySem.Str.ofString "end")] [(PySem.Str.ofString "world"), (PySem.Str.ofString "thing")] (defScope s_are_weights) := ⟨rfl, rfl, rfl, by decide +kernel, rfl, by decide +kernel, by decide +kernel⟩
theorem ok_are_weights {f : Addr} {fd : FuncData} (F : Fun K (PySem.Str.ofString "are_weights") (PySem.Str.ofString "are_weights") s_are_weights f fd) (hm : mg (PySem.Str.ofString "are_weights") = some (.ref f)) (b : Binds K fd [(PySem.Str.ofString "world"), (PySem.Str.ofString "thing")] []) (G : Glb mg) (o_look : Ok P w K mg base 4 (PySem.Str.ofString "look") [(PySem.Str.ofString "world")] (spD cv 1 d_look)) (o_is_within : Ok P w K mg base 1 (PySem.Str.ofString "is_within") [(PySem.Str.ofString "thing"), (PySem.Str.ofString "low"), (PySem.Str.ofString "high")] (spD cv 3 d_is_within)) : Ok P w K mg base 5 (PySem.Str.ofString "are_weights") [(PySem.Str.ofString "world"), (PySem.Str.ofString "thing")] (spD cv 2 d_are_weights) := by
  have nd := sc_are_weights.nd
  refine ⟨f, fd, hm, F.kp, b, ?_⟩
  refine F.okX sc_are_weights (fun vs H Q E h => h.1) (fun cdv A outer s H vs Q E hr h => ?_)
  refine ⟨_, (pss_cons (ps_expr (by exact pe_ok (W := (WD E)) o_look hr (by decide) (takes_of rfl rfl rfl rfl) (pa_cons (pv 0) pa_nil)))
    (pss_cons (ps_if (PW.pt (pw_or (pt_not (pt_tru (pe_callB call_isi (by rfl) G.b_isinstance bt_isinstance (pa_cons (pv 1) (pa_cons (pe_bltn (v := .ty "tuple") (by rfl) G.b_tuple bt_tuple rfl) pa_nil))))) (pw_or1 (pt_cmpR (op_neD (hu64 hr)) (pe_callB call_lenD (by rfl) G.b_len bt_len (pa_cons (pv 1) pa_nil)) (pe_ix ix_seq (pv 0) pe_int (fun _ _ => rfl)) (nomark _))))) (pss_one (ps_ret pe_bl)) pss_nil)
    (pss_cons (ps_if (pt_tru (pe_lc (own := [((PySem.Str.ofString "one"), 2)]) (g := (gName 2)) (tt := (tNot (tTru K (tCallS (spD cv 3 d_is_within) (WE W0) (tCons (tVar 2) (tCons (tUn (rU fun i => .int (-i)) (tC (.int 99))) (tCons (tC (.int 99)) tNil))))))) (te := (tVar 2)) (by rfl) nd (pi_any (pv 1)) (blkOk_by (own := [((PySem.Str.ofString "one"), 2)]) (N := [(PySem.Str.ofString "world"), (PySem.Str.ofString "thing"), (PySem.Str.ofString "one"), (PySem.Str.ofString "begin"), (PySem.Str.ofString "over"), (PySem.Str.ofString "end")]) (sc := defScope s_are_weights) (by decide +kernel)) (fun _ _ _ _ _ => (pg_name (i := 2) nd rfl (by first | exact Or.inl rfl | exact Or.inr rfl))) (fun _ _ _ _ _ => (pts_one (pt_not (pt_tru (pe_okc (W := W0) (sp := (spD cv 3 d_is_within)) (k := 1) (j := 4) (ps := [(PySem.Str.ofString "thing"), (PySem.Str.ofString "low"), (PySem.Str.ofString "high")]) (pa_cons (pv 2) (pa_cons (pe_un un_neg pe_int) (pa_cons pe_int pa_nil))) (o := by exact o_is_within) (hr := by exact hr)))))) (fun _ _ _ _ _ => (pv 2)))) (pss_one (ps_ret pe_bl)) pss_nil)
    (pss_one (ps_ret (pe_notT (pe_lc (own := [((PySem.Str.ofString "begin"), 3), ((PySem.Str.ofString "over"), 4), ((PySem.Str.ofString "end"), 5)]) (g := (gAny K 3 (gCons (gName 3) (gCons (gName 4) (gCons (gName 5) gNil))))) (tt := (tTest (tOp (rLtA K) (tOp (rPlus K) (tOp (rIx K) (tVar 1) (tVar 3)) (tOp (rIx K) (tVar 1) (tVar 4))) (tOp (rIx K) (tVar 1) (tVar 5))))) (te := (tC (.int 1))) (by rfl) nd (pi_any (pe_ix ix_seq (pv 0) pe_int (fun _ _ => rfl))) (blkOk_by (own := [((PySem.Str.ofString "begin"), 3), ((PySem.Str.ofString "over"), 4), ((PySem.Str.ofString "end"), 5)]) (N := [(PySem.Str.ofString "world"), (PySem.Str.ofString "thing"), (PySem.Str.ofString "one"), (PySem.Str.ofString "begin"), (PySem.Str.ofString "over"), (PySem.Str.ofString "end")]) (sc := defScope s_are_weights) (by decide +kernel)) (fun _ _ _ _ _ => (pg_any (n := 3) rfl (pgs_cons (pg_name (i := 3) nd rfl (by first | exact Or.inl rfl | exact Or.inr rfl)) (pgs_cons (pg_name (i := 4) nd rfl (by first | exact Or.inl rfl | exact Or.inr rfl)) (pgs_cons (pg_name (i := 5) nd rfl (by first | exact Or.inl rfl | exact Or.inr rfl)) pgs_nil))))) (fun _ _ _ _ _ => (pts_one (pt_cmpR (op_ltA) (pe_op op_plus (pe_ix ix_seq (pv 1) (pv 3) (fun _ _ => rfl)) (pe_ix ix_seq (pv 1) (pv 4) (fun _ _ => rfl))) (pe_ix ix_seq (pv 1) (pv 5) (fun _ _ => rfl)) (nomark _)))) (fun _ _ _ _ _ => pe_int)))))))), ?_⟩
  exact body_of (N := [(PySem.Str.ofString "world"), (PySem.Str.ofString "thing"), (PySem.Str.ofString "one"), (PySem.Str.ofString "begin"), (PySem.Str.ofString "over"), (PySem.Str.ofString "end")]) (o := o_are_weights) (by unfold o_are_weights; exact (ss_seq (ss_drop (se_call (sa_cons se_var sa_nil)))
    (ss_seq (ss_if (st_or (st_not (st_truD (se_isi .tuple se_var))) (st_tst (se_op ro_ne (se_cb rc_lenD (sa_cons se_var sa_nil)) (se_op ro_ix se_var se_int)))) (ss_ret se_bl) ss_next)
    (ss_seq (ss_if (st_truD (se_l (sl_lc (si_any se_var) sg_name (st_not (st_truD (se_call (sa_cons se_var (sa_cons (se_un ru_neg se_int) (sa_cons se_int sa_nil)))))) se_var))) (ss_ret se_bl) ss_next)
    (ss_ret (se_notT (se_l (sl_lc (si_any (se_op ro_ix se_var se_int)) (sg_any (sgs_cons sg_name (sgs_cons sg_name (sgs_cons sg_name sgs_nil)))) (st_tst (se_op ro_lt (se_op ro_plus (se_op ro_ix se_var se_var) (se_op ro_ix se_var se_var)) (se_op ro_ix se_var se_var))) se_int)))))))) h
theorem sc_weight : FnScope [(PySem.Str.ofString "stand"), (PySem.Str.ofString "weights"), (PySem.Str.ofString "one"), (PySem.Str.ofString "sign")] [(PySem.Str.ofString "stand"), (PySem.Str.ofString "weights")] (defScope s_weight) := ⟨rfl, rfl, rfl, by decide +kernel, rfl, by decide +kernel, by decide +kernel⟩
theorem ok_weight {f : Addr} {fd : FuncData} (F : Fun K (PySem.Str.ofString "weight") (PySem.Str.ofString "weight") s_weight f fd) (hm : mg (PySem.Str.ofString "weight") = some (.ref f)) (b : Binds K fd [(PySem.Str.ofString "stand"), (PySem.Str.ofString "weights")] []) (G : Glb mg) : Ok P w K mg base 1 (PySem.Str.ofString "weight") [(PySem.Str.ofString "stand"), (PySem.Str.ofString "weights")] (spD cv 2 d_weight) := by
  have nd := sc_weight.nd
  refine ⟨f, fd, hm, F.kp, b, ?_⟩
  refine F.okX sc_weight (fun vs H Q E h => h.1) (fun cdv A outer s H vs Q E hr h => ?_)
  refine ⟨_, (pss_one (ps_ret (pe_callB (cr_sum rfl) (by rfl) G.b_sum bt_sum (pa_cons (pe_lc (own := [((PySem.Str.ofString "one"), 2), ((PySem.Str.ofString "sign"), 3)]) (g := (gAny K 2 (gCons (gName 2) (gCons (gName 3) gNil)))) (tt := (tTest (tOp (rEqD K) (tVar 3) (tC (.str (PySem.Str.ofString "o")))))) (te := (tVar 2)) (by rfl) nd (pi_zipX (by rfl) G.b_zip (pa_cons (pv 1) (pa_cons (pv 0) pa_nil))) (blkOk_by (own := [((PySem.Str.ofString "one"), 2), ((PySem.Str.ofString "sign"), 3)]) (N := [(PySem.Str.ofString "stand"), (PySem.Str.ofString "weights"), (PySem.Str.ofString "one"), (PySem.Str.ofString "sign")]) (sc := defScope s_weight) (by decide +kernel)) (fun _ _ _ _ _ => (pg_any (n := 2) rfl (pgs_cons (pg_name (i := 2) nd rfl (by first | exact Or.inl rfl | exact Or.inr rfl)) (pgs_cons (pg_name (i := 3) nd rfl (by first | exact Or.inl rfl | exact Or.inr rfl)) pgs_nil)))) (fun _ _ _ _ _ => (pts_one (pt_cmpR (op_eqD (hu64 hr)) (pv 3) pe_str (nomark _)))) (fun _ _ _ _ _ => (pv 2))) pa_nil)))), ?_⟩
  exact body_of (N := [(PySem.Str.ofString "stand"), (PySem.Str.ofString "weights"), (PySem.Str.ofString "one"), (PySem.Str.ofString "sign")]) (o := o_weight) (by unfold o_weight; exact (ss_ret (se_cb rc_sum (sa_cons (se_l (sl_lc (si_zip (sa_cons se_var (sa_cons se_var sa_nil))) (sg_any (sgs_cons sg_name (sgs_cons sg_name sgs_nil))) (st_tst (se_op ro_eq se_var se_str)) se_var)) sa_nil)))) h
theorem sc_paper : FnScope [(PySem.Str.ofString "world"), (PySem.Str.ofString "start"), (PySem.Str.ofString "goal"), (PySem.Str.ofString "row")] [(PySem.Str.ofString "world"), (PySem.Str.ofString "start"), (PySem.Str.ofString "goal")] (defScope s_paper) := ⟨rfl, rfl, rfl, by decide +kernel, rfl, by decide +kernel, by decide +kernel⟩
theorem ok_paper {f : Addr} {fd : FuncData} (F : Fun K (PySem.Str.ofString "paper") (PySem.Str.ofString "paper") s_paper f fd) (hm : mg (PySem.Str.ofString "paper") = some (.ref f)) (b : Binds K fd [(PySem.Str.ofString "world"), (PySem.Str.ofString "start"), (PySem.Str.ofString "goal")] []) (G : Glb mg) (o_look_two : Ok P w K mg base 6 (PySem.Str.ofString "look_two") [(PySem.Str.ofString "world"), (PySem.Str.ofString "start"), (PySem.Str.ofString "goal")] (spD cv 3 d_look_two)) (o_all_from : Ok P w K mg base 3 (PySem.Str.ofString "all_from") [(PySem.Str.ofString "world"), (PySem.Str.ofString "stand")] (spK cv 2 d_all_from)) (o_row_to : Ok P w K mg base 7 (PySem.Str.ofString "row_to") [(PySem.Str.ofString "world"), (PySem.Str.ofString "start"), (PySem.Str.ofString "goal")] (spD cv 3 d_row_to)) (o_parted_by : Ok P w K mg base 7 (PySem.Str.ofString "parted_by") [(PySem.Str.ofString "world"), (PySem.Str.ofString "start"), (PySem.Str.ofString "goal")] (spD cv 3 d_parted_by)) (o_all_to : Ok P w K mg base 3 (PySem.Str.ofString "all_to") [(PySem.Str.ofString "world"), (PySem.Str.ofString "stand")] (spK cv 2 d_all_to)) : Ok P w K mg base 8 (PySem.Str.ofString "paper") [(PySem.Str.ofString "world"), (PySem.Str.ofString "start"), (PySem.Str.ofString "goal")] (spD cv 3 d_paper) := by
  have nd := sc_paper.nd
  refine ⟨f, fd, hm, F.kp, b, ?_⟩
  refine F.okX sc_paper (fun vs H Q E h => h.1) (fun cdv A outer s H vs Q E hr h => ?_)
  refine ⟨_, (pss_cons (ps_expr (by exact pe_ok (W := (WD E)) o_look_two hr (by decide) (takes_of rfl rfl rfl rfl) (pa_cons (pv 0) (pa_cons (pv 1) (pa_cons (pv 2) pa_nil)))))
    (pss_cons (ps_if (pt_cmp (pc_din (hu1 hr) (pv 2) (by exact pe_ok (W := (WD E)) o_all_from hr (by decide) (takes_of rfl rfl rfl rfl) (pa_cons (pv 0) (pa_cons (pv 1) pa_nil))))) (pss_one (ps_ret (pe_tup (pa_cons pe_str (pa_cons (pe_callTy call_tupD (by rfl) G.b_tuple bt_tuple (pa_cons (by exact pe_ok (W := (WD E)) o_row_to hr (by decide) (takes_of rfl rfl rfl rfl) (pa_cons (pv 0) (pa_cons (pv 1) (pa_cons (pv 2) pa_nil)))) pa_nil)) pa_nil))))) pss_nil)
    (pss_cons (ps_set (i := 3) nd rfl (by first | exact Or.inl rfl | exact Or.inr rfl) (by exact (by exact pe_ok (W := (WD E)) o_parted_by hr (by decide) (takes_of rfl rfl rfl rfl) (pa_cons (pv 0) (pa_cons (pv 1) (pa_cons (pv 2) pa_nil))))))
    (pss_cons (ps_if (pt_cmpR (op_isNotA) (pv 3) pe_non (nomark _)) (pss_one (ps_ret (pe_tup (pa_cons pe_str (pa_cons (pv 3) pa_nil))))) pss_nil)
    (pss_one (ps_ret (pe_tup (pa_cons pe_str (pa_cons (pe_callTy call_tupD (by rfl) G.b_tuple bt_tuple (pa_cons (pe_callB (cr_sortedDX rfl) (by rfl) G.b_sorted bt_sorted (pa_cons (by exact pe_ok (W := (WD E)) o_all_to hr (by decide) (takes_of rfl rfl rfl rfl) (pa_cons (pv 0) (pa_cons (pv 2) pa_nil))) pa_nil)) pa_nil)) pa_nil))))))))), ?_⟩
  exact body_of (N := [(PySem.Str.ofString "world"), (PySem.Str.ofString "start"), (PySem.Str.ofString "goal"), (PySem.Str.ofString "row")]) (o := o_paper) (by unfold o_paper; exact (ss_seq (ss_drop (se_call (sa_cons se_var (sa_cons se_var (sa_cons se_var sa_nil)))))
    (ss_seq (ss_if (st_tb (se_dinN (neg := false) rfl se_var (sk_call (sa_cons se_var (sa_cons se_var sa_nil))))) (ss_ret (se_tup (sa_cons se_str (sa_cons (se_cb rc_tupD (sa_cons (se_call (sa_cons se_var (sa_cons se_var (sa_cons se_var sa_nil)))) sa_nil)) sa_nil)))) ss_next)
    (ss_seq (ss_set (se_call (sa_cons se_var (sa_cons se_var (sa_cons se_var sa_nil)))))
    (ss_seq (ss_if (st_tst (se_op ro_isNot se_var se_non)) (ss_ret (se_tup (sa_cons se_str (sa_cons se_var sa_nil)))) ss_next)
    (ss_ret (se_tup (sa_cons se_str (sa_cons (se_cb rc_tupD (sa_cons (se_l (sl_sortX (sk_call (sa_cons se_var (sa_cons se_var sa_nil))))) sa_nil)) sa_nil))))))))) h
theorem sc_is_row : FnScope [(PySem.Str.ofString "world"), (PySem.Str.ofString "start"), (PySem.Str.ofString "goal"), (PySem.Str.ofString "thing"), (PySem.Str.ofString "here"), (PySem.Str.ofString "number")] [(PySem.Str.ofString "world"), (PySem.Str.ofString "start"), (PySem.Str.ofString "goal"), (PySem.Str.ofString "thing")] (defScope s_is_row) := ⟨rfl, rfl, rfl, by decide +kernel, rfl, by decide +kernel, by decide +kernel⟩
theorem ok_is_row {f : Addr} {fd : FuncData} (F : Fun K (PySem.Str.ofString "is_row") (PySem.Str.ofString "is_row") s_is_row f fd) (hm : mg (PySem.Str.ofString "is_row") = some (.ref f)) (b : Binds K fd [(PySem.Str.ofString "world"), (PySem.Str.ofString "start"), (PySem.Str.ofString "goal"), (PySem.Str.ofString "thing")] []) (G : Glb mg) (o_is_within : Ok P w K mg base 1 (PySem.Str.ofString "is_within") [(PySem.Str.ofString "thing"), (PySem.Str.ofString "low"), (PySem.Str.ofString "high")] (spD cv 3 d_is_within)) (o_has : Ok P w K mg base 1 (PySem.Str.ofString "has") [(PySem.Str.ofString "stand"), (PySem.Str.ofString "jump"), (PySem.Str.ofString "signs")] (spD cv 3 d_has)) (o_put : Ok P w K mg base 1 (PySem.Str.ofString "put") [(PySem.Str.ofString "stand"), (PySem.Str.ofString "jump"), (PySem.Str.ofString "signs")] (spD cv 3 d_put)) : Ok P w K mg base 2 (PySem.Str.ofString "is_row") [(PySem.Str.ofString "world"), (PySem.Str.ofString "start"), (PySem.Str.ofString "goal"), (PySem.Str.ofString "thing")] (spD cv 4 d_is_row) := by
  have nd := sc_is_row.nd
  refine ⟨f, fd, hm, F.kp, b, ?_⟩
  refine F.okX sc_is_row (fun vs H Q E h => h.1) (fun cdv A outer s H vs Q E hr h => ?_)
  refine ⟨_, (pss_cons (ps_set (i := 4) nd rfl (by first | exact Or.inl rfl | exact Or.inr rfl) (by exact (pv 1)))
    (pss_cons (ps_for (passes_of rfl) rfl (pi_any (pv 3)) (pg_name (i := 5) nd rfl (by first | exact Or.inl rfl | exact Or.inr rfl))
    (pss_cons (ps_if (PW.pt (pw_or (pt_not (pt_tru (by exact pe_ok (W := (WD E)) o_is_within hr (by decide) (takes_of rfl rfl rfl rfl) (pa_cons (pv 5) (pa_cons pe_int (pa_cons (pe_op op_sub (pe_callB call_lenD (by rfl) G.b_len bt_len (pa_cons (pe_ix ix_seq (pv 0) pe_int (fun _ _ => rfl)) pa_nil)) pe_int) pa_nil)))))) (pw_or1 (pt_not (pt_tru (by exact pe_ok (W := (WD E)) o_has hr (by decide) (takes_of rfl rfl rfl rfl) (pa_cons (pv 4) (pa_cons (pe_ix ix_seq (pe_ix ix_seq (pv 0) pe_int (fun _ _ => rfl)) (pv 5) (fun _ _ => rfl)) (pa_cons pe_str pa_nil))))))))) (pss_one (ps_ret pe_bl)) pss_nil)
    (pss_one (ps_set (i := 4) nd rfl (by first | exact Or.inl rfl | exact Or.inr rfl) (by exact (by exact pe_ok (W := (WD E)) o_put hr (by decide) (takes_of rfl rfl rfl rfl) (pa_cons (pv 4) (pa_cons (pe_ix ix_seq (pe_ix ix_seq (pv 0) pe_int (fun _ _ => rfl)) (pv 5) (fun _ _ => rfl)) (pa_cons pe_str pa_nil)))))))))
    (pss_one (ps_ret (pe_cmpR (op_eqD (hu64 hr)) (pv 4) (pv 2) (nomark _)))))), ?_⟩
  exact body_of (N := [(PySem.Str.ofString "world"), (PySem.Str.ofString "start"), (PySem.Str.ofString "goal"), (PySem.Str.ofString "thing"), (PySem.Str.ofString "here"), (PySem.Str.ofString "number")]) (o := o_is_row) (by unfold o_is_row; exact (ss_seq (ss_set se_var)
    (ss_seq (ss_for [5] (si_any se_var) sg_name
    (ss_seq (ss_if (st_or (st_not (st_truD (se_call (sa_cons se_var (sa_cons se_int (sa_cons (se_op ro_sub (se_cb rc_lenD (sa_cons (se_op ro_ix se_var se_int) sa_nil)) se_int) sa_nil)))))) (st_not (st_truD (se_call (sa_cons se_var (sa_cons (se_op ro_ix (se_op ro_ix se_var se_int) se_var) (sa_cons se_str sa_nil))))))) (ss_ret se_bl) ss_next)
    (ss_set (se_call (sa_cons se_var (sa_cons (se_op ro_ix (se_op ro_ix se_var se_int) se_var) (sa_cons se_str sa_nil)))))))
    (ss_ret (se_op ro_eq se_var se_var))))) h
theorem sc_is_closed : FnScope [(PySem.Str.ofString "world"), (PySem.Str.ofString "start"), (PySem.Str.ofString "goal"), (PySem.Str.ofString "thing"), (PySem.Str.ofString "known"), (PySem.Str.ofString "one"), (PySem.Str.ofString "number"), (PySem.Str.ofString "other")] [(PySem.Str.ofString "world"), (PySem.Str.ofString "start"), (PySem.Str.ofString "goal"), (PySem.Str.ofString "thing")] (defScope s_is_closed) := ⟨rfl, rfl, rfl, by decide +kernel, rfl, by decide +kernel, by decide +kernel⟩
theorem ok_is_closed {f : Addr} {fd : FuncData} (F : Fun K (PySem.Str.ofString "is_closed") (PySem.Str.ofString "is_closed") s_is_closed f fd) (hm : mg (PySem.Str.ofString "is_closed") = some (.ref f)) (b : Binds K fd [(PySem.Str.ofString "world"), (PySem.Str.ofString "start"), (PySem.Str.ofString "goal"), (PySem.Str.ofString "thing")] []) (G : Glb mg) (o_is_stand : Ok P w K mg base 1 (PySem.Str.ofString "is_stand") [(PySem.Str.ofString "world"), (PySem.Str.ofString "thing")] (spD cv 2 d_is_stand)) (o_back_of : Ok P w K mg base 2 (PySem.Str.ofString "back_of") [(PySem.Str.ofString "world"), (PySem.Str.ofString "stand")] (spD cv 2 d_back_of)) : Ok P w K mg base 3 (PySem.Str.ofString "is_closed") [(PySem.Str.ofString "world"), (PySem.Str.ofString "start"), (PySem.Str.ofString "goal"), (PySem.Str.ofString "thing")] (spD cv 4 d_is_closed) := by
  have nd := sc_is_closed.nd
  refine ⟨f, fd, hm, F.kp, b, ?_⟩
  refine F.okX sc_is_closed (fun vs H Q E h => h.1) (fun cdv A outer s H vs Q E hr h => ?_)
  refine ⟨_, (pss_cons (ps_if (PW.pt (pw_or (pt_tru (pe_lc (own := [((PySem.Str.ofString "one"), 5)]) (g := (gName 5)) (tt := (tNot (tTru K (tCallS (spD cv 2 d_is_stand) (WE W0) (tCons (tVar 0) (tCons (tVar 5) tNil)))))) (te := (tVar 5)) (by rfl) nd (pi_any (pv 3)) (blkOk_by (own := [((PySem.Str.ofString "one"), 5)]) (N := [(PySem.Str.ofString "world"), (PySem.Str.ofString "start"), (PySem.Str.ofString "goal"), (PySem.Str.ofString "thing"), (PySem.Str.ofString "known"), (PySem.Str.ofString "one"), (PySem.Str.ofString "number"), (PySem.Str.ofString "other")]) (sc := defScope s_is_closed) (by decide +kernel)) (fun _ _ _ _ _ => (pg_name (i := 5) nd rfl (by first | exact Or.inl rfl | exact Or.inr rfl))) (fun _ _ _ _ _ => (pts_one (pt_not (pt_tru (pe_okc (W := W0) (sp := (spD cv 2 d_is_stand)) (k := 1) (j := 2) (ps := [(PySem.Str.ofString "world"), (PySem.Str.ofString "thing")]) (pa_cons (pv 0) (pa_cons (pv 5) pa_nil)) (o := by exact o_is_stand) (hr := by exact hr)))))) (fun _ _ _ _ _ => (pv 5)))) (pw_or (pt_cmpR (op_notInA (hu65 hr)) (pv 2) (pv 3) (by rfl)) (pw_or1 (pt_cmpR (op_inA (hu65 hr)) (pv 1) (pv 3) (by rfl)))))) (pss_one (ps_ret pe_bl)) pss_nil)
    (pss_cons (ps_set (i := 4) nd rfl (by first | exact Or.inl rfl | exact Or.inr rfl) (by exact (pe_lockV (pe_callTy (cr_dictP rfl) (by rfl) G.b_dict bt_dict (pa_cons (pe_lc (own := [((PySem.Str.ofString "one"), 5)]) (g := (gName 5)) (tt := tYes) (te := (tTup (tCons (tVar 5) (tCons (tC (.bl true)) tNil)))) (by rfl) nd (pi_any (pv 3)) (blkOk_by (own := [((PySem.Str.ofString "one"), 5)]) (N := [(PySem.Str.ofString "world"), (PySem.Str.ofString "start"), (PySem.Str.ofString "goal"), (PySem.Str.ofString "thing"), (PySem.Str.ofString "known"), (PySem.Str.ofString "one"), (PySem.Str.ofString "number"), (PySem.Str.ofString "other")]) (sc := defScope s_is_closed) (by decide +kernel)) (fun _ _ _ _ _ => (pg_name (i := 5) nd rfl (by first | exact Or.inl rfl | exact Or.inr rfl))) (fun _ _ _ _ _ => pts_nil) (fun _ _ _ _ _ => (pe_tup (pa_cons (pv 5) (pa_cons pe_bl pa_nil))))) pa_nil)))))
    (pss_cons (ps_for (passes_of rfl) rfl (pi_any (pv 3)) (pg_name (i := 5) nd rfl (by first | exact Or.inl rfl | exact Or.inr rfl))
    (pss_one (ps_if (pt_tru (pe_lc (own := [((PySem.Str.ofString "number"), 6), ((PySem.Str.ofString "other"), 7)]) (g := (gAny K 2 (gCons (gName 6) (gCons (gName 7) gNil)))) (tt := (tB (tDNotIn (tVar 7) (tVar 4)))) (te := (tVar 7)) (by rfl) nd (pi_any (by exact pe_ok (W := (WD E)) o_back_of hr (by decide) (takes_of rfl rfl rfl rfl) (pa_cons (pv 0) (pa_cons (pv 5) pa_nil)))) (blkOk_by (own := [((PySem.Str.ofString "number"), 6), ((PySem.Str.ofString "other"), 7)]) (N := [(PySem.Str.ofString "world"), (PySem.Str.ofString "start"), (PySem.Str.ofString "goal"), (PySem.Str.ofString "thing"), (PySem.Str.ofString "known"), (PySem.Str.ofString "one"), (PySem.Str.ofString "number"), (PySem.Str.ofString "other")]) (sc := defScope s_is_closed) (by decide +kernel)) (fun _ _ _ _ _ => (pg_any (n := 2) rfl (pgs_cons (pg_name (i := 6) nd rfl (by first | exact Or.inl rfl | exact Or.inr rfl)) (pgs_cons (pg_name (i := 7) nd rfl (by first | exact Or.inl rfl | exact Or.inr rfl)) pgs_nil)))) (fun _ _ _ _ _ => (pts_one (pt_cmp (pc_dnotin (hu1 hr) (pv 7) (pv 4))))) (fun _ _ _ _ _ => (pv 7)))) (pss_one (ps_ret pe_bl)) pss_nil)))
    (pss_one (ps_ret pe_bl))))), ?_⟩
  exact body_of (N := [(PySem.Str.ofString "world"), (PySem.Str.ofString "start"), (PySem.Str.ofString "goal"), (PySem.Str.ofString "thing"), (PySem.Str.ofString "known"), (PySem.Str.ofString "one"), (PySem.Str.ofString "number"), (PySem.Str.ofString "other")]) (o := o_is_closed) (by unfold o_is_closed; exact (ss_seq (ss_if (st_or (st_truD (se_l (sl_lc (si_any se_var) sg_name (st_not (st_truD (se_call (sa_cons se_var (sa_cons se_var sa_nil))))) se_var))) (st_or (st_tst (se_op ro_notIn se_var se_var)) (st_tst (se_op ro_in se_var se_var)))) (ss_ret se_bl) ss_next)
    (ss_seq (ss_setLk (kl_lock (sk_dictP (se_l (sl_lc (si_any se_var) sg_name st_yes (se_tup (sa_cons se_var (sa_cons se_bl sa_nil))))))))
    (ss_seq (ss_for [5] (si_any se_var) sg_name
    (ss_if (st_truD (se_l (sl_lc (si_any (se_call (sa_cons se_var (sa_cons se_var sa_nil)))) (sg_any (sgs_cons sg_name (sgs_cons sg_name sgs_nil))) (st_tb (se_dinO (neg := true) rfl se_var)) se_var))) (ss_ret se_bl) ss_next))
    (ss_ret se_bl))))) h
theorem sc_is_paper : FnScope [(PySem.Str.ofString "world"), (PySem.Str.ofString "start"), (PySem.Str.ofString "goal"), (PySem.Str.ofString "thing")] [(PySem.Str.ofString "world"), (PySem.Str.ofString "start"), (PySem.Str.ofString "goal"), (PySem.Str.ofString "thing")] (defScope s_is_paper) := ⟨rfl, rfl, rfl, by decide +kernel, rfl, by decide +kernel, by decide +kernel⟩
theorem ok_is_paper {f : Addr} {fd : FuncData} (F : Fun K (PySem.Str.ofString "is_paper") (PySem.Str.ofString "is_paper") s_is_paper f fd) (hm : mg (PySem.Str.ofString "is_paper") = some (.ref f)) (b : Binds K fd [(PySem.Str.ofString "world"), (PySem.Str.ofString "start"), (PySem.Str.ofString "goal"), (PySem.Str.ofString "thing")] []) (G : Glb mg) (o_look_two : Ok P w K mg base 6 (PySem.Str.ofString "look_two") [(PySem.Str.ofString "world"), (PySem.Str.ofString "start"), (PySem.Str.ofString "goal")] (spD cv 3 d_look_two)) (o_is_marks : Ok P w K mg base 1 (PySem.Str.ofString "is_marks") [(PySem.Str.ofString "world"), (PySem.Str.ofString "thing")] (spD cv 2 d_is_marks)) (o_is_kept : Ok P w K mg base 1 (PySem.Str.ofString "is_kept") [(PySem.Str.ofString "world"), (PySem.Str.ofString "row")] (spD cv 2 d_is_kept)) (o_odd_at : Ok P w K mg base 1 (PySem.Str.ofString "odd_at") [(PySem.Str.ofString "row"), (PySem.Str.ofString "stand")] (spD cv 2 d_odd_at)) (o_is_row : Ok P w K mg base 2 (PySem.Str.ofString "is_row") [(PySem.Str.ofString "world"), (PySem.Str.ofString "start"), (PySem.Str.ofString "goal"), (PySem.Str.ofString "thing")] (spD cv 4 d_is_row)) (o_are_weights : Ok P w K mg base 5 (PySem.Str.ofString "are_weights") [(PySem.Str.ofString "world"), (PySem.Str.ofString "thing")] (spD cv 2 d_are_weights)) (o_weight : Ok P w K mg base 1 (PySem.Str.ofString "weight") [(PySem.Str.ofString "stand"), (PySem.Str.ofString "weights")] (spD cv 2 d_weight)) (o_is_closed : Ok P w K mg base 3 (PySem.Str.ofString "is_closed") [(PySem.Str.ofString "world"), (PySem.Str.ofString "start"), (PySem.Str.ofString "goal"), (PySem.Str.ofString "thing")] (spD cv 4 d_is_closed)) : Ok P w K mg base 7 (PySem.Str.ofString "is_paper") [(PySem.Str.ofString "world"), (PySem.Str.ofString "start"), (PySem.Str.ofString "goal"), (PySem.Str.ofString "thing")] (spD cv 4 d_is_paper) := by
  have nd := sc_is_paper.nd
  refine ⟨f, fd, hm, F.kp, b, ?_⟩
  refine F.okX sc_is_paper (fun vs H Q E h => h.1) (fun cdv A outer s H vs Q E hr h => ?_)
  refine ⟨_, (pss_cons (ps_expr (by exact pe_ok (W := (WD E)) o_look_two hr (by decide) (takes_of rfl rfl rfl rfl) (pa_cons (pv 0) (pa_cons (pv 1) (pa_cons (pv 2) pa_nil)))))
    (pss_cons (ps_if (PW.pt (pw_or (pt_not (pt_tru (pe_callB call_isi (by rfl) G.b_isinstance bt_isinstance (pa_cons (pv 3) (pa_cons (pe_bltn (v := .ty "tuple") (by rfl) G.b_tuple bt_tuple rfl) pa_nil))))) (pw_or (pt_cmpR (op_neD (hu64 hr)) (pe_callB call_lenD (by rfl) G.b_len bt_len (pa_cons (pv 3) pa_nil)) pe_int (nomark _)) (pw_or1 (pt_not (pt_tru (pe_callB call_isi (by rfl) G.b_isinstance bt_isinstance (pa_cons (pe_ix ix_seq (pv 3) pe_int (fun _ _ => rfl)) (pa_cons (pe_bltn (v := .ty "str") (by rfl) G.b_str bt_str rfl) pa_nil))))))))) (pss_one (ps_ret pe_bl)) pss_nil)
    (pss_cons (ps_if (pt_cmpR (op_eqD (hu64 hr)) (pe_ix ix_seq (pv 3) pe_int (fun _ _ => rfl)) pe_str (nomark _)) (pss_cons (ps_if (PW.pt (pw_or (pt_not (pt_tru (by exact pe_ok (W := (WD E)) o_is_marks hr (by decide) (takes_of rfl rfl rfl rfl) (pa_cons (pv 0) (pa_cons (pe_ix ix_seq (pv 3) pe_int (fun _ _ => rfl)) pa_nil))))) (pw_or1 (pt_not (pt_tru (by exact pe_ok (W := (WD E)) o_is_kept hr (by decide) (takes_of rfl rfl rfl rfl) (pa_cons (pv 0) (pa_cons (pe_ix ix_seq (pv 3) pe_int (fun _ _ => rfl)) pa_nil)))))))) (pss_one (ps_ret pe_bl)) pss_nil)
    (pss_one (ps_ret (pe_cmpR (op_neD (hu64 hr)) (by exact pe_ok (W := (WD E)) o_odd_at hr (by decide) (takes_of rfl rfl rfl rfl) (pa_cons (pe_ix ix_seq (pv 3) pe_int (fun _ _ => rfl)) (pa_cons (pv 1) pa_nil))) (by exact pe_ok (W := (WD E)) o_odd_at hr (by decide) (takes_of rfl rfl rfl rfl) (pa_cons (pe_ix ix_seq (pv 3) pe_int (fun _ _ => rfl)) (pa_cons (pv 2) pa_nil))) (nomark _))))) pss_nil)
    (pss_cons (ps_if (pt_not (pt_tru (pe_callB call_isi (by rfl) G.b_isinstance bt_isinstance (pa_cons (pe_ix ix_seq (pv 3) pe_int (fun _ _ => rfl)) (pa_cons (pe_bltn (v := .ty "tuple") (by rfl) G.b_tuple bt_tuple rfl) pa_nil))))) (pss_one (ps_ret pe_bl)) pss_nil)
    (pss_cons (ps_if (pt_cmpR (op_eqD (hu64 hr)) (pe_ix ix_seq (pv 3) pe_int (fun _ _ => rfl)) pe_str (nomark _)) (pss_one (ps_ret (by exact pe_ok (W := (WD E)) o_is_row hr (by decide) (takes_of rfl rfl rfl rfl) (pa_cons (pv 0) (pa_cons (pv 1) (pa_cons (pv 2) (pa_cons (pe_ix ix_seq (pv 3) pe_int (fun _ _ => rfl)) pa_nil))))))) pss_nil)
    (pss_cons (ps_if (pt_cmpR (op_eqD (hu64 hr)) (pe_ix ix_seq (pv 3) pe_int (fun _ _ => rfl)) pe_str (nomark _)) (pss_one (ps_ret (pe_and (by exact pe_ok (W := (WD E)) o_are_weights hr (by decide) (takes_of rfl rfl rfl rfl) (pa_cons (pv 0) (pa_cons (pe_ix ix_seq (pv 3) pe_int (fun _ _ => rfl)) pa_nil))) (pe_one (pe_cmpR (op_ltA) (by exact pe_ok (W := (WD E)) o_weight hr (by decide) (takes_of rfl rfl rfl rfl) (pa_cons (pv 1) (pa_cons (pe_ix ix_seq (pv 3) pe_int (fun _ _ => rfl)) pa_nil))) (by exact pe_ok (W := (WD E)) o_weight hr (by decide) (takes_of rfl rfl rfl rfl) (pa_cons (pv 2) (pa_cons (pe_ix ix_seq (pv 3) pe_int (fun _ _ => rfl)) pa_nil))) (nomark _)))))) pss_nil)
    (pss_one (ps_ret (pe_and (pe_cmpR (op_eqD (hu64 hr)) (pe_ix ix_seq (pv 3) pe_int (fun _ _ => rfl)) pe_str (nomark _)) (pe_one (by exact pe_ok (W := (WD E)) o_is_closed hr (by decide) (takes_of rfl rfl rfl rfl) (pa_cons (pv 0) (pa_cons (pv 1) (pa_cons (pv 2) (pa_cons (pe_ix ix_seq (pv 3) pe_int (fun _ _ => rfl)) pa_nil))))))))))))))), ?_⟩
  exact body_of (N := [(PySem.Str.ofString "world"), (PySem.Str.ofString "start"), (PySem.Str.ofString "goal"), (PySem.Str.ofString "thing")]) (o := o_is_paper) (by unfold o_is_paper; exact (ss_seq (ss_drop (se_call (sa_cons se_var (sa_cons se_var (sa_cons se_var sa_nil)))))
    (ss_seq (ss_if (st_or (st_not (st_truD (se_isi .tuple se_var))) (st_or (st_tst (se_op ro_ne (se_cb rc_lenD (sa_cons se_var sa_nil)) se_int)) (st_not (st_truD (se_isi .str (se_op ro_ix se_var se_int)))))) (ss_ret se_bl) ss_next)
    (ss_seq (ss_if (st_tst (se_op ro_eq (se_op ro_ix se_var se_int) se_str)) (ss_seq (ss_if (st_or (st_not (st_truD (se_call (sa_cons se_var (sa_cons (se_op ro_ix se_var se_int) sa_nil))))) (st_not (st_truD (se_call (sa_cons se_var (sa_cons (se_op ro_ix se_var se_int) sa_nil)))))) (ss_ret se_bl) ss_next)
    (ss_ret (se_op ro_ne (se_call (sa_cons (se_op ro_ix se_var se_int) (sa_cons se_var sa_nil))) (se_call (sa_cons (se_op ro_ix se_var se_int) (sa_cons se_var sa_nil)))))) ss_next)
    (ss_seq (ss_if (st_not (st_truD (se_isi .tuple (se_op ro_ix se_var se_int)))) (ss_ret se_bl) ss_next)
    (ss_seq (ss_if (st_tst (se_op ro_eq (se_op ro_ix se_var se_int) se_str)) (ss_ret (se_call (sa_cons se_var (sa_cons se_var (sa_cons se_var (sa_cons (se_op ro_ix se_var se_int) sa_nil)))))) ss_next)
    (ss_seq (ss_if (st_tst (se_op ro_eq (se_op ro_ix se_var se_int) se_str)) (ss_ret (se_and (se_call (sa_cons se_var (sa_cons (se_op ro_ix se_var se_int) sa_nil))) (se_op ro_lt (se_call (sa_cons se_var (sa_cons (se_op ro_ix se_var se_int) sa_nil))) (se_call (sa_cons se_var (sa_cons (se_op ro_ix se_var se_int) sa_nil)))))) ss_next)
    (ss_ret (se_and (se_op ro_eq (se_op ro_ix se_var se_int) se_str) (se_call (sa_cons se_var (sa_cons se_var (sa_cons se_var (sa_cons (se_op ro_ix se_var se_int) sa_nil)))))))))))))) h
theorem sc__law_cell : FnScope [(PySem.Str.ofString "_law_script"), (PySem.Str.ofString "_law_k")] [(PySem.Str.ofString "_law_script"), (PySem.Str.ofString "_law_k")] (defScope s__law_cell) := ⟨rfl, rfl, rfl, by decide +kernel, rfl, by decide +kernel, by decide +kernel⟩
theorem ok__law_cell {f : Addr} {fd : FuncData} (F : Fun K (PySem.Str.ofString "_law_cell") (PySem.Str.ofString "_law_cell") s__law_cell f fd) (hm : mg (PySem.Str.ofString "_law_cell") = some (.ref f)) (b : Binds K fd [(PySem.Str.ofString "_law_script"), (PySem.Str.ofString "_law_k")] []) (G : Glb mg) : Ok P w K mg base 1 (PySem.Str.ofString "_law_cell") [(PySem.Str.ofString "_law_script"), (PySem.Str.ofString "_law_k")] (spD cv 2 d__law_cell) := by
  have nd := sc__law_cell.nd
  refine ⟨f, fd, hm, F.kp, b, ?_⟩
  refine F.okX sc__law_cell (fun vs H Q E h => h.1) (fun cdv A outer s H vs Q E hr h => ?_)
  refine ⟨_, (pss_cons (ps_if (pt_cmpR (op_ltA) (pv 1) (pe_callB call_lenD (by rfl) G.b_len bt_len (pa_cons (pv 0) pa_nil)) (nomark _)) (pss_one (ps_ret (pe_ix ix_seq (pv 0) (pv 1) (fun _ _ => rfl)))) pss_nil)
    (pss_one (ps_ret pe_int))), ?_⟩
  exact body_of (N := [(PySem.Str.ofString "_law_script"), (PySem.Str.ofString "_law_k")]) (o := o__law_cell) (by unfold o__law_cell; exact (ss_seq (ss_if (st_tst (se_op ro_lt se_var (se_cb rc_lenD (sa_cons se_var sa_nil)))) (ss_ret (se_op ro_ix se_var se_var)) ss_next)
    (ss_ret se_int))) h
theorem sc__law_seed : FnScope [(PySem.Str.ofString "_law_seed_here"), (PySem.Str.ofString "_law_k")] [(PySem.Str.ofString "_law_seed_here"), (PySem.Str.ofString "_law_k")] (defScope s__law_seed) := ⟨rfl, rfl, rfl, by decide +kernel, rfl, by decide +kernel, by decide +kernel⟩
theorem ok__law_seed {f : Addr} {fd : FuncData} (F : Fun K (PySem.Str.ofString "_law_seed") (PySem.Str.ofString "_law_seed") s__law_seed f fd) (hm : mg (PySem.Str.ofString "_law_seed") = some (.ref f)) (b : Binds K fd [(PySem.Str.ofString "_law_seed_here"), (PySem.Str.ofString "_law_k")] []) (G : Glb mg) : Ok P w K mg base 1 (PySem.Str.ofString "_law_seed") [(PySem.Str.ofString "_law_seed_here"), (PySem.Str.ofString "_law_k")] (spD cv 2 d__law_seed) := by
  have nd := sc__law_seed.nd
  refine ⟨f, fd, hm, F.kp, b, ?_⟩
  refine F.okX sc__law_seed (fun vs H Q E h => h.1) (fun cdv A outer s H vs Q E hr h => ?_)
  refine ⟨_, (pss_one (ps_ret (pe_op op_mod (pe_op op_pow (pe_op op_mod (pe_op op_plus (pe_op op_plus (pe_op op_times (pv 0) pe_int) (pe_op op_times pe_int (pv 1))) pe_int) pe_int) pe_int) pe_int))), ?_⟩
  exact body_of (N := [(PySem.Str.ofString "_law_seed_here"), (PySem.Str.ofString "_law_k")]) (o := o__law_seed) (by unfold o__law_seed; exact (ss_ret (se_op ro_mod (se_op ro_pow (se_op ro_mod (se_op ro_plus (se_op ro_plus (se_op ro_times se_var se_int) (se_op ro_times se_int se_var)) se_int) se_int) se_int) se_int))) h
theorem sc__law_pick : FnScope [(PySem.Str.ofString "_law_seed_here"), (PySem.Str.ofString "_law_many")] [(PySem.Str.ofString "_law_seed_here"), (PySem.Str.ofString "_law_many")] (defScope s__law_pick) := ⟨rfl, rfl, rfl, by decide +kernel, rfl, by decide +kernel, by decide +kernel⟩
theorem ok__law_pick {f : Addr} {fd : FuncData} (F : Fun K (PySem.Str.ofString "_law_pick") (PySem.Str.ofString "_law_pick") s__law_pick f fd) (hm : mg (PySem.Str.ofString "_law_pick") = some (.ref f)) (b : Binds K fd [(PySem.Str.ofString "_law_seed_here"), (PySem.Str.ofString "_law_many")] []) (G : Glb mg) : Ok P w K mg base 1 (PySem.Str.ofString "_law_pick") [(PySem.Str.ofString "_law_seed_here"), (PySem.Str.ofString "_law_many")] (spD cv 2 d__law_pick) := by
  have nd := sc__law_pick.nd
  refine ⟨f, fd, hm, F.kp, b, ?_⟩
  refine F.okX sc__law_pick (fun vs H Q E h => h.1) (fun cdv A outer s H vs Q E hr h => ?_)
  refine ⟨_, (pss_one (ps_ret (pe_op op_mod (pe_op op_fdiv (pv 0) pe_int) (pv 1)))), ?_⟩
  exact body_of (N := [(PySem.Str.ofString "_law_seed_here"), (PySem.Str.ofString "_law_many")]) (o := o__law_pick) (by unfold o__law_pick; exact (ss_ret (se_op ro_mod (se_op ro_div se_var se_int) se_var))) h
theorem sc__law_world : FnScope [(PySem.Str.ofString "_law_script"), (PySem.Str.ofString "_law_at"), (PySem.Str.ofString "_law_seed_here"), (PySem.Str.ofString "_law_many"), (PySem.Str.ofString "_law_jumps"), (PySem.Str.ofString "_law_k"), (PySem.Str.ofString "_law_one"), (PySem.Str.ofString "_law_begin"), (PySem.Str.ofString "_law_over"), (PySem.Str.ofString "_law_rest"), (PySem.Str.ofString "_law_cell_here")] [(PySem.Str.ofString "_law_script"), (PySem.Str.ofString "_law_at")] (defScope s__law_world) := ⟨rfl, rfl, rfl, by decide +kernel, rfl, by decide +kernel, by decide +kernel⟩
theorem ok__law_world {f : Addr} {fd : FuncData} (F : Fun K (PySem.Str.ofString "_law_world") (PySem.Str.ofString "_law_world") s__law_world f fd) (hm : mg (PySem.Str.ofString "_law_world") = some (.ref f)) (b : Binds K fd [(PySem.Str.ofString "_law_script"), (PySem.Str.ofString "_law_at")] []) (G : Glb mg) (o__law_seed : Ok P w K mg base 1 (PySem.Str.ofString "_law_seed") [(PySem.Str.ofString "_law_seed_here"), (PySem.Str.ofString "_law_k")] (spD cv 2 d__law_seed)) (o__law_cell : Ok P w K mg base 1 (PySem.Str.ofString "_law_cell") [(PySem.Str.ofString "_law_script"), (PySem.Str.ofString "_law_k")] (spD cv 2 d__law_cell)) : Ok P w K mg base 2 (PySem.Str.ofString "_law_world") [(PySem.Str.ofString "_law_script"), (PySem.Str.ofString "_law_at")] (spD cv 2 d__law_world) := by
  have nd := sc__law_world.nd
  refine ⟨f, fd, hm, F.kp, b, ?_⟩
  refine F.okX sc__law_world (fun vs H Q E h => h.1) (fun cdv A outer s H vs Q E hr h => ?_)
  refine ⟨_, (pss_cons (ps_set (i := 2) nd rfl (by first | exact Or.inl rfl | exact Or.inr rfl) (by exact (by exact pe_ok (W := (WD E)) o__law_seed hr (by decide) (takes_of rfl rfl rfl rfl) (pa_cons (by exact pe_ok (W := (WD E)) o__law_cell hr (by decide) (takes_of rfl rfl rfl rfl) (pa_cons (pv 0) (pa_cons (pv 1) pa_nil))) (pa_cons pe_int pa_nil)))))
    (pss_cons (ps_set (i := 3) nd rfl (by first | exact Or.inl rfl | exact Or.inr rfl) (by exact (pe_ix ix_seq (pe_lst (pa_cons (pe_op op_plus pe_int (pe_op op_mod (pe_op op_fdiv (pv 2) pe_int) pe_int)) (pa_cons pe_int (pa_cons pe_int (pa_cons pe_int pa_nil))))) (pe_op op_mod (pe_op op_fdiv (pv 2) pe_int) pe_int) (fun _ _ => rfl))))
    (pss_cons (ps_set (i := 4) nd rfl (by first | exact Or.inl rfl | exact Or.inr rfl) (by exact (pe_lst pa_nil)))
    (pss_cons (ps_if (pt_cmpR (op_eqD (hu64 hr)) (pe_op op_mod (pe_op op_fdiv (pv 2) pe_int) pe_int) pe_int (nomark _)) (pss_one (ps_for (passes_of rfl) rfl (pi_range1 (by rfl) G.b_range (pa_cons (pe_op op_sub (pv 3) pe_int) pa_nil)) (pg_name (i := 5) nd rfl (by first | exact Or.inl rfl | exact Or.inr rfl))
    (pss_one (ps_set (i := 4) nd rfl (by first | exact Or.inl rfl | exact Or.inr rfl) (by exact (pe_op op_plus (pv 4) (pe_lst (pa_cons (pe_tup (pa_cons (pv 5) (pa_cons (pe_op op_plus (pv 5) pe_int) (pa_cons (pe_op op_plus (pv 5) pe_int) pa_nil)))) (pa_cons (pe_tup (pa_cons (pe_op op_plus (pv 5) pe_int) (pa_cons (pe_op op_plus (pv 5) pe_int) (pa_cons (pv 5) pa_nil)))) pa_nil))))))))) (pss_one (ps_if (pt_cmpR (op_eqD (hu64 hr)) (pe_op op_mod (pe_op op_fdiv (pv 2) pe_int) pe_int) pe_int (nomark _)) (pss_one (ps_for (passes_of rfl) rfl (pi_range1 (by rfl) G.b_range (pa_cons (pv 3) pa_nil)) (pg_name (i := 5) nd rfl (by first | exact Or.inl rfl | exact Or.inr rfl))
    (pss_cons (ps_set (i := 4) nd rfl (by first | exact Or.inl rfl | exact Or.inr rfl) (by exact (pe_op op_plus (pv 4) (pe_op op_times (pe_lst (pa_cons (pe_tup (pa_cons (pv 5) (pa_cons (pe_op op_plus (pv 5) pe_int) (pa_cons (pe_op op_plus (pv 5) pe_int) pa_nil)))) pa_nil)) (pe_callTy call_intA (by rfl) G.b_int bt_int (pa_cons (pe_and (pe_cmpR (op_ltA) (pe_op op_mod (pv 5) pe_int) pe_int (nomark _)) (pe_one (pe_cmpR (op_ltA) (pe_op op_plus (pv 5) pe_int) (pv 3) (nomark _)))) pa_nil))))))
    (pss_one (ps_set (i := 4) nd rfl (by first | exact Or.inl rfl | exact Or.inr rfl) (by exact (pe_op op_plus (pv 4) (pe_op op_times (pe_lst (pa_cons (pe_tup (pa_cons (pv 5) (pa_cons (pe_op op_plus (pv 5) pe_int) (pa_cons (pe_op op_plus (pv 5) pe_int) pa_nil)))) (pa_cons (pe_tup (pa_cons (pe_op op_plus (pv 5) pe_int) (pa_cons (pe_op op_plus (pv 5) pe_int) (pa_cons (pv 5) pa_nil)))) pa_nil))) (pe_callTy call_intA (by rfl) G.b_int bt_int (pa_cons (pe_cmpR (op_ltA) (pe_op op_plus (pv 5) pe_int) (pv 3) (nomark _)) pa_nil)))))))))) (pss_one (ps_for (passes_of rfl) rfl (pi_range1 (by rfl) G.b_range (pa_cons (pe_op op_mod (pe_op op_fdiv (pv 2) pe_int) pe_int) pa_nil)) (pg_name (i := 5) nd rfl (by first | exact Or.inl rfl | exact Or.inr rfl))
    (pss_cons (ps_set (i := 6) nd rfl (by first | exact Or.inl rfl | exact Or.inr rfl) (by exact (by exact pe_ok (W := (WD E)) o__law_seed hr (by decide) (takes_of rfl rfl rfl rfl) (pa_cons (pe_op op_plus (by exact pe_ok (W := (WD E)) o__law_cell hr (by decide) (takes_of rfl rfl rfl rfl) (pa_cons (pv 0) (pa_cons (pe_op op_plus (pe_op op_plus (pv 1) pe_int) (pe_op op_mod (pv 5) pe_int)) pa_nil))) (pe_op op_times pe_int (pv 5))) (pa_cons (pv 5) pa_nil)))))
    (pss_cons (ps_set (i := 7) nd rfl (by first | exact Or.inl rfl | exact Or.inr rfl) (by exact (pe_op op_mod (pe_op op_fdiv (pv 6) pe_int) (pv 3))))
    (pss_cons (ps_set (i := 8) nd rfl (by first | exact Or.inl rfl | exact Or.inr rfl) (by exact (pe_op op_mod (pe_op op_plus (pe_op op_plus (pv 7) pe_int) (pe_op op_mod (pe_op op_fdiv (pv 6) pe_int) (pe_op op_sub (pv 3) pe_int))) (pv 3))))
    (pss_cons (ps_setLc (i := 9) (own := [((PySem.Str.ofString "_law_cell_here"), 10)]) (g := (gName 10)) (tt := (tTest (tOp (rNotInA K) (tVar 10) (tTup (tCons (tVar 7) (tCons (tVar 8) tNil)))))) (te := (tVar 10)) (by rfl) nd rfl rfl (sw_true rfl rfl rfl (by decide +kernel)) (pi_range1 (by rfl) G.b_range (pa_cons (pv 3) pa_nil)) (blkOk_by (own := [((PySem.Str.ofString "_law_cell_here"), 10)]) (N := [(PySem.Str.ofString "_law_script"), (PySem.Str.ofString "_law_at"), (PySem.Str.ofString "_law_seed_here"), (PySem.Str.ofString "_law_many"), (PySem.Str.ofString "_law_jumps"), (PySem.Str.ofString "_law_k"), (PySem.Str.ofString "_law_one"), (PySem.Str.ofString "_law_begin"), (PySem.Str.ofString "_law_over"), (PySem.Str.ofString "_law_rest"), (PySem.Str.ofString "_law_cell_here")]) (sc := defScope s__law_world) (by decide +kernel)) (fun _ _ _ _ _ => (pg_name (i := 10) nd rfl (by first | exact Or.inl rfl | exact Or.inr rfl))) (fun _ _ _ _ _ => (pts_one (pt_cmpR (op_notInA (hu65 hr)) (pv 10) (pe_tup (pa_cons (pv 7) (pa_cons (pv 8) pa_nil))) (by rfl)))) (fun _ _ _ _ _ => (pv 10)))
    (pss_one (ps_expr (pe_bm PySem.F.plainAttrs_list PySem.F.slot_list_append PySem.F.type_list_append mt_append (pv 4) (pa_cons (pe_tup (pa_cons (pv 7) (pa_cons (pv 8) (pa_cons (pe_ix ix_seq (pv 9) (pe_op op_mod (pe_op op_fdiv (pv 6) pe_int) (pe_callB call_lenD (by rfl) G.b_len bt_len (pa_cons (pv 9) pa_nil))) (fun _ _ => rfl)) pa_nil)))) pa_nil)))))))))))))
    (pss_one (ps_ret (pe_tup (pa_cons (pv 3) (pa_cons (pe_slice sl_any (pe_callTy call_tupD (by rfl) G.b_tuple bt_tuple (pa_cons (pe_callB (cr_sortedD rfl) (by rfl) G.b_sorted bt_sorted (pa_cons (pe_callTy (cr_setD rfl (hu64 hr)) (by rfl) G.b_set bt_set (pa_cons (pv 4) pa_nil)) pa_nil)) pa_nil)) po_none (po_some pe_int)) pa_nil))))))))), ?_⟩
  exact body_of (N := [(PySem.Str.ofString "_law_script"), (PySem.Str.ofString "_law_at"), (PySem.Str.ofString "_law_seed_here"), (PySem.Str.ofString "_law_many"), (PySem.Str.ofString "_law_jumps"), (PySem.Str.ofString "_law_k"), (PySem.Str.ofString "_law_one"), (PySem.Str.ofString "_law_begin"), (PySem.Str.ofString "_law_over"), (PySem.Str.ofString "_law_rest"), (PySem.Str.ofString "_law_cell_here")]) (o := o__law_world) (by unfold o__law_world; exact (ss_seq (ss_set (se_call (sa_cons (se_call (sa_cons se_var (sa_cons se_var sa_nil))) (sa_cons se_int sa_nil))))
    (ss_seq (ss_set (se_op ro_ix (se_l (sl_lst (sa_cons (se_op ro_plus se_int (se_op ro_mod (se_op ro_div se_var se_int) se_int)) (sa_cons se_int (sa_cons se_int (sa_cons se_int sa_nil)))))) (se_op ro_mod (se_op ro_div se_var se_int) se_int)))
    (ss_seq (ss_setL (sl_lst sa_nil))
    (ss_seq (ss_if (st_tst (se_op ro_eq (se_op ro_mod (se_op ro_div se_var se_int) se_int) se_int)) (ss_for [5] (si_rng1 (sa_cons (se_op ro_sub se_var se_int) sa_nil)) sg_name
    (ss_frz [4] (ss_set (se_op ro_plus se_var (se_l (sl_lst (sa_cons (se_tup (sa_cons se_var (sa_cons (se_op ro_plus se_var se_int) (sa_cons (se_op ro_plus se_var se_int) sa_nil)))) (sa_cons (se_tup (sa_cons (se_op ro_plus se_var se_int) (sa_cons (se_op ro_plus se_var se_int) (sa_cons se_var sa_nil)))) sa_nil)))))))) (ss_if (st_tst (se_op ro_eq (se_op ro_mod (se_op ro_div se_var se_int) se_int) se_int)) (ss_for [5] (si_rng1 (sa_cons se_var sa_nil)) sg_name
    (ss_seq (ss_frz [4] (ss_set (se_op ro_plus se_var (se_l (sl_rep (sl_lst (sa_cons (se_tup (sa_cons se_var (sa_cons (se_op ro_plus se_var se_int) (sa_cons (se_op ro_plus se_var se_int) sa_nil)))) sa_nil)) (se_cb rc_intA (sa_cons (se_and (se_op ro_lt (se_op ro_mod se_var se_int) se_int) (se_op ro_lt (se_op ro_plus se_var se_int) se_var)) sa_nil)))))))
    (ss_frz [4] (ss_set (se_op ro_plus se_var (se_l (sl_rep (sl_lst (sa_cons (se_tup (sa_cons se_var (sa_cons (se_op ro_plus se_var se_int) (sa_cons (se_op ro_plus se_var se_int) sa_nil)))) (sa_cons (se_tup (sa_cons (se_op ro_plus se_var se_int) (sa_cons (se_op ro_plus se_var se_int) (sa_cons se_var sa_nil)))) sa_nil))) (se_cb rc_intA (sa_cons (se_op ro_lt (se_op ro_plus se_var se_int) se_var) sa_nil))))))))) (ss_for [5, 6, 7, 8, 9] (si_rng1 (sa_cons (se_op ro_mod (se_op ro_div se_var se_int) se_int) sa_nil)) sg_name
    (ss_seq (ss_set (se_call (sa_cons (se_op ro_plus (se_call (sa_cons se_var (sa_cons (se_op ro_plus (se_op ro_plus se_var se_int) (se_op ro_mod se_var se_int)) sa_nil))) (se_op ro_times se_int se_var)) (sa_cons se_var sa_nil))))
    (ss_seq (ss_set (se_op ro_mod (se_op ro_div se_var se_int) se_var))
    (ss_seq (ss_set (se_op ro_mod (se_op ro_plus (se_op ro_plus se_var se_int) (se_op ro_mod (se_op ro_div se_var se_int) (se_op ro_sub se_var se_int))) se_var))
    (ss_seq (ss_set (se_l (sl_lc (si_rng1 (sa_cons se_var sa_nil)) sg_name (st_tst (se_op ro_notIn se_var (se_tup (sa_cons se_var (sa_cons se_var sa_nil))))) se_var)))
    (ss_app (se_tup (sa_cons se_var (sa_cons se_var (sa_cons (se_op ro_ix se_var (se_op ro_mod (se_op ro_div se_var se_int) (se_cb rc_lenD (sa_cons se_var sa_nil)))) sa_nil))))))))))))
    (ss_frz [4] (ss_ret (se_tup (sa_cons se_var (sa_cons (se_sl (se_cb rc_tupD (sa_cons (se_l (sl_setSort se_var)) sa_nil)) so_no (so_p se_int)) sa_nil)))))))))) h
theorem sc__law_stand : FnScope [(PySem.Str.ofString "_law_seed_here"), (PySem.Str.ofString "_law_many"), (PySem.Str.ofString "_law_k")] [(PySem.Str.ofString "_law_seed_here"), (PySem.Str.ofString "_law_many")] (defScope s__law_stand) := ⟨rfl, rfl, rfl, by decide +kernel, rfl, by decide +kernel, by decide +kernel⟩
theorem ok__law_stand {f : Addr} {fd : FuncData} (F : Fun K (PySem.Str.ofString "_law_stand") (PySem.Str.ofString "_law_stand") s__law_stand f fd) (hm : mg (PySem.Str.ofString "_law_stand") = some (.ref f)) (b : Binds K fd [(PySem.Str.ofString "_law_seed_here"), (PySem.Str.ofString "_law_many")] []) (G : Glb mg) (o__law_pick : Ok P w K mg base 1 (PySem.Str.ofString "_law_pick") [(PySem.Str.ofString "_law_seed_here"), (PySem.Str.ofString "_law_many")] (spD cv 2 d__law_pick)) (o__law_seed : Ok P w K mg base 1 (PySem.Str.ofString "_law_seed") [(PySem.Str.ofString "_law_seed_here"), (PySem.Str.ofString "_law_k")] (spD cv 2 d__law_seed)) : Ok P w K mg base 2 (PySem.Str.ofString "_law_stand") [(PySem.Str.ofString "_law_seed_here"), (PySem.Str.ofString "_law_many")] (spD cv 2 d__law_stand) := by
  have nd := sc__law_stand.nd
  refine ⟨f, fd, hm, F.kp, b, ?_⟩
  refine F.okX sc__law_stand (fun vs H Q E h => h.1) (fun cdv A outer s H vs Q E hr h => ?_)
  refine ⟨_, (pss_one (ps_ret (pe_bm PySem.F.plainAttrs_str PySem.F.slot_str_join PySem.F.type_str_join mt_joinD pe_str (pa_cons (pe_lc (own := [((PySem.Str.ofString "_law_k"), 2)]) (g := (gName 2)) (tt := tYes) (te := (tIf (tTest (tOp (rLtA K) (tCallS (spD cv 2 d__law_pick) (WE W0) (tCons (tCallS (spD cv 2 d__law_seed) (WE W0) (tCons (tVar 0) (tCons (tVar 2) tNil))) (tCons (tC (.int 9)) tNil))) (tOp (rIx K) (tLst (tCons (tC (.int 5)) (tCons (tC (.int 7)) (tCons (tC (.int 3)) tNil)))) (tOp (rI (fun _ j => 0 < j) fun i j => .int (i % j)) (tOp (rI CDiv fun i j => .int (i / j)) (tVar 0) (tC (.int 5))) (tC (.int 3)))))) (tC (.str (PySem.Str.ofString "o"))) (tC (.str (PySem.Str.ofString "."))))) (by rfl) nd (pi_range1 (by rfl) G.b_range (pa_cons (pv 1) pa_nil)) (blkOk_by (own := [((PySem.Str.ofString "_law_k"), 2)]) (N := [(PySem.Str.ofString "_law_seed_here"), (PySem.Str.ofString "_law_many"), (PySem.Str.ofString "_law_k")]) (sc := defScope s__law_stand) (by decide +kernel)) (fun _ _ _ _ _ => (pg_name (i := 2) nd rfl (by first | exact Or.inl rfl | exact Or.inr rfl))) (fun _ _ _ _ _ => pts_nil) (fun _ _ _ _ _ => (pe_ifExp (pt_cmpR (op_ltA) (pe_okc (W := W0) (sp := (spD cv 2 d__law_pick)) (k := 1) (j := 1) (ps := [(PySem.Str.ofString "_law_seed_here"), (PySem.Str.ofString "_law_many")]) (pa_cons (pe_okc (W := W0) (sp := (spD cv 2 d__law_seed)) (k := 1) (j := 1) (ps := [(PySem.Str.ofString "_law_seed_here"), (PySem.Str.ofString "_law_k")]) (pa_cons (pv 0) (pa_cons (pv 2) pa_nil)) (o := by exact o__law_seed) (hr := by exact hr)) (pa_cons pe_int pa_nil)) (o := by exact o__law_pick) (hr := by exact hr)) (pe_ix ix_seq (pe_lst (pa_cons pe_int (pa_cons pe_int (pa_cons pe_int pa_nil)))) (pe_op op_mod (pe_op op_fdiv (pv 0) pe_int) pe_int) (fun _ _ => rfl)) (nomark _)) pe_str pe_str))) pa_nil)))), ?_⟩
  exact body_of (N := [(PySem.Str.ofString "_law_seed_here"), (PySem.Str.ofString "_law_many"), (PySem.Str.ofString "_law_k")]) (o := o__law_stand) (by unfold o__law_stand; exact (ss_ret (se_bmS rm_joinD se_str (sa_cons (se_l (sl_lc (si_rng1 (sa_cons se_var sa_nil)) sg_name st_yes (sm_if (st_tst (se_op ro_lt (se_call (sa_cons (se_call (sa_cons se_var (sa_cons se_var sa_nil))) (sa_cons se_int sa_nil))) (se_op ro_ix (se_l (sl_lst (sa_cons se_int (sa_cons se_int (sa_cons se_int sa_nil))))) (se_op ro_mod (se_op ro_div se_var se_int) se_int)))) se_str se_str))) sa_nil)))) h
theorem sc__law_of_two : FnScope [(PySem.Str.ofString "_law_kind"), (PySem.Str.ofString "_law_world_here"), (PySem.Str.ofString "_law_start"), (PySem.Str.ofString "_law_goal")] [(PySem.Str.ofString "_law_kind"), (PySem.Str.ofString "_law_world_here"), (PySem.Str.ofString "_law_start"), (PySem.Str.ofString "_law_goal")] (defScope s__law_of_two) := ⟨rfl, rfl, rfl, by decide +kernel, rfl, by decide +kernel, by decide +kernel⟩
theorem ok__law_of_two {f : Addr} {fd : FuncData} (F : Fun K (PySem.Str.ofString "_law_of_two") (PySem.Str.ofString "_law_of_two") s__law_of_two f fd) (hm : mg (PySem.Str.ofString "_law_of_two") = some (.ref f)) (b : Binds K fd [(PySem.Str.ofString "_law_kind"), (PySem.Str.ofString "_law_world_here"), (PySem.Str.ofString "_law_start"), (PySem.Str.ofString "_law_goal")] []) (G : Glb mg) (o_reached : Ok P w K mg base 6 (PySem.Str.ofString "reached") [(PySem.Str.ofString "world"), (PySem.Str.ofString "stand")] (spD cv 2 d_reached)) (o_ends : Ok P w K mg base 6 (PySem.Str.ofString "ends") [(PySem.Str.ofString "world"), (PySem.Str.ofString "stand")] (spD cv 2 d_ends)) (o_leading : Ok P w K mg base 6 (PySem.Str.ofString "leading") [(PySem.Str.ofString "world"), (PySem.Str.ofString "stand")] (spD cv 2 d_leading)) (o_can_come : Ok P w K mg base 7 (PySem.Str.ofString "can_come") [(PySem.Str.ofString "world"), (PySem.Str.ofString "start"), (PySem.Str.ofString "goal")] (spD cv 3 d_can_come)) (o_row_to : Ok P w K mg base 7 (PySem.Str.ofString "row_to") [(PySem.Str.ofString "world"), (PySem.Str.ofString "start"), (PySem.Str.ofString "goal")] (spD cv 3 d_row_to)) (o_last : Ok P w K mg base 7 (PySem.Str.ofString "last") [(PySem.Str.ofString "world"), (PySem.Str.ofString "start"), (PySem.Str.ofString "goal")] (spD cv 3 d_last)) (o_how_many : Ok P w K mg base 7 (PySem.Str.ofString "how_many") [(PySem.Str.ofString "world"), (PySem.Str.ofString "start"), (PySem.Str.ofString "goal")] (spD cv 3 d_how_many)) (o_surely : Ok P w K mg base 7 (PySem.Str.ofString "surely") [(PySem.Str.ofString "world"), (PySem.Str.ofString "start"), (PySem.Str.ofString "goal")] (spD cv 3 d_surely)) (o_perhaps : Ok P w K mg base 7 (PySem.Str.ofString "perhaps") [(PySem.Str.ofString "world"), (PySem.Str.ofString "start"), (PySem.Str.ofString "goal")] (spD cv 3 d_perhaps)) (o_paper : Ok P w K mg base 8 (PySem.Str.ofString "paper") [(PySem.Str.ofString "world"), (PySem.Str.ofString "start"), (PySem.Str.ofString "goal")] (spD cv 3 d_paper)) : Ok P w K mg base 9 (PySem.Str.ofString "_law_of_two") [(PySem.Str.ofString "_law_kind"), (PySem.Str.ofString "_law_world_here"), (PySem.Str.ofString "_law_start"), (PySem.Str.ofString "_law_goal")] (spD cv 4 d__law_of_two) := by
  have nd := sc__law_of_two.nd
  refine ⟨f, fd, hm, F.kp, b, ?_⟩
  refine F.okX sc__law_of_two (fun vs H Q E h => h.1) (fun cdv A outer s H vs Q E hr h => ?_)
  refine ⟨_, (pss_cons (ps_if (pt_cmpR (op_eqD (hu64 hr)) (pv 0) pe_int (nomark _)) (pss_one (ps_ret (by exact pe_ok (W := (WD E)) o_reached hr (by decide) (takes_of rfl rfl rfl rfl) (pa_cons (pv 1) (pa_cons (pv 2) pa_nil))))) pss_nil)
    (pss_cons (ps_if (pt_cmpR (op_eqD (hu64 hr)) (pv 0) pe_int (nomark _)) (pss_one (ps_ret (by exact pe_ok (W := (WD E)) o_ends hr (by decide) (takes_of rfl rfl rfl rfl) (pa_cons (pv 1) (pa_cons (pv 2) pa_nil))))) pss_nil)
    (pss_cons (ps_if (pt_cmpR (op_eqD (hu64 hr)) (pv 0) pe_int (nomark _)) (pss_one (ps_ret (by exact pe_ok (W := (WD E)) o_leading hr (by decide) (takes_of rfl rfl rfl rfl) (pa_cons (pv 1) (pa_cons (pv 3) pa_nil))))) pss_nil)
    (pss_cons (ps_if (pt_cmpR (op_eqD (hu64 hr)) (pv 0) pe_int (nomark _)) (pss_one (ps_ret (by exact pe_ok (W := (WD E)) o_can_come hr (by decide) (takes_of rfl rfl rfl rfl) (pa_cons (pv 1) (pa_cons (pv 2) (pa_cons (pv 3) pa_nil)))))) pss_nil)
    (pss_cons (ps_if (pt_cmpR (op_eqD (hu64 hr)) (pv 0) pe_int (nomark _)) (pss_one (ps_ret (by exact pe_ok (W := (WD E)) o_row_to hr (by decide) (takes_of rfl rfl rfl rfl) (pa_cons (pv 1) (pa_cons (pv 2) (pa_cons (pv 3) pa_nil)))))) pss_nil)
    (pss_cons (ps_if (pt_cmpR (op_eqD (hu64 hr)) (pv 0) pe_int (nomark _)) (pss_one (ps_ret (by exact pe_ok (W := (WD E)) o_last hr (by decide) (takes_of rfl rfl rfl rfl) (pa_cons (pv 1) (pa_cons (pv 2) (pa_cons (pv 3) pa_nil)))))) pss_nil)
    (pss_cons (ps_if (pt_cmpR (op_eqD (hu64 hr)) (pv 0) pe_int (nomark _)) (pss_one (ps_ret (by exact pe_ok (W := (WD E)) o_how_many hr (by decide) (takes_of rfl rfl rfl rfl) (pa_cons (pv 1) (pa_cons (pv 2) (pa_cons (pv 3) pa_nil)))))) pss_nil)
    (pss_cons (ps_if (pt_cmpR (op_eqD (hu64 hr)) (pv 0) pe_int (nomark _)) (pss_one (ps_ret (by exact pe_ok (W := (WD E)) o_surely hr (by decide) (takes_of rfl rfl rfl rfl) (pa_cons (pv 1) (pa_cons (pv 2) (pa_cons (pv 3) pa_nil)))))) pss_nil)
    (pss_one (ps_ret (pe_ifExp (pt_cmpR (op_eqD (hu64 hr)) (pv 0) pe_int (nomark _)) (by exact pe_ok (W := (WD E)) o_perhaps hr (by decide) (takes_of rfl rfl rfl rfl) (pa_cons (pv 1) (pa_cons (pv 2) (pa_cons (pv 3) pa_nil)))) (by exact pe_ok (W := (WD E)) o_paper hr (by decide) (takes_of rfl rfl rfl rfl) (pa_cons (pv 1) (pa_cons (pv 2) (pa_cons (pv 3) pa_nil))))))))))))))), ?_⟩
  exact body_of (N := [(PySem.Str.ofString "_law_kind"), (PySem.Str.ofString "_law_world_here"), (PySem.Str.ofString "_law_start"), (PySem.Str.ofString "_law_goal")]) (o := o__law_of_two) (by unfold o__law_of_two; exact (ss_seq (ss_if (st_tst (se_op ro_eq se_var se_int)) (ss_ret (se_call (sa_cons se_var (sa_cons se_var sa_nil)))) ss_next)
    (ss_seq (ss_if (st_tst (se_op ro_eq se_var se_int)) (ss_ret (se_call (sa_cons se_var (sa_cons se_var sa_nil)))) ss_next)
    (ss_seq (ss_if (st_tst (se_op ro_eq se_var se_int)) (ss_ret (se_call (sa_cons se_var (sa_cons se_var sa_nil)))) ss_next)
    (ss_seq (ss_if (st_tst (se_op ro_eq se_var se_int)) (ss_ret (se_call (sa_cons se_var (sa_cons se_var (sa_cons se_var sa_nil))))) ss_next)
    (ss_seq (ss_if (st_tst (se_op ro_eq se_var se_int)) (ss_ret (se_call (sa_cons se_var (sa_cons se_var (sa_cons se_var sa_nil))))) ss_next)
    (ss_seq (ss_if (st_tst (se_op ro_eq se_var se_int)) (ss_ret (se_call (sa_cons se_var (sa_cons se_var (sa_cons se_var sa_nil))))) ss_next)
    (ss_seq (ss_if (st_tst (se_op ro_eq se_var se_int)) (ss_ret (se_call (sa_cons se_var (sa_cons se_var (sa_cons se_var sa_nil))))) ss_next)
    (ss_seq (ss_if (st_tst (se_op ro_eq se_var se_int)) (ss_ret (se_call (sa_cons se_var (sa_cons se_var (sa_cons se_var sa_nil))))) ss_next)
    (ss_ret (sm_if (st_tst (se_op ro_eq se_var se_int)) (se_call (sa_cons se_var (sa_cons se_var (sa_cons se_var sa_nil)))) (se_call (sa_cons se_var (sa_cons se_var (sa_cons se_var sa_nil))))))))))))))) h
theorem sc__law_refusal : FnScope [(PySem.Str.ofString "_law_kind"), (PySem.Str.ofString "_law_world_here"), (PySem.Str.ofString "_law_start"), (PySem.Str.ofString "_law_goal"), (PySem.Str.ofString "_law_count"), (PySem.Str.ofString "_law_caught")] [(PySem.Str.ofString "_law_kind"), (PySem.Str.ofString "_law_world_here"), (PySem.Str.ofString "_law_start"), (PySem.Str.ofString "_law_goal"), (PySem.Str.ofString "_law_count")] (defScope s__law_refusal) := ⟨rfl, rfl, rfl, by decide +kernel, rfl, by decide +kernel, by decide +kernel⟩
theorem ok__law_refusal {f : Addr} {fd : FuncData} (F : Fun K (PySem.Str.ofString "_law_refusal") (PySem.Str.ofString "_law_refusal") s__law_refusal f fd) (hm : mg (PySem.Str.ofString "_law_refusal") = some (.ref f)) (b : Binds K fd [(PySem.Str.ofString "_law_kind"), (PySem.Str.ofString "_law_world_here"), (PySem.Str.ofString "_law_start"), (PySem.Str.ofString "_law_goal"), (PySem.Str.ofString "_law_count")] []) (G : Glb mg) {C_BadWorld : Value} (h_BadWorld : HdOk K mg cv C_BadWorld (PySem.Str.ofString "BadWorld") t_BadWorld) {C_BadStand : Value} (h_BadStand : HdOk K mg cv C_BadStand (PySem.Str.ofString "BadStand") t_BadStand) {C_BadCount : Value} (h_BadCount : HdOk K mg cv C_BadCount (PySem.Str.ofString "BadCount") t_BadCount) {C_Never : Value} (h_Never : HdOk K mg cv C_Never (PySem.Str.ofString "Never") t_Never) {C_TooMany : Value} (h_TooMany : HdOk K mg cv C_TooMany (PySem.Str.ofString "TooMany") t_TooMany) (o_ahead : Ok P w K mg base 7 (PySem.Str.ofString "ahead") [(PySem.Str.ofString "world"), (PySem.Str.ofString "start"), (PySem.Str.ofString "goal"), (PySem.Str.ofString "many")] (spD cv 4 d_ahead)) (o_parted_by : Ok P w K mg base 7 (PySem.Str.ofString "parted_by") [(PySem.Str.ofString "world"), (PySem.Str.ofString "start"), (PySem.Str.ofString "goal")] (spD cv 3 d_parted_by)) (o_is_paper : Ok P w K mg base 7 (PySem.Str.ofString "is_paper") [(PySem.Str.ofString "world"), (PySem.Str.ofString "start"), (PySem.Str.ofString "goal"), (PySem.Str.ofString "thing")] (spD cv 4 d_is_paper)) (o__law_of_two : Ok P w K mg base 9 (PySem.Str.ofString "_law_of_two") [(PySem.Str.ofString "_law_kind"), (PySem.Str.ofString "_law_world_here"), (PySem.Str.ofString "_law_start"), (PySem.Str.ofString "_law_goal")] (spD cv 4 d__law_of_two)) : Ok P w K mg base 10 (PySem.Str.ofString "_law_refusal") [(PySem.Str.ofString "_law_kind"), (PySem.Str.ofString "_law_world_here"), (PySem.Str.ofString "_law_start"), (PySem.Str.ofString "_law_goal"), (PySem.Str.ofString "_law_count")] (spD cv 5 d__law_refusal) := by
  have nd := sc__law_refusal.nd
  refine ⟨f, fd, hm, F.kp, b, ?_⟩
  refine F.okX sc__law_refusal (fun vs H Q E h => h.1) (fun cdv A outer s H vs Q E hr h => ?_)
  refine ⟨_, (pss_cons (ps_set (i := 5) nd rfl (by first | exact Or.inl rfl | exact Or.inr rfl) (by exact pe_str))
    (pss_cons (ps_try_many (l := [(C_BadWorld, fun _ _ _ => (tAsg (tC (.str (PySem.Str.ofString "world"))) (gName 5))), (C_BadStand, fun _ _ _ => (tAsg (tC (.str (PySem.Str.ofString "stand"))) (gName 5))), (C_BadCount, fun _ _ _ => (tAsg (tC (.str (PySem.Str.ofString "count"))) (gName 5))), (C_Never, fun _ _ _ => (tAsg (tC (.str (PySem.Str.ofString "never"))) (gName 5))), (C_TooMany, fun _ _ _ => (tAsg (tC (.str (PySem.Str.ofString "many"))) (gName 5)))]) (tb := fun W1 => (tIfS (tTest (tOp (rEqD K) (tVar 0) (tC (.int 2)))) (tDrop (tCallS (spD cv 4 d_ahead) (WE W1) (tCons (tVar 1) (tCons (tVar 2) (tCons (tVar 3) (tCons (tVar 4) tNil)))))) (tIfS (tTest (tOp (rEqD K) (tVar 0) (tC (.int 9)))) (tDrop (tCallS (spD cv 3 d_parted_by) (WE W1) (tCons (tVar 1) (tCons (tVar 2) (tCons (tVar 3) tNil))))) (tIfS (tTest (tOp (rEqD K) (tVar 0) (tC (.int 8)))) (tDrop (tCallS (spD cv 4 d_is_paper) (WE W1) (tCons (tVar 1) (tCons (tVar 2) (tCons (tVar 3) (tCons (tC .non) tNil)))))) (tIfS (tTest (tOp rGtA (tVar 0) (tC (.int 5)))) (tDrop (tCallS (spD cv 4 d__law_of_two) (WE W1) (tCons (tOp (rIx K) (tLst (tCons (tC (.int 3)) (tCons (tC (.int 9)) tNil))) (tOp (rI0 fun i j => .int (i - j)) (tVar 0) (tC (.int 6)))) (tCons (tVar 1) (tCons (tVar 2) (tCons (tVar 3) tNil)))))) (tDrop (tCallS (spD cv 4 d__law_of_two) (WE W1) (tCons (tOp (rIx K) (tLst (tCons (tC (.int 4)) (tCons (tC (.int 5)) (tCons (tC (.int 0)) (tCons (tC (.int 6)) (tCons (tC (.int 7)) (tCons (tC (.int 8)) tNil))))))) (tVar 0)) (tCons (tVar 1) (tCons (tVar 2) (tCons (tVar 3) tNil))))))))))) (Wout := (WD E)) rfl rfl (takes_of rfl rfl rfl rfl) (fun W1 pn xe tk1 po => (pss_one (ps_if (pt_cmpR (op_eqD (hu64 hr)) (pv 0) pe_int (nomark _)) (pss_one (ps_expr (pe_okc (W := W1) (sp := (spD cv 4 d_ahead)) (k := 7) (j := 9) (ps := [(PySem.Str.ofString "world"), (PySem.Str.ofString "start"), (PySem.Str.ofString "goal"), (PySem.Str.ofString "many")]) (pa_cons (pv 1) (pa_cons (pv 2) (pa_cons (pv 3) (pa_cons (pv 4) pa_nil)))) (o := by exact o_ahead) (hr := by exact hr) (tk := tk1)))) (pss_one (ps_if (pt_cmpR (op_eqD (hu64 hr)) (pv 0) pe_int (nomark _)) (pss_one (ps_expr (pe_okc (W := W1) (sp := (spD cv 3 d_parted_by)) (k := 7) (j := 9) (ps := [(PySem.Str.ofString "world"), (PySem.Str.ofString "start"), (PySem.Str.ofString "goal")]) (pa_cons (pv 1) (pa_cons (pv 2) (pa_cons (pv 3) pa_nil))) (o := by exact o_parted_by) (hr := by exact hr) (tk := tk1)))) (pss_one (ps_if (pt_cmpR (op_eqD (hu64 hr)) (pv 0) pe_int (nomark _)) (pss_one (ps_expr (pe_okc (W := W1) (sp := (spD cv 4 d_is_paper)) (k := 7) (j := 9) (ps := [(PySem.Str.ofString "world"), (PySem.Str.ofString "start"), (PySem.Str.ofString "goal"), (PySem.Str.ofString "thing")]) (pa_cons (pv 1) (pa_cons (pv 2) (pa_cons (pv 3) (pa_cons pe_non pa_nil)))) (o := by exact o_is_paper) (hr := by exact hr) (tk := tk1)))) (pss_one (ps_if (pt_cmpR (op_gtA) (pv 0) pe_int (nomark _)) (pss_one (ps_expr (pe_okc (W := W1) (sp := (spD cv 4 d__law_of_two)) (k := 9) (j := 9) (ps := [(PySem.Str.ofString "_law_kind"), (PySem.Str.ofString "_law_world_here"), (PySem.Str.ofString "_law_start"), (PySem.Str.ofString "_law_goal")]) (pa_cons (pe_ix ix_seq (pe_lst (pa_cons pe_int (pa_cons pe_int pa_nil))) (pe_op op_sub (pv 0) pe_int) (fun _ _ => rfl)) (pa_cons (pv 1) (pa_cons (pv 2) (pa_cons (pv 3) pa_nil)))) (o := by exact o__law_of_two) (hr := by exact hr) (tk := tk1)))) (pss_one (ps_expr (pe_okc (W := W1) (sp := (spD cv 4 d__law_of_two)) (k := 9) (j := 9) (ps := [(PySem.Str.ofString "_law_kind"), (PySem.Str.ofString "_law_world_here"), (PySem.Str.ofString "_law_start"), (PySem.Str.ofString "_law_goal")]) (pa_cons (pe_ix ix_seq (pe_lst (pa_cons pe_int (pa_cons pe_int (pa_cons pe_int (pa_cons pe_int (pa_cons pe_int (pa_cons pe_int pa_nil))))))) (pv 0) (fun _ _ => rfl)) (pa_cons (pv 1) (pa_cons (pv 2) (pa_cons (pv 3) pa_nil)))) (o := by exact o__law_of_two) (hr := by exact hr) (tk := tk1))))))))))))) (HdsOk.cons (ts := fun _ _ _ => (tAsg (tC (.str (PySem.Str.ofString "world"))) (gName 5))) (h_BadWorld.names (by rfl) (by decide)) (fun a oe cls d pn hz hf => (pss_one (ps_set (i := 5) (te := (tC (.str (PySem.Str.ofString "world")))) nd rfl (by first | exact Or.inl rfl | exact Or.inr rfl) pe_str))) (HdsOk.cons (ts := fun _ _ _ => (tAsg (tC (.str (PySem.Str.ofString "stand"))) (gName 5))) (h_BadStand.names (by rfl) (by decide)) (fun a oe cls d pn hz hf => (pss_one (ps_set (i := 5) (te := (tC (.str (PySem.Str.ofString "stand")))) nd rfl (by first | exact Or.inl rfl | exact Or.inr rfl) pe_str))) (HdsOk.cons (ts := fun _ _ _ => (tAsg (tC (.str (PySem.Str.ofString "count"))) (gName 5))) (h_BadCount.names (by rfl) (by decide)) (fun a oe cls d pn hz hf => (pss_one (ps_set (i := 5) (te := (tC (.str (PySem.Str.ofString "count")))) nd rfl (by first | exact Or.inl rfl | exact Or.inr rfl) pe_str))) (HdsOk.cons (ts := fun _ _ _ => (tAsg (tC (.str (PySem.Str.ofString "never"))) (gName 5))) (h_Never.names (by rfl) (by decide)) (fun a oe cls d pn hz hf => (pss_one (ps_set (i := 5) (te := (tC (.str (PySem.Str.ofString "never")))) nd rfl (by first | exact Or.inl rfl | exact Or.inr rfl) pe_str))) (HdsOk.cons (ts := fun _ _ _ => (tAsg (tC (.str (PySem.Str.ofString "many"))) (gName 5))) (h_TooMany.names (by rfl) (by decide)) (fun a oe cls d pn hz hf => (pss_one (ps_set (i := 5) (te := (tC (.str (PySem.Str.ofString "many")))) nd rfl (by first | exact Or.inl rfl | exact Or.inr rfl) pe_str))) HdsOk.nil))))))
    (pss_one (ps_ret (pv 5))))), ?_⟩
  exact body_of (N := [(PySem.Str.ofString "_law_kind"), (PySem.Str.ofString "_law_world_here"), (PySem.Str.ofString "_law_start"), (PySem.Str.ofString "_law_goal"), (PySem.Str.ofString "_law_count"), (PySem.Str.ofString "_law_caught")]) (o := o__law_refusal) (by unfold o__law_refusal; exact (ss_seq (ss_set se_str)
    (ss_seq (ss_try (tb := fun W1 => (tIfS (tTest (tOp (rEqD K) (tVar 0) (tC (.int 2)))) (tDrop (tCallS (spD cv 4 d_ahead) (WE W1) (tCons (tVar 1) (tCons (tVar 2) (tCons (tVar 3) (tCons (tVar 4) tNil)))))) (tIfS (tTest (tOp (rEqD K) (tVar 0) (tC (.int 9)))) (tDrop (tCallS (spD cv 3 d_parted_by) (WE W1) (tCons (tVar 1) (tCons (tVar 2) (tCons (tVar 3) tNil))))) (tIfS (tTest (tOp (rEqD K) (tVar 0) (tC (.int 8)))) (tDrop (tCallS (spD cv 4 d_is_paper) (WE W1) (tCons (tVar 1) (tCons (tVar 2) (tCons (tVar 3) (tCons (tC .non) tNil)))))) (tIfS (tTest (tOp rGtA (tVar 0) (tC (.int 5)))) (tDrop (tCallS (spD cv 4 d__law_of_two) (WE W1) (tCons (tOp (rIx K) (tLst (tCons (tC (.int 3)) (tCons (tC (.int 9)) tNil))) (tOp (rI0 fun i j => .int (i - j)) (tVar 0) (tC (.int 6)))) (tCons (tVar 1) (tCons (tVar 2) (tCons (tVar 3) tNil)))))) (tDrop (tCallS (spD cv 4 d__law_of_two) (WE W1) (tCons (tOp (rIx K) (tLst (tCons (tC (.int 4)) (tCons (tC (.int 5)) (tCons (tC (.int 0)) (tCons (tC (.int 6)) (tCons (tC (.int 7)) (tCons (tC (.int 8)) tNil))))))) (tVar 0)) (tCons (tVar 1) (tCons (tVar 2) (tCons (tVar 3) tNil))))))))))) (fun W1 => (ss_if (st_tst (se_op ro_eq se_var se_int)) (ss_drop (se_call (sa_cons se_var (sa_cons se_var (sa_cons se_var (sa_cons se_var sa_nil)))))) (ss_if (st_tst (se_op ro_eq se_var se_int)) (ss_drop (se_call (sa_cons se_var (sa_cons se_var (sa_cons se_var sa_nil))))) (ss_if (st_tst (se_op ro_eq se_var se_int)) (ss_drop (se_call (sa_cons se_var (sa_cons se_var (sa_cons se_var (sa_cons se_non sa_nil)))))) (ss_if (st_tst (se_op ro_gt se_var se_int)) (ss_drop (se_call (sa_cons (se_op ro_ix (se_l (sl_lst (sa_cons se_int (sa_cons se_int sa_nil)))) (se_op ro_sub se_var se_int)) (sa_cons se_var (sa_cons se_var (sa_cons se_var sa_nil)))))) (ss_drop (se_call (sa_cons (se_op ro_ix (se_l (sl_lst (sa_cons se_int (sa_cons se_int (sa_cons se_int (sa_cons se_int (sa_cons se_int (sa_cons se_int sa_nil)))))))) se_var) (sa_cons se_var (sa_cons se_var (sa_cons se_var sa_nil))))))))))) (.cons h_BadWorld.ex (ss_set se_str) (.cons h_BadStand.ex (ss_set se_str) (.cons h_BadCount.ex (ss_set se_str) (.cons h_Never.ex (ss_set se_str) (.cons h_TooMany.ex (ss_set se_str) .nil))))))
    (ss_ret se_var)))) h
theorem sc_law : FnScope [(PySem.Str.ofString "_law_script"), (PySem.Str.ofString "_law_world_here"), (PySem.Str.ofString "_law_stand_here"), (PySem.Str.ofString "_law_bad"), (PySem.Str.ofString "_law_none"), (PySem.Str.ofString "_law_kind"), (PySem.Str.ofString "_law_told"), (PySem.Str.ofString "_law_count"), (PySem.Str.ofString "_law_full"), (PySem.Str.ofString "_law_empty")] [(PySem.Str.ofString "_law_script")] (defScope s_law) := ⟨rfl, rfl, rfl, by decide +kernel, rfl, by decide +kernel, by decide +kernel⟩
theorem ok_law {f : Addr} {fd : FuncData} (F : Fun K (PySem.Str.ofString "law") (PySem.Str.ofString "law") s_law f fd) (hm : mg (PySem.Str.ofString "law") = some (.ref f)) (b : Binds K fd [(PySem.Str.ofString "_law_script")] []) (G : Glb mg) (o__law_world : Ok P w K mg base 2 (PySem.Str.ofString "_law_world") [(PySem.Str.ofString "_law_script"), (PySem.Str.ofString "_law_at")] (spD cv 2 d__law_world)) (o__law_stand : Ok P w K mg base 2 (PySem.Str.ofString "_law_stand") [(PySem.Str.ofString "_law_seed_here"), (PySem.Str.ofString "_law_many")] (spD cv 2 d__law_stand)) (o__law_seed : Ok P w K mg base 1 (PySem.Str.ofString "_law_seed") [(PySem.Str.ofString "_law_seed_here"), (PySem.Str.ofString "_law_k")] (spD cv 2 d__law_seed)) (o__law_cell : Ok P w K mg base 1 (PySem.Str.ofString "_law_cell") [(PySem.Str.ofString "_law_script"), (PySem.Str.ofString "_law_k")] (spD cv 2 d__law_cell)) (o__law_refusal : Ok P w K mg base 10 (PySem.Str.ofString "_law_refusal") [(PySem.Str.ofString "_law_kind"), (PySem.Str.ofString "_law_world_here"), (PySem.Str.ofString "_law_start"), (PySem.Str.ofString "_law_goal"), (PySem.Str.ofString "_law_count")] (spD cv 5 d__law_refusal)) (o_ahead : Ok P w K mg base 7 (PySem.Str.ofString "ahead") [(PySem.Str.ofString "world"), (PySem.Str.ofString "start"), (PySem.Str.ofString "goal"), (PySem.Str.ofString "many")] (spD cv 4 d_ahead)) (o_row_to : Ok P w K mg base 7 (PySem.Str.ofString "row_to") [(PySem.Str.ofString "world"), (PySem.Str.ofString "start"), (PySem.Str.ofString "goal")] (spD cv 3 d_row_to)) (o_how_many : Ok P w K mg base 7 (PySem.Str.ofString "how_many") [(PySem.Str.ofString "world"), (PySem.Str.ofString "start"), (PySem.Str.ofString "goal")] (spD cv 3 d_how_many)) (o_last : Ok P w K mg base 7 (PySem.Str.ofString "last") [(PySem.Str.ofString "world"), (PySem.Str.ofString "start"), (PySem.Str.ofString "goal")] (spD cv 3 d_last)) : FnOk P w K mg base (L2.CX P w) 11 f fd [(PySem.Str.ofString "_law_script")] (spV cv.T 1 d_law) := by
  have nd := sc_law.nd
  refine FnOk.sure (cv := cv) ?_
  refine F.okX sc_law (fun vs H Q E h => h.1) (fun cdv A outer s H vs Q E hr h => ?_)
  refine ⟨_, (pss_cons (ps_set (i := 1) nd rfl (by first | exact Or.inl rfl | exact Or.inr rfl) (by exact (by exact pe_ok (W := (WD E)) o__law_world hr (by decide) (takes_of rfl rfl rfl rfl) (pa_cons (pv 0) (pa_cons pe_int pa_nil)))))
    (pss_cons (ps_set (i := 2) nd rfl (by first | exact Or.inl rfl | exact Or.inr rfl) (by exact (by exact pe_ok (W := (WD E)) o__law_stand hr (by decide) (takes_of rfl rfl rfl rfl) (pa_cons (by exact pe_ok (W := (WD E)) o__law_seed hr (by decide) (takes_of rfl rfl rfl rfl) (pa_cons (by exact pe_ok (W := (WD E)) o__law_cell hr (by decide) (takes_of rfl rfl rfl rfl) (pa_cons (pv 0) (pa_cons pe_int pa_nil))) (pa_cons pe_int pa_nil))) (pa_cons (pe_ix ix_seq (pv 1) pe_int (fun _ _ => rfl)) pa_nil)))))
    (pss_cons (ps_set (i := 3) nd rfl (by first | exact Or.inl rfl | exact Or.inr rfl) (by exact (pe_ix ix_seq (pe_lst (pa_cons pe_non (pa_cons (pe_tup (pa_cons pe_int (pa_cons (pe_tup pa_nil) pa_nil))) (pa_cons (pe_tup (pa_cons (pe_ix ix_seq (pv 1) pe_int (fun _ _ => rfl)) (pa_cons pe_non pa_nil))) (pa_cons (pe_callTy (call_listA rfl) (by rfl) G.b_list bt_list (pa_cons (pv 1) pa_nil)) (pa_cons (pe_tup (pa_cons pe_int (pa_cons (pe_tup pa_nil) pa_nil))) (pa_cons (pe_tup (pa_cons pe_bl (pa_cons (pe_tup pa_nil) pa_nil))) pa_nil))))))) (pe_op op_mod (by exact pe_ok (W := (WD E)) o__law_cell hr (by decide) (takes_of rfl rfl rfl rfl) (pa_cons (pv 0) (pa_cons pe_int pa_nil))) pe_int) (fun _ _ => rfl))))
    (pss_cons (ps_set (i := 4) nd rfl (by first | exact Or.inl rfl | exact Or.inr rfl) (by exact (pe_ix ix_seq (pe_lst (pa_cons pe_str (pa_cons (pe_op op_plus (pv 2) pe_str) (pa_cons (pe_slice sl_any (pv 2) (po_some pe_int) po_none) (pa_cons (pe_op op_plus (pe_slice sl_any (pv 2) (po_some pe_int) po_none) pe_str) (pa_cons pe_non (pa_cons (pe_callTy (call_listA rfl) (by rfl) G.b_list bt_list (pa_cons (pv 2) pa_nil)) pa_nil))))))) (pe_op op_mod (by exact pe_ok (W := (WD E)) o__law_cell hr (by decide) (takes_of rfl rfl rfl rfl) (pa_cons (pv 0) (pa_cons pe_int pa_nil))) pe_int) (fun _ _ => rfl))))
    (pss_cons (ps_for (passes_of rfl) rfl (pi_range1 (by rfl) G.b_range (pa_cons pe_int pa_nil)) (pg_name (i := 5) nd rfl (by first | exact Or.inl rfl | exact Or.inr rfl))
    (pss_cons (ps_if (pt_cmpR (op_neD (hu64 hr)) (by exact pe_ok (W := (WD E)) o__law_refusal hr (by decide) (takes_of rfl rfl rfl rfl) (pa_cons (pv 5) (pa_cons (pv 3) (pa_cons (pv 4) (pa_cons (pv 4) (pa_cons pe_non pa_nil)))))) pe_str (nomark _)) (pss_one (ps_ret pe_bl)) pss_nil)
    (pss_cons (ps_set (i := 6) nd rfl (by first | exact Or.inl rfl | exact Or.inr rfl) (by exact (pe_lst (pa_cons (by exact pe_ok (W := (WD E)) o__law_refusal hr (by decide) (takes_of rfl rfl rfl rfl) (pa_cons (pv 5) (pa_cons (pv 1) (pa_cons (pv 4) (pa_cons (pv 2) (pa_cons pe_non pa_nil)))))) (pa_cons (by exact pe_ok (W := (WD E)) o__law_refusal hr (by decide) (takes_of rfl rfl rfl rfl) (pa_cons (pv 5) (pa_cons (pv 1) (pa_cons (pv 2) (pa_cons (pv 4) (pa_cons pe_non pa_nil)))))) pa_nil)))))
    (pss_one (ps_if (pt_cmpR (op_neD (hu64 hr)) (pv 6) (pe_lst (pa_cons pe_str (pa_cons pe_str pa_nil))) (nomark _)) (pss_one (ps_ret pe_bl)) pss_nil)))))
    (pss_cons (ps_set (i := 7) nd rfl (by first | exact Or.inl rfl | exact Or.inr rfl) (by exact (pe_ix ix_seq (pe_lst (pa_cons pe_int (pa_cons (pe_un un_neg pe_int) (pa_cons pe_non (pa_cons pe_bl (pa_cons pe_str pa_nil)))))) (pe_op op_mod (by exact pe_ok (W := (WD E)) o__law_cell hr (by decide) (takes_of rfl rfl rfl rfl) (pa_cons (pv 0) (pa_cons pe_int pa_nil))) pe_int) (fun _ _ => rfl))))
    (pss_cons (ps_asg (pe_tup (pa_cons (pe_op op_times pe_str (pe_ix ix_seq (pv 1) pe_int (fun _ _ => rfl))) (pa_cons (pe_op op_times pe_str (pe_ix ix_seq (pv 1) pe_int (fun _ _ => rfl))) pa_nil))) (pg_any (n := 2) rfl (pgs_cons (pg_name (i := 8) nd rfl (by first | exact Or.inl rfl | exact Or.inr rfl)) (pgs_cons (pg_name (i := 9) nd rfl (by first | exact Or.inl rfl | exact Or.inr rfl)) pgs_nil))))
    (pss_cons (ps_if (PW.pt (pw_or (pt_cmpR (op_neD (hu64 hr)) (by exact pe_ok (W := (WD E)) o__law_refusal hr (by decide) (takes_of rfl rfl rfl rfl) (pa_cons pe_int (pa_cons (pv 1) (pa_cons (pv 2) (pa_cons (pv 2) (pa_cons (pv 7) pa_nil)))))) pe_str (nomark _)) (pw_or1 (pt_cmpR (op_neD (hu64 hr)) (by exact pe_ok (W := (WD E)) o_ahead hr (by decide) (takes_of rfl rfl rfl rfl) (pa_cons (pv 1) (pa_cons (pv 8) (pa_cons (pv 8) (pa_cons pe_int pa_nil))))) (pe_lst (pa_cons (pv 8) pa_nil)) (nomark _))))) (pss_one (ps_ret pe_bl)) pss_nil)
    (pss_cons (ps_if (pt_cmpR (op_neD (hu64 hr)) (pe_lc (own := [((PySem.Str.ofString "_law_kind"), 5)]) (g := (gName 5)) (tt := tYes) (te := (tCallS (spD cv 5 d__law_refusal) (WE W0) (tCons (tVar 5) (tCons (tVar 1) (tCons (tVar 9) (tCons (tVar 8) (tCons (tC (.int 0)) tNil))))))) (by rfl) nd (pi_range1 (by rfl) G.b_range (pa_cons pe_int pa_nil)) (blkOk_by (own := [((PySem.Str.ofString "_law_kind"), 5)]) (N := [(PySem.Str.ofString "_law_script"), (PySem.Str.ofString "_law_world_here"), (PySem.Str.ofString "_law_stand_here"), (PySem.Str.ofString "_law_bad"), (PySem.Str.ofString "_law_none"), (PySem.Str.ofString "_law_kind"), (PySem.Str.ofString "_law_told"), (PySem.Str.ofString "_law_count"), (PySem.Str.ofString "_law_full"), (PySem.Str.ofString "_law_empty")]) (sc := defScope s_law) (by decide +kernel)) (fun _ _ _ _ _ => (pg_name (i := 5) nd rfl (by first | exact Or.inl rfl | exact Or.inr rfl))) (fun _ _ _ _ _ => pts_nil) (fun _ _ _ _ _ => (pe_okc (W := W0) (sp := (spD cv 5 d__law_refusal)) (k := 10) (j := 10) (ps := [(PySem.Str.ofString "_law_kind"), (PySem.Str.ofString "_law_world_here"), (PySem.Str.ofString "_law_start"), (PySem.Str.ofString "_law_goal"), (PySem.Str.ofString "_law_count")]) (pa_cons (pv 5) (pa_cons (pv 1) (pa_cons (pv 9) (pa_cons (pv 8) (pa_cons pe_int pa_nil))))) (o := by exact o__law_refusal) (hr := by exact hr)))) (pe_op op_times (pe_lst (pa_cons pe_str pa_nil)) pe_int) (nomark _)) (pss_one (ps_ret pe_bl)) pss_nil)
    (pss_cons (ps_if (pt_cmpR (op_neD (hu64 hr)) (pe_lc (own := [((PySem.Str.ofString "_law_kind"), 5)]) (g := (gName 5)) (tt := tYes) (te := (tCallS (spD cv 5 d__law_refusal) (WE W0) (tCons (tVar 5) (tCons (tVar 1) (tCons (tVar 8) (tCons (tVar 9) (tCons (tC (.int 0)) tNil))))))) (by rfl) nd (pi_range1 (by rfl) G.b_range (pa_cons pe_int pa_nil)) (blkOk_by (own := [((PySem.Str.ofString "_law_kind"), 5)]) (N := [(PySem.Str.ofString "_law_script"), (PySem.Str.ofString "_law_world_here"), (PySem.Str.ofString "_law_stand_here"), (PySem.Str.ofString "_law_bad"), (PySem.Str.ofString "_law_none"), (PySem.Str.ofString "_law_kind"), (PySem.Str.ofString "_law_told"), (PySem.Str.ofString "_law_count"), (PySem.Str.ofString "_law_full"), (PySem.Str.ofString "_law_empty")]) (sc := defScope s_law) (by decide +kernel)) (fun _ _ _ _ _ => (pg_name (i := 5) nd rfl (by first | exact Or.inl rfl | exact Or.inr rfl))) (fun _ _ _ _ _ => pts_nil) (fun _ _ _ _ _ => (pe_okc (W := W0) (sp := (spD cv 5 d__law_refusal)) (k := 10) (j := 10) (ps := [(PySem.Str.ofString "_law_kind"), (PySem.Str.ofString "_law_world_here"), (PySem.Str.ofString "_law_start"), (PySem.Str.ofString "_law_goal"), (PySem.Str.ofString "_law_count")]) (pa_cons (pv 5) (pa_cons (pv 1) (pa_cons (pv 8) (pa_cons (pv 9) (pa_cons pe_int pa_nil))))) (o := by exact o__law_refusal) (hr := by exact hr)))) (pe_op op_times (pe_lst (pa_cons pe_str pa_nil)) pe_int) (nomark _)) (pss_one (ps_ret pe_bl)) pss_nil)
    (pss_cons (ps_if (pt_cmpR (op_neD (hu64 hr)) (by exact pe_ok (W := (WD E)) o_row_to hr (by decide) (takes_of rfl rfl rfl rfl) (pa_cons (pv 1) (pa_cons (pv 8) (pa_cons (pv 8) pa_nil)))) (pe_lst pa_nil) (nomark _)) (pss_one (ps_ret pe_bl)) pss_nil)
    (pss_cons (ps_if (pt_cmpR (op_neD (hu64 hr)) (by exact pe_ok (W := (WD E)) o_how_many hr (by decide) (takes_of rfl rfl rfl rfl) (pa_cons (pv 1) (pa_cons (pv 9) (pa_cons (pv 9) pa_nil)))) pe_int (nomark _)) (pss_one (ps_ret pe_bl)) pss_nil)
    (pss_one (ps_ret (pe_cmpR (op_eqD (hu64 hr)) (by exact pe_ok (W := (WD E)) o_last hr (by decide) (takes_of rfl rfl rfl rfl) (pa_cons (pv 1) (pa_cons (pv 8) (pa_cons (pv 8) pa_nil)))) (pe_lst pa_nil) (nomark _)))))))))))))))), ?_⟩
  exact body_of (N := [(PySem.Str.ofString "_law_script"), (PySem.Str.ofString "_law_world_here"), (PySem.Str.ofString "_law_stand_here"), (PySem.Str.ofString "_law_bad"), (PySem.Str.ofString "_law_none"), (PySem.Str.ofString "_law_kind"), (PySem.Str.ofString "_law_told"), (PySem.Str.ofString "_law_count"), (PySem.Str.ofString "_law_full"), (PySem.Str.ofString "_law_empty")]) (o := o_law) (by unfold o_law law_s13 law_s12 law_s11 law_s10 law_s9 law_s8 law_s7 law_s6 law_s5 law_b1 law_s4 law_s3 law_s2 law_s1; exact (ss_seq (ss_set (se_call (sa_cons se_var (sa_cons se_int sa_nil))))
    (ss_seq (ss_set (se_call (sa_cons (se_call (sa_cons (se_call (sa_cons se_var (sa_cons se_int sa_nil))) (sa_cons se_int sa_nil))) (sa_cons (se_op ro_ix se_var se_int) sa_nil))))
    (ss_seq (ss_set (se_op ro_ix (se_l (sl_lst (sa_cons se_non (sa_cons (se_tup (sa_cons se_int (sa_cons (se_tup sa_nil) sa_nil))) (sa_cons (se_tup (sa_cons (se_op ro_ix se_var se_int) (sa_cons se_non sa_nil))) (sa_cons (se_l (sl_listOf (sa_cons se_var sa_nil))) (sa_cons (se_tup (sa_cons se_int (sa_cons (se_tup sa_nil) sa_nil))) (sa_cons (se_tup (sa_cons se_bl (sa_cons (se_tup sa_nil) sa_nil))) sa_nil)))))))) (se_op ro_mod (se_call (sa_cons se_var (sa_cons se_int sa_nil))) se_int)))
    (ss_seq (ss_set (se_op ro_ix (se_l (sl_lst (sa_cons se_str (sa_cons (se_op ro_plus se_var se_str) (sa_cons (se_sl se_var (so_p se_int) so_no) (sa_cons (se_op ro_plus (se_sl se_var (so_p se_int) so_no) se_str) (sa_cons se_non (sa_cons (se_l (sl_listOf (sa_cons se_var sa_nil))) sa_nil)))))))) (se_op ro_mod (se_call (sa_cons se_var (sa_cons se_int sa_nil))) se_int)))
    (ss_seq (ss_for [5, 6] (si_rng1 (sa_cons se_int sa_nil)) sg_name
    (ss_seq (ss_if (st_tst (se_op ro_ne (se_call (sa_cons se_var (sa_cons se_var (sa_cons se_var (sa_cons se_var (sa_cons se_non sa_nil)))))) se_str)) (ss_ret se_bl) ss_next)
    (ss_seq (ss_set (se_l (sl_lst (sa_cons (se_call (sa_cons se_var (sa_cons se_var (sa_cons se_var (sa_cons se_var (sa_cons se_non sa_nil)))))) (sa_cons (se_call (sa_cons se_var (sa_cons se_var (sa_cons se_var (sa_cons se_var (sa_cons se_non sa_nil)))))) sa_nil)))))
    (ss_if (st_tst (se_op ro_ne se_var (se_l (sl_lst (sa_cons se_str (sa_cons se_str sa_nil)))))) (ss_ret se_bl) ss_next))))
    (ss_seq (ss_set (se_op ro_ix (se_l (sl_lst (sa_cons se_int (sa_cons (se_un ru_neg se_int) (sa_cons se_non (sa_cons se_bl (sa_cons se_str sa_nil))))))) (se_op ro_mod (se_call (sa_cons se_var (sa_cons se_int sa_nil))) se_int)))
    (ss_seq (ss_asg (se_tup (sa_cons (se_op ro_times se_str (se_op ro_ix se_var se_int)) (sa_cons (se_op ro_times se_str (se_op ro_ix se_var se_int)) sa_nil))) (sg_any (sgs_cons sg_name (sgs_cons sg_name sgs_nil))))
    (ss_seq (ss_if (st_or (st_tst (se_op ro_ne (se_call (sa_cons se_int (sa_cons se_var (sa_cons se_var (sa_cons se_var (sa_cons se_var sa_nil)))))) se_str)) (st_tst (se_op ro_ne (se_call (sa_cons se_var (sa_cons se_var (sa_cons se_var (sa_cons se_int sa_nil))))) (se_l (sl_lst (sa_cons se_var sa_nil)))))) (ss_ret se_bl) ss_next)
    (ss_seq (ss_if (st_tst (se_op ro_ne (se_l (sl_lc (si_rng1 (sa_cons se_int sa_nil)) sg_name st_yes (se_call (sa_cons se_var (sa_cons se_var (sa_cons se_var (sa_cons se_var (sa_cons se_int sa_nil)))))))) (se_l (sl_rep (sl_lst (sa_cons se_str sa_nil)) se_int)))) (ss_ret se_bl) ss_next)
    (ss_seq (ss_if (st_tst (se_op ro_ne (se_l (sl_lc (si_rng1 (sa_cons se_int sa_nil)) sg_name st_yes (se_call (sa_cons se_var (sa_cons se_var (sa_cons se_var (sa_cons se_var (sa_cons se_int sa_nil)))))))) (se_l (sl_rep (sl_lst (sa_cons se_str sa_nil)) se_int)))) (ss_ret se_bl) ss_next)
    (ss_seq (ss_if (st_tst (se_op ro_ne (se_call (sa_cons se_var (sa_cons se_var (sa_cons se_var sa_nil)))) (se_l (sl_lst sa_nil)))) (ss_ret se_bl) ss_next)
    (ss_seq (ss_if (st_tst (se_op ro_ne (se_call (sa_cons se_var (sa_cons se_var (sa_cons se_var sa_nil)))) se_int)) (ss_ret se_bl) ss_next)
    (ss_ret (se_op ro_eq (se_call (sa_cons se_var (sa_cons se_var (sa_cons se_var sa_nil)))) (se_l (sl_lst sa_nil))))))))))))))))) h
end
end L2.Dn


set_option Elab.async false
set_option linter.all false
set_option maxRecDepth 100000
set_option maxHeartbeats 4000000
namespace L2.Dn
open PySem PySem.Spec PyProof.Rows
theorem all_mk {P : Program} {w : World} {K : PySem.W.Frag} {h : Heap} {mg : Str → Option Value} {fa : Addr} (X : K.In h) (G : h.Ns mainGlobals mg) (hfa : mg "law" = some (.ref fa))
    {C0 : Addr} {C1 : Addr} {C2 : Addr} {C3 : Addr} {C4 : Addr} {f0 : Addr} {od0 an0 : Option Addr} {sl0 : Array (Option Value)} {oc0 kV0 dc0 pm0 cd0 ct0 : Value} {f1 : Addr} {od1 an1 : Option Addr} {sl1 : Array (Option Value)} {oc1 kV1 dc1 pm1 cd1 ct1 : Value} {f2 : Addr} {od2 an2 : Option Addr} {sl2 : Array (Option Value)} {oc2 kV2 dc2 pm2 cd2 ct2 : Value} {f3 : Addr} {od3 an3 : Option Addr} {sl3 : Array (Option Value)} {oc3 kV3 dc3 pm3 cd3 ct3 : Value} {f4 : Addr} {od4 an4 : Option Addr} {sl4 : Array (Option Value)} {oc4 kV4 dc4 pm4 cd4 ct4 : Value} {f5 : Addr} {od5 an5 : Option Addr} {sl5 : Array (Option Value)} {oc5 kV5 dc5 pm5 cd5 ct5 : Value} {f6 : Addr} {od6 an6 : Option Addr} {sl6 : Array (Option Value)} {oc6 kV6 dc6 pm6 cd6 ct6 : Value} {f7 : Addr} {od7 an7 : Option Addr} {sl7 : Array (Option Value)} {oc7 kV7 dc7 pm7 cd7 ct7 : Value} {f8 : Addr} {od8 an8 : Option Addr} {sl8 : Array (Option Value)} {oc8 kV8 dc8 pm8 cd8 ct8 : Value} {f9 : Addr} {od9 an9 : Option Addr} {sl9 : Array (Option Value)} {oc9 kV9 dc9 pm9 cd9 ct9 : Value} {f10 : Addr} {od10 an10 : Option Addr} {sl10 : Array (Option Value)} {oc10 kV10 dc10 pm10 cd10 ct10 : Value} {f11 : Addr} {od11 an11 : Option Addr} {sl11 : Array (Option Value)} {oc11 kV11 dc11 pm11 cd11 ct11 : Value} {f12 : Addr} {od12 an12 : Option Addr} {sl12 : Array (Option Value)} {oc12 kV12 dc12 pm12 cd12 ct12 : Value} {f13 : Addr} {od13 an13 : Option Addr} {sl13 : Array (Option Value)} {oc13 kV13 dc13 pm13 cd13 ct13 : Value} {f14 : Addr} {od14 an14 : Option Addr} {sl14 : Array (Option Value)} {oc14 kV14 dc14 pm14 cd14 ct14 : Value} {f15 : Addr} {od15 an15 : Option Addr} {sl15 : Array (Option Value)} {oc15 kV15 dc15 pm15 cd15 ct15 : Value} {f16 : Addr} {od16 an16 : Option Addr} {sl16 : Array (Option Value)} {oc16 kV16 dc16 pm16 cd16 ct16 : Value} {f17 : Addr} {od17 an17 : Option Addr} {sl17 : Array (Option Value)} {oc17 kV17 dc17 pm17 cd17 ct17 : Value} {f18 : Addr} {od18 an18 : Option Addr} {sl18 : Array (Option Value)} {oc18 kV18 dc18 pm18 cd18 ct18 : Value} {f19 : Addr} {od19 an19 : Option Addr} {sl19 : Array (Option Value)} {oc19 kV19 dc19 pm19 cd19 ct19 : Value} {f20 : Addr} {od20 an20 : Option Addr} {sl20 : Array (Option Value)} {oc20 kV20 dc20 pm20 cd20 ct20 : Value} {f21 : Addr} {od21 an21 : Option Addr} {sl21 : Array (Option Value)} {oc21 kV21 dc21 pm21 cd21 ct21 : Value} {c P' : Addr} {f22 : Addr} {od22 an22 : Option Addr} {sl22 : Array (Option Value)} {oc22 kV22 dc22 pm22 cd22 ct22 : Value} {f23 : Addr} {od23 an23 : Option Addr} {sl23 : Array (Option Value)} {oc23 kV23 dc23 pm23 cd23 ct23 : Value} {f24 : Addr} {od24 an24 : Option Addr} {sl24 : Array (Option Value)} {oc24 kV24 dc24 pm24 cd24 ct24 : Value} {f25 : Addr} {od25 an25 : Option Addr} {sl25 : Array (Option Value)} {oc25 kV25 dc25 pm25 cd25 ct25 : Value} {f26 : Addr} {od26 an26 : Option Addr} {sl26 : Array (Option Value)} {oc26 kV26 dc26 pm26 cd26 ct26 : Value} {f27 : Addr} {od27 an27 : Option Addr} {sl27 : Array (Option Value)} {oc27 kV27 dc27 pm27 cd27 ct27 : Value} {f28 : Addr} {od28 an28 : Option Addr} {sl28 : Array (Option Value)} {oc28 kV28 dc28 pm28 cd28 ct28 : Value} {f29 : Addr} {od29 an29 : Option Addr} {sl29 : Array (Option Value)} {oc29 kV29 dc29 pm29 cd29 ct29 : Value} {f30 : Addr} {od30 an30 : Option Addr} {sl30 : Array (Option Value)} {oc30 kV30 dc30 pm30 cd30 ct30 : Value} {f31 : Addr} {od31 an31 : Option Addr} {sl31 : Array (Option Value)} {oc31 kV31 dc31 pm31 cd31 ct31 : Value} {f32 : Addr} {od32 an32 : Option Addr} {sl32 : Array (Option Value)} {oc32 kV32 dc32 pm32 cd32 ct32 : Value} {f33 : Addr} {od33 an33 : Option Addr} {sl33 : Array (Option Value)} {oc33 kV33 dc33 pm33 cd33 ct33 : Value} {f34 : Addr} {od34 an34 : Option Addr} {sl34 : Array (Option Value)} {oc34 kV34 dc34 pm34 cd34 ct34 : Value} {f35 : Addr} {od35 an35 : Option Addr} {sl35 : Array (Option Value)} {oc35 kV35 dc35 pm35 cd35 ct35 : Value} {f36 : Addr} {od36 an36 : Option Addr} {sl36 : Array (Option Value)} {oc36 kV36 dc36 pm36 cd36 ct36 : Value} {f37 : Addr} {od37 an37 : Option Addr} {sl37 : Array (Option Value)} {oc37 kV37 dc37 pm37 cd37 ct37 : Value} {f38 : Addr} {od38 an38 : Option Addr} {sl38 : Array (Option Value)} {oc38 kV38 dc38 pm38 cd38 ct38 : Value} {f39 : Addr} {od39 an39 : Option Addr} {sl39 : Array (Option Value)} {oc39 kV39 dc39 pm39 cd39 ct39 : Value} {f40 : Addr} {od40 an40 : Option Addr} {sl40 : Array (Option Value)} {oc40 kV40 dc40 pm40 cd40 ct40 : Value} {f41 : Addr} {od41 an41 : Option Addr} {sl41 : Array (Option Value)} {oc41 kV41 dc41 pm41 cd41 ct41 : Value} {f42 : Addr} {od42 an42 : Option Addr} {sl42 : Array (Option Value)} {oc42 kV42 dc42 pm42 cd42 ct42 : Value} {f43 : Addr} {od43 an43 : Option Addr} {sl43 : Array (Option Value)} {oc43 kV43 dc43 pm43 cd43 ct43 : Value} {f44 : Addr} {od44 an44 : Option Addr} {sl44 : Array (Option Value)} {oc44 kV44 dc44 pm44 cd44 ct44 : Value} {g0 : Tok} {g1 : Tok} {g2 : Tok}
    (p0 : PySem.W.nsIn K mainGlobals (PySem.Str.ofString "BadWorld") = some (some (.ref C0))) (q0 : PySem.W.excIn K C0 [.type "ValueError", .type "Exception", .type "BaseException", .type "object"] "ValueError.__new__" = true) (r0 : PySem.W.keepIn K (.ref C0) = true) (s0 : PySem.W.subIn K (.ref C0) (.type "BaseException") = some true) (t0 : PySem.W.typeIn K (.ref C0) = some (.type "type"))
    (p1 : PySem.W.nsIn K mainGlobals (PySem.Str.ofString "BadStand") = some (some (.ref C1))) (q1 : PySem.W.excIn K C1 [.type "ValueError", .type "Exception", .type "BaseException", .type "object"] "ValueError.__new__" = true) (r1 : PySem.W.keepIn K (.ref C1) = true) (s1 : PySem.W.subIn K (.ref C1) (.type "BaseException") = some true) (t1 : PySem.W.typeIn K (.ref C1) = some (.type "type"))
    (p2 : PySem.W.nsIn K mainGlobals (PySem.Str.ofString "TooMany") = some (some (.ref C2))) (q2 : PySem.W.excIn K C2 [.type "ValueError", .type "Exception", .type "BaseException", .type "object"] "ValueError.__new__" = true) (r2 : PySem.W.keepIn K (.ref C2) = true) (s2 : PySem.W.subIn K (.ref C2) (.type "BaseException") = some true) (t2 : PySem.W.typeIn K (.ref C2) = some (.type "type"))
    (p3 : PySem.W.nsIn K mainGlobals (PySem.Str.ofString "Never") = some (some (.ref C3))) (q3 : PySem.W.excIn K C3 [.type "ValueError", .type "Exception", .type "BaseException", .type "object"] "ValueError.__new__" = true) (r3 : PySem.W.keepIn K (.ref C3) = true) (s3 : PySem.W.subIn K (.ref C3) (.type "BaseException") = some true) (t3 : PySem.W.typeIn K (.ref C3) = some (.type "type"))
    (p4 : PySem.W.nsIn K mainGlobals (PySem.Str.ofString "BadCount") = some (some (.ref C4))) (q4 : PySem.W.excIn K C4 [.type "ValueError", .type "Exception", .type "BaseException", .type "object"] "ValueError.__new__" = true) (r4 : PySem.W.keepIn K (.ref C4) = true) (s4 : PySem.W.subIn K (.ref C4) (.type "BaseException") = some true) (t4 : PySem.W.typeIn K (.ref C4) = some (.type "type"))
    (i0 : PySem.W.isClsIn K C0 = true)
    (u0x0 : PySem.W.subIn K (.ref C0) (.ref C0) = some true)
    (u1x0 : PySem.W.subIn K (.ref C1) (.ref C0) = some false)
    (u2x0 : PySem.W.subIn K (.ref C2) (.ref C0) = some false)
    (u3x0 : PySem.W.subIn K (.ref C3) (.ref C0) = some false)
    (u4x0 : PySem.W.subIn K (.ref C4) (.ref C0) = some false)
    (i1 : PySem.W.isClsIn K C1 = true)
    (u0x1 : PySem.W.subIn K (.ref C0) (.ref C1) = some false)
    (u1x1 : PySem.W.subIn K (.ref C1) (.ref C1) = some true)
    (u2x1 : PySem.W.subIn K (.ref C2) (.ref C1) = some false)
    (u3x1 : PySem.W.subIn K (.ref C3) (.ref C1) = some false)
    (u4x1 : PySem.W.subIn K (.ref C4) (.ref C1) = some false)
    (i4 : PySem.W.isClsIn K C4 = true)
    (u0x4 : PySem.W.subIn K (.ref C0) (.ref C4) = some false)
    (u1x4 : PySem.W.subIn K (.ref C1) (.ref C4) = some false)
    (u2x4 : PySem.W.subIn K (.ref C2) (.ref C4) = some false)
    (u3x4 : PySem.W.subIn K (.ref C3) (.ref C4) = some false)
    (u4x4 : PySem.W.subIn K (.ref C4) (.ref C4) = some true)
    (i3 : PySem.W.isClsIn K C3 = true)
    (u0x3 : PySem.W.subIn K (.ref C0) (.ref C3) = some false)
    (u1x3 : PySem.W.subIn K (.ref C1) (.ref C3) = some false)
    (u2x3 : PySem.W.subIn K (.ref C2) (.ref C3) = some false)
    (u3x3 : PySem.W.subIn K (.ref C3) (.ref C3) = some true)
    (u4x3 : PySem.W.subIn K (.ref C4) (.ref C3) = some false)
    (i2 : PySem.W.isClsIn K C2 = true)
    (u0x2 : PySem.W.subIn K (.ref C0) (.ref C2) = some false)
    (u1x2 : PySem.W.subIn K (.ref C1) (.ref C2) = some false)
    (u2x2 : PySem.W.subIn K (.ref C2) (.ref C2) = some true)
    (u3x2 : PySem.W.subIn K (.ref C3) (.ref C2) = some false)
    (u4x2 : PySem.W.subIn K (.ref C4) (.ref C2) = some false)
    (a0 : PySem.W.nsIn K mainGlobals (PySem.Str.ofString "is_within") = some (some (.ref f0))) (l0 : K.lookup f0 = some ⟨oc0, od0, .func (PySem.W.fnOf (PySem.Str.ofString "is_within") (PySem.Str.ofString "is_within") (defArgs s_is_within) (defBody s_is_within) (defScope s_is_within) .none kV0 dc0 pm0 an0 cd0 ct0), sl0⟩) (c0 : PySem.W.codeIn K cd0 (PySem.Str.ofString "is_within") = true) (k0 : PySem.W.keepIn K (.ref f0) = true)
    (a1 : PySem.W.nsIn K mainGlobals (PySem.Str.ofString "is_jump") = some (some (.ref f1))) (l1 : K.lookup f1 = some ⟨oc1, od1, .func (PySem.W.fnOf (PySem.Str.ofString "is_jump") (PySem.Str.ofString "is_jump") (defArgs s_is_jump) (defBody s_is_jump) (defScope s_is_jump) .none kV1 dc1 pm1 an1 cd1 ct1), sl1⟩) (c1 : PySem.W.codeIn K cd1 (PySem.Str.ofString "is_jump") = true) (k1 : PySem.W.keepIn K (.ref f1) = true)
    (a2 : PySem.W.nsIn K mainGlobals (PySem.Str.ofString "is_world") = some (some (.ref f2))) (l2 : K.lookup f2 = some ⟨oc2, od2, .func (PySem.W.fnOf (PySem.Str.ofString "is_world") (PySem.Str.ofString "is_world") (defArgs s_is_world) (defBody s_is_world) (defScope s_is_world) .none kV2 dc2 pm2 an2 cd2 ct2), sl2⟩) (c2 : PySem.W.codeIn K cd2 (PySem.Str.ofString "is_world") = true) (k2 : PySem.W.keepIn K (.ref f2) = true)
    (a3 : PySem.W.nsIn K mainGlobals (PySem.Str.ofString "look") = some (some (.ref f3))) (l3 : K.lookup f3 = some ⟨oc3, od3, .func (PySem.W.fnOf (PySem.Str.ofString "look") (PySem.Str.ofString "look") (defArgs s_look) (defBody s_look) (defScope s_look) .none kV3 dc3 pm3 an3 cd3 ct3), sl3⟩) (c3 : PySem.W.codeIn K cd3 (PySem.Str.ofString "look") = true) (k3 : PySem.W.keepIn K (.ref f3) = true)
    (a4 : PySem.W.nsIn K mainGlobals (PySem.Str.ofString "is_stand") = some (some (.ref f4))) (l4 : K.lookup f4 = some ⟨oc4, od4, .func (PySem.W.fnOf (PySem.Str.ofString "is_stand") (PySem.Str.ofString "is_stand") (defArgs s_is_stand) (defBody s_is_stand) (defScope s_is_stand) .none kV4 dc4 pm4 an4 cd4 ct4), sl4⟩) (c4 : PySem.W.codeIn K cd4 (PySem.Str.ofString "is_stand") = true) (k4 : PySem.W.keepIn K (.ref f4) = true)
    (a5 : PySem.W.nsIn K mainGlobals (PySem.Str.ofString "look_stand") = some (some (.ref f5))) (l5 : K.lookup f5 = some ⟨oc5, od5, .func (PySem.W.fnOf (PySem.Str.ofString "look_stand") (PySem.Str.ofString "look_stand") (defArgs s_look_stand) (defBody s_look_stand) (defScope s_look_stand) .none kV5 dc5 pm5 an5 cd5 ct5), sl5⟩) (c5 : PySem.W.codeIn K cd5 (PySem.Str.ofString "look_stand") = true) (k5 : PySem.W.keepIn K (.ref f5) = true)
    (a6 : PySem.W.nsIn K mainGlobals (PySem.Str.ofString "look_two") = some (some (.ref f6))) (l6 : K.lookup f6 = some ⟨oc6, od6, .func (PySem.W.fnOf (PySem.Str.ofString "look_two") (PySem.Str.ofString "look_two") (defArgs s_look_two) (defBody s_look_two) (defScope s_look_two) .none kV6 dc6 pm6 an6 cd6 ct6), sl6⟩) (c6 : PySem.W.codeIn K cd6 (PySem.Str.ofString "look_two") = true) (k6 : PySem.W.keepIn K (.ref f6) = true)
    (a7 : PySem.W.nsIn K mainGlobals (PySem.Str.ofString "put") = some (some (.ref f7))) (l7 : K.lookup f7 = some ⟨oc7, od7, .func (PySem.W.fnOf (PySem.Str.ofString "put") (PySem.Str.ofString "put") (defArgs s_put) (defBody s_put) (defScope s_put) .none kV7 dc7 pm7 an7 cd7 ct7), sl7⟩) (c7 : PySem.W.codeIn K cd7 (PySem.Str.ofString "put") = true) (k7 : PySem.W.keepIn K (.ref f7) = true)
    (a8 : PySem.W.nsIn K mainGlobals (PySem.Str.ofString "has") = some (some (.ref f8))) (l8 : K.lookup f8 = some ⟨oc8, od8, .func (PySem.W.fnOf (PySem.Str.ofString "has") (PySem.Str.ofString "has") (defArgs s_has) (defBody s_has) (defScope s_has) .none kV8 dc8 pm8 an8 cd8 ct8), sl8⟩) (c8 : PySem.W.codeIn K cd8 (PySem.Str.ofString "has") = true) (k8 : PySem.W.keepIn K (.ref f8) = true)
    (a9 : PySem.W.nsIn K mainGlobals (PySem.Str.ofString "moves_of") = some (some (.ref f9))) (l9 : K.lookup f9 = some ⟨oc9, od9, .func (PySem.W.fnOf (PySem.Str.ofString "moves_of") (PySem.Str.ofString "moves_of") (defArgs s_moves_of) (defBody s_moves_of) (defScope s_moves_of) .none kV9 dc9 pm9 an9 cd9 ct9), sl9⟩) (c9 : PySem.W.codeIn K cd9 (PySem.Str.ofString "moves_of") = true) (k9 : PySem.W.keepIn K (.ref f9) = true)
    (a10 : PySem.W.nsIn K mainGlobals (PySem.Str.ofString "back_of") = some (some (.ref f10))) (l10 : K.lookup f10 = some ⟨oc10, od10, .func (PySem.W.fnOf (PySem.Str.ofString "back_of") (PySem.Str.ofString "back_of") (defArgs s_back_of) (defBody s_back_of) (defScope s_back_of) .none kV10 dc10 pm10 an10 cd10 ct10), sl10⟩) (c10 : PySem.W.codeIn K cd10 (PySem.Str.ofString "back_of") = true) (k10 : PySem.W.keepIn K (.ref f10) = true)
    (a11 : PySem.W.nsIn K mainGlobals (PySem.Str.ofString "all_from") = some (some (.ref f11))) (l11 : K.lookup f11 = some ⟨oc11, od11, .func (PySem.W.fnOf (PySem.Str.ofString "all_from") (PySem.Str.ofString "all_from") (defArgs s_all_from) (defBody s_all_from) (defScope s_all_from) .none kV11 dc11 pm11 an11 cd11 ct11), sl11⟩) (c11 : PySem.W.codeIn K cd11 (PySem.Str.ofString "all_from") = true) (k11 : PySem.W.keepIn K (.ref f11) = true)
    (a12 : PySem.W.nsIn K mainGlobals (PySem.Str.ofString "all_to") = some (some (.ref f12))) (l12 : K.lookup f12 = some ⟨oc12, od12, .func (PySem.W.fnOf (PySem.Str.ofString "all_to") (PySem.Str.ofString "all_to") (defArgs s_all_to) (defBody s_all_to) (defScope s_all_to) .none kV12 dc12 pm12 an12 cd12 ct12), sl12⟩) (c12 : PySem.W.codeIn K cd12 (PySem.Str.ofString "all_to") = true) (k12 : PySem.W.keepIn K (.ref f12) = true)
    (a13 : PySem.W.nsIn K mainGlobals (PySem.Str.ofString "reached") = some (some (.ref f13))) (l13 : K.lookup f13 = some ⟨oc13, od13, .func (PySem.W.fnOf (PySem.Str.ofString "reached") (PySem.Str.ofString "reached") (defArgs s_reached) (defBody s_reached) (defScope s_reached) .none kV13 dc13 pm13 an13 cd13 ct13), sl13⟩) (c13 : PySem.W.codeIn K cd13 (PySem.Str.ofString "reached") = true) (k13 : PySem.W.keepIn K (.ref f13) = true)
    (a14 : PySem.W.nsIn K mainGlobals (PySem.Str.ofString "leading") = some (some (.ref f14))) (l14 : K.lookup f14 = some ⟨oc14, od14, .func (PySem.W.fnOf (PySem.Str.ofString "leading") (PySem.Str.ofString "leading") (defArgs s_leading) (defBody s_leading) (defScope s_leading) .none kV14 dc14 pm14 an14 cd14 ct14), sl14⟩) (c14 : PySem.W.codeIn K cd14 (PySem.Str.ofString "leading") = true) (k14 : PySem.W.keepIn K (.ref f14) = true)
    (a15 : PySem.W.nsIn K mainGlobals (PySem.Str.ofString "ends") = some (some (.ref f15))) (l15 : K.lookup f15 = some ⟨oc15, od15, .func (PySem.W.fnOf (PySem.Str.ofString "ends") (PySem.Str.ofString "ends") (defArgs s_ends) (defBody s_ends) (defScope s_ends) .none kV15 dc15 pm15 an15 cd15 ct15), sl15⟩) (c15 : PySem.W.codeIn K cd15 (PySem.Str.ofString "ends") = true) (k15 : PySem.W.keepIn K (.ref f15) = true)
    (a16 : PySem.W.nsIn K mainGlobals (PySem.Str.ofString "can_come") = some (some (.ref f16))) (l16 : K.lookup f16 = some ⟨oc16, od16, .func (PySem.W.fnOf (PySem.Str.ofString "can_come") (PySem.Str.ofString "can_come") (defArgs s_can_come) (defBody s_can_come) (defScope s_can_come) .none kV16 dc16 pm16 an16 cd16 ct16), sl16⟩) (c16 : PySem.W.codeIn K cd16 (PySem.Str.ofString "can_come") = true) (k16 : PySem.W.keepIn K (.ref f16) = true)
    (a17 : PySem.W.nsIn K mainGlobals (PySem.Str.ofString "between") = some (some (.ref f17))) (l17 : K.lookup f17 = some ⟨oc17, od17, .func (PySem.W.fnOf (PySem.Str.ofString "between") (PySem.Str.ofString "between") (defArgs s_between) (defBody s_between) (defScope s_between) .none kV17 dc17 pm17 an17 cd17 ct17), sl17⟩) (c17 : PySem.W.codeIn K cd17 (PySem.Str.ofString "between") = true) (k17 : PySem.W.keepIn K (.ref f17) = true)
    (a18 : PySem.W.nsIn K mainGlobals (PySem.Str.ofString "row_to") = some (some (.ref f18))) (l18 : K.lookup f18 = some ⟨oc18, od18, .func (PySem.W.fnOf (PySem.Str.ofString "row_to") (PySem.Str.ofString "row_to") (defArgs s_row_to) (defBody s_row_to) (defScope s_row_to) .none kV18 dc18 pm18 an18 cd18 ct18), sl18⟩) (c18 : PySem.W.codeIn K cd18 (PySem.Str.ofString "row_to") = true) (k18 : PySem.W.keepIn K (.ref f18) = true)
    (a19 : PySem.W.nsIn K mainGlobals (PySem.Str.ofString "last") = some (some (.ref f19))) (l19 : K.lookup f19 = some ⟨oc19, od19, .func (PySem.W.fnOf (PySem.Str.ofString "last") (PySem.Str.ofString "last") (defArgs s_last) (defBody s_last) (defScope s_last) .none kV19 dc19 pm19 an19 cd19 ct19), sl19⟩) (c19 : PySem.W.codeIn K cd19 (PySem.Str.ofString "last") = true) (k19 : PySem.W.keepIn K (.ref f19) = true)
    (a20 : PySem.W.nsIn K mainGlobals (PySem.Str.ofString "ahead") = some (some (.ref f20))) (l20 : K.lookup f20 = some ⟨oc20, od20, .func (PySem.W.fnOf (PySem.Str.ofString "ahead") (PySem.Str.ofString "ahead") (defArgs s_ahead) (defBody s_ahead) (defScope s_ahead) .none kV20 dc20 pm20 an20 cd20 ct20), sl20⟩) (c20 : PySem.W.codeIn K cd20 (PySem.Str.ofString "ahead") = true) (k20 : PySem.W.keepIn K (.ref f20) = true)
    (a21 : PySem.W.nsIn K mainGlobals (PySem.Str.ofString "ways_to") = some (some (.ref f21))) (l21 : K.lookup f21 = some ⟨oc21, od21, .func (PySem.W.fnOf (PySem.Str.ofString "ways_to") (PySem.Str.ofString "ways_to") (defArgs s_ways_to) (defBody s_ways_to) (defScope s_ways_to) .none kV21 dc21 pm21 an21 cd21 ct21), sl21⟩) (c21 : PySem.W.codeIn K cd21 (PySem.Str.ofString "ways_to") = true) (k21 : PySem.W.keepIn K (.ref f21) = true)
    (n21 : cd21 = .ref c) (m21 : tabOfK K c = some P')
    (a22 : PySem.W.nsIn K mainGlobals (PySem.Str.ofString "how_many") = some (some (.ref f22))) (l22 : K.lookup f22 = some ⟨oc22, od22, .func (PySem.W.fnOf (PySem.Str.ofString "how_many") (PySem.Str.ofString "how_many") (defArgs s_how_many) (defBody s_how_many) (defScope s_how_many) .none kV22 dc22 pm22 an22 cd22 ct22), sl22⟩) (c22 : PySem.W.codeIn K cd22 (PySem.Str.ofString "how_many") = true) (k22 : PySem.W.keepIn K (.ref f22) = true)
    (a23 : PySem.W.nsIn K mainGlobals (PySem.Str.ofString "without") = some (some (.ref f23))) (l23 : K.lookup f23 = some ⟨oc23, od23, .func (PySem.W.fnOf (PySem.Str.ofString "without") (PySem.Str.ofString "without") (defArgs s_without) (defBody s_without) (defScope s_without) .none kV23 dc23 pm23 an23 cd23 ct23), sl23⟩) (c23 : PySem.W.codeIn K cd23 (PySem.Str.ofString "without") = true) (k23 : PySem.W.keepIn K (.ref f23) = true)
    (a24 : PySem.W.nsIn K mainGlobals (PySem.Str.ofString "surely") = some (some (.ref f24))) (l24 : K.lookup f24 = some ⟨oc24, od24, .func (PySem.W.fnOf (PySem.Str.ofString "surely") (PySem.Str.ofString "surely") (defArgs s_surely) (defBody s_surely) (defScope s_surely) .none kV24 dc24 pm24 an24 cd24 ct24), sl24⟩) (c24 : PySem.W.codeIn K cd24 (PySem.Str.ofString "surely") = true) (k24 : PySem.W.keepIn K (.ref f24) = true)
    (a25 : PySem.W.nsIn K mainGlobals (PySem.Str.ofString "perhaps") = some (some (.ref f25))) (l25 : K.lookup f25 = some ⟨oc25, od25, .func (PySem.W.fnOf (PySem.Str.ofString "perhaps") (PySem.Str.ofString "perhaps") (defArgs s_perhaps) (defBody s_perhaps) (defScope s_perhaps) .none kV25 dc25 pm25 an25 cd25 ct25), sl25⟩) (c25 : PySem.W.codeIn K cd25 (PySem.Str.ofString "perhaps") = true) (k25 : PySem.W.keepIn K (.ref f25) = true)
    (a26 : PySem.W.nsIn K mainGlobals (PySem.Str.ofString "is_kept") = some (some (.ref f26))) (l26 : K.lookup f26 = some ⟨oc26, od26, .func (PySem.W.fnOf (PySem.Str.ofString "is_kept") (PySem.Str.ofString "is_kept") (defArgs s_is_kept) (defBody s_is_kept) (defScope s_is_kept) .none kV26 dc26 pm26 an26 cd26 ct26), sl26⟩) (c26 : PySem.W.codeIn K cd26 (PySem.Str.ofString "is_kept") = true) (k26 : PySem.W.keepIn K (.ref f26) = true)
    (a27 : PySem.W.nsIn K mainGlobals (PySem.Str.ofString "kept_of") = some (some (.ref f27))) (l27 : K.lookup f27 = some ⟨oc27, od27, .func (PySem.W.fnOf (PySem.Str.ofString "kept_of") (PySem.Str.ofString "kept_of") (defArgs s_kept_of) (defBody s_kept_of) (defScope s_kept_of) .none kV27 dc27 pm27 an27 cd27 ct27), sl27⟩) (c27 : PySem.W.codeIn K cd27 (PySem.Str.ofString "kept_of") = true) (k27 : PySem.W.keepIn K (.ref f27) = true)
    (a28 : PySem.W.nsIn K mainGlobals (PySem.Str.ofString "odd_at") = some (some (.ref f28))) (l28 : K.lookup f28 = some ⟨oc28, od28, .func (PySem.W.fnOf (PySem.Str.ofString "odd_at") (PySem.Str.ofString "odd_at") (defArgs s_odd_at) (defBody s_odd_at) (defScope s_odd_at) .none kV28 dc28 pm28 an28 cd28 ct28), sl28⟩) (c28 : PySem.W.codeIn K cd28 (PySem.Str.ofString "odd_at") = true) (k28 : PySem.W.keepIn K (.ref f28) = true)
    (a29 : PySem.W.nsIn K mainGlobals (PySem.Str.ofString "parted_by") = some (some (.ref f29))) (l29 : K.lookup f29 = some ⟨oc29, od29, .func (PySem.W.fnOf (PySem.Str.ofString "parted_by") (PySem.Str.ofString "parted_by") (defArgs s_parted_by) (defBody s_parted_by) (defScope s_parted_by) .none kV29 dc29 pm29 an29 cd29 ct29), sl29⟩) (c29 : PySem.W.codeIn K cd29 (PySem.Str.ofString "parted_by") = true) (k29 : PySem.W.keepIn K (.ref f29) = true)
    (a30 : PySem.W.nsIn K mainGlobals (PySem.Str.ofString "is_marks") = some (some (.ref f30))) (l30 : K.lookup f30 = some ⟨oc30, od30, .func (PySem.W.fnOf (PySem.Str.ofString "is_marks") (PySem.Str.ofString "is_marks") (defArgs s_is_marks) (defBody s_is_marks) (defScope s_is_marks) .none kV30 dc30 pm30 an30 cd30 ct30), sl30⟩) (c30 : PySem.W.codeIn K cd30 (PySem.Str.ofString "is_marks") = true) (k30 : PySem.W.keepIn K (.ref f30) = true)
    (a31 : PySem.W.nsIn K mainGlobals (PySem.Str.ofString "are_weights") = some (some (.ref f31))) (l31 : K.lookup f31 = some ⟨oc31, od31, .func (PySem.W.fnOf (PySem.Str.ofString "are_weights") (PySem.Str.ofString "are_weights") (defArgs s_are_weights) (defBody s_are_weights) (defScope s_are_weights) .none kV31 dc31 pm31 an31 cd31 ct31), sl31⟩) (c31 : PySem.W.codeIn K cd31 (PySem.Str.ofString "are_weights") = true) (k31 : PySem.W.keepIn K (.ref f31) = true)
    (a32 : PySem.W.nsIn K mainGlobals (PySem.Str.ofString "weight") = some (some (.ref f32))) (l32 : K.lookup f32 = some ⟨oc32, od32, .func (PySem.W.fnOf (PySem.Str.ofString "weight") (PySem.Str.ofString "weight") (defArgs s_weight) (defBody s_weight) (defScope s_weight) .none kV32 dc32 pm32 an32 cd32 ct32), sl32⟩) (c32 : PySem.W.codeIn K cd32 (PySem.Str.ofString "weight") = true) (k32 : PySem.W.keepIn K (.ref f32) = true)
    (a33 : PySem.W.nsIn K mainGlobals (PySem.Str.ofString "paper") = some (some (.ref f33))) (l33 : K.lookup f33 = some ⟨oc33, od33, .func (PySem.W.fnOf (PySem.Str.ofString "paper") (PySem.Str.ofString "paper") (defArgs s_paper) (defBody s_paper) (defScope s_paper) .none kV33 dc33 pm33 an33 cd33 ct33), sl33⟩) (c33 : PySem.W.codeIn K cd33 (PySem.Str.ofString "paper") = true) (k33 : PySem.W.keepIn K (.ref f33) = true)
    (a34 : PySem.W.nsIn K mainGlobals (PySem.Str.ofString "is_row") = some (some (.ref f34))) (l34 : K.lookup f34 = some ⟨oc34, od34, .func (PySem.W.fnOf (PySem.Str.ofString "is_row") (PySem.Str.ofString "is_row") (defArgs s_is_row) (defBody s_is_row) (defScope s_is_row) .none kV34 dc34 pm34 an34 cd34 ct34), sl34⟩) (c34 : PySem.W.codeIn K cd34 (PySem.Str.ofString "is_row") = true) (k34 : PySem.W.keepIn K (.ref f34) = true)
    (a35 : PySem.W.nsIn K mainGlobals (PySem.Str.ofString "is_closed") = some (some (.ref f35))) (l35 : K.lookup f35 = some ⟨oc35, od35, .func (PySem.W.fnOf (PySem.Str.ofString "is_closed") (PySem.Str.ofString "is_closed") (defArgs s_is_closed) (defBody s_is_closed) (defScope s_is_closed) .none kV35 dc35 pm35 an35 cd35 ct35), sl35⟩) (c35 : PySem.W.codeIn K cd35 (PySem.Str.ofString "is_closed") = true) (k35 : PySem.W.keepIn K (.ref f35) = true)
    (a36 : PySem.W.nsIn K mainGlobals (PySem.Str.ofString "is_paper") = some (some (.ref f36))) (l36 : K.lookup f36 = some ⟨oc36, od36, .func (PySem.W.fnOf (PySem.Str.ofString "is_paper") (PySem.Str.ofString "is_paper") (defArgs s_is_paper) (defBody s_is_paper) (defScope s_is_paper) .none kV36 dc36 pm36 an36 cd36 ct36), sl36⟩) (c36 : PySem.W.codeIn K cd36 (PySem.Str.ofString "is_paper") = true) (k36 : PySem.W.keepIn K (.ref f36) = true)
    (a37 : PySem.W.nsIn K mainGlobals (PySem.Str.ofString "_law_cell") = some (some (.ref f37))) (l37 : K.lookup f37 = some ⟨oc37, od37, .func (PySem.W.fnOf (PySem.Str.ofString "_law_cell") (PySem.Str.ofString "_law_cell") (defArgs s__law_cell) (defBody s__law_cell) (defScope s__law_cell) .none kV37 dc37 pm37 an37 cd37 ct37), sl37⟩) (c37 : PySem.W.codeIn K cd37 (PySem.Str.ofString "_law_cell") = true) (k37 : PySem.W.keepIn K (.ref f37) = true)
    (a38 : PySem.W.nsIn K mainGlobals (PySem.Str.ofString "_law_seed") = some (some (.ref f38))) (l38 : K.lookup f38 = some ⟨oc38, od38, .func (PySem.W.fnOf (PySem.Str.ofString "_law_seed") (PySem.Str.ofString "_law_seed") (defArgs s__law_seed) (defBody s__law_seed) (defScope s__law_seed) .none kV38 dc38 pm38 an38 cd38 ct38), sl38⟩) (c38 : PySem.W.codeIn K cd38 (PySem.Str.ofString "_law_seed") = true) (k38 : PySem.W.keepIn K (.ref f38) = true)
    (a39 : PySem.W.nsIn K mainGlobals (PySem.Str.ofString "_law_pick") = some (some (.ref f39))) (l39 : K.lookup f39 = some ⟨oc39, od39, .func (PySem.W.fnOf (PySem.Str.ofString "_law_pick") (PySem.Str.ofString "_law_pick") (defArgs s__law_pick) (defBody s__law_pick) (defScope s__law_pick) .none kV39 dc39 pm39 an39 cd39 ct39), sl39⟩) (c39 : PySem.W.codeIn K cd39 (PySem.Str.ofString "_law_pick") = true) (k39 : PySem.W.keepIn K (.ref f39) = true)
    (a40 : PySem.W.nsIn K mainGlobals (PySem.Str.ofString "_law_world") = some (some (.ref f40))) (l40 : K.lookup f40 = some ⟨oc40, od40, .func (PySem.W.fnOf (PySem.Str.ofString "_law_world") (PySem.Str.ofString "_law_world") (defArgs s__law_world) (defBody s__law_world) (defScope s__law_world) .none kV40 dc40 pm40 an40 cd40 ct40), sl40⟩) (c40 : PySem.W.codeIn K cd40 (PySem.Str.ofString "_law_world") = true) (k40 : PySem.W.keepIn K (.ref f40) = true)
    (a41 : PySem.W.nsIn K mainGlobals (PySem.Str.ofString "_law_stand") = some (some (.ref f41))) (l41 : K.lookup f41 = some ⟨oc41, od41, .func (PySem.W.fnOf (PySem.Str.ofString "_law_stand") (PySem.Str.ofString "_law_stand") (defArgs s__law_stand) (defBody s__law_stand) (defScope s__law_stand) .none kV41 dc41 pm41 an41 cd41 ct41), sl41⟩) (c41 : PySem.W.codeIn K cd41 (PySem.Str.ofString "_law_stand") = true) (k41 : PySem.W.keepIn K (.ref f41) = true)
    (a42 : PySem.W.nsIn K mainGlobals (PySem.Str.ofString "_law_of_two") = some (some (.ref f42))) (l42 : K.lookup f42 = some ⟨oc42, od42, .func (PySem.W.fnOf (PySem.Str.ofString "_law_of_two") (PySem.Str.ofString "_law_of_two") (defArgs s__law_of_two) (defBody s__law_of_two) (defScope s__law_of_two) .none kV42 dc42 pm42 an42 cd42 ct42), sl42⟩) (c42 : PySem.W.codeIn K cd42 (PySem.Str.ofString "_law_of_two") = true) (k42 : PySem.W.keepIn K (.ref f42) = true)
    (a43 : PySem.W.nsIn K mainGlobals (PySem.Str.ofString "_law_refusal") = some (some (.ref f43))) (l43 : K.lookup f43 = some ⟨oc43, od43, .func (PySem.W.fnOf (PySem.Str.ofString "_law_refusal") (PySem.Str.ofString "_law_refusal") (defArgs s__law_refusal) (defBody s__law_refusal) (defScope s__law_refusal) .none kV43 dc43 pm43 an43 cd43 ct43), sl43⟩) (c43 : PySem.W.codeIn K cd43 (PySem.Str.ofString "_law_refusal") = true) (k43 : PySem.W.keepIn K (.ref f43) = true)
    (a44 : PySem.W.nsIn K mainGlobals (PySem.Str.ofString "law") = some (some (.ref f44))) (l44 : K.lookup f44 = some ⟨oc44, od44, .func (PySem.W.fnOf (PySem.Str.ofString "law") (PySem.Str.ofString "law") (defArgs s_law) (defBody s_law) (defScope s_law) .none kV44 dc44 pm44 an44 cd44 ct44), sl44⟩) (c44 : PySem.W.codeIn K cd44 (PySem.Str.ofString "law") = true) (k44 : PySem.W.keepIn K (.ref f44) = true)
    (z0 : PySem.W.nsIn K mainGlobals (PySem.Str.ofString "len") = some none)
    (z1 : PySem.W.nsIn K mainGlobals (PySem.Str.ofString "range") = some none)
    (z2 : PySem.W.nsIn K mainGlobals (PySem.Str.ofString "int") = some none)
    (z3 : PySem.W.nsIn K mainGlobals (PySem.Str.ofString "tuple") = some none)
    (z4 : PySem.W.nsIn K mainGlobals (PySem.Str.ofString "sorted") = some none)
    (z5 : PySem.W.nsIn K mainGlobals (PySem.Str.ofString "set") = some none)
    (z6 : PySem.W.nsIn K mainGlobals (PySem.Str.ofString "list") = some none)
    (z7 : PySem.W.nsIn K mainGlobals (PySem.Str.ofString "isinstance") = some none)
    (z8 : PySem.W.nsIn K mainGlobals (PySem.Str.ofString "bool") = some none)
    (z9 : PySem.W.nsIn K mainGlobals (PySem.Str.ofString "zip") = some none)
    (z10 : PySem.W.nsIn K mainGlobals (PySem.Str.ofString "str") = some none)
    (z11 : PySem.W.nsIn K mainGlobals (PySem.Str.ofString "enumerate") = some none)
    (z12 : PySem.W.nsIn K mainGlobals (PySem.Str.ofString "max") = some none)
    (z13 : PySem.W.nsIn K mainGlobals (PySem.Str.ofString "sum") = some none)
    (z14 : PySem.W.nsIn K mainGlobals (PySem.Str.ofString "dict") = some none)
    (y0 : PySem.W.nsIn K mainGlobals (PySem.Str.ofString "MOST_CELLS") = some (some (.int 12 g0)))
    (y1 : PySem.W.nsIn K mainGlobals (PySem.Str.ofString "MOST_JUMPS") = some (some (.int 16 g1)))
    (y2 : PySem.W.nsIn K mainGlobals (PySem.Str.ofString "MOST_STANDS") = some (some (.int 80 g2))) :
    ∃ fd : FuncData, (∀ (s : Shared) (v : Value), BindsTo s fd ⟨[v], []⟩ [((PySem.Str.ofString "_law_script"), v)]) ∧ ∀ base : Heap, K.In base → base.Ns mainGlobals mg → LamX.TabB base mg c P' → FnOk P w K mg base (L2.CX P w) 11 fa fd [(PySem.Str.ofString "_law_script")] (spV [P'] 1 d_law) := by
  have e := hfa.symm.trans (PySem.W.mg_of X G a44)
  cases e
  have GG : Glb mg := ⟨PySem.W.mg_none_of X G z0, PySem.W.mg_none_of X G z1, PySem.W.mg_none_of X G z2, PySem.W.mg_none_of X G z3, PySem.W.mg_none_of X G z4, PySem.W.mg_none_of X G z5, PySem.W.mg_none_of X G z6, PySem.W.mg_none_of X G z7, PySem.W.mg_none_of X G z8, PySem.W.mg_none_of X G z9, PySem.W.mg_none_of X G z10, PySem.W.mg_none_of X G z11, PySem.W.mg_none_of X G z12, PySem.W.mg_none_of X G z13, PySem.W.mg_none_of X G z14, ⟨_, PySem.W.mg_of X G y0⟩, ⟨_, PySem.W.mg_of X G y1⟩, ⟨_, PySem.W.mg_of X G y2⟩⟩
  have x_BadWorld : ExOk K mg (⟨fun c : Ex => match c with | .world => .ref C0 | .stand => .ref C1 | .many => .ref C2 | .never => .ref C3 | .count => .ref C4 | _ => Value.none, [P']⟩ : Cv) (PySem.Str.ofString "BadWorld") .world := ⟨C0, _, _, _, _, rfl, PySem.W.mg_of X G p0, PySem.F.excBase_ValueError, q0, r0, s0, t0⟩
  have x_BadStand : ExOk K mg (⟨fun c : Ex => match c with | .world => .ref C0 | .stand => .ref C1 | .many => .ref C2 | .never => .ref C3 | .count => .ref C4 | _ => Value.none, [P']⟩ : Cv) (PySem.Str.ofString "BadStand") .stand := ⟨C1, _, _, _, _, rfl, PySem.W.mg_of X G p1, PySem.F.excBase_ValueError, q1, r1, s1, t1⟩
  have x_TooMany : ExOk K mg (⟨fun c : Ex => match c with | .world => .ref C0 | .stand => .ref C1 | .many => .ref C2 | .never => .ref C3 | .count => .ref C4 | _ => Value.none, [P']⟩ : Cv) (PySem.Str.ofString "TooMany") .many := ⟨C2, _, _, _, _, rfl, PySem.W.mg_of X G p2, PySem.F.excBase_ValueError, q2, r2, s2, t2⟩
  have x_Never : ExOk K mg (⟨fun c : Ex => match c with | .world => .ref C0 | .stand => .ref C1 | .many => .ref C2 | .never => .ref C3 | .count => .ref C4 | _ => Value.none, [P']⟩ : Cv) (PySem.Str.ofString "Never") .never := ⟨C3, _, _, _, _, rfl, PySem.W.mg_of X G p3, PySem.F.excBase_ValueError, q3, r3, s3, t3⟩
  have x_BadCount : ExOk K mg (⟨fun c : Ex => match c with | .world => .ref C0 | .stand => .ref C1 | .many => .ref C2 | .never => .ref C3 | .count => .ref C4 | _ => Value.none, [P']⟩ : Cv) (PySem.Str.ofString "BadCount") .count := ⟨C4, _, _, _, _, rfl, PySem.W.mg_of X G p4, PySem.F.excBase_ValueError, q4, r4, s4, t4⟩
  have h_BadWorld : HdOk K mg (⟨fun c : Ex => match c with | .world => .ref C0 | .stand => .ref C1 | .many => .ref C2 | .never => .ref C3 | .count => .ref C4 | _ => Value.none, [P']⟩ : Cv) (.ref C0) (PySem.Str.ofString "BadWorld") t_BadWorld := ⟨PySem.W.mg_of X G p0, fun c b h => by cases c with | world => (have e := Option.some.inj h; subst e; exact exm_gen s0 i0 t0 u0x0) | stand => (have e := Option.some.inj h; subst e; exact exm_gen s0 i0 t0 u1x0) | jump => cases h | count => (have e := Option.some.inj h; subst e; exact exm_gen s0 i0 t0 u4x0) | never => (have e := Option.some.inj h; subst e; exact exm_gen s0 i0 t0 u3x0) | many => (have e := Option.some.inj h; subst e; exact exm_gen s0 i0 t0 u2x0) | text => cases h | names => cases h | nothing => cases h⟩
  have h_BadStand : HdOk K mg (⟨fun c : Ex => match c with | .world => .ref C0 | .stand => .ref C1 | .many => .ref C2 | .never => .ref C3 | .count => .ref C4 | _ => Value.none, [P']⟩ : Cv) (.ref C1) (PySem.Str.ofString "BadStand") t_BadStand := ⟨PySem.W.mg_of X G p1, fun c b h => by cases c with | world => (have e := Option.some.inj h; subst e; exact exm_gen s1 i1 t1 u0x1) | stand => (have e := Option.some.inj h; subst e; exact exm_gen s1 i1 t1 u1x1) | jump => cases h | count => (have e := Option.some.inj h; subst e; exact exm_gen s1 i1 t1 u4x1) | never => (have e := Option.some.inj h; subst e; exact exm_gen s1 i1 t1 u3x1) | many => (have e := Option.some.inj h; subst e; exact exm_gen s1 i1 t1 u2x1) | text => cases h | names => cases h | nothing => cases h⟩
  have h_BadCount : HdOk K mg (⟨fun c : Ex => match c with | .world => .ref C0 | .stand => .ref C1 | .many => .ref C2 | .never => .ref C3 | .count => .ref C4 | _ => Value.none, [P']⟩ : Cv) (.ref C4) (PySem.Str.ofString "BadCount") t_BadCount := ⟨PySem.W.mg_of X G p4, fun c b h => by cases c with | world => (have e := Option.some.inj h; subst e; exact exm_gen s4 i4 t4 u0x4) | stand => (have e := Option.some.inj h; subst e; exact exm_gen s4 i4 t4 u1x4) | jump => cases h | count => (have e := Option.some.inj h; subst e; exact exm_gen s4 i4 t4 u4x4) | never => (have e := Option.some.inj h; subst e; exact exm_gen s4 i4 t4 u3x4) | many => (have e := Option.some.inj h; subst e; exact exm_gen s4 i4 t4 u2x4) | text => cases h | names => cases h | nothing => cases h⟩
  have h_Never : HdOk K mg (⟨fun c : Ex => match c with | .world => .ref C0 | .stand => .ref C1 | .many => .ref C2 | .never => .ref C3 | .count => .ref C4 | _ => Value.none, [P']⟩ : Cv) (.ref C3) (PySem.Str.ofString "Never") t_Never := ⟨PySem.W.mg_of X G p3, fun c b h => by cases c with | world => (have e := Option.some.inj h; subst e; exact exm_gen s3 i3 t3 u0x3) | stand => (have e := Option.some.inj h; subst e; exact exm_gen s3 i3 t3 u1x3) | jump => cases h | count => (have e := Option.some.inj h; subst e; exact exm_gen s3 i3 t3 u4x3) | never => (have e := Option.some.inj h; subst e; exact exm_gen s3 i3 t3 u3x3) | many => (have e := Option.some.inj h; subst e; exact exm_gen s3 i3 t3 u2x3) | text => cases h | names => cases h | nothing => cases h⟩
  have h_TooMany : HdOk K mg (⟨fun c : Ex => match c with | .world => .ref C0 | .stand => .ref C1 | .many => .ref C2 | .never => .ref C3 | .count => .ref C4 | _ => Value.none, [P']⟩ : Cv) (.ref C2) (PySem.Str.ofString "TooMany") t_TooMany := ⟨PySem.W.mg_of X G p2, fun c b h => by cases c with | world => (have e := Option.some.inj h; subst e; exact exm_gen s2 i2 t2 u0x2) | stand => (have e := Option.some.inj h; subst e; exact exm_gen s2 i2 t2 u1x2) | jump => cases h | count => (have e := Option.some.inj h; subst e; exact exm_gen s2 i2 t2 u4x2) | never => (have e := Option.some.inj h; subst e; exact exm_gen s2 i2 t2 u3x2) | many => (have e := Option.some.inj h; subst e; exact exm_gen s2 i2 t2 u2x2) | text => cases h | names => cases h | nothing => cases h⟩
  have F0 := fun_mk (st := s_is_within) l0 c0 k0
  have b0 := F0.binds (ps := [(PySem.Str.ofString "thing"), (PySem.Str.ofString "low"), (PySem.Str.ofString "high")]) fun _ _ _ _ _ _ us hl => match us, hl with | [_, _, _], _ => rfl
  have o_is_within : ∀ base : Heap, LamX.TabB base mg c P' → Ok P w K mg base 1 (PySem.Str.ofString "is_within") [(PySem.Str.ofString "thing"), (PySem.Str.ofString "low"), (PySem.Str.ofString "high")] (spD (⟨fun c : Ex => match c with | .world => .ref C0 | .stand => .ref C1 | .many => .ref C2 | .never => .ref C3 | .count => .ref C4 | _ => Value.none, [P']⟩ : Cv) 3 d_is_within) := fun base TB => ok_is_within F0 (PySem.W.mg_of X G a0) b0 GG
  have F1 := fun_mk (st := s_is_jump) l1 c1 k1
  have b1 := F1.binds (ps := [(PySem.Str.ofString "many"), (PySem.Str.ofString "thing")]) fun _ _ _ _ _ _ us hl => match us, hl with | [_, _], _ => rfl
  have o_is_jump : ∀ base : Heap, LamX.TabB base mg c P' → Ok P w K mg base 2 (PySem.Str.ofString "is_jump") [(PySem.Str.ofString "many"), (PySem.Str.ofString "thing")] (spD (⟨fun c : Ex => match c with | .world => .ref C0 | .stand => .ref C1 | .many => .ref C2 | .never => .ref C3 | .count => .ref C4 | _ => Value.none, [P']⟩ : Cv) 2 d_is_jump) := fun base TB => ok_is_jump F1 (PySem.W.mg_of X G a1) b1 GG (o_is_within base TB)
  have F2 := fun_mk (st := s_is_world) l2 c2 k2
  have b2 := F2.binds (ps := [(PySem.Str.ofString "thing")]) fun _ _ _ _ _ _ us hl => match us, hl with | [_], _ => rfl
  have o_is_world : ∀ base : Heap, LamX.TabB base mg c P' → Ok P w K mg base 3 (PySem.Str.ofString "is_world") [(PySem.Str.ofString "thing")] (spD (⟨fun c : Ex => match c with | .world => .ref C0 | .stand => .ref C1 | .many => .ref C2 | .never => .ref C3 | .count => .ref C4 | _ => Value.none, [P']⟩ : Cv) 1 d_is_world) := fun base TB => ok_is_world F2 (PySem.W.mg_of X G a2) b2 GG (o_is_within base TB) (o_is_jump base TB)
  have F3 := fun_mk (st := s_look) l3 c3 k3
  have b3 := F3.binds (ps := [(PySem.Str.ofString "world")]) fun _ _ _ _ _ _ us hl => match us, hl with | [_], _ => rfl
  have o_look : ∀ base : Heap, LamX.TabB base mg c P' → Ok P w K mg base 4 (PySem.Str.ofString "look") [(PySem.Str.ofString "world")] (spD (⟨fun c : Ex => match c with | .world => .ref C0 | .stand => .ref C1 | .many => .ref C2 | .never => .ref C3 | .count => .ref C4 | _ => Value.none, [P']⟩ : Cv) 1 d_look) := fun base TB => ok_look F3 (PySem.W.mg_of X G a3) b3 GG x_BadWorld (o_is_world base TB)
  have F4 := fun_mk (st := s_is_stand) l4 c4 k4
  have b4 := F4.binds (ps := [(PySem.Str.ofString "world"), (PySem.Str.ofString "thing")]) fun _ _ _ _ _ _ us hl => match us, hl with | [_, _], _ => rfl
  have o_is_stand : ∀ base : Heap, LamX.TabB base mg c P' → Ok P w K mg base 1 (PySem.Str.ofString "is_stand") [(PySem.Str.ofString "world"), (PySem.Str.ofString "thing")] (spD (⟨fun c : Ex => match c with | .world => .ref C0 | .stand => .ref C1 | .many => .ref C2 | .never => .ref C3 | .count => .ref C4 | _ => Value.none, [P']⟩ : Cv) 2 d_is_stand) := fun base TB => ok_is_stand F4 (PySem.W.mg_of X G a4) b4 GG
  have F5 := fun_mk (st := s_look_stand) l5 c5 k5
  have b5 := F5.binds (ps := [(PySem.Str.ofString "world"), (PySem.Str.ofString "stand")]) fun _ _ _ _ _ _ us hl => match us, hl with | [_, _], _ => rfl
  have o_look_stand : ∀ base : Heap, LamX.TabB base mg c P' → Ok P w K mg base 5 (PySem.Str.ofString "look_stand") [(PySem.Str.ofString "world"), (PySem.Str.ofString "stand")] (spD (⟨fun c : Ex => match c with | .world => .ref C0 | .stand => .ref C1 | .many => .ref C2 | .never => .ref C3 | .count => .ref C4 | _ => Value.none, [P']⟩ : Cv) 2 d_look_stand) := fun base TB => ok_look_stand F5 (PySem.W.mg_of X G a5) b5 GG x_BadStand (o_look base TB) (o_is_stand base TB)
  have F6 := fun_mk (st := s_look_two) l6 c6 k6
  have b6 := F6.binds (ps := [(PySem.Str.ofString "world"), (PySem.Str.ofString "start"), (PySem.Str.ofString "goal")]) fun _ _ _ _ _ _ us hl => match us, hl with | [_, _, _], _ => rfl
  have o_look_two : ∀ base : Heap, LamX.TabB base mg c P' → Ok P w K mg base 6 (PySem.Str.ofString "look_two") [(PySem.Str.ofString "world"), (PySem.Str.ofString "start"), (PySem.Str.ofString "goal")] (spD (⟨fun c : Ex => match c with | .world => .ref C0 | .stand => .ref C1 | .many => .ref C2 | .never => .ref C3 | .count => .ref C4 | _ => Value.none, [P']⟩ : Cv) 3 d_look_two) := fun base TB => ok_look_two F6 (PySem.W.mg_of X G a6) b6 GG (o_look_stand base TB)
  have F7 := fun_mk (st := s_put) l7 c7 k7
  have b7 := F7.binds (ps := [(PySem.Str.ofString "stand"), (PySem.Str.ofString "jump"), (PySem.Str.ofString "signs")]) fun _ _ _ _ _ _ us hl => match us, hl with | [_, _, _], _ => rfl
  have o_put : ∀ base : Heap, LamX.TabB base mg c P' → Ok P w K mg base 1 (PySem.Str.ofString "put") [(PySem.Str.ofString "stand"), (PySem.Str.ofString "jump"), (PySem.Str.ofString "signs")] (spD (⟨fun c : Ex => match c with | .world => .ref C0 | .stand => .ref C1 | .many => .ref C2 | .never => .ref C3 | .count => .ref C4 | _ => Value.none, [P']⟩ : Cv) 3 d_put) := fun base TB => ok_put F7 (PySem.W.mg_of X G a7) b7 GG
  have F8 := fun_mk (st := s_has) l8 c8 k8
  have b8 := F8.binds (ps := [(PySem.Str.ofString "stand"), (PySem.Str.ofString "jump"), (PySem.Str.ofString "signs")]) fun _ _ _ _ _ _ us hl => match us, hl with | [_, _, _], _ => rfl
  have o_has : ∀ base : Heap, LamX.TabB base mg c P' → Ok P w K mg base 1 (PySem.Str.ofString "has") [(PySem.Str.ofString "stand"), (PySem.Str.ofString "jump"), (PySem.Str.ofString "signs")] (spD (⟨fun c : Ex => match c with | .world => .ref C0 | .stand => .ref C1 | .many => .ref C2 | .never => .ref C3 | .count => .ref C4 | _ => Value.none, [P']⟩ : Cv) 3 d_has) := fun base TB => ok_has F8 (PySem.W.mg_of X G a8) b8 GG
  have F9 := fun_mk (st := s_moves_of) l9 c9 k9
  have b9 := F9.binds (ps := [(PySem.Str.ofString "world"), (PySem.Str.ofString "stand")]) fun _ _ _ _ _ _ us hl => match us, hl with | [_, _], _ => rfl
  have o_moves_of : ∀ base : Heap, LamX.TabB base mg c P' → Ok P w K mg base 2 (PySem.Str.ofString "moves_of") [(PySem.Str.ofString "world"), (PySem.Str.ofString "stand")] (spD (⟨fun c : Ex => match c with | .world => .ref C0 | .stand => .ref C1 | .many => .ref C2 | .never => .ref C3 | .count => .ref C4 | _ => Value.none, [P']⟩ : Cv) 2 d_moves_of) := fun base TB => ok_moves_of F9 (PySem.W.mg_of X G a9) b9 GG (o_has base TB) (o_put base TB)
  have F10 := fun_mk (st := s_back_of) l10 c10 k10
  have b10 := F10.binds (ps := [(PySem.Str.ofString "world"), (PySem.Str.ofString "stand")]) fun _ _ _ _ _ _ us hl => match us, hl with | [_, _], _ => rfl
  have o_back_of : ∀ base : Heap, LamX.TabB base mg c P' → Ok P w K mg base 2 (PySem.Str.ofString "back_of") [(PySem.Str.ofString "world"), (PySem.Str.ofString "stand")] (spD (⟨fun c : Ex => match c with | .world => .ref C0 | .stand => .ref C1 | .many => .ref C2 | .never => .ref C3 | .count => .ref C4 | _ => Value.none, [P']⟩ : Cv) 2 d_back_of) := fun base TB => ok_back_of F10 (PySem.W.mg_of X G a10) b10 GG (o_has base TB) (o_put base TB)
  have F11 := fun_mk (st := s_all_from) l11 c11 k11
  have b11 := F11.binds (ps := [(PySem.Str.ofString "world"), (PySem.Str.ofString "stand")]) fun _ _ _ _ _ _ us hl => match us, hl with | [_, _], _ => rfl
  have o_all_from : ∀ base : Heap, LamX.TabB base mg c P' → Ok P w K mg base 3 (PySem.Str.ofString "all_from") [(PySem.Str.ofString "world"), (PySem.Str.ofString "stand")] (spK (⟨fun c : Ex => match c with | .world => .ref C0 | .stand => .ref C1 | .many => .ref C2 | .never => .ref C3 | .count => .ref C4 | _ => Value.none, [P']⟩ : Cv) 2 d_all_from) := fun base TB => ok_all_from F11 (PySem.W.mg_of X G a11) b11 GG x_TooMany (o_moves_of base TB)
  have F12 := fun_mk (st := s_all_to) l12 c12 k12
  have b12 := F12.binds (ps := [(PySem.Str.ofString "world"), (PySem.Str.ofString "stand")]) fun _ _ _ _ _ _ us hl => match us, hl with | [_, _], _ => rfl
  have o_all_to : ∀ base : Heap, LamX.TabB base mg c P' → Ok P w K mg base 3 (PySem.Str.ofString "all_to") [(PySem.Str.ofString "world"), (PySem.Str.ofString "stand")] (spK (⟨fun c : Ex => match c with | .world => .ref C0 | .stand => .ref C1 | .many => .ref C2 | .never => .ref C3 | .count => .ref C4 | _ => Value.none, [P']⟩ : Cv) 2 d_all_to) := fun base TB => ok_all_to F12 (PySem.W.mg_of X G a12) b12 GG x_TooMany (o_back_of base TB)
  have F13 := fun_mk (st := s_reached) l13 c13 k13
  have b13 := F13.binds (ps := [(PySem.Str.ofString "world"), (PySem.Str.ofString "stand")]) fun _ _ _ _ _ _ us hl => match us, hl with | [_, _], _ => rfl
  have o_reached : ∀ base : Heap, LamX.TabB base mg c P' → Ok P w K mg base 6 (PySem.Str.ofString "reached") [(PySem.Str.ofString "world"), (PySem.Str.ofString "stand")] (spD (⟨fun c : Ex => match c with | .world => .ref C0 | .stand => .ref C1 | .many => .ref C2 | .never => .ref C3 | .count => .ref C4 | _ => Value.none, [P']⟩ : Cv) 2 d_reached) := fun base TB => ok_reached F13 (PySem.W.mg_of X G a13) b13 GG (o_look_stand base TB) (o_all_from base TB)
  have F14 := fun_mk (st := s_leading) l14 c14 k14
  have b14 := F14.binds (ps := [(PySem.Str.ofString "world"), (PySem.Str.ofString "stand")]) fun _ _ _ _ _ _ us hl => match us, hl with | [_, _], _ => rfl
  have o_leading : ∀ base : Heap, LamX.TabB base mg c P' → Ok P w K mg base 6 (PySem.Str.ofString "leading") [(PySem.Str.ofString "world"), (PySem.Str.ofString "stand")] (spD (⟨fun c : Ex => match c with | .world => .ref C0 | .stand => .ref C1 | .many => .ref C2 | .never => .ref C3 | .count => .ref C4 | _ => Value.none, [P']⟩ : Cv) 2 d_leading) := fun base TB => ok_leading F14 (PySem.W.mg_of X G a14) b14 GG (o_look_stand base TB) (o_all_to base TB)
  have F15 := fun_mk (st := s_ends) l15 c15 k15
  have b15 := F15.binds (ps := [(PySem.Str.ofString "world"), (PySem.Str.ofString "stand")]) fun _ _ _ _ _ _ us hl => match us, hl with | [_, _], _ => rfl
  have o_ends : ∀ base : Heap, LamX.TabB base mg c P' → Ok P w K mg base 6 (PySem.Str.ofString "ends") [(PySem.Str.ofString "world"), (PySem.Str.ofString "stand")] (spD (⟨fun c : Ex => match c with | .world => .ref C0 | .stand => .ref C1 | .many => .ref C2 | .never => .ref C3 | .count => .ref C4 | _ => Value.none, [P']⟩ : Cv) 2 d_ends) := fun base TB => ok_ends F15 (PySem.W.mg_of X G a15) b15 GG (o_look_stand base TB) (o_all_from base TB) (o_moves_of base TB)
  have F16 := fun_mk (st := s_can_come) l16 c16 k16
  have b16 := F16.binds (ps := [(PySem.Str.ofString "world"), (PySem.Str.ofString "start"), (PySem.Str.ofString "goal")]) fun _ _ _ _ _ _ us hl => match us, hl with | [_, _, _], _ => rfl
  have o_can_come : ∀ base : Heap, LamX.TabB base mg c P' → Ok P w K mg base 7 (PySem.Str.ofString "can_come") [(PySem.Str.ofString "world"), (PySem.Str.ofString "start"), (PySem.Str.ofString "goal")] (spD (⟨fun c : Ex => match c with | .world => .ref C0 | .stand => .ref C1 | .many => .ref C2 | .never => .ref C3 | .count => .ref C4 | _ => Value.none, [P']⟩ : Cv) 3 d_can_come) := fun base TB => ok_can_come F16 (PySem.W.mg_of X G a16) b16 GG (o_look_two base TB) (o_all_from base TB)
  have F17 := fun_mk (st := s_between) l17 c17 k17
  have b17 := F17.binds (ps := [(PySem.Str.ofString "world"), (PySem.Str.ofString "start"), (PySem.Str.ofString "goal")]) fun _ _ _ _ _ _ us hl => match us, hl with | [_, _, _], _ => rfl
  have o_between : ∀ base : Heap, LamX.TabB base mg c P' → Ok P w K mg base 4 (PySem.Str.ofString "between") [(PySem.Str.ofString "world"), (PySem.Str.ofString "start"), (PySem.Str.ofString "goal")] (spD (⟨fun c : Ex => match c with | .world => .ref C0 | .stand => .ref C1 | .many => .ref C2 | .never => .ref C3 | .count => .ref C4 | _ => Value.none, [P']⟩ : Cv) 3 d_between) := fun base TB => ok_between F17 (PySem.W.mg_of X G a17) b17 GG x_Never (o_all_from base TB) (o_all_to base TB)
  have F18 := fun_mk (st := s_row_to) l18 c18 k18
  have b18 := F18.binds (ps := [(PySem.Str.ofString "world"), (PySem.Str.ofString "start"), (PySem.Str.ofString "goal")]) fun _ _ _ _ _ _ us hl => match us, hl with | [_, _, _], _ => rfl
  have o_row_to : ∀ base : Heap, LamX.TabB base mg c P' → Ok P w K mg base 7 (PySem.Str.ofString "row_to") [(PySem.Str.ofString "world"), (PySem.Str.ofString "start"), (PySem.Str.ofString "goal")] (spD (⟨fun c : Ex => match c with | .world => .ref C0 | .stand => .ref C1 | .many => .ref C2 | .never => .ref C3 | .count => .ref C4 | _ => Value.none, [P']⟩ : Cv) 3 d_row_to) := fun base TB => ok_row_to F18 (PySem.W.mg_of X G a18) b18 GG (o_look_two base TB) (o_between base TB) (o_moves_of base TB)
  have F19 := fun_mk (st := s_last) l19 c19 k19
  have b19 := F19.binds (ps := [(PySem.Str.ofString "world"), (PySem.Str.ofString "start"), (PySem.Str.ofString "goal")]) fun _ _ _ _ _ _ us hl => match us, hl with | [_, _, _], _ => rfl
  have o_last : ∀ base : Heap, LamX.TabB base mg c P' → Ok P w K mg base 7 (PySem.Str.ofString "last") [(PySem.Str.ofString "world"), (PySem.Str.ofString "start"), (PySem.Str.ofString "goal")] (spD (⟨fun c : Ex => match c with | .world => .ref C0 | .stand => .ref C1 | .many => .ref C2 | .never => .ref C3 | .count => .ref C4 | _ => Value.none, [P']⟩ : Cv) 3 d_last) := fun base TB => ok_last F19 (PySem.W.mg_of X G a19) b19 GG (o_look_two base TB) (o_between base TB) (o_back_of base TB)
  have F20 := fun_mk (st := s_ahead) l20 c20 k20
  have b20 := F20.binds (ps := [(PySem.Str.ofString "world"), (PySem.Str.ofString "start"), (PySem.Str.ofString "goal"), (PySem.Str.ofString "many")]) fun _ _ _ _ _ _ us hl => match us, hl with | [_, _, _, _], _ => rfl
  have o_ahead : ∀ base : Heap, LamX.TabB base mg c P' → Ok P w K mg base 7 (PySem.Str.ofString "ahead") [(PySem.Str.ofString "world"), (PySem.Str.ofString "start"), (PySem.Str.ofString "goal"), (PySem.Str.ofString "many")] (spD (⟨fun c : Ex => match c with | .world => .ref C0 | .stand => .ref C1 | .many => .ref C2 | .never => .ref C3 | .count => .ref C4 | _ => Value.none, [P']⟩ : Cv) 4 d_ahead) := fun base TB => ok_ahead F20 (PySem.W.mg_of X G a20) b20 GG x_BadCount (o_look_two base TB) (o_is_within base TB) (o_between base TB)
  have F21 := fun_mk (st := s_ways_to) l21 c21 k21
  have b21 := F21.binds (ps := [(PySem.Str.ofString "world"), (PySem.Str.ofString "start"), (PySem.Str.ofString "goal")]) fun _ _ _ _ _ _ us hl => match us, hl with | [_, _, _], _ => rfl
  have o_ways_to : ∀ base : Heap, LamX.TabB base mg c P' → Ok P w K mg base 5 (PySem.Str.ofString "ways_to") [(PySem.Str.ofString "world"), (PySem.Str.ofString "start"), (PySem.Str.ofString "goal")] (spK (⟨fun c : Ex => match c with | .world => .ref C0 | .stand => .ref C1 | .many => .ref C2 | .never => .ref C3 | .count => .ref C4 | _ => Value.none, [P']⟩ : Cv) 3 d_ways_to) := fun base TB => ok_ways_to F21 (PySem.W.mg_of X G a21) b21 GG rfl TB n21 (o_between base TB) (o_moves_of base TB)
  have F22 := fun_mk (st := s_how_many) l22 c22 k22
  have b22 := F22.binds (ps := [(PySem.Str.ofString "world"), (PySem.Str.ofString "start"), (PySem.Str.ofString "goal")]) fun _ _ _ _ _ _ us hl => match us, hl with | [_, _, _], _ => rfl
  have o_how_many : ∀ base : Heap, LamX.TabB base mg c P' → Ok P w K mg base 7 (PySem.Str.ofString "how_many") [(PySem.Str.ofString "world"), (PySem.Str.ofString "start"), (PySem.Str.ofString "goal")] (spD (⟨fun c : Ex => match c with | .world => .ref C0 | .stand => .ref C1 | .many => .ref C2 | .never => .ref C3 | .count => .ref C4 | _ => Value.none, [P']⟩ : Cv) 3 d_how_many) := fun base TB => ok_how_many F22 (PySem.W.mg_of X G a22) b22 GG (o_look_two base TB) (o_ways_to base TB)
  have F23 := fun_mk (st := s_without) l23 c23 k23
  have b23 := F23.binds (ps := [(PySem.Str.ofString "world"), (PySem.Str.ofString "number")]) fun _ _ _ _ _ _ us hl => match us, hl with | [_, _], _ => rfl
  have o_without : ∀ base : Heap, LamX.TabB base mg c P' → Ok P w K mg base 1 (PySem.Str.ofString "without") [(PySem.Str.ofString "world"), (PySem.Str.ofString "number")] (spD (⟨fun c : Ex => match c with | .world => .ref C0 | .stand => .ref C1 | .many => .ref C2 | .never => .ref C3 | .count => .ref C4 | _ => Value.none, [P']⟩ : Cv) 2 d_without) := fun base TB => ok_without F23 (PySem.W.mg_of X G a23) b23 GG
  have F24 := fun_mk (st := s_surely) l24 c24 k24
  have b24 := F24.binds (ps := [(PySem.Str.ofString "world"), (PySem.Str.ofString "start"), (PySem.Str.ofString "goal")]) fun _ _ _ _ _ _ us hl => match us, hl with | [_, _, _], _ => rfl
  have o_surely : ∀ base : Heap, LamX.TabB base mg c P' → Ok P w K mg base 7 (PySem.Str.ofString "surely") [(PySem.Str.ofString "world"), (PySem.Str.ofString "start"), (PySem.Str.ofString "goal")] (spD (⟨fun c : Ex => match c with | .world => .ref C0 | .stand => .ref C1 | .many => .ref C2 | .never => .ref C3 | .count => .ref C4 | _ => Value.none, [P']⟩ : Cv) 3 d_surely) := fun base TB => ok_surely F24 (PySem.W.mg_of X G a24) b24 GG (o_look_two base TB) (o_between base TB) (o_all_from base TB) (o_without base TB)
  have F25 := fun_mk (st := s_perhaps) l25 c25 k25
  have b25 := F25.binds (ps := [(PySem.Str.ofString "world"), (PySem.Str.ofString "start"), (PySem.Str.ofString "goal")]) fun _ _ _ _ _ _ us hl => match us, hl with | [_, _, _], _ => rfl
  have o_perhaps : ∀ base : Heap, LamX.TabB base mg c P' → Ok P w K mg base 7 (PySem.Str.ofString "perhaps") [(PySem.Str.ofString "world"), (PySem.Str.ofString "start"), (PySem.Str.ofString "goal")] (spD (⟨fun c : Ex => match c with | .world => .ref C0 | .stand => .ref C1 | .many => .ref C2 | .never => .ref C3 | .count => .ref C4 | _ => Value.none, [P']⟩ : Cv) 3 d_perhaps) := fun base TB => ok_perhaps F25 (PySem.W.mg_of X G a25) b25 GG (o_look_two base TB) (o_between base TB) (o_moves_of base TB)
  have F26 := fun_mk (st := s_is_kept) l26 c26 k26
  have b26 := F26.binds (ps := [(PySem.Str.ofString "world"), (PySem.Str.ofString "row")]) fun _ _ _ _ _ _ us hl => match us, hl with | [_, _], _ => rfl
  have o_is_kept : ∀ base : Heap, LamX.TabB base mg c P' → Ok P w K mg base 1 (PySem.Str.ofString "is_kept") [(PySem.Str.ofString "world"), (PySem.Str.ofString "row")] (spD (⟨fun c : Ex => match c with | .world => .ref C0 | .stand => .ref C1 | .many => .ref C2 | .never => .ref C3 | .count => .ref C4 | _ => Value.none, [P']⟩ : Cv) 2 d_is_kept) := fun base TB => ok_is_kept F26 (PySem.W.mg_of X G a26) b26 GG
  have F27 := fun_mk (st := s_kept_of) l27 c27 k27
  have b27 := F27.binds (ps := [(PySem.Str.ofString "world")]) fun _ _ _ _ _ _ us hl => match us, hl with | [_], _ => rfl
  have o_kept_of : ∀ base : Heap, LamX.TabB base mg c P' → Ok P w K mg base 1 (PySem.Str.ofString "kept_of") [(PySem.Str.ofString "world")] (spD (⟨fun c : Ex => match c with | .world => .ref C0 | .stand => .ref C1 | .many => .ref C2 | .never => .ref C3 | .count => .ref C4 | _ => Value.none, [P']⟩ : Cv) 1 d_kept_of) := fun base TB => ok_kept_of F27 (PySem.W.mg_of X G a27) b27 GG
  have F28 := fun_mk (st := s_odd_at) l28 c28 k28
  have b28 := F28.binds (ps := [(PySem.Str.ofString "row"), (PySem.Str.ofString "stand")]) fun _ _ _ _ _ _ us hl => match us, hl with | [_, _], _ => rfl
  have o_odd_at : ∀ base : Heap, LamX.TabB base mg c P' → Ok P w K mg base 1 (PySem.Str.ofString "odd_at") [(PySem.Str.ofString "row"), (PySem.Str.ofString "stand")] (spD (⟨fun c : Ex => match c with | .world => .ref C0 | .stand => .ref C1 | .many => .ref C2 | .never => .ref C3 | .count => .ref C4 | _ => Value.none, [P']⟩ : Cv) 2 d_odd_at) := fun base TB => ok_odd_at F28 (PySem.W.mg_of X G a28) b28 GG
  have F29 := fun_mk (st := s_parted_by) l29 c29 k29
  have b29 := F29.binds (ps := [(PySem.Str.ofString "world"), (PySem.Str.ofString "start"), (PySem.Str.ofString "goal")]) fun _ _ _ _ _ _ us hl => match us, hl with | [_, _, _], _ => rfl
  have o_parted_by : ∀ base : Heap, LamX.TabB base mg c P' → Ok P w K mg base 7 (PySem.Str.ofString "parted_by") [(PySem.Str.ofString "world"), (PySem.Str.ofString "start"), (PySem.Str.ofString "goal")] (spD (⟨fun c : Ex => match c with | .world => .ref C0 | .stand => .ref C1 | .many => .ref C2 | .never => .ref C3 | .count => .ref C4 | _ => Value.none, [P']⟩ : Cv) 3 d_parted_by) := fun base TB => ok_parted_by F29 (PySem.W.mg_of X G a29) b29 GG (o_look_two base TB) (o_kept_of base TB) (o_odd_at base TB)
  have F30 := fun_mk (st := s_is_marks) l30 c30 k30
  have b30 := F30.binds (ps := [(PySem.Str.ofString "world"), (PySem.Str.ofString "thing")]) fun _ _ _ _ _ _ us hl => match us, hl with | [_, _], _ => rfl
  have o_is_marks : ∀ base : Heap, LamX.TabB base mg c P' → Ok P w K mg base 1 (PySem.Str.ofString "is_marks") [(PySem.Str.ofString "world"), (PySem.Str.ofString "thing")] (spD (⟨fun c : Ex => match c with | .world => .ref C0 | .stand => .ref C1 | .many => .ref C2 | .never => .ref C3 | .count => .ref C4 | _ => Value.none, [P']⟩ : Cv) 2 d_is_marks) := fun base TB => ok_is_marks F30 (PySem.W.mg_of X G a30) b30 GG
  have F31 := fun_mk (st := s_are_weights) l31 c31 k31
  have b31 := F31.binds (ps := [(PySem.Str.ofString "world"), (PySem.Str.ofString "thing")]) fun _ _ _ _ _ _ us hl => match us, hl with | [_, _], _ => rfl
  have o_are_weights : ∀ base : Heap, LamX.TabB base mg c P' → Ok P w K mg base 5 (PySem.Str.ofString "are_weights") [(PySem.Str.ofString "world"), (PySem.Str.ofString "thing")] (spD (⟨fun c : Ex => match c with | .world => .ref C0 | .stand => .ref C1 | .many => .ref C2 | .never => .ref C3 | .count => .ref C4 | _ => Value.none, [P']⟩ : Cv) 2 d_are_weights) := fun base TB => ok_are_weights F31 (PySem.W.mg_of X G a31) b31 GG (o_look base TB) (o_is_within base TB)
  have F32 := fun_mk (st := s_weight) l32 c32 k32
  have b32 := F32.binds (ps := [(PySem.Str.ofString "stand"), (PySem.Str.ofString "weights")]) fun _ _ _ _ _ _ us hl => match us, hl with | [_, _], _ => rfl
  have o_weight : ∀ base : Heap, LamX.TabB base mg c P' → Ok P w K mg base 1 (PySem.Str.ofString "weight") [(PySem.Str.ofString "stand"), (PySem.Str.ofString "weights")] (spD (⟨fun c : Ex => match c with | .world => .ref C0 | .stand => .ref C1 | .many => .ref C2 | .never => .ref C3 | .count => .ref C4 | _ => Value.none, [P']⟩ : Cv) 2 d_weight) := fun base TB => ok_weight F32 (PySem.W.mg_of X G a32) b32 GG
  have F33 := fun_mk (st := s_paper) l33 c33 k33
  have b33 := F33.binds (ps := [(PySem.Str.ofString "world"), (PySem.Str.ofString "start"), (PySem.Str.ofString "goal")]) fun _ _ _ _ _ _ us hl => match us, hl with | [_, _, _], _ => rfl
  have o_paper : ∀ base : Heap, LamX.TabB base mg c P' → Ok P w K mg base 8 (PySem.Str.ofString "paper") [(PySem.Str.ofString "world"), (PySem.Str.ofString "start"), (PySem.Str.ofString "goal")] (spD (⟨fun c : Ex => match c with | .world => .ref C0 | .stand => .ref C1 | .many => .ref C2 | .never => .ref C3 | .count => .ref C4 | _ => Value.none, [P']⟩ : Cv) 3 d_paper) := fun base TB => ok_paper F33 (PySem.W.mg_of X G a33) b33 GG (o_look_two base TB) (o_all_from base TB) (o_row_to base TB) (o_parted_by base TB) (o_all_to base TB)
  have F34 := fun_mk (st := s_is_row) l34 c34 k34
  have b34 := F34.binds (ps := [(PySem.Str.ofString "world"), (PySem.Str.ofString "start"), (PySem.Str.ofString "goal"), (PySem.Str.ofString "thing")]) fun _ _ _ _ _ _ us hl => match us, hl with | [_, _, _, _], _ => rfl
  have o_is_row : ∀ base : Heap, LamX.TabB base mg c P' → Ok P w K mg base 2 (PySem.Str.ofString "is_row") [(PySem.Str.ofString "world"), (PySem.Str.ofString "start"), (PySem.Str.ofString "goal"), (PySem.Str.ofString "thing")] (spD (⟨fun c : Ex => match c with | .world => .ref C0 | .stand => .ref C1 | .many => .ref C2 | .never => .ref C3 | .count => .ref C4 | _ => Value.none, [P']⟩ : Cv) 4 d_is_row) := fun base TB => ok_is_row F34 (PySem.W.mg_of X G a34) b34 GG (o_is_within base TB) (o_has base TB) (o_put base TB)
  have F35 := fun_mk (st := s_is_closed) l35 c35 k35
  have b35 := F35.binds (ps := [(PySem.Str.ofString "world"), (PySem.Str.ofString "start"), (PySem.Str.ofString "goal"), (PySem.Str.ofString "thing")]) fun _ _ _ _ _ _ us hl => match us, hl with | [_, _, _, _], _ => rfl
  have o_is_closed : ∀ base : Heap, LamX.TabB base mg c P' → Ok P w K mg base 3 (PySem.Str.ofString "is_closed") [(PySem.Str.ofString "world"), (PySem.Str.ofString "start"), (PySem.Str.ofString "goal"), (PySem.Str.ofString "thing")] (spD (⟨fun c : Ex => match c with | .world => .ref C0 | .stand => .ref C1 | .many => .ref C2 | .never => .ref C3 | .count => .ref C4 | _ => Value.none, [P']⟩ : Cv) 4 d_is_closed) := fun base TB => ok_is_closed F35 (PySem.W.mg_of X G a35) b35 GG (o_is_stand base TB) (o_back_of base TB)
  have F36 := fun_mk (st := s_is_paper) l36 c36 k36
  have b36 := F36.binds (ps := [(PySem.Str.ofString "world"), (PySem.Str.ofString "start"), (PySem.Str.ofString "goal"), (PySem.Str.ofString "thing")]) fun _ _ _ _ _ _ us hl => match us, hl with | [_, _, _, _], _ => rfl
  have o_is_paper : ∀ base : Heap, LamX.TabB base mg c P' → Ok P w K mg base 7 (PySem.Str.ofString "is_paper") [(PySem.Str.ofString "world"), (PySem.Str.ofString "start"), (PySem.Str.ofString "goal"), (PySem.Str.ofString "thing")] (spD (⟨fun c : Ex => match c with | .world => .ref C0 | .stand => .ref C1 | .many => .ref C2 | .never => .ref C3 | .count => .ref C4 | _ => Value.none, [P']⟩ : Cv) 4 d_is_paper) := fun base TB => ok_is_paper F36 (PySem.W.mg_of X G a36) b36 GG (o_look_two base TB) (o_is_marks base TB) (o_is_kept base TB) (o_odd_at base TB) (o_is_row base TB) (o_are_weights base TB) (o_weight base TB) (o_is_closed base TB)
  have F37 := fun_mk (st := s__law_cell) l37 c37 k37
  have b37 := F37.binds (ps := [(PySem.Str.ofString "_law_script"), (PySem.Str.ofString "_law_k")]) fun _ _ _ _ _ _ us hl => match us, hl with | [_, _], _ => rfl
  have o__law_cell : ∀ base : Heap, LamX.TabB base mg c P' → Ok P w K mg base 1 (PySem.Str.ofString "_law_cell") [(PySem.Str.ofString "_law_script"), (PySem.Str.ofString "_law_k")] (spD (⟨fun c : Ex => match c with | .world => .ref C0 | .stand => .ref C1 | .many => .ref C2 | .never => .ref C3 | .count => .ref C4 | _ => Value.none, [P']⟩ : Cv) 2 d__law_cell) := fun base TB => ok__law_cell F37 (PySem.W.mg_of X G a37) b37 GG
  have F38 := fun_mk (st := s__law_seed) l38 c38 k38
  have b38 := F38.binds (ps := [(PySem.Str.ofString "_law_seed_here"), (PySem.Str.ofString "_law_k")]) fun _ _ _ _ _ _ us hl => match us, hl with | [_, _], _ => rfl
  have o__law_seed : ∀ base : Heap, LamX.TabB base mg c P' → Ok P w K mg base 1 (PySem.Str.ofString "_law_seed") [(PySem.Str.ofString "_law_seed_here"), (PySem.Str.ofString "_law_k")] (spD (⟨fun c : Ex => match c with | .world => .ref C0 | .stand => .ref C1 | .many => .ref C2 | .never => .ref C3 | .count => .ref C4 | _ => Value.none, [P']⟩ : Cv) 2 d__law_seed) := fun base TB => ok__law_seed F38 (PySem.W.mg_of X G a38) b38 GG
  have F39 := fun_mk (st := s__law_pick) l39 c39 k39
  have b39 := F39.binds (ps := [(PySem.Str.ofString "_law_seed_here"), (PySem.Str.ofString "_law_many")]) fun _ _ _ _ _ _ us hl => match us, hl with | [_, _], _ => rfl
  have o__law_pick : ∀ base : Heap, LamX.TabB base mg c P' → Ok P w K mg base 1 (PySem.Str.ofString "_law_pick") [(PySem.Str.ofString "_law_seed_here"), (PySem.Str.ofString "_law_many")] (spD (⟨fun c : Ex => match c with | .world => .ref C0 | .stand => .ref C1 | .many => .ref C2 | .never => .ref C3 | .count => .ref C4 | _ => Value.none, [P']⟩ : Cv) 2 d__law_pick) := fun base TB => ok__law_pick F39 (PySem.W.mg_of X G a39) b39 GG
  have F40 := fun_mk (st := s__law_world) l40 c40 k40
  have b40 := F40.binds (ps := [(PySem.Str.ofString "_law_script"), (PySem.Str.ofString "_law_at")]) fun _ _ _ _ _ _ us hl => match us, hl with | [_, _], _ => rfl
  have o__law_world : ∀ base : Heap, LamX.TabB base mg c P' → Ok P w K mg base 2 (PySem.Str.ofString "_law_world") [(PySem.Str.ofString "_law_script"), (PySem.Str.ofString "_law_at")] (spD (⟨fun c : Ex => match c with | .world => .ref C0 | .stand => .ref C1 | .many => .ref C2 | .never => .ref C3 | .count => .ref C4 | _ => Value.none, [P']⟩ : Cv) 2 d__law_world) := fun base TB => ok__law_world F40 (PySem.W.mg_of X G a40) b40 GG (o__law_seed base TB) (o__law_cell base TB)
  have F41 := fun_mk (st := s__law_stand) l41 c41 k41
  have b41 := F41.binds (ps := [(PySem.Str.ofString "_law_seed_here"), (PySem.Str.ofString "_law_many")]) fun _ _ _ _ _ _ us hl => match us, hl with | [_, _], _ => rfl
  have o__law_stand : ∀ base : Heap, LamX.TabB base mg c P' → Ok P w K mg base 2 (PySem.Str.ofString "_law_stand") [(PySem.Str.ofString "_law_seed_here"), (PySem.Str.ofString "_law_many")] (spD (⟨fun c : Ex => match c with | .world => .ref C0 | .stand => .ref C1 | .many => .ref C2 | .never => .ref C3 | .count => .ref C4 | _ => Value.none, [P']⟩ : Cv) 2 d__law_stand) := fun base TB => ok__law_stand F41 (PySem.W.mg_of X G a41) b41 GG (o__law_pick base TB) (o__law_seed base TB)
  have F42 := fun_mk (st := s__law_of_two) l42 c42 k42
  have b42 := F42.binds (ps := [(PySem.Str.ofString "_law_kind"), (PySem.Str.ofString "_law_world_here"), (PySem.Str.ofString "_law_start"), (PySem.Str.ofString "_law_goal")]) fun _ _ _ _ _ _ us hl => match us, hl with | [_, _, _, _], _ => rfl
  have o__law_of_two : ∀ base : Heap, LamX.TabB base mg c P' → Ok P w K mg base 9 (PySem.Str.ofString "_law_of_two") [(PySem.Str.ofString "_law_kind"), (PySem.Str.ofString "_law_world_here"), (PySem.Str.ofString "_law_start"), (PySem.Str.ofString "_law_goal")] (spD (⟨fun c : Ex => match c with | .world => .ref C0 | .stand => .ref C1 | .many => .ref C2 | .never => .ref C3 | .count => .ref C4 | _ => Value.none, [P']⟩ : Cv) 4 d__law_of_two) := fun base TB => ok__law_of_two F42 (PySem.W.mg_of X G a42) b42 GG (o_reached base TB) (o_ends base TB) (o_leading base TB) (o_can_come base TB) (o_row_to base TB) (o_last base TB) (o_how_many base TB) (o_surely base TB) (o_perhaps base TB) (o_paper base TB)
  have F43 := fun_mk (st := s__law_refusal) l43 c43 k43
  have b43 := F43.binds (ps := [(PySem.Str.ofString "_law_kind"), (PySem.Str.ofString "_law_world_here"), (PySem.Str.ofString "_law_start"), (PySem.Str.ofString "_law_goal"), (PySem.Str.ofString "_law_count")]) fun _ _ _ _ _ _ us hl => match us, hl with | [_, _, _, _, _], _ => rfl
  have o__law_refusal : ∀ base : Heap, LamX.TabB base mg c P' → Ok P w K mg base 10 (PySem.Str.ofString "_law_refusal") [(PySem.Str.ofString "_law_kind"), (PySem.Str.ofString "_law_world_here"), (PySem.Str.ofString "_law_start"), (PySem.Str.ofString "_law_goal"), (PySem.Str.ofString "_law_count")] (spD (⟨fun c : Ex => match c with | .world => .ref C0 | .stand => .ref C1 | .many => .ref C2 | .never => .ref C3 | .count => .ref C4 | _ => Value.none, [P']⟩ : Cv) 5 d__law_refusal) := fun base TB => ok__law_refusal F43 (PySem.W.mg_of X G a43) b43 GG h_BadWorld h_BadStand h_BadCount h_Never h_TooMany (o_ahead base TB) (o_parted_by base TB) (o_is_paper base TB) (o__law_of_two base TB)
  have F44 := fun_mk (st := s_law) l44 c44 k44
  have b44 := F44.binds (ps := [(PySem.Str.ofString "_law_script")]) fun _ _ _ _ _ _ us hl => match us, hl with | [_], _ => rfl
  exact ⟨_, fun s v => .of_eq rfl, fun base _ _ TB => ok_law (cv := (⟨fun c : Ex => match c with | .world => .ref C0 | .stand => .ref C1 | .many => .ref C2 | .never => .ref C3 | .count => .ref C4 | _ => Value.none, [P']⟩ : Cv)) F44 (PySem.W.mg_of X G a44) b44 GG (o__law_world base TB) (o__law_stand base TB) (o__law_seed base TB) (o__law_cell base TB) (o__law_refusal base TB) (o_ahead base TB) (o_row_to base TB) (o_how_many base TB) (o_last base TB)⟩
end L2.Dn
open PySem PySem.W PyProof.Rows
set_option maxRecDepth 100000 in
set_option maxHeartbeats 0 in
theorem PySem.Challenge.cw_lastjump_k12_refused_holds : PySem.Challenge.rw_lastjump_k12_refused.Holds := by
  w_on; o_law; k_head; (case hw => w_witness2)
  k_fill
  refine LamX.walk_ofTs (l := PySem.Challenge.rw_lastjump_k12_refused) (n := 63) (k := 11) (x := (PySem.Str.ofString "_law_script")) (CX := fun w => L2.CX PySem.Challenge.rw_lastjump_k12_refused.prog w) rfl (by decide) rfl ⟨rfl, by decide, by decide⟩ (fun w h Y => PySem.W.km_in_of Y) ?F (fun _ _ _ _ _ h => L2.Dn.cx_end h)
  intro w mg fa h Y KX G hmg
  refine' L2.Dn.lawAt_mk (d := L2.Dn.d_law) KX (PySem.W.km_tabs_of Y) ?hm ?n1 ?n2 (fun H a ns hl hb hH hS => L2.Dn.sp_end (by kernel_rfl) (L2.Dn.law_true ns hl hb) hl (L2.Dn.tab_one hH) hS) (L2.Dn.all_mk KX G hmg ?p0 ?q0 ?r0 ?s0 ?t0 ?p1 ?q1 ?r1 ?s1 ?t1 ?p2 ?q2 ?r2 ?s2 ?t2 ?p3 ?q3 ?r3 ?s3 ?t3 ?p4 ?q4 ?r4 ?s4 ?t4 ?i0 ?u0x0 ?u1x0 ?u2x0 ?u3x0 ?u4x0 ?i1 ?u0x1 ?u1x1 ?u2x1 ?u3x1 ?u4x1 ?i4 ?u0x4 ?u1x4 ?u2x4 ?u3x4 ?u4x4 ?i3 ?u0x3 ?u1x3 ?u2x3 ?u3x3 ?u4x3 ?i2 ?u0x2 ?u1x2 ?u2x2 ?u3x2 ?u4x2 ?a0 ?l0 ?c0 ?k0 ?a1 ?l1 ?c1 ?k1 ?a2 ?l2 ?c2 ?k2 ?a3 ?l3 ?c3 ?k3 ?a4 ?l4 ?c4 ?k4 ?a5 ?l5 ?c5 ?k5 ?a6 ?l6 ?c6 ?k6 ?a7 ?l7 ?c7 ?k7 ?a8 ?l8 ?c8 ?k8 ?a9 ?l9 ?c9 ?k9 ?a10 ?l10 ?c10 ?k10 ?a11 ?l11 ?c11 ?k11 ?a12 ?l12 ?c12 ?k12 ?a13 ?l13 ?c13 ?k13 ?a14 ?l14 ?c14 ?k14 ?a15 ?l15 ?c15 ?k15 ?a16 ?l16 ?c16 ?k16 ?a17 ?l17 ?c17 ?k17 ?a18 ?l18 ?c18 ?k18 ?a19 ?l19 ?c19 ?k19 ?a20 ?l20 ?c20 ?k20 ?a21 ?l21 ?c21 ?k21 ?n21 ?m21 ?a22 ?l22 ?c22 ?k22 ?a23 ?l23 ?c23 ?k23 ?a24 ?l24 ?c24 ?k24 ?a25 ?l25 ?c25 ?k25 ?a26 ?l26 ?c26 ?k26 ?a27 ?l27 ?c27 ?k27 ?a28 ?l28 ?c28 ?k28 ?a29 ?l29 ?c29 ?k29 ?a30 ?l30 ?c30 ?k30 ?a31 ?l31 ?c31 ?k31 ?a32 ?l32 ?c32 ?k32 ?a33 ?l33 ?c33 ?k33 ?a34 ?l34 ?c34 ?k34 ?a35 ?l35 ?c35 ?k35 ?a36 ?l36 ?c36 ?k36 ?a37 ?l37 ?c37 ?k37 ?a38 ?l38 ?c38 ?k38 ?a39 ?l39 ?c39 ?k39 ?a40 ?l40 ?c40 ?k40 ?a41 ?l41 ?c41 ?k41 ?a42 ?l42 ?c42 ?k42 ?a43 ?l43 ?c43 ?k43 ?a44 ?l44 ?c44 ?k44 ?z0 ?z1 ?z2 ?z3 ?z4 ?z5 ?z6 ?z7 ?z8 ?z9 ?z10 ?z11 ?z12 ?z13 ?z14 ?y0 ?y1 ?y2)
  (case hm => exact List.mem_singleton.mpr rfl)
  (case p0 => k_is); (case q0 => k_exc); (case r0 => k_is); (case s0 => k_is); (case t0 => k_is); (case p1 => k_is); (case q1 => k_exc); (case r1 => k_is)
  (case s1 => k_is); (case t1 => k_is); (case p2 => k_is); (case q2 => k_exc); (case r2 => k_is); (case s2 => k_is); (case t2 => k_is); (case p3 => k_is)
  (case q3 => k_exc); (case r3 => k_is); (case s3 => k_is); (case t3 => k_is); (case p4 => k_is); (case q4 => k_exc); (case r4 => k_is); (case s4 => k_is)
  (case t4 => k_is); (case i0 => k_is); (case u0x0 => k_is); (case u1x0 => k_is); (case u2x0 => k_is); (case u3x0 => k_is); (case u4x0 => k_is); (case i1 => k_is)
  (case u0x1 => k_is); (case u1x1 => k_is); (case u2x1 => k_is); (case u3x1 => k_is); (case u4x1 => k_is); (case i4 => k_is); (case u0x4 => k_is); (case u1x4 => k_is)
  (case u2x4 => k_is); (case u3x4 => k_is); (case u4x4 => k_is); (case i3 => k_is); (case u0x3 => k_is); (case u1x3 => k_is); (case u2x3 => k_is); (case u3x3 => k_is)
  (case u4x3 => k_is); (case i2 => k_is); (case u0x2 => k_is); (case u1x2 => k_is); (case u2x2 => k_is); (case u3x2 => k_is); (case u4x2 => k_is); (case a0 => k_is)
  (case l0 => k_is); (case c0 => k_is); (case k0 => k_is); (case a1 => k_is); (case l1 => k_is); (case c1 => k_is); (case k1 => k_is); (case a2 => k_is)
  (case l2 => k_is); (case c2 => k_is); (case k2 => k_is); (case a3 => k_is); (case l3 => k_is); (case c3 => k_is); (case k3 => k_is); (case a4 => k_is)
  (case l4 => k_is); (case c4 => k_is); (case k4 => k_is); (case a5 => k_is); (case l5 => k_is); (case c5 => k_is); (case k5 => k_is); (case a6 => k_is)
  (case l6 => k_is); (case c6 => k_is); (case k6 => k_is); (case a7 => k_is); (case l7 => k_is); (case c7 => k_is); (case k7 => k_is); (case a8 => k_is)
  (case l8 => k_is); (case c8 => k_is); (case k8 => k_is); (case a9 => k_is); (case l9 => k_is); (case c9 => k_is); (case k9 => k_is); (case a10 => k_is)
  (case l10 => k_is); (case c10 => k_is); (case k10 => k_is); (case a11 => k_is); (case l11 => k_is); (case c11 => k_is); (case k11 => k_is); (case a12 => k_is)
  (case l12 => k_is); (case c12 => k_is); (case k12 => k_is); (case a13 => k_is); (case l13 => k_is); (case c13 => k_is); (case k13 => k_is); (case a14 => k_is)
  (case l14 => k_is); (case c14 => k_is); (case k14 => k_is); (case a15 => k_is); (case l15 => k_is); (case c15 => k_is); (case k15 => k_is); (case a16 => k_is)
  (case l16 => k_is); (case c16 => k_is); (case k16 => k_is); (case a17 => k_is); (case l17 => k_is); (case c17 => k_is); (case k17 => k_is); (case a18 => k_is)
  (case l18 => k_is); (case c18 => k_is); (case k18 => k_is); (case a19 => k_is); (case l19 => k_is); (case c19 => k_is); (case k19 => k_is); (case a20 => k_is)
  (case l20 => k_is); (case c20 => k_is); (case k20 => k_is); (case a21 => k_is); (case l21 => k_is); (case c21 => k_is); (case k21 => k_is); (case n21 => exact rfl)
  (case a22 => k_is); (case l22 => k_is); (case c22 => k_is); (case k22 => k_is); (case a23 => k_is); (case l23 => k_is); (case c23 => k_is)
  (case k23 => k_is); (case a24 => k_is); (case l24 => k_is); (case c24 => k_is); (case k24 => k_is); (case a25 => k_is); (case l25 => k_is); (case c25 => k_is)
  (case k25 => k_is); (case a26 => k_is); (case l26 => k_is); (case c26 => k_is); (case k26 => k_is); (case a27 => k_is); (case l27 => k_is); (case c27 => k_is)
  (case k27 => k_is); (case a28 => k_is); (case l28 => k_is); (case c28 => k_is); (case k28 => k_is); (case a29 => k_is); (case l29 => k_is); (case c29 => k_is)
  (case k29 => k_is); (case a30 => k_is); (case l30 => k_is); (case c30 => k_is); (case k30 => k_is); (case a31 => k_is); (case l31 => k_is); (case c31 => k_is)
  (case k31 => k_is); (case a32 => k_is); (case l32 => k_is); (case c32 => k_is); (case k32 => k_is); (case a33 => k_is); (case l33 => k_is); (case c33 => k_is)
  (case k33 => k_is); (case a34 => k_is); (case l34 => k_is); (case c34 => k_is); (case k34 => k_is); (case a35 => k_is); (case l35 => k_is); (case c35 => k_is)
  (case k35 => k_is); (case a36 => k_is); (case l36 => k_is); (case c36 => k_is); (case k36 => k_is); (case a37 => k_is); (case l37 => k_is); (case c37 => k_is)
  (case k37 => k_is); (case a38 => k_is); (case l38 => k_is); (case c38 => k_is); (case k38 => k_is); (case a39 => k_is); (case l39 => k_is); (case c39 => k_is)
  (case k39 => k_is); (case a40 => k_is); (case l40 => k_is); (case c40 => k_is); (case k40 => k_is); (case a41 => k_is); (case l41 => k_is); (case c41 => k_is)
  (case k41 => k_is); (case a42 => k_is); (case l42 => k_is); (case c42 => k_is); (case k42 => k_is); (case a43 => k_is); (case l43 => k_is); (case c43 => k_is)
  (case k43 => k_is); (case a44 => k_is); (case l44 => k_is); (case c44 => k_is); (case k44 => k_is); (case z0 => k_is); (case z1 => k_is); (case z2 => k_is)
  (case z3 => k_is); (case z4 => k_is); (case z5 => k_is); (case z6 => k_is); (case z7 => k_is); (case z8 => k_is); (case z9 => k_is); (case z10 => k_is)
  (case z11 => k_is); (case z12 => k_is); (case z13 => k_is); (case z14 => k_is); (case y0 => k_is); (case y1 => k_is); (case y2 => k_is)
  (case m21 => kernel_rfl)
  (case n1 => kernel_rfl)
  (case n2 => kernel_rfl)

