import PyProof.Rows.All
import Wide.All
import OpenK.AllK
import Wide.FinOn
import KE.KStateDown
import KE.GoesNew
import HandS.ForMost
import HandS.Walk
import HandS.IsInst
import HandS.More
import HandS.Codes
import HandS.TupAny
import HandS.Flow
import HandS.HeadHook4
import HandS.HeadEnd
import HandS.HeadWalk
import HandS.Head0
import HandS.Head1
import HandS.Head2
import PySem.Challenge.RW_testedrows_k47_whole_no_test_at_a_begin
set_option Elab.async false
set_option linter.all false
set_option maxRecDepth 100000
set_option maxHeartbeats 4000000
/-! iterators of several sources: enumerate and zip over a list, a tuple, a text -/
namespace Tr
open PySem PySem.Spec PyProof.Rows L2
abbrev St := L2.St

/-- what is walked: a list, a tuple, a text -/
inductive Src where
  | lst (a : Addr)
  | tup (a : Addr)
  | txt (z : Str)
def Src.v : Src → V
  | .lst a => .ref a
  | .tup a => .ref a
  | .txt z => .str z
def signs (z : Str) : List V := z.cps.toList.map fun c => .str ⟨#[c]⟩
def Src.has (K : PySem.W.Frag) (H : Hp) : Src → List V → Prop
  | .lst a, xs => SqL K H a xs
  | .tup a, xs => SqT K H a xs
  | .txt z, xs => xs = signs z
/-- its iterator at turn i -/
def Src.itr : Src → Addr → Nat → Heap → Prop
  | .lst a, it, i, h => h.IsListIter it a i ∧ a ≠ it
  | .tup a, it, i, h => h.IsTupleIter it a i ∧ a ≠ it
  | .txt z, it, i, h => ∃ t, h.IsStrIter it (strIterType z) z t i
theorem Src.itr_obj {s : Src} {it : Addr} {i : Nat} {h : Heap} (x : s.itr it i h) : ∃ o, h.get? it = some o ∧ ∀ v, o.data ≠ .cell v := by
  cases s with
  | lst a =>
    obtain ⟨⟨o, e, c, d⟩, _⟩ := x
    exact ⟨o, e, fun v z => by rw [d] at z; cases z⟩
  | tup a =>
    obtain ⟨⟨o, e, c, d⟩, _⟩ := x
    exact ⟨o, e, fun v z => by rw [d] at z; cases z⟩
  | txt z =>
    obtain ⟨t, o, e, c, d⟩ := x
    exact ⟨o, e, fun v z => by rw [d] at z; cases z⟩
theorem Src.itr_keep {s : Src} {it : Addr} {i : Nat} {h h' : Heap} (x : s.itr it i h) (k : ∀ o, h.get? it = some o → h'.get? it = some o) : s.itr it i h' := by
  cases s with
  | lst a => exact ⟨x.1.at k, x.2⟩
  | tup a => exact ⟨x.1.at k, x.2⟩
  | txt z =>
    obtain ⟨t, o, e, c⟩ := x
    exact ⟨t, o, k o e, c⟩
/-- what the library's Draws needs: cells, number, what is drawn, state -/
structure DrawsAt (P : Program) (w : World) (A : Around) (s : Src) (xs : List V) (it : Addr) (i : Nat) (h : Heap) (fp : List Addr) (Pd : Nat → Value → Prop) (Sd : Nat → Heap → Prop) : Prop where
  D : Draws P w A it fp xs.length Pd Sd
  mem : it ∈ fp
  now : Sd i h
  drew : ∀ j u, Pd j u → ∃ x, xs[j]? = some x ∧ RelV x u
  back : ∀ j h', Sd j h' → s.itr it j h'
  old : ∀ b ∈ fp, b ≠ it → ∃ o, h.get? b = some o
  tracked : ∀ b ∈ fp, b ≠ it → b = it ∨ s.v = .ref b
theorem relV_at {xs : List V} {its : List Value} (r : Vals xs its) {j : Nat} {u : Value} (e : its.toArray[j]? = some u) : ∃ x, xs[j]? = some x ∧ RelV x u := by
  have e2 : its[j]? = some u := by simpa using e
  have hl := r.length
  have hj : j < xs.length := by
    have := (List.getElem?_eq_some_iff.mp e2).1
    omega
  obtain ⟨u', h1, h2⟩ := r.get (i := j) (x := xs[j]) (by simp [hj])
  rw [e2] at h1
  cases h1
  exact ⟨xs[j], by simp [hj], h2⟩
theorem draws_of {X : Cx} {pins : List (Addr × Obj)} {σ : St} {H : Hp} {s : Shared} {A : Around} {c : Src} {xs : List V} {it : Addr} {i : Nat} (I : Inv X pins σ H s) (hh : A.handled = none) (q : c.has X.K H xs) (x : c.itr it i s.heap) :
    ∃ fp Pd Sd, DrawsAt X.prog X.w A c xs it i s.heap fp Pd Sd := by
  cases c with
  | lst a =>
    obtain ⟨its, rv, p, hz⟩ := I.list (show SqL X.K H a xs from q)
    have hl := rv.length
    obtain ⟨o, n, e1, e2, e3, e4⟩ := id p
    have D := Draws.list (prog := X.prog) (w := X.w) (A := A) hh it a x.2 its.toArray
    have en : its.toArray.size = xs.length := by simp [hl]
    rw [en] at D
    exact ⟨_, _, _, D, by simp, ⟨x.1, p.isList⟩, fun j u e => relV_at rv e, fun j h' st => ⟨st.1, x.2⟩, fun b hb hn => by
      have z : b = it ∨ b = a := by simpa using hb
      rcases z with z | z
      · exact absurd z hn
      · rw [z]; exact ⟨o, e1⟩, fun b hb hn => by
      have z : b = it ∨ b = a := by simpa using hb
      rcases z with z | z
      · exact .inl z
      · rw [z]; exact .inr rfl⟩
  | tup a =>
    obtain ⟨its, rv, p, hz⟩ := I.tuple (show SqT X.K H a xs from q)
    have hl := rv.length
    obtain ⟨o, e1, e2⟩ := id p
    have D := Draws.tuple (prog := X.prog) (w := X.w) (A := A) hh it a x.2 its.toArray
    have en : its.toArray.size = xs.length := by simp [hl]
    rw [en] at D
    exact ⟨_, _, _, D, by simp, ⟨x.1, p⟩, fun j u e => relV_at rv e, fun j h' st => ⟨st.1, x.2⟩, fun b hb hn => by
      have z : b = it ∨ b = a := by simpa using hb
      rcases z with z | z
      · exact absurd z hn
      · rw [z]; exact ⟨o, e1⟩, fun b hb hn => by
      have z : b = it ∨ b = a := by simpa using hb
      rcases z with z | z
      · exact .inl z
      · rw [z]; exact .inr rfl⟩
  | txt z =>
    obtain ⟨t, st⟩ := x
    cases (show xs = signs z from q)
    have D := Draws.text (prog := X.prog) (w := X.w) (A := A) hh it z t
    have en : z.cps.size = (signs z).length := by simp [signs]
    rw [en] at D
    exact ⟨_, _, _, D, by simp, st, fun j u ⟨c, k, e1, e2⟩ => ⟨.str ⟨#[c]⟩, by simp [signs, e1], ⟨k, e2⟩⟩, fun j h' st => ⟨t, st⟩, fun b hb hn => absurd (by simpa using hb) hn, fun b hb hn => .inl (by simpa using hb)⟩
end Tr
set_option Elab.async false
set_option linter.all false
set_option maxRecDepth 100000
set_option maxHeartbeats 4000000
namespace Tr
open PySem PySem.Spec PyProof.Rows L2
theorem Src.inj {X : Cx} {pins : List (Addr × Obj)} {σ : St} {H : Hp} {s : Shared} {c : Src} {xs ys : List V} (I : Inv X pins σ H s) (h1 : c.has X.K H xs) (h2 : c.has X.K H ys) : xs = ys := by
  cases c with
  | lst a => exact I.list_inj h1 h2
  | tup a => exact I.tuple_inj h1 h2
  | txt z => exact Eq.trans h1 (Eq.symm h2)
/-- enumerate over a source, from k0 -/
def ItE (K : PySem.W.Frag) (c : Src) (k0 : Int) : It :=
  ⟨fun i H => ∃ (xs : List V) (x : V), c.has K H xs ∧ xs[i]? = some x, fun i H v H' => ∃ T x, v = .ref T ∧ H T = none ∧ H' = upd H T (.tup [.int (k0 + (i : Nat)), x]) ∧ ∀ xs, c.has K H xs → xs[i]? = some x, fun i H => ∃ xs : List V, c.has K H xs ∧ xs.length = i⟩
theorem k_fp {X : Cx} {pins : List (Addr × Obj)} {σ : St} {H : Hp} {s : Shared} {b : Addr} {u : Obj} (I : Inv X pins σ H s) (f : FpOk X pins H b) (hk : X.K.lookup b = some u) : False := by
  obtain ⟨_, _, _, h4, _⟩ := f
  have bs := I.ok.noex
  rcases h4 with h4 | h4
  · exact bs b u (I.ok.mod.kin b u hk) h4
  · have e1 := (I.ok.bs b u (I.ok.mod.kin b u hk)).1
    exact absurd (Nat.lt_of_lt_of_le (Heap.lt_size e1) h4) (Nat.lt_irrefl _)
/-- the iterators' own cells are not what is walked -/
theorem Src.ne {X : Cx} {pins : List (Addr × Obj)} {σ : St} {H : Hp} {s : Shared} {c : Src} {xs : List V} {b : Addr} (I : Inv X pins σ H s) (q : c.has X.K H xs) (f : FpOk X pins H b) : c.v ≠ .ref b := by
  intro z
  have f0 := f.1
  cases c with
  | lst a =>
    cases (show V.ref a = V.ref b from z)
    rcases (show SqL X.K H b xs from q) with (h | ⟨u, h⟩) | ⟨u, its, n, hk, hcl, _⟩
    · rw [f0] at h; cases h
    · rw [f0] at h; cases h
    · exact k_fp I f hk
  | tup a =>
    cases (show V.ref a = V.ref b from z)
    rcases (show SqT X.K H b xs from q) with (h | ⟨u, h⟩) | ⟨u, its, n, hk, hcl, _⟩
    · rw [f0] at h; cases h
    · rw [f0] at h; cases h
    · exact k_fp I f hk
  | txt y => cases z
theorem DrawsAt.out {X : Cx} {pins : List (Addr × Obj)} {σ : St} {H : Hp} {s : Shared} {A : Around} {c : Src} {xs : List V} {it b : Addr} {i : Nat} {fp : List Addr} {P : Nat → Value → Prop} {S : Nat → Heap → Prop}
    (d : DrawsAt X.prog X.w A c xs it i s.heap fp P S) (I : Inv X pins σ H s) (q : c.has X.K H xs) (f : FpOk X pins H b) (hn : b ≠ it) : b ∉ fp := fun hm => by
  rcases d.tracked b hm hn with z | z
  · exact hn z
  · exact Src.ne I q f z
theorem Inv.turnedL {X : Cx} {pins : List (Addr × Obj)} {σ : St} {H : Hp} {s : Shared} {h' : Heap} {t' : Nat} {ch : List Addr} (I : Inv X pins σ H s) (k : ∀ b o, b ∉ ch → s.heap.get? b = some o → h'.get? b = some o) (hf : ∀ b ∈ ch, FpOk X pins H b) :
    Inv X pins σ H { s with heap := h', toks := t' } := by
  have nit : ∀ b u, H b = some u → b ∉ ch := fun b u e z => by
    have q := (hf b z).1
    rw [q] at e; cases e
  refine I.step (g' := s.gens) (d' := s.drawn) (ch := ch) (fun b hb => ⟨(hf b hb).2.2.2.1, (hf b hb).2.1, (hf b hb).2.2.2.2.1, (hf b hb).2.2.2.2.2⟩) (fun b o _ _ hc e _ => k b o hc e) (fun b o _ _ hc e _ => ⟨o.slots, k b o hc e⟩)
    (fun _ _ _ _ n => n) (fun b o hc e => ⟨o, k b o hc e⟩) (fun _ _ e => e) (fun _ _ _ e => e) (fun b ps e => ⟨#[], by rw [e]; simp⟩) (fun m hm => ?_) (fun b u e => ?_) I.bare
  · obtain ⟨o, es, ep, ho, r⟩ := hm
    exact ⟨o, es, ep, k _ o (fun z => (hf _ z).2.1 rfl) ho, r⟩
  · refine (I.hok b u e).stay (fun c v hc q => k c v ?_ q) (fun c q => q) fun c xs q => q
    rcases hc with z | z
    · rw [z]; exact nit b u e
    · exact nit c _ z
theorem turn_en {P : Program} {w : World} {K : PySem.W.Frag} {elts : List Expr} {kk : Nat} {tpos : Pos} (c : Src) (k0 : Int) (e it : Addr) :
    Turn P w K (.Tuple elts kk tpos) (ItE K c k0) [e, it] e (fun i h => (∃ old, IsEnum h e it (k0 + (i : Nat)) old) ∧ c.itr it i h ∧ e ≠ it) where
  mem := by simp
  obj := fun i h st b hb => by
    obtain ⟨⟨old, he⟩, hit, _⟩ := st
    have e' : b = e ∨ b = it := by simpa using hb
    rcases e' with z | z
    · rw [z]; exact ⟨_, he, fun v q => nomatch q⟩
    · rw [z]; exact Src.itr_obj (s := c) hit
  keep := fun i h h' st k => let ⟨⟨old, he⟩, hi, hne⟩ := st; ⟨⟨old, k e (by simp) _ he⟩, Src.itr_keep (s := c) hi fun o q => k it (by simp) o q, hne⟩
  item := by
    intro X hP hw hK hc i pins s σ H E I hf st hg
    subst hP hw hK
    obtain ⟨⟨old, he⟩, hit, hne⟩ := st
    obtain ⟨xs, x, hq, hx⟩ := hg
    obtain ⟨fp, Pd, Sd, d⟩ := draws_of (A := X.A.in1) I (I.ok.hd hc) hq hit
    have hel : e < s.heap.objs.size := Heap.lt_size he
    have hil : it < s.heap.objs.size := by obtain ⟨_, q, _⟩ := Src.itr_obj (s := c) hit; exact Heap.lt_size q
    have hi : i < xs.length := (List.getElem?_eq_some_iff.mp hx).1
    have hef : e ∉ fp := d.out I hq (hf e (by simp)) hne
    have G := GoesN.enumFrom (elts := elts) (x1 := kk) (pos := tpos) k0 d.D e hne hef d.mem
    refine thn (G.goes i s (fun v s2 => ∃ x H', Inv X pins σ H' s2 ∧ RelV x v ∧ (ItE X.K c k0).yld i H x H' ∧ ((∃ old, IsEnum s2.heap e it (k0 + ((i + 1 : Nat) : Int)) old) ∧ c.itr it (i + 1) s2.heap ∧ e ≠ it) ∧ ∀ b ∈ [e, it], H' b = none) E hi ⟨⟨old, he⟩, d.now⟩ fun v h' tk hy st' hk _ => ?_) fun r s1 h1 => h1
    obtain ⟨T, t, u, rfl, hT, pu, o, g1, g2, n, g3⟩ := hy
    obtain ⟨x', hx', ru⟩ := d.drew i u pu
    rw [hx] at hx'
    cases hx'
    have new : ObjOk X.prog X.w (upd H T (.tup [.int (k0 + (i : Nat)), x])) h' T (.tup [.int (k0 + (i : Nat)), x]) :=
      ⟨by show 2 ≤ sizeLine; decide, [.int (k0 + (i : Nat)) t, u], .cons ⟨_, rfl⟩ (.cons ru .nil), ⟨o, g1, g2, n, g3⟩⟩
    have I1 : Inv X pins σ (upd H T (.tup [.int (k0 + (i : Nat)), x])) { s with heap := h', toks := tk } :=
      I.turnedNew (t' := tk) (ch := [e, it]) (fun b ob hb q => hk b ob hb q) hf hT new
    refine ⟨.ref T, _, I1, rfl, ⟨T, x, rfl, I.hok.fresh hT, rfl, fun ys hy => by rw [Src.inj I hy hq]; exact hx⟩, ⟨st'.1, d.back _ _ st'.2, hne⟩, fun b hb => ?_⟩
    have hb' : b < s.heap.objs.size := by
      have e' : b = e ∨ b = it := by simpa using hb
      rcases e' with z | z
      · rw [z]; exact hel
      · rw [z]; exact hil
    rw [upd_ne (Nat.ne_of_lt (Nat.lt_of_lt_of_le hb' hT))]
    exact (hf b hb).1
  done := by
    intro X hP hw hK hc i pins s σ H E I hf st hg
    subst hP hw hK
    obtain ⟨⟨old, he⟩, hit, hne⟩ := st
    obtain ⟨xs, hq, hx⟩ := hg
    obtain ⟨fp, Pd, Sd, d⟩ := draws_of (A := X.A.in1) I (I.ok.hd hc) hq hit
    have hef : e ∉ fp := d.out I hq (hf e (by simp)) hne
    subst hx
    have G := GoesN.enumFrom (elts := elts) (x1 := kk) (pos := tpos) k0 d.D e hne hef d.mem
    refine thn (G.stops s (fun s1 => Inv X pins σ H s1) E ⟨⟨old, he⟩, d.now⟩ fun h' tk hk _ => ?_) fun r s1 h1 => h1
    exact Inv.turnedL (t' := tk) I hk hf
  self := fun A i s Q E st h => let ⟨⟨_, he⟩, _⟩ := st; wpAny_pyIter_enum he h

/-- zip over two sources -/
def ItZ (K : PySem.W.Frag) (c d : Src) : It :=
  ⟨fun i H => ∃ (xs ys : List V) (x y : V), c.has K H xs ∧ d.has K H ys ∧ xs[i]? = some x ∧ ys[i]? = some y,
    fun i H v H' => ∃ T x y, v = .ref T ∧ H T = none ∧ H' = upd H T (.tup [x, y]) ∧ (∀ xs, c.has K H xs → xs[i]? = some x) ∧ ∀ ys, d.has K H ys → ys[i]? = some y,
    fun i H => ∃ xs ys : List V, c.has K H xs ∧ d.has K H ys ∧ i = min xs.length ys.length⟩
/-- the cells of a zip -/
structure ZipTn (c d : Src) (z TI TO i1 i2 : Addr) (i : Nat) (h : Heap) : Prop where
  zp : IsZip h z TI TO .none
  ti : IsTupOf2 h TI (.ref i1) (.ref i2)
  to : ∃ a1 a2, IsTupOf2 h TO a1 a2
  c1 : c.itr i1 i h
  c2 : d.itr i2 i h
structure ZipNe (z TI TO i1 i2 : Addr) : Prop where
  a1 : TI ≠ z
  a2 : TO ≠ z
  a3 : TI ≠ TO
  a4 : TI ≠ i1
  a5 : TI ≠ i2
  a6 : z ≠ i1
  a7 : z ≠ i2
  a8 : TO ≠ i1
  a9 : TO ≠ i2
  a10 : i1 ≠ i2
theorem zip_sep {X : Cx} {pins : List (Addr × Obj)} {σ : St} {H : Hp} {s : Shared} {A : Around} {c d : Src} {xs ys : List V} {z TI TO i1 i2 : Addr} {i : Nat} {fp1 fp2 : List Addr} {P1 P2 : Nat → Value → Prop} {S1 S2 : Nat → Heap → Prop}
    (I : Inv X pins σ H s) (hf : ∀ b ∈ [z, TI, TO, i1, i2], FpOk X pins H b) (ne : ZipNe z TI TO i1 i2) (hq : c.has X.K H xs) (hq' : d.has X.K H ys)
    (d1 : DrawsAt X.prog X.w A c xs i1 i s.heap fp1 P1 S1) (d2 : DrawsAt X.prog X.w A d ys i2 i s.heap fp2 P2 S2) : ZipSep2 z TI TO i1 i2 fp1 fp2 :=
  { TIz := ne.a1, TOz := ne.a2, TITO := ne.a3, TIi1 := ne.a4, TIi2 := ne.a5, mem1 := d1.mem, mem2 := d2.mem,
    zf1 := d1.out I hq (hf z (by simp)) ne.a6, Tf1 := d1.out I hq (hf TO (by simp)) ne.a8, zf2 := d2.out I hq' (hf z (by simp)) ne.a7, Tf2 := d2.out I hq' (hf TO (by simp)) ne.a9,
    sep1_2 := d2.out I hq' (hf i1 (by simp)) ne.a10, sep2_1 := d1.out I hq (hf i2 (by simp)) ne.a10.symm }
theorem mem5 {z TI TO i1 i2 b : Addr} (h : b ∈ [z, TI, TO, i1, i2]) : b = z ∨ b = TI ∨ b = TO ∨ b = i1 ∨ b = i2 := by simpa using h
theorem turn_zp {P : Program} {w : World} {K : PySem.W.Frag} {elts : List Expr} {kk : Nat} {tpos : Pos} (c d : Src) {z TI TO i1 i2 : Addr} (ne : ZipNe z TI TO i1 i2) :
    Turn P w K (.Tuple elts kk tpos) (ItZ K c d) [z, TI, TO, i1, i2] z (fun i h => ZipTn c d z TI TO i1 i2 i h) where
  mem := by simp
  obj := fun i h st b hb => by
    rcases mem5 hb with e | e | e | e | e
    · rw [e]; exact ⟨_, st.zp, fun v q => nomatch q⟩
    · rw [e]; exact ⟨_, st.ti, fun v q => nomatch q⟩
    · rw [e]; obtain ⟨a1, a2, g⟩ := st.to; exact ⟨_, g, fun v q => nomatch q⟩
    · rw [e]; exact Src.itr_obj st.c1
    · rw [e]; exact Src.itr_obj st.c2
  keep := fun i h h' st k => ⟨k z (by simp) _ st.zp, k TI (by simp) _ st.ti, let ⟨a1, a2, g⟩ := st.to; ⟨a1, a2, k TO (by simp) _ g⟩, Src.itr_keep st.c1 fun o q => k i1 (by simp) o q, Src.itr_keep st.c2 fun o q => k i2 (by simp) o q⟩
  item := by
    intro X hP hw hK hc i pins s σ H E I hf st hg
    subst hP hw hK
    obtain ⟨xs, ys, x, y, hq, hq', hx, hy⟩ := hg
    obtain ⟨fp1, P1, S1, d1⟩ := draws_of (A := X.A.in1) I (I.ok.hd hc) hq st.c1
    obtain ⟨fp2, P2, S2, d2⟩ := draws_of (A := X.A.in1) I (I.ok.hd hc) hq' st.c2
    have hi : i < min xs.length ys.length := by
      have h1 := (List.getElem?_eq_some_iff.mp hx).1
      have h2 := (List.getElem?_eq_some_iff.mp hy).1
      omega
    have G := GoesN.zip2 (elts := elts) (x1 := kk) (pos := tpos) (zip_sep I hf ne hq hq' d1 d2) d1.D d2.D
    refine thn (G.goes i s (fun v s2 => ∃ x H', Inv X pins σ H' s2 ∧ RelV x v ∧ (ItZ X.K c d).yld i H x H' ∧ ZipTn c d z TI TO i1 i2 (i + 1) s2.heap ∧ ∀ b ∈ [z, TI, TO, i1, i2], H' b = none) E hi ⟨st.zp, st.ti, st.to, d1.now, d2.now⟩ fun v h' tk hY st' hk _ => ?_) fun r s1 h1 => h1
    obtain ⟨T, u1, u2, rfl, hT, p1, p2, o, g1, g2, n, g3⟩ := hY
    obtain ⟨x', hx', r1⟩ := d1.drew i u1 p1
    obtain ⟨y', hy', r2⟩ := d2.drew i u2 p2
    rw [hx] at hx'
    cases hx'
    rw [hy] at hy'
    cases hy'
    have new : ObjOk X.prog X.w (upd H T (.tup [x, y])) h' T (.tup [x, y]) := ⟨by show 2 ≤ sizeLine; decide, [u1, u2], .cons r1 (.cons r2 .nil), ⟨o, g1, g2, n, g3⟩⟩
    have I1 : Inv X pins σ (upd H T (.tup [x, y])) { s with heap := h', toks := tk } :=
      I.turnedNew (t' := tk) (ch := [z, TI, TO, i1, i2]) (fun b ob hb q => hk b ob (fun hm => hb (by
        have e : b = z ∨ b = TO ∨ b = i1 ∨ b = i2 := by simpa using hm
        rcases e with e | e | e | e <;> simp [e])) q) hf hT new
    refine ⟨.ref T, _, I1, rfl, ⟨T, x, y, rfl, I.hok.fresh hT, rfl, fun us hu => by rw [Src.inj I hu hq]; exact hx, fun us hu => by rw [Src.inj I hu hq']; exact hy⟩, ⟨st'.1, st'.2.1, st'.2.2.1, d1.back _ _ st'.2.2.2.1, d2.back _ _ st'.2.2.2.2⟩, fun b hb => ?_⟩
    have hb' : ∃ o, s.heap.get? b = some o := by
      rcases mem5 hb with e | e | e | e | e
      · rw [e]; exact ⟨_, st.zp⟩
      · rw [e]; exact ⟨_, st.ti⟩
      · rw [e]; obtain ⟨a1, a2, g⟩ := st.to; exact ⟨_, g⟩
      · rw [e]; obtain ⟨o, g, _⟩ := Src.itr_obj st.c1; exact ⟨o, g⟩
      · rw [e]; obtain ⟨o, g, _⟩ := Src.itr_obj st.c2; exact ⟨o, g⟩
    obtain ⟨ob, hb'⟩ := hb'
    rw [upd_ne (Nat.ne_of_lt (Nat.lt_of_lt_of_le (Heap.lt_size hb') hT))]
    exact (hf b hb).1
  done := by
    intro X hP hw hK hc i pins s σ H E I hf st hg
    subst hP hw hK
    obtain ⟨xs, ys, hq, hq', hi⟩ := hg
    obtain ⟨fp1, P1, S1, d1⟩ := draws_of (A := X.A.in1) I (I.ok.hd hc) hq st.c1
    obtain ⟨fp2, P2, S2, d2⟩ := draws_of (A := X.A.in1) I (I.ok.hd hc) hq' st.c2
    have G := GoesN.zip2 (elts := elts) (x1 := kk) (pos := tpos) (zip_sep I hf ne hq hq' d1 d2) d1.D d2.D
    rw [← hi] at G
    refine thn (G.stops s (fun s1 => Inv X pins σ H s1) E ⟨st.zp, st.ti, st.to, d1.now, d2.now⟩ fun h' tk hk _ => ?_) fun r s1 h1 => h1
    exact Inv.turnedL (t' := tk) (ch := [z, TI, TO, i1, i2]) I (fun b ob hb q => hk b ob (fun hm => hb (by
        have e : b = z ∨ b = TO ∨ b = i1 ∨ b = i2 := by simpa using hm
        rcases e with e | e | e | e <;> simp [e])) q) hf
  self := fun A i s Q E st h => wpAny_pyIter_zip st.zp h
end Tr
set_option Elab.async false
set_option linter.all false
set_option maxRecDepth 100000
set_option maxHeartbeats 4000000
namespace Tr
open PySem PySem.Spec PyProof.Rows L2
/-- how the iterator of a source begins -/
theorem begins_of {X : Cx} {pins : List (Addr × Obj)} {σ : St} {H : Hp} {s : Shared} {c : Src} {xs : List V} {u : Value} (I : Inv X pins σ H s) (q : c.has X.K H xs) (r : RelV c.v u) :
    ∃ (o : Obj) (Hh : Heap → Prop), Begins u o Hh ∧ Hh s.heap ∧ ∀ (h' : Heap) (it : Addr), s.heap.objs.size ≤ it → h'.get? it = some o → c.itr it 0 h' := by
  cases c with
  | lst a =>
    cases (show u = Value.ref a from r)
    obtain ⟨its, rv, p, hz⟩ := I.list (show SqL X.K H a xs from q)
    have la : a < s.heap.objs.size := p.lt
    exact ⟨_, _, begins_list a its.toArray, p.isList, fun h' it hi e => ⟨⟨_, e, rfl, rfl⟩, Nat.ne_of_lt (Nat.lt_of_lt_of_le la hi)⟩⟩
  | tup a =>
    cases (show u = Value.ref a from r)
    obtain ⟨its, rv, p, hz⟩ := I.tuple (show SqT X.K H a xs from q)
    have la : a < s.heap.objs.size := p.lt
    exact ⟨_, _, begins_tuple a its.toArray, p, fun h' it hi e => ⟨⟨_, e, rfl, rfl⟩, Nat.ne_of_lt (Nat.lt_of_lt_of_le la hi)⟩⟩
  | txt z =>
    obtain ⟨t, rfl⟩ := (show ∃ t, u = Value.str z t from r)
    exact ⟨_, _, begins_text z t, trivial, fun h' it hi e => ⟨t, _, e, rfl, rfl⟩⟩
set_option maxHeartbeats 1000000 in
theorem meets_enum1 {v : Value} {o : Obj} {H : Heap → Prop} (B : Begins v o H) :
    Meets (Builtin.«enumerate.__new__» ⟨[.type "enumerate", v], []⟩) (fun _ R s => H s.heap ∧
      R (.ok (.ret (.ref (s.heap.push o).objs.size))) { s with heap := (s.heap.push o).push { cls := .type "enumerate", data := .fields #[.none, .bool false, .ref s.heap.objs.size, rawInt 0, .none, .none] } }) :=
  .of_wp fun prog w A R s h => by
    obtain ⟨hp, g, d, tk, os⟩ := s; obtain ⟨h1, h⟩ := h
    have hsub := sub_enumerate
    have q1 : ∀ {A' : Around} {E : Value → Shared → Prop} {Q : Value → Shared → Prop}, Q (.ref hp.objs.size) ⟨hp.push o, g, d, tk, os⟩ → wpAny (model prog w) A' (pyIter v) Q E ⟨hp, g, d, tk, os⟩ :=
      fun q => B.iter prog w _ _ ⟨hp, g, d, tk, os⟩ _ h1 q
    wp_walk using q1
    refine wpAny_stack_any fun st => wpAny_pure ?_
    split
    · rename_i c _ _ _ _ _
      cases (c == Value.type "enumerate")
      · wp_walk using q1
        exact ⟨_, rfl, h⟩
      · wp_walk using q1
        exact ⟨_, rfl, h⟩
    · wp_walk using q1
      exact ⟨_, rfl, h⟩
theorem enum_begins1 {prog : Program} {w : World} {A : Around} {E : Value → Shared → Prop} {s : Shared} {v : Value} {o : Obj} {H : Heap → Prop} {Q : Value → Shared → Prop} (B : Begins v o H) (h1 : H s.heap)
    (h : ∀ h', IsEnum h' (s.heap.objs.size + 1) s.heap.objs.size 0 .none → h'.get? s.heap.objs.size = some o → h'.objs.size = s.heap.objs.size + 2 →
      (∀ b o, s.heap.get? b = some o → h'.get? b = some o) → Q (.ref (s.heap.objs.size + 1)) { s with heap := h' }) :
    wpAny (model prog w) A (call (.type "enumerate") [v]) Q E s := by
  refine callType_new F.called_enumerate (by decide) (F.typeCall_enumerate_1 _) (F.newCall_enumerate_1 _) (fun obj => F.args_object_init_2 obj _) F.entry_enumerate_new
    (meets_enum1 B) ⟨h1, ?_⟩
  have hz : (s.heap.push o).objs.size = s.heap.objs.size + 1 := Heap.size_push ..
  show _ ∧ _
  rw [hz]
  have he : IsEnum ((s.heap.push o).push { cls := .type "enumerate", data := .fields #[.none, .bool false, .ref s.heap.objs.size, rawInt 0, .none, .none] }) (s.heap.objs.size + 1) s.heap.objs.size 0 .none := by
    have := Heap.get?_push_size (s.heap.push o) (o := { cls := .type "enumerate", data := .fields #[.none, .bool false, .ref s.heap.objs.size, rawInt 0, .none, .none] }) rfl
    rw [hz] at this; exact this
  refine ⟨⟨_, he, rfl⟩, h _ he (Heap.get?_push_of_some _ (Heap.get?_push_size _ B.free)) (by rw [Heap.size_push, hz]) fun b o x => Heap.get?_push_of_some _ (Heap.get?_push_of_some _ x)⟩
/-- enumerate(e) of a list, a tuple, a text -/
def iEn (K : PySem.W.Frag) (ta : TA) : TI := fun σ H R => ta σ H fun vs H1 => ∃ c xs, vs = [Src.v c] ∧ c.has K H1 xs ∧ R (ItE K c 0) H1
theorem pi_en {X : Cx} {e : Expr} {ta : TA} {p pos tpos : Pos} {elts : List Expr} {kk : Nat} (hg : Gl X "enumerate") (hm : X.mg "enumerate" = none) (ha : PA X [e] ta) (hs : starEach [e] X.env = [(false, eval e X.env)] := by rfl) :
    PI X (.Tuple elts kk tpos) (.Call (.Name "enumerate" p) [e] [] pos) (iEn X.K ta) := by
  refine ⟨fun pins s σ H R I h => ?_⟩
  refine Call_ (ld_blt I hg hm boot_enumerate (PyProof.Rows.callWith_type1 (thn (ha.run pos pins s σ H _ I h) fun us s1 ⟨vs, H1, I1, r1, q1⟩ => ?_) hs rfl))
  obtain ⟨c, xs, ex, hq, q⟩ := q1
  subst ex
  cases r1 with
  | cons r rr =>
    cases rr
    obtain ⟨o, Hh, B, hB, hI⟩ := begins_of I1 hq r
    refine enum_begins1 B hB fun h' he hit hsz hk => wpAny_pyIter_enum he ?_
    have I2 : Inv X pins σ H1 { s1 with heap := h' } := I1.kept (t' := s1.toks) hk
    refine ⟨s1.heap.objs.size + 1, [s1.heap.objs.size + 1, s1.heap.objs.size], _, _, H1, rfl, I2, turn_en c 0 (s1.heap.objs.size + 1) s1.heap.objs.size, ⟨⟨.none, by simpa using he⟩, hI _ _ (Nat.le_refl _) hit, Nat.succ_ne_self _⟩, fun b hb => ?_, q⟩
    have e' : b = s1.heap.objs.size + 1 ∨ b = s1.heap.objs.size := by simpa using hb
    have hle : s1.heap.objs.size ≤ b := by
      rcases e' with z | z
      · rw [z]; exact Nat.le_add_right _ _
      · rw [z]; exact Nat.le_refl _
    exact I1.fpOk hle (I1.hok.fresh hle)
/-- enumerate(e, k) -/
def iEn2 (K : PySem.W.Frag) (ta : TA) : TI := fun σ H R => ta σ H fun vs H1 => ∃ c xs k, vs = [Src.v c, .int k] ∧ c.has K H1 xs ∧ -(2 ^ 63) ≤ k ∧ k < 2 ^ 63 ∧ R (ItE K c k) H1
theorem pi_en2 {X : Cx} {e e2 : Expr} {ta : TA} {p pos tpos : Pos} {elts : List Expr} {kk : Nat} (hg : Gl X "enumerate") (hm : X.mg "enumerate" = none) (ha : PA X [e, e2] ta)
    (hs : starEach [e, e2] X.env = (false, eval e X.env) :: starEach [e2] X.env := by rfl) (hpl : (backTo pos (starEach [e2] X.env)).any (·.1) = false := by rfl) :
    PI X (.Tuple elts kk tpos) (.Call (.Name "enumerate" p) [e, e2] [] pos) (iEn2 X.K ta) := by
  refine ⟨fun pins s σ H R I h => ?_⟩
  refine Call_ (ld_blt I hg hm boot_enumerate (PyProof.Rows.callWith_type1 (thn (ha.run pos pins s σ H _ I h) fun us s1 ⟨vs, H1, I1, r1, q1⟩ => ?_) hs hpl))
  obtain ⟨c, xs, k, ex, hq, k0, k1, q⟩ := q1
  subst ex
  cases r1 with
  | cons r rr =>
    cases rr with
    | cons r' rr =>
      cases rr
      obtain ⟨tk, rfl⟩ := r'
      obtain ⟨o, Hh, B, hB, hI⟩ := begins_of I1 hq r
      refine enum_begins B hB k0 k1 fun h' he hit hsz hk => wpAny_pyIter_enum he ?_
      have I2 : Inv X pins σ H1 { s1 with heap := h' } := I1.kept (t' := s1.toks) hk
      refine ⟨s1.heap.objs.size + 1, [s1.heap.objs.size + 1, s1.heap.objs.size], _, _, H1, rfl, I2, turn_en c k (s1.heap.objs.size + 1) s1.heap.objs.size, ⟨⟨.none, by simpa using he⟩, hI _ _ (Nat.le_refl _) hit, Nat.succ_ne_self _⟩, fun b hb => ?_, q⟩
      have e' : b = s1.heap.objs.size + 1 ∨ b = s1.heap.objs.size := by simpa using hb
      have hle : s1.heap.objs.size ≤ b := by
        rcases e' with z | z
        · rw [z]; exact Nat.le_add_right _ _
        · rw [z]; exact Nat.le_refl _
      exact I1.fpOk hle (I1.hok.fresh hle)
/-- zip(e, e2) of lists, tuples, texts -/
def iZp (K : PySem.W.Frag) (ta : TA) : TI := fun σ H R => ta σ H fun vs H1 => ∃ c d xs ys, vs = [Src.v c, Src.v d] ∧ c.has K H1 xs ∧ d.has K H1 ys ∧ R (ItZ K c d) H1
theorem zne (n : Nat) : ZipNe (n + 4) (n + 2) (n + 3) n (n + 1) := by
  refine ⟨?_, ?_, ?_, ?_, ?_, ?_, ?_, ?_, ?_, ?_⟩ <;> (intro h; have h' : (_ : Nat) = _ := h; omega)
theorem pi_zp {X : Cx} {e e2 : Expr} {ta : TA} {p pos tpos : Pos} {elts : List Expr} {kk : Nat} (hg : Gl X "zip") (hm : X.mg "zip" = none) (ha : PA X [e, e2] ta)
    (hs : starEach [e, e2] X.env = (false, eval e X.env) :: starEach [e2] X.env := by rfl) (hpl : (backTo pos (starEach [e2] X.env)).any (·.1) = false := by rfl) :
    PI X (.Tuple elts kk tpos) (.Call (.Name "zip" p) [e, e2] [] pos) (iZp X.K ta) := by
  refine ⟨fun pins s σ H R I h => ?_⟩
  refine Call_ (ld_blt I hg hm PyProof.Rows.boot_zip (PyProof.Rows.callWith_type1 (thn (ha.run pos pins s σ H _ I h) fun us s1 ⟨vs, H1, I1, r1, q1⟩ => ?_) hs hpl))
  obtain ⟨c, d, xs, ys, ex, hq, hq', q⟩ := q1
  subst ex
  cases r1 with
  | cons r rr =>
    cases rr with
    | cons r' rr =>
      cases rr
      obtain ⟨o, Hh, B, hB, hI⟩ := begins_of I1 hq r
      obtain ⟨o', Hh', B', hB', hI'⟩ := begins_of I1 hq' r'
      refine zip_begins2 B B' hB hB' fun h' hz hTI hTO h1 h2 hsz hk => wpAny_pyIter_zip hz ?_
      have I2 : Inv X pins σ H1 { s1 with heap := h' } := I1.kept (t' := s1.toks) hk
      refine ⟨s1.heap.objs.size + 4, [s1.heap.objs.size + 4, s1.heap.objs.size + 2, s1.heap.objs.size + 3, s1.heap.objs.size, s1.heap.objs.size + 1], _, _, H1, rfl, I2, turn_zp c d (zne s1.heap.objs.size), ⟨hz, hTI, ⟨_, _, hTO⟩, hI _ _ (Nat.le_refl _) h1, hI' _ _ (Nat.le_add_right _ _) h2⟩, fun c hcm => ?_, q⟩
      have hle : s1.heap.objs.size ≤ c := by
        rcases mem5 hcm with z | z | z | z | z
        · rw [z]; exact Nat.le_add_right _ _
        · rw [z]; exact Nat.le_add_right _ _
        · rw [z]; exact Nat.le_add_right _ _
        · rw [z]; exact Nat.le_refl _
        · rw [z]; exact Nat.le_add_right _ _
      exact I1.fpOk hle (I1.hok.fresh hle)
/-! walks -/
theorem walk_en {K : PySem.W.Frag} {c : Src} {k0 : Int} {xs : List V} : Walk (ItE K c k0) xs.length (fun H => c.has K H xs) (YPair (fun i => some (.int (k0 + (i : Nat)))) (fun i => xs[i]?)) := by
  refine ⟨fun i _ hi q => ⟨xs, xs[i], q, by simp [hi]⟩, fun _ q => ⟨xs, q, rfl⟩, fun i H v H' _ q y => ?_⟩
  obtain ⟨T, x, h1, h2, h3, h4⟩ := y
  exact ⟨T, _, x, h1, h2, h3, rfl, h4 xs q⟩
theorem walk_zp {K : PySem.W.Frag} {c d : Src} {xs ys : List V} : Walk (ItZ K c d) (min xs.length ys.length) (fun H => c.has K H xs ∧ d.has K H ys) (YPair (fun i => xs[i]?) (fun i => ys[i]?)) := by
  refine ⟨fun i _ hi q => ?_, fun _ q => ⟨xs, ys, q.1, q.2, rfl⟩, fun i H v H' _ q y => ?_⟩
  · have h1 : i < xs.length := by omega
    have h2 : i < ys.length := by omega
    exact ⟨xs, ys, xs[i], ys[i], q.1, q.2, by simp [h1], by simp [h2]⟩
  · obtain ⟨T, x, z, h1, h2, h3, h6, h7⟩ := y
    exact ⟨T, x, z, h1, h2, h3, h6 xs q.1, h7 ys q.2⟩
end Tr
set_option Elab.async false
set_option linter.all false
set_option maxRecDepth 100000
set_option maxHeartbeats 4000000
/-! what is wanted of an expression, a test, arguments, a block, in the model's own words; the rules of the layer said over these -/
namespace Tr
open PySem PySem.Spec PyProof.Rows L2
/-- a def of the text that may be called by its name (no defaults) -/
structure Fc (P : Program) (w : World) (K : PySem.W.Frag) (mg : Str → Option Value) (base : Heap) (k : Nat) (x : Str) (sp : Sp) : Prop where
  ex : ∃ (f : Addr) (fd : FuncData) (ps : List Str), FnOk P w K mg base CX0 k f fd ps sp ∧ mg x = some (.ref f) ∧ PySem.W.keepIn K (.ref f) = true ∧ Binds K fd ps []
/-- a method of the class at C -/
structure Mc (P : Program) (w : World) (K : PySem.W.Frag) (mg : Str → Option Value) (base : Heap) (k : Nat) (C : Addr) (m : Str) (sp : Sp) : Prop where
  ex : ∃ (f : Addr) (fd : FuncData) (ps : List Str), Cls K C ∧ Meth K C m f ∧ FnOk P w K mg base CX0 k f fd ps sp ∧ Binds K fd ps []
/-- a class that is made by its name; sp: of its __init__ -/
structure Kc (P : Program) (w : World) (K : PySem.W.Frag) (mg : Str → Option Value) (base : Heap) (k : Nat) (x : Str) (C : Addr) (sp : Sp) : Prop where
  ex : ∃ (f : Addr) (fd : FuncData) (ps : List Str), Mk K C f ∧ FnOk P w K mg base CX0 k f fd ps sp ∧ mg x = some (.ref C) ∧ Binds K fd ps []
def WE (X : Cx) (e : Expr) : TE := fun σ H Q => ∀ (pins : List (Addr × Obj)) (s : Shared), Inv X pins σ H s → wpAny (model X.prog X.w) X.A (eval e X.env) (EP X pins σ Q) X.xe s
def WT (X : Cx) (e : Expr) : TT := fun σ H Q => ∀ (pins : List (Addr × Obj)) (s : Shared), Inv X pins σ H s → wpAny (model X.prog X.w) X.A (isTrue e X.env (eval e X.env)) (TP X pins σ Q) X.xe s
def WW (X : Cx) (e : Expr) : TT := fun σ H Q => ∀ (wh : Sem Value) (pins : List (Addr × Obj)) (s : Shared), Inv X pins σ H s → wpAny (model X.prog X.w) X.A (isTrue e X.env wh) (TP X pins σ Q) X.xe s
def WA (X : Cx) (es : List Expr) : TA := fun σ H Q => ∀ (pos : Pos) (pins : List (Addr × Obj)) (s : Shared), Inv X pins σ H s → wpAny (model X.prog X.w) X.A (spliced (backTo pos (starEach es X.env))) (AP X pins σ Q) X.xe s
def WS (X : Cx) (sts : List Stmt) : TS := fun D σ H => ∀ (pins : List (Addr × Obj)) (s : Shared), Inv X pins σ H s → wpAny (model X.prog X.w) X.A (execs sts X.env) (SP X pins D) X.xe s
def WI (X : Cx) (tg iter : Expr) : TI := fun σ H R => ∀ (pins : List (Addr × Obj)) (s : Shared), Inv X pins σ H s → wpAny (model X.prog X.w) X.A (eval iter X.env) (fun v s1 => wpAny (model X.prog X.w) X.A (pyIter v) (PIE X pins σ tg R) X.xe s1) X.xe s
section
variable {X : Cx} {e a b c o tg iter : Expr} {es rest : List Expr} {sts p q more : List Stmt} {st : Stmt} {σ : St} {H : Hp} {Q Q' : VK} {B B' : Bool → Hp → Prop} {D : Ends} {t ta tb : TE} {tt : TT} {tas : TA} {ts : TS} {ti : TI} {pos : Pos}
theorem peW : PE X e (WE X e) := ⟨fun pins s _ _ _ I h => h pins s I⟩
theorem ptW : PT X e (WT X e) := ⟨fun pins s _ _ _ I h => h pins s I⟩
theorem pwW : PW X e (WW X e) := ⟨fun wh pins s _ _ _ I h => h wh pins s I⟩
theorem paW : PA X es (WA X es) := ⟨fun pos pins s _ _ _ I h => h pos pins s I⟩
theorem pssW : PSs X sts (WS X sts) := ⟨fun pins s _ _ _ I h => h pins s I⟩
theorem piW : PI X tg iter (WI X tg iter) := ⟨fun pins s _ _ _ I h => h pins s I⟩
theorem we (r : PE X e t) (h : t σ H Q) : WE X e σ H Q := fun pins s I => r.run pins s σ H Q I h
theorem wt (r : PT X e tt) (h : tt σ H B) : WT X e σ H B := fun pins s I => r.run pins s σ H B I h
theorem ww (r : PW X e tt) (h : tt σ H B) : WW X e σ H B := fun wh pins s I => r.run wh pins s σ H B I h
theorem wa {B : List V → Hp → Prop} (r : PA X es tas) (h : tas σ H B) : WA X es σ H B := fun pos pins s I => r.run pos pins s σ H B I h
theorem ws (r : PSs X sts ts) (h : ts D σ H) : WS X sts D σ H := fun pins s I => r.run pins s σ H D I h
theorem wi {R : It → Hp → Prop} (r : PI X tg iter ti) (h : ti σ H R) : WI X tg iter σ H R := fun pins s I => r.run pins s σ H R I h
theorem WE.mono (h : WE X e σ H Q) (m : ∀ v H', Q v H' → Q' v H') : WE X e σ H Q' := fun pins s I => thn (h pins s I) fun u s1 ⟨v, H', I', r, q⟩ => ⟨v, H', I', r, m v H' q⟩
theorem WT.mono (h : WT X e σ H B) (m : ∀ v H', B v H' → B' v H') : WT X e σ H B' := fun pins s I => thn (h pins s I) fun u s1 ⟨H', I', q⟩ => ⟨H', I', m u H' q⟩
/-! blocks -/
theorem ws_nil (h : D.nx σ H) : WS X [] D σ H := ws pss_nil h
theorem ws_cons (r : PS X st ts) (h : ts { D with nx := WS X sts D } σ H) : WS X (st :: sts) D σ H := ws (pss_cons r pssW) h
theorem ws_ret (h : WE X e σ H D.rt) : WS X (.Return (some e) pos :: sts) D σ H := ws_cons (ps_ret peW) h
theorem ws_expr (h : WE X e σ H fun _ H' => WS X sts D σ H') (hs : swapsWith e none pos.line X.env = pure false := by rfl) : WS X (.Expr e pos :: sts) D σ H := ws_cons (ps_expr peW hs) h
theorem ws_set {i : Nat} {x : Str} {pos' : Pos} (hN : X.N.Nodup) (h : WE X e σ H fun v H' => WS X sts D (σ.set i (some v)) H') (hi : X.N[i]? = some x := by rfl) (hx : Loc X.env.scope x := by first | exact Or.inl rfl | exact Or.inr rfl)
    (hs : swapsWith e (some (.Name x pos')) pos.line X.env = pure false := by rfl) (hf : X.fn x = true ∨ X.env.scope.names.lookup x = some .local := by first | exact .inl rfl | exact .inr rfl) : WS X (.Assign [.Name x pos'] e pos :: sts) D σ H := ws_cons (ps_set (i := i) hN hi hx peW hs hf) h
theorem ws_if (h : WT X c σ H fun b H' => if b = true then WS X p { D with nx := WS X sts D } σ H' else WS X q { D with nx := WS X sts D } σ H') : WS X (.If c p q pos :: sts) D σ H := ws_cons (ps_if ptW pssW pssW) h
theorem ws_asg {g : TG} (r : PG X tg g) (h : WE X e σ H fun v H' => g v σ H' fun σ' H2 => WS X sts D σ' H2)
    (hs : swapsWithSole [tg] e pos.line X.env = pure false := by rfl) (hw : swappedStores [tg] e X.env = pure none := by rfl) (h1 : (assignEach [tg] X.env).map (·.2) = [assign tg X.env] := by rfl) : WS X (.Assign [tg] e pos :: sts) D σ H := ws_cons (ps_asg peW r hs hw h1) h
theorem ws_for {g : TG} (r : PG X tg g) (hc : X.calm = true) (h : tFor (WI X tg iter) g (WS X p) { D with nx := WS X sts D } σ H) (hp : PassesOwn (model X.prog X.w) X.A X.env X.xe := by exact PassesOwn.never) (hs : ∀ x, foldedSetIterable iter X.env x = pure x := by intro _; rfl) : WS X (.For tg iter p [] pos :: sts) D σ H := ws_cons (ps_for hp hc piW r pssW hs) h
theorem ws_while (h : tWhile (WT X c) (WS X p) { D with nx := WS X sts D } σ H) (hp : PassesOwn (model X.prog X.w) X.A X.env X.xe := by exact PassesOwn.never) : WS X (.While c p [] pos :: sts) D σ H := ws_cons (ps_while hp ptW pssW) h
/-- a statement that is not reached -/
theorem ws_no (h : False) : WS X sts D σ H := h.elim
/-! expressions -/
theorem w_v (i : Nat) {x : Str} {v : V} (h : σ[i]? = some (some v)) (k : Q v H) (hN : X.N[i]? = some x := by rfl) (hv : Vis X.env.scope x := by first | exact Or.inl rfl | exact Or.inr (Or.inl rfl) | exact Or.inr (Or.inr rfl)) (hd : (x == ("__debug__" : Str)) = false := by decide)
    (hcd : (x == ("__classdict__" : Str)) = false := by decide) : WE X (.Name x pos) σ H Q := we (pv i hN hv hd hcd) ⟨v, h, k⟩
theorem w_int {i : Int} {j : Nat} (k : Q (.int i) H) : WE X (.Constant (.int i) j pos) σ H Q := we pe_int k
theorem w_str {x : Str} {j : Nat} (k : Q (.str x) H) : WE X (.Constant (.str x) j pos) σ H Q := we pe_str k
theorem w_bl {x : Bool} {j : Nat} (k : Q (.bl x) H) : WE X (.Constant (.bool x) j pos) σ H Q := we pe_bl k
theorem w_non {j : Nat} (k : Q .non H) : WE X (.Constant .none j pos) σ H Q := we pe_non k
theorem w_op {op : Operator} {r : R2} (ho : OpR X (binaryOp op) r) (h : WE X a σ H fun x H1 => WE X b σ H1 fun y H2 => r x y H2 Q) : WE X (.BinOp a op b pos) σ H Q := we (pe_op ho peW peW) h
theorem w_cmp {op : CmpOp} {r : R2} (ho : OpR X (compareOp op) r) (h : WE X a σ H fun x H1 => WE X b σ H1 fun y H2 => r x y H2 Q) (hm : behindInMarks op b = false := by first | exact nomark _ | rfl) : WE X (.Compare a [op] [b] pos) σ H Q := we (pe_cmpR ho peW peW hm) h
theorem t_cmp {op : CmpOp} {r : R2} (ho : OpR X (compareOp op) r) (h : WE X a σ H fun x H1 => WE X b σ H1 fun y H2 => r x y H2 fun z H3 => ∃ k, z = .bl k ∧ B k H3) (hm : behindInMarks op b = false := by first | exact nomark _ | rfl) : WT X (.Compare a [op] [b] pos) σ H B := wt (pt_cmpR ho peW peW hm) h
theorem t_val (h : WE X e σ H fun x H1 => ∃ k, x = .bl k ∧ B k H1) (he : ∀ whole, isTrue e X.env whole = (do let v ← whole; standAt e.pos; holding [v] (truthy v)) := by intro _; rfl) : WT X e σ H B := wt (pt_val peW he) h
theorem t_not (h : WT X a σ H fun k H1 => B (!k) H1) : WT X (.UnaryOp .Not a pos) σ H B := wt (pt_not ptW) h
theorem w_not (h : WE X a σ H fun x H1 => ∃ c, x = .bl c ∧ Q (.bl (!c)) H1) : WE X (.UnaryOp .Not a pos) σ H Q := we (pe_not peW) h
theorem w_ifx (h : WT X c σ H fun k H1 => if k = true then WE X a σ H1 Q else WE X b σ H1 Q) : WE X (.IfExp c a b pos) σ H Q := we (pe_ifExp ptW peW peW) h
theorem w_ix {r : R2} (hr : IxR X r) (h : WE X a σ H fun x H1 => WE X b σ H1 fun y H2 => r x y H2 Q) (hs : PlainIx b := by exact fun _ _ => rfl) : WE X (.Subscript a b pos) σ H Q := we (pe_ix hr peW peW hs) h
theorem w_tup {k : Nat} (h : WA X es σ H fun xs H1 => xs.length ≤ sizeLine ∧ ∀ p, H1 p = none → Q (.ref p) (upd H1 p (.tup xs))) : WE X (.Tuple es k pos) σ H Q := we (pe_tup paW) h
theorem w_lst (h : WA X es σ H fun xs H1 => xs.length ≤ sizeLine ∧ ∀ p, H1 p = none → Q (.ref p) (upd H1 p (.lst xs))) : WE X (.List es pos) σ H Q := we (pe_lst paW) h
theorem w_fld {f : Str} (h : tFld X.K (WE X e) f σ H Q) (hb : attributeBase e f X.env (eval e X.env) = eval e X.env := by rfl) : WE X (.Attribute e f pos) σ H Q := we (pe_fld peW hb) h
theorem wa_nil {B : List V → Hp → Prop} (h : B [] H) : WA X [] σ H B := wa pa_nil h
theorem wa_cons {B : List V → Hp → Prop} (h : WE X e σ H fun x H1 => WA X es σ H1 fun xs H2 => B (x :: xs) H2) (hs : starEach (e :: es) X.env = (false, eval e X.env) :: starEach es X.env := by rfl) : WA X (e :: es) σ H B := wa (pa_cons peW paW hs) h
theorem w_callB {id : String} {x : Str} {ps : Pos} {r : List V → Hp → VK → Prop} (hc : CallR X (.builtin id) r) (hm : X.mg x = none) (hv : bootBuiltins x = some (.builtin id)) (h : WA X (e :: es) σ H fun vs H1 => r vs H1 Q) (hg : Gl X x := by rfl)
    (hdb : (x == ("__debug__" : Str)) = false := by decide) (hn : x ≠ "__name__" := by decide) (he : starEach (e :: es) X.env = (false, eval e X.env) :: starEach es X.env := by rfl) (hpl : (backTo pos (starEach es X.env)).any (·.1) = false := by rfl) :
    WE X (.Call (.Name x ps) (e :: es) [] pos) σ H Q := we (pe_callB hc hg hm hv paW hn hdb he hpl) h
theorem w_callT {T : String} {x : Str} {ps : Pos} {r : List V → Hp → VK → Prop} (hc : CallR X (.type T) r) (hm : X.mg x = none) (hv : bootBuiltins x = some (.type T)) (h : WA X (e :: es) σ H fun vs H1 => r vs H1 Q) (hg : Gl X x := by rfl)
    (hdb : (x == ("__debug__" : Str)) = false := by decide) (hn : x ≠ "__name__" := by decide) (he : starEach (e :: es) X.env = (false, eval e X.env) :: starEach es X.env := by rfl) (hpl : (backTo pos (starEach es X.env)).any (·.1) = false := by rfl) :
    WE X (.Call (.Name x ps) (e :: es) [] pos) σ H Q := we (pe_callTy hc hg hm hv paW hn hdb he hpl) h
/-- a def of the text, by its name -/
theorem w_c {k j : Nat} {x : Str} {sp : Sp} {ps : Pos} (c : Fc X.prog X.w X.K X.mg X.base k x sp) (hr : Room j X.A) (hk : k ≤ j) (h : WA X (e :: es) σ H fun vs H1 => sp vs H1 Q E0) (hg : Gl X x := by rfl)
    (hdb : (x == ("__debug__" : Str)) = false := by decide) (he : starEach (e :: es) X.env = (false, eval e X.env) :: starEach es X.env := by rfl) (hpl : (backTo pos (starEach es X.env)).any (·.1) = false := by rfl) :
    WE X (.Call (.Name x ps) (e :: es) [] pos) σ H Q := by
  obtain ⟨f, fd, ps, F, hm, kp, b⟩ := c.ex
  refine we (pe_call F (hr.mono hk) hg hm kp b .nil pass0 paW hdb he hpl) (fun pos' pins s I => thn (h pos' pins s I) fun us s1 ⟨vs, H', I', r, q⟩ => ⟨vs, H', I', r, by simpa only [List.append_nil] using q⟩)
theorem w_mk {k j : Nat} {C : Addr} {x : Str} {sp : Sp} {ps : Pos} (c : Kc X.prog X.w X.K X.mg X.base k x C sp) (hr : Room j X.A) (hk : k + 1 ≤ j)
    (h : WA X (e :: es) σ H fun vs H1 => ∀ x dx, H1 x = none → H1 dx = none → dx ≠ x → sp (.ref x :: vs) (upd (upd H1 dx (.own x)) x (.ins C dx [])) (fun v H2 => v = .non ∧ Q (.ref x) H2) E0) (hg : Gl X x := by rfl)
    (hdb : (x == ("__debug__" : Str)) = false := by decide) (he : starEach (e :: es) X.env = (false, eval e X.env) :: starEach es X.env := by rfl) (hpl : (backTo pos (starEach es X.env)).any (·.1) = false := by rfl) :
    WE X (.Call (.Name x ps) (e :: es) [] pos) σ H Q := by
  obtain ⟨f, fd, ps, M, F, hm, b⟩ := c.ex
  refine we (pe_make M F (hr.mono hk) hg hm b .nil pass0 paW hdb he hpl) (fun pos' pins s I => thn (h pos' pins s I) fun us s1 ⟨vs, H', I', r, q⟩ => ⟨vs, H', I', r, by simpa only [List.append_nil] using q⟩)
theorem w_mt {k j : Nat} {C : Addr} {m : Str} {sp : Sp} {apos : Pos} {pl : Sem Bool} (c : Mc X.prog X.w X.K X.mg X.base k C m sp) (hr : Room j X.A) (hk : k ≤ j)
    (h : WE X o σ H fun x H1 => ∃ a dx fs, x = .ref a ∧ H1 a = some (.ins C dx fs) ∧ fs.lookup m = none ∧ WA X (e :: es) σ H1 fun vs H2 => sp (.ref a :: vs) H2 Q E0)
    (hst : starEach (e :: es) X.env = (false, eval e X.env) :: starEach es X.env := by rfl) (hpl : (backTo pos (starEach es X.env)).any (·.1) = false := by rfl)
    (ht : eval (.Call (.Attribute o m apos) (e :: es) [] pos) X.env = (do
      let ov ← eval o X.env
      standAt apos.atName
      let (f, first) ← holding [ov] (getMethod ov m pl)
      callWith pos f first (backTo pos (starEach (e :: es) X.env)) (backToKw pos (keywordEach [] X.env))) := by rfl) :
    WE X (.Call (.Attribute o m apos) (e :: es) [] pos) σ H Q := by
  obtain ⟨f, fd, ps, cl, me, F, b⟩ := c.ex
  refine we (pe_meth peW cl me F (hr.mono hk) b .nil pass0 paW hst hpl ht) (h.mono fun x H1 ⟨a, dx, fs, h1, h2, h3, h4⟩ => ⟨a, dx, fs, h1, h2, h3, fun pos' pins s I => thn (h4 pos' pins s I) fun us s1 ⟨vs, H', I', r, q⟩ => ⟨vs, H', I', r, by subst h1; simpa only [List.append_nil] using q⟩⟩)
theorem w_mt0 {k j : Nat} {C : Addr} {m : Str} {sp : Sp} {apos : Pos} {pl : Sem Bool} (c : Mc X.prog X.w X.K X.mg X.base k C m sp) (hr : Room j X.A) (hk : k ≤ j)
    (h : WE X o σ H fun x H1 => ∃ a dx fs, x = .ref a ∧ H1 a = some (.ins C dx fs) ∧ fs.lookup m = none ∧ sp [.ref a] H1 Q E0)
    (ht : eval (.Call (.Attribute o m apos) [] [] pos) X.env = (do
      let ov ← eval o X.env
      standAt apos.atName
      let (f, first) ← holding [ov] (getMethod ov m pl)
      callWith pos f first (backTo pos (starEach [] X.env)) (backToKw pos (keywordEach [] X.env))) := by rfl) :
    WE X (.Call (.Attribute o m apos) [] [] pos) σ H Q := by
  obtain ⟨f, fd, ps, cl, me, F, b⟩ := c.ex
  exact we (pe_meth0 peW cl me F (hr.mono hk) b .nil pass0 ht) (h.mono fun x H1 ⟨a, dx, fs, h1, h2, h3, h4⟩ => ⟨a, dx, fs, h1, h2, h3, by subst h1; exact h4⟩)
/-- a method of a built-in type -/
theorem w_bm {T id : String} {name : Str} {r : V → List V → Hp → VK → Prop} {apos : Pos} (pa : PlainAttrs T) (slot : Slot T name id) (hty : typeOf (.builtin id) = pure (.type "method_descriptor")) (hm : MtR X id r)
    (h : WE X o σ H fun x H1 => tyV X.K T x H1 ∧ WA X (e :: es) σ H1 fun xs H2 => r x xs H2 Q)
    (hbase : attributeBase o name X.env (eval o X.env) = eval o X.env := by rfl)
    (hfew : ((backTo pos (starEach (e :: es) X.env)).all (fun x => !x.1) && (backToKw pos (keywordEach [] X.env)).all (fun x => x.1.isSome)
      && decide ((e :: es).length + ([] : List Keyword).length + (if ([] : List Keyword).isEmpty then 0 else 1) < 30)) = true := by rfl)
    (hline : (apos.endLine == pos.line) = true := by rfl) (hs : starEach (e :: es) X.env = (false, eval e X.env) :: starEach es X.env := by rfl) (hplain : (backTo pos (starEach es X.env)).any (·.1) = false := by rfl) :
    WE X (.Call (.Attribute o name apos) (e :: es) [] pos) σ H Q := we (pe_bm pa slot hty hm peW paW hbase hfew hline hs hplain) h
theorem w_bm0 {T id : String} {name : Str} {r : V → List V → Hp → VK → Prop} {apos : Pos} (pa : PlainAttrs T) (slot : Slot T name id) (hty : typeOf (.builtin id) = pure (.type "method_descriptor")) (hm : MtR X id r)
    (h : WE X o σ H fun x H1 => tyV X.K T x H1 ∧ r x [] H1 Q)
    (hbase : attributeBase o name X.env (eval o X.env) = eval o X.env := by rfl) (hline : (apos.endLine == pos.line) = true := by rfl) :
    WE X (.Call (.Attribute o name apos) [] [] pos) σ H Q := we (pe_bm0 pa slot hty hm peW hbase hline) h
theorem w_dget2 {apos : Pos} (hu : X.A.units + 1 < cLine) (h : tDGet2 (WE X o) (WE X a) (WE X b) σ H Q) (m : M2 X o "get" apos a b pos := by exact ⟨rfl, rfl, rfl, rfl⟩) : WE X (.Call (.Attribute o "get" apos) [a, b] [] pos) σ H Q := we (pe_dget2 hu peW peW peW m) h
theorem w_dget {i : Expr} (hu : X.A.units + 1 < cLine) (h : tDGet (WE X o) (WE X i) σ H Q) (hs : NoSl i := by exact fun _ _ => rfl) : WE X (.Subscript o i pos) σ H Q := we (pe_dget hu peW peW hs) h
theorem w_and (h : WE X a σ H fun x H1 => ∃ c, x = .bl c ∧ if c = true then WE X (.BoolOp .And (b :: rest) pos) σ H1 Q else Q (.bl false) H1) : WE X (.BoolOp .And (a :: b :: rest) pos) σ H Q := we (pe_and peW peW) h
theorem w_or (h : WE X a σ H fun x H1 => ∃ c, x = .bl c ∧ if c = true then Q (.bl true) H1 else WE X (.BoolOp .Or (b :: rest) pos) σ H1 Q) : WE X (.BoolOp .Or (a :: b :: rest) pos) σ H Q := we (pe_or peW peW) h
theorem w_one {op : BoolOp} (h : WE X a σ H Q) : WE X (.BoolOp op [a] pos) σ H Q := we (pe_one peW) h
theorem w_glob {x : Str} {v : V} {u : Value} (hm : X.mg x = some u) (r : RelV v u) (k : Q v H) (hg : Gl X x := by rfl) (hd : (x == ("__debug__" : Str)) = false := by decide) : WE X (.Name x pos) σ H Q := we (pe_glob hg hm r hd) k
theorem w_blt {x : Str} {v : V} {u : Value} (hm : X.mg x = none) (hv : bootBuiltins x = some u) (r : RelV v u) (k : Q v H) (hg : Gl X x := by rfl) (hn : x ≠ "__name__" := by decide) (hd : (x == ("__debug__" : Str)) = false := by decide) : WE X (.Name x pos) σ H Q := we (pe_bltn hg hm hv r hn hd) k
theorem t_and (h : WT X a σ H fun k H1 => if k = true then WW X (.BoolOp .And (b :: rest) pos) σ H1 B else B false H1) : WW X (.BoolOp .And (a :: b :: rest) pos) σ H B := ww (pw_and ptW pwW) h
theorem t_or (h : WT X a σ H fun k H1 => if k = true then B true H1 else WW X (.BoolOp .Or (b :: rest) pos) σ H1 B) : WW X (.BoolOp .Or (a :: b :: rest) pos) σ H B := ww (pw_or ptW pwW) h
theorem t_and1 (h : WT X a σ H B) : WW X (.BoolOp .And [a] pos) σ H B := ww (pw_and1 ptW) h
theorem t_or1 (h : WT X a σ H B) : WW X (.BoolOp .Or [a] pos) σ H B := ww (pw_or1 ptW) h
theorem t_w (h : WW X e σ H B) : WT X e σ H B := wt (PW.pt pwW) h
theorem t_chain {op op' : CmpOp} {r r' : R2} (ho : OpR X (compareOp op) r) (ho' : OpR X (compareOp op') r') (h : tTest (tChain r r' (WE X a) (WE X b) (WE X c)) σ H B) (hm : lastMarks [op, op'] [b, c] = false := by with_unfolding_all rfl) : WT X (.Compare a [op, op'] [b, c] pos) σ H B := wt (pt_chain ho ho' peW peW peW hm) h
theorem w_chain {op op' : CmpOp} {r r' : R2} (ho : OpR X (compareOp op) r) (ho' : OpR X (compareOp op') r') (h : tChain r r' (WE X a) (WE X b) (WE X c) σ H Q) (hm : lastMarks [op, op'] [b, c] = false := by with_unfolding_all rfl) : WE X (.Compare a [op, op'] [b, c] pos) σ H Q := we (pe_chain ho ho' peW peW peW hm) h
theorem w_neg {i : Int} {j : Nat} {p1 : Pos} (k : Q (.int (-i)) H) : WE X (.UnaryOp .USub (.Constant (.int i) j p1) pos) σ H Q := we (pe_un un_neg peW) (w_int ⟨i, rfl, k⟩)
/-! slices -/
theorem w_sl {r : V → Option Int → Option Int → Hp → VK → Prop} {lo hi : Option Expr} {tl th : TO} {p2 : Pos} (hr : SlR X r) (hl : PO X lo tl) (hu : PO X hi th) (h : tSl r (WE X e) tl th σ H Q) : WE X (.Subscript e (.Slice lo hi none p2) pos) σ H Q := we (pe_slice hr peW hl hu) h
/-! stores -/
theorem ws_fld {f : Str} {pos' : Pos} (h : sFld X.K (WE X o) (WE X e) f { D with nx := WS X sts D } σ H) (hs : swapsWith e (some (.Attribute o f pos')) pos.line X.env = pure false := by rfl) : WS X (.Assign [.Attribute o f pos'] e pos :: sts) D σ H := ws_cons (ps_fld peW peW hs) h
theorem ws_dput {i : Expr} {pos' : Pos} (hu : X.A.units + 1 < cLine) (h : sDPut (WE X o) (WE X i) (WE X e) { D with nx := WS X sts D } σ H) (hs : swapsWith e (some (.Subscript o i pos')) pos.line X.env = pure false := by rfl) : WS X (.Assign [.Subscript o i pos'] e pos :: sts) D σ H := ws_cons (ps_dput hu peW peW peW hs) h
theorem ws_par {i j : Nat} {x y : Str} {px py pt pt2 : Pos} {kt k2 : Nat} (hc : X.calm = true) (hN : X.N.Nodup) (h : WA X [a, b] σ H fun vs H1 => ∃ v w, vs = [v, w] ∧ WS X sts D ((σ.set i (some v)).set j (some w)) H1) (hi : X.N[i]? = some x := by rfl) (hj : X.N[j]? = some y := by rfl) (hij : i ≠ j := by decide)
    (hx : X.env.scope.names.lookup x = some .local := by rfl) (hy : X.env.scope.names.lookup y = some .local := by rfl) (hw : swappedStores [.Tuple [.Name x px, .Name y py] kt pt] (.Tuple [a, b] k2 pt2) X.env = pure (some [x, y]) := by rfl)
    (hs : swapsWithSole [.Tuple [.Name x px, .Name y py] kt pt] (.Tuple [a, b] k2 pt2) pos.line X.env = pure false := by rfl) :
    WS X (.Assign [.Tuple [.Name x px, .Name y py] kt pt] (.Tuple [a, b] k2 pt2) pos :: sts) D σ H := ws_cons (ps_par hc hN hi hj hij hx hy paW hw hs) h
/-! comprehensions -/
/-- in a comprehension's block, whatever its frame -/
def BE (X : Cx) (sc : Scope) (e : Expr) : TE := fun σ H Q => ∀ (s : Shared) (H0 : Hp) (C : Addr) (cl : List (Str × Addr)) (fp : List Addr), WE (X.blk s H0 sc (compEnvC sc cl C X.env) fp) e σ H Q
def BT (X : Cx) (sc : Scope) (e : Expr) : TT := fun σ H B => ∀ (s : Shared) (H0 : Hp) (C : Addr) (cl : List (Str × Addr)) (fp : List Addr), WT (X.blk s H0 sc (compEnvC sc cl C X.env) fp) e σ H B
def BTs (X : Cx) (sc : Scope) : List Expr → TT
  | [] => tYes
  | [e] => BT X sc e
  | _ => fun _ _ _ => False
theorem btsW {sc : Scope} {ifs : List Expr} {s : Shared} {H0 : Hp} {C : Addr} {cl : List (Str × Addr)} {fp : List Addr} : PTs (X.blk s H0 sc (compEnvC sc cl C X.env) fp) ifs (BTs X sc ifs) := by
  match ifs with
  | [] => exact pts_nil
  | [e] => exact pts_one ⟨fun pins s' σ H Q I h => h s H0 C cl fp pins s' I⟩
  | _ :: _ :: _ => exact ⟨fun pins s' σ H Q I h => (show False from h).elim⟩
theorem w_lc {elt : Expr} {ifs : List Expr} {sc : Scope} {g : TG} (own : List (Str × Nat)) (hc : X.calm = true) (hN : X.N.Nodup) (ok : BlkOk X.N X.env.scope sc own)
    (hg : ∀ (s : Shared) (H : Hp) (C : Addr) (cl : List (Str × Addr)) (fp : List Addr), PG (X.blk s H sc (compEnvC sc cl C X.env) fp) tg g)
    (h : tLc (WI X tg iter) g (BTs X sc ifs) (BE X sc elt) (own.map (·.2)) σ H Q) (hs : ∀ x, foldedSetIterable iter X.env x = pure x := by intro _; rfl) :
    WE X (.ListComp elt [⟨tg, iter, ifs, 0⟩] sc pos) σ H Q :=
  we (pe_lc (own := own) hc hN piW ok hg (fun _ _ _ _ _ => btsW) (fun s H0 C cl fp => ⟨fun pins s' σ H Q I h => h s H0 C cl fp pins s' I⟩) hs) h
theorem ws_lc {elt : Expr} {ifs : List Expr} {sc : Scope} {g : TG} {i : Nat} {y : Str} {py pos2 : Pos} (own : List (Str × Nat)) (hc : X.calm = true) (hN : X.N.Nodup) (ok : BlkOk X.N X.env.scope sc own)
    (hg : ∀ (s : Shared) (H : Hp) (C : Addr) (cl : List (Str × Addr)) (fp : List Addr), PG (X.blk s H sc (compEnvC sc cl C X.env) fp) tg g)
    (hsw : swapsWith (.ListComp elt [⟨tg, iter, ifs, 0⟩] sc pos2) (some (.Name y py)) pos.line X.env = pure true)
    (h : tLc (WI X tg iter) g (BTs X sc ifs) (BE X sc elt) (own.map (·.2)) σ H fun v H' => WS X sts D (σ.set i (some v)) H') (hi : X.N[i]? = some y := by rfl) (hy : X.env.scope.names.lookup y = some .local := by rfl) (hs : ∀ x, foldedSetIterable iter X.env x = pure x := by intro _; rfl) :
    WS X (.Assign [.Name y py] (.ListComp elt [⟨tg, iter, ifs, 0⟩] sc pos2) pos :: sts) D σ H :=
  ws_cons (ps_setLc (own := own) hc hN hi hy hsw piW ok hg (fun _ _ _ _ _ => btsW) (fun s H0 C cl fp => ⟨fun pins s' σ H Q I h => h s H0 C cl fp pins s' I⟩) hs) h
end
end Tr
set_option Elab.async false
set_option linter.all false
set_option maxRecDepth 100000
set_option maxHeartbeats 4000000
/-! data that never change: numbers, texts, None, bools, tuples of these; what an expression comes to, as data -/
namespace Tr
open PySem PySem.Spec PyProof.Rows L2
/-- the tuples stand -/
def Tx (H H' : Hp) : Prop := ∀ a xs, H a = some (.tup xs) → H' a = some (.tup xs)
theorem Tx.refl (H : Hp) : Tx H H := fun _ _ h => h
theorem Tx.trans {H H1 H2 : Hp} (a : Tx H H1) (b : Tx H1 H2) : Tx H H2 := fun c o h => b c o (a c o h)
theorem tx_same {H H' : Hp} (s : Same H H') : Tx H H' := fun a _ h => s a _ h
theorem same_new {H : Hp} {p : Addr} {o : HO} (h : H p = none) : Same H (upd H p o) := fun b x e => by
  rw [upd_ne (ne_of_none e h)]
  exact e
/-- what is no tuple may change -/
theorem tx_mut {H H' : Hp} {p : Addr} {o : HO} (t : Tx H H') (h : ∀ xs, H p ≠ some (.tup xs)) : Tx H (upd H' p o) := fun a xs e => by
  rw [upd_ne (fun z => by subst z; exact h xs e)]
  exact t a xs e
theorem same_mut {H H' : Hp} {p : Addr} {o : HO} (t : Same H H') (h : H p = none) : Same H (upd H' p o) := fun a u e => by
  rw [upd_ne (ne_of_none e h)]
  exact t a u e
mutual
inductive Im (H : Hp) : V → PyData → Prop
  | non : Im H .non .none
  | bl (b : Bool) : Im H (.bl b) (.bool b)
  | int (i : Int) : Im H (.int i) (.int i)
  | str (x : Str) : Im H (.str x) (.str x)
  | tup {a : Addr} {xs : List V} {ds : List PyData} : H a = some (.tup xs) → ImAll H xs ds → Im H (.ref a) (.tuple ds)
inductive ImAll (H : Hp) : List V → List PyData → Prop
  | nil : ImAll H [] []
  | cons {v : V} {vs : List V} {d : PyData} {ds : List PyData} : Im H v d → ImAll H vs ds → ImAll H (v :: vs) (d :: ds)
end
mutual
theorem Im.mono {H H' : Hp} (t : Tx H H') : ∀ {v : V} {d : PyData}, Im H v d → Im H' v d
  | _, _, .non => .non
  | _, _, .bl b => .bl b
  | _, _, .int i => .int i
  | _, _, .str x => .str x
  | _, _, .tup h hs => .tup (t _ _ h) (ImAll.mono t hs)
theorem ImAll.mono {H H' : Hp} (t : Tx H H') : ∀ {vs : List V} {ds : List PyData}, ImAll H vs ds → ImAll H' vs ds
  | _, _, .nil => .nil
  | _, _, .cons h hs => .cons (h.mono t) (ImAll.mono t hs)
end
mutual
theorem Im.dp {K : PySem.W.Frag} {H : Hp} : ∀ {v : V} {d : PyData}, Im H v d → Dp K H v d
  | _, _, .non => .non
  | _, _, .bl b => .bl b
  | _, _, .int i => .int i
  | _, _, .str x => .str x
  | _, _, .tup h hs => .tup (SqT.of h) (ImAll.dp hs)
theorem ImAll.dp {K : PySem.W.Frag} {H : Hp} : ∀ {vs : List V} {ds : List PyData}, ImAll H vs ds → DpAll K H vs ds
  | _, _, .nil => .nil
  | _, _, .cons h hs => .cons (h.dp) (ImAll.dp hs)
end
theorem ImAll.length {H : Hp} : ∀ {vs : List V} {ds : List PyData}, ImAll H vs ds → vs.length = ds.length
  | _, _, .nil => rfl
  | _, _, .cons _ hs => by rw [List.length_cons, List.length_cons, hs.length]
theorem ImAll.get {H : Hp} : ∀ {vs : List V} {ds : List PyData} {i : Nat} {d : PyData}, ImAll H vs ds → ds[i]? = some d → ∃ v, vs[i]? = some v ∧ Im H v d
  | _, _, _, _, .nil, e => by simp at e
  | _, _, 0, _, .cons h _, e => by simp at e; subst e; exact ⟨_, rfl, h⟩
  | _, _, i + 1, d, .cons _ hs, e => by
    obtain ⟨v, h1, h2⟩ := ImAll.get (i := i) (d := d) hs (by simpa using e)
    exact ⟨v, by simpa using h1, h2⟩
theorem ImAll.getV {H : Hp} : ∀ {vs : List V} {ds : List PyData} {i : Nat} {v : V}, ImAll H vs ds → vs[i]? = some v → ∃ d, ds[i]? = some d ∧ Im H v d
  | _, _, _, _, .nil, e => by simp at e
  | _, _, 0, _, .cons h _, e => by simp at e; subst e; exact ⟨_, rfl, h⟩
  | _, _, i + 1, d, .cons _ hs, e => by
    obtain ⟨v, h1, h2⟩ := ImAll.getV (i := i) (v := d) hs (by simpa using e)
    exact ⟨v, by simpa using h1, h2⟩
theorem ImAll.append {H : Hp} : ∀ {vs ws : List V} {ds es : List PyData}, ImAll H vs ds → ImAll H ws es → ImAll H (vs ++ ws) (ds ++ es)
  | _, _, _, _, .nil, s => s
  | _, _, _, _, .cons h t, s => .cons h (ImAll.append t s)
theorem ImAll.drop {H : Hp} : ∀ {vs : List V} {ds : List PyData} (n : Nat), ImAll H vs ds → ImAll H (vs.drop n) (ds.drop n)
  | _, _, 0, h => h
  | _, _, _ + 1, .nil => .nil
  | _, _, n + 1, .cons _ t => ImAll.drop n t
theorem ImAll.take {H : Hp} : ∀ {vs : List V} {ds : List PyData} (n : Nat), ImAll H vs ds → ImAll H (vs.take n) (ds.take n)
  | _, _, 0, _ => .nil
  | _, _, _ + 1, .nil => .nil
  | _, _, n + 1, .cons h t => .cons h (ImAll.take n t)
theorem im_int {H : Hp} {v : V} {i : Int} (h : Im H v (.int i)) : v = .int i := by cases h; rfl
theorem im_str {H : Hp} {v : V} {i : Str} (h : Im H v (.str i)) : v = .str i := by cases h; rfl
theorem im_bl {H : Hp} {v : V} {i : Bool} (h : Im H v (.bool i)) : v = .bl i := by cases h; rfl
theorem im_non {H : Hp} {v : V} (h : Im H v .none) : v = .non := by cases h; rfl
theorem im_tup {H : Hp} {v : V} {ds : List PyData} (h : Im H v (.tuple ds)) : ∃ a xs, v = .ref a ∧ H a = some (.tup xs) ∧ ImAll H xs ds := by cases h with | tup e hs => exact ⟨_, _, rfl, e, hs⟩
theorem ImAll.ints {H : Hp} (ns : List Int) : ImAll H (ns.map V.int) (ns.map PyData.int) := by
  induction ns with
  | nil => exact .nil
  | cons n r ih => exact .cons (.int n) ih
theorem ImAll.of_ints {H : Hp} : ∀ {vs : List V} {ns : List Int}, ImAll H vs (ns.map PyData.int) → vs = ns.map V.int
  | vs, [], h => by cases h; rfl
  | vs, n :: r, h => by
    cases h with
    | cons h1 h2 =>
      cases h1
      rw [ImAll.of_ints h2]
      rfl
/-- no data is a list or a dict here -/
theorem ImAll.none {H : Hp} {vs : List V} (h : ImAll H vs []) : vs = [] := by cases h; rfl

/-! ### what an expression comes to -/
def DV (X : Cx) (e : Expr) (σ : St) (H : Hp) (d : PyData) : Prop := ∀ H1, Tx H H1 → ∀ Q : VK, (∀ v H2, Same H1 H2 → Im H2 v d → Q v H2) → WE X e σ H1 Q
def TV (X : Cx) (e : Expr) (σ : St) (H : Hp) (b : Bool) : Prop := ∀ H1, Tx H H1 → ∀ B : Bool → Hp → Prop, (∀ H2, Same H1 H2 → B b H2) → WT X e σ H1 B
def TVW (X : Cx) (e : Expr) (σ : St) (H : Hp) (b : Bool) : Prop := ∀ H1, Tx H H1 → ∀ B : Bool → Hp → Prop, (∀ H2, Same H1 H2 → B b H2) → WW X e σ H1 B
def AV (X : Cx) (es : List Expr) (σ : St) (H : Hp) (ds : List PyData) : Prop := ∀ H1, Tx H H1 → ∀ B : List V → Hp → Prop, (∀ vs H2, Same H1 H2 → ImAll H2 vs ds → B vs H2) → WA X es σ H1 B
/-- a new list of such data -/
def LV (X : Cx) (e : Expr) (σ : St) (H : Hp) (ds : List PyData) : Prop := ∀ H1, Tx H H1 → ∀ Q : VK, (∀ p vs H2, H1 p = none → Same H1 H2 → H2 p = some (.lst vs) → ImAll H2 vs ds → Q (.ref p) H2) → WE X e σ H1 Q
/-- the promise of a def that changes nothing: from data to data -/
def spF (F : List PyData → Option PyData) : Sp := fun vs H Q _ => ∃ ds d, ImAll H vs ds ∧ F ds = some d ∧ ∀ v H', Same H H' → Im H' v d → Q v H'
/-- .. to a new list of data -/
def spL (F : List PyData → Option (List PyData)) : Sp := fun vs H Q _ => ∃ ds rs, ImAll H vs ds ∧ F ds = some rs ∧ ∀ p ws H', H p = none → Same H H' → H' p = some (.lst ws) → ImAll H' ws rs → Q (.ref p) H'
section
variable {X : Cx} {e a b c o : Expr} {es rest : List Expr} {sts p q : List Stmt} {σ : St} {H : Hp} {D : Ends} {pos : Pos} {d d1 d2 : PyData} {ds : List PyData} {k k1 k2 : Bool} {i j : Int} {x y : Str}
theorem DV.mono {H' : Hp} (h : DV X e σ H d) (t : Tx H H') : DV X e σ H' d := fun H1 t1 => h H1 (t.trans t1)
theorem TV.mono {H' : Hp} (h : TV X e σ H k) (t : Tx H H') : TV X e σ H' k := fun H1 t1 => h H1 (t.trans t1)
theorem DV.w {Q : VK} (h : DV X e σ H d) (q : ∀ v H', Same H H' → Im H' v d → Q v H') : WE X e σ H Q := h H (Tx.refl H) Q q
theorem TV.w {B : Bool → Hp → Prop} (h : TV X e σ H k) (q : ∀ H', Same H H' → B k H') : WT X e σ H B := h H (Tx.refl H) B q
theorem LV.w {Q : VK} (h : LV X e σ H ds) (q : ∀ p vs H', H p = none → Same H H' → H' p = some (.lst vs) → ImAll H' vs ds → Q (.ref p) H') : WE X e σ H Q := h H (Tx.refl H) Q q
theorem AV.w {B : List V → Hp → Prop} (h : AV X es σ H ds) (q : ∀ vs H', Same H H' → ImAll H' vs ds → B vs H') : WA X es σ H B := h H (Tx.refl H) B q
theorem DV.to (h : DV X e σ H d1) (q : d1 = d2) : DV X e σ H d2 := q ▸ h
theorem TV.to (h : TV X e σ H k1) (q : k1 = k2) : TV X e σ H k2 := q ▸ h
theorem dv_v (n : Nat) {v : V} (h : σ[n]? = some (some v)) (hd : Im H v d) (hN : X.N[n]? = some x := by rfl) (hv : Vis X.env.scope x := by first | exact Or.inl rfl | exact Or.inr (Or.inl rfl) | exact Or.inr (Or.inr rfl)) (hdb : (x == ("__debug__" : Str)) = false := by decide)
    (hcd : (x == ("__classdict__" : Str)) = false := by decide) : DV X (.Name x pos) σ H d := fun H1 t Q q => w_v n h (q v H1 (Same.refl _) (hd.mono t)) hN hv hdb hcd
theorem dv_int {m : Nat} : DV X (.Constant (.int i) m pos) σ H (.int i) := fun H1 _ Q q => w_int (q _ H1 (Same.refl _) (.int i))
theorem dv_neg {m : Nat} {p1 : Pos} : DV X (.UnaryOp .USub (.Constant (.int i) m p1) pos) σ H (.int (-i)) := fun H1 _ Q q => w_neg (q _ H1 (Same.refl _) (.int _))
theorem dv_str {m : Nat} : DV X (.Constant (.str x) m pos) σ H (.str x) := fun H1 _ Q q => w_str (q _ H1 (Same.refl _) (.str x))
theorem dv_bl {m : Nat} : DV X (.Constant (.bool k) m pos) σ H (.bool k) := fun H1 _ Q q => w_bl (q _ H1 (Same.refl _) (.bl k))
theorem dv_non {m : Nat} : DV X (.Constant .none m pos) σ H .none := fun H1 _ Q q => w_non (q _ H1 (Same.refl _) .non)
/-- a number, a text of the top -/
theorem dv_gi {tk : Tok} (hm : X.mg x = some (.int i tk)) (hg : Gl X x := by rfl) (hd : (x == ("__debug__" : Str)) = false := by decide) : DV X (.Name x pos) σ H (.int i) := fun H1 _ Q q => w_glob hm (show RelV (.int i) (.int i tk) from ⟨tk, rfl⟩) (q _ H1 (Same.refl _) (.int i)) hg hd
theorem dv_gs {tk : Tok} (hm : X.mg x = some (.str y tk)) (hg : Gl X x := by rfl) (hd : (x == ("__debug__" : Str)) = false := by decide) : DV X (.Name x pos) σ H (.str y) := fun H1 _ Q q => w_glob hm (show RelV (.str y) (.str y tk) from ⟨tk, rfl⟩) (q _ H1 (Same.refl _) (.str y)) hg hd
/-- two operands, then a rule by values -/
theorem dv_two {r : R2} (hf : ∀ H1 Q, (WE X a σ H1 fun u H2 => WE X b σ H2 fun v H3 => r u v H3 Q) → WE X e σ H1 Q) (ha : DV X a σ H d1) (hb : DV X b σ H d2) (hr : ∀ H1 u v (Q : VK), Im H1 u d1 → Im H1 v d2 → (∀ w H2, Same H1 H2 → Im H2 w d → Q w H2) → r u v H1 Q) : DV X e σ H d :=
  fun H1 t Q q => hf H1 Q (ha H1 t _ fun u H2 s2 iu => hb H2 (t.trans (tx_same s2)) _ fun v H3 s3 iv => hr H3 u v Q (iu.mono (tx_same s3)) iv fun w H4 s4 iw => q w H4 ((s2.trans s3).trans s4) iw)
theorem dv_op {op : Operator} {r : R2} (ho : OpR X (binaryOp op) r) (ha : DV X a σ H d1) (hb : DV X b σ H d2) (hr : ∀ H1 u v (Q : VK), Im H1 u d1 → Im H1 v d2 → (∀ w H2, Same H1 H2 → Im H2 w d → Q w H2) → r u v H1 Q) : DV X (.BinOp a op b pos) σ H d :=
  dv_two (fun _ _ h => w_op ho h) ha hb hr
theorem dv_add (ha : DV X a σ H (.int i)) (hb : DV X b σ H (.int j)) : DV X (.BinOp a .Add b pos) σ H (.int (i + j)) := dv_op op_add ha hb fun H1 u v Q iu iv q => ⟨i, j, im_int iu, im_int iv, q _ _ (Same.refl _) (.int _)⟩
theorem dv_sub (ha : DV X a σ H (.int i)) (hb : DV X b σ H (.int j)) : DV X (.BinOp a .Sub b pos) σ H (.int (i - j)) := dv_op op_sub ha hb fun H1 u v Q iu iv q => ⟨i, j, im_int iu, im_int iv, q _ _ (Same.refl _) (.int _)⟩
theorem dv_mul (ha : DV X a σ H (.int i)) (hb : DV X b σ H (.int j)) (hc : CMul i j) : DV X (.BinOp a .Mult b pos) σ H (.int (i * j)) := dv_op op_mul ha hb fun H1 u v Q iu iv q => ⟨i, j, im_int iu, im_int iv, hc, q _ _ (Same.refl _) (.int _)⟩
theorem dv_mod (ha : DV X a σ H (.int i)) (hb : DV X b σ H (.int j)) (hc : 0 < j) : DV X (.BinOp a .Mod b pos) σ H (.int (i % j)) := dv_op op_mod ha hb fun H1 u v Q iu iv q => ⟨i, j, im_int iu, im_int iv, hc, q _ _ (Same.refl _) (.int _)⟩
theorem dv_div (ha : DV X a σ H (.int i)) (hb : DV X b σ H (.int j)) (hc : CDiv i j) : DV X (.BinOp a .FloorDiv b pos) σ H (.int (i / j)) := dv_op op_fdiv ha hb fun H1 u v Q iu iv q => ⟨i, j, im_int iu, im_int iv, hc, q _ _ (Same.refl _) (.int _)⟩
theorem dv_cmp {op : CmpOp} {r : R2} (ho : OpR X (compareOp op) r) (ha : DV X a σ H d1) (hb : DV X b σ H d2) (hr : ∀ H1 u v (Q : VK), Im H1 u d1 → Im H1 v d2 → (∀ w H2, Same H1 H2 → Im H2 w d → Q w H2) → r u v H1 Q) (hm : behindInMarks op b = false := by first | exact nomark _ | rfl) : DV X (.Compare a [op] [b] pos) σ H d :=
  dv_two (fun _ _ h => w_cmp ho h hm) ha hb hr
theorem tv_cmp {op : CmpOp} {r : R2} (ho : OpR X (compareOp op) r) (ha : DV X a σ H d1) (hb : DV X b σ H d2) (hr : ∀ H1 u v (Q : VK), Im H1 u d1 → Im H1 v d2 → (∀ H2, Same H1 H2 → Q (.bl k) H2) → r u v H1 Q) (hm : behindInMarks op b = false := by first | exact nomark _ | rfl) : TV X (.Compare a [op] [b] pos) σ H k :=
  fun H1 t B q => t_cmp ho (ha H1 t _ fun u H2 s2 iu => hb H2 (t.trans (tx_same s2)) _ fun v H3 s3 iv => hr H3 u v _ (iu.mono (tx_same s3)) iv fun H4 s4 => ⟨k, rfl, q H4 ((s2.trans s3).trans s4)⟩) hm
theorem r_lt {H1 : Hp} {u v : V} {Q : VK} (iu : Im H1 u (.int i)) (iv : Im H1 v (.int j)) (q : ∀ H2, Same H1 H2 → Q (.bl (decide (i < j))) H2) : (rI0 fun i j => V.bl (decide (i < j))) u v H1 Q := ⟨i, j, im_int iu, im_int iv, q _ (Same.refl _)⟩
theorem tv_lt (ha : DV X a σ H (.int i)) (hb : DV X b σ H (.int j)) : TV X (.Compare a [.Lt] [b] pos) σ H (decide (i < j)) := tv_cmp op_lt ha hb fun H1 u v Q iu iv q => ⟨i, j, im_int iu, im_int iv, q _ (Same.refl _)⟩
theorem tv_le (ha : DV X a σ H (.int i)) (hb : DV X b σ H (.int j)) : TV X (.Compare a [.LtE] [b] pos) σ H (decide (i ≤ j)) := tv_cmp op_le ha hb fun H1 u v Q iu iv q => ⟨i, j, im_int iu, im_int iv, q _ (Same.refl _)⟩
theorem tv_gt (ha : DV X a σ H (.int i)) (hb : DV X b σ H (.int j)) : TV X (.Compare a [.Gt] [b] pos) σ H (decide (j < i)) := tv_cmp op_gt ha hb fun H1 u v Q iu iv q => ⟨i, j, im_int iu, im_int iv, q _ (Same.refl _)⟩
theorem tv_ge (ha : DV X a σ H (.int i)) (hb : DV X b σ H (.int j)) : TV X (.Compare a [.GtE] [b] pos) σ H (decide (j ≤ i)) := tv_cmp op_ge ha hb fun H1 u v Q iu iv q => ⟨i, j, im_int iu, im_int iv, q _ (Same.refl _)⟩
theorem decI {i j : Int} : decide (V.int i = V.int j) = decide (i = j) := by
  by_cases h : i = j
  · subst h; simp
  · rw [decide_eq_false h, decide_eq_false (fun z => h (V.int.inj z))]
theorem decS {i j : Str} : decide (V.str i = V.str j) = decide (i = j) := by
  by_cases h : i = j
  · subst h; simp
  · rw [decide_eq_false h, decide_eq_false (fun z => h (V.str.inj z))]
theorem tv_eqI (ha : DV X a σ H (.int i)) (hb : DV X b σ H (.int j)) : TV X (.Compare a [.Eq] [b] pos) σ H (decide (i = j)) := tv_cmp op_eq ha hb fun H1 u v Q iu iv q => by
  cases im_int iu; cases im_int iv
  refine ⟨rfl, ?_⟩
  rw [decI]
  exact q _ (Same.refl _)
theorem tv_neI (ha : DV X a σ H (.int i)) (hb : DV X b σ H (.int j)) : TV X (.Compare a [.NotEq] [b] pos) σ H (!decide (i = j)) := tv_cmp op_ne ha hb fun H1 u v Q iu iv q => by
  cases im_int iu; cases im_int iv
  refine ⟨rfl, ?_⟩
  rw [decI]
  exact q _ (Same.refl _)
theorem tv_eqS (ha : DV X a σ H (.str x)) (hb : DV X b σ H (.str y)) : TV X (.Compare a [.Eq] [b] pos) σ H (decide (x = y)) := tv_cmp op_eq ha hb fun H1 u v Q iu iv q => by
  cases im_str iu; cases im_str iv
  refine ⟨rfl, ?_⟩
  rw [decS]
  exact q _ (Same.refl _)
theorem tv_neS (ha : DV X a σ H (.str x)) (hb : DV X b σ H (.str y)) : TV X (.Compare a [.NotEq] [b] pos) σ H (!decide (x = y)) := tv_cmp op_ne ha hb fun H1 u v Q iu iv q => by
  cases im_str iu; cases im_str iv
  refine ⟨rfl, ?_⟩
  rw [decS]
  exact q _ (Same.refl _)
theorem dv_eqI (ha : DV X a σ H (.int i)) (hb : DV X b σ H (.int j)) : DV X (.Compare a [.Eq] [b] pos) σ H (.bool (decide (i = j))) := dv_cmp op_eq ha hb fun H1 u v Q iu iv q => by
  cases im_int iu; cases im_int iv
  refine ⟨rfl, ?_⟩
  rw [decI]
  exact q _ _ (Same.refl _) (.bl _)
theorem dv_neI (ha : DV X a σ H (.int i)) (hb : DV X b σ H (.int j)) : DV X (.Compare a [.NotEq] [b] pos) σ H (.bool (!decide (i = j))) := dv_cmp op_ne ha hb fun H1 u v Q iu iv q => by
  cases im_int iu; cases im_int iv
  refine ⟨rfl, ?_⟩
  rw [decI]
  exact q _ _ (Same.refl _) (.bl _)
theorem dv_eqS (ha : DV X a σ H (.str x)) (hb : DV X b σ H (.str y)) : DV X (.Compare a [.Eq] [b] pos) σ H (.bool (decide (x = y))) := dv_cmp op_eq ha hb fun H1 u v Q iu iv q => by
  cases im_str iu; cases im_str iv
  refine ⟨rfl, ?_⟩
  rw [decS]
  exact q _ _ (Same.refl _) (.bl _)
theorem dv_neS (ha : DV X a σ H (.str x)) (hb : DV X b σ H (.str y)) : DV X (.Compare a [.NotEq] [b] pos) σ H (.bool (!decide (x = y))) := dv_cmp op_ne ha hb fun H1 u v Q iu iv q => by
  cases im_str iu; cases im_str iv
  refine ⟨rfl, ?_⟩
  rw [decS]
  exact q _ _ (Same.refl _) (.bl _)
theorem dv_lt (ha : DV X a σ H (.int i)) (hb : DV X b σ H (.int j)) : DV X (.Compare a [.Lt] [b] pos) σ H (.bool (decide (i < j))) := dv_cmp op_lt ha hb fun H1 u v Q iu iv q => ⟨i, j, im_int iu, im_int iv, q _ _ (Same.refl _) (.bl _)⟩
theorem dv_le (ha : DV X a σ H (.int i)) (hb : DV X b σ H (.int j)) : DV X (.Compare a [.LtE] [b] pos) σ H (.bool (decide (i ≤ j))) := dv_cmp op_le ha hb fun H1 u v Q iu iv q => ⟨i, j, im_int iu, im_int iv, q _ _ (Same.refl _) (.bl _)⟩
def isN : PyData → Bool
  | .none => true
  | _ => false
theorem im_isN {H : Hp} {v : V} (h : Im H v d) : decide (v = .non) = isN d := by cases h <;> rfl
theorem tv_isN {m : Nat} {p1 : Pos} (ha : DV X a σ H d) : TV X (.Compare a [.Is] [.Constant .none m p1] pos) σ H (isN d) := tv_cmp op_isN ha dv_non fun H1 u v Q iu iv q => by
  refine ⟨im_non iv, ?_⟩
  rw [im_isN iu]
  exact q _ (Same.refl _)
theorem tv_notN {m : Nat} {p1 : Pos} (ha : DV X a σ H d) : TV X (.Compare a [.IsNot] [.Constant .none m p1] pos) σ H (!isN d) := tv_cmp op_notN ha dv_non fun H1 u v Q iu iv q => by
  refine ⟨im_non iv, ?_⟩
  rw [im_isN iu]
  exact q _ (Same.refl _)
theorem tv_val (h : DV X e σ H (.bool k)) (he : ∀ whole, isTrue e X.env whole = (do let v ← whole; standAt e.pos; holding [v] (truthy v)) := by intro _; rfl) : TV X e σ H k := fun H1 t B q => t_val (h H1 t _ fun v H2 s2 iv => ⟨k, im_bl iv, q H2 s2⟩) he
theorem tv_not (h : TV X a σ H k) : TV X (.UnaryOp .Not a pos) σ H (!k) := fun H1 t B q => t_not (h H1 t _ fun H2 s2 => q H2 s2)
theorem dv_not (h : DV X a σ H (.bool k)) : DV X (.UnaryOp .Not a pos) σ H (.bool (!k)) := fun H1 t Q q => w_not (h H1 t _ fun v H2 s2 iv => ⟨k, im_bl iv, q _ H2 s2 (.bl _)⟩)
theorem tw_or1 (h : TV X a σ H k) : TVW X (.BoolOp .Or [a] pos) σ H k := fun H1 t B q => t_or1 (h H1 t _ fun H2 s2 => q H2 s2)
theorem tw_and1 (h : TV X a σ H k) : TVW X (.BoolOp .And [a] pos) σ H k := fun H1 t B q => t_and1 (h H1 t _ fun H2 s2 => q H2 s2)
theorem tw_or (h : TV X a σ H k1) (h2 : k1 = false → TVW X (.BoolOp .Or (b :: rest) pos) σ H k2) : TVW X (.BoolOp .Or (a :: b :: rest) pos) σ H (k1 || k2) := fun H1 t B q => t_or (h H1 t _ fun H2 s2 => by
  cases k1 with
  | true => exact iteT (q H2 s2)
  | false => exact iteF (h2 rfl H2 (t.trans (tx_same s2)) _ fun H3 s3 => q H3 (s2.trans s3)))
theorem tw_and (h : TV X a σ H k1) (h2 : k1 = true → TVW X (.BoolOp .And (b :: rest) pos) σ H k2) : TVW X (.BoolOp .And (a :: b :: rest) pos) σ H (k1 && k2) := fun H1 t B q => t_and (h H1 t _ fun H2 s2 => by
  cases k1 with
  | false => exact iteF (q H2 s2)
  | true => exact iteT (h2 rfl H2 (t.trans (tx_same s2)) _ fun H3 s3 => q H3 (s2.trans s3)))
theorem tv_w (h : TVW X e σ H k) : TV X e σ H k := fun H1 t B q => t_w (h H1 t B q)
theorem dv_one {op : BoolOp} (h : DV X a σ H d) : DV X (.BoolOp op [a] pos) σ H d := fun H1 t Q q => w_one (h H1 t Q q)
theorem dv_and (h : DV X a σ H (.bool k1)) (h2 : k1 = true → DV X (.BoolOp .And (b :: rest) pos) σ H (.bool k2)) : DV X (.BoolOp .And (a :: b :: rest) pos) σ H (.bool (k1 && k2)) := fun H1 t Q q => w_and (h H1 t _ fun v H2 s2 iv => ⟨k1, im_bl iv, by
  cases k1 with
  | false => exact iteF (q _ H2 s2 (.bl _))
  | true => exact iteT (h2 rfl H2 (t.trans (tx_same s2)) _ fun v H3 s3 iv => q v H3 (s2.trans s3) iv)⟩)
theorem dv_or (h : DV X a σ H (.bool k1)) (h2 : k1 = false → DV X (.BoolOp .Or (b :: rest) pos) σ H (.bool k2)) : DV X (.BoolOp .Or (a :: b :: rest) pos) σ H (.bool (k1 || k2)) := fun H1 t Q q => w_or (h H1 t _ fun v H2 s2 iv => ⟨k1, im_bl iv, by
  cases k1 with
  | true => exact iteT (q _ H2 s2 (.bl _))
  | false => exact iteF (h2 rfl H2 (t.trans (tx_same s2)) _ fun v H3 s3 iv => q v H3 (s2.trans s3) iv)⟩)
theorem dv_ifx (h : TV X c σ H k) (h1 : k = true → DV X a σ H d) (h2 : k = false → DV X b σ H d) : DV X (.IfExp c a b pos) σ H d := fun H1 t Q q => w_ifx (h H1 t _ fun H2 s2 => by
  cases k with
  | true => exact iteT (h1 rfl H2 (t.trans (tx_same s2)) _ fun v H3 s3 iv => q v H3 (s2.trans s3) iv)
  | false => exact iteF (h2 rfl H2 (t.trans (tx_same s2)) _ fun v H3 s3 iv => q v H3 (s2.trans s3) iv))
/-- low <= part <= high -/
theorem dv_le2 {m : Int} (ha : DV X a σ H (.int i)) (hb : DV X b σ H (.int j)) (hc : DV X c σ H (.int m)) (hm : lastMarks [.LtE, .LtE] [b, c] = false := by with_unfolding_all rfl) : DV X (.Compare a [.LtE, .LtE] [b, c] pos) σ H (.bool (decide (i ≤ j) && decide (j ≤ m))) := fun H1 t Q q =>
  w_chain op_le op_le (ha H1 t _ fun u H2 s2 iu => hb H2 (t.trans (tx_same s2)) _ fun v H3 s3 iv => ⟨i, j, im_int iu, im_int iv, decide (i ≤ j), rfl, by
    cases hk : decide (i ≤ j) with
    | false => exact iteF (q _ H3 (s2.trans s3) (by rw [hk]; exact .bl false))
    | true => exact iteT (hc H3 ((t.trans (tx_same s2)).trans (tx_same s3)) _ fun w H4 s4 iw => ⟨j, m, im_int iv, im_int iw, q _ H4 ((s2.trans s3).trans s4) (by rw [hk]; exact .bl _)⟩)⟩) hm
theorem tv_le2 {m : Int} (ha : DV X a σ H (.int i)) (hb : DV X b σ H (.int j)) (hc : DV X c σ H (.int m)) (hm : lastMarks [.LtE, .LtE] [b, c] = false := by with_unfolding_all rfl) : TV X (.Compare a [.LtE, .LtE] [b, c] pos) σ H (decide (i ≤ j) && decide (j ≤ m)) := fun H1 t Q q =>
  t_chain op_le op_le (ha H1 t _ fun u H2 s2 iu => hb H2 (t.trans (tx_same s2)) _ fun v H3 s3 iv => ⟨i, j, im_int iu, im_int iv, decide (i ≤ j), rfl, by
    cases hk : decide (i ≤ j) with
    | false => exact iteF ⟨false, rfl, by have z := q H3 (s2.trans s3); rw [hk] at z; exact z⟩
    | true => exact iteT (hc H3 ((t.trans (tx_same s2)).trans (tx_same s3)) _ fun w H4 s4 iw => ⟨j, m, im_int iv, im_int iw, _, rfl, by have z := q H4 ((s2.trans s3).trans s4); rw [hk] at z; exact z⟩)⟩) hm
theorem av_nil : AV X [] σ H [] := fun H1 _ B q => wa_nil (q [] H1 (Same.refl _) .nil)
theorem av_cons (h : DV X e σ H d) (hs : AV X es σ H ds) (hst : starEach (e :: es) X.env = (false, eval e X.env) :: starEach es X.env := by rfl) : AV X (e :: es) σ H (d :: ds) := fun H1 t B q => wa_cons (h H1 t _ fun v H2 s2 iv => hs H2 (t.trans (tx_same s2)) _ fun vs H3 s3 ivs => q (v :: vs) H3 (s2.trans s3) (.cons (iv.mono (tx_same s3)) ivs)) hst
theorem dv_tup {m : Nat} (h : AV X es σ H ds) (hl : ds.length ≤ 100000) : DV X (.Tuple es m pos) σ H (.tuple ds) := fun H1 t Q q => w_tup (h H1 t _ fun vs H2 s2 ivs => ⟨by rw [ivs.length]; exact Nat.le_trans hl (by decide), fun p hp => q _ _ (s2.trans (same_new hp)) (.tup upd_same (ivs.mono (tx_same (same_new hp))))⟩)
theorem lv_lst (h : AV X es σ H ds) (hl : ds.length ≤ 100000) : LV X (.List es pos) σ H ds := fun H1 t Q q => w_lst (h H1 t _ fun vs H2 s2 ivs => ⟨by rw [ivs.length]; exact Nat.le_trans hl (by decide), fun p hp => q p vs _ (s2.free hp) (s2.trans (same_new hp)) upd_same (ivs.mono (tx_same (same_new hp)))⟩)
theorem ixN_some {n : Nat} {i : Int} {j : Nat} (h : ixN n i = some j) : j < n := by
  unfold ixN at h
  split at h
  · split at h
    · cases h; omega
    · cases h
  · split at h
    · cases h; omega
    · cases h
theorem dv_ix (ha : DV X a σ H (.tuple ds)) (hb : DV X b σ H (.int i)) (hd : atI ds i = some d) (hs : PlainIx b := by exact fun _ _ => rfl) : DV X (.Subscript a b pos) σ H d :=
  dv_two (fun _ _ h => w_ix ix_tup h hs) ha hb fun H1 u v Q iu iv q => by
    obtain ⟨p, xs, rfl, hp, hx⟩ := im_tup iu
    cases im_int iv
    unfold atI at hd
    cases hn : ixN ds.length i with
    | none => rw [hn] at hd; cases hd
    | some n =>
      rw [hn] at hd
      obtain ⟨w, hw, iw⟩ := hx.get (show ds[n]? = some d from hd)
      exact ⟨p, xs, i, w, rfl, rfl, SqT.of hp, by unfold atI; rw [hx.length, hn]; exact hw, q w H1 (Same.refl _) iw⟩
theorem cut_from {α : Type} (xs : List α) (n : Nat) : (xs.drop (HT.sIx xs.length 0 (some (n : Int)))).take (HT.sIx xs.length xs.length none - HT.sIx xs.length 0 (some (n : Int))) = xs.drop n := by
  rw [HT.sIx_nat, HT.sIx_none]
  by_cases h : n ≤ xs.length
  · rw [Nat.min_eq_left h, List.take_of_length_le (by rw [List.length_drop]; omega)]
  · rw [Nat.min_eq_right (by omega), List.drop_of_length_le (show xs.length ≤ n by omega), List.drop_of_length_le (Nat.le_refl _), List.take_nil]
/-- t[n:] -/
theorem dv_from {n m : Nat} {p1 p2 : Pos} (ha : DV X a σ H (.tuple ds)) : DV X (.Subscript a (.Slice (some (.Constant (.int (n : Int)) m p1)) none none p2) pos) σ H (.tuple (ds.drop n)) := fun H1 t Q q =>
  w_sl sl_tupA (po_some pe_int) po_none (ha H1 t _ fun u H2 s2 iu => by
    obtain ⟨p, xs, rfl, hp, hx⟩ := im_tup iu
    refine ⟨(n : Int), rfl, p, xs, rfl, SqT.of hp, fun hw => ?_, fun hw r hr => ?_⟩
    · have e := cut_from xs n
      rw [hw.1, hw.2] at e
      have e0 : xs.drop n = xs := by rw [← e]; simp
      have e1 : ds.drop n = ds := by
        have l := congrArg List.length e0
        rw [List.length_drop] at l
        have hl := hx.length
        by_cases z : n = 0
        · subst z; rfl
        · have : ds.length = 0 := by omega
          rw [List.length_eq_zero_iff] at this
          rw [this]; simp
      rw [e1] at q
      exact q _ H2 s2 iu
    · refine q _ _ (s2.trans (same_new hr)) (.tup (xs := xs.drop n) ?_ ((hx.drop n).mono (tx_same (same_new hr))))
      rw [upd_same]
      exact congrArg (fun z => some (HO.tup z)) (cut_from xs n))
theorem dv_lenT (hm : X.mg "len" = none) (ha : DV X a σ H (.tuple ds)) {p1 : Pos} (hg : Gl X "len" := by rfl) (he : starEach [a] X.env = [(false, eval a X.env)] := by rfl) : DV X (.Call (.Name "len" p1) [a] [] pos) σ H (.int (ds.length : Int)) := fun H1 t Q q =>
  w_callB call_len_seq hm PySem.boot_len (wa_cons (ha H1 t _ fun u H2 s2 iu => wa_nil (by
    obtain ⟨p, xs, rfl, hp, hx⟩ := im_tup iu
    refine ⟨p, xs, rfl, .inr (SqT.of hp), ?_⟩
    rw [hx.length]
    exact q _ H2 s2 (.int _))) he) hg (he := he)
theorem dv_lenS (hm : X.mg "len" = none) (ha : DV X a σ H (.str x)) (hl : x.length ≤ 100000) {p1 : Pos} (hg : Gl X "len" := by rfl) (he : starEach [a] X.env = [(false, eval a X.env)] := by rfl) : DV X (.Call (.Name "len" p1) [a] [] pos) σ H (.int (x.length : Int)) := fun H1 t Q q =>
  w_callB call_len_str hm PySem.boot_len (wa_cons (ha H1 t _ fun u H2 s2 iu => wa_nil (by
    cases im_str iu
    exact ⟨x, rfl, Nat.le_trans hl (by decide), q _ H2 s2 (.int _)⟩)) he) hg (he := he)
/-- a def of the text -/
theorem dv_c {n m : Nat} {F : List PyData → Option PyData} {p1 : Pos} (c : Fc X.prog X.w X.K X.mg X.base n x (spF F)) (hr : Room m X.A) (hk : n ≤ m) (ha : AV X (e :: es) σ H ds) (hF : F ds = some d) (hg : Gl X x := by rfl)
    (hdb : (x == ("__debug__" : Str)) = false := by decide) (he : starEach (e :: es) X.env = (false, eval e X.env) :: starEach es X.env := by rfl) (hpl : (backTo pos (starEach es X.env)).any (·.1) = false := by rfl) : DV X (.Call (.Name x p1) (e :: es) [] pos) σ H d := fun H1 t Q q =>
  w_c c hr hk (ha H1 t _ fun vs H2 s2 ivs => ⟨ds, d, ivs, hF, fun v H3 s3 iv => q v H3 (s2.trans s3) iv⟩) hg hdb he hpl
theorem lv_c {n m : Nat} {F : List PyData → Option (List PyData)} {rs : List PyData} {p1 : Pos} (c : Fc X.prog X.w X.K X.mg X.base n x (spL F)) (hr : Room m X.A) (hk : n ≤ m) (ha : AV X (e :: es) σ H ds) (hF : F ds = some rs) (hg : Gl X x := by rfl)
    (hdb : (x == ("__debug__" : Str)) = false := by decide) (he : starEach (e :: es) X.env = (false, eval e X.env) :: starEach es X.env := by rfl) (hpl : (backTo pos (starEach es X.env)).any (·.1) = false := by rfl) : LV X (.Call (.Name x p1) (e :: es) [] pos) σ H rs := fun H1 t Q q =>
  w_c c hr hk (ha H1 t _ fun vs H2 s2 ivs => ⟨ds, rs, ivs, hF, fun p ws H3 hp s3 hw iv => q p ws H3 (s2.free hp) (s2.trans s3) hw iv⟩) hg hdb he hpl
/-! statements -/
theorem ws_retD (h : DV X e σ H d) (q : ∀ v H', Same H H' → Im H' v d → D.rt v H') : WS X (.Return (some e) pos :: sts) D σ H := ws_ret (h.w q)
theorem ws_ifD (h : TV X c σ H k) (h1 : k = true → ∀ H', Same H H' → WS X p { D with nx := WS X sts D } σ H') (h2 : k = false → ∀ H', Same H H' → WS X q { D with nx := WS X sts D } σ H') : WS X (.If c p q pos :: sts) D σ H := ws_if (h.w fun H' s => by
  cases k with
  | true => exact iteT (h1 rfl H' s)
  | false => exact iteF (h2 rfl H' s))
end
end Tr
set_option Elab.async false
set_option linter.all false
set_option maxRecDepth 100000
set_option maxHeartbeats 4000000
/-! isinstance, in, tables of the top, comprehensions over data -/
namespace Tr
open PySem PySem.Spec PyProof.Rows L2
def tyD : PyData → String
  | .none => "NoneType"
  | .bool _ => "bool"
  | .int _ => "int"
  | .str _ => "str"
  | .list _ => "list"
  | .tuple _ => "tuple"
  | .dict _ => "dict"
def isiD (T : String) (d : PyData) : Bool := match T with
  | "int" => (match d with | .int _ => true | .bool _ => true | _ => false)
  | "bool" => (match d with | .bool _ => true | _ => false)
  | "str" => (match d with | .str _ => true | _ => false)
  | "tuple" => (match d with | .tuple _ => true | _ => false)
  | "list" => (match d with | .list _ => true | _ => false)
  | _ => false
theorem kit_int (d : PyData) : kitB (tyD d) "int" = some (isiD "int" d) := by cases d <;> kernel_rfl
theorem kit_bool (d : PyData) : kitB (tyD d) "bool" = some (isiD "bool" d) := by cases d <;> kernel_rfl
theorem kit_str (d : PyData) : kitB (tyD d) "str" = some (isiD "str" d) := by cases d <;> kernel_rfl
theorem kit_tuple (d : PyData) : kitB (tyD d) "tuple" = some (isiD "tuple" d) := by cases d <;> kernel_rfl
theorem kit_list (d : PyData) : kitB (tyD d) "list" = some (isiD "list" d) := by cases d <;> kernel_rfl
theorem im_ty {K : PySem.W.Frag} {H : Hp} {v : V} {d : PyData} (h : Im H v d) : TyX K H v (.type (tyD d)) := by
  cases h with
  | non => exact .base .non
  | bl b => exact .base (.bl b)
  | int i => exact .base (.int i)
  | str x => exact .base (.str x)
  | tup e _ => exact .base (.tup e)
theorem bt_isinstance : bootBuiltins "isinstance" = some (.builtin "isinstance") := by decide +kernel
theorem bt_int : bootBuiltins "int" = some (.type "int") := by decide +kernel
theorem bt_bool : bootBuiltins "bool" = some (.type "bool") := by decide +kernel
theorem bt_str : bootBuiltins "str" = some (.type "str") := by decide +kernel
theorem bt_tuple : bootBuiltins "tuple" = some (.type "tuple") := by decide +kernel
theorem bt_list : bootBuiltins "list" = some (.type "list") := by decide +kernel
theorem bt_len : bootBuiltins "len" = some (.builtin "len") := PySem.boot_len
section
variable {X : Cx} {e a b c o tg iter elt : Expr} {es rest ifs : List Expr} {sts p q : List Stmt} {σ : St} {H : Hp} {D : Ends} {pos : Pos} {d d1 d2 : PyData} {ds : List PyData} {k k1 k2 : Bool} {i j : Int} {x y : Str}
theorem dv_isi {T : String} {n : Str} {p1 p2 : Pos} (hT : bootBuiltins n = some (.type T)) (hk : kitB (tyD d) T = some (isiD T d)) (hm : X.mg "isinstance" = none) (hn : X.mg n = none) (ha : DV X a σ H d)
    (hg : Gl X "isinstance" := by rfl) (hg2 : Gl X n := by rfl) (h1 : n ≠ "__name__" := by decide) (h2 : (n == ("__debug__" : Str)) = false := by decide)
    (he : starEach [a, .Name n p2] X.env = (false, eval a X.env) :: starEach [.Name n p2] X.env := by rfl) (he2 : starEach [.Name n p2] X.env = [(false, eval (.Name n p2) X.env)] := by rfl) (hpl : (backTo pos (starEach [.Name n p2] X.env)).any (·.1) = false := by rfl) :
    DV X (.Call (.Name "isinstance" p1) [a, .Name n p2] [] pos) σ H (.bool (isiD T d)) := fun H1 t Q qq =>
  w_callB call_isi hm bt_isinstance (wa_cons (ha H1 t _ fun u H2 s2 iu => wa_cons (w_blt (v := .ty T) hn hT rfl (wa_nil ⟨u, .ty T, _, _, isiD T d, rfl, .ty T, im_ty iu, kit_ty hk, qq _ H2 s2 (.bl _)⟩) hg2 h1 h2) he2) he) hg (he := he) (hpl := hpl)
theorem dv_isInt {p1 p2 : Pos} (hm : X.mg "isinstance" = none) (hn : X.mg "int" = none) (ha : DV X a σ H d) (hg : Gl X "isinstance" := by rfl) (hg2 : Gl X "int" := by rfl)
    (he : starEach [a, .Name "int" p2] X.env = (false, eval a X.env) :: starEach [.Name "int" p2] X.env := by rfl) (he2 : starEach [.Name "int" p2] X.env = [(false, eval (.Name "int" p2) X.env)] := by rfl) (hpl : (backTo pos (starEach [.Name "int" p2] X.env)).any (·.1) = false := by rfl) :
    DV X (.Call (.Name "isinstance" p1) [a, .Name "int" p2] [] pos) σ H (.bool (isiD "int" d)) := dv_isi bt_int (kit_int d) hm hn ha hg hg2 (by decide) (by decide) he he2 hpl
theorem dv_isBool {p1 p2 : Pos} (hm : X.mg "isinstance" = none) (hn : X.mg "bool" = none) (ha : DV X a σ H d) (hg : Gl X "isinstance" := by rfl) (hg2 : Gl X "bool" := by rfl)
    (he : starEach [a, .Name "bool" p2] X.env = (false, eval a X.env) :: starEach [.Name "bool" p2] X.env := by rfl) (he2 : starEach [.Name "bool" p2] X.env = [(false, eval (.Name "bool" p2) X.env)] := by rfl) (hpl : (backTo pos (starEach [.Name "bool" p2] X.env)).any (·.1) = false := by rfl) :
    DV X (.Call (.Name "isinstance" p1) [a, .Name "bool" p2] [] pos) σ H (.bool (isiD "bool" d)) := dv_isi bt_bool (kit_bool d) hm hn ha hg hg2 (by decide) (by decide) he he2 hpl
theorem dv_isStr {p1 p2 : Pos} (hm : X.mg "isinstance" = none) (hn : X.mg "str" = none) (ha : DV X a σ H d) (hg : Gl X "isinstance" := by rfl) (hg2 : Gl X "str" := by rfl)
    (he : starEach [a, .Name "str" p2] X.env = (false, eval a X.env) :: starEach [.Name "str" p2] X.env := by rfl) (he2 : starEach [.Name "str" p2] X.env = [(false, eval (.Name "str" p2) X.env)] := by rfl) (hpl : (backTo pos (starEach [.Name "str" p2] X.env)).any (·.1) = false := by rfl) :
    DV X (.Call (.Name "isinstance" p1) [a, .Name "str" p2] [] pos) σ H (.bool (isiD "str" d)) := dv_isi bt_str (kit_str d) hm hn ha hg hg2 (by decide) (by decide) he he2 hpl
theorem dv_isTup {p1 p2 : Pos} (hm : X.mg "isinstance" = none) (hn : X.mg "tuple" = none) (ha : DV X a σ H d) (hg : Gl X "isinstance" := by rfl) (hg2 : Gl X "tuple" := by rfl)
    (he : starEach [a, .Name "tuple" p2] X.env = (false, eval a X.env) :: starEach [.Name "tuple" p2] X.env := by rfl) (he2 : starEach [.Name "tuple" p2] X.env = [(false, eval (.Name "tuple" p2) X.env)] := by rfl) (hpl : (backTo pos (starEach [.Name "tuple" p2] X.env)).any (·.1) = false := by rfl) :
    DV X (.Call (.Name "isinstance" p1) [a, .Name "tuple" p2] [] pos) σ H (.bool (isiD "tuple" d)) := dv_isi bt_tuple (kit_tuple d) hm hn ha hg hg2 (by decide) (by decide) he he2 hpl
/-- int(flag), int(number) -/
theorem dv_intB {p1 : Pos} (hm : X.mg "int" = none) (ha : DV X a σ H (.bool k)) (hg : Gl X "int" := by rfl) (he : starEach [a] X.env = [(false, eval a X.env)] := by rfl) : DV X (.Call (.Name "int" p1) [a] [] pos) σ H (.int (if k then 1 else 0)) := fun H1 t Q qq =>
  w_callT call_int1 hm bt_int (wa_cons (ha H1 t _ fun u H2 s2 iu => wa_nil (by
    cases im_bl iu
    exact .inr ⟨k, rfl, qq _ H2 s2 (.int _)⟩)) he) hg (he := he)
/-! in -/
theorem inV_strs (ss : List Str) : inV (.str x) (ss.map V.str) = ss.contains x := by
  induction ss with
  | nil => rfl
  | cons s r ih =>
    have e : inV (.str x) ((s :: r).map V.str) = ((s == x) || inV (.str x) (r.map V.str)) := rfl
    rw [e, ih, List.contains_cons, Bool.beq_comm]
theorem flat_strs (ss : List Str) : (ss.map V.str).all flatV = true := by
  induction ss with
  | nil => rfl
  | cons s r ih => rw [List.map_cons, List.all_cons, ih]; rfl
theorem ImAll.of_strs {H : Hp} : ∀ {vs : List V} {ns : List Str}, ImAll H vs (ns.map PyData.str) → vs = ns.map V.str
  | vs, [], h => by cases h; rfl
  | vs, n :: r, h => by
    cases h with
    | cons h1 h2 =>
      cases h1
      rw [ImAll.of_strs h2]
      rfl
theorem tv_inT {ss : List Str} (ha : DV X a σ H (.str x)) (hb : DV X b σ H (.tuple (ss.map PyData.str))) (hm : behindInMarks .In b = false := by rfl) : TV X (.Compare a [.In] [b] pos) σ H (ss.contains x) :=
  tv_cmp op_in_seq ha hb (fun H1 u v Q iu iv qq => by
    cases im_str iu
    obtain ⟨p, xs, rfl, hp, hx⟩ := im_tup iv
    cases hx.of_strs
    refine ⟨p, _, rfl, .inr (SqT.of hp), rfl, flat_strs ss, ?_⟩
    have e := qq H1 (Same.refl _)
    rw [← inV_strs ss] at e
    exact e) hm
/-- a tuple of texts of the top -/
theorem tv_inK {ss : List Str} {T : Addr} {n : Str} {p1 : Pos} (hn : X.mg n = some (.ref T)) (hT : ∀ H, SqT X.K H T (ss.map V.str)) (ha : DV X a σ H (.str x)) (hg : Gl X n := by rfl) (hd : (n == ("__debug__" : Str)) = false := by decide) (hm : behindInMarks .In (.Name n p1) = false := by rfl) : TV X (.Compare a [.In] [.Name n p1] pos) σ H (ss.contains x) := fun H1 t B qq =>
  t_cmp op_in_seq (ha H1 t _ fun u H2 s2 iu => w_glob (v := .ref T) hn rfl (by
    cases im_str iu
    refine ⟨T, _, rfl, .inr (hT H2), rfl, flat_strs ss, _, rfl, ?_⟩
    have e := qq H2 s2
    rw [← inV_strs ss] at e
    exact e) hg hd) hm
theorem tv_ninK {ss : List Str} {T : Addr} {n : Str} {p1 : Pos} (hn : X.mg n = some (.ref T)) (hT : ∀ H, SqT X.K H T (ss.map V.str)) (ha : DV X a σ H (.str x)) (hg : Gl X n := by rfl) (hd : (n == ("__debug__" : Str)) = false := by decide) (hm : behindInMarks .NotIn (.Name n p1) = false := by rfl) : TV X (.Compare a [.NotIn] [.Name n p1] pos) σ H (!ss.contains x) := fun H1 t B qq =>
  t_cmp op_notIn_seq (ha H1 t _ fun u H2 s2 iu => w_glob (v := .ref T) hn rfl (by
    cases im_str iu
    refine ⟨T, _, rfl, .inr (hT H2), rfl, flat_strs ss, _, rfl, ?_⟩
    have e := qq H2 s2
    rw [← inV_strs ss] at e
    exact e) hg hd) hm
end
/-! ### a table of the top: texts to numbers or texts -/
structure STab (K : PySem.W.Frag) (w : World) (T : Addr) (kvs : List (Str × V)) : Prop where
  kd : ∃ es n, KDict K w T es n
  some_ : ∀ x v, kvs.lookup x = some v → ∃ u, PySem.W.nsIn K T x = some (some u) ∧ RelV v u
  none_ : ∀ x, kvs.lookup x = none → PySem.W.nsIn K T x = some none
/-- what the head looks at -/
def tabB (K : PySem.W.Frag) (T : Addr) (kvs : List (Str × V)) : Bool := match K.lookup T with
  | some ⟨_, _, .dict es _, _⟩ => go es.toList kvs
  | _ => false
where go : List DictEntry → List (Str × V) → Bool
  | [], [] => true
  | e :: r, (k, v) :: s => (match e.key with
    | .str y _ => decide (y = k)
    | _ => false) && He.relB v e.val && go r s
  | _, _ => false
theorem tabB_go {x : Str} : ∀ {l : List DictEntry} {kvs : List (Str × V)}, tabB.go l kvs = true → (∀ v, kvs.lookup x = some v → ∃ e, l.find? (·.key.isStr x) = some e ∧ RelV v e.val) ∧ (kvs.lookup x = none → l.find? (·.key.isStr x) = none) ∧ l.any (·.refKey) = false
  | [], [], _ => ⟨fun v h => (nomatch h), fun _ => rfl, rfl⟩
  | [], _ :: _, h => (nomatch h)
  | _ :: _, [], h => (nomatch h)
  | e :: r, (k, v) :: s, h => by
    have h' : ((match e.key with
      | .str y _ => decide (y = k)
      | _ => false) && He.relB v e.val && tabB.go r s) = true := h
    rw [Bool.and_eq_true, Bool.and_eq_true] at h'
    obtain ⟨⟨h1, h2⟩, h3⟩ := h'
    obtain ⟨i1, i2, i3⟩ := tabB_go (x := x) h3
    cases hk : e.key with
    | str y t =>
      rw [hk] at h1
      have ey : y = k := of_decide_eq_true h1
      subst ey
      have eis : e.key.isStr x = decide (y = x) := by rw [hk]; rfl
      have eref : e.refKey = false := by unfold DictEntry.refKey; rw [hk]
      by_cases hyx : y = x
      · subst hyx
        have ef : (e :: r).find? (·.key.isStr y) = some e := by
          rw [List.find?_cons_of_pos]
          rw [eis]
          exact decide_eq_true rfl
        have el : List.lookup y ((y, v) :: s) = some v := by simp [List.lookup]
        refine ⟨fun v' hv => ?_, fun hn => ?_, ?_⟩
        · rw [el] at hv
          cases hv
          exact ⟨e, ef, He.relB_ok h2⟩
        · rw [el] at hn
          cases hn
        · rw [List.any_cons, eref, i3]
          rfl
      · have ef : (e :: r).find? (·.key.isStr x) = r.find? (·.key.isStr x) := by
          rw [List.find?_cons_of_neg]
          rw [eis, decide_eq_false hyx]
          exact Bool.false_ne_true
        have el : List.lookup x ((y, v) :: s) = s.lookup x := by
          have z : (x == y) = false := by simpa using fun q => hyx q.symm
          simp [List.lookup, z]
        refine ⟨fun v' hv => ?_, fun hn => ?_, ?_⟩
        · rw [el] at hv
          rw [ef]
          exact i1 v' hv
        · rw [el] at hn
          rw [ef]
          exact i2 hn
        · rw [List.any_cons, eref, i3]
          rfl
    | _ =>
      rw [hk] at h1
      cases h1
theorem stab_of {K : PySem.W.Frag} {w : World} {T : Addr} {kvs : List (Str × V)} (h : tabB K T kvs = true) (kd : ∃ es n, KDict K w T es n) : STab K w T kvs := by
  obtain ⟨es, n, D⟩ := kd
  have e := D.at_
  have h' := h
  unfold tabB at h'
  rw [e] at h'
  refine ⟨⟨es, n, D⟩, fun x v hv => ?_, fun x hn => ?_⟩
  · obtain ⟨en, h1, h2⟩ := (tabB_go (x := x) h').1 v hv
    refine ⟨en.val, ?_, h2⟩
    unfold PySem.W.nsIn
    rw [e]
    show (match es.toList.find? (·.key.isStr x) with
      | some e => some (some e.val)
      | none => if es.toList.any (·.refKey) then none else some none) = some (some en.val)
    rw [h1]
  · obtain ⟨_, h1, h2⟩ := tabB_go (x := x) h'
    unfold PySem.W.nsIn
    rw [e]
    show (match es.toList.find? (·.key.isStr x) with
      | some e => some (some e.val)
      | none => if es.toList.any (·.refKey) then none else some none) = some none
    rw [h1 hn, h2]
    rfl
/-- D.get(x, y), D a table of the top -/
theorem pe_kget {X : Cx} {o e f : Expr} {apos cpos : Pos} {T : Addr} {kvs : List (Str × V)} {to te tf : TE} (S : STab X.K X.w T kvs) (ho : PE X o to) (he : PE X e te) (hf : PE X f tf) (m : M2 X o "get" apos e f cpos) :
    PE X (.Call (.Attribute o "get" apos) [e, f] [] cpos) (fun σ H Q => to σ H fun v H1 => v = .ref T ∧ te σ H1 fun u H2 => ∃ x, u = .str x ∧ tf σ H2 fun z H3 => Q ((kvs.lookup x).getD z) H3) := by
  obtain ⟨es, n, D⟩ := S.kd
  refine ⟨fun pins s σ H Q I h => ?_⟩
  refine wpAny_Call_method m.base m.few m.line PySem.F.plainAttrs_dict PySem.F.slot_dict_get PySem.F.type_dict_get (thn (ho.run pins s σ H _ I h) fun u s1 ⟨x, H1, I1, rx, ex, q1⟩ => ?_)
  subst ex
  obtain rfl : u = Value.ref T := rx
  refine ⟨kd_type D I1, fun b q => by cases q; exact ⟨_, I1.kIn _ _ D.at_, rfl⟩, ?_⟩
  rw [m.trees]
  refine Calls.callWith_builtin rfl (Calls.evalArgs_plain (Calls.spliced_cons (thn (he.run pins s1 σ H1 _ I1 q1) fun iv s2 ⟨y, H2, I2, ry, x, ey, q2⟩ =>
    Calls.spliced_cons (thn (hf.run pins s2 σ H2 _ I2 q2) fun fv s3 ⟨z, H3, I3, rz, q3⟩ => Calls.spliced_nil ?_))))
  subst ey
  obtain ⟨t, rfl⟩ := ry
  refine call_meetsIn PySem.F.slot_dict_get (kd_type D I3) PySem.F.entry_dict_get (PySem.F.args_dict_get_3 _ _ _) (meets_dict_get_default (strKind X.prog X.w) T (PySem.strKind_is X.prog X.w x t) D.low fv) ⟨_, PySem.W.mapOf_K (prog := X.prog) I3.kIn D.at_ D.lit, ?_⟩
  cases hl : kvs.lookup x with
  | none =>
    rw [hl] at q3
    have e := PySem.W.find_K D.at_ (S.none_ x hl)
    refine ⟨z, H3, I3.tok _, ?_, q3⟩
    show RelV z ((findBy Value.isStrOf es x).getD fv)
    rw [e]
    exact rz
  | some v =>
    rw [hl] at q3
    obtain ⟨u, e1, r1⟩ := S.some_ x v hl
    have e := PySem.W.find_K D.at_ e1
    refine ⟨v, H3, I3.tok _, ?_, q3⟩
    show RelV v ((findBy Value.isStrOf es x).getD fv)
    rw [e]
    exact r1
end Tr
set_option Elab.async false
set_option linter.all false
set_option maxRecDepth 100000
set_option maxHeartbeats 4000000
/-! walks over data, comprehensions -/
namespace Tr
open PySem PySem.Spec PyProof.Rows L2
/-- an iterable that gives these data, one by one -/
def SV (X : Cx) (tg iter : Expr) (σ : St) (H : Hp) (ds : List PyData) : Prop := ∀ R : It → Hp → Prop,
  (∀ J H2 G YY, Same H H2 → Walk J ds.length G YY → (∀ H3, Same H2 H3 → G H3) → (∀ i H3 x H4, i < ds.length → Same H2 H3 → YY i H3 x H4 → Same H3 H4 ∧ ∃ d, ds[i]? = some d ∧ Im H4 x d) → R J H2) → WI X tg iter σ H R
/-- .. while the tuples stand -/
def SVt (X : Cx) (tg iter : Expr) (σ : St) (H : Hp) (ds : List PyData) : Prop := ∀ R : It → Hp → Prop,
  (∀ J H2 G YY, Same H H2 → Walk J ds.length G YY → (∀ H3, Tx H2 H3 → G H3) → (∀ i H3 x H4, i < ds.length → Tx H2 H3 → YY i H3 x H4 → Same H3 H4 ∧ ∃ d, ds[i]? = some d ∧ Im H4 x d) → R J H2) → WI X tg iter σ H R
def enumD : Int → List PyData → List PyData
  | _, [] => []
  | k, d :: r => .tuple [.int k, d] :: enumD (k + 1) r
theorem enumD_len : ∀ (k : Int) (ds : List PyData), (enumD k ds).length = ds.length
  | _, [] => rfl
  | k, d :: r => by rw [enumD, List.length_cons, List.length_cons, enumD_len]
theorem enumD_get : ∀ (k : Int) (ds : List PyData) (i : Nat) (d : PyData), ds[i]? = some d → (enumD k ds)[i]? = some (.tuple [.int (k + i), d])
  | _, [], _, _, h => by simp at h
  | k, d :: r, 0, _, h => by simp at h; subst h; simp [enumD]
  | k, d :: r, i + 1, x, h => by
    have e := enumD_get (k + 1) r i x (by simpa using h)
    simp only [enumD, List.getElem?_cons_succ]
    rw [e]
    congr 3
    rw [show k + 1 + (i : Int) = k + ((i + 1 : Nat) : Int) by omega]
def zipSD (z : Str) (ds : List PyData) : List PyData := List.zipWith (fun c d => .tuple [.str ⟨#[c]⟩, d]) z.cps.toList ds
def zipDD (es ds : List PyData) : List PyData := List.zipWith (fun c d => .tuple [c, d]) es ds
section
variable {X : Cx} {e a b c o tg iter elt : Expr} {es rest : List Expr} {sts p q : List Stmt} {σ : St} {H : Hp} {D : Ends} {pos : Pos} {d d1 d2 : PyData} {ds : List PyData} {k k1 k2 : Bool} {i j : Int} {x y : Str}
theorem SVt.sv (h : SVt X tg iter σ H ds) : SV X tg iter σ H ds := fun R q => h R fun J H2 G YY s w g y => q J H2 G YY s w (fun H3 s3 => g H3 (tx_same s3)) fun i H3 x H4 hi s3 => y i H3 x H4 hi (tx_same s3)
/-- a tuple -/
theorem sv_tup (h : DV X iter σ H (.tuple ds)) : SVt X tg iter σ H ds := fun R q => wi (pi_tup peW) (h.w fun v H2 s2 iv => by
  obtain ⟨p, xs, rfl, hp, hx⟩ := im_tup iv
  refine ⟨p, rfl, ⟨xs, SqT.of hp⟩, q (Itt X.K p) H2 (fun H => SqT X.K H p xs) (YAt xs) s2 ?_ (fun H3 t3 => SqT.of (t3 _ _ hp)) fun i H3 x H4 hi t3 hy => ?_⟩
  · rw [← hx.length]; exact walk_tup
  · obtain ⟨rfl, hxi⟩ := hy
    refine ⟨Same.refl _, ?_⟩
    obtain ⟨d, h1, h2⟩ := (hx.mono t3).getV hxi
    exact ⟨d, h1, h2⟩)
/-- range(n) -/
theorem sv_range {n : Nat} {p1 : Pos} (hm : X.mg "range" = none) (ha : DV X a σ H (.int (n : Int))) (hn : n < 2 ^ 62) (hg : Gl X "range" := by rfl) (hs : starEach [a] X.env = [(false, eval a X.env)] := by rfl) :
    SVt X tg (.Call (.Name "range" p1) [a] [] pos) σ H ((List.range n).map fun (k : Nat) => PyData.int (k : Int)) := fun R q => wi (pi_range1 hg hm paW hs) (wa_cons (ha.w fun v H2 s2 iv => wa_nil (by
  cases im_int iv
  refine ⟨(n : Int), rfl, by omega, by omega, ?_⟩
  rw [Int.toNat_natCast]
  refine q (Itr 0 n) H2 (fun _ => True) _ s2 (by rw [List.length_map, List.length_range]; exact walk_range) (fun _ _ => trivial) fun i H3 x H4 hi t3 hy => ?_
  obtain ⟨rfl, rfl⟩ := hy
  rw [List.length_map, List.length_range] at hi
  exact ⟨Same.refl _, .int (i : Int), by simp [hi], by show Im H4 (.int (0 + (i : Int))) _; rw [show (0 : Int) + (i : Int) = (i : Int) by omega]; exact .int _⟩)) hs)
theorem ypair_same {xs ys : Nat → Option V} {n : Nat} {H3 H4 : Hp} {v : V} (h : YPair xs ys n H3 v H4) : ∃ T x y, v = .ref T ∧ Same H3 H4 ∧ H4 T = some (.tup [x, y]) ∧ xs n = some x ∧ ys n = some y := by
  obtain ⟨T, x, y, h1, h2, h3, h4, h5⟩ := h
  refine ⟨T, x, y, h1, ?_, ?_, h4, h5⟩
  · rw [h3]; exact same_new h2
  · rw [h3]; exact upd_same
/-- enumerate of a tuple -/
theorem sv_en {elts : List Expr} {kk : Nat} {tpos p1 : Pos} (hm : X.mg "enumerate" = none) (ha : DV X a σ H (.tuple ds)) (hg : Gl X "enumerate" := by rfl) (hs : starEach [a] X.env = [(false, eval a X.env)] := by rfl) :
    SVt X (.Tuple elts kk tpos) (.Call (.Name "enumerate" p1) [a] [] pos) σ H (enumD 0 ds) := fun R q => wi (pi_en hg hm paW hs) (wa_cons (ha.w fun v H2 s2 iv => wa_nil (by
  obtain ⟨p, xs, rfl, hp, hx⟩ := im_tup iv
  refine ⟨.tup p, xs, rfl, SqT.of hp, ?_⟩
  refine q _ H2 (fun H => Src.has X.K H (.tup p) xs) _ s2 (by rw [enumD_len, ← hx.length]; exact walk_en) (fun H3 t3 => SqT.of (t3 _ _ hp)) fun i H3 x H4 hi t3 hy => ?_
  obtain ⟨T, u, w, rfl, s4, hT, e1, e2⟩ := ypair_same hy
  cases e1
  obtain ⟨d, h1, h2⟩ := (hx.mono t3).getV e2
  exact ⟨s4, _, enumD_get 0 ds i d h1, .tup hT (.cons (.int _) (.cons (h2.mono (tx_same s4)) .nil))⟩)) hs)
/-- zip of a text and a tuple -/
theorem sv_zipS {z : Str} {elts : List Expr} {kk : Nat} {tpos p1 : Pos} (hm : X.mg "zip" = none) (ha : DV X a σ H (.str z)) (hb : DV X b σ H (.tuple ds)) (hg : Gl X "zip" := by rfl) (hs : starEach [a, b] X.env = (false, eval a X.env) :: starEach [b] X.env := by rfl) (hs2 : starEach [b] X.env = [(false, eval b X.env)] := by rfl) (hpl : (backTo pos (starEach [b] X.env)).any (·.1) = false := by rfl) :
    SVt X (.Tuple elts kk tpos) (.Call (.Name "zip" p1) [a, b] [] pos) σ H (zipSD z ds) := fun R q => wi (pi_zp hg hm paW hs hpl) (wa_cons (ha.w fun v H2 s2 iv => wa_cons (hb H2 (tx_same s2) _ fun v' H2' s2' iv' => wa_nil (by
  cases im_str iv
  obtain ⟨p, xs, rfl, hp, hx⟩ := im_tup iv'
  refine ⟨.txt z, .tup p, signs z, xs, rfl, rfl, SqT.of hp, ?_⟩
  have hl : (zipSD z ds).length = min (signs z).length xs.length := by
    unfold zipSD signs
    rw [List.length_zipWith, List.length_map, hx.length]
  refine q _ H2' (fun H => Src.has X.K H (.txt z) (signs z) ∧ Src.has X.K H (.tup p) xs) _ (s2.trans s2') (by rw [hl]; exact walk_zp) (fun H3 t3 => ⟨rfl, SqT.of (t3 _ _ hp)⟩) fun i H3 x H4 hi t3 hy => ?_
  obtain ⟨T, u, w, rfl, s4, hT, e1, e2⟩ := ypair_same hy
  obtain ⟨d, h1, h2⟩ := (hx.mono t3).getV e2
  unfold signs at e1
  rw [List.getElem?_map] at e1
  cases ec : z.cps.toList[i]? with
  | none => rw [ec] at e1; cases e1
  | some c =>
    rw [ec] at e1
    cases e1
    refine ⟨s4, .tuple [.str ⟨#[c]⟩, d], ?_, .tup hT (.cons (.str _) (.cons (h2.mono (tx_same s4)) .nil))⟩
    unfold zipSD
    rw [List.getElem?_zipWith, ec, h1])) hs2) hs)
/-! comprehensions: in the block, whatever its frame -/
def DVb (X : Cx) (sc : Scope) (e : Expr) (σ : St) (H : Hp) (d : PyData) : Prop := ∀ (s : Shared) (H0 : Hp) (C : Addr) (cl : List (Str × Addr)) (fp : List Addr), DV (X.blk s H0 sc (compEnvC sc cl C X.env) fp) e σ H d
def TVb (X : Cx) (sc : Scope) (e : Expr) (σ : St) (H : Hp) (k : Bool) : Prop := ∀ (s : Shared) (H0 : Hp) (C : Addr) (cl : List (Str × Addr)) (fp : List Addr), TV (X.blk s H0 sc (compEnvC sc cl C X.env) fp) e σ H k
def TVbs (X : Cx) (sc : Scope) (es : List Expr) (σ : St) (H : Hp) (k : Bool) : Prop := match es with
  | [] => k = true
  | [e] => TVb X sc e σ H k
  | _ => False
theorem tvbs_w {sc : Scope} {ifs : List Expr} {B : Bool → Hp → Prop} (h : TVbs X sc ifs σ H k) (q : ∀ H', Same H H' → B k H') : BTs X sc ifs σ H B := by
  match ifs, h with
  | [], h => cases (show k = true from h); exact q H (Same.refl _)
  | [e], h => exact fun s H0 C cl fp => (h s H0 C cl fp).w q
  | _ :: _ :: _, h => exact (show False from h).elim
/-- what is kept of data, and what becomes of it -/
def comp (tst : PyData → Bool) (f : PyData → PyData) (ds : List PyData) : List PyData := (ds.filter tst).map f
theorem comp_snoc (tst : PyData → Bool) (f : PyData → PyData) {ds : List PyData} {n : Nat} {d : PyData} (h : ds[n]? = some d) : comp tst f (ds.take (n + 1)) = comp tst f (ds.take n) ++ (if tst d then [f d] else []) := by
  unfold comp
  rw [List.take_add_one, h, List.filter_append, List.map_append]
  congr 1
  cases ht : tst d <;> simp [ht]
theorem comp_len (tst : PyData → Bool) (f : PyData → PyData) (ds : List PyData) : (comp tst f ds).length ≤ ds.length := by
  unfold comp
  rw [List.length_map]
  exact List.length_filter_le _ _
/-- the reading of a comprehension over data; P d σ2: the slots behind the target's store -/
theorem lc_data {sc : Scope} {ifs : List Expr} {g : TG} {vs : List Nat} {Q : VK} (P : PyData → St → Hp → Prop) (tst : PyData → Bool) (f : PyData → PyData) (hs : SV X tg iter σ H ds) (hn : ds.length ≤ 100000)
    (hg : ∀ H3 v d, Im H3 v d → d ∈ ds → Tx H H3 → ∀ K : St → Hp → Prop, (∀ σ2, wipe σ2 vs = wipe σ vs → P d σ2 H3 → K σ2 H3) → g v (wipe σ vs) H3 K)
    (hP : ∀ d σ2 H3 H4, P d σ2 H3 → Tx H3 H4 → P d σ2 H4)
    (ht : ∀ H3 d σ2, d ∈ ds → Tx H H3 → P d σ2 H3 → TVbs X sc ifs σ2 H3 (tst d))
    (he : ∀ H3 d σ2, d ∈ ds → Tx H H3 → P d σ2 H3 → tst d = true → DVb X sc elt σ2 H3 (f d))
    (q : ∀ p ws H', H p = none → Same H H' → H' p = some (.lst ws) → ImAll H' ws (comp tst f ds) → Q (.ref p) H') :
    tLc (WI X tg iter) g (BTs X sc ifs) (BE X sc elt) vs σ H Q := by
  refine hs _ fun J H2 G YY s2 w hG hY => ?_
  intro D hD
  refine lc_it w (fun n H3 => n ≤ ds.length ∧ Same H2 H3 ∧ ∃ acc, H3 D = some (.lst acc) ∧ ImAll H3 acc (comp tst f (ds.take n))) ⟨Nat.zero_le _, same_new hD, [], upd_same, .nil⟩ (fun n H3 _ h => hG H3 h.2.1) ?_ ?_
  · intro n x H3 H4 hlt ⟨hle, s3, acc, hacc, hia⟩ hy
    obtain ⟨s4, d, hd, iv⟩ := hY n H3 x H4 hlt s3 hy
    have hmem : d ∈ ds := List.mem_of_getElem? hd
    have t4 : Tx H H4 := tx_same (s2.trans (s3.trans s4))
    refine hg H4 x d iv hmem t4 _ fun σ2 hw hp => ⟨hw, ?_⟩
    refine tvbs_w (ht H4 d σ2 hmem t4 hp) fun H5 s5 => ?_
    have t5 : Tx H H5 := t4.trans (tx_same s5)
    have e5 : Same H3 H5 := s4.trans s5
    cases htd : tst d with
    | false =>
      refine iteF ⟨hlt, s3.trans e5, acc, e5 _ _ hacc, ?_⟩
      rw [comp_snoc tst f hd, htd]
      simp only [Bool.false_eq_true, if_false, List.append_nil]
      exact hia.mono (tx_same e5)
    | true =>
      refine iteT fun s H0 C cl fp => (he H5 d σ2 hmem t5 (hP _ _ _ _ hp (tx_same s5)) htd s H0 C cl fp).w fun v H6 s6 iv6 => ?_
      have e6 : Same H3 H6 := e5.trans s6
      have hz := hia.length
      have hc := comp_len tst f (ds.take n)
      rw [List.length_take] at hc
      refine ⟨acc, e6 _ _ hacc, Nat.lt_of_le_of_lt (show acc.length ≤ 100000 by omega) (by decide), hlt, ?_, acc ++ [v], upd_same, ?_⟩
      · exact fun b o eb => by
          have nb : b ≠ D := ne_of_none eb hD
          rw [upd_ne nb]
          exact e6 _ _ (s3 _ _ eb)
      · have tm : Tx H6 (upd H6 D (.lst (acc ++ [v]))) := tx_mut (Tx.refl _) fun xs z => by
          rw [e6 _ _ hacc] at z
          cases z
        rw [comp_snoc tst f hd, htd]
        exact ((hia.mono (tx_same e6)).mono tm).append (.cons (iv6.mono tm) .nil)
  · intro H3 ⟨_, s3, acc, hacc, hia⟩
    rw [List.take_length] at hia
    exact q D acc H3 (s2.free hD) (s2.trans s3) hacc hia
/-- [elt for x in iter if ..], one name -/
theorem w_lc1 {sc : Scope} {ifs : List Expr} {n : Nat} {p1 : Pos} {Q : VK} (tst : PyData → Bool) (f : PyData → PyData) (hc : X.calm = true) (hN : X.N.Nodup) (ok : BlkOk X.N X.env.scope sc [(x, n)]) (hs : SV X (.Name x p1) iter σ H ds) (hn : ds.length ≤ 100000)
    (ht : ∀ H3 d v, d ∈ ds → Tx H H3 → Im H3 v d → TVbs X sc ifs ((σ.set n none).set n (some v)) H3 (tst d))
    (he : ∀ H3 d v, d ∈ ds → Tx H H3 → Im H3 v d → tst d = true → DVb X sc elt ((σ.set n none).set n (some v)) H3 (f d))
    (q : ∀ p ws H', H p = none → Same H H' → H' p = some (.lst ws) → ImAll H' ws (comp tst f ds) → Q (.ref p) H')
    (hi : X.N[n]? = some x := by rfl) (hx : Loc (relabel sc X.env) x := by first | exact Or.inl rfl | exact Or.inr rfl) (hf : (sc.names.lookup x == some .cell) = true ∨ (relabel sc X.env).names.lookup x = some .local := by first | exact .inr rfl | exact .inl rfl)
    (hss : ∀ x, foldedSetIterable iter X.env x = pure x := by intro _; rfl) :
    WE X (.ListComp elt [⟨.Name x p1, iter, ifs, 0⟩] sc pos) σ H Q :=
  w_lc [(x, n)] hc hN ok (fun s H0 C cl fp => pg_name (i := n) hN hi hx hf)
    (lc_data (fun d σ2 H3 => ∃ v, σ2 = (σ.set n none).set n (some v) ∧ Im H3 v d) tst f hs hn
      (fun H3 v d iv hm t K k => k _ (by show ((σ.set n none).set n (some v)).set n none = σ.set n none; rw [List.set_set, List.set_set]) ⟨v, rfl, iv⟩)
      (fun d σ2 H3 H4 ⟨v, e, iv⟩ t => ⟨v, e, iv.mono t⟩)
      (fun H3 d σ2 hm t ⟨v, e, iv⟩ => by subst e; exact ht H3 d v hm t iv)
      (fun H3 d σ2 hm t ⟨v, e, iv⟩ hd => by subst e; exact he H3 d v hm t iv hd) q) hss
/-- [elt for x, y in iter if ..] -/
theorem w_lc2 {sc : Scope} {ifs : List Expr} {n m kk : Nat} {p1 p2 p3 : Pos} {Q : VK} (tst : PyData → Bool) (f : PyData → PyData) (hc : X.calm = true) (hN : X.N.Nodup) (ok : BlkOk X.N X.env.scope sc [(x, n), (y, m)]) (hs : SV X (.Tuple [.Name x p1, .Name y p2] kk p3) iter σ H ds) (hn : ds.length ≤ 100000)
    (hd : ∀ d ∈ ds, ∃ u v, d = .tuple [u, v])
    (ht : ∀ H3 d1 d2 u v, .tuple [d1, d2] ∈ ds → Tx H H3 → Im H3 u d1 → Im H3 v d2 → TVbs X sc ifs ((((σ.set m none).set n none).set n (some u)).set m (some v)) H3 (tst (.tuple [d1, d2])))
    (he : ∀ H3 d1 d2 u v, .tuple [d1, d2] ∈ ds → Tx H H3 → Im H3 u d1 → Im H3 v d2 → tst (.tuple [d1, d2]) = true → DVb X sc elt ((((σ.set m none).set n none).set n (some u)).set m (some v)) H3 (f (.tuple [d1, d2])))
    (q : ∀ p ws H', H p = none → Same H H' → H' p = some (.lst ws) → ImAll H' ws (comp tst f ds) → Q (.ref p) H')
    (hi : X.N[n]? = some x := by rfl) (hj : X.N[m]? = some y := by rfl) (hnm : n ≠ m := by decide) (hx : Loc (relabel sc X.env) x := by first | exact Or.inl rfl | exact Or.inr rfl) (hy : Loc (relabel sc X.env) y := by first | exact Or.inl rfl | exact Or.inr rfl)
    (hf : (sc.names.lookup x == some .cell) = true ∨ (relabel sc X.env).names.lookup x = some .local := by first | exact .inr rfl | exact .inl rfl) (hf2 : (sc.names.lookup y == some .cell) = true ∨ (relabel sc X.env).names.lookup y = some .local := by first | exact .inr rfl | exact .inl rfl)
    (hss : ∀ x, foldedSetIterable iter X.env x = pure x := by intro _; rfl) :
    WE X (.ListComp elt [⟨.Tuple [.Name x p1, .Name y p2] kk p3, iter, ifs, 0⟩] sc pos) σ H Q :=
  w_lc (g := gTup X.K 2 (gCons (gName n) (gCons (gName m) gNil))) [(x, n), (y, m)] hc hN ok (fun s H0 C cl fp => pg_tup (X := X.blk s H0 sc (compEnvC sc cl C X.env) fp) hc (pgs_cons (pg_name (i := n) hN hi hx hf) (pgs_cons (pg_name (i := m) hN hj hy hf2) pgs_nil)))
    (lc_data (fun d σ2 H3 => ∃ d1 d2 u v, d = .tuple [d1, d2] ∧ σ2 = (((σ.set m none).set n none).set n (some u)).set m (some v) ∧ Im H3 u d1 ∧ Im H3 v d2) tst f hs hn
      (fun H3 v d iv hm t K k => by
        obtain ⟨d1, d2, rfl⟩ := hd d hm
        obtain ⟨p, xs, rfl, hp, hx⟩ := im_tup iv
        cases hx with
        | cons i1 h2 =>
          cases h2 with
          | cons i2 h3 =>
            cases h3
            refine ⟨p, _, rfl, SqT.of hp, rfl, _, _, rfl, _, _, rfl, rfl, k _ ?_ ⟨d1, d2, _, _, rfl, rfl, i1, i2⟩⟩
            show ((((((σ.set m none).set n none).set n (some _)).set m (some _)).set m none).set n none) = (σ.set m none).set n none
            rw [List.set_set, List.set_set, List.set_comm _ _ hnm, List.set_set, List.set_set])
      (fun d σ2 H3 H4 ⟨d1, d2, u, v, e1, e, i1, i2⟩ t => ⟨d1, d2, u, v, e1, e, i1.mono t, i2.mono t⟩)
      (fun H3 d σ2 hm t ⟨d1, d2, u, v, e1, e, i1, i2⟩ => by subst e1; subst e; exact ht H3 d1 d2 u v hm t i1 i2)
      (fun H3 d σ2 hm t ⟨d1, d2, u, v, e1, e, i1, i2⟩ hd => by subst e1; subst e; exact he H3 d1 d2 u v hm t i1 i2 hd) q) hss
end
end Tr
set_option Elab.async false
set_option linter.all false
set_option maxRecDepth 100000
set_option maxHeartbeats 4000000
/-! a def of the text, from its body to its promise -/
namespace Tr
open PySem PySem.Spec PyProof.Rows L2
abbrev Fn (K : PySem.W.Frag) (x qual : Str) (st : Stmt) (f : Addr) (fd : FuncData) : Prop := FunD K x qual (defArgs st) (defBody st) (defScope st) [] [] f fd
/-- where a def's body runs -/
abbrev Bx (P : Program) (w : World) (K : PySem.W.Frag) (mg : Str → Option Value) (base : Heap) (N : List Str) (qual : Str) (st : Stmt) (f : Addr) (cdv : Value) (A : Around) (outer : List Env) (s : Shared) (H : Hp) (E : XK) : Cx :=
  (cxOf CX0 P w K mg base N qual (defScope st) f cdv A outer s H E).nox
/-- how arguments come to parameters -/
abbrev Bnd (x qual : Str) (st : Stmt) (ps : List Str) : Prop := ∀ (kV doc pm : Value) (an : Option Addr) (cdv ct : Value) (us : List Value), us.length = ps.length → bindArgs (PySem.W.fnOf x qual (defArgs st) (defBody st) (defScope st) .none kV doc pm an cdv ct) ⟨us, []⟩ = pure (ps.zip us)
section
variable {P : Program} {w : World} {K : PySem.W.Frag} {mg : Str → Option Value} {base : Heap} {x qual m : Str} {st : Stmt} {f C : Addr} {fd : FuncData} {N ps : List Str} {k : Nat} {sp : Sp}
theorem fn_mk (F : Fn K x qual st f fd) (S : FnScope N ps (defScope st)) (len : ∀ vs H Q E, sp vs H Q E → vs.length = ps.length)
    (body : ∀ (cdv : Value) (A : Around) (outer : List Env) (s : Shared) (H : Hp) (vs : List V) (Q : VK) (E : XK), Room k (A.deeper (envOfC qual (defScope st) s.heap.objs.size f cdv)) → sp vs H Q E →
      WS (Bx P w K mg base N qual st f cdv A outer s H E) (defBody st) { nx := fun _ H' => Q .non H', rt := Q } (start N vs) H) : FnOk P w K mg base CX0 (k + 1) f fd ps sp :=
  F.ok S len fun cdv A outer s H vs Q E hr h => ⟨_, PSs.nox pssW, body cdv A outer s H vs Q E hr h⟩
theorem fc_mk (F : Fn K x x st f fd) (g : mg x = some (.ref f)) (b : Bnd x x st ps) (S : FnScope N ps (defScope st)) (len : ∀ vs H Q E, sp vs H Q E → vs.length = ps.length)
    (body : ∀ (cdv : Value) (A : Around) (outer : List Env) (s : Shared) (H : Hp) (vs : List V) (Q : VK) (E : XK), Room k (A.deeper (envOfC x (defScope st) s.heap.objs.size f cdv)) → sp vs H Q E →
      WS (Bx P w K mg base N x st f cdv A outer s H E) (defBody st) { nx := fun _ H' => Q .non H', rt := Q } (start N vs) H) : Fc P w K mg base (k + 1) x sp :=
  ⟨f, fd, ps, fn_mk F S len body, g, F.kp, F.bindsN b⟩
theorem mc_mk (c : Cls K C) (me : Meth K C m f) (F : Fn K m qual st f fd) (b : Bnd m qual st ps) (S : FnScope N ps (defScope st)) (len : ∀ vs H Q E, sp vs H Q E → vs.length = ps.length)
    (body : ∀ (cdv : Value) (A : Around) (outer : List Env) (s : Shared) (H : Hp) (vs : List V) (Q : VK) (E : XK), Room k (A.deeper (envOfC qual (defScope st) s.heap.objs.size f cdv)) → sp vs H Q E →
      WS (Bx P w K mg base N qual st f cdv A outer s H E) (defBody st) { nx := fun _ H' => Q .non H', rt := Q } (start N vs) H) : Mc P w K mg base (k + 1) C m sp :=
  ⟨f, fd, ps, c, me, fn_mk F S len body, F.bindsN b⟩
theorem kc_mk (M : Mk K C f) (g : mg x = some (.ref C)) (F : Fn K "__init__" qual st f fd) (b : Bnd "__init__" qual st ps) (S : FnScope N ps (defScope st)) (len : ∀ vs H Q E, sp vs H Q E → vs.length = ps.length)
    (body : ∀ (cdv : Value) (A : Around) (outer : List Env) (s : Shared) (H : Hp) (vs : List V) (Q : VK) (E : XK), Room k (A.deeper (envOfC qual (defScope st) s.heap.objs.size f cdv)) → sp vs H Q E →
      WS (Bx P w K mg base N qual st f cdv A outer s H E) (defBody st) { nx := fun _ H' => Q .non H', rt := Q } (start N vs) H) : Kc P w K mg base (k + 1) x C sp :=
  ⟨f, fd, ps, M, fn_mk F S len body, g, F.bindsN b⟩
theorem Fc.mono {j : Nat} (F : Fc P w K mg base k x sp) (h : k ≤ j) : Fc P w K mg base j x sp := by
  obtain ⟨f, fd, ps, h1, h2⟩ := F.ex
  exact ⟨f, fd, ps, h1.mono h, h2⟩
theorem Fc.imp {sp' : Sp} (F : Fc P w K mg base k x sp) (h : ∀ vs H Q E, sp' vs H Q E → sp vs H Q E) : Fc P w K mg base k x sp' := by
  obtain ⟨f, fd, ps, h1, h2⟩ := F.ex
  exact ⟨f, fd, ps, h1.imp h, h2⟩
/-- a def from data to data: its body with the arguments' data -/
theorem fc_data {F' : List PyData → Option PyData} (F : Fn K x x st f fd) (g : mg x = some (.ref f)) (b : Bnd x x st ps) (S : FnScope N ps (defScope st)) (len : ∀ ds d, F' ds = some d → ds.length = ps.length)
    (body : ∀ (cdv : Value) (A : Around) (outer : List Env) (s : Shared) (H : Hp) (vs : List V) (ds : List PyData) (d : PyData) (Q : VK) (E : XK), Room k (A.deeper (envOfC x (defScope st) s.heap.objs.size f cdv)) → ImAll H vs ds → F' ds = some d → (∀ v H', Same H H' → Im H' v d → Q v H') →
      WS (Bx P w K mg base N x st f cdv A outer s H E) (defBody st) { nx := fun _ H' => Q .non H', rt := Q } (start N vs) H) : Fc P w K mg base (k + 1) x (spF F') :=
  fc_mk F g b S (fun vs H Q E ⟨ds, d, h1, h2, _⟩ => by rw [h1.length]; exact len ds d h2) fun cdv A outer s H vs Q E hr ⟨ds, d, h1, h2, h3⟩ => body cdv A outer s H vs ds d Q E hr h1 h2 h3
end
/-- the answer of a whole expression, where the rest is handed it -/
theorem ret_ok {D : Ends} {Q : VK} {H : Hp} {d : PyData} (h : ∀ v H', Same H H' → Im H' v d → Q v H') {H1 : Hp} (s : Same H H1) : ∀ v H', Same H1 H' → Im H' v d → Q v H' := fun v H' s' i => h v H' (s.trans s') i
end Tr
set_option Elab.async false
set_option linter.all false
set_option maxRecDepth 100000
set_option maxHeartbeats 4000000
/-! statements over data, from a base heap on -/
namespace Tr
open PySem PySem.Spec PyProof.Rows L2
def scal1 : V → Bool
  | .non => true
  | .bl _ => true
  | .int _ => true
  | .str _ => true
  | _ => false
def dOf : V → PyData
  | .bl b => .bool b
  | .int i => .int i
  | .str x => .str x
  | _ => .none
theorem im_dOf {H : Hp} {v : V} (h : scal1 v = true) : Im H v (dOf v) := by
  cases v with
  | non => exact .non
  | bl b => exact .bl b
  | int i => exact .int i
  | str x => exact .str x
  | _ => cases h
theorem lookup_all {α : Type} {p : α → Bool} {x : Str} {v : α} : ∀ {kvs : List (Str × α)}, kvs.all (fun q => p q.2) = true → kvs.lookup x = some v → p v = true
  | [], _, h => by cases h
  | (k, u) :: r, ha, h => by
    rw [List.all_cons, Bool.and_eq_true] at ha
    by_cases e : x = k
    · subst e
      have : List.lookup x ((x, u) :: r) = some u := by simp [List.lookup]
      rw [this] at h
      cases h
      exact ha.1
    · have z : (x == k) = false := by simpa using e
      have : List.lookup x ((k, u) :: r) = r.lookup x := by simp [List.lookup, z]
      rw [this] at h
      exact lookup_all ha.2 h
section
variable {X : Cx} {e a b c o tg iter elt : Expr} {es rest : List Expr} {sts p q : List Stmt} {σ : St} {H H0 : Hp} {D : Ends} {pos : Pos} {d d1 d2 : PyData} {ds : List PyData} {k k1 k2 : Bool} {i j : Int} {x y : Str}
theorem ws_retE (s : Same H0 H) (h : DV X e σ H0 d) (q : ∀ v H', Same H0 H' → Im H' v d → D.rt v H') : WS X (.Return (some e) pos :: sts) D σ H := ws_ret ((h.mono (tx_same s)).w fun v H' s' iv => q v H' (s.trans s') iv)
theorem ws_ifE (s : Same H0 H) (h : TV X c σ H0 k) (h1 : k = true → ∀ H', Same H0 H' → WS X p { D with nx := WS X sts D } σ H') (h2 : k = false → ∀ H', Same H0 H' → WS X q { D with nx := WS X sts D } σ H') : WS X (.If c p q pos :: sts) D σ H :=
  ws_ifD (h.mono (tx_same s)) (fun e H' s' => h1 e H' (s.trans s')) (fun e H' s' => h2 e H' (s.trans s'))
/-- if c: return ..  (or another body that does not go on), nothing else -/
theorem ws_ifR (s : Same H0 H) (h : TV X c σ H0 k) (h1 : k = true → ∀ H', Same H0 H' → WS X p { D with nx := WS X sts D } σ H') (h2 : k = false → ∀ H', Same H0 H' → WS X sts D σ H') : WS X (.If c p [] pos :: sts) D σ H :=
  ws_ifE s h h1 fun e H' s' => ws_nil (h2 e H' s')
theorem ws_setE {n : Nat} {p1 : Pos} (hN : X.N.Nodup) (s : Same H0 H) (h : DV X e σ H0 d) (q : ∀ v H', Same H0 H' → Im H' v d → WS X sts D (σ.set n (some v)) H') (hi : X.N[n]? = some x := by rfl) (hx : Loc X.env.scope x := by first | exact Or.inl rfl | exact Or.inr rfl)
    (hs : swapsWith e (some (.Name x p1)) pos.line X.env = pure false := by rfl) (hf : X.fn x = true ∨ X.env.scope.names.lookup x = some .local := by first | exact .inl rfl | exact .inr rfl) : WS X (.Assign [.Name x p1] e pos :: sts) D σ H :=
  ws_set (i := n) hN ((h.mono (tx_same s)).w fun v H' s' iv => q v H' (s.trans s') iv) hi hx hs hf
/-- D.get(x, None), D a table of the top -/
theorem dv_kget {T : Addr} {n : Str} {kvs : List (Str × V)} {m : Nat} {p1 p2 apos : Pos} (hn : X.mg n = some (.ref T)) (S : STab X.K X.w T kvs) (hv : kvs.all (fun q => scal1 q.2) = true) (ha : DV X a σ H (.str x)) (hg : Gl X n := by rfl) (hd : (n == ("__debug__" : Str)) = false := by decide)
    (M : M2 X (.Name n p1) "get" apos a (.Constant .none m p2) pos := by exact ⟨rfl, rfl, rfl, rfl⟩) : DV X (.Call (.Attribute (.Name n p1) "get" apos) [a, .Constant .none m p2] [] pos) σ H (dOf ((kvs.lookup x).getD .non)) := fun H1 t Q q =>
  we (pe_kget S peW peW peW M) (w_glob (v := .ref T) hn rfl ⟨rfl, ha H1 t _ fun v H2 s2 iv => by
    cases im_str iv
    refine ⟨x, rfl, w_non (q _ H2 s2 ?_)⟩
    cases hl : kvs.lookup x with
    | none => exact .non
    | some u => exact im_dOf (lookup_all hv hl)⟩ hg hd)
/-- D[x], D a table of the top, x a key -/
theorem ix_kd {T : Addr} {kvs : List (Str × V)} (S : STab X.K X.w T kvs) : IxR X (fun x y H Q => ∃ z v, x = .ref T ∧ y = .str z ∧ kvs.lookup z = some v ∧ Q v H) := by
  intro value slice pins s σ H x y v u Q I rx ry h hs
  obtain ⟨z, v0, rfl, rfl, hl, q⟩ := h
  cases rx
  obtain ⟨t, rfl⟩ := ry
  obtain ⟨es, n, D⟩ := S.kd
  obtain ⟨u0, e1, r1⟩ := S.some_ z v0 hl
  exact subscriptTail_builtinR (x := u0) (kd_type D I) PySem.F.slot_dict_getitem.lookup
    (wpAny_getItem_of (Q := fun r s' => r = u0 ∧ EP X pins σ Q r s') (PySem.strKind_is X.prog X.w z t) (PySem.W.mapOf_K (prog := X.prog) I.kIn D.at_ D.lit) (PySem.W.find_K D.at_ e1) ⟨rfl, v0, H, I.tok _, r1, q⟩) hs
theorem dv_kix {T : Addr} {n : Str} {kvs : List (Str × V)} {v : V} {p1 : Pos} (hn : X.mg n = some (.ref T)) (S : STab X.K X.w T kvs) (ha : DV X a σ H (.str x)) (hl : kvs.lookup x = some v) (hv : scal1 v = true) (hg : Gl X n := by rfl) (hd : (n == ("__debug__" : Str)) = false := by decide) (hs : PlainIx a := by exact fun _ _ => rfl) :
    DV X (.Subscript (.Name n p1) a pos) σ H (dOf v) := fun H1 t Q q =>
  w_ix (ix_kd S) (w_glob (v := .ref T) hn rfl (ha H1 t _ fun u H2 s2 iu => ⟨x, v, rfl, im_str iu, hl, q v H2 s2 (im_dOf hv)⟩) hg hd) hs
theorem lv_lc1 {sc : Scope} {ifs : List Expr} {n : Nat} {p1 : Pos} (tst : PyData → Bool) (f : PyData → PyData) (hc : X.calm = true) (hN : X.N.Nodup) (ok : BlkOk X.N X.env.scope sc [(x, n)]) (hs : ∀ H1, Tx H H1 → SVt X (.Name x p1) iter σ H1 ds) (hn : ds.length ≤ 100000)
    (ht : ∀ H3 d v, d ∈ ds → Tx H H3 → Im H3 v d → TVbs X sc ifs ((σ.set n none).set n (some v)) H3 (tst d))
    (he : ∀ H3 d v, d ∈ ds → Tx H H3 → Im H3 v d → tst d = true → DVb X sc elt ((σ.set n none).set n (some v)) H3 (f d))
    (hi : X.N[n]? = some x := by rfl) (hx : Loc (relabel sc X.env) x := by first | exact Or.inl rfl | exact Or.inr rfl) (hf : (sc.names.lookup x == some .cell) = true ∨ (relabel sc X.env).names.lookup x = some .local := by first | exact .inr rfl | exact .inl rfl)
    (hss : ∀ x, foldedSetIterable iter X.env x = pure x := by intro _; rfl) : LV X (.ListComp elt [⟨.Name x p1, iter, ifs, 0⟩] sc pos) σ H (comp tst f ds) := fun H1 t Q q =>
  w_lc1 tst f hc hN ok (hs H1 t).sv hn (fun H3 d v hm t3 => ht H3 d v hm (t.trans t3)) (fun H3 d v hm t3 => he H3 d v hm (t.trans t3)) q hi hx hf hss
theorem lv_lc2 {sc : Scope} {ifs : List Expr} {n m kk : Nat} {p1 p2 p3 : Pos} (tst : PyData → Bool) (f : PyData → PyData) (hc : X.calm = true) (hN : X.N.Nodup) (ok : BlkOk X.N X.env.scope sc [(x, n), (y, m)]) (hs : ∀ H1, Tx H H1 → SVt X (.Tuple [.Name x p1, .Name y p2] kk p3) iter σ H1 ds) (hn : ds.length ≤ 100000)
    (hd : ∀ d ∈ ds, ∃ u v, d = .tuple [u, v])
    (ht : ∀ H3 d1 d2 u v, .tuple [d1, d2] ∈ ds → Tx H H3 → Im H3 u d1 → Im H3 v d2 → TVbs X sc ifs ((((σ.set m none).set n none).set n (some u)).set m (some v)) H3 (tst (.tuple [d1, d2])))
    (he : ∀ H3 d1 d2 u v, .tuple [d1, d2] ∈ ds → Tx H H3 → Im H3 u d1 → Im H3 v d2 → tst (.tuple [d1, d2]) = true → DVb X sc elt ((((σ.set m none).set n none).set n (some u)).set m (some v)) H3 (f (.tuple [d1, d2])))
    (hi : X.N[n]? = some x := by rfl) (hj : X.N[m]? = some y := by rfl) (hnm : n ≠ m := by decide) (hx : Loc (relabel sc X.env) x := by first | exact Or.inl rfl | exact Or.inr rfl) (hy : Loc (relabel sc X.env) y := by first | exact Or.inl rfl | exact Or.inr rfl)
    (hf : (sc.names.lookup x == some .cell) = true ∨ (relabel sc X.env).names.lookup x = some .local := by first | exact .inr rfl | exact .inl rfl) (hf2 : (sc.names.lookup y == some .cell) = true ∨ (relabel sc X.env).names.lookup y = some .local := by first | exact .inr rfl | exact .inl rfl)
    (hss : ∀ x, foldedSetIterable iter X.env x = pure x := by intro _; rfl) : LV X (.ListComp elt [⟨.Tuple [.Name x p1, .Name y p2] kk p3, iter, ifs, 0⟩] sc pos) σ H (comp tst f ds) := fun H1 t Q q =>
  w_lc2 tst f hc hN ok (hs H1 t).sv hn hd (fun H3 d1 d2 u v hm t3 => ht H3 d1 d2 u v hm (t.trans t3)) (fun H3 d1 d2 u v hm t3 => he H3 d1 d2 u v hm (t.trans t3)) q hi hj hnm hx hy hf hf2 hss
theorem eqv_nil (ds : List PyData) : PyData.eqv (.list ds) (.list []) = ds.isEmpty := by cases ds <;> rfl
theorem eqv_nilT (ds : List PyData) : PyData.eqv (.tuple ds) (.tuple []) = ds.isEmpty := by cases ds <;> rfl
/-- [..] != [] -/
theorem tv_neNil {n : Nat} {p1 : Pos} (hr : Room n X.A) (h : LV X a σ H ds) (hz : SeqAt.shaped (.list ds) = true) : TV X (.Compare a [.NotEq] [.List [] p1] pos) σ H (!ds.isEmpty) := fun H1 t B qq =>
  t_cmp (op_neD hr.units) (h H1 t _ fun p vs H2 hp s2 hv iv => w_lst (wa_nil ⟨Nat.zero_le _, fun r hr => by
    have s3 : Same H2 (upd H2 r (.lst [])) := same_new hr
    refine ⟨.list ds, .list [], .lst (SqL.of (s3 _ _ hv)) (ImAll.dp (iv.mono (tx_same s3))), .lst (SqL.of upd_same) .nil, hz, by decide, _, rfl, ?_⟩
    rw [eqv_nil]
    exact qq _ (s2.trans s3)⟩))
theorem tv_eqNil {n : Nat} {p1 : Pos} (hr : Room n X.A) (h : LV X a σ H ds) (hz : SeqAt.shaped (.list ds) = true) : TV X (.Compare a [.Eq] [.List [] p1] pos) σ H ds.isEmpty := fun H1 t B qq =>
  t_cmp (op_eqD hr.units) (h H1 t _ fun p vs H2 hp s2 hv iv => w_lst (wa_nil ⟨Nat.zero_le _, fun r hr => by
    have s3 : Same H2 (upd H2 r (.lst [])) := same_new hr
    refine ⟨.list ds, .list [], .lst (SqL.of (s3 _ _ hv)) (ImAll.dp (iv.mono (tx_same s3))), .lst (SqL.of upd_same) .nil, hz, by decide, _, rfl, ?_⟩
    rw [eqv_nil]
    exact qq _ (s2.trans s3)⟩))
end
end Tr
set_option Elab.async false
set_option linter.all false
set_option maxRecDepth 100000
set_option maxHeartbeats 4000000
/-! loops over data; what may be compared -/
namespace Tr
open PySem PySem.Spec PyProof.Rows L2
def okD (d : PyData) : Bool := d.canLay0 && decide (d.depth ≤ 60)
theorem okD_lay {d : PyData} (h : okD d = true) : d.canLay0 = true := (Bool.and_eq_true_iff.mp h).1
theorem okD_depth {d : PyData} (h : okD d = true) : d.depth ≤ 60 := of_decide_eq_true (Bool.and_eq_true_iff.mp h).2
theorem canAll {ds : List PyData} : PyData.canLayAll0 ds = true ↔ ∀ d ∈ ds, d.canLay0 = true := by
  induction ds with
  | nil => simp [PyData.canLayAll0]
  | cons x r ih => simp [PyData.canLayAll0, ih]
theorem depAll {ds : List PyData} {n : Nat} : PyData.depthAll ds ≤ n ↔ ∀ d ∈ ds, d.depth ≤ n := by
  induction ds with
  | nil => simp [PyData.depthAll]
  | cons x r ih =>
    simp only [PyData.depthAll, List.forall_mem_cons, ← ih]
    omega
theorem okD_tuple {ds : List PyData} (h : okD (.tuple ds) = true) : ∀ d ∈ ds, okD d = true := fun d hd => by
  have h1 := canAll.mp (okD_lay h) d hd
  have h2 : PyData.depthAll ds + 1 ≤ 60 := okD_depth h
  have h3 := depAll.mp (show PyData.depthAll ds ≤ 59 by omega) d hd
  unfold okD
  rw [h1, decide_eq_true (show d.depth ≤ 60 by omega)]
  rfl
theorem shaped_list {ds : List PyData} (h : ∀ d ∈ ds, okD d = true) : SeqAt.shaped (.list ds) = true := by
  unfold SeqAt.shaped
  have h1 : PyData.canLay0 (.list ds) = true := canAll.mpr fun d hd => okD_lay (h d hd)
  have h2 : PyData.depthAll ds ≤ 60 := depAll.mpr fun d hd => okD_depth (h d hd)
  have h3 : PyData.depth (.list ds) = PyData.depthAll ds + 1 := rfl
  rw [h1, decide_eq_true (show PyData.depth (.list ds) ≤ 64 by omega)]
  rfl
section
variable {X : Cx} {e a b c o tg iter elt : Expr} {es rest : List Expr} {sts p q : List Stmt} {σ : St} {H H0 : Hp} {D : Ends} {pos : Pos} {d d1 d2 : PyData} {ds : List PyData} {k k1 k2 : Bool} {i j : Int} {x y : Str}
/-- for target in data: Pv by the turn, the slots, the heap; the tuples stand -/
theorem ws_forI {g : TG} (r : PG X tg g) (hc : X.calm = true) (hs : SVt X tg iter σ H ds) (Pv : Nat → St → Hp → Prop) (h0 : ∀ H', Same H H' → Pv 0 σ H') (hE : ∀ i σ' H' H'', Pv i σ' H' → Same H' H'' → Pv i σ' H'')
    (hb : ∀ i d v σ' H', ds[i]? = some d → Pv i σ' H' → Im H' v d → g v σ' H' fun σ2 H2 => WS X p { D with nx := fun σ3 H3 => Tx H' H3 ∧ Pv (i + 1) σ3 H3, ct := fun σ3 H3 => Tx H' H3 ∧ Pv (i + 1) σ3 H3, bk := WS X sts D } σ2 H2)
    (hd : ∀ σ' H', Pv ds.length σ' H' → WS X sts D σ' H')
    (mono : ∀ v σ' H' (K K' : St → Hp → Prop), (∀ σ2 H2, K σ2 H2 → K' σ2 H2) → g v σ' H' K → g v σ' H' K') (hp : PassesOwn (model X.prog X.w) X.A X.env X.xe := by exact PassesOwn.never) (hss : ∀ x, foldedSetIterable iter X.env x = pure x := by intro _; rfl) : WS X (.For tg iter p [] pos :: sts) D σ H := by
  refine ws_for r hc (hs _ fun J H2 G YY s2 w hG hY => ?_) hp hss
  refine for_it w (fun i σ' H3 => Tx H2 H3 ∧ Pv i σ' H3) ⟨Tx.refl _, h0 H2 s2⟩ (fun i σ' H3 _ h => hG H3 h.1) ?_ (fun σ' H3 h => hd σ' H3 h.2)
  intro n v σ' H3 H4 hn ⟨t3, hP⟩ hy
  obtain ⟨s4, d, hd', iv⟩ := hY n H3 v H4 hn t3 hy
  refine mono v σ' H4 _ _ (fun σ2 H2' h => ?_) (hb n d v σ' H4 hd' (hE n σ' H3 H4 hP s4) iv)
  intro pins s I
  refine thn (h pins s I) fun f s1 hf => ?_
  cases f with
  | next =>
    obtain ⟨σ3, H5, I5, t5, p5⟩ := hf
    exact ⟨σ3, H5, I5, (t3.trans (tx_same s4)).trans t5, p5⟩
  | cont =>
    obtain ⟨σ3, H5, I5, t5, p5⟩ := hf
    exact ⟨σ3, H5, I5, (t3.trans (tx_same s4)).trans t5, p5⟩
  | brk => exact hf
  | ret u => exact hf
theorem ws_for1 {n : Nat} {p1 : Pos} (hN : X.N.Nodup) (hc : X.calm = true) (hs : SVt X (.Name x p1) iter σ H ds) (Pv : Nat → St → Hp → Prop) (h0 : ∀ H', Same H H' → Pv 0 σ H') (hE : ∀ i σ' H' H'', Pv i σ' H' → Same H' H'' → Pv i σ' H'')
    (hb : ∀ i d v σ' H', ds[i]? = some d → Pv i σ' H' → Im H' v d → WS X p { D with nx := fun σ3 H3 => Tx H' H3 ∧ Pv (i + 1) σ3 H3, ct := fun σ3 H3 => Tx H' H3 ∧ Pv (i + 1) σ3 H3, bk := WS X sts D } (σ'.set n (some v)) H')
    (hd : ∀ σ' H', Pv ds.length σ' H' → WS X sts D σ' H') (hi : X.N[n]? = some x := by rfl) (hx : Loc X.env.scope x := by first | exact Or.inl rfl | exact Or.inr rfl) (hf : X.fn x = true ∨ X.env.scope.names.lookup x = some .local := by first | exact .inl rfl | exact .inr rfl)
    (hp : PassesOwn (model X.prog X.w) X.A X.env X.xe := by exact PassesOwn.never) (hss : ∀ x, foldedSetIterable iter X.env x = pure x := by intro _; rfl) : WS X (.For (.Name x p1) iter p [] pos :: sts) D σ H :=
  ws_forI (g := gName n) (pg_name (i := n) hN hi hx hf) hc hs Pv h0 hE hb hd (fun v σ' H' K K' m h => m _ _ h) hp hss
theorem ws_for2 {n m kk : Nat} {p1 p2 p3 : Pos} (hN : X.N.Nodup) (hc : X.calm = true) (hs : SVt X (.Tuple [.Name x p1, .Name y p2] kk p3) iter σ H ds) (hd2 : ∀ d ∈ ds, ∃ u v, d = .tuple [u, v]) (Pv : Nat → St → Hp → Prop) (h0 : ∀ H', Same H H' → Pv 0 σ H') (hE : ∀ i σ' H' H'', Pv i σ' H' → Same H' H'' → Pv i σ' H'')
    (hb : ∀ i d1 d2 u v σ' H', ds[i]? = some (.tuple [d1, d2]) → Pv i σ' H' → Im H' u d1 → Im H' v d2 → WS X p { D with nx := fun σ3 H3 => Tx H' H3 ∧ Pv (i + 1) σ3 H3, ct := fun σ3 H3 => Tx H' H3 ∧ Pv (i + 1) σ3 H3, bk := WS X sts D } ((σ'.set n (some u)).set m (some v)) H')
    (hd : ∀ σ' H', Pv ds.length σ' H' → WS X sts D σ' H') (hi : X.N[n]? = some x := by rfl) (hj : X.N[m]? = some y := by rfl) (hx : Loc X.env.scope x := by first | exact Or.inl rfl | exact Or.inr rfl) (hy : Loc X.env.scope y := by first | exact Or.inl rfl | exact Or.inr rfl)
    (hf : X.fn x = true ∨ X.env.scope.names.lookup x = some .local := by first | exact .inl rfl | exact .inr rfl) (hf2 : X.fn y = true ∨ X.env.scope.names.lookup y = some .local := by first | exact .inl rfl | exact .inr rfl)
    (hp : PassesOwn (model X.prog X.w) X.A X.env X.xe := by exact PassesOwn.never) (hss : ∀ x, foldedSetIterable iter X.env x = pure x := by intro _; rfl) : WS X (.For (.Tuple [.Name x p1, .Name y p2] kk p3) iter p [] pos :: sts) D σ H :=
  ws_forI (g := gTup X.K 2 (gCons (gName n) (gCons (gName m) gNil))) (pg_tup hc (pgs_cons (pg_name (i := n) hN hi hx hf) (pgs_cons (pg_name (i := m) hN hj hy hf2) pgs_nil))) hc hs Pv h0 hE
    (fun i d v σ' H' hd' hP iv => by
      obtain ⟨d1, d2, rfl⟩ := hd2 d (List.mem_of_getElem? hd')
      obtain ⟨r, xs, rfl, hr, hxs⟩ := im_tup iv
      cases hxs with
      | cons i1 h2 =>
        cases h2 with
        | cons i2 h3 =>
          cases h3
          exact ⟨r, _, rfl, SqT.of hr, rfl, _, _, rfl, _, _, rfl, rfl, hb i d1 d2 _ _ σ' H' hd' hP i1 i2⟩)
    hd (fun v σ' H' K K' m h => by
      obtain ⟨r, xs, h1, h2, h3, u, us, h4, u', us', h5, h6, h7⟩ := h
      exact ⟨r, xs, h1, h2, h3, u, us, h4, u', us', h5, h6, m _ _ h7⟩) hp hss
/-- a, b, c = e, a tuple of data -/
theorem ws_unp3 {n m l kk : Nat} {z : Str} {p1 p2 p3 p4 : Pos} (hN : X.N.Nodup) (hc : X.calm = true) (s : Same H0 H) {d3 : PyData} (h : DV X e σ H0 (.tuple [d1, d2, d3])) (q : ∀ u v t H', Same H0 H' → Im H' u d1 → Im H' v d2 → Im H' t d3 → WS X sts D (((σ.set n (some u)).set m (some v)).set l (some t)) H')
    (hi : X.N[n]? = some x := by rfl) (hj : X.N[m]? = some y := by rfl) (hl : X.N[l]? = some z := by rfl) (hx : Loc X.env.scope x := by first | exact Or.inl rfl | exact Or.inr rfl) (hy : Loc X.env.scope y := by first | exact Or.inl rfl | exact Or.inr rfl) (hz : Loc X.env.scope z := by first | exact Or.inl rfl | exact Or.inr rfl)
    (hf : X.fn x = true ∨ X.env.scope.names.lookup x = some .local := by first | exact .inl rfl | exact .inr rfl) (hf2 : X.fn y = true ∨ X.env.scope.names.lookup y = some .local := by first | exact .inl rfl | exact .inr rfl) (hf3 : X.fn z = true ∨ X.env.scope.names.lookup z = some .local := by first | exact .inl rfl | exact .inr rfl)
    (hs : swapsWithSole [.Tuple [.Name x p1, .Name y p2, .Name z p3] kk p4] e pos.line X.env = pure false := by rfl) (hw : swappedStores [.Tuple [.Name x p1, .Name y p2, .Name z p3] kk p4] e X.env = pure none := by rfl) :
    WS X (.Assign [.Tuple [.Name x p1, .Name y p2, .Name z p3] kk p4] e pos :: sts) D σ H :=
  ws_asg (g := gTup X.K 3 (gCons (gName n) (gCons (gName m) (gCons (gName l) gNil)))) (pg_tup hc (pgs_cons (pg_name (i := n) hN hi hx hf) (pgs_cons (pg_name (i := m) hN hj hy hf2) (pgs_cons (pg_name (i := l) hN hl hz hf3) pgs_nil))))
    ((h.mono (tx_same s)).w fun v H' s' iv => by
      obtain ⟨r, xs, rfl, hr, hxs⟩ := im_tup iv
      cases hxs with
      | cons i1 h2 =>
        cases h2 with
        | cons i2 h3 =>
          cases h3 with
          | cons i3 h4 =>
            cases h4
            exact ⟨r, _, rfl, SqT.of hr, rfl, _, _, rfl, _, _, rfl, _, _, rfl, rfl, q _ _ _ H' (s.trans s') i1 i2 i3⟩) hs hw rfl
theorem ws_unp2 {n m kk : Nat} {p1 p2 p4 : Pos} (hN : X.N.Nodup) (hc : X.calm = true) (s : Same H0 H) (h : DV X e σ H0 (.tuple [d1, d2])) (q : ∀ u v H', Same H0 H' → Im H' u d1 → Im H' v d2 → WS X sts D ((σ.set n (some u)).set m (some v)) H')
    (hi : X.N[n]? = some x := by rfl) (hj : X.N[m]? = some y := by rfl) (hx : Loc X.env.scope x := by first | exact Or.inl rfl | exact Or.inr rfl) (hy : Loc X.env.scope y := by first | exact Or.inl rfl | exact Or.inr rfl)
    (hf : X.fn x = true ∨ X.env.scope.names.lookup x = some .local := by first | exact .inl rfl | exact .inr rfl) (hf2 : X.fn y = true ∨ X.env.scope.names.lookup y = some .local := by first | exact .inl rfl | exact .inr rfl)
    (hs : swapsWithSole [.Tuple [.Name x p1, .Name y p2] kk p4] e pos.line X.env = pure false := by rfl) (hw : swappedStores [.Tuple [.Name x p1, .Name y p2] kk p4] e X.env = pure none := by rfl) :
    WS X (.Assign [.Tuple [.Name x p1, .Name y p2] kk p4] e pos :: sts) D σ H :=
  ws_asg (g := gTup X.K 2 (gCons (gName n) (gCons (gName m) gNil))) (pg_tup hc (pgs_cons (pg_name (i := n) hN hi hx hf) (pgs_cons (pg_name (i := m) hN hj hy hf2) pgs_nil)))
    ((h.mono (tx_same s)).w fun v H' s' iv => by
      obtain ⟨r, xs, rfl, hr, hxs⟩ := im_tup iv
      cases hxs with
      | cons i1 h2 =>
        cases h2 with
        | cons i2 h3 =>
          cases h3
          exact ⟨r, _, rfl, SqT.of hr, rfl, _, _, rfl, _, _, rfl, rfl, q _ _ H' (s.trans s') i1 i2⟩) hs hw rfl
end
end Tr
set_option Elab.async false
set_option linter.all false
set_option maxRecDepth 100000
set_option maxHeartbeats 4000000
/-! lists of data where they stand; displays of dicts; list methods -/
namespace Tr
open PySem PySem.Spec PyProof.Rows L2
/-- a new list, at this heap -/
def LVa (X : Cx) (e : Expr) (σ : St) (H : Hp) (ds : List PyData) : Prop := ∀ Q : VK, (∀ p vs H2, H p = none → Same H H2 → H2 p = some (.lst vs) → ImAll H2 vs ds → Q (.ref p) H2) → WE X e σ H Q
section
variable {X : Cx} {e a b c o tg iter elt : Expr} {es rest : List Expr} {sts p q : List Stmt} {σ : St} {H H0 : Hp} {D : Ends} {pos : Pos} {d d1 d2 : PyData} {ds : List PyData} {k k1 k2 : Bool} {i j : Int} {x y : Str}
theorem LV.at (h : LV X e σ H ds) : LVa X e σ H ds := h H (Tx.refl H)
theorem t_neNil {n : Nat} {p1 : Pos} {B : Bool → Hp → Prop} (hr : Room n X.A) (h : LVa X a σ H ds) (hz : SeqAt.shaped (.list ds) = true) (q : ∀ H', Same H H' → B (!ds.isEmpty) H') : WT X (.Compare a [.NotEq] [.List [] p1] pos) σ H B :=
  t_cmp (op_neD hr.units) (h _ fun p vs H2 hp s2 hv iv => w_lst (wa_nil ⟨Nat.zero_le _, fun r hr => by
    have s3 : Same H2 (upd H2 r (.lst [])) := same_new hr
    refine ⟨.list ds, .list [], .lst (SqL.of (s3 _ _ hv)) (ImAll.dp (iv.mono (tx_same s3))), .lst (SqL.of upd_same) .nil, hz, by decide, _, rfl, ?_⟩
    rw [eqv_nil]
    exact q _ (s2.trans s3)⟩))
/-- a list that stands -/
theorem sv_lst {r : Addr} {vs : List V} (h : ∀ Q : VK, Q (.ref r) H → WE X iter σ H Q) (hl : SqL X.K H r vs) (hi : ImAll H vs ds) : SV X tg iter σ H ds := fun R q => wi (pi_list peW) (h _ ⟨r, rfl, ⟨vs, hl⟩, q (Itl X.K r) H (fun H => SqL X.K H r vs) (YAt vs) (Same.refl H) (by rw [← hi.length]; exact walk_list) (fun H3 s3 => s3.seq hl) fun i H3 x H4 _ s3 hy => by
  obtain ⟨rfl, hx⟩ := hy
  obtain ⟨d, h1, h2⟩ := (hi.mono (tx_same s3)).getV hx
  exact ⟨Same.refl _, d, h1, h2⟩⟩)
theorem w_lenL {r : Addr} {vs : List V} {p1 : Pos} {Q : VK} (hm : X.mg "len" = none) (h : ∀ Q : VK, Q (.ref r) H → WE X a σ H Q) (hl : SqL X.K H r vs) (q : Q (.int (vs.length : Int)) H) (hg : Gl X "len" := by rfl) (he : starEach [a] X.env = [(false, eval a X.env)] := by rfl) : WE X (.Call (.Name "len" p1) [a] [] pos) σ H Q :=
  w_callB call_len_seq hm PySem.boot_len (wa_cons (h _ (wa_nil ⟨r, vs, rfl, .inl hl, q⟩)) he) hg (he := he)
/-- a name's value -/
theorem w_vv (n : Nat) {v : V} (h : σ[n]? = some (some v)) (hN : X.N[n]? = some x := by rfl) (hv : Vis X.env.scope x := by first | exact Or.inl rfl | exact Or.inr (Or.inl rfl) | exact Or.inr (Or.inr rfl)) (hdb : (x == ("__debug__" : Str)) = false := by decide)
    (hcd : (x == ("__classdict__" : Str)) = false := by decide) : ∀ Q : VK, Q v H → WE X (.Name x pos) σ H Q := fun _ q => w_v n h q hN hv hdb hcd
/-- a display of a dict: its pairs' values -/
def DP (X : Cx) : List (Option Expr) → List Expr → St → Hp → List (V × V) → Prop
  | some ka :: ks, va :: vs, σ, H, (u, v) :: ps => (∀ Q : VK, Q u H → WE X ka σ H Q) ∧ (∀ Q : VK, Q v H → WE X va σ H Q) ∧ DP X ks vs σ H ps
  | [], [], _, _, [] => True
  | _, _, _, _, _ => False
/-- x.append(e) -/
theorem w_append {r : Addr} {vs : List V} {v : V} {apos : Pos} {Q : VK} (h : ∀ Q : VK, Q (.ref r) H → WE X o σ H Q) (hr : H r = some (.lst vs)) (he : ∀ Q : VK, Q v H → WE X e σ H Q) (hl : vs.length < 1000000) (q : Q .non (upd H r (.lst (vs ++ [v]))))
    (hbase : attributeBase o "append" X.env (eval o X.env) = eval o X.env := by rfl)
    (hfew : ((backTo pos (starEach [e] X.env)).all (fun x => !x.1) && (backToKw pos (keywordEach [] X.env)).all (fun x => x.1.isSome)
      && decide (([e] : List Expr).length + ([] : List Keyword).length + (if ([] : List Keyword).isEmpty then 0 else 1) < 30)) = true := by rfl)
    (hline : (apos.endLine == pos.line) = true := by rfl) (hs : starEach [e] X.env = (false, eval e X.env) :: starEach [] X.env := by rfl) : WE X (.Call (.Attribute o "append" apos) [e] [] pos) σ H Q :=
  w_bm PySem.F.plainAttrs_list PySem.F.slot_list_append PySem.F.type_list_append mt_append (h _ ⟨.inl ⟨rfl, _, SqL.of hr⟩, wa_cons (he _ (wa_nil ⟨r, vs, v, rfl, rfl, hr, Nat.lt_trans hl (by decide), q⟩)) hs⟩) hbase hfew hline hs rfl
end
end Tr
set_option Elab.async false
set_option linter.all false
set_option maxRecDepth 100000
set_option maxHeartbeats 4000000
/-! comprehensions whose block reads the heap where it stands -/
namespace Tr
open PySem PySem.Spec PyProof.Rows L2
section
variable {X : Cx} {e a b c o tg iter elt : Expr} {es rest : List Expr} {sts p q : List Stmt} {σ : St} {H : Hp} {D : Ends} {pos : Pos} {d d1 d2 : PyData} {ds : List PyData} {k k1 k2 : Bool} {i j : Int} {x y : Str}
def DAb (X : Cx) (sc : Scope) (e : Expr) (σ : St) (H : Hp) (d : PyData) : Prop := ∀ (s : Shared) (H0 : Hp) (C : Addr) (cl : List (Str × Addr)) (fp : List Addr) (Q : VK), (∀ v H', Same H H' → Im H' v d → Q v H') → WE (X.blk s H0 sc (compEnvC sc cl C X.env) fp) e σ H Q
def TAb (X : Cx) (sc : Scope) (e : Expr) (σ : St) (H : Hp) (k : Bool) : Prop := ∀ (s : Shared) (H0 : Hp) (C : Addr) (cl : List (Str × Addr)) (fp : List Addr) (B : Bool → Hp → Prop), (∀ H', Same H H' → B k H') → WT (X.blk s H0 sc (compEnvC sc cl C X.env) fp) e σ H B
def TAbs (X : Cx) (sc : Scope) (es : List Expr) (σ : St) (H : Hp) (k : Bool) : Prop := match es with
  | [] => k = true
  | [e] => TAb X sc e σ H k
  | _ => False
theorem tabs_w {sc : Scope} {ifs : List Expr} {B : Bool → Hp → Prop} (h : TAbs X sc ifs σ H k) (q : ∀ H', Same H H' → B k H') : BTs X sc ifs σ H B := by
  match ifs, h with
  | [], h => cases (show k = true from h); exact q H (Same.refl _)
  | [e], h => exact fun s H0 C cl fp => h s H0 C cl fp B q
  | _ :: _ :: _, h => exact (show False from h).elim
/-- the reading of a comprehension over data; P d σ2: the slots behind the target's store -/
theorem lc_at {sc : Scope} {ifs : List Expr} {g : TG} {vs : List Nat} {Q : VK} (P : PyData → St → Hp → Prop) (tst : PyData → Bool) (f : PyData → PyData) (hs : SV X tg iter σ H ds) (hn : ds.length ≤ 100000)
    (hg : ∀ H3 v d, Im H3 v d → d ∈ ds → Same H H3 → ∀ K : St → Hp → Prop, (∀ σ2, wipe σ2 vs = wipe σ vs → P d σ2 H3 → K σ2 H3) → g v (wipe σ vs) H3 K)
    (hP : ∀ d σ2 H3 H4, P d σ2 H3 → Same H3 H4 → P d σ2 H4)
    (ht : ∀ H3 d σ2, d ∈ ds → Same H H3 → P d σ2 H3 → TAbs X sc ifs σ2 H3 (tst d))
    (he : ∀ H3 d σ2, d ∈ ds → Same H H3 → P d σ2 H3 → tst d = true → DAb X sc elt σ2 H3 (f d))
    (q : ∀ p ws H', H p = none → Same H H' → H' p = some (.lst ws) → ImAll H' ws (comp tst f ds) → Q (.ref p) H') :
    tLc (WI X tg iter) g (BTs X sc ifs) (BE X sc elt) vs σ H Q := by
  refine hs _ fun J H2 G YY s2 w hG hY => ?_
  intro D hD
  refine lc_it w (fun n H3 => n ≤ ds.length ∧ Same H2 H3 ∧ ∃ acc, H3 D = some (.lst acc) ∧ ImAll H3 acc (comp tst f (ds.take n))) ⟨Nat.zero_le _, same_new hD, [], upd_same, .nil⟩ (fun n H3 _ h => hG H3 h.2.1) ?_ ?_
  · intro n x H3 H4 hlt ⟨hle, s3, acc, hacc, hia⟩ hy
    obtain ⟨s4, d, hd, iv⟩ := hY n H3 x H4 hlt s3 hy
    have hmem : d ∈ ds := List.mem_of_getElem? hd
    have t4 : Same H H4 := s2.trans (s3.trans s4)
    refine hg H4 x d iv hmem t4 _ fun σ2 hw hp => ⟨hw, ?_⟩
    refine tabs_w (ht H4 d σ2 hmem t4 hp) fun H5 s5 => ?_
    have t5 : Same H H5 := t4.trans s5
    have e5 : Same H3 H5 := s4.trans s5
    cases htd : tst d with
    | false =>
      refine iteF ⟨hlt, s3.trans e5, acc, e5 _ _ hacc, ?_⟩
      rw [comp_snoc tst f hd, htd]
      simp only [Bool.false_eq_true, if_false, List.append_nil]
      exact hia.mono (tx_same e5)
    | true =>
      refine iteT fun s H0 C cl fp => (he H5 d σ2 hmem t5 (hP _ _ _ _ hp s5) htd s H0 C cl fp) _ fun v H6 s6 iv6 => ?_
      have e6 : Same H3 H6 := e5.trans s6
      have hz := hia.length
      have hc := comp_len tst f (ds.take n)
      rw [List.length_take] at hc
      refine ⟨acc, e6 _ _ hacc, Nat.lt_of_le_of_lt (show acc.length ≤ 100000 by omega) (by decide), hlt, ?_, acc ++ [v], upd_same, ?_⟩
      · exact fun b o eb => by
          have nb : b ≠ D := ne_of_none eb hD
          rw [upd_ne nb]
          exact e6 _ _ (s3 _ _ eb)
      · have tm : Tx H6 (upd H6 D (.lst (acc ++ [v]))) := tx_mut (Tx.refl _) fun xs z => by
          rw [e6 _ _ hacc] at z
          cases z
        rw [comp_snoc tst f hd, htd]
        exact ((hia.mono (tx_same e6)).mono tm).append (.cons (iv6.mono tm) .nil)
  · intro H3 ⟨_, s3, acc, hacc, hia⟩
    rw [List.take_length] at hia
    exact q D acc H3 (s2.free hD) (s2.trans s3) hacc hia
/-- [elt for x in iter if ..], one name -/
theorem w_lcA1 {sc : Scope} {ifs : List Expr} {n : Nat} {p1 : Pos} {Q : VK} (tst : PyData → Bool) (f : PyData → PyData) (hc : X.calm = true) (hN : X.N.Nodup) (ok : BlkOk X.N X.env.scope sc [(x, n)]) (hs : SV X (.Name x p1) iter σ H ds) (hn : ds.length ≤ 100000)
    (ht : ∀ H3 d v, d ∈ ds → Same H H3 → Im H3 v d → TAbs X sc ifs ((σ.set n none).set n (some v)) H3 (tst d))
    (he : ∀ H3 d v, d ∈ ds → Same H H3 → Im H3 v d → tst d = true → DAb X sc elt ((σ.set n none).set n (some v)) H3 (f d))
    (q : ∀ p ws H', H p = none → Same H H' → H' p = some (.lst ws) → ImAll H' ws (comp tst f ds) → Q (.ref p) H')
    (hi : X.N[n]? = some x := by rfl) (hx : Loc (relabel sc X.env) x := by first | exact Or.inl rfl | exact Or.inr rfl) (hf : (sc.names.lookup x == some .cell) = true ∨ (relabel sc X.env).names.lookup x = some .local := by first | exact .inr rfl | exact .inl rfl)
    (hss : ∀ x, foldedSetIterable iter X.env x = pure x := by intro _; rfl) :
    WE X (.ListComp elt [⟨.Name x p1, iter, ifs, 0⟩] sc pos) σ H Q :=
  w_lc [(x, n)] hc hN ok (fun s H0 C cl fp => pg_name (i := n) hN hi hx hf)
    (lc_at (fun d σ2 H3 => ∃ v, σ2 = (σ.set n none).set n (some v) ∧ Im H3 v d) tst f hs hn
      (fun H3 v d iv hm t K k => k _ (by show ((σ.set n none).set n (some v)).set n none = σ.set n none; rw [List.set_set, List.set_set]) ⟨v, rfl, iv⟩)
      (fun d σ2 H3 H4 ⟨v, e, iv⟩ t => ⟨v, e, iv.mono (tx_same t)⟩)
      (fun H3 d σ2 hm t ⟨v, e, iv⟩ => by subst e; exact ht H3 d v hm t iv)
      (fun H3 d σ2 hm t ⟨v, e, iv⟩ hd => by subst e; exact he H3 d v hm t iv hd) q) hss
/-- [elt for x, y in iter if ..] -/
theorem w_lcA2 {sc : Scope} {ifs : List Expr} {n m kk : Nat} {p1 p2 p3 : Pos} {Q : VK} (tst : PyData → Bool) (f : PyData → PyData) (hc : X.calm = true) (hN : X.N.Nodup) (ok : BlkOk X.N X.env.scope sc [(x, n), (y, m)]) (hs : SV X (.Tuple [.Name x p1, .Name y p2] kk p3) iter σ H ds) (hn : ds.length ≤ 100000)
    (hd : ∀ d ∈ ds, ∃ u v, d = .tuple [u, v])
    (ht : ∀ H3 d1 d2 u v, .tuple [d1, d2] ∈ ds → Same H H3 → Im H3 u d1 → Im H3 v d2 → TAbs X sc ifs ((((σ.set m none).set n none).set n (some u)).set m (some v)) H3 (tst (.tuple [d1, d2])))
    (he : ∀ H3 d1 d2 u v, .tuple [d1, d2] ∈ ds → Same H H3 → Im H3 u d1 → Im H3 v d2 → tst (.tuple [d1, d2]) = true → DAb X sc elt ((((σ.set m none).set n none).set n (some u)).set m (some v)) H3 (f (.tuple [d1, d2])))
    (q : ∀ p ws H', H p = none → Same H H' → H' p = some (.lst ws) → ImAll H' ws (comp tst f ds) → Q (.ref p) H')
    (hi : X.N[n]? = some x := by rfl) (hj : X.N[m]? = some y := by rfl) (hnm : n ≠ m := by decide) (hx : Loc (relabel sc X.env) x := by first | exact Or.inl rfl | exact Or.inr rfl) (hy : Loc (relabel sc X.env) y := by first | exact Or.inl rfl | exact Or.inr rfl)
    (hf : (sc.names.lookup x == some .cell) = true ∨ (relabel sc X.env).names.lookup x = some .local := by first | exact .inr rfl | exact .inl rfl) (hf2 : (sc.names.lookup y == some .cell) = true ∨ (relabel sc X.env).names.lookup y = some .local := by first | exact .inr rfl | exact .inl rfl)
    (hss : ∀ x, foldedSetIterable iter X.env x = pure x := by intro _; rfl) :
    WE X (.ListComp elt [⟨.Tuple [.Name x p1, .Name y p2] kk p3, iter, ifs, 0⟩] sc pos) σ H Q :=
  w_lc (g := gTup X.K 2 (gCons (gName n) (gCons (gName m) gNil))) [(x, n), (y, m)] hc hN ok (fun s H0 C cl fp => pg_tup (X := X.blk s H0 sc (compEnvC sc cl C X.env) fp) hc (pgs_cons (pg_name (i := n) hN hi hx hf) (pgs_cons (pg_name (i := m) hN hj hy hf2) pgs_nil)))
    (lc_at (fun d σ2 H3 => ∃ d1 d2 u v, d = .tuple [d1, d2] ∧ σ2 = (((σ.set m none).set n none).set n (some u)).set m (some v) ∧ Im H3 u d1 ∧ Im H3 v d2) tst f hs hn
      (fun H3 v d iv hm t K k => by
        obtain ⟨d1, d2, rfl⟩ := hd d hm
        obtain ⟨p, xs, rfl, hp, hx⟩ := im_tup iv
        cases hx with
        | cons i1 h2 =>
          cases h2 with
          | cons i2 h3 =>
            cases h3
            refine ⟨p, _, rfl, SqT.of hp, rfl, _, _, rfl, _, _, rfl, rfl, k _ ?_ ⟨d1, d2, _, _, rfl, rfl, i1, i2⟩⟩
            show ((((((σ.set m none).set n none).set n (some _)).set m (some _)).set m none).set n none) = (σ.set m none).set n none
            rw [List.set_set, List.set_set, List.set_comm _ _ hnm, List.set_set, List.set_set])
      (fun d σ2 H3 H4 ⟨d1, d2, u, v, e1, e, i1, i2⟩ t => ⟨d1, d2, u, v, e1, e, i1.mono (tx_same t), i2.mono (tx_same t)⟩)
      (fun H3 d σ2 hm t ⟨d1, d2, u, v, e1, e, i1, i2⟩ => by subst e1; subst e; exact ht H3 d1 d2 u v hm t i1 i2)
      (fun H3 d σ2 hm t ⟨d1, d2, u, v, e1, e, i1, i2⟩ hd => by subst e1; subst e; exact he H3 d1 d2 u v hm t i1 i2 hd) q) hss
end
end Tr
set_option Elab.async false
set_option linter.all false
set_option maxRecDepth 100000
set_option maxHeartbeats 4000000
/-! loops over lists: J says what must stand -/
namespace Tr
open PySem PySem.Spec PyProof.Rows L2
def SVr (X : Cx) (tg iter : Expr) (σ : St) (H : Hp) (ds : List PyData) (J : Hp → Prop) : Prop := ∀ R : It → Hp → Prop,
  (∀ It H2 G YY, Same H H2 → Walk It ds.length G YY → (∀ H3, Tx H2 H3 → J H3 → G H3) → (∀ i H3 x H4, i < ds.length → Tx H2 H3 → J H3 → YY i H3 x H4 → Same H3 H4 ∧ ∃ d, ds[i]? = some d ∧ Im H4 x d) → R It H2) → WI X tg iter σ H R
section
variable {X : Cx} {e a b c o tg iter elt : Expr} {es rest : List Expr} {sts p q : List Stmt} {σ : St} {H H0 : Hp} {D : Ends} {pos : Pos} {d d1 d2 : PyData} {ds : List PyData} {k k1 k2 : Bool} {i j : Int} {x y : Str}
/-- enumerate of a list that stands -/
theorem sv_enL {elts : List Expr} {kk : Nat} {tpos p1 : Pos} {l : Addr} {vs : List V} (hm : X.mg "enumerate" = none) (ha : ∀ Q : VK, Q (.ref l) H → WE X a σ H Q) (hl : H l = some (.lst vs)) (hi : ImAll H vs ds) (hg : Gl X "enumerate" := by rfl) (hs : starEach [a] X.env = [(false, eval a X.env)] := by rfl) :
    SVr X (.Tuple elts kk tpos) (.Call (.Name "enumerate" p1) [a] [] pos) σ H (enumD 0 ds) (fun H' => H' l = some (.lst vs)) := fun R q => wi (pi_en hg hm paW hs) (wa_cons (ha _ (wa_nil (by
  refine ⟨.lst l, vs, rfl, SqL.of hl, ?_⟩
  refine q _ H (fun H => Src.has X.K H (.lst l) vs) _ (Same.refl H) (by rw [enumD_len, ← hi.length]; exact walk_en) (fun H3 t3 j3 => SqL.of j3) fun i H3 x H4 hi' t3 j3 hy => ?_
  obtain ⟨T, u, w, rfl, s4, hT, e1, e2⟩ := ypair_same hy
  cases e1
  obtain ⟨d, h1, h2⟩ := (hi.mono t3).getV e2
  exact ⟨s4, _, enumD_get 0 ds i d h1, .tup hT (.cons (.int _) (.cons (h2.mono (tx_same s4)) .nil))⟩))) hs)
/-- a list that stands -/
theorem sv_listL {l : Addr} {vs : List V} (ha : ∀ Q : VK, Q (.ref l) H → WE X iter σ H Q) (hl : H l = some (.lst vs)) (hi : ImAll H vs ds) : SVr X tg iter σ H ds (fun H' => H' l = some (.lst vs)) := fun R q => wi (pi_list peW) (ha _ ⟨l, rfl, ⟨vs, SqL.of hl⟩, q (Itl X.K l) H (fun H => SqL X.K H l vs) (YAt vs) (Same.refl H) (by rw [← hi.length]; exact walk_list) (fun H3 t3 j3 => SqL.of j3) fun i H3 x H4 hi' t3 j3 hy => by
  obtain ⟨rfl, hxi⟩ := hy
  obtain ⟨d, h1, h2⟩ := (hi.mono t3).getV hxi
  exact ⟨Same.refl _, d, h1, h2⟩⟩)
theorem ws_forJ {g : TG} (r : PG X tg g) (hc : X.calm = true) {J : Hp → Prop} (hs : SVr X tg iter σ H ds J) (Pv : Nat → St → Hp → Prop) (h0 : ∀ H', Same H H' → Pv 0 σ H') (hE : ∀ i σ' H' H'', Pv i σ' H' → Same H' H'' → Pv i σ' H'') (hJ : ∀ i σ' H', Pv i σ' H' → J H')
    (hb : ∀ i d v σ' H', ds[i]? = some d → Pv i σ' H' → Im H' v d → g v σ' H' fun σ2 H2 => WS X p { D with nx := fun σ3 H3 => Tx H' H3 ∧ Pv (i + 1) σ3 H3, ct := fun σ3 H3 => Tx H' H3 ∧ Pv (i + 1) σ3 H3, bk := WS X sts D } σ2 H2)
    (hd : ∀ σ' H', Pv ds.length σ' H' → WS X sts D σ' H')
    (mono : ∀ v σ' H' (K K' : St → Hp → Prop), (∀ σ2 H2, K σ2 H2 → K' σ2 H2) → g v σ' H' K → g v σ' H' K') (hp : PassesOwn (model X.prog X.w) X.A X.env X.xe := by exact PassesOwn.never) (hss : ∀ x, foldedSetIterable iter X.env x = pure x := by intro _; rfl) : WS X (.For tg iter p [] pos :: sts) D σ H := by
  refine ws_for r hc (hs _ fun J H2 G YY s2 w hG hY => ?_) hp hss
  refine for_it w (fun i σ' H3 => Tx H2 H3 ∧ Pv i σ' H3) ⟨Tx.refl _, h0 H2 s2⟩ (fun i σ' H3 _ h => hG H3 h.1 (hJ i σ' H3 h.2)) ?_ (fun σ' H3 h => hd σ' H3 h.2)
  intro n v σ' H3 H4 hn ⟨t3, hP⟩ hy
  obtain ⟨s4, d, hd', iv⟩ := hY n H3 v H4 hn t3 (hJ n σ' H3 hP) hy
  refine mono v σ' H4 _ _ (fun σ2 H2' h => ?_) (hb n d v σ' H4 hd' (hE n σ' H3 H4 hP s4) iv)
  intro pins s I
  refine thn (h pins s I) fun f s1 hf => ?_
  cases f with
  | next =>
    obtain ⟨σ3, H5, I5, t5, p5⟩ := hf
    exact ⟨σ3, H5, I5, (t3.trans (tx_same s4)).trans t5, p5⟩
  | cont =>
    obtain ⟨σ3, H5, I5, t5, p5⟩ := hf
    exact ⟨σ3, H5, I5, (t3.trans (tx_same s4)).trans t5, p5⟩
  | brk => exact hf
  | ret u => exact hf
theorem ws_forJ1 {n : Nat} {p1 : Pos} (hN : X.N.Nodup) (hc : X.calm = true) {J : Hp → Prop} (hs : SVr X (.Name x p1) iter σ H ds J) (Pv : Nat → St → Hp → Prop) (h0 : ∀ H', Same H H' → Pv 0 σ H') (hE : ∀ i σ' H' H'', Pv i σ' H' → Same H' H'' → Pv i σ' H'') (hJ : ∀ i σ' H', Pv i σ' H' → J H')
    (hb : ∀ i d v σ' H', ds[i]? = some d → Pv i σ' H' → Im H' v d → WS X p { D with nx := fun σ3 H3 => Tx H' H3 ∧ Pv (i + 1) σ3 H3, ct := fun σ3 H3 => Tx H' H3 ∧ Pv (i + 1) σ3 H3, bk := WS X sts D } (σ'.set n (some v)) H')
    (hd : ∀ σ' H', Pv ds.length σ' H' → WS X sts D σ' H') (hi : X.N[n]? = some x := by rfl) (hx : Loc X.env.scope x := by first | exact Or.inl rfl | exact Or.inr rfl) (hf : X.fn x = true ∨ X.env.scope.names.lookup x = some .local := by first | exact .inl rfl | exact .inr rfl)
    (hp : PassesOwn (model X.prog X.w) X.A X.env X.xe := by exact PassesOwn.never) (hss : ∀ x, foldedSetIterable iter X.env x = pure x := by intro _; rfl) : WS X (.For (.Name x p1) iter p [] pos :: sts) D σ H :=
  ws_forJ (g := gName n) (pg_name (i := n) hN hi hx hf) hc hs Pv h0 hE hJ hb hd (fun v σ' H' K K' m h => m _ _ h) hp hss
theorem ws_forJ2 {n m kk : Nat} {p1 p2 p3 : Pos} (hN : X.N.Nodup) (hc : X.calm = true) {J : Hp → Prop} (hs : SVr X (.Tuple [.Name x p1, .Name y p2] kk p3) iter σ H ds J) (hd2 : ∀ d ∈ ds, ∃ u v, d = .tuple [u, v]) (Pv : Nat → St → Hp → Prop) (h0 : ∀ H', Same H H' → Pv 0 σ H') (hE : ∀ i σ' H' H'', Pv i σ' H' → Same H' H'' → Pv i σ' H'') (hJ : ∀ i σ' H', Pv i σ' H' → J H')
    (hb : ∀ i d1 d2 u v σ' H', ds[i]? = some (.tuple [d1, d2]) → Pv i σ' H' → Im H' u d1 → Im H' v d2 → WS X p { D with nx := fun σ3 H3 => Tx H' H3 ∧ Pv (i + 1) σ3 H3, ct := fun σ3 H3 => Tx H' H3 ∧ Pv (i + 1) σ3 H3, bk := WS X sts D } ((σ'.set n (some u)).set m (some v)) H')
    (hd : ∀ σ' H', Pv ds.length σ' H' → WS X sts D σ' H') (hi : X.N[n]? = some x := by rfl) (hj : X.N[m]? = some y := by rfl) (hx : Loc X.env.scope x := by first | exact Or.inl rfl | exact Or.inr rfl) (hy : Loc X.env.scope y := by first | exact Or.inl rfl | exact Or.inr rfl)
    (hf : X.fn x = true ∨ X.env.scope.names.lookup x = some .local := by first | exact .inl rfl | exact .inr rfl) (hf2 : X.fn y = true ∨ X.env.scope.names.lookup y = some .local := by first | exact .inl rfl | exact .inr rfl)
    (hp : PassesOwn (model X.prog X.w) X.A X.env X.xe := by exact PassesOwn.never) (hss : ∀ x, foldedSetIterable iter X.env x = pure x := by intro _; rfl) : WS X (.For (.Tuple [.Name x p1, .Name y p2] kk p3) iter p [] pos :: sts) D σ H :=
  ws_forJ (g := gTup X.K 2 (gCons (gName n) (gCons (gName m) gNil))) (pg_tup hc (pgs_cons (pg_name (i := n) hN hi hx hf) (pgs_cons (pg_name (i := m) hN hj hy hf2) pgs_nil))) hc hs Pv h0 hE hJ
    (fun i d v σ' H' hd' hP iv => by
      obtain ⟨d1, d2, rfl⟩ := hd2 d (List.mem_of_getElem? hd')
      obtain ⟨r, xs, rfl, hr, hxs⟩ := im_tup iv
      cases hxs with
      | cons i1 h2 =>
        cases h2 with
        | cons i2 h3 =>
          cases h3
          exact ⟨r, _, rfl, SqT.of hr, rfl, _, _, rfl, _, _, rfl, rfl, hb i d1 d2 _ _ σ' H' hd' hP i1 i2⟩)
    hd (fun v σ' H' K K' m h => by
      obtain ⟨r, xs, h1, h2, h3, u, us, h4, u', us', h5, h6, h7⟩ := h
      exact ⟨r, xs, h1, h2, h3, u, us, h4, u', us', h5, h6, m _ _ h7⟩) hp hss
end
end Tr
set_option Elab.async false
set_option linter.all false
set_option maxRecDepth 100000
set_option maxHeartbeats 4000000
namespace Kt
open PySem PySem.Spec PyProof.Rows L2 Tr
abbrev St := L2.St
def top (i : Nat) : Stmt := PySem.Challenge.pw_testedrows_k47_whole_no_test_at_a_begin.main.body.getD i (.Pass ⟨0, 0, 0, 0⟩)
abbrev s_BadTested_init : Stmt := inClass (top 2) 0
abbrev N_BadTested_init : List Str := ["self", "piece", "row"]
theorem sc_BadTested_init : FnScope N_BadTested_init ["self", "piece", "row"] (defScope s_BadTested_init) := ⟨rfl, rfl, rfl, by decide +kernel, rfl, by decide +kernel, by decide +kernel⟩
theorem bd_BadTested_init : Bnd "__init__" "BadTested.__init__" s_BadTested_init ["self", "piece", "row"] := fun _ _ _ _ _ _ us hl => match us, hl with | [_, _, _], _ => rfl
abbrev s_is_number : Stmt := top 10
abbrev N_is_number : List Str := ["part", "low", "high"]
theorem sc_is_number : FnScope N_is_number ["part", "low", "high"] (defScope s_is_number) := ⟨rfl, rfl, rfl, by decide +kernel, rfl, by decide +kernel, by decide +kernel⟩
theorem bd_is_number : Bnd "is_number" "is_number" s_is_number ["part", "low", "high"] := fun _ _ _ _ _ _ us hl => match us, hl with | [_, _, _], _ => rfl
abbrev s_reckoned : Stmt := top 11
abbrev N_reckoned : List Str := ["word", "one", "other"]
theorem sc_reckoned : FnScope N_reckoned ["word", "one", "other"] (defScope s_reckoned) := ⟨rfl, rfl, rfl, by decide +kernel, rfl, by decide +kernel, by decide +kernel⟩
theorem bd_reckoned : Bnd "reckoned" "reckoned" s_reckoned ["word", "one", "other"] := fun _ _ _ _ _ _ us hl => match us, hl with | [_, _, _], _ => rfl
abbrev s_need_handed : Stmt := top 14
abbrev N_need_handed : List Str := ["ins", "handed", "fuel", "number"]
theorem sc_need_handed : FnScope N_need_handed ["ins", "handed", "fuel"] (defScope s_need_handed) := ⟨rfl, rfl, rfl, by decide +kernel, rfl, by decide +kernel, by decide +kernel⟩
theorem bd_need_handed : Bnd "need_handed" "need_handed" s_need_handed ["ins", "handed", "fuel"] := fun _ _ _ _ _ _ us hl => match us, hl with | [_, _, _], _ => rfl
abbrev s_shape_of : Stmt := top 24
abbrev N_shape_of : List Str := ["word"]
theorem sc_shape_of : FnScope N_shape_of ["word"] (defScope s_shape_of) := ⟨rfl, rfl, rfl, by decide +kernel, rfl, by decide +kernel, by decide +kernel⟩
theorem bd_shape_of : Bnd "shape_of" "shape_of" s_shape_of ["word"] := fun _ _ _ _ _ _ us hl => match us, hl with | [_], _ => rfl
abbrev s_is_row : Stmt := top 25
abbrev N_is_row : List Str := ["row", "shape", "kind", "part"]
theorem sc_is_row : FnScope N_is_row ["row"] (defScope s_is_row) := ⟨rfl, rfl, rfl, by decide +kernel, rfl, by decide +kernel, by decide +kernel⟩
theorem bd_is_row : Bnd "is_row" "is_row" s_is_row ["row"] := fun _ _ _ _ _ _ us hl => match us, hl with | [_], _ => rfl
abbrev s_are_goes : Stmt := top 26
abbrev N_are_goes : List Str := ["goes", "many", "pair"]
theorem sc_are_goes : FnScope N_are_goes ["goes", "many"] (defScope s_are_goes) := ⟨rfl, rfl, rfl, by decide +kernel, rfl, by decide +kernel, by decide +kernel⟩
theorem bd_are_goes : Bnd "are_goes" "are_goes" s_are_goes ["goes", "many"] := fun _ _ _ _ _ _ us hl => match us, hl with | [_, _], _ => rfl
abbrev s_need_tested : Stmt := top 27
abbrev N_need_tested : List Str := ["tested", "ins", "names", "pieces", "number", "piece"]
theorem sc_need_tested : FnScope N_need_tested ["tested"] (defScope s_need_tested) := ⟨rfl, rfl, rfl, by decide +kernel, rfl, by decide +kernel, by decide +kernel⟩
theorem bd_need_tested : Bnd "need_tested" "need_tested" s_need_tested ["tested"] := fun _ _ _ _ _ _ us hl => match us, hl with | [_], _ => rfl
abbrev s_need_piece : Stmt := top 28
abbrev N_need_piece : List Str := ["number", "piece", "many", "at", "row"]
theorem sc_need_piece : FnScope N_need_piece ["number", "piece", "many"] (defScope s_need_piece) := ⟨rfl, rfl, rfl, by decide +kernel, rfl, by decide +kernel, by decide +kernel⟩
theorem bd_need_piece : Bnd "need_piece" "need_piece" s_need_piece ["number", "piece", "many"] := fun _ _ _ _ _ _ us hl => match us, hl with | [_, _, _], _ => rfl
abbrev s_Machine_init : Stmt := inClass (top 30) 0
abbrev N_Machine_init : List Str := ["self", "handed", "fuel", "number", "worth"]
theorem sc_Machine_init : FnScope N_Machine_init ["self", "handed", "fuel"] (defScope s_Machine_init) := ⟨rfl, rfl, rfl, by decide +kernel, rfl, by decide +kernel, by decide +kernel⟩
theorem bd_Machine_init : Bnd "__init__" "Machine.__init__" s_Machine_init ["self", "handed", "fuel"] := fun _ _ _ _ _ _ us hl => match us, hl with | [_, _, _], _ => rfl
abbrev s_Machine_held : Stmt := inClass (top 30) 1
abbrev N_Machine_held : List Str := ["self", "place"]
theorem sc_Machine_held : FnScope N_Machine_held ["self", "place"] (defScope s_Machine_held) := ⟨rfl, rfl, rfl, by decide +kernel, rfl, by decide +kernel, by decide +kernel⟩
theorem bd_Machine_held : Bnd "held" "Machine.held" s_Machine_held ["self", "place"] := fun _ _ _ _ _ _ us hl => match us, hl with | [_, _], _ => rfl
abbrev s_Machine_does : Stmt := inClass (top 30) 2
abbrev N_Machine_does : List Str := ["self", "row", "holds", "some", "word"]
theorem sc_Machine_does : FnScope N_Machine_does ["self", "row", "holds", "some"] (defScope s_Machine_does) := ⟨rfl, rfl, rfl, by decide +kernel, rfl, by decide +kernel, by decide +kernel⟩
theorem bd_Machine_does : Bnd "does" "Machine.does" s_Machine_does ["self", "row", "holds", "some"] := fun _ _ _ _ _ _ us hl => match us, hl with | [_, _, _, _], _ => rfl
abbrev s_Machine_change : Stmt := inClass (top 30) 3
abbrev N_Machine_change : List Str := ["self", "row", "word", "some", "found"]
theorem sc_Machine_change : FnScope N_Machine_change ["self", "row", "word", "some"] (defScope s_Machine_change) := ⟨rfl, rfl, rfl, by decide +kernel, rfl, by decide +kernel, by decide +kernel⟩
theorem bd_Machine_change : Bnd "change" "Machine.change" s_Machine_change ["self", "row", "word", "some"] := fun _ _ _ _ _ _ us hl => match us, hl with | [_, _, _, _], _ => rfl
abbrev s_Machine_store : Stmt := inClass (top 30) 4
abbrev N_Machine_store : List Str := ["self", "row", "word", "some"]
theorem sc_Machine_store : FnScope N_Machine_store ["self", "row", "word", "some"] (defScope s_Machine_store) := ⟨rfl, rfl, rfl, by decide +kernel, rfl, by decide +kernel, by decide +kernel⟩
theorem bd_Machine_store : Bnd "store" "Machine.store" s_Machine_store ["self", "row", "word", "some"] := fun _ _ _ _ _ _ us hl => match us, hl with | [_, _, _, _], _ => rfl
abbrev s_Machine_holds : Stmt := inClass (top 30) 5
abbrev N_Machine_holds : List Str := ["self", "test"]
theorem sc_Machine_holds : FnScope N_Machine_holds ["self", "test"] (defScope s_Machine_holds) := ⟨rfl, rfl, rfl, by decide +kernel, rfl, by decide +kernel, by decide +kernel⟩
theorem bd_Machine_holds : Bnd "holds" "Machine.holds" s_Machine_holds ["self", "test"] := fun _ _ _ _ _ _ us hl => match us, hl with | [_, _], _ => rfl
abbrev s_Machine_through : Stmt := inClass (top 30) 6
abbrev N_Machine_through : List Str := ["self", "number", "rows", "goes", "row", "part", "goal", "test", "there"]
theorem sc_Machine_through : FnScope N_Machine_through ["self", "number", "rows", "goes"] (defScope s_Machine_through) := ⟨rfl, rfl, rfl, by decide +kernel, rfl, by decide +kernel, by decide +kernel⟩
theorem bd_Machine_through : Bnd "through" "Machine.through" s_Machine_through ["self", "number", "rows", "goes"] := fun _ _ _ _ _ _ us hl => match us, hl with | [_, _, _, _], _ => rfl
abbrev s_sources : Stmt := top 31
abbrev N_sources : List Str := ["row", "word"]
theorem sc_sources : FnScope N_sources ["row"] (defScope s_sources) := ⟨rfl, rfl, rfl, by decide +kernel, rfl, by decide +kernel, by decide +kernel⟩
theorem bd_sources : Bnd "sources" "sources" s_sources ["row"] := fun _ _ _ _ _ _ us hl => match us, hl with | [_], _ => rfl
abbrev s_gone : Stmt := top 32
abbrev N_gone : List Str := ["tested", "handed", "fuel", "machine", "number", "rows", "goes"]
theorem sc_gone : FnScope N_gone ["tested", "handed", "fuel"] (defScope s_gone) := ⟨rfl, rfl, rfl, by decide +kernel, rfl, by decide +kernel, by decide +kernel⟩
theorem bd_gone : Bnd "gone" "gone" s_gone ["tested", "handed", "fuel"] := fun _ _ _ _ _ _ us hl => match us, hl with | [_, _, _], _ => rfl
abbrev s_run_rows : Stmt := top 33
abbrev N_run_rows : List Str := ["tested", "handed", "fuel", "machine"]
theorem sc_run_rows : FnScope N_run_rows ["tested", "handed", "fuel"] (defScope s_run_rows) := ⟨rfl, rfl, rfl, by decide +kernel, rfl, by decide +kernel, by decide +kernel⟩
theorem bd_run_rows : Bnd "run_rows" "run_rows" s_run_rows ["tested", "handed", "fuel"] := fun _ _ _ _ _ _ us hl => match us, hl with | [_, _, _], _ => rfl
abbrev s_counts : Stmt := top 34
abbrev N_counts : List Str := ["tested", "handed", "fuel", "machine"]
theorem sc_counts : FnScope N_counts ["tested", "handed", "fuel"] (defScope s_counts) := ⟨rfl, rfl, rfl, by decide +kernel, rfl, by decide +kernel, by decide +kernel⟩
theorem bd_counts : Bnd "counts" "counts" s_counts ["tested", "handed", "fuel"] := fun _ _ _ _ _ _ us hl => match us, hl with | [_, _, _], _ => rfl
abbrev s__law_dice : Stmt := top 36
abbrev N__law_dice : List Str := ["_law_script", "_law_mixed", "_law_cell"]
theorem sc__law_dice : FnScope N__law_dice ["_law_script"] (defScope s__law_dice) := ⟨rfl, rfl, rfl, by decide +kernel, rfl, by decide +kernel, by decide +kernel⟩
theorem bd__law_dice : Bnd "_law_dice" "_law_dice" s__law_dice ["_law_script"] := fun _ _ _ _ _ _ us hl => match us, hl with | [_], _ => rfl
abbrev s__law_next : Stmt := top 37
abbrev N__law_next : List Str := ["_law_dice_here", "_law_many", "_law_found", "_law_cell"]
theorem sc__law_next : FnScope N__law_next ["_law_dice_here", "_law_many"] (defScope s__law_next) := ⟨rfl, rfl, rfl, by decide +kernel, rfl, by decide +kernel, by decide +kernel⟩
theorem bd__law_next : Bnd "_law_next" "_law_next" s__law_next ["_law_dice_here", "_law_many"] := fun _ _ _ _ _ _ us hl => match us, hl with | [_, _], _ => rfl
abbrev s_law : Stmt := top 38
abbrev N_law : List Str := ["_law_script", "_law_d", "_law_size", "_law_one", "_law_two", "_law_pieces", "_law_said", "_law_at", "_law_number", "_law_rows", "_law_tested", "_law_last", "_law_around", "_law_found"]
theorem sc_law : FnScope N_law ["_law_script"] (defScope s_law) := ⟨rfl, rfl, rfl, by decide +kernel, rfl, by decide +kernel, by decide +kernel⟩
theorem bd_law : Bnd "law" "law" s_law ["_law_script"] := fun _ _ _ _ _ _ us hl => match us, hl with | [_], _ => rfl
def tab_SHAPES : List (Str × V) := [("num", .str "wn"), ("copy", .str "wr"), ("not", .str "wr"), ("get", .str "wr"), ("put", .str "rr"), ("say", .str "r"), ("stop", .str "r"), ("test", .str "ppr")]
def tab_MOSTS : List (Str × V) := [("w", .int 1999), ("r", .int 1999), ("n", .int 10006), ("p", .int 1999)]
structure Cs where
  Machine : Addr
structure Txt (w : World) (K : PySem.W.Frag) (mg : Str → Option Value) (cs : Cs) : Prop where
  b_bool : mg "bool" = none
  b_enumerate : mg "enumerate" = none
  b_int : mg "int" = none
  b_isinstance : mg "isinstance" = none
  b_len : mg "len" = none
  b_range : mg "range" = none
  b_str : mg "str" = none
  b_tuple : mg "tuple" = none
  b_zip : mg "zip" = none
  c_REST : ∃ t, mg "REST" = some (.int 10007 t)
  c_CELLS : ∃ t, mg "CELLS" = some (.int 16 t)
  c_MOST_INS : ∃ t, mg "MOST_INS" = some (.int 3 t)
  c_MOST_NAMES : ∃ t, mg "MOST_NAMES" = some (.int 99 t)
  c_MOST_FUEL : ∃ t, mg "MOST_FUEL" = some (.int 1000 t)
  c_MOST_REGISTER : ∃ t, mg "MOST_REGISTER" = some (.int 1999 t)
  c_MOST_TEST : ∃ t, mg "MOST_TEST" = some (.int 1999 t)
  c_MOST_PIECES : ∃ t, mg "MOST_PIECES" = some (.int 999 t)
  c_MOST_ROWS : ∃ t, mg "MOST_ROWS" = some (.int 1500 t)
  c_MOST_GOES : ∃ t, mg "MOST_GOES" = some (.int 8 t)
  c_SHAPES : ∃ T, mg "SHAPES" = some (.ref T) ∧ STab K w T tab_SHAPES
  c_PAIRS : ∃ T, mg "PAIRS" = some (.ref T) ∧ ∀ H, SqT K H T ((["add", "take", "times", "over", "rest", "less", "same"] : List Str).map V.str)
  c_MOSTS : ∃ T, mg "MOSTS" = some (.ref T) ∧ STab K w T tab_MOSTS
  f_is_number : ∃ f fd, Fn K "is_number" "is_number" s_is_number f fd ∧ mg "is_number" = some (.ref f)
  f_reckoned : ∃ f fd, Fn K "reckoned" "reckoned" s_reckoned f fd ∧ mg "reckoned" = some (.ref f)
  f_need_handed : ∃ f fd, Fn K "need_handed" "need_handed" s_need_handed f fd ∧ mg "need_handed" = some (.ref f)
  f_shape_of : ∃ f fd, Fn K "shape_of" "shape_of" s_shape_of f fd ∧ mg "shape_of" = some (.ref f)
  f_is_row : ∃ f fd, Fn K "is_row" "is_row" s_is_row f fd ∧ mg "is_row" = some (.ref f)
  f_are_goes : ∃ f fd, Fn K "are_goes" "are_goes" s_are_goes f fd ∧ mg "are_goes" = some (.ref f)
  f_need_tested : ∃ f fd, Fn K "need_tested" "need_tested" s_need_tested f fd ∧ mg "need_tested" = some (.ref f)
  f_need_piece : ∃ f fd, Fn K "need_piece" "need_piece" s_need_piece f fd ∧ mg "need_piece" = some (.ref f)
  f_Machine_init : ∃ f fd, Fn K "__init__" "Machine.__init__" s_Machine_init f fd ∧ Mk K cs.Machine f
  f_Machine_held : ∃ f fd, Fn K "held" "Machine.held" s_Machine_held f fd ∧ Meth K cs.Machine "held" f
  f_Machine_does : ∃ f fd, Fn K "does" "Machine.does" s_Machine_does f fd ∧ Meth K cs.Machine "does" f
  f_Machine_change : ∃ f fd, Fn K "change" "Machine.change" s_Machine_change f fd ∧ Meth K cs.Machine "change" f
  f_Machine_store : ∃ f fd, Fn K "store" "Machine.store" s_Machine_store f fd ∧ Meth K cs.Machine "store" f
  f_Machine_holds : ∃ f fd, Fn K "holds" "Machine.holds" s_Machine_holds f fd ∧ Meth K cs.Machine "holds" f
  f_Machine_through : ∃ f fd, Fn K "through" "Machine.through" s_Machine_through f fd ∧ Meth K cs.Machine "through" f
  f_sources : ∃ f fd, Fn K "sources" "sources" s_sources f fd ∧ mg "sources" = some (.ref f)
  f_gone : ∃ f fd, Fn K "gone" "gone" s_gone f fd ∧ mg "gone" = some (.ref f)
  f_run_rows : ∃ f fd, Fn K "run_rows" "run_rows" s_run_rows f fd ∧ mg "run_rows" = some (.ref f)
  f_counts : ∃ f fd, Fn K "counts" "counts" s_counts f fd ∧ mg "counts" = some (.ref f)
  f__law_dice : ∃ f fd, Fn K "_law_dice" "_law_dice" s__law_dice f fd ∧ mg "_law_dice" = some (.ref f)
  f__law_next : ∃ f fd, Fn K "_law_next" "_law_next" s__law_next f fd ∧ mg "_law_next" = some (.ref f)
  f_law : ∃ f fd, Fn K "law" "law" s_law f fd ∧ mg "law" = some (.ref f)
  k_Machine : mg "Machine" = some (.ref cs.Machine)
  cl_Machine : Cls K cs.Machine
  na_Machine_registers : NoAttr K cs.Machine "registers"
  na_Machine_cells : NoAttr K cs.Machine "cells"
  na_Machine_tests : NoAttr K cs.Machine "tests"
  na_Machine_fuel : NoAttr K cs.Machine "fuel"
  na_Machine_said : NoAttr K cs.Machine "said"
  na_Machine_end : NoAttr K cs.Machine "end"
  na_Machine_looked : NoAttr K cs.Machine "looked"
  na_Machine_done : NoAttr K cs.Machine "done"
end Kt
set_option Elab.async false
set_option linter.all false
set_option maxRecDepth 100000
set_option maxHeartbeats 0
namespace Kt
open PySem PySem.Spec PyProof.Rows L2 Tr He
def fn_0 : He.DefD := ⟨("is_number", none), "is_number", "is_number", defArgs s_is_number, defBody s_is_number, defScope s_is_number, [], []⟩
def fn_1 : He.DefD := ⟨("reckoned", none), "reckoned", "reckoned", defArgs s_reckoned, defBody s_reckoned, defScope s_reckoned, [], []⟩
def fn_2 : He.DefD := ⟨("need_handed", none), "need_handed", "need_handed", defArgs s_need_handed, defBody s_need_handed, defScope s_need_handed, [], []⟩
def fn_3 : He.DefD := ⟨("shape_of", none), "shape_of", "shape_of", defArgs s_shape_of, defBody s_shape_of, defScope s_shape_of, [], []⟩
def fn_4 : He.DefD := ⟨("is_row", none), "is_row", "is_row", defArgs s_is_row, defBody s_is_row, defScope s_is_row, [], []⟩
def fn_5 : He.DefD := ⟨("are_goes", none), "are_goes", "are_goes", defArgs s_are_goes, defBody s_are_goes, defScope s_are_goes, [], []⟩
def fn_6 : He.DefD := ⟨("need_tested", none), "need_tested", "need_tested", defArgs s_need_tested, defBody s_need_tested, defScope s_need_tested, [], []⟩
def fn_7 : He.DefD := ⟨("need_piece", none), "need_piece", "need_piece", defArgs s_need_piece, defBody s_need_piece, defScope s_need_piece, [], []⟩
def fn_8 : He.DefD := ⟨("Machine", some "__init__"), "__init__", "Machine.__init__", defArgs s_Machine_init, defBody s_Machine_init, defScope s_Machine_init, [], []⟩
def fn_9 : He.DefD := ⟨("Machine", some "held"), "held", "Machine.held", defArgs s_Machine_held, defBody s_Machine_held, defScope s_Machine_held, [], []⟩
def fn_10 : He.DefD := ⟨("Machine", some "does"), "does", "Machine.does", defArgs s_Machine_does, defBody s_Machine_does, defScope s_Machine_does, [], []⟩
def fn_11 : He.DefD := ⟨("Machine", some "change"), "change", "Machine.change", defArgs s_Machine_change, defBody s_Machine_change, defScope s_Machine_change, [], []⟩
def fn_12 : He.DefD := ⟨("Machine", some "store"), "store", "Machine.store", defArgs s_Machine_store, defBody s_Machine_store, defScope s_Machine_store, [], []⟩
def fn_13 : He.DefD := ⟨("Machine", some "holds"), "holds", "Machine.holds", defArgs s_Machine_holds, defBody s_Machine_holds, defScope s_Machine_holds, [], []⟩
def fn_14 : He.DefD := ⟨("Machine", some "through"), "through", "Machine.through", defArgs s_Machine_through, defBody s_Machine_through, defScope s_Machine_through, [], []⟩
def fn_15 : He.DefD := ⟨("sources", none), "sources", "sources", defArgs s_sources, defBody s_sources, defScope s_sources, [], []⟩
def fn_16 : He.DefD := ⟨("gone", none), "gone", "gone", defArgs s_gone, defBody s_gone, defScope s_gone, [], []⟩
def fn_17 : He.DefD := ⟨("run_rows", none), "run_rows", "run_rows", defArgs s_run_rows, defBody s_run_rows, defScope s_run_rows, [], []⟩
def fn_18 : He.DefD := ⟨("counts", none), "counts", "counts", defArgs s_counts, defBody s_counts, defScope s_counts, [], []⟩
def fn_19 : He.DefD := ⟨("_law_dice", none), "_law_dice", "_law_dice", defArgs s__law_dice, defBody s__law_dice, defScope s__law_dice, [], []⟩
def fn_20 : He.DefD := ⟨("_law_next", none), "_law_next", "_law_next", defArgs s__law_next, defBody s__law_next, defScope s__law_next, [], []⟩
def fn_21 : He.DefD := ⟨("law", none), "law", "law", defArgs s_law, defBody s_law, defScope s_law, [], []⟩
def fnL : List He.DefD := [fn_0, fn_1, fn_2, fn_3, fn_4, fn_5, fn_6, fn_7, fn_8, fn_9, fn_10, fn_11, fn_12, fn_13, fn_14, fn_15, fn_16, fn_17, fn_18, fn_19, fn_20, fn_21]
def faL : List He.Fa := [.free "bool", .free "enumerate", .free "int", .free "isinstance", .free "len", .free "range", .free "str", .free "tuple", .free "zip", .int "REST" 10007, .int "CELLS" 16, .int "MOST_INS" 3, .int "MOST_NAMES" 99, .int "MOST_FUEL" 1000, .int "MOST_REGISTER" 1999, .int "MOST_TEST" 1999, .int "MOST_PIECES" 999, .int "MOST_ROWS" 1500, .int "MOST_GOES" 8, .glo "SHAPES", .glo "PAIRS", .glo "MOSTS", .glo "is_number", .glo "reckoned", .glo "need_handed", .glo "shape_of", .glo "is_row", .glo "are_goes", .glo "need_tested", .glo "need_piece", .mkr "Machine", .meth "Machine" "held", .meth "Machine" "does", .meth "Machine" "change", .meth "Machine" "store", .meth "Machine" "holds", .meth "Machine" "through", .glo "sources", .glo "gone", .glo "run_rows", .glo "counts", .glo "_law_dice", .glo "_law_next", .glo "law", .glo "Machine", .cls "Machine", .noat "Machine" "registers", .noat "Machine" "cells", .noat "Machine" "tests", .noat "Machine" "fuel", .noat "Machine" "said", .noat "Machine" "end", .noat "Machine" "looked", .noat "Machine" "done"]
def tsL : List He.Tab := [(fun K => He.ga K "SHAPES", ["num", "copy", "not", "get", "put", "say", "stop", "test"]), (fun K => He.ga K "MOSTS", ["w", "r", "n", "p"])]
def exB_0 (K : PySem.W.Frag) : Bool := tabB K (He.ga K "SHAPES") tab_SHAPES
def exB_1 (K : PySem.W.Frag) : Bool := He.tupB K "PAIRS" [.str "add", .str "take", .str "times", .str "over", .str "rest", .str "less", .str "same"]
def exB_2 (K : PySem.W.Frag) : Bool := tabB K (He.ga K "MOSTS") tab_MOSTS
def exL (K : PySem.W.Frag) : Bool := exB_0 K && (exB_1 K && (exB_2 K))
theorem ex_0 {K : PySem.W.Frag} (h : exL K = true) : tabB K (He.ga K "SHAPES") tab_SHAPES = true := (Bool.and_eq_true_iff.mp h).1
theorem ex_1 {K : PySem.W.Frag} (h : exL K = true) : He.tupB K "PAIRS" [.str "add", .str "take", .str "times", .str "over", .str "rest", .str "less", .str "same"] = true := (Bool.and_eq_true_iff.mp (Bool.and_eq_true_iff.mp h).2).1
theorem ex_2 {K : PySem.W.Frag} (h : exL K = true) : tabB K (He.ga K "MOSTS") tab_MOSTS = true := (Bool.and_eq_true_iff.mp (Bool.and_eq_true_iff.mp h).2).2
theorem txt_of {w : World} {K : PySem.W.Frag} {h : Heap} {mg : Str → Option Value} (X : K.In h) (G : h.Ns mainGlobals mg) {h' : Heap} (c : He.SaysX faL fnL tsL [] exL w h' K) : Txt w K mg ⟨He.ga K "Machine"⟩ where
  b_bool := He.free_ok X G (c.t.d.fact 0)
  b_enumerate := He.free_ok X G (c.t.d.fact 1)
  b_int := He.free_ok X G (c.t.d.fact 2)
  b_isinstance := He.free_ok X G (c.t.d.fact 3)
  b_len := He.free_ok X G (c.t.d.fact 4)
  b_range := He.free_ok X G (c.t.d.fact 5)
  b_str := He.free_ok X G (c.t.d.fact 6)
  b_tuple := He.free_ok X G (c.t.d.fact 7)
  b_zip := He.free_ok X G (c.t.d.fact 8)
  c_REST := He.int_ok X G (c.t.d.fact 9)
  c_CELLS := He.int_ok X G (c.t.d.fact 10)
  c_MOST_INS := He.int_ok X G (c.t.d.fact 11)
  c_MOST_NAMES := He.int_ok X G (c.t.d.fact 12)
  c_MOST_FUEL := He.int_ok X G (c.t.d.fact 13)
  c_MOST_REGISTER := He.int_ok X G (c.t.d.fact 14)
  c_MOST_TEST := He.int_ok X G (c.t.d.fact 15)
  c_MOST_PIECES := He.int_ok X G (c.t.d.fact 16)
  c_MOST_ROWS := He.int_ok X G (c.t.d.fact 17)
  c_MOST_GOES := He.int_ok X G (c.t.d.fact 18)
  c_PAIRS := ⟨_, He.glo_ok X G (c.t.d.fact 20), He.tupB_ok (ex_1 c.more)⟩
  c_SHAPES := ⟨_, He.glo_ok X G (c.t.d.fact 19), stab_of (ex_0 c.more) (c.t.tab 0)⟩
  c_MOSTS := ⟨_, He.glo_ok X G (c.t.d.fact 21), stab_of (ex_2 c.more) (c.t.tab 1)⟩
  f_is_number := let ⟨fd, F⟩ := c.t.d.def_ 0 (d := fn_0) rfl; ⟨_, fd, F, He.glo_ok X G (c.t.d.fact 22)⟩
  f_reckoned := let ⟨fd, F⟩ := c.t.d.def_ 1 (d := fn_1) rfl; ⟨_, fd, F, He.glo_ok X G (c.t.d.fact 23)⟩
  f_need_handed := let ⟨fd, F⟩ := c.t.d.def_ 2 (d := fn_2) rfl; ⟨_, fd, F, He.glo_ok X G (c.t.d.fact 24)⟩
  f_shape_of := let ⟨fd, F⟩ := c.t.d.def_ 3 (d := fn_3) rfl; ⟨_, fd, F, He.glo_ok X G (c.t.d.fact 25)⟩
  f_is_row := let ⟨fd, F⟩ := c.t.d.def_ 4 (d := fn_4) rfl; ⟨_, fd, F, He.glo_ok X G (c.t.d.fact 26)⟩
  f_are_goes := let ⟨fd, F⟩ := c.t.d.def_ 5 (d := fn_5) rfl; ⟨_, fd, F, He.glo_ok X G (c.t.d.fact 27)⟩
  f_need_tested := let ⟨fd, F⟩ := c.t.d.def_ 6 (d := fn_6) rfl; ⟨_, fd, F, He.glo_ok X G (c.t.d.fact 28)⟩
  f_need_piece := let ⟨fd, F⟩ := c.t.d.def_ 7 (d := fn_7) rfl; ⟨_, fd, F, He.glo_ok X G (c.t.d.fact 29)⟩
  f_Machine_init := let ⟨fd, F⟩ := c.t.d.def_ 8 (d := fn_8) rfl; ⟨_, fd, F, mkr_ok (c.t.d.fact 30)⟩
  f_Machine_held := let ⟨fd, F⟩ := c.t.d.def_ 9 (d := fn_9) rfl; ⟨_, fd, F, meth_ok (c.t.d.fact 31)⟩
  f_Machine_does := let ⟨fd, F⟩ := c.t.d.def_ 10 (d := fn_10) rfl; ⟨_, fd, F, meth_ok (c.t.d.fact 32)⟩
  f_Machine_change := let ⟨fd, F⟩ := c.t.d.def_ 11 (d := fn_11) rfl; ⟨_, fd, F, meth_ok (c.t.d.fact 33)⟩
  f_Machine_store := let ⟨fd, F⟩ := c.t.d.def_ 12 (d := fn_12) rfl; ⟨_, fd, F, meth_ok (c.t.d.fact 34)⟩
  f_Machine_holds := let ⟨fd, F⟩ := c.t.d.def_ 13 (d := fn_13) rfl; ⟨_, fd, F, meth_ok (c.t.d.fact 35)⟩
  f_Machine_through := let ⟨fd, F⟩ := c.t.d.def_ 14 (d := fn_14) rfl; ⟨_, fd, F, meth_ok (c.t.d.fact 36)⟩
  f_sources := let ⟨fd, F⟩ := c.t.d.def_ 15 (d := fn_15) rfl; ⟨_, fd, F, He.glo_ok X G (c.t.d.fact 37)⟩
  f_gone := let ⟨fd, F⟩ := c.t.d.def_ 16 (d := fn_16) rfl; ⟨_, fd, F, He.glo_ok X G (c.t.d.fact 38)⟩
  f_run_rows := let ⟨fd, F⟩ := c.t.d.def_ 17 (d := fn_17) rfl; ⟨_, fd, F, He.glo_ok X G (c.t.d.fact 39)⟩
  f_counts := let ⟨fd, F⟩ := c.t.d.def_ 18 (d := fn_18) rfl; ⟨_, fd, F, He.glo_ok X G (c.t.d.fact 40)⟩
  f__law_dice := let ⟨fd, F⟩ := c.t.d.def_ 19 (d := fn_19) rfl; ⟨_, fd, F, He.glo_ok X G (c.t.d.fact 41)⟩
  f__law_next := let ⟨fd, F⟩ := c.t.d.def_ 20 (d := fn_20) rfl; ⟨_, fd, F, He.glo_ok X G (c.t.d.fact 42)⟩
  f_law := let ⟨fd, F⟩ := c.t.d.def_ 21 (d := fn_21) rfl; ⟨_, fd, F, He.glo_ok X G (c.t.d.fact 43)⟩
  k_Machine := He.glo_ok X G (c.t.d.fact 44)
  cl_Machine := cls_ok (c.t.d.fact 45)
  na_Machine_registers := noat_ok (c.t.d.fact 46)
  na_Machine_cells := noat_ok (c.t.d.fact 47)
  na_Machine_tests := noat_ok (c.t.d.fact 48)
  na_Machine_fuel := noat_ok (c.t.d.fact 49)
  na_Machine_said := noat_ok (c.t.d.fact 50)
  na_Machine_end := noat_ok (c.t.d.fact 51)
  na_Machine_looked := noat_ok (c.t.d.fact 52)
  na_Machine_done := noat_ok (c.t.d.fact 53)
abbrev R : PySem.W.OpenRow := PySem.W.OpenLaw.row PySem.Challenge.rw_testedrows_k47_whole_no_test_at_a_begin
abbrev hk : PySem.W.Hook := He.hookX 6 faL fnL tsL [] exL
def ob (s : PySem.W.SharedT) : He.AlX := He.obsX 6 faL fnL tsL [] exL (HandSHeadRun.getT s)
theorem ob_eq (s : PySem.W.SharedT) : ob s = hk.obs s.abs := He.obsX_eq (HandSHeadRun.getT_eq s)
def loose_0 : List PySem.Str := ["RowsError", "BadTested", "BadHanded", "BadFuel", "REST", "CELLS", "MOST_INS", "MOST_NAMES", "is_number", "reckoned", "MOST_FUEL", "need_handed", "MOST_REGISTER", "MOST_TEST", "MOST_PIECES", "MOST_ROWS", "MOST_GOES", "SHAPES", "PAIRS", "MOSTS", "shape_of", "is_row", "are_goes", "need_tested", "need_piece", "Machine", "sources", "gone", "run_rows", "counts", "_law_dice", "_law_next"]
def loose : List PySem.Str := loose_0
theorem run (w : World) : HandSHeadRun.RunEq R (PySem.W.view R.prog [38]) hk ob 60000 loose w := by
  refine PySem.W.byRow2 "special-get-raises" (fun w => ?_) (fun w => ?_) w
  · intro os
    kernel_rfl
  · intro os
    kernel_rfl
end Kt
set_option Elab.async false
set_option linter.all false
set_option maxRecDepth 100000
set_option maxHeartbeats 4000000
namespace Kt
open PySem PySem.Spec PyProof.Rows L2 Tr
section
variable {P : Program} {w : World} {K : PySem.W.Frag} {mg : Str → Option Value} {base : Heap} {cs : Cs}
/-! is_number -/
def isNum (d : PyData) (lo hi : Int) : Bool := match d with
  | .int i => decide (lo ≤ i) && decide (i ≤ hi)
  | _ => false
def isNumF : List PyData → Option PyData
  | [d, .int lo, .int hi] => some (.bool (isNum d lo hi))
  | _ => none
theorem fc_is_number (T : Txt w K mg cs) : Fc P w K mg base 1 "is_number" (spF isNumF) := by
  obtain ⟨f, fd, F, g⟩ := T.f_is_number
  have b1 := T.b_isinstance
  have b2 := T.b_int
  have b3 := T.b_bool
  refine fc_data F g bd_is_number sc_is_number (fun ds d h => ?_) (fun cdv A outer s H vs ds d Q E hr hi hF q => ?_)
  · unfold isNumF at h
    split at h
    · rfl
    · cases h
  · unfold isNumF at hF
    split at hF
    · rename_i dp lo hi'
      cases hF
      cases hi with
      | cons i1 hi =>
      cases hi with
      | cons i2 hi =>
      cases hi with
      | cons i3 hi =>
      cases hi
      rename_i v1 v2 v3
      refine ws_retD ?_ q
      cases dp with
      | int i => exact DV.to (dv_and (dv_isInt b1 b2 (dv_v 0 rfl i1)) fun _ => dv_and (dv_not (dv_isBool b1 b3 (dv_v 0 rfl i1))) fun _ => dv_one (dv_le2 (dv_v 1 rfl i2) (dv_v 0 rfl i1) (dv_v 2 rfl i3))) rfl
      | bool b => exact DV.to (dv_and (k2 := false) (dv_isInt b1 b2 (dv_v 0 rfl i1)) fun _ => dv_and (k2 := false) (dv_not (dv_isBool b1 b3 (dv_v 0 rfl i1))) fun h => (nomatch h)) rfl
      | none => exact DV.to (dv_and (k2 := false) (dv_isInt b1 b2 (dv_v 0 rfl i1)) fun h => (nomatch h)) rfl
      | str _ => exact DV.to (dv_and (k2 := false) (dv_isInt b1 b2 (dv_v 0 rfl i1)) fun h => (nomatch h)) rfl
      | list _ => exact DV.to (dv_and (k2 := false) (dv_isInt b1 b2 (dv_v 0 rfl i1)) fun h => (nomatch h)) rfl
      | tuple _ => exact DV.to (dv_and (k2 := false) (dv_isInt b1 b2 (dv_v 0 rfl i1)) fun h => (nomatch h)) rfl
      | dict _ => exact DV.to (dv_and (k2 := false) (dv_isInt b1 b2 (dv_v 0 rfl i1)) fun h => (nomatch h)) rfl
    · cases hF
/-! shape_of, of rows -/
def rowPairs : List Str := ["add", "take", "times", "over", "rest", "less", "same"]
def rowShape (x : Str) : PyData := if rowPairs.contains x then .str "wrr" else dOf ((tab_SHAPES.lookup x).getD .non)
def rowShapeF : List PyData → Option PyData
  | [.str x] => some (rowShape x)
  | _ => none
theorem fc_shape_of (T : Txt w K mg cs) : Fc P w K mg base 1 "shape_of" (spF rowShapeF) := by
  obtain ⟨f, fd, F, g⟩ := T.f_shape_of
  obtain ⟨T1, g1, S1⟩ := T.c_SHAPES
  obtain ⟨T2, g2, S2⟩ := T.c_PAIRS
  refine fc_data F g bd_shape_of sc_shape_of (fun ds d h => ?_) (fun cdv A outer s H vs ds d Q E hr hi hF q => ?_)
  · unfold rowShapeF at h
    split at h
    · rfl
    · cases h
  · unfold rowShapeF at hF
    split at hF
    · rename_i x
      cases hF
      cases hi with
      | cons i1 hi =>
      cases hi
      rename_i v1
      refine ws_retD ?_ q
      refine dv_ifx (tv_inK (ss := rowPairs) g2 S2 (dv_v 0 rfl i1)) (fun h => ?_) (fun h => ?_)
      · unfold rowShape
        rw [h]
        exact dv_str
      · unfold rowShape
        rw [h]
        exact dv_kget g1 S1 (by decide +kernel) (dv_v 0 rfl i1)
    · cases hF
end
end Kt
set_option Elab.async false
set_option linter.all false
set_option maxRecDepth 100000
set_option maxHeartbeats 4000000
namespace Kt
open PySem PySem.Spec PyProof.Rows L2 Tr
/-! is_row -/
def mostOf (x : Str) : Int := match tab_MOSTS.lookup x with
  | some (.int i) => i
  | _ => 0
def kindOk (x : Str) (d : PyData) : Bool := isNum d (if decide (x = "p") then 1 else 0) (mostOf x)
def badKind : PyData → Bool
  | .tuple [.str x, d] => !kindOk x d
  | _ => false
def sndD : PyData → PyData
  | .tuple [_, d] => d
  | _ => .none
def ne01 : List PyData → Bool
  | .int a :: .int b :: _ => !decide (a = b)
  | _ => true
def isRowD : PyData → Bool
  | .tuple (t :: .str x :: ps) => isNum t 0 1999 && (match rowShape x with
    | .str sh => decide (ps.length = sh.length) && ((comp badKind sndD (zipSD sh ps)).isEmpty && (!decide (x = "test") || ne01 ps))
    | _ => false)
  | _ => false
def isRowF : List PyData → Option PyData
  | [d] => if okD d then some (.bool (isRowD d)) else none
  | _ => none
def shapeTexts : List Str := ["wrr", "wn", "wr", "rr", "r", "ppr"]
theorem tab_vals : tab_SHAPES.all (fun q => match q.2 with | .str s => shapeTexts.contains s | _ => false) = true := by decide +kernel
theorem rowShape_cases (x : Str) : rowShape x = .none ∨ ∃ sh, rowShape x = .str sh := by
  unfold rowShape
  split
  · exact .inr ⟨_, rfl⟩
  · cases hl : tab_SHAPES.lookup x with
    | none => exact .inl rfl
    | some v =>
      have z := lookup_all (p := fun v => match v with | .str s => shapeTexts.contains s | _ => false) tab_vals hl
      cases v with
      | str s => exact .inr ⟨s, rfl⟩
      | _ => cases z
theorem rowShape_mem {x sh : Str} (h : rowShape x = .str sh) : sh ∈ shapeTexts := by
  unfold rowShape at h
  split at h
  · cases h
    decide +kernel
  · cases hl : tab_SHAPES.lookup x with
    | none => rw [hl] at h; cases h
    | some v =>
      rw [hl] at h
      have z := lookup_all (p := fun v => match v with | .str s => shapeTexts.contains s | _ => false) tab_vals hl
      cases v with
      | str s =>
        cases h
        exact List.contains_iff_mem.mp z
      | _ => cases h
theorem most_ok : shapeTexts.all (fun s => s.cps.toList.all fun c => match tab_MOSTS.lookup ⟨#[c]⟩ with | some (.int _) => true | _ => false) = true := by decide +kernel
theorem most_get {sh : Str} (h : sh ∈ shapeTexts) {c : Nat} (hc : c ∈ sh.cps.toList) : tab_MOSTS.lookup ⟨#[c]⟩ = some (.int (mostOf ⟨#[c]⟩)) := by
  have z := List.all_eq_true.mp (List.all_eq_true.mp most_ok sh h) c hc
  unfold mostOf
  cases hl : tab_MOSTS.lookup ⟨#[c]⟩ with
  | none => rw [hl] at z; cases z
  | some v =>
    rw [hl] at z
    cases v with
    | int i => rfl
    | _ => cases z
theorem shape_len {sh : Str} (h : sh ∈ shapeTexts) : sh.length ≤ 3 := by
  have z : shapeTexts.all (fun s => decide (s.length ≤ 3)) = true := by decide +kernel
  exact of_decide_eq_true (List.all_eq_true.mp z sh h)
theorem zip_mem {sh : Str} {ps : List PyData} {d : PyData} (h : d ∈ zipSD sh ps) : ∃ c e, c ∈ sh.cps.toList ∧ e ∈ ps ∧ d = .tuple [.str ⟨#[c]⟩, e] := by
  unfold zipSD at h
  obtain ⟨i, hi, e⟩ := List.mem_iff_getElem.mp h
  rw [List.getElem_zipWith] at e
  exact ⟨_, _, List.getElem_mem _, List.getElem_mem _, e.symm⟩
theorem comp_mem {tst : PyData → Bool} {f : PyData → PyData} {ds : List PyData} {d : PyData} (h : d ∈ comp tst f ds) : ∃ e, e ∈ ds ∧ tst e = true ∧ d = f e := by
  unfold comp at h
  obtain ⟨e, h1, h2⟩ := List.mem_map.mp h
  obtain ⟨h3, h4⟩ := List.mem_filter.mp h1
  exact ⟨e, h3, h4, h2.symm⟩
theorem isNum_int {d : PyData} {lo hi : Int} (h : isNum d lo hi = true) : ∃ i, d = .int i := by
  cases d with
  | int i => exact ⟨i, rfl⟩
  | _ => cases h
theorem test_ints {ps : List PyData} (hl : ps.length = 3) (h : (comp badKind sndD (zipSD "ppr" ps)).isEmpty = true) : ∃ a b c, ps = [.int a, .int b, .int c] := by
  match ps, hl with
  | [a, b, c], _ =>
    have e : zipSD "ppr" [a, b, c] = [.tuple [.str "p", a], .tuple [.str "p", b], .tuple [.str "r", c]] := rfl
    have hn : ∀ d ∈ zipSD "ppr" [a, b, c], badKind d = false := fun d hd => by
      cases hb : badKind d with
      | false => rfl
      | true =>
        have : sndD d ∈ comp badKind sndD (zipSD "ppr" [a, b, c]) := List.mem_map.mpr ⟨d, List.mem_filter.mpr ⟨hd, hb⟩, rfl⟩
        rw [List.isEmpty_iff.mp h] at this
        cases this
    have h1 := hn (.tuple [.str "p", a]) (by rw [e]; simp)
    have h2 := hn (.tuple [.str "p", b]) (by rw [e]; simp)
    have h3 := hn (.tuple [.str "r", c]) (by rw [e]; simp)
    have k1 : kindOk "p" a = true := by simpa [badKind] using h1
    have k2 : kindOk "p" b = true := by simpa [badKind] using h2
    have k3 : kindOk "r" c = true := by simpa [badKind] using h3
    obtain ⟨i, rfl⟩ := isNum_int k1
    obtain ⟨j, rfl⟩ := isNum_int k2
    obtain ⟨l, rfl⟩ := isNum_int k3
    exact ⟨i, j, l, rfl⟩
theorem shape_test : rowShape "test" = .str "ppr" := by kernel_rfl
section
variable {P : Program} {w : World} {K : PySem.W.Frag} {mg : Str → Option Value} {base : Heap} {cs : Cs}
set_option maxHeartbeats 8000000 in
theorem fc_is_row (T : Txt w K mg cs) : Fc P w K mg base 2 "is_row" (spF isRowF) := by
  obtain ⟨f, fd, F, g⟩ := T.f_is_row
  have GN : Fc P w K mg base 1 "is_number" (spF isNumF) := fc_is_number T
  have GS : Fc P w K mg base 1 "shape_of" (spF rowShapeF) := fc_shape_of T
  have b1 := T.b_isinstance
  have b2 := T.b_tuple
  have b3 := T.b_len
  have b4 := T.b_str
  have b5 := T.b_zip
  have b6 := T.b_int
  obtain ⟨tk, c1⟩ := T.c_MOST_TEST
  obtain ⟨TM, gM, SM⟩ := T.c_MOSTS
  refine fc_data F g bd_is_row sc_is_row (fun ds d h => ?_) (fun cdv A outer s H vs ds d Q E hr hi hF q => ?_)
  · unfold isRowF at h
    split at h
    · rfl
    · cases h
  · unfold isRowF at hF
    split at hF
    · rename_i d0
      split at hF
      · rename_i hok
        cases hF
        cases hi with
        | cons i1 hi =>
        cases hi
        rename_i v1
        have s0 : Same H H := Same.refl H
        -- what is none at once
        have no : ∀ H', Same H H' → isRowD d0 = false → ∀ (D : Ends), D.rt = Q → ∀ (sts : List Stmt) (σ : St) (p1 p2 : Pos) (m : Nat), WS (Bx P w K mg base N_is_row "is_row" s_is_row f cdv A outer s H E) (.Return (some (.Constant (.bool false) m p1)) p2 :: sts) D σ H' := by
          intro H' s' hd D hD sts σ p1 p2 m
          refine ws_retE s' dv_bl fun v H2 s2 iv => ?_
          rw [hD]
          rw [hd] at q
          exact q v H2 s2 iv
        cases d0 with
        | tuple ds =>
          match ds, i1, hok, q, no with
          | [], i1, hok, q, no =>
            exact ws_ifR s0 (tv_w (tw_or (tv_not (tv_val (dv_isTup b1 b2 (dv_v 0 rfl i1)))) fun _ => tw_or (k2 := false) (tv_lt (dv_lenT b3 (dv_v 0 rfl i1)) dv_int) fun h => (nomatch h))) (fun _ H' s' => no H' s' rfl _ rfl _ _ _ _ _) (fun h => (nomatch h))
          | [t], i1, hok, q, no =>
            exact ws_ifR s0 (tv_w (tw_or (tv_not (tv_val (dv_isTup b1 b2 (dv_v 0 rfl i1)))) fun _ => tw_or (k2 := false) (tv_lt (dv_lenT b3 (dv_v 0 rfl i1)) dv_int) fun h => (nomatch h))) (fun _ H' s' => no H' s' rfl _ rfl _ _ _ _ _) (fun h => (nomatch h))
          | t :: x :: ps, i1, hok, q, no =>
            refine ws_ifR s0 (tv_w (tw_or (tv_not (tv_val (dv_isTup b1 b2 (dv_v 0 rfl i1)))) fun _ => tw_or (tv_lt (dv_lenT b3 (dv_v 0 rfl i1)) dv_int) fun _ => tw_or (tv_not (tv_val (dv_c GN hr (by decide) (av_cons (dv_ix (dv_v 0 rfl i1) dv_int (atI_nat (j := 0) rfl)) (av_cons dv_int (av_cons (dv_gi c1) av_nil))) rfl)))
              fun _ => tw_or1 (tv_not (tv_val (dv_isStr b1 b4 (dv_ix (dv_v 0 rfl i1) dv_int (atI_nat (j := 1) rfl))))))) (fun h H' s' => no H' s' ?_ _ rfl _ _ _ _ _) (fun h H' s' => ?_)
            · have hl : decide (((t :: x :: ps).length : Int) < 2) = false := decide_eq_false (by simp only [List.length_cons]; omega)
              have e1 : isiD "tuple" (.tuple (t :: x :: ps)) = true := rfl
              rw [hl, e1] at h
              cases x with
              | str y =>
                have e2 : isiD "str" (.str y) = true := rfl
                rw [e2] at h
                have e3 : isNum t 0 1999 = false := by simpa using h
                show (isNum t 0 1999 && _) = false
                rw [e3]
                rfl
              | _ => rfl
            · have hl : decide (((t :: x :: ps).length : Int) < 2) = false := decide_eq_false (by simp only [List.length_cons]; omega)
              have e1 : isiD "tuple" (.tuple (t :: x :: ps)) = true := rfl
              rw [hl, e1] at h
              have hx : isiD "str" x = true := by
                cases hh : isiD "str" x with
                | true => rfl
                | false => rw [hh] at h; simp at h
              have hn : isNum t 0 1999 = true := by
                cases hh : isNum t 0 1999 with
                | true => rfl
                | false => rw [hh] at h; simp at h
              cases x with
              | str y =>
                have er : isRowD (.tuple (t :: .str y :: ps)) = (match rowShape y with
                    | .str sh => decide (ps.length = sh.length) && ((comp badKind sndD (zipSD sh ps)).isEmpty && (!decide (y = "test") || ne01 ps))
                    | _ => false) := by
                  show (isNum t 0 1999 && _) = _
                  rw [hn]
                  rfl
                -- shape = shape_of(row[1])
                refine ws_setE (n := 1) sc_is_row.nd s' (dv_c GS hr (by decide) (av_cons (dv_ix (dv_v 0 rfl i1) dv_int (atI_nat (j := 1) rfl)) av_nil) rfl) fun v2 H2 s2 iv2 => ?_
                have j1 := i1.mono (tx_same s2)
                have no2 : ∀ H', Same H2 H' → isRowD (.tuple (t :: .str y :: ps)) = false → ∀ (D : Ends), D.rt = Q → ∀ (sts : List Stmt) (σ : St) (p1 p2 : Pos) (m : Nat), WS (Bx P w K mg base N_is_row "is_row" s_is_row f cdv A outer s H E) (.Return (some (.Constant (.bool false) m p1)) p2 :: sts) D σ H' :=
                  fun H' s'' => no H' (s2.trans s'')
                have r0 : Same H2 H2 := Same.refl H2
                rcases rowShape_cases y with hs | ⟨sh, hs⟩
                · rw [hs] at iv2 er
                  exact ws_ifR r0 (tv_w (tw_or (k2 := false) (tv_isN (dv_v 1 rfl iv2)) fun h => (nomatch h))) (fun _ H' s' => no2 H' s' er _ rfl _ _ _ _ _) (fun h => (nomatch h))
                · have hm := rowShape_mem hs
                  have hsl := shape_len hm
                  rw [hs] at iv2 er
                  refine ws_ifR r0 (tv_w (tw_or (tv_isN (dv_v 1 rfl iv2)) fun _ => tw_or1 (tv_neI (dv_lenT b3 (dv_v 0 rfl j1)) (dv_add (dv_lenS b3 (dv_v 1 rfl iv2) (by omega)) dv_int)))) (fun h H' s' => no2 H' s' ?_ _ rfl _ _ _ _ _) (fun h H3 s3 => ?_)
                  · have e2 : decide (((t :: PyData.str y :: ps).length : Int) = (sh.length : Int) + 2) = false := by
                      cases hh : decide (((t :: PyData.str y :: ps).length : Int) = (sh.length : Int) + 2) with
                      | false => rfl
                      | true => rw [hh] at h; cases h
                    have e3 : ps.length ≠ sh.length := fun z => by
                      have e4 := of_decide_eq_false e2
                      simp only [List.length_cons] at e4
                      omega
                    rw [er]
                    show (decide (ps.length = sh.length) && _) = false
                    rw [decide_eq_false e3]
                    rfl
                  · have e2 : decide (((t :: PyData.str y :: ps).length : Int) = (sh.length : Int) + 2) = true := by
                      cases hh : decide (((t :: PyData.str y :: ps).length : Int) = (sh.length : Int) + 2) with
                      | true => rfl
                      | false => rw [hh] at h; cases h
                    have e3 : ps.length = sh.length := by
                      have e4 := of_decide_eq_true e2
                      simp only [List.length_cons] at e4
                      omega
                    have er2 : isRowD (.tuple (t :: .str y :: ps)) = ((comp badKind sndD (zipSD sh ps)).isEmpty && (!decide (y = "test") || ne01 ps)) := by
                      rw [er]
                      show (decide (ps.length = sh.length) && _) = _
                      rw [decide_eq_true e3]
                      rfl
                    have hz : (zipSD sh ps).length ≤ 100000 := by
                      unfold zipSD
                      rw [List.length_zipWith]
                      omega
                    refine ws_ifR s3 (tv_neNil hr (lv_lc2 (n := 2) (m := 3) badKind sndD rfl sc_is_row.nd (blkOk_by (N := N_is_row) (sc := defScope s_is_row) (by decide +kernel)) (fun H1 t1 => sv_zipS b5 (dv_v 1 rfl (iv2.mono t1)) (dv_from (n := 2) (dv_v 0 rfl (j1.mono t1)))) hz (fun d hd => ?_) (fun H4 d1 d2 u v hm4 t4 iu iv => ?_) (fun H4 d1 d2 u v hm4 t4 iu iv _ => fun _ _ _ _ _ => dv_v 3 rfl iv)) (shaped_list fun d hd => ?_)) (fun h H' s' => no2 H' s' ?_ _ rfl _ _ _ _ _) (fun h H5 s5 => ?_)
                    · obtain ⟨c, e, _, _, rfl⟩ := zip_mem hd
                      exact ⟨_, _, rfl⟩
                    · obtain ⟨c, e, hc, he, hq⟩ := zip_mem hm4
                      cases hq
                      exact fun _ _ _ _ _ => tv_not (tv_val (dv_c GN hr (by decide) (av_cons (dv_v 3 rfl iv) (av_cons (dv_intB b6 (dv_eqS (dv_v 2 rfl iu) dv_str)) (av_cons (dv_kix gM SM (dv_v 2 rfl iu) (most_get hm hc) rfl) av_nil))) rfl))
                    · obtain ⟨e, he, _, rfl⟩ := comp_mem hd
                      obtain ⟨c, e', _, he', rfl⟩ := zip_mem he
                      exact okD_tuple hok e' (List.mem_cons_of_mem _ (List.mem_cons_of_mem _ he'))
                    · rw [er2]
                      have : (comp badKind sndD (zipSD sh ps)).isEmpty = false := by simpa using h
                      rw [this]
                      rfl
                    · have hem : (comp badKind sndD (zipSD sh ps)).isEmpty = true := by simpa using h
                      rw [er2, hem, Bool.true_and] at q
                      by_cases hy : y = "test"
                      · subst hy
                        rw [shape_test] at hs
                        cases hs
                        obtain ⟨pa, pb, pc, rfl⟩ := test_ints (by rw [e3]; rfl) hem
                        exact ws_retE s5 (dv_or (dv_neS (dv_ix (dv_v 0 rfl j1) dv_int (atI_nat (j := 1) rfl)) dv_str) fun _ => dv_one (dv_neI (dv_ix (dv_v 0 rfl j1) dv_int (atI_nat (j := 2) rfl)) (dv_ix (dv_v 0 rfl j1) dv_int (atI_nat (j := 3) rfl)))) fun v H6 s6 iv6 => q v H6 (s2.trans s6) iv6
                      · refine ws_retE s5 (DV.to (dv_or (k2 := ne01 ps) (dv_neS (dv_ix (dv_v 0 rfl j1) dv_int (atI_nat (j := 1) rfl)) dv_str) fun hh => ?_) rfl) fun v H6 s6 iv6 => q v H6 (s2.trans s6) iv6
                        rw [decide_eq_false hy] at hh
                        cases hh
              | _ => cases hx
        | none => exact ws_ifR s0 (tv_w (tw_or (k2 := false) (tv_not (tv_val (dv_isTup b1 b2 (dv_v 0 rfl i1)))) fun h => (nomatch h))) (fun _ H' s' => no H' s' rfl _ rfl _ _ _ _ _) (fun h => (nomatch h))
        | bool b => exact ws_ifR s0 (tv_w (tw_or (k2 := false) (tv_not (tv_val (dv_isTup b1 b2 (dv_v 0 rfl i1)))) fun h => (nomatch h))) (fun _ H' s' => no H' s' rfl _ rfl _ _ _ _ _) (fun h => (nomatch h))
        | int b => exact ws_ifR s0 (tv_w (tw_or (k2 := false) (tv_not (tv_val (dv_isTup b1 b2 (dv_v 0 rfl i1)))) fun h => (nomatch h))) (fun _ H' s' => no H' s' rfl _ rfl _ _ _ _ _) (fun h => (nomatch h))
        | str b => exact ws_ifR s0 (tv_w (tw_or (k2 := false) (tv_not (tv_val (dv_isTup b1 b2 (dv_v 0 rfl i1)))) fun h => (nomatch h))) (fun _ H' s' => no H' s' rfl _ rfl _ _ _ _ _) (fun h => (nomatch h))
        | list b => cases i1
        | dict b => cases i1
      · cases hF
    · cases hF
end
end Kt
set_option Elab.async false
set_option linter.all false
set_option maxRecDepth 100000
set_option maxHeartbeats 4000000
namespace Kt
open PySem PySem.Spec PyProof.Rows L2 Tr
/-! are_goes -/
def goOk (many : Int) : PyData → Bool
  | .tuple [t, p] => isNum t 0 1999 && isNum p (-1) (many - 1)
  | _ => false
def lastZero (gs : List PyData) : Bool := match gs.getLast? with
  | some (.tuple (.int t :: _)) => decide (t = 0)
  | _ => false
def areGoesD (many : Int) : PyData → Bool
  | .tuple gs => (decide ((1 : Int) ≤ (gs.length : Int)) && decide ((gs.length : Int) ≤ 8)) && (gs.all (goOk many) && lastZero gs)
  | _ => false
def areGoesF : List PyData → Option PyData
  | [d, .int many] => some (.bool (areGoesD many d))
  | _ => none
theorem all_take_succ {p : PyData → Bool} {ds : List PyData} {i : Nat} {d : PyData} (h : ds[i]? = some d) (ha : (ds.take i).all p = true) (hd : p d = true) : (ds.take (i + 1)).all p = true := by
  rw [List.take_add_one, h, List.all_append, ha]
  simp [hd]
theorem all_false {p : PyData → Bool} {ds : List PyData} {i : Nat} {d : PyData} (h : ds[i]? = some d) (hd : p d = false) : ds.all p = false := by
  cases hh : ds.all p with
  | false => rfl
  | true =>
    rw [List.all_eq_true.mp hh d (List.mem_of_getElem? h)] at hd
    cases hd
section
variable {P : Program} {w : World} {K : PySem.W.Frag} {mg : Str → Option Value} {base : Heap} {cs : Cs}
set_option maxHeartbeats 8000000 in
theorem fc_are_goes (T : Txt w K mg cs) : Fc P w K mg base 2 "are_goes" (spF areGoesF) := by
  obtain ⟨f, fd, F, g⟩ := T.f_are_goes
  have GN : Fc P w K mg base 1 "is_number" (spF isNumF) := fc_is_number T
  have b1 := T.b_isinstance
  have b2 := T.b_tuple
  have b3 := T.b_len
  obtain ⟨tk, c1⟩ := T.c_MOST_TEST
  obtain ⟨tk2, c2⟩ := T.c_MOST_GOES
  refine fc_data F g bd_are_goes sc_are_goes (fun ds d h => ?_) (fun cdv A outer s H vs ds d Q E hr hi hF q => ?_)
  · unfold areGoesF at h
    split at h
    · rfl
    · cases h
  · unfold areGoesF at hF
    split at hF
    · rename_i d0 many
      cases hF
      cases hi with
      | cons i1 hi =>
      cases hi with
      | cons i2 hi =>
      cases hi
      rename_i v1 v2
      have s0 : Same H H := Same.refl H
      have no : ∀ H', Same H H' → areGoesD many d0 = false → ∀ (D : Ends), D.rt = Q → ∀ (sts : List Stmt) (σ : St) (p1 p2 : Pos) (m : Nat), WS (Bx P w K mg base N_are_goes "are_goes" s_are_goes f cdv A outer s H E) (.Return (some (.Constant (.bool false) m p1)) p2 :: sts) D σ H' := by
        intro H' s' hd D hD sts σ p1 p2 m
        refine ws_retE s' dv_bl fun v H2 s2 iv => ?_
        rw [hD]
        rw [hd] at q
        exact q v H2 s2 iv
      have nt : isiD "tuple" d0 = false → areGoesD many d0 = false := fun h => by
        cases d0 with
        | tuple _ => cases h
        | _ => rfl
      by_cases ht : isiD "tuple" d0 = false
      · exact ws_ifR s0 (TV.to (tv_w (tw_or (k2 := false) (tv_not (tv_val (dv_isTup b1 b2 (dv_v 0 rfl i1)))) fun h => by rw [ht] at h; cases h)) (show _ = true by rw [ht]; rfl)) (fun _ H' s' => no H' s' (nt ht) _ rfl _ _ _ _ _) (fun h => (nomatch h))
      · cases d0 with
        | tuple gs =>
          refine ws_ifR s0 (tv_w (tw_or (tv_not (tv_val (dv_isTup b1 b2 (dv_v 0 rfl i1)))) fun _ => tw_or1 (tv_not (tv_le2 dv_int (dv_lenT b3 (dv_v 0 rfl i1)) (dv_gi c2))))) (fun h H' s' => no H' s' ?_ _ rfl _ _ _ _ _) (fun h H1 s1 => ?_)
          · have h' : (!(decide ((1 : Int) ≤ (gs.length : Int)) && decide ((gs.length : Int) ≤ 8))) = true := h
            have e : (decide ((1 : Int) ≤ (gs.length : Int)) && decide ((gs.length : Int) ≤ 8)) = false := by
              cases hh : (decide ((1 : Int) ≤ (gs.length : Int)) && decide ((gs.length : Int) ≤ 8)) with
              | false => rfl
              | true => rw [hh] at h'; cases h'
            show ((decide ((1 : Int) ≤ (gs.length : Int)) && decide ((gs.length : Int) ≤ 8)) && _) = false
            rw [e]
            rfl
          · have h' : (!(decide ((1 : Int) ≤ (gs.length : Int)) && decide ((gs.length : Int) ≤ 8))) = false := h
            have e : (decide ((1 : Int) ≤ (gs.length : Int)) && decide ((gs.length : Int) ≤ 8)) = true := by
              cases hh : (decide ((1 : Int) ≤ (gs.length : Int)) && decide ((gs.length : Int) ≤ 8)) with
              | true => rfl
              | false => rw [hh] at h'; cases h'
            have er : areGoesD many (.tuple gs) = (gs.all (goOk many) && lastZero gs) := by
              show ((decide ((1 : Int) ≤ (gs.length : Int)) && decide ((gs.length : Int) ≤ 8)) && _) = _
              rw [e]
              rfl
            refine ws_for1 (n := 2) sc_are_goes.nd rfl (sv_tup (dv_v 0 rfl (i1.mono (tx_same s1)))) (fun i σ' H' => (∃ u, σ' = [some v1, some v2, u]) ∧ Same H H' ∧ (gs.take i).all (goOk many) = true) (fun H' s' => ⟨⟨none, rfl⟩, s1.trans s', rfl⟩) (fun i σ' H' H'' h s' => ⟨h.1, h.2.1.trans s', h.2.2⟩) ?_ ?_
            · rintro i d v σ' H' hd ⟨⟨u, rfl⟩, sH, ha⟩ iv
              have r0 : Same H' H' := Same.refl H'
              have j1 := i1.mono (tx_same sH)
              have j2 := i2.mono (tx_same sH)
              have no2 : ∀ H2, Same H' H2 → goOk many d = false → ∀ (D : Ends), D.rt = Q → ∀ (sts : List Stmt) (σ : St) (p1 p2 : Pos) (m : Nat), WS (Bx P w K mg base N_are_goes "are_goes" s_are_goes f cdv A outer s H E) (.Return (some (.Constant (.bool false) m p1)) p2 :: sts) D σ H2 :=
                fun H2 s2 hg => no H2 (sH.trans s2) (by rw [er, all_false hd hg]; rfl)
              have nt2 : isiD "tuple" d = false → goOk many d = false := fun h => by
                cases d with
                | tuple _ => cases h
                | _ => rfl
              by_cases ht2 : isiD "tuple" d = false
              · exact ws_ifR r0 (TV.to (tv_w (tw_or (k2 := false) (tv_not (tv_val (dv_isTup b1 b2 (dv_v 2 rfl iv)))) fun h => by rw [ht2] at h; cases h)) (show _ = true by rw [ht2]; rfl)) (fun _ H' s' => no2 H' s' (nt2 ht2) _ rfl _ _ _ _ _) (fun h => (nomatch h))
              · cases d with
                | tuple xs =>
                  by_cases h2 : xs.length = 2
                  · match xs, h2 with
                    | [t, pp], _ =>
                      refine ws_ifR r0 (tv_w (tw_or (tv_not (tv_val (dv_isTup b1 b2 (dv_v 2 rfl iv)))) fun _ => tw_or (tv_neI (dv_lenT b3 (dv_v 2 rfl iv)) dv_int) fun _ => tw_or1 (tv_not (tv_val (dv_c GN hr (by decide) (av_cons (dv_ix (dv_v 2 rfl iv) dv_int (atI_nat (j := 0) rfl)) (av_cons dv_int (av_cons (dv_gi c1) av_nil))) rfl))))) (fun h H2 s2 => no2 H2 s2 ?_ _ rfl _ _ _ _ _) (fun h H2 s2 => ?_)
                      · have e2 : isNum t 0 1999 = false := by simpa [isiD] using h
                        show (isNum t 0 1999 && _) = false
                        rw [e2]
                        rfl
                      · have e2 : isNum t 0 1999 = true := by simpa [isiD] using h
                        refine ws_ifR s2 (tv_not (tv_val (dv_c GN hr (by decide) (av_cons (dv_ix (dv_v 2 rfl iv) dv_int (atI_nat (j := 1) rfl)) (av_cons dv_neg (av_cons (dv_sub (dv_v 1 rfl j2) dv_int) av_nil))) rfl))) (fun h H3 s3 => no2 H3 s3 ?_ _ rfl _ _ _ _ _) (fun h H3 s3 => ?_)
                        · have e3 : isNum pp (-1) (many - 1) = false := by simpa using h
                          show (isNum t 0 1999 && isNum pp (-1) (many - 1)) = false
                          rw [e3, Bool.and_false]
                        · have e3 : isNum pp (-1) (many - 1) = true := by simpa using h
                          exact ws_nil ⟨tx_same s3, ⟨_, rfl⟩, sH.trans s3, all_take_succ hd ha (by show (isNum t 0 1999 && isNum pp (-1) (many - 1)) = true; rw [e2, e3]; rfl)⟩
                  · have hg : goOk many (.tuple xs) = false := by
                      match xs, h2 with
                      | [], _ => rfl
                      | [_], _ => rfl
                      | [_, _], h2 => exact absurd rfl h2
                      | _ :: _ :: _ :: _, _ => rfl
                    have hl : (!decide ((xs.length : Int) = 2)) = true := by
                      rw [decide_eq_false (show ¬ (xs.length : Int) = 2 by omega)]
                      rfl
                    exact ws_ifR r0 (TV.to (tv_w (tw_or (tv_not (tv_val (dv_isTup b1 b2 (dv_v 2 rfl iv)))) fun _ => tw_or (k2 := false) (tv_neI (dv_lenT b3 (dv_v 2 rfl iv)) dv_int) fun h => by rw [hl] at h; cases h)) (show _ = true by rw [hl]; rfl)) (fun _ H' s' => no2 H' s' hg _ rfl _ _ _ _ _) (fun h => (nomatch h))
                | _ => exact absurd rfl ht2
            · rintro σ' H' ⟨⟨u, rfl⟩, sH, ha⟩
              rw [List.take_length] at ha
              have j1 := i1.mono (tx_same sH)
              rw [er, ha, Bool.true_and] at q
              have hlen : 1 ≤ gs.length := by
                have := of_decide_eq_true (Bool.and_eq_true_iff.mp e).1
                omega
              obtain ⟨g0, hg0⟩ : ∃ g0, gs.getLast? = some g0 := ⟨_, List.getLast?_eq_some_getLast (by intro z; rw [z] at hlen; simp at hlen)⟩
              have hmem : g0 ∈ gs := List.mem_of_getLast? hg0
              have hok := List.all_eq_true.mp ha g0 hmem
              obtain ⟨t, pp, rfl⟩ : ∃ t pp, g0 = .tuple [.int t, pp] := by
                cases g0 with
                | tuple xs =>
                  match xs, hok with
                  | [t, pp], hok =>
                    obtain ⟨i, rfl⟩ := isNum_int (Bool.and_eq_true_iff.mp hok).1
                    exact ⟨i, pp, rfl⟩
                | _ => cases hok
              have hat : atI gs (-1) = some (.tuple [.int t, pp]) := by
                have z : gs = gs.dropLast ++ [.tuple [.int t, pp]] := by
                  obtain ⟨hne, e2⟩ := List.getLast?_eq_some_iff.mp hg0
                  rw [e2]
                  simp
                rw [z]
                exact atI_last _ _
              have el : lastZero gs = decide (t = 0) := by
                unfold lastZero
                rw [hg0]
              rw [el] at q
              exact ws_retE (Same.refl H') (dv_eqI (dv_ix (dv_ix (dv_v 0 rfl j1) dv_neg hat) dv_int (atI_nat (j := 0) rfl)) dv_int) fun v H2 s2 iv => q v H2 (sH.trans s2) iv
        | _ => exact absurd rfl ht
    · cases hF
/-! need_piece, of a piece -/
def pieceOk (many : Int) : PyData → Bool
  | .tuple [.tuple rows, goes] => decide (rows.length ≤ 1500) && (rows.all isRowD && areGoesD many goes)
  | _ => false
def needPieceF : List PyData → Option PyData
  | [.int _, d, .int many] => if okD d && pieceOk many d then some .none else none
  | _ => none
theorem pair_enum {ds : List PyData} : ∀ (k : Int) (d : PyData), d ∈ enumD k ds → ∃ u v, d = .tuple [u, v] := by
  induction ds with
  | nil => intro k d h; cases h
  | cons x r ih =>
    intro k d h
    rcases List.mem_cons.mp h with rfl | h
    · exact ⟨_, _, rfl⟩
    · exact ih _ _ h
theorem enum_at {ds : List PyData} {k : Int} {i : Nat} {d1 d2 : PyData} (h : (enumD k ds)[i]? = some (.tuple [d1, d2])) : d1 = .int (k + i) ∧ ds[i]? = some d2 := by
  have hl : i < ds.length := by
    have := (List.getElem?_eq_some_iff.mp h).1
    rw [enumD_len] at this
    exact this
  have e := enumD_get k ds i ds[i] (by simp [hl])
  rw [e] at h
  cases h
  exact ⟨rfl, by simp [hl]⟩
set_option maxHeartbeats 8000000 in
theorem fc_need_piece (T : Txt w K mg cs) : Fc P w K mg base 3 "need_piece" (spF needPieceF) := by
  obtain ⟨f, fd, F, g⟩ := T.f_need_piece
  have GR : Fc P w K mg base 2 "is_row" (spF isRowF) := fc_is_row T
  have GG : Fc P w K mg base 2 "are_goes" (spF areGoesF) := fc_are_goes T
  have b1 := T.b_isinstance
  have b2 := T.b_tuple
  have b3 := T.b_len
  have b4 := T.b_enumerate
  obtain ⟨tk, c1⟩ := T.c_MOST_ROWS
  refine fc_data F g bd_need_piece sc_need_piece (fun ds d h => ?_) (fun cdv A outer s H vs ds d Q E hr hi hF q => ?_)
  · unfold needPieceF at h
    split at h
    · rfl
    · cases h
  · unfold needPieceF at hF
    split at hF
    · rename_i num d0 many
      split at hF
      · rename_i hok
        cases hF
        obtain ⟨hok1, hok2⟩ := Bool.and_eq_true_iff.mp hok
        cases hi with
        | cons i1 hi =>
        cases hi with
        | cons i2 hi =>
        cases hi with
        | cons i3 hi =>
        cases hi
        rename_i v1 v2 v3
        obtain ⟨rows, goes, rfl⟩ : ∃ rows goes, d0 = .tuple [.tuple rows, goes] := by
          unfold pieceOk at hok2
          split at hok2
          · exact ⟨_, _, rfl⟩
          · cases hok2
        have hp : (decide (rows.length ≤ 1500) && (rows.all isRowD && areGoesD many goes)) = true := hok2
        obtain ⟨h1, h23⟩ := Bool.and_eq_true_iff.mp hp
        obtain ⟨h2, h3⟩ := Bool.and_eq_true_iff.mp h23
        have h1' : rows.length ≤ 1500 := of_decide_eq_true h1
        have s0 : Same H H := Same.refl H
        have okr : ∀ r ∈ rows, okD r = true := okD_tuple (okD_tuple hok1 (.tuple rows) (by simp))
        refine ws_ifR s0 (tv_w (tw_or (tv_not (tv_val (dv_isTup b1 b2 (dv_v 1 rfl i2)))) fun _ => tw_or (tv_neI (dv_lenT b3 (dv_v 1 rfl i2)) dv_int) fun _ => tw_or1 (tv_not (tv_val (dv_isTup b1 b2 (dv_ix (dv_v 1 rfl i2) dv_int (atI_nat (j := 0) rfl))))))) (fun h => (nomatch h)) (fun h H1 s1 => ?_)
        refine ws_ifR s1 (tv_gt (dv_lenT b3 (dv_ix (dv_v 1 rfl i2) dv_int (atI_nat (j := 0) rfl))) (dv_gi c1)) (fun h => ?_) (fun h H2 s2 => ?_)
        · have := of_decide_eq_true h
          exact fun H' s' => ws_no (by omega)
        · refine ws_for2 (n := 3) (m := 4) sc_need_piece.nd rfl (sv_en b4 (dv_ix (dv_v 1 rfl (i2.mono (tx_same s2))) dv_int (atI_nat (j := 0) rfl))) (fun d hd => pair_enum _ _ hd) (fun i σ' H' => (∃ u t, σ' = [some v1, some v2, some v3, u, t]) ∧ Same H H') (fun H' s' => ⟨⟨none, none, rfl⟩, s2.trans s'⟩) (fun i σ' H' H'' h s' => ⟨h.1, h.2.trans s'⟩) ?_ ?_
          · rintro i d1 d2 u v σ' H' hd ⟨⟨u0, t0, rfl⟩, sH⟩ iu iv
            obtain ⟨rfl, hd2⟩ := enum_at hd
            have hm := List.mem_of_getElem? hd2
            refine ws_ifR (Same.refl H') (tv_not (tv_val (dv_c GR hr (by decide) (av_cons (dv_v 4 rfl iv) av_nil) (show isRowF [d2] = some (.bool true) by show (if okD d2 = true then some (PyData.bool (isRowD d2)) else none) = _; rw [if_pos (okr d2 hm), List.all_eq_true.mp h2 d2 hm])))) (fun h => (nomatch h)) (fun h H3 s3 => ws_nil ⟨tx_same s3, ⟨_, _, rfl⟩, sH.trans s3⟩)
          · rintro σ' H' ⟨⟨u0, t0, rfl⟩, sH⟩
            have j2 := i2.mono (tx_same sH)
            have j3 := i3.mono (tx_same sH)
            refine ws_ifR (Same.refl H') (tv_not (tv_val (dv_c GG hr (by decide) (av_cons (dv_ix (dv_v 1 rfl j2) dv_int (atI_nat (j := 1) rfl)) (av_cons (dv_v 2 rfl j3) av_nil)) (show areGoesF [goes, .int many] = some (.bool true) by show some (PyData.bool (areGoesD many goes)) = _; rw [h3])))) (fun h => (nomatch h)) (fun h H3 s3 => ws_nil (q _ H3 (sH.trans s3) .non))
      · cases hF
    · cases hF
end
end Kt
set_option Elab.async false
set_option linter.all false
set_option maxRecDepth 100000
set_option maxHeartbeats 4000000
namespace Kt
open PySem PySem.Spec PyProof.Rows L2 Tr
/-! need_tested, of a tested program -/
def testedOk : PyData → Bool
  | .tuple [.int ins, .int names, .tuple pieces] => ((decide (0 ≤ ins) && decide (ins ≤ 3)) && (decide (ins ≤ names) && decide (names ≤ 99))) && ((decide (1 ≤ pieces.length) && decide (pieces.length ≤ 999)) && pieces.all (pieceOk (pieces.length : Int)))
  | _ => false
def needTestedF : List PyData → Option PyData
  | [d] => if okD d && testedOk d then some .none else none
  | _ => none
section
variable {P : Program} {w : World} {K : PySem.W.Frag} {mg : Str → Option Value} {base : Heap} {cs : Cs}
set_option maxHeartbeats 8000000 in
theorem fc_need_tested (T : Txt w K mg cs) : Fc P w K mg base 4 "need_tested" (spF needTestedF) := by
  obtain ⟨f, fd, F, g⟩ := T.f_need_tested
  have GN : Fc P w K mg base 1 "is_number" (spF isNumF) := fc_is_number T
  have GP : Fc P w K mg base 3 "need_piece" (spF needPieceF) := fc_need_piece T
  have b1 := T.b_isinstance
  have b2 := T.b_tuple
  have b3 := T.b_len
  have b4 := T.b_enumerate
  obtain ⟨tk1, c1⟩ := T.c_MOST_INS
  obtain ⟨tk2, c2⟩ := T.c_MOST_NAMES
  obtain ⟨tk3, c3⟩ := T.c_MOST_PIECES
  refine fc_data F g bd_need_tested sc_need_tested (fun ds d h => ?_) (fun cdv A outer s H vs ds d Q E hr hi hF q => ?_)
  · unfold needTestedF at h
    split at h
    · rfl
    · cases h
  · unfold needTestedF at hF
    split at hF
    · rename_i d0
      split at hF
      · rename_i hok
        cases hF
        obtain ⟨hok1, hok2⟩ := Bool.and_eq_true_iff.mp hok
        cases hi with
        | cons i1 hi =>
        cases hi
        rename_i v1
        obtain ⟨ins, names, pieces, rfl⟩ : ∃ ins names pieces, d0 = .tuple [.int ins, .int names, .tuple pieces] := by
          unfold testedOk at hok2
          split at hok2
          · exact ⟨_, _, _, rfl⟩
          · cases hok2
        have hp : (((decide (0 ≤ ins) && decide (ins ≤ 3)) && (decide (ins ≤ names) && decide (names ≤ 99))) && ((decide (1 ≤ pieces.length) && decide (pieces.length ≤ 999)) && pieces.all (pieceOk (pieces.length : Int)))) = true := hok2
        obtain ⟨h12, h34⟩ := Bool.and_eq_true_iff.mp hp
        obtain ⟨h1, h2⟩ := Bool.and_eq_true_iff.mp h12
        obtain ⟨h3, h4⟩ := Bool.and_eq_true_iff.mp h34
        obtain ⟨h3a, h3b⟩ := Bool.and_eq_true_iff.mp h3
        have l1 : 1 ≤ pieces.length := of_decide_eq_true h3a
        have l2 : pieces.length ≤ 999 := of_decide_eq_true h3b
        have s0 : Same H H := Same.refl H
        have okp : ∀ r ∈ pieces, okD r = true := okD_tuple (okD_tuple hok1 (.tuple pieces) (by simp))
        refine ws_ifR s0 (tv_w (tw_or (tv_not (tv_val (dv_isTup b1 b2 (dv_v 0 rfl i1)))) fun _ => tw_or1 (tv_neI (dv_lenT b3 (dv_v 0 rfl i1)) dv_int))) (fun h => (nomatch h)) (fun h H1 s1 => ?_)
        refine ws_unp3 (n := 1) (m := 2) (l := 3) sc_need_tested.nd rfl s1 (dv_v 0 rfl i1) fun u v t H2 s2 iu iv it => ?_
        have r0 : Same H2 H2 := Same.refl H2
        refine ws_ifR r0 (TV.to (k2 := false) (tv_w (tw_or (tv_not (tv_val (dv_c GN hr (by decide) (av_cons (dv_v 1 rfl iu) (av_cons dv_int (av_cons (dv_gi c1) av_nil))) rfl))) fun _ => tw_or1 (tv_not (tv_val (dv_c GN hr (by decide) (av_cons (dv_v 2 rfl iv) (av_cons (dv_v 1 rfl iu) (av_cons (dv_gi c2) av_nil))) rfl))))) ?_) (fun h => (nomatch h)) (fun _ H3 s3 => ?_)
        · show (!(decide (0 ≤ ins) && decide (ins ≤ 3)) || !(decide (ins ≤ names) && decide (names ≤ 99))) = false
          rw [h1, h2]
          rfl
        refine ws_ifR s3 (TV.to (k2 := false) (tv_w (tw_or (tv_not (tv_val (dv_isTup b1 b2 (dv_v 3 rfl it)))) fun _ => tw_or1 (tv_not (tv_le2 dv_int (dv_lenT b3 (dv_v 3 rfl it)) (dv_gi c3))))) ?_) (fun h => (nomatch h)) (fun _ H4 s4 => ?_)
        · show (!(decide ((1 : Int) ≤ (pieces.length : Int)) && decide ((pieces.length : Int) ≤ 999))) = false
          rw [decide_eq_true (show (1 : Int) ≤ (pieces.length : Int) by omega), decide_eq_true (show (pieces.length : Int) ≤ 999 by omega)]
          rfl
        refine ws_for2 (n := 4) (m := 5) sc_need_tested.nd rfl (sv_en b4 (dv_v 3 rfl (it.mono (tx_same s4)))) (fun d hd => pair_enum _ _ hd) (fun i σ' H' => (∃ a b, σ' = [some v1, some u, some v, some t, a, b]) ∧ Same H2 H') (fun H' s' => ⟨⟨none, none, rfl⟩, s4.trans s'⟩) (fun i σ' H' H'' h s' => ⟨h.1, h.2.trans s'⟩) ?_ ?_
        · rintro i d1 d2 a b σ' H' hd ⟨⟨u0, t0, rfl⟩, sH⟩ ia ib
          obtain ⟨rfl, hd2⟩ := enum_at hd
          have hm := List.mem_of_getElem? hd2
          refine ws_expr (DV.w (dv_c GP hr (by decide) (av_cons (dv_v 4 rfl ia) (av_cons (dv_v 5 rfl ib) (av_cons (dv_lenT b3 (dv_v 3 rfl (it.mono (tx_same sH)))) av_nil))) (show needPieceF [.int (0 + (i : Int)), d2, .int (pieces.length : Int)] = some .none by
            show (if (okD d2 && pieceOk (pieces.length : Int) d2) = true then some PyData.none else none) = _
            rw [okp d2 hm, List.all_eq_true.mp h4 d2 hm]
            rfl)) fun _ H5 s5 _ => ws_nil ⟨tx_same s5, ⟨_, _, rfl⟩, sH.trans s5⟩)
        · rintro σ' H' ⟨⟨u0, t0, rfl⟩, sH⟩
          exact ws_nil (q _ H' (s2.trans sH) .non)
      · cases hF
    · cases hF
/-! need_handed, of numbers that are to be handed in -/
def numsOk (ns : List Int) : Prop := ∀ n ∈ ns, 0 ≤ n ∧ n ≤ 10006
def spNH (K : PySem.W.Frag) : Sp := fun vs H Q _ => ∃ (a : Addr) (ns : List Int) (fuel : Int), vs = [.int (ns.length : Int), .ref a, .int fuel] ∧ SqL K H a (ns.map V.int) ∧ numsOk ns ∧ ns.length ≤ 3 ∧ 0 ≤ fuel ∧ fuel ≤ 1000 ∧ ∀ H', Same H H' → Q .non H'
def badNum : PyData → Bool := fun d => !isNum d 0 10006
theorem comp_ok {ns : List Int} (h : numsOk ns) : comp badNum id (ns.map PyData.int) = [] := by
  unfold comp
  rw [List.map_id]
  refine List.filter_eq_nil_iff.mpr fun d hd => ?_
  obtain ⟨n, hn, rfl⟩ := List.mem_map.mp hd
  obtain ⟨h1, h2⟩ := h n hn
  have e : isNum (.int n) 0 10006 = true := by
    show (decide (0 ≤ n) && decide (n ≤ 10006)) = true
    rw [decide_eq_true h1, decide_eq_true h2]
    rfl
  unfold badNum
  rw [e]
  decide
set_option maxHeartbeats 8000000 in
theorem fc_need_handed (T : Txt w K mg cs) : Fc P w K mg base 2 "need_handed" (spNH K) := by
  obtain ⟨f, fd, F, g⟩ := T.f_need_handed
  have GN : Fc P w K mg base 1 "is_number" (spF isNumF) := fc_is_number T
  have b3 := T.b_len
  obtain ⟨tk1, c1⟩ := T.c_REST
  obtain ⟨tk2, c2⟩ := T.c_MOST_FUEL
  refine fc_mk F g bd_need_handed sc_need_handed (fun vs H Q E h => ?_) (fun cdv A outer s H vs Q E hr h => ?_)
  · obtain ⟨a, ns, fuel, rfl, _⟩ := h
    rfl
  · obtain ⟨a, ns, fuel, rfl, hl, hn, hlen, f1, f2, q⟩ := h
    have hll : (ns.map V.int).length = ns.length := List.length_map ..
    refine ws_if (t_w (t_or (t_cmp op_ne (w_lenL b3 (w_vv 1 rfl) hl (w_v 0 rfl ⟨rfl, _, rfl, ?_⟩)))))
    rw [hll, decide_eq_true rfl]
    refine iteF (t_or1 (t_neNil hr (ds := comp badNum id (ns.map PyData.int)) (fun Q' q' => w_lc1 (n := 3) badNum id rfl sc_need_handed.nd (blkOk_by (N := N_need_handed) (sc := defScope s_need_handed) (by decide +kernel)) (sv_lst (w_vv 1 rfl) hl (ImAll.ints ns)) (by rw [List.length_map]; omega) (fun H3 d v hd t3 iv => ?_) (fun H3 d v hd t3 iv _ => fun _ _ _ _ _ => dv_v 3 rfl iv) q') (by rw [comp_ok hn]; decide) fun H1 s1 => ?_))
    · exact fun _ _ _ _ _ => tv_not (tv_val (dv_c GN hr (by decide) (av_cons (dv_v 3 rfl iv) (av_cons dv_int (av_cons (dv_sub (dv_gi c1) dv_int) av_nil))) rfl))
    · rw [comp_ok hn]
      refine iteF (ws_nil ?_)
      refine ws_ifR (Same.refl H1) (TV.to (k2 := false) (tv_not (tv_val (dv_c GN hr (by decide) (av_cons (dv_v 2 rfl (.int fuel)) (av_cons dv_int (av_cons (dv_gi c2) av_nil))) rfl))) ?_) (fun h => (nomatch h)) (fun _ H2 s2 => ws_nil (q H2 (s1.trans s2)))
      show (!(decide (0 ≤ fuel) && decide (fuel ≤ 1000))) = false
      rw [decide_eq_true f1, decide_eq_true f2]
      rfl
/-! sources -/
def srcOf {α : Type} (x : Str) (ps : List α) : List α := if x = "num" then [] else if (["put", "say", "stop"] : List Str).contains x then ps else if x = "test" then ps.drop 2 else ps.drop 1
def sourcesF : List PyData → Option PyData
  | [.tuple (_ :: .str x :: ps)] => some (.tuple (srcOf x ps))
  | _ => none
theorem fc_sources (T : Txt w K mg cs) : Fc P w K mg base 1 "sources" (spF sourcesF) := by
  obtain ⟨f, fd, F, g⟩ := T.f_sources
  refine fc_data F g bd_sources sc_sources (fun ds d h => ?_) (fun cdv A outer s H vs ds d Q E hr hi hF q => ?_)
  · unfold sourcesF at h
    split at h
    · rfl
    · cases h
  · unfold sourcesF at hF
    split at hF
    · rename_i t x ps
      cases hF
      cases hi with
      | cons i1 hi =>
      cases hi
      rename_i v1
      refine ws_setE (n := 1) sc_sources.nd (Same.refl H) (dv_ix (dv_v 0 rfl i1) dv_int (atI_nat (j := 1) rfl)) fun v2 H2 s2 iv2 => ?_
      have j1 := i1.mono (tx_same s2)
      have r0 : Same H2 H2 := Same.refl H2
      have q2 : ∀ v H', Same H2 H' → Im H' v (.tuple (srcOf x ps)) → Q v H' := fun v H' s' iv => q v H' (s2.trans s') iv
      unfold srcOf at q2
      refine ws_ifR r0 (tv_eqS (dv_v 1 rfl iv2) dv_str) (fun h H3 s3 => ?_) (fun h H3 s3 => ?_)
      · rw [if_pos (of_decide_eq_true h)] at q2
        exact ws_retE s3 (dv_tup av_nil (by decide)) q2
      · rw [if_neg (of_decide_eq_false h)] at q2
        refine ws_ifR s3 (tv_inT (ss := ["put", "say", "stop"]) (dv_v 1 rfl iv2) (dv_tup (av_cons dv_str (av_cons dv_str (av_cons dv_str av_nil))) (by decide))) (fun h H4 s4 => ?_) (fun h H4 s4 => ?_)
        · rw [if_pos h] at q2
          exact ws_retE s4 (dv_from (n := 2) (dv_v 0 rfl j1)) q2
        · rw [if_neg (by rw [h]; exact Bool.false_ne_true)] at q2
          refine ws_retE s4 (dv_ifx (tv_eqS (dv_v 1 rfl iv2) dv_str) (fun h => ?_) (fun h => ?_)) q2
          · rw [if_pos (of_decide_eq_true h)]
            exact dv_from (n := 4) (dv_v 0 rfl j1)
          · rw [if_neg (of_decide_eq_false h)]
            exact dv_from (n := 3) (dv_v 0 rfl j1)
    · cases hF
end
end Kt
set_option Elab.async false
set_option linter.all false
set_option maxRecDepth 100000
set_option maxHeartbeats 4000000
namespace Kt
open PySem PySem.Spec PyProof.Rows L2 Tr
/-! reckoned -/
def rck (x : Str) (a b : Int) : Option Int :=
  if x = "over" then (if b = 0 then none else some (a / b))
  else if x = "rest" then (if b = 0 then none else some (a % b))
  else if x = "less" then some (if a < b then 1 else 0)
  else if x = "same" then some (if a = b then 1 else 0)
  else if x = "add" then some ((a + b) % 10007)
  else if x = "take" then some ((a - b) % 10007)
  else some ((a * b) % 10007)
def optD : Option Int → PyData
  | none => .none
  | some i => .int i
def inR (a : Int) : Prop := 0 ≤ a ∧ a ≤ 10006
instance (a : Int) : Decidable (inR a) := inferInstanceAs (Decidable (0 ≤ a ∧ a ≤ 10006))
def rckF : List PyData → Option PyData
  | [.str x, .int a, .int b] => if rowPairs.contains x = true ∧ inR a ∧ inR b then some (optD (rck x a b)) else none
  | _ => none
theorem pairs_cases {x : Str} (h : rowPairs.contains x = true) : x = "add" ∨ x = "take" ∨ x = "times" ∨ x = "over" ∨ x = "rest" ∨ x = "less" ∨ x = "same" := by
  have := List.contains_iff_mem.mp h
  simpa [rowPairs] using this
theorem disp3 (u v w : V) : valV (mergeK [] [((Sum.inr "add" : Key), u), (Sum.inr "take", v), (Sum.inr "times", w)]) (Sum.inr "add") = some u ∧ valV (mergeK [] [((Sum.inr "add" : Key), u), (Sum.inr "take", v), (Sum.inr "times", w)]) (Sum.inr "take") = some v ∧ valV (mergeK [] [((Sum.inr "add" : Key), u), (Sum.inr "take", v), (Sum.inr "times", w)]) (Sum.inr "times") = some w := by
  refine ⟨by kernel_rfl, by kernel_rfl, by kernel_rfl⟩
section
variable {P : Program} {w : World} {K : PySem.W.Frag} {mg : Str → Option Value} {base : Heap} {cs : Cs}
set_option maxHeartbeats 8000000 in
theorem fc_reckoned (T : Txt w K mg cs) : Fc P w K mg base 1 "reckoned" (spF rckF) := by
  obtain ⟨f, fd, F, g⟩ := T.f_reckoned
  have b1 := T.b_int
  obtain ⟨tk1, c1⟩ := T.c_REST
  refine fc_data F g bd_reckoned sc_reckoned (fun ds d h => ?_) (fun cdv A outer s H vs ds d Q E hr hi hF q => ?_)
  · unfold rckF at h
    split at h
    · rfl
    · cases h
  · unfold rckF at hF
    split at hF
    · rename_i x a b
      split at hF
      · rename_i hok
        obtain ⟨hx, ha, hb⟩ := hok
        cases hF
        cases hi with
        | cons i1 hi =>
        cases hi with
        | cons i2 hi =>
        cases hi with
        | cons i3 hi =>
        cases hi
        rename_i v1 v2 v3
        have s0 : Same H H := Same.refl H
        unfold inR at ha hb
        refine ws_ifR s0 (tv_inT (ss := ["over", "rest"]) (dv_v 0 rfl i1) (dv_tup (av_cons dv_str (av_cons dv_str av_nil)) (by decide))) (fun h H1 s1 => ?_) (fun h H1 s1 => ?_)
        · have hx2 : x = "over" ∨ x = "rest" := by simpa using List.contains_iff_mem.mp h
          refine ws_ifR s1 (tv_eqI (dv_v 2 rfl i3) dv_int) (fun h H2 s2 => ?_) (fun h H2 s2 => ?_)
          · have hb0 : b = 0 := of_decide_eq_true h
            refine ws_retE s2 dv_non fun v H3 s3 iv => q v H3 s3 ?_
            have : rck x a b = none := by
              unfold rck
              rcases hx2 with rfl | rfl
              · simp [hb0]
              · have : ¬ (("rest" : Str) = "over") := by decide +kernel
                simp [hb0]
            rw [this]
            exact iv
          · have hb0 : b ≠ 0 := of_decide_eq_false h
            have hd : CDiv a b := ⟨by omega, by omega⟩
            refine ws_retE s2 (dv_ifx (tv_eqS (dv_v 0 rfl i1) dv_str) (fun h => ?_) (fun h => ?_)) q
            · have hx3 : x = "over" := of_decide_eq_true h
              have : rck x a b = some (a / b) := by
                unfold rck
                rw [if_pos hx3, if_neg hb0]
              rw [this]
              exact dv_div (dv_v 1 rfl i2) (dv_v 2 rfl i3) hd
            · have hx3 : x ≠ "over" := of_decide_eq_false h
              have hx4 : x = "rest" := hx2.resolve_left hx3
              have : rck x a b = some (a % b) := by
                unfold rck
                rw [if_neg hx3, if_pos hx4, if_neg hb0]
              rw [this]
              exact dv_mod (dv_v 1 rfl i2) (dv_v 2 rfl i3) (by omega)
        · have hx2 : x ≠ "over" ∧ x ≠ "rest" := by
            have nin : ¬ x ∈ (["over", "rest"] : List Str) := fun z => by rw [List.contains_iff_mem.mpr z] at h; cases h
            simpa using nin
          refine ws_ifR s1 (tv_inT (ss := ["less", "same"]) (dv_v 0 rfl i1) (dv_tup (av_cons dv_str (av_cons dv_str av_nil)) (by decide))) (fun h H2 s2 => ?_) (fun h H2 s2 => ?_)
          · have hx3 : x = "less" ∨ x = "same" := by simpa using List.contains_iff_mem.mp h
            by_cases hl : x = "less"
            · have : rck x a b = some (if decide (a < b) then 1 else 0) := by
                unfold rck
                rw [if_neg hx2.1, if_neg hx2.2, if_pos hl]
                simp
              rw [this] at q
              exact ws_retE s2 (dv_intB b1 (dv_ifx (tv_eqS (dv_v 0 rfl i1) dv_str) (fun _ => dv_lt (dv_v 1 rfl i2) (dv_v 2 rfl i3)) (fun h => absurd hl (of_decide_eq_false h)))) q
            · have hs : x = "same" := hx3.resolve_left hl
              have : rck x a b = some (if decide (a = b) then 1 else 0) := by
                unfold rck
                rw [if_neg hx2.1, if_neg hx2.2, if_neg hl, if_pos hs]
                simp
              rw [this] at q
              exact ws_retE s2 (dv_intB b1 (dv_ifx (tv_eqS (dv_v 0 rfl i1) dv_str) (fun h => absurd (of_decide_eq_true h) hl) (fun _ => dv_eqI (dv_v 1 rfl i2) (dv_v 2 rfl i3)))) q
          · have hx3 : x ≠ "less" ∧ x ≠ "same" := by
              have nin : ¬ x ∈ (["less", "same"] : List Str) := fun z => by rw [List.contains_iff_mem.mpr z] at h; cases h
              simpa using nin
            have hx4 : x = "add" ∨ x = "take" ∨ x = "times" := by
              rcases pairs_cases hx with h | h | h | h | h | h | h
              · exact .inl h
              · exact .inr (.inl h)
              · exact .inr (.inr h)
              · exact absurd h hx2.1
              · exact absurd h hx2.2
              · exact absurd h hx3.1
              · exact absurd h hx3.2
            have hu := hu_of hr
            obtain ⟨z, hz, hzv⟩ : ∃ z : Int, rck x a b = some (z % 10007) ∧ valV (mergeK [] [((Sum.inr "add" : Key), V.int (a + b)), (Sum.inr "take", V.int (a - b)), (Sum.inr "times", V.int (a * b))]) (Sum.inr x) = some (.int z) := by
              obtain ⟨d1, d2, d3⟩ := disp3 (V.int (a + b)) (V.int (a - b)) (V.int (a * b))
              rcases hx4 with rfl | rfl | rfl
              · exact ⟨a + b, by unfold rck; rw [if_neg hx2.1, if_neg hx2.2, if_neg hx3.1, if_neg hx3.2, if_pos rfl], d1⟩
              · exact ⟨a - b, by unfold rck; rw [if_neg hx2.1, if_neg hx2.2, if_neg hx3.1, if_neg hx3.2, if_neg (by decide +kernel), if_pos rfl], d2⟩
              · exact ⟨a * b, by unfold rck; rw [if_neg hx2.1, if_neg hx2.2, if_neg hx3.1, if_neg hx3.2, if_neg (by decide +kernel), if_neg (by decide +kernel)], d3⟩
            rw [hz] at q
            refine ws_retE s2 (dv_mod (i := z) ?_ (dv_gi c1) (by decide)) q
            intro H3 t3 Q' q'
            refine w_dget hu (we (pe_disp (pps_cons peW peW (pps_cons peW peW (pps_cons peW peW pps_nil))) rfl rfl (fun z => by cases z) (by decide)) fun p hp => ?_)
            have hm : Im (upd H3 p (.dK [])) v2 (.int a) := i2.mono (t3.trans (tx_same (same_new hp)))
            have hm3 : Im (upd H3 p (.dK [])) v3 (.int b) := i3.mono (t3.trans (tx_same (same_new hp)))
            cases im_int i2
            cases im_int i3
            cases im_str i1
            refine w_str (w_op op_add (w_v 1 rfl (w_v 2 rfl ⟨a, b, rfl, rfl, ?_⟩)))
            refine w_str (w_op op_sub (w_v 1 rfl (w_v 2 rfl ⟨a, b, rfl, rfl, ?_⟩)))
            refine w_str (w_op op_mul (w_v 1 rfl (w_v 2 rfl ⟨a, b, rfl, rfl, .inl ⟨by omega, by omega⟩, ?_⟩)))
            refine ⟨upd_same, [(Sum.inr "add", .int (a + b)), (Sum.inr "take", .int (a - b)), (Sum.inr "times", .int (a * b))], rfl, (show 3 ≤ 15 by decide), ?_⟩
            refine w_v 0 rfl ⟨p, .int z, rfl, ?_, ?_⟩
            · have := DGet.k (H := upd (upd H3 p (.dK [])) p (.dK (mergeK [] [((Sum.inr "add" : Key), V.int (a + b)), (Sum.inr "take", V.int (a - b)), (Sum.inr "times", V.int (a * b))]))) (k := Sum.inr x) upd_same
              rw [hzv] at this
              exact this
            · exact q' _ _ (by rw [upd_upd]; exact same_new hp) (.int z)
      · cases hF
    · cases hF
end
end Kt
set_option Elab.async false
set_option linter.all false
set_option maxRecDepth 100000
set_option maxHeartbeats 4000000
namespace Kt
open PySem PySem.Spec PyProof.Rows L2 Tr
/-! rows, by kinds -/
structure Row where
  t : Int
  w : Str
  ps : List Int
def encR (r : Row) : PyData := .tuple (.int r.t :: .str r.w :: r.ps.map PyData.int)
/-- a register, a test -/
def rg (n : Int) : Prop := 0 ≤ n ∧ n ≤ 1999
inductive RV : Row → Prop
  | num {t r n : Int} : rg t → rg r → inR n → RV ⟨t, "num", [r, n]⟩
  | copy {t r a : Int} : rg t → rg r → rg a → RV ⟨t, "copy", [r, a]⟩
  | nt {t r a : Int} : rg t → rg r → rg a → RV ⟨t, "not", [r, a]⟩
  | get {t r a : Int} : rg t → rg r → rg a → RV ⟨t, "get", [r, a]⟩
  | put {t a b : Int} : rg t → rg a → rg b → RV ⟨t, "put", [a, b]⟩
  | say {t a : Int} : rg t → rg a → RV ⟨t, "say", [a]⟩
  | stop {t a : Int} : rg t → rg a → RV ⟨t, "stop", [a]⟩
  | test {t p q a : Int} : rg t → rg p → 1 ≤ p → rg q → 1 ≤ q → rg a → p ≠ q → RV ⟨t, "test", [p, q, a]⟩
  | bin {t r a b : Int} {x : Str} : rowPairs.contains x = true → rg t → rg r → rg a → rg b → RV ⟨t, x, [r, a, b]⟩
theorem isNum_i {i lo hi : Int} : isNum (.int i) lo hi = true ↔ lo ≤ i ∧ i ≤ hi := by
  show (decide (lo ≤ i) && decide (i ≤ hi)) = true ↔ _
  simp
theorem isRow_mk {t : Int} {x : Str} {ps : List Int} {sh : Str} (ht : rg t) (hs : rowShape x = .str sh) (hl : ps.length = sh.length) (hk : (zipSD sh (ps.map PyData.int)).all (fun d => !badKind d) = true) (hx : x ≠ "test" ∨ ne01 (ps.map PyData.int) = true) : isRowD (encR ⟨t, x, ps⟩) = true := by
  have e1 : isNum (.int t) 0 1999 = true := isNum_i.mpr ht
  have e2 : (comp badKind sndD (zipSD sh (ps.map PyData.int))).isEmpty = true := by
    unfold comp
    rw [List.isEmpty_map, List.isEmpty_iff]
    refine List.filter_eq_nil_iff.mpr fun d hd h => ?_
    have := List.all_eq_true.mp hk d hd
    rw [h] at this
    cases this
  show (isNum (.int t) 0 1999 && (match rowShape x with
    | .str sh => decide ((ps.map PyData.int).length = sh.length) && ((comp badKind sndD (zipSD sh (ps.map PyData.int))).isEmpty && (!decide (x = "test") || ne01 (ps.map PyData.int)))
    | _ => false)) = true
  rw [e1, hs]
  show (true && (decide ((ps.map PyData.int).length = sh.length) && ((comp badKind sndD (zipSD sh (ps.map PyData.int))).isEmpty && (!decide (x = "test") || ne01 (ps.map PyData.int))))) = true
  rw [e2, List.length_map, decide_eq_true hl]
  rcases hx with hx | hx
  · rw [decide_eq_false hx]; rfl
  · rw [hx, Bool.or_true]; rfl
theorem kw {a : Int} (h : rg a) : kindOk "w" (.int a) = true := isNum_i.mpr h
theorem kr {a : Int} (h : rg a) : kindOk "r" (.int a) = true := isNum_i.mpr h
theorem kn {a : Int} (h : inR a) : kindOk "n" (.int a) = true := isNum_i.mpr h
theorem kp {a : Int} (h : rg a) (h1 : 1 ≤ a) : kindOk "p" (.int a) = true := isNum_i.mpr ⟨h1, h.2⟩
theorem pair_not_test {x : Str} (h : rowPairs.contains x = true) : x ≠ "test" := fun e => by
  subst e
  revert h
  decide +kernel
theorem RV.ok {r : Row} (h : RV r) : isRowD (encR r) = true := by
  cases h with
  | num h1 h2 h3 =>
    refine isRow_mk (sh := "wn") h1 (by kernel_rfl) rfl ?_ (.inl (by decide +kernel))
    show (!(!kindOk "w" (.int _)) && (!(!kindOk "n" (.int _)) && true)) = true
    rw [kw h2, kn h3]; rfl
  | copy h1 h2 h3 =>
    refine isRow_mk (sh := "wr") h1 (by kernel_rfl) rfl ?_ (.inl (by decide +kernel))
    show (!(!kindOk "w" (.int _)) && (!(!kindOk "r" (.int _)) && true)) = true
    rw [kw h2, kr h3]; rfl
  | nt h1 h2 h3 =>
    refine isRow_mk (sh := "wr") h1 (by kernel_rfl) rfl ?_ (.inl (by decide +kernel))
    show (!(!kindOk "w" (.int _)) && (!(!kindOk "r" (.int _)) && true)) = true
    rw [kw h2, kr h3]; rfl
  | get h1 h2 h3 =>
    refine isRow_mk (sh := "wr") h1 (by kernel_rfl) rfl ?_ (.inl (by decide +kernel))
    show (!(!kindOk "w" (.int _)) && (!(!kindOk "r" (.int _)) && true)) = true
    rw [kw h2, kr h3]; rfl
  | put h1 h2 h3 =>
    refine isRow_mk (sh := "rr") h1 (by kernel_rfl) rfl ?_ (.inl (by decide +kernel))
    show (!(!kindOk "r" (.int _)) && (!(!kindOk "r" (.int _)) && true)) = true
    rw [kr h2, kr h3]; rfl
  | say h1 h2 =>
    refine isRow_mk (sh := "r") h1 (by kernel_rfl) rfl ?_ (.inl (by decide +kernel))
    show (!(!kindOk "r" (.int _)) && true) = true
    rw [kr h2]; rfl
  | stop h1 h2 =>
    refine isRow_mk (sh := "r") h1 (by kernel_rfl) rfl ?_ (.inl (by decide +kernel))
    show (!(!kindOk "r" (.int _)) && true) = true
    rw [kr h2]; rfl
  | test h1 h2 h2' h3 h3' h4 hne =>
    refine isRow_mk (sh := "ppr") h1 (by kernel_rfl) rfl ?_ (.inr ?_)
    · show (!(!kindOk "p" (.int _)) && (!(!kindOk "p" (.int _)) && (!(!kindOk "r" (.int _)) && true))) = true
      rw [kp h2 h2', kp h3 h3', kr h4]; rfl
    · show (!decide (_ = _)) = true
      rw [decide_eq_false hne]; rfl
  | bin hx h1 h2 h3 h4 =>
    refine isRow_mk (sh := "wrr") h1 (by unfold rowShape; rw [if_pos hx]) rfl ?_ (.inl (pair_not_test hx))
    show (!(!kindOk "w" (.int _)) && (!(!kindOk "r" (.int _)) && (!(!kindOk "r" (.int _)) && true))) = true
    rw [kw h2, kr h3, kr h4]; rfl
theorem RV.tok {r : Row} (h : RV r) : rg r.t := by cases h <;> assumption
/-! the machine's state -/
inductive Ef where
  | worth (n : Int)
  | fault (x : Str)
  | long
structure Mst where
  regs : Int → Int
  cells : List Int
  tests : Int → Bool
  fuel : Int
  said : List Int
  fin : Option Ef
  looked : Int
  done : Int
def finD : Option Ef → PyData
  | none => .none
  | some (.worth n) => .tuple [.str "worth", .int n]
  | some (.fault x) => .tuple [.str "fault", .str x]
  | some .long => .tuple [.str "long"]
def upI {α : Type} (g : Int → α) (k : Int) (v : α) : Int → α := fun i => if i = k then v else g i
structure Mok (m : Mst) : Prop where
  rg : ∀ i, inR (m.regs i)
  cl : ∀ n ∈ m.cells, inR n
  len : m.cells.length = 16
/-- a row whose test holds, with the worths that it reads -/
def changeM (m : Mst) (r : Row) (xs : List Int) : Mst :=
  if r.w = "say" then { m with said := m.said ++ [xs.getD 0 0] }
  else if r.w = "stop" then { m with fin := some (.worth (xs.getD 0 0)) }
  else if (["get", "put"] : List Str).contains r.w then
    (if 16 ≤ xs.getD 0 0 then { m with fin := some (.fault "cell") }
     else if r.w = "get" then { m with regs := upI m.regs (r.ps.getD 0 0) (m.cells.getD (xs.getD 0 0).toNat 0) }
     else { m with cells := m.cells.set (xs.getD 0 0).toNat (xs.getD 1 0) })
  else if (["num", "copy"] : List Str).contains r.w then { m with regs := upI m.regs (r.ps.getD 0 0) (if r.w = "num" then r.ps.getD 1 0 else xs.getD 0 0) }
  else if r.w = "not" then { m with regs := upI m.regs (r.ps.getD 0 0) (if xs.getD 0 0 = 0 then 1 else 0) }
  else match rck r.w (xs.getD 0 0) (xs.getD 1 0) with
    | none => { m with fin := some (.fault "over") }
    | some z => { m with regs := upI m.regs (r.ps.getD 0 0) z }
def doesM (m : Mst) (r : Row) (hold : Bool) (xs : List Int) : Mst :=
  let m1 : Mst := { m with looked := m.looked + 1 }
  let m2 : Mst := if r.w = "test" then { m1 with tests := upI (upI m1.tests (r.ps.getD 0 0) (hold && !decide (xs.getD 0 0 = 0))) (r.ps.getD 1 0) (hold && decide (xs.getD 0 0 = 0)) }
    else if hold then changeM m1 r xs else m1
  { m2 with done := m2.done + (if hold then 1 else 0) }
/-- one row, looked at -/
def rowM (m : Mst) (r : Row) : Mst := doesM m r (m.tests r.t) ((srcOf r.w r.ps).map m.regs)
/-- rows, until it ends -/
def rowsM (m : Mst) : List Row → Mst
  | [] => m
  | r :: rs => match (rowM m r).fin with
    | none => rowsM (rowM m r) rs
    | some _ => rowM m r
/-! where it stands -/
structure Ad where
  dx : Addr
  r : Addr
  c : Addr
  t : Addr
  s : Addr
def mf (r c t : Addr) (fuel : Int) (s : Addr) (e : V) (lk dn : Int) : List (Str × V) :=
  [("registers", .ref r), ("cells", .ref c), ("tests", .ref t), ("fuel", .int fuel), ("said", .ref s), ("end", e), ("looked", .int lk), ("done", .int dn)]
section
variable {r c t s : Addr} {fuel lk dn : Int} {e : V}
theorem mf_registers : (mf r c t fuel s e lk dn).lookup ("registers" : Str) = some (.ref r) := by kernel_rfl
theorem mf_cells : (mf r c t fuel s e lk dn).lookup ("cells" : Str) = some (.ref c) := by kernel_rfl
theorem mf_tests : (mf r c t fuel s e lk dn).lookup ("tests" : Str) = some (.ref t) := by kernel_rfl
theorem mf_fuel : (mf r c t fuel s e lk dn).lookup ("fuel" : Str) = some (.int fuel) := by kernel_rfl
theorem mf_said : (mf r c t fuel s e lk dn).lookup ("said" : Str) = some (.ref s) := by kernel_rfl
theorem mf_end : (mf r c t fuel s e lk dn).lookup ("end" : Str) = some e := by kernel_rfl
theorem mf_looked : (mf r c t fuel s e lk dn).lookup ("looked" : Str) = some (.int lk) := by kernel_rfl
theorem mf_done : (mf r c t fuel s e lk dn).lookup ("done" : Str) = some (.int dn) := by kernel_rfl
theorem mf_m : (mf r c t fuel s e lk dn).lookup ("held" : Str) = none ∧ (mf r c t fuel s e lk dn).lookup ("does" : Str) = none ∧ (mf r c t fuel s e lk dn).lookup ("change" : Str) = none ∧ (mf r c t fuel s e lk dn).lookup ("store" : Str) = none ∧ (mf r c t fuel s e lk dn).lookup ("holds" : Str) = none ∧ (mf r c t fuel s e lk dn).lookup ("through" : Str) = none := by
  refine ⟨?_, ?_, ?_, ?_, ?_, ?_⟩ <;> kernel_rfl
theorem mf_pTests {t' : Addr} : putF "tests" (.ref t') (mf r c t fuel s e lk dn) = mf r c t' fuel s e lk dn := by kernel_rfl
theorem mf_pFuel {f' : Int} : putF "fuel" (.int f') (mf r c t fuel s e lk dn) = mf r c t f' s e lk dn := by kernel_rfl
theorem mf_pEnd {e' : V} : putF "end" e' (mf r c t fuel s e lk dn) = mf r c t fuel s e' lk dn := by kernel_rfl
theorem mf_pLooked {n : Int} : putF "looked" (.int n) (mf r c t fuel s e lk dn) = mf r c t fuel s e n dn := by kernel_rfl
theorem mf_pDone {n : Int} : putF "done" (.int n) (mf r c t fuel s e lk dn) = mf r c t fuel s e lk n := by kernel_rfl
theorem mf_len : (mf r c t fuel s e lk dn).length < 1000 := by show 8 < 1000; decide
end
/-- a dict with small whole keys: what it holds, dflt elsewhere -/
structure DOk (kvs : List (Key × V)) (g : Int → V) (dflt : V) : Prop where
  nd : (kvs.map (·.1)).Nodup
  ks : ∀ k ∈ kvs.map (·.1), ∃ i : Nat, k = Sum.inl (i : Int) ∧ i < 2000
  vs : ∀ i : Int, (valV kvs (Sum.inl i)).getD dflt = g i
theorem nodup_bound : ∀ (n : Nat) (l : List Nat), l.Nodup → (∀ x ∈ l, x < n) → l.length ≤ n
  | 0, l, _, h => by
    cases l with
    | nil => exact Nat.le_refl _
    | cons a r => exact absurd (h a (by simp)) (by omega)
  | n + 1, l, hn, h => by
    have h1 := nodup_bound n (l.erase n) (hn.erase n) fun x hx => by
      have h2 := h x (List.mem_of_mem_erase hx)
      have h3 : x ≠ n := fun e => by
        subst e
        exact (List.Nodup.not_mem_erase hn) hx
      omega
    have h4 := List.length_erase (a := n) (l := l)
    split at h4 <;> omega
theorem DOk.len {kvs : List (Key × V)} {g : Int → V} {dflt : V} (h : DOk kvs g dflt) : kvs.length ≤ 2000 := by
  have key : ∃ l : List Nat, kvs.map (·.1) = l.map fun i : Nat => (Sum.inl (i : Int) : Key) := by
    have : ∀ ks : List Key, (∀ k ∈ ks, ∃ i : Nat, k = Sum.inl (i : Int) ∧ i < 2000) → ∃ l : List Nat, ks = l.map (fun i : Nat => (Sum.inl (i : Int) : Key)) ∧ ∀ x ∈ l, x < 2000 := by
      intro ks
      induction ks with
      | nil => exact fun _ => ⟨[], rfl, fun _ h => (nomatch h)⟩
      | cons k r ih =>
        intro h
        obtain ⟨i, e1, e2⟩ := h k (by simp)
        obtain ⟨l, e3, e4⟩ := ih fun k hk => h k (by simp [hk])
        refine ⟨i :: l, by rw [e1, e3]; rfl, fun x hx => ?_⟩
        rcases List.mem_cons.mp hx with rfl | hx
        · exact e2
        · exact e4 x hx
    obtain ⟨l, e, _⟩ := this _ h.ks
    exact ⟨l, e⟩
  obtain ⟨l, e⟩ := key
  have hl : l.Nodup := by
    have := h.nd
    rw [e] at this
    exact (List.pairwise_map.mp this).imp fun h e => h (by rw [e])
  have hb : ∀ x ∈ l, x < 2000 := fun x hx => by
    obtain ⟨i, e1, e2⟩ := h.ks (Sum.inl (x : Int)) (by rw [e]; exact List.mem_map.mpr ⟨x, hx, rfl⟩)
    have : (x : Int) = (i : Int) := Sum.inl.inj e1
    omega
  have h1 := nodup_bound 2000 l hl hb
  have h2 := congrArg List.length e
  rw [List.length_map, List.length_map] at h2
  omega
theorem DOk.put {kvs : List (Key × V)} {g : Int → V} {dflt : V} (h : DOk kvs g dflt) {k : Int} (v : V) (hk : rg k) : DOk (putK kvs (Sum.inl k) v) (upI g k v) dflt := by
  have hkey : (putK kvs (Sum.inl k : Key) v).map (·.1) = kvs.map (·.1) ∧ Sum.inl k ∈ kvs.map (·.1) ∨ (putK kvs (Sum.inl k : Key) v).map (·.1) = kvs.map (·.1) ++ [Sum.inl k] ∧ ¬ Sum.inl k ∈ kvs.map (·.1) := by
    unfold putK
    split
    · rename_i ha
      refine .inl ⟨?_, ?_⟩
      · rw [List.map_map]
        refine List.map_congr_left fun p _ => ?_
        simp only [Function.comp]
        split <;> rfl
      · obtain ⟨p, hp, e⟩ := List.any_eq_true.mp ha
        exact List.mem_map.mpr ⟨p, hp, of_decide_eq_true e⟩
    · rename_i ha
      refine .inr ⟨by rw [List.map_append]; rfl, fun hm => ha ?_⟩
      obtain ⟨p, hp, e⟩ := List.mem_map.mp hm
      exact List.any_eq_true.mpr ⟨p, hp, decide_eq_true e⟩
  refine ⟨?_, ?_, fun i => ?_⟩
  · rcases hkey with ⟨e, _⟩ | ⟨e, hn⟩
    · rw [e]; exact h.nd
    · rw [e]
      refine List.nodup_append.mpr ⟨h.nd, by simp, fun a ha b hb => ?_⟩
      have : b = Sum.inl k := by simpa using hb
      subst this
      exact fun z => hn (z ▸ ha)
  · intro q hq
    rcases hkey with ⟨e, _⟩ | ⟨e, hn⟩
    · rw [e] at hq; exact h.ks q hq
    · rw [e] at hq
      rcases List.mem_append.mp hq with hq | hq
      · exact h.ks q hq
      · have : q = Sum.inl k := by simpa using hq
        refine ⟨k.toNat, ?_, ?_⟩
        · rw [this, Int.toNat_of_nonneg hk.1]
        · have := hk.1
          have := hk.2
          omega
  · rw [valV_put]
    unfold upI
    by_cases e : i = k
    · subst e; simp
    · have : ¬ (Sum.inl i : Key) = Sum.inl k := fun z => e (Sum.inl.inj z)
      rw [if_neg this, if_neg e]
      exact h.vs i
structure MAt (C : Addr) (H : Hp) (p : Addr) (a : Ad) (m : Mst) : Prop where
  ob : ∃ e, H p = some (.ins C a.dx (mf a.r a.c a.t m.fuel a.s e m.looked m.done)) ∧ Im H e (finD m.fin)
  rg : ∃ kr, H a.r = some (.dK kr) ∧ DOk kr (fun i => .int (m.regs i)) (.int 0)
  cl : H a.c = some (.lst (m.cells.map V.int))
  ts : ∃ kt, H a.t = some (.dK kt) ∧ DOk kt (fun i => .bl (m.tests i)) (.bl false)
  sd : H a.s = some (.lst (m.said.map V.int))
  rt : a.r ≠ a.t
  cs : a.c ≠ a.s
def Ad.own (a : Ad) (p : Addr) : List Addr := [p, a.r, a.c, a.t, a.s]
/-- all but these stand -/
def Fr (own : List Addr) (H H' : Hp) : Prop := ∀ b o, H b = some o → b ∉ own → H' b = some o
end Kt
set_option Elab.async false
set_option linter.all false
set_option maxRecDepth 100000
set_option maxHeartbeats 4000000
namespace Kt
open PySem PySem.Spec PyProof.Rows L2 Tr
section
variable {X : Cx} {o e : Expr} {σ : St} {H : Hp} {pos : Pos} {p C dx : Addr} {fs : List (Str × V)} {f : Str} {v : V} {Q : VK}
/-- an attribute's value -/
theorem w_attr (ho : ∀ Q : VK, Q (.ref p) H → WE X o σ H Q) (hob : H p = some (.ins C dx fs)) (cl : Cls X.K C) (na : NoAttr X.K C f) (hl : fs.lookup f = some v) (q : Q v H) (hb : attributeBase o f X.env (eval o X.env) = eval o X.env := by rfl) : WE X (.Attribute o f pos) σ H Q := w_fld (ho _ ⟨p, C, dx, fs, v, rfl, hob, cl, na, hl, q⟩) hb
theorem w_attrv (ho : ∀ Q : VK, Q (.ref p) H → WE X o σ H Q) (hob : H p = some (.ins C dx fs)) (cl : Cls X.K C) (na : NoAttr X.K C f) (hl : fs.lookup f = some v) (hb : attributeBase o f X.env (eval o X.env) = eval o X.env := by rfl) : ∀ Q : VK, Q v H → WE X (.Attribute o f pos) σ H Q := fun Q q => w_attr ho hob cl na hl q hb
/-- an item of a list -/
theorem w_item {a b : Expr} {l : Addr} {xs : List V} {i : Int} (ha : ∀ Q : VK, Q (.ref l) H → WE X a σ H Q) (hl : SqL X.K H l xs) (hb : ∀ Q : VK, Q (.int i) H → WE X b σ H Q) (hi : atI xs i = some v) (q : Q v H) (hs : PlainIx b := by exact fun _ _ => rfl) : WE X (.Subscript a b pos) σ H Q :=
  w_ix ix_list (ha _ (hb _ ⟨l, xs, i, v, rfl, rfl, hl, hi, q⟩)) hs
theorem w_itemv {a b : Expr} {l : Addr} {xs : List V} {i : Int} (ha : ∀ Q : VK, Q (.ref l) H → WE X a σ H Q) (hl : SqL X.K H l xs) (hb : ∀ Q : VK, Q (.int i) H → WE X b σ H Q) (hi : atI xs i = some v) (hs : PlainIx b := by exact fun _ _ => rfl) : ∀ Q : VK, Q v H → WE X (.Subscript a b pos) σ H Q := fun Q q => w_item ha hl hb hi q hs
theorem w_ival {i : Int} {m : Nat} : ∀ Q : VK, Q (.int i) H → WE X (.Constant (.int i) m pos) σ H Q := fun Q q => w_int q
end
section
variable {C p : Addr} {H H' : Hp} {a : Ad} {m : Mst}
theorem MAt.same (h : MAt C H p a m) (s : Same H H') : MAt C H' p a m := by
  obtain ⟨⟨e, h1, h2⟩, ⟨kr, h3, h4⟩, h5, ⟨kt, h6, h7⟩, h8, h9, h10⟩ := h
  exact ⟨⟨e, s _ _ h1, h2.mono (tx_same s)⟩, ⟨kr, s _ _ h3, h4⟩, s _ _ h5, ⟨kt, s _ _ h6, h7⟩, s _ _ h8, h9, h10⟩
structure Apart (p : Addr) (a : Ad) : Prop where
  pr : p ≠ a.r
  pc : p ≠ a.c
  pt : p ≠ a.t
  ps : p ≠ a.s
  rc : a.r ≠ a.c
  rs : a.r ≠ a.s
  tc : a.t ≠ a.c
  ts : a.t ≠ a.s
theorem MAt.apart (h : MAt C H p a m) : Apart p a := by
  obtain ⟨⟨e, h1, h2⟩, ⟨kr, h3, h4⟩, h5, ⟨kt, h6, h7⟩, h8, h9, h10⟩ := h
  exact ⟨ne_of h1 h3 (by intro z; cases z), ne_of h1 h5 (by intro z; cases z), ne_of h1 h6 (by intro z; cases z), ne_of h1 h8 (by intro z; cases z), ne_of h3 h5 (by intro z; cases z), ne_of h3 h8 (by intro z; cases z), ne_of h6 h5 (by intro z; cases z), ne_of h6 h8 (by intro z; cases z)⟩
theorem own_not {b : Addr} (h : b ∉ a.own p) : b ≠ p ∧ b ≠ a.r ∧ b ≠ a.c ∧ b ≠ a.t ∧ b ≠ a.s := by
  unfold Ad.own at h
  simpa using h
theorem Fr.refl (own : List Addr) (H : Hp) : Fr own H H := fun _ _ h _ => h
theorem Fr.trans {own : List Addr} {H H1 H2 : Hp} (h1 : Fr own H H1) (h2 : Fr own H1 H2) : Fr own H H2 := fun b o hb hn => h2 b o (h1 b o hb hn) hn
theorem Fr.same {own : List Addr} (s : Same H H') : Fr own H H' := fun b o hb _ => s b o hb
theorem Fr.upd {own : List Addr} {x : Addr} {o : HO} (hx : x ∈ own) : Fr own H (upd H x o) := fun b u hb hn => by
  rw [upd_ne (fun e => hn (by rw [e]; exact hx))]
  exact hb
/-- the tuples stand -/
theorem Fr.tx (h : MAt C H p a m) (f : Fr (a.own p) H H') : Tx H H' := fun b xs hb => f b _ hb fun hm => by
  obtain ⟨⟨e, h1, h2⟩, ⟨kr, h3, h4⟩, h5, ⟨kt, h6, h7⟩, h8, h9, h10⟩ := h
  have : b = p ∨ b = a.r ∨ b = a.c ∨ b = a.t ∨ b = a.s := by simpa [Ad.own] using hm
  rcases this with rfl | rfl | rfl | rfl | rfl
  · rw [h1] at hb; cases hb
  · rw [h3] at hb; cases hb
  · rw [h5] at hb; cases hb
  · rw [h6] at hb; cases hb
  · rw [h8] at hb; cases hb
theorem MAt.obj (h : MAt C H p a m) {e' : V} {fuel lk dn : Int} {fin : Option Ef} (he : Im H e' (finD fin)) : MAt C (upd H p (.ins C a.dx (mf a.r a.c a.t fuel a.s e' lk dn))) p a { m with fuel := fuel, fin := fin, looked := lk, done := dn } := by
  have ap := h.apart
  have tm : Tx H (upd H p (.ins C a.dx (mf a.r a.c a.t fuel a.s e' lk dn))) := Fr.tx h (Fr.upd (by simp [Ad.own]))
  obtain ⟨⟨e, h1, h2⟩, ⟨kr, h3, h4⟩, h5, ⟨kt, h6, h7⟩, h8, h9, h10⟩ := h
  exact ⟨⟨e', upd_same, he.mono tm⟩, ⟨kr, by rw [upd_ne ap.pr.symm]; exact h3, h4⟩, by rw [upd_ne ap.pc.symm]; exact h5, ⟨kt, by rw [upd_ne ap.pt.symm]; exact h6, h7⟩, by rw [upd_ne ap.ps.symm]; exact h8, h9, h10⟩
theorem MAt.regs (h : MAt C H p a m) {kr : List (Key × V)} (hk : H a.r = some (.dK kr)) {g : Int → Int} (d : DOk kr (fun i => .int (g i)) (.int 0)) {k n : Int} (hr : Kt.rg k) (eg : g = m.regs) : MAt C (upd H a.r (.dK (putK kr (Sum.inl k) (.int n)))) p a { m with regs := upI m.regs k n } := by
  have ap := h.apart
  have tm : Tx H (upd H a.r (.dK (putK kr (Sum.inl k) (.int n)))) := Fr.tx h (Fr.upd (by simp [Ad.own]))
  obtain ⟨⟨e, h1, h2⟩, ⟨kr', h3, h4⟩, h5, ⟨kt, h6, h7⟩, h8, h9, h10⟩ := h
  subst eg
  have dd := d.put (.int n) hr
  have ee : upI (fun i => V.int (m.regs i)) k (.int n) = fun i => V.int (upI m.regs k n i) := by
    funext i
    unfold upI
    split <;> rfl
  rw [ee] at dd
  exact ⟨⟨e, by rw [upd_ne ap.pr]; exact h1, h2.mono tm⟩, ⟨_, upd_same, dd⟩, by rw [upd_ne ap.rc.symm]; exact h5, ⟨kt, by rw [upd_ne h9.symm]; exact h6, h7⟩, by rw [upd_ne ap.rs.symm]; exact h8, h9, h10⟩
theorem MAt.tests (h : MAt C H p a m) {kt : List (Key × V)} (hk : H a.t = some (.dK kt)) (d : DOk kt (fun i => .bl (m.tests i)) (.bl false)) {k : Int} {n : Bool} (hr : Kt.rg k) : MAt C (upd H a.t (.dK (putK kt (Sum.inl k) (.bl n)))) p a { m with tests := upI m.tests k n } := by
  have ap := h.apart
  have tm : Tx H (upd H a.t (.dK (putK kt (Sum.inl k) (.bl n)))) := Fr.tx h (Fr.upd (by simp [Ad.own]))
  obtain ⟨⟨e, h1, h2⟩, ⟨kr', h3, h4⟩, h5, ⟨kt', h6, h7⟩, h8, h9, h10⟩ := h
  have dd := d.put (.bl n) hr
  have ee : upI (fun i => V.bl (m.tests i)) k (.bl n) = fun i => V.bl (upI m.tests k n i) := by
    funext i
    unfold upI
    split <;> rfl
  rw [ee] at dd
  exact ⟨⟨e, by rw [upd_ne ap.pt]; exact h1, h2.mono tm⟩, ⟨kr', by rw [upd_ne h9]; exact h3, h4⟩, by rw [upd_ne ap.tc.symm]; exact h5, ⟨_, upd_same, dd⟩, by rw [upd_ne ap.ts.symm]; exact h8, h9, h10⟩
theorem MAt.said (h : MAt C H p a m) {n : Int} : MAt C (upd H a.s (.lst (m.said.map V.int ++ [.int n]))) p a { m with said := m.said ++ [n] } := by
  have ap := h.apart
  have tm : Tx H (upd H a.s (.lst (m.said.map V.int ++ [.int n]))) := Fr.tx h (Fr.upd (by simp [Ad.own]))
  obtain ⟨⟨e, h1, h2⟩, ⟨kr', h3, h4⟩, h5, ⟨kt', h6, h7⟩, h8, h9, h10⟩ := h
  exact ⟨⟨e, by rw [upd_ne ap.ps]; exact h1, h2.mono tm⟩, ⟨kr', by rw [upd_ne ap.rs]; exact h3, h4⟩, by rw [upd_ne h10]; exact h5, ⟨kt', by rw [upd_ne ap.ts]; exact h6, h7⟩, by rw [upd_same]; simp, h9, h10⟩
theorem MAt.cells (h : MAt C H p a m) {k : Nat} {n : Int} : MAt C (upd H a.c (.lst ((m.cells.map V.int).set k (.int n)))) p a { m with cells := m.cells.set k n } := by
  have ap := h.apart
  have tm : Tx H (upd H a.c (.lst ((m.cells.map V.int).set k (.int n)))) := Fr.tx h (Fr.upd (by simp [Ad.own]))
  obtain ⟨⟨e, h1, h2⟩, ⟨kr', h3, h4⟩, h5, ⟨kt', h6, h7⟩, h8, h9, h10⟩ := h
  exact ⟨⟨e, by rw [upd_ne ap.pc]; exact h1, h2.mono tm⟩, ⟨kr', by rw [upd_ne ap.rc]; exact h3, h4⟩, by rw [upd_same, List.map_set], ⟨kt', by rw [upd_ne ap.tc]; exact h6, h7⟩, by rw [upd_ne h10.symm]; exact h8, h9, h10⟩
end
section
variable {P : Program} {w : World} {K : PySem.W.Frag} {mg : Str → Option Value} {base : Heap} {cs : Cs}
def spHeld (C : Addr) : Sp := fun vs H Q _ => ∃ (p : Addr) (a : Ad) (m : Mst) (i : Int), vs = [.ref p, .int i] ∧ MAt C H p a m ∧ Q (.int (m.regs i)) H
theorem mc_held (T : Txt w K mg cs) : Mc P w K mg base 1 cs.Machine "held" (spHeld cs.Machine) := by
  obtain ⟨f, fd, F, me⟩ := T.f_Machine_held
  refine mc_mk T.cl_Machine me F bd_Machine_held sc_Machine_held (fun vs H Q E h => ?_) (fun cdv A outer s H vs Q E hr h => ?_)
  · obtain ⟨p, a, m, i, rfl, _⟩ := h
    rfl
  · obtain ⟨p, a, m, i, rfl, M, q⟩ := h
    obtain ⟨⟨e, h1, h2⟩, ⟨kr, h3, h4⟩, h5, ⟨kt, h6, h7⟩, h8, h9, h10⟩ := M
    refine ws_ret (w_dget2 (hu_of hr) (w_attr (w_vv 0 rfl) h1 T.cl_Machine T.na_Machine_registers mf_registers ⟨a.r, rfl, .inl ⟨kr, .inl h3⟩, w_v 1 rfl (w_int ⟨_, DGet.k (k := Sum.inl i) h3, ?_⟩)⟩))
    rw [h4.vs i]
    exact q
def spHolds (C : Addr) : Sp := fun vs H Q _ => ∃ (p : Addr) (a : Ad) (m : Mst) (i : Int), vs = [.ref p, .int i] ∧ MAt C H p a m ∧ Q (.bl (m.tests i)) H
theorem mc_holds (T : Txt w K mg cs) : Mc P w K mg base 1 cs.Machine "holds" (spHolds cs.Machine) := by
  obtain ⟨f, fd, F, me⟩ := T.f_Machine_holds
  refine mc_mk T.cl_Machine me F bd_Machine_holds sc_Machine_holds (fun vs H Q E h => ?_) (fun cdv A outer s H vs Q E hr h => ?_)
  · obtain ⟨p, a, m, i, rfl, _⟩ := h
    rfl
  · obtain ⟨p, a, m, i, rfl, M, q⟩ := h
    obtain ⟨⟨e, h1, h2⟩, ⟨kr, h3, h4⟩, h5, ⟨kt, h6, h7⟩, h8, h9, h10⟩ := M
    refine ws_ret (w_dget2 (hu_of hr) (w_attr (w_vv 0 rfl) h1 T.cl_Machine T.na_Machine_tests mf_tests ⟨a.t, rfl, .inl ⟨kt, .inl h6⟩, w_v 1 rfl (w_bl ⟨_, DGet.k (k := Sum.inl i) h6, ?_⟩)⟩))
    rw [h7.vs i]
    exact q
end
end Kt
set_option Elab.async false
set_option linter.all false
set_option maxRecDepth 100000
set_option maxHeartbeats 8000000
namespace Kt
open PySem PySem.Spec PyProof.Rows L2 Tr
/-- data's value, where it stands -/
theorem DV.v {X : Cx} {e : Expr} {σ : St} {H : Hp} {v : V} {Q : VK} (hv : scal1 v = true) (h : DV X e σ H (dOf v)) (q : ∀ H', Same H H' → Q v H') : WE X e σ H Q := h.w fun u H' s iu => by
  have : u = v := by
    cases v with
    | non => exact im_non iu
    | bl b => exact im_bl iu
    | int i => exact im_int iu
    | str x => exact im_str iu
    | _ => cases hv
  subst this
  exact q H' s
structure Ready (C : Addr) (H : Hp) (p : Addr) (a : Ad) (m : Mst) (rv : V) (r : Row) (l : Addr) (xs : List Int) : Prop where
  M : MAt C H p a m
  ok : Mok m
  row : Im H rv (encR r)
  vw : RV r
  ls : H l = some (.lst (xs.map V.int))
  ap : l ∉ a.own p
  len : xs.length = (srcOf r.w r.ps).length
  xr : ∀ x ∈ xs, inR x
  sl : m.said.length < 900000
/-- store, change: the same promise -/
def spChange (C : Addr) (ws : Str → Prop) : Sp := fun vs H Q _ => ∃ (p : Addr) (a : Ad) (m : Mst) (rv : V) (r : Row) (l : Addr) (xs : List Int), vs = [.ref p, rv, .str r.w, .ref l] ∧ Ready C H p a m rv r l xs ∧ ws r.w ∧
  ∀ H', Fr (a.own p) H H' → MAt C H' p a (changeM m r xs) → Q .non H'
section
variable {P : Program} {w : World} {K : PySem.W.Frag} {mg : Str → Option Value} {base : Heap} {cs : Cs}
theorem chg_get_cell (m : Mst) (t r a x : Int) (h : 16 ≤ x) : changeM m ⟨t, "get", [r, a]⟩ [x] = { m with fin := some (.fault "cell") } := by
  show (if 16 ≤ x then { m with fin := some (Ef.fault "cell") } else _) = _
  rw [if_pos h]
theorem chg_get (m : Mst) (t r a x : Int) (h : ¬ 16 ≤ x) : changeM m ⟨t, "get", [r, a]⟩ [x] = { m with regs := upI m.regs r (m.cells.getD x.toNat 0) } := by
  show (if 16 ≤ x then _ else { m with regs := upI m.regs r (m.cells.getD x.toNat 0) }) = _
  rw [if_neg h]
theorem chg_put_cell (m : Mst) (t a b x y : Int) (h : 16 ≤ x) : changeM m ⟨t, "put", [a, b]⟩ [x, y] = { m with fin := some (.fault "cell") } := by
  show (if 16 ≤ x then { m with fin := some (Ef.fault "cell") } else _) = _
  rw [if_pos h]
theorem chg_put (m : Mst) (t a b x y : Int) (h : ¬ 16 ≤ x) : changeM m ⟨t, "put", [a, b]⟩ [x, y] = { m with cells := m.cells.set x.toNat y } := by
  show (if 16 ≤ x then _ else { m with cells := m.cells.set x.toNat y }) = _
  rw [if_neg h]
theorem mem_own {p : Addr} {a : Ad} : p ∈ a.own p ∧ a.r ∈ a.own p ∧ a.c ∈ a.own p ∧ a.t ∈ a.own p ∧ a.s ∈ a.own p := by simp [Ad.own]
theorem cell_at {cells : List Int} {x : Int} (hl : cells.length = 16) (h0 : 0 ≤ x) (h1 : ¬ 16 ≤ x) : atI (cells.map V.int) x = some (.int (cells.getD x.toNat 0)) := by
  have e : x = ((x.toNat : Nat) : Int) := by omega
  have hlt : x.toNat < cells.length := by omega
  rw [e]
  refine atI_nat ?_
  rw [List.getElem?_map, Int.toNat_natCast, List.getElem?_eq_getElem hlt]
  simp [List.getD, hlt]
theorem mc_store (T : Txt w K mg cs) : Mc P w K mg base 1 cs.Machine "store" (spChange cs.Machine fun x => x = "get" ∨ x = "put") := by
  obtain ⟨f, fd, F, me⟩ := T.f_Machine_store
  obtain ⟨tk1, c1⟩ := T.c_CELLS
  refine mc_mk T.cl_Machine me F bd_Machine_store sc_Machine_store (fun vs H Q E h => ?_) (fun cdv A outer s H vs Q E hr h => ?_)
  · obtain ⟨p, a, m, rv, r, l, xs, rfl, _⟩ := h
    rfl
  · obtain ⟨p, a, m, rv, r, l, xs, rfl, R, hw, q⟩ := h
    have hu := hu_of hr
    have M := R.M
    have ap := M.apart
    obtain ⟨⟨e, h1, h2⟩, ⟨kr, h3, h4⟩, h5, ⟨kt, h6, h7⟩, h8, h9, h10⟩ := id M
    -- self.end = ('fault', 'cell')
    have cellEnd : ∀ (D : Ends) (sts : List Stmt) (H1 : Hp), Same H H1 → (∀ H2, Fr (a.own p) H H2 → MAt cs.Machine H2 p a { m with fin := some (.fault "cell") } → WS (Bx P w K mg base N_Machine_store "Machine.store" s_Machine_store f cdv A outer s H E) sts D (start N_Machine_store [.ref p, rv, .str r.w, .ref l]) H2) →
        ∀ p1 p2 p3 p4 p5 p6 k1 k2 k3, WS (Bx P w K mg base N_Machine_store "Machine.store" s_Machine_store f cdv A outer s H E) (.Assign [.Attribute (.Name "self" p1) "end" p2] (.Tuple [.Constant (.str "fault") k1 p3, .Constant (.str "cell") k2 p4] k3 p5) p6 :: sts) D (start N_Machine_store [.ref p, rv, .str r.w, .ref l]) H1 := by
      intro D sts H1 s1 k p1 p2 p3 p4 p5 p6 k1 k2 k3
      refine ws_fld (DV.w (dv_tup (av_cons dv_str (av_cons dv_str av_nil)) (by decide)) fun v H2 s2 iv => w_v 0 rfl ⟨p, cs.Machine, a.dx, _, rfl, s2 _ _ (s1 _ _ h1), T.cl_Machine, T.na_Machine_end, mf_len, ?_⟩)
      rw [mf_pEnd]
      have M2 := M.same (s1.trans s2)
      exact k _ ((Fr.same (s1.trans s2)).trans (Fr.upd mem_own.1)) (M2.obj (fin := some (.fault "cell")) iv)
    cases R.vw with
    | get t1 t2 t3 =>
      rename_i t rr ra
      have hlen : xs.length = 1 := R.len
      obtain ⟨x, rfl⟩ : ∃ x, xs = [x] := by match xs, hlen with | [x], _ => exact ⟨x, rfl⟩
      have hx := R.xr x (by simp)
      refine ws_if (t_cmp op_ge (w_item (w_vv 3 rfl) (SqL.of R.ls) w_ival (atI_nat (j := 0) rfl) (w_glob (v := .int 16) c1 ⟨_, rfl⟩ ⟨x, 16, rfl, rfl, _, rfl, ite2 (fun h => ?_) (fun h => ?_)⟩)))
      · have hge : 16 ≤ x := of_decide_eq_true h
        rw [chg_get_cell m t rr ra x hge] at q
        exact cellEnd _ _ H (Same.refl H) (fun H2 f2 M2 => ws_nil (ws_nil (q H2 f2 M2))) _ _ _ _ _ _ _ _ _
      · have hge : ¬ 16 ≤ x := fun z => h (decide_eq_true z)
        rw [chg_get m t rr ra x hge] at q
        refine ws_if (t_cmp op_eq (w_v 2 rfl (w_str ⟨rfl, _, rfl, ?_⟩)))
        rw [decide_eq_true rfl]
        refine iteT (ws_dput hu ?_)
        refine w_item (w_attrv (w_vv 0 rfl) h1 T.cl_Machine T.na_Machine_cells mf_cells) (SqL.of h5) (fun Q' q' => w_item (w_vv 3 rfl) (SqL.of R.ls) w_ival (atI_nat (j := 0) rfl) q') (cell_at R.ok.len hx.1 hge) ?_
        refine w_attr (w_vv 0 rfl) h1 T.cl_Machine T.na_Machine_registers mf_registers ?_
        refine DV.v (v := .int rr) rfl (dv_ix (dv_v 1 rfl R.row) dv_int (atI_nat (j := 2) rfl)) fun H1 s1 => ?_
        refine ⟨a.r, _, rfl, DPut.k (k := Sum.inl rr) (s1 _ _ h3) (Nat.lt_of_le_of_lt h4.len (by decide)), ?_⟩
        exact ws_nil (ws_nil (ws_nil (q _ ((Fr.same s1).trans (Fr.upd mem_own.2.1)) ((M.same s1).regs (s1 _ _ h3) h4 t2 rfl))))
    | put t1 t2 t3 =>
      rename_i t ra rb
      have hlen : xs.length = 2 := R.len
      obtain ⟨x, y, rfl⟩ : ∃ x y, xs = [x, y] := by match xs, hlen with | [x, y], _ => exact ⟨x, y, rfl⟩
      have hx := R.xr x (by simp)
      refine ws_if (t_cmp op_ge (w_item (w_vv 3 rfl) (SqL.of R.ls) w_ival (atI_nat (j := 0) rfl) (w_glob (v := .int 16) c1 ⟨_, rfl⟩ ⟨x, 16, rfl, rfl, _, rfl, ite2 (fun h => ?_) (fun h => ?_)⟩)))
      · have hge : 16 ≤ x := of_decide_eq_true h
        rw [chg_put_cell m t ra rb x y hge] at q
        exact cellEnd _ _ H (Same.refl H) (fun H2 f2 M2 => ws_nil (ws_nil (q H2 f2 M2))) _ _ _ _ _ _ _ _ _
      · have hge : ¬ 16 ≤ x := fun z => h (decide_eq_true z)
        rw [chg_put m t ra rb x y hge] at q
        refine ws_if (t_cmp op_eq (w_v 2 rfl (w_str ⟨rfl, _, rfl, ?_⟩)))
        rw [show decide (V.str (Row.w ⟨t, "put", [ra, rb]⟩) = V.str "get") = false from (by decide +kernel : decide (V.str ("put" : Str) = V.str "get") = false)]
        refine iteF (ws_asg (pg_sub peW peW set_list) ?_)
        refine w_item (w_vv 3 rfl) (SqL.of R.ls) w_ival (atI_nat (j := 1) rfl) ?_
        refine w_attr (w_vv 0 rfl) h1 T.cl_Machine T.na_Machine_cells mf_cells ?_
        refine w_item (w_vv 3 rfl) (SqL.of R.ls) w_ival (atI_nat (j := 0) rfl) ?_
        have hix : ixN (m.cells.map V.int).length x = some x.toNat := by
          unfold ixN
          rw [if_pos hx.1, if_pos (by rw [List.length_map, R.ok.len]; omega)]
        refine ⟨a.c, _, x, x.toNat, rfl, rfl, h5, hix, ?_⟩
        exact ws_nil (ws_nil (ws_nil (q _ (Fr.upd mem_own.2.2.1) M.cells)))
    | num _ _ _ => rcases hw with h | h <;> (dsimp only at h; exact absurd h (by decide +kernel))
    | copy _ _ _ => rcases hw with h | h <;> (dsimp only at h; exact absurd h (by decide +kernel))
    | nt _ _ _ => rcases hw with h | h <;> (dsimp only at h; exact absurd h (by decide +kernel))
    | say _ _ => rcases hw with h | h <;> (dsimp only at h; exact absurd h (by decide +kernel))
    | stop _ _ => rcases hw with h | h <;> (dsimp only at h; exact absurd h (by decide +kernel))
    | test _ _ _ _ _ _ _ => rcases hw with h | h <;> (dsimp only at h; exact absurd h (by decide +kernel))
    | bin hx _ _ _ _ => rcases hw with h | h <;> (dsimp only at h; subst h; exact absurd hx (by decide +kernel))
end
end Kt
set_option Elab.async false
set_option linter.all false
set_option maxRecDepth 100000
set_option maxHeartbeats 8000000
namespace Kt
open PySem PySem.Spec PyProof.Rows L2 Tr
section
variable {P : Program} {w : World} {K : PySem.W.Frag} {mg : Str → Option Value} {base : Heap} {cs : Cs}
theorem pair_ne {z : Str} (hz : rowPairs.contains z = true) : z ≠ "say" ∧ z ≠ "stop" ∧ (["get", "put"] : List Str).contains z = false ∧ (["num", "copy"] : List Str).contains z = false ∧ z ≠ "not" := by
  rcases pairs_cases hz with rfl | rfl | rfl | rfl | rfl | rfl | rfl <;> decide +kernel
theorem chg_bin {m : Mst} {t r a b x y : Int} {z : Str} (hz : rowPairs.contains z = true) : changeM m ⟨t, z, [r, a, b]⟩ [x, y] = (match rck z x y with
    | none => { m with fin := some (Ef.fault "over") }
    | some n => { m with regs := upI m.regs r n }) := by
  obtain ⟨n1, n2, n3, n4, n5⟩ := pair_ne hz
  unfold changeM
  dsimp only
  rw [if_neg n1, if_neg n2, if_neg (by rw [n3]; exact Bool.false_ne_true), if_neg (by rw [n4]; exact Bool.false_ne_true), if_neg n5]
  rfl
theorem chg_bin_none {m : Mst} {t r a b x y : Int} {z : Str} (hz : rowPairs.contains z = true) (h : rck z x y = none) : changeM m ⟨t, z, [r, a, b]⟩ [x, y] = { m with fin := some (.fault "over") } := by
  rw [chg_bin hz, h]
theorem chg_bin_some {m : Mst} {t r a b x y n : Int} {z : Str} (hz : rowPairs.contains z = true) (h : rck z x y = some n) : changeM m ⟨t, z, [r, a, b]⟩ [x, y] = { m with regs := upI m.regs r n } := by
  rw [chg_bin hz, h]
theorem mc_change (T : Txt w K mg cs) : Mc P w K mg base 2 cs.Machine "change" (spChange cs.Machine fun x => x ≠ "test") := by
  obtain ⟨f, fd, F, me⟩ := T.f_Machine_change
  have GS : Mc P w K mg base 1 cs.Machine "store" (spChange cs.Machine fun x => x = "get" ∨ x = "put") := mc_store T
  have GR : Fc P w K mg base 1 "reckoned" (spF rckF) := fc_reckoned T
  have b1 := T.b_int
  refine mc_mk T.cl_Machine me F bd_Machine_change sc_Machine_change (fun vs H Q E h => ?_) (fun cdv A outer s H vs Q E hr h => ?_)
  · obtain ⟨p, a, m, rv, r, l, xs, rfl, _⟩ := h
    rfl
  · obtain ⟨p, a, m, rv, r, l, xs, rfl, R, hw, q⟩ := h
    have hu := hu_of hr
    have M := R.M
    have ap := M.apart
    have s0 : Same H H := Same.refl H
    obtain ⟨⟨e, h1, h2⟩, ⟨kr, h3, h4⟩, h5, ⟨kt, h6, h7⟩, h8, h9, h10⟩ := id M
    have hk : kr.length < sizeLine := Nat.lt_of_le_of_lt h4.len (by decide)
    cases hv : R.vw with
    | say t1 t2 =>
      rename_i t ra
      obtain ⟨x, rfl⟩ : ∃ x, xs = [x] := by match xs, (show xs.length = 1 from R.len) with | [x], _ => exact ⟨x, rfl⟩
      refine ws_ifE s0 (tv_eqS (dv_v 2 rfl (.str "say")) dv_str) (fun _ H1 s1 => ?_) (fun h => absurd (of_decide_eq_false h) (by decide +kernel))
      refine ws_expr (w_append (w_attrv (w_vv 0 rfl) (s1 _ _ h1) T.cl_Machine T.na_Machine_said mf_said) (s1 _ _ h8) (w_itemv (w_vv 3 rfl) (SqL.of (s1 _ _ R.ls)) w_ival (atI_nat (j := 0) rfl)) (by rw [List.length_map]; have := R.sl; omega) ?_)
      exact ws_nil (ws_nil (q _ ((Fr.same s1).trans (Fr.upd mem_own.2.2.2.2)) (M.same s1).said))
    | stop t1 t2 =>
      rename_i t ra
      obtain ⟨x, rfl⟩ : ∃ x, xs = [x] := by match xs, (show xs.length = 1 from R.len) with | [x], _ => exact ⟨x, rfl⟩
      refine ws_ifE s0 (tv_eqS (dv_v 2 rfl (.str "stop")) dv_str) (fun h => absurd (of_decide_eq_true h) (by decide +kernel)) (fun _ H1 s1 => ?_)
      refine ws_ifE s1 (tv_eqS (dv_v 2 rfl (.str "stop")) dv_str) (fun _ H2 s2 => ?_) (fun h => absurd (of_decide_eq_false h) (by decide +kernel))
      refine ws_fld (w_tup (wa_cons (w_str (wa_cons (w_item (w_vv 3 rfl) (SqL.of (s2 _ _ R.ls)) w_ival (atI_nat (j := 0) rfl) (wa_nil ⟨(show 2 ≤ sizeLine by decide), fun u hu' => w_v 0 rfl ?_⟩))))))
      have s3 : Same H2 (upd H2 u (.tup [.str "worth", .int x])) := same_new hu'
      refine ⟨p, cs.Machine, a.dx, _, rfl, s3 _ _ (s2 _ _ h1), T.cl_Machine, T.na_Machine_end, mf_len, ?_⟩
      rw [mf_pEnd]
      exact ws_nil (ws_nil (ws_nil (q _ ((Fr.same (s2.trans s3)).trans (Fr.upd mem_own.1)) ((M.same (s2.trans s3)).obj (fin := some (.worth x)) (.tup upd_same (.cons (.str _) (.cons (.int _) .nil)))))))
    | get t1 t2 t3 =>
      rename_i t rr ra
      refine ws_ifE s0 (tv_eqS (dv_v 2 rfl (.str "get")) dv_str) (fun h => absurd (of_decide_eq_true h) (by decide +kernel)) (fun _ H1 s1 => ?_)
      refine ws_ifE s1 (tv_eqS (dv_v 2 rfl (.str "get")) dv_str) (fun h => absurd (of_decide_eq_true h) (by decide +kernel)) (fun _ H2 s2 => ?_)
      refine ws_ifE s2 (tv_inT (ss := ["get", "put"]) (dv_v 2 rfl (.str "get")) (dv_tup (av_cons dv_str (av_cons dv_str av_nil)) (by decide))) (fun _ H3 s3 => ?_) (fun h => absurd h (by decide +kernel))
      refine ws_expr (w_mt GS hr (by decide) (w_v 0 rfl ⟨p, a.dx, _, rfl, s3 _ _ h1, mf_m.2.2.2.1, wa_cons (w_v 1 rfl (wa_cons (w_v 2 rfl (wa_cons (w_v 3 rfl (wa_nil ?_))))))⟩))
      exact ⟨p, a, m, rv, _, l, xs, rfl, ⟨M.same s3, R.ok, R.row.mono (tx_same s3), R.vw, s3 _ _ R.ls, R.ap, R.len, R.xr, R.sl⟩, .inl rfl, fun H4 f4 M4 => ws_nil (ws_nil (ws_nil (ws_nil (q H4 ((Fr.same s3).trans f4) M4))))⟩
    | put t1 t2 t3 =>
      rename_i t rr ra
      refine ws_ifE s0 (tv_eqS (dv_v 2 rfl (.str "put")) dv_str) (fun h => absurd (of_decide_eq_true h) (by decide +kernel)) (fun _ H1 s1 => ?_)
      refine ws_ifE s1 (tv_eqS (dv_v 2 rfl (.str "put")) dv_str) (fun h => absurd (of_decide_eq_true h) (by decide +kernel)) (fun _ H2 s2 => ?_)
      refine ws_ifE s2 (tv_inT (ss := ["get", "put"]) (dv_v 2 rfl (.str "put")) (dv_tup (av_cons dv_str (av_cons dv_str av_nil)) (by decide))) (fun _ H3 s3 => ?_) (fun h => absurd h (by decide +kernel))
      refine ws_expr (w_mt GS hr (by decide) (w_v 0 rfl ⟨p, a.dx, _, rfl, s3 _ _ h1, mf_m.2.2.2.1, wa_cons (w_v 1 rfl (wa_cons (w_v 2 rfl (wa_cons (w_v 3 rfl (wa_nil ?_))))))⟩))
      exact ⟨p, a, m, rv, _, l, xs, rfl, ⟨M.same s3, R.ok, R.row.mono (tx_same s3), R.vw, s3 _ _ R.ls, R.ap, R.len, R.xr, R.sl⟩, .inr rfl, fun H4 f4 M4 => ws_nil (ws_nil (ws_nil (ws_nil (q H4 ((Fr.same s3).trans f4) M4))))⟩
    | num t1 t2 t3 =>
      rename_i t rr n
      obtain rfl : xs = [] := by match xs, (show xs.length = 0 from R.len) with | [], _ => rfl
      refine ws_ifE s0 (tv_eqS (dv_v 2 rfl (.str "num")) dv_str) (fun h => absurd (of_decide_eq_true h) (by decide +kernel)) (fun _ H1 s1 => ?_)
      refine ws_ifE s1 (tv_eqS (dv_v 2 rfl (.str "num")) dv_str) (fun h => absurd (of_decide_eq_true h) (by decide +kernel)) (fun _ H2 s2 => ?_)
      refine ws_ifE s2 (tv_inT (ss := ["get", "put"]) (dv_v 2 rfl (.str "num")) (dv_tup (av_cons dv_str (av_cons dv_str av_nil)) (by decide))) (fun h => absurd h (by decide +kernel)) (fun _ H3 s3 => ?_)
      refine ws_ifE s3 (tv_inT (ss := ["num", "copy"]) (dv_v 2 rfl (.str "num")) (dv_tup (av_cons dv_str (av_cons dv_str av_nil)) (by decide))) (fun _ H4 s4 => ?_) (fun h => absurd h (by decide +kernel))
      refine ws_dput hu (DV.v (v := .int n) rfl (DV.mono (dv_ifx (tv_eqS (dv_v 2 rfl (.str "num")) dv_str) (fun _ => dv_ix (dv_v 1 rfl R.row) dv_int (atI_nat (j := 3) rfl)) (fun h => absurd (of_decide_eq_false h) (by decide +kernel))) (tx_same s4)) fun H5 s5 => ?_)
      refine w_attr (w_vv 0 rfl) (s5 _ _ (s4 _ _ h1)) T.cl_Machine T.na_Machine_registers mf_registers ?_
      refine DV.v (v := .int rr) rfl (dv_ix (dv_v 1 rfl (R.row.mono (tx_same (s4.trans s5)))) dv_int (atI_nat (j := 2) rfl)) fun H6 s6 => ?_
      have s7 := (s4.trans s5).trans s6
      refine ⟨a.r, _, rfl, DPut.k (k := Sum.inl rr) (s7 _ _ h3) hk, ?_⟩
      exact ws_nil (ws_nil (ws_nil (ws_nil (ws_nil (q _ ((Fr.same s7).trans (Fr.upd mem_own.2.1)) ((M.same s7).regs (s7 _ _ h3) h4 t2 rfl))))))
    | copy t1 t2 t3 =>
      rename_i t rr ra
      obtain ⟨x, rfl⟩ : ∃ x, xs = [x] := by match xs, (show xs.length = 1 from R.len) with | [x], _ => exact ⟨x, rfl⟩
      refine ws_ifE s0 (tv_eqS (dv_v 2 rfl (.str "copy")) dv_str) (fun h => absurd (of_decide_eq_true h) (by decide +kernel)) (fun _ H1 s1 => ?_)
      refine ws_ifE s1 (tv_eqS (dv_v 2 rfl (.str "copy")) dv_str) (fun h => absurd (of_decide_eq_true h) (by decide +kernel)) (fun _ H2 s2 => ?_)
      refine ws_ifE s2 (tv_inT (ss := ["get", "put"]) (dv_v 2 rfl (.str "copy")) (dv_tup (av_cons dv_str (av_cons dv_str av_nil)) (by decide))) (fun h => absurd h (by decide +kernel)) (fun _ H3 s3 => ?_)
      refine ws_ifE s3 (tv_inT (ss := ["num", "copy"]) (dv_v 2 rfl (.str "copy")) (dv_tup (av_cons dv_str (av_cons dv_str av_nil)) (by decide))) (fun _ H4 s4 => ?_) (fun h => absurd h (by decide +kernel))
      refine ws_dput hu (w_ifx (TV.w (TV.mono (tv_eqS (dv_v 2 rfl (.str "copy")) dv_str) (tx_same s4)) fun H5 s5 => ?_))
      rw [show decide (("copy" : Str) = "num") = false by decide +kernel]
      refine iteF (w_item (w_vv 3 rfl) (SqL.of (s5 _ _ (s4 _ _ R.ls))) w_ival (atI_nat (j := 0) rfl) ?_)
      refine w_attr (w_vv 0 rfl) (s5 _ _ (s4 _ _ h1)) T.cl_Machine T.na_Machine_registers mf_registers ?_
      refine DV.v (v := .int rr) rfl (dv_ix (dv_v 1 rfl (R.row.mono (tx_same (s4.trans s5)))) dv_int (atI_nat (j := 2) rfl)) fun H6 s6 => ?_
      have s7 := (s4.trans s5).trans s6
      refine ⟨a.r, _, rfl, DPut.k (k := Sum.inl rr) (s7 _ _ h3) hk, ?_⟩
      exact ws_nil (ws_nil (ws_nil (ws_nil (ws_nil (q _ ((Fr.same s7).trans (Fr.upd mem_own.2.1)) ((M.same s7).regs (s7 _ _ h3) h4 t2 rfl))))))
    | nt t1 t2 t3 =>
      rename_i t rr ra
      obtain ⟨x, rfl⟩ : ∃ x, xs = [x] := by match xs, (show xs.length = 1 from R.len) with | [x], _ => exact ⟨x, rfl⟩
      refine ws_ifE s0 (tv_eqS (dv_v 2 rfl (.str "not")) dv_str) (fun h => absurd (of_decide_eq_true h) (by decide +kernel)) (fun _ H1 s1 => ?_)
      refine ws_ifE s1 (tv_eqS (dv_v 2 rfl (.str "not")) dv_str) (fun h => absurd (of_decide_eq_true h) (by decide +kernel)) (fun _ H2 s2 => ?_)
      refine ws_ifE s2 (tv_inT (ss := ["get", "put"]) (dv_v 2 rfl (.str "not")) (dv_tup (av_cons dv_str (av_cons dv_str av_nil)) (by decide))) (fun h => absurd h (by decide +kernel)) (fun _ H3 s3 => ?_)
      refine ws_ifE s3 (tv_inT (ss := ["num", "copy"]) (dv_v 2 rfl (.str "not")) (dv_tup (av_cons dv_str (av_cons dv_str av_nil)) (by decide))) (fun h => absurd h (by decide +kernel)) (fun _ H4 s4 => ?_)
      refine ws_ifE s4 (tv_eqS (dv_v 2 rfl (.str "not")) dv_str) (fun _ H5 s5 => ?_) (fun h => absurd (of_decide_eq_false h) (by decide +kernel))
      refine ws_dput hu (w_callT call_int1 b1 bt_int (wa_cons (w_cmp op_eq (w_item (w_vv 3 rfl) (SqL.of (s5 _ _ R.ls)) w_ival (atI_nat (j := 0) rfl) (w_int ⟨rfl, wa_nil (.inr ⟨_, rfl, ?_⟩)⟩)))))
      refine w_attr (w_vv 0 rfl) (s5 _ _ h1) T.cl_Machine T.na_Machine_registers mf_registers ?_
      refine DV.v (v := .int rr) rfl (dv_ix (dv_v 1 rfl (R.row.mono (tx_same s5))) dv_int (atI_nat (j := 2) rfl)) fun H6 s6 => ?_
      have s7 := s5.trans s6
      refine ⟨a.r, _, rfl, DPut.k (k := Sum.inl rr) (s7 _ _ h3) hk, ?_⟩
      have e9 : (if decide (V.int x = V.int 0) = true then (1 : Int) else 0) = if x = 0 then 1 else 0 := by rw [decI]; simp
      rw [e9]
      exact ws_nil (ws_nil (ws_nil (ws_nil (ws_nil (ws_nil (q _ ((Fr.same s7).trans (Fr.upd mem_own.2.1)) ((M.same s7).regs (s7 _ _ h3) h4 t2 rfl)))))))
    | test _ _ _ _ _ _ _ => exact absurd rfl hw
    | bin hx t1 t2 t3 t4 =>
      rename_i t rr ra rb z
      obtain ⟨x, y, rfl⟩ : ∃ x y, xs = [x, y] := by
        have hl : xs.length = 2 := by
          have := R.len
          rcases pairs_cases hx with rfl | rfl | rfl | rfl | rfl | rfl | rfl <;> exact this
        match xs, hl with | [x, y], _ => exact ⟨x, y, rfl⟩
      obtain ⟨n1, n2, n3, n4, n5⟩ := pair_ne hx
      have hxr := R.xr x (by simp)
      have hyr := R.xr y (by simp)
      refine ws_ifE s0 (tv_eqS (dv_v 2 rfl (.str z)) dv_str) (fun h => absurd (of_decide_eq_true h) n1) (fun _ H1 s1 => ?_)
      refine ws_ifE s1 (tv_eqS (dv_v 2 rfl (.str z)) dv_str) (fun h => absurd (of_decide_eq_true h) n2) (fun _ H2 s2 => ?_)
      refine ws_ifE s2 (tv_inT (ss := ["get", "put"]) (dv_v 2 rfl (.str z)) (dv_tup (av_cons dv_str (av_cons dv_str av_nil)) (by decide))) (fun h => by rw [n3] at h; cases h) (fun _ H3 s3 => ?_)
      refine ws_ifE s3 (tv_inT (ss := ["num", "copy"]) (dv_v 2 rfl (.str z)) (dv_tup (av_cons dv_str (av_cons dv_str av_nil)) (by decide))) (fun h => by rw [n4] at h; cases h) (fun _ H4 s4 => ?_)
      refine ws_ifE s4 (tv_eqS (dv_v 2 rfl (.str z)) dv_str) (fun h => absurd (of_decide_eq_true h) n5) (fun _ H5 s5 => ?_)
      refine ws_set (i := 4) sc_Machine_change.nd (w_c GR hr (by decide) (wa_cons (w_v 2 rfl (wa_cons (w_item (w_vv 3 rfl) (SqL.of (s5 _ _ R.ls)) w_ival (atI_nat (j := 0) rfl) (wa_cons (w_item (w_vv 3 rfl) (SqL.of (s5 _ _ R.ls)) w_ival (atI_nat (j := 1) rfl) (wa_nil ?_))))))))
      refine ⟨[.str z, .int x, .int y], optD (rck z x y), .cons (.str _) (.cons (.int _) (.cons (.int _) .nil)), by show (if _ then some _ else none) = _; rw [if_pos ⟨hx, hxr, hyr⟩], fun v H6 s6 iv => ?_⟩
      have s7 := s5.trans s6
      cases hrk : rck z x y with
      | none =>
        rw [hrk] at iv
        rw [chg_bin_none hx hrk] at q
        refine ws_ifE (Same.refl H6) (tv_isN (dv_v 4 rfl iv)) (fun _ H7 s8 => ?_) (fun h => (nomatch h))
        refine ws_fld (DV.w (dv_tup (av_cons dv_str (av_cons dv_str av_nil)) (by decide)) fun v9 H9 s9 iv9 => w_v 0 rfl ⟨p, cs.Machine, a.dx, _, rfl, s9 _ _ (s8 _ _ (s7 _ _ h1)), T.cl_Machine, T.na_Machine_end, mf_len, ?_⟩)
        rw [mf_pEnd]
        have s10 := (s7.trans s8).trans s9
        exact ws_nil (ws_nil (ws_nil (ws_nil (ws_nil (ws_nil (ws_nil (q _ ((Fr.same s10).trans (Fr.upd mem_own.1)) ((M.same s10).obj (fin := some (.fault "over")) iv9))))))))
      | some n =>
        rw [hrk] at iv
        rw [chg_bin_some hx hrk] at q
        refine ws_ifE (Same.refl H6) (tv_isN (dv_v 4 rfl iv)) (fun h => (nomatch h)) (fun _ H7 s8 => ?_)
        cases im_int iv
        refine ws_dput hu (w_v 4 rfl ?_)
        refine w_attr (w_vv 0 rfl) (s8 _ _ (s7 _ _ h1)) T.cl_Machine T.na_Machine_registers mf_registers ?_
        refine DV.v (v := .int rr) rfl (dv_ix (dv_v 1 rfl (R.row.mono (tx_same (s7.trans s8)))) dv_int (atI_nat (j := 2) rfl)) fun H9 s9 => ?_
        have s10 := (s7.trans s8).trans s9
        refine ⟨a.r, _, rfl, DPut.k (k := Sum.inl rr) (s10 _ _ h3) hk, ?_⟩
        exact ws_nil (ws_nil (ws_nil (ws_nil (ws_nil (ws_nil (ws_nil (q _ ((Fr.same s10).trans (Fr.upd mem_own.2.1)) ((M.same s10).regs (s10 _ _ h3) h4 t2 rfl))))))))
end
end Kt
set_option Elab.async false
set_option linter.all false
set_option maxRecDepth 100000
set_option maxHeartbeats 8000000
namespace Kt
open PySem PySem.Spec PyProof.Rows L2 Tr
def spDoes (C : Addr) : Sp := fun vs H Q _ => ∃ (p : Addr) (a : Ad) (m : Mst) (rv : V) (r : Row) (hold : Bool) (l : Addr) (xs : List Int), vs = [.ref p, rv, .bl hold, .ref l] ∧ Ready C H p a m rv r l xs ∧
  ∀ H', Fr (a.own p) H H' → MAt C H' p a (doesM m r hold xs) → Q .non H'
/-- behind the change, ahead of the count -/
def midM (m : Mst) (r : Row) (hold : Bool) (xs : List Int) : Mst :=
  if r.w = "test" then { m with looked := m.looked + 1, tests := upI (upI m.tests (r.ps.getD 0 0) (hold && !decide (xs.getD 0 0 = 0))) (r.ps.getD 1 0) (hold && decide (xs.getD 0 0 = 0)) }
  else if hold then changeM { m with looked := m.looked + 1 } r xs else { m with looked := m.looked + 1 }
theorem doesM_mid (m : Mst) (r : Row) (hold : Bool) (xs : List Int) : doesM m r hold xs = { midM m r hold xs with done := (midM m r hold xs).done + (if hold then 1 else 0) } := rfl
section
variable {P : Program} {w : World} {K : PySem.W.Frag} {mg : Str → Option Value} {base : Heap} {cs : Cs}
theorem w_and2 {X : Cx} {a c : Expr} {σ : St} {H : Hp} {pos : Pos} {Q : VK} {hold b : Bool} (ha : ∀ Q : VK, Q (.bl hold) H → WE X a σ H Q) (hb : ∀ Q : VK, Q (.bl b) H → WE X c σ H Q) (q : Q (.bl (hold && b)) H) : WE X (.BoolOp .And [a, c] pos) σ H Q := w_and (ha _ ⟨hold, rfl, by
  cases hold
  · exact q
  · exact w_one (hb _ q)⟩)
theorem RV.tst {r : Row} (h : RV r) (hw : r.w = "test") : ∃ t p q a, r = ⟨t, "test", [p, q, a]⟩ ∧ rg p ∧ rg q := by
  cases h with
  | test t1 t2 t3 t4 t5 t6 t7 => exact ⟨_, _, _, _, rfl, t2, t4⟩
  | bin hx _ _ _ _ => exact absurd hw (pair_not_test hx)
  | num _ _ _ => exact absurd hw (by dsimp only; decide +kernel)
  | copy _ _ _ => exact absurd hw (by dsimp only; decide +kernel)
  | nt _ _ _ => exact absurd hw (by dsimp only; decide +kernel)
  | say _ _ => exact absurd hw (by dsimp only; decide +kernel)
  | stop _ _ => exact absurd hw (by dsimp only; decide +kernel)
  | get _ _ _ => exact absurd hw (by dsimp only; decide +kernel)
  | put _ _ _ => exact absurd hw (by dsimp only; decide +kernel)
theorem mc_does (T : Txt w K mg cs) : Mc P w K mg base 3 cs.Machine "does" (spDoes cs.Machine) := by
  obtain ⟨f, fd, F, me⟩ := T.f_Machine_does
  have GC : Mc P w K mg base 2 cs.Machine "change" (spChange cs.Machine fun x => x ≠ "test") := mc_change T
  have b1 := T.b_int
  refine mc_mk T.cl_Machine me F bd_Machine_does sc_Machine_does (fun vs H Q E h => ?_) (fun cdv A outer s H vs Q E hr h => ?_)
  · obtain ⟨p, a, m, rv, r, hold, l, xs, rfl, _⟩ := h
    rfl
  · obtain ⟨p, a, m, rv, r, hold, l, xs, rfl, R, q⟩ := h
    have hu := hu_of hr
    have M := R.M
    obtain ⟨⟨e, h1, h2⟩, _⟩ := id M
    -- self.looked = self.looked + 1
    refine ws_fld (w_op op_add (w_attr (w_vv 0 rfl) h1 T.cl_Machine T.na_Machine_looked mf_looked (w_int ⟨m.looked, 1, rfl, rfl, w_v 0 rfl ⟨p, cs.Machine, a.dx, _, rfl, h1, T.cl_Machine, T.na_Machine_looked, mf_len, ?_⟩⟩)))
    rw [mf_pLooked]
    have f1 : Fr (a.own p) H (upd H p (.ins cs.Machine a.dx (mf a.r a.c a.t m.fuel a.s e (m.looked + 1) m.done))) := Fr.upd mem_own.1
    have M1 : MAt cs.Machine (upd H p (.ins cs.Machine a.dx (mf a.r a.c a.t m.fuel a.s e (m.looked + 1) m.done))) p a { m with looked := m.looked + 1 } := M.obj (fin := m.fin) h2
    generalize (upd H p (.ins cs.Machine a.dx (mf a.r a.c a.t m.fuel a.s e (m.looked + 1) m.done))) = H1 at f1 M1
    have row1 := R.row.mono (f1.tx M)
    have ls1 := f1 _ _ R.ls R.ap
    -- word = row[1]
    refine ws_set (i := 4) sc_Machine_does.nd (DV.v (v := .str r.w) rfl (dv_ix (dv_v 1 rfl row1) dv_int (atI_nat (j := 1) rfl)) fun H2 s2 => ?_)
    have M2 := M1.same s2
    have f2 := f1.trans (Fr.same s2)
    have row2 := row1.mono (tx_same s2)
    have ls2 := s2 _ _ ls1
    -- the end: self.done = self.done + int(holds)
    have fin : ∀ H3, Fr (a.own p) H H3 → MAt cs.Machine H3 p a (midM m r hold xs) → ∀ p1 p2 p3 p4 p5 p6 p7 p8 p9, WS (Bx P w K mg base N_Machine_does "Machine.does" s_Machine_does f cdv A outer s H E) [.Assign [.Attribute (.Name "self" p1) "done" p2] (.BinOp (.Attribute (.Name "self" p3) "done" p4) .Add (.Call (.Name "int" p5) [.Name "holds" p6] [] p7) p8) p9] { nx := fun _ H' => Q .non H', rt := Q } [some (.ref p), some rv, some (.bl hold), some (.ref l), some (.str r.w)] H3 := by
      intro H3 f3 M3 p1 p2 p3 p4 p5 p6 p7 p8 p9
      obtain ⟨⟨e3, g1, g2⟩, _⟩ := id M3
      refine ws_fld (w_op op_add (w_attr (w_vv 0 rfl) g1 T.cl_Machine T.na_Machine_done mf_done (w_callT call_int1 b1 bt_int (wa_cons (w_v 2 rfl (wa_nil (.inr ⟨hold, rfl, ⟨(midM m r hold xs).done, _, rfl, rfl, w_v 0 rfl ⟨p, cs.Machine, a.dx, _, rfl, g1, T.cl_Machine, T.na_Machine_done, mf_len, ?_⟩⟩⟩)))))))
      rw [mf_pDone]
      refine ws_nil (q _ (f3.trans (Fr.upd mem_own.1)) ?_)
      rw [doesM_mid]
      exact M3.obj (fin := (midM m r hold xs).fin) g2
    by_cases hw : r.w = "test"
    · obtain ⟨t, u, v, ra, rfl, hu1, hv1⟩ := R.vw.tst hw
      obtain ⟨x, rfl⟩ : ∃ x, xs = [x] := by match xs, (show xs.length = 1 from R.len) with | [x], _ => exact ⟨x, rfl⟩
      refine ws_ifD (tv_eqS (dv_v 4 rfl (.str "test")) dv_str) (fun _ H3 s3 => ?_) (fun h => absurd (of_decide_eq_false h) (by decide +kernel))
      have M3 := M2.same s3
      obtain ⟨⟨e3, g1, g2⟩, _, _, ⟨kt, g3, g4⟩, _, _, _⟩ := id M3
      have ls3 := s3 _ _ ls2
      have row3 := row2.mono (tx_same s3)
      refine ws_dput hu (w_and2 (w_vv 2 rfl) (fun Q' q' => w_cmp op_ne (w_item (w_vv 3 rfl) (SqL.of ls3) w_ival (atI_nat (j := 0) rfl) (w_int ⟨rfl, q'⟩))) ?_)
      refine w_attr (w_vv 0 rfl) g1 T.cl_Machine T.na_Machine_tests mf_tests ?_
      refine DV.v (v := .int u) rfl (dv_ix (dv_v 1 rfl row3) dv_int (atI_nat (j := 2) rfl)) fun H4 s4 => ?_
      refine ⟨a.t, _, rfl, DPut.k (k := Sum.inl u) (s4 _ _ g3) (Nat.lt_of_le_of_lt g4.len (by decide)), ?_⟩
      have M4 := (M3.same s4).tests (s4 _ _ g3) g4 (n := hold && !decide (V.int x = V.int 0)) hu1
      have f4 := ((f2.trans (Fr.same s3)).trans (Fr.same s4)).trans (Fr.upd (o := .dK (putK kt (Sum.inl u) (.bl (hold && !decide (V.int x = V.int 0))))) (mem_own (p := p) (a := a)).2.2.2.1)
      have t4 := ((tx_same s4).trans (Fr.tx (M3.same s4) (Fr.upd (o := .dK (putK kt (Sum.inl u) (.bl (hold && !decide (V.int x = V.int 0))))) (mem_own (p := p) (a := a)).2.2.2.1)))
      have ls4 := (Fr.upd (o := .dK (putK kt (Sum.inl u) (.bl (hold && !decide (V.int x = V.int 0))))) (mem_own (p := p) (a := a)).2.2.2.1) _ _ (s4 _ _ ls3) R.ap
      have row4 := row3.mono t4
      generalize (upd H4 a.t (.dK (putK kt (Sum.inl u) (.bl (hold && !decide (V.int x = V.int 0)))))) = H5 at M4 f4 ls4 row4
      obtain ⟨⟨e5, i1, i2⟩, _, _, ⟨kt5, i3, i4⟩, _, _, _⟩ := id M4
      refine ws_dput hu (w_and2 (w_vv 2 rfl) (fun Q' q' => w_cmp op_eq (w_item (w_vv 3 rfl) (SqL.of ls4) w_ival (atI_nat (j := 0) rfl) (w_int ⟨rfl, q'⟩))) ?_)
      refine w_attr (w_vv 0 rfl) i1 T.cl_Machine T.na_Machine_tests mf_tests ?_
      refine DV.v (v := .int v) rfl (dv_ix (dv_v 1 rfl row4) dv_int (atI_nat (j := 3) rfl)) fun H6 s6 => ?_
      refine ⟨a.t, _, rfl, DPut.k (k := Sum.inl v) (s6 _ _ i3) (Nat.lt_of_le_of_lt i4.len (by decide)), ?_⟩
      have M6 := (M4.same s6).tests (s6 _ _ i3) i4 (n := hold && decide (V.int x = V.int 0)) hv1
      have f6 := (f4.trans (Fr.same s6)).trans (Fr.upd (o := .dK (putK kt5 (Sum.inl v) (.bl (hold && decide (V.int x = V.int 0))))) (mem_own (p := p) (a := a)).2.2.2.1)
      refine ws_nil (fin _ f6 ?_ _ _ _ _ _ _ _ _ _)
      rw [decI] at M6
      rw [decI]
      exact M6
    · refine ws_ifD (tv_eqS (dv_v 4 rfl (.str r.w)) dv_str) (fun h => absurd (of_decide_eq_true h) hw) (fun _ H3 s3 => ?_)
      have M3 := M2.same s3
      have ls3 := s3 _ _ ls2
      have row3 := row2.mono (tx_same s3)
      have f3 := f2.trans (Fr.same s3)
      refine ws_ifD (tv_val (dv_v 2 rfl (.bl hold))) (fun ht H4 s4 => ?_) (fun hf H4 s4 => ?_)
      · obtain ⟨⟨e4, g1, g2⟩, _⟩ := id (M3.same s4)
        refine ws_expr (w_mt GC hr (by decide) (w_v 0 rfl ⟨p, a.dx, _, rfl, g1, mf_m.2.2.1, wa_cons (w_v 1 rfl (wa_cons (w_v 4 rfl (wa_cons (w_v 3 rfl (wa_nil ?_))))))⟩))
        refine ⟨p, a, _, rv, r, l, xs, rfl, ⟨M3.same s4, ⟨R.ok.rg, R.ok.cl, R.ok.len⟩, row3.mono (tx_same s4), R.vw, s4 _ _ ls3, R.ap, R.len, R.xr, R.sl⟩, hw, fun H5 f5 M5 => ws_nil (ws_nil (fin H5 ((f3.trans (Fr.same s4)).trans f5) ?_ _ _ _ _ _ _ _ _ _))⟩
        unfold midM
        rw [if_neg hw, if_pos ht]
        exact M5
      · refine ws_nil (ws_nil (fin H4 (f3.trans (Fr.same s4)) ?_ _ _ _ _ _ _ _ _ _))
        unfold midM
        rw [if_neg hw, if_neg (by rw [hf]; exact Bool.false_ne_true)]
        exact M3.same s4
end
end Kt
set_option Elab.async false
set_option linter.all false
set_option maxRecDepth 100000
set_option maxHeartbeats 8000000
namespace Kt
open PySem PySem.Spec PyProof.Rows L2 Tr
/-! the plain machine -/
theorem inR0 : inR 0 := ⟨by decide, by decide⟩
theorem rck_inR {x : Str} {a b z : Int} (ha : inR a) (hb : inR b) (h : rck x a b = some z) : inR z := by
  obtain ⟨a1, a2⟩ := ha
  obtain ⟨b1, b2⟩ := hb
  unfold rck at h
  unfold inR
  split at h
  · split at h
    · cases h
    · cases h
      have : a / b ≤ a := Int.ediv_le_self b a1
      have := Int.ediv_nonneg a1 b1
      omega
  · split at h
    · split at h
      · cases h
      · cases h
        have := Int.emod_nonneg a (b := b) (by assumption)
        have := Int.emod_lt_of_pos a (b := b) (by omega)
        omega
    · split at h
      · cases h
        split <;> omega
      · split at h
        · cases h
          split <;> omega
        · split at h
          · cases h; omega
          · split at h
            · cases h; omega
            · cases h
              have := Int.emod_nonneg (a * b) (b := 10007) (by decide)
              have := Int.emod_lt_of_pos (a * b) (b := 10007) (by decide)
              omega
theorem getD_inR {xs : List Int} (h : ∀ x ∈ xs, inR x) (i : Nat) : inR (xs.getD i 0) := by
  rw [List.getD_eq_getElem?_getD]
  cases e : xs[i]? with
  | none => exact inR0
  | some v => exact h v (List.mem_of_getElem? e)
theorem upI_inR {g : Int → Int} (h : ∀ i, inR (g i)) {k n : Int} (hn : inR n) : ∀ i, inR (upI g k n i) := fun i => by
  unfold upI
  split
  · exact hn
  · exact h i
theorem RV.num_in {r : Row} (h : RV r) (hw : r.w = "num") : inR (r.ps.getD 1 0) := by
  cases h with
  | num _ _ h3 => exact h3
  | bin hx _ _ _ _ =>
    have h1 := (pair_ne hx).2.2.2.1
    dsimp only at hw
    rw [hw] at h1
    exact absurd h1 (by decide +kernel)
  | test t1 t2 t3 t4 t5 t6 t7 => exact absurd hw (by dsimp only; decide +kernel)
  | copy _ _ _ => exact absurd hw (by dsimp only; decide +kernel)
  | nt _ _ _ => exact absurd hw (by dsimp only; decide +kernel)
  | say _ _ => exact absurd hw (by dsimp only; decide +kernel)
  | stop _ _ => exact absurd hw (by dsimp only; decide +kernel)
  | get _ _ _ => exact absurd hw (by dsimp only; decide +kernel)
  | put _ _ _ => exact absurd hw (by dsimp only; decide +kernel)
theorem Mok.change {m : Mst} {r : Row} {xs : List Int} (h : Mok m) (v : RV r) (hx : ∀ x ∈ xs, inR x) : Mok (changeM m r xs) := by
  unfold changeM
  split
  · exact ⟨h.rg, h.cl, h.len⟩
  · split
    · exact ⟨h.rg, h.cl, h.len⟩
    · split
      · split
        · exact ⟨h.rg, h.cl, h.len⟩
        · split
          · exact ⟨upI_inR h.rg (getD_inR h.cl _), h.cl, h.len⟩
          · refine ⟨h.rg, fun n hn => ?_, by rw [List.length_set]; exact h.len⟩
            rcases List.mem_or_eq_of_mem_set hn with h1 | h1
            · exact h.cl n h1
            · rw [h1]; exact getD_inR hx 1
      · split
        · refine ⟨upI_inR h.rg ?_, h.cl, h.len⟩
          split
          · rename_i hw; exact v.num_in hw
          · exact getD_inR hx 0
        · split
          · refine ⟨upI_inR h.rg ?_, h.cl, h.len⟩
            split
            · exact ⟨by decide, by decide⟩
            · exact inR0
          · split
            · exact ⟨h.rg, h.cl, h.len⟩
            · rename_i hz
              exact ⟨upI_inR h.rg (rck_inR (getD_inR hx 0) (getD_inR hx 1) hz), h.cl, h.len⟩
theorem changeM_keep (m : Mst) (r : Row) (xs : List Int) : (changeM m r xs).tests = m.tests ∧ (changeM m r xs).fuel = m.fuel ∧ (changeM m r xs).looked = m.looked ∧ (changeM m r xs).done = m.done ∧ (changeM m r xs).said.length ≤ m.said.length + 1 := by
  unfold changeM
  split
  · refine ⟨rfl, rfl, rfl, rfl, ?_⟩
    show (m.said ++ [_]).length ≤ _
    rw [List.length_append]; exact Nat.le_refl _
  · split
    · exact ⟨rfl, rfl, rfl, rfl, Nat.le_succ _⟩
    · split
      · split
        · exact ⟨rfl, rfl, rfl, rfl, Nat.le_succ _⟩
        · split <;> exact ⟨rfl, rfl, rfl, rfl, Nat.le_succ _⟩
      · split
        · exact ⟨rfl, rfl, rfl, rfl, Nat.le_succ _⟩
        · split
          · exact ⟨rfl, rfl, rfl, rfl, Nat.le_succ _⟩
          · split <;> exact ⟨rfl, rfl, rfl, rfl, Nat.le_succ _⟩
theorem Mok.does {m : Mst} {r : Row} {hold : Bool} {xs : List Int} (h : Mok m) (v : RV r) (hx : ∀ x ∈ xs, inR x) : Mok (doesM m r hold xs) := by
  have h1 : Mok { m with looked := m.looked + 1 } := ⟨h.rg, h.cl, h.len⟩
  have h2 : Mok (midM m r hold xs) := by
    unfold midM
    split
    · exact ⟨h.rg, h.cl, h.len⟩
    · split
      · exact h1.change v hx
      · exact h1
  rw [doesM_mid]
  exact ⟨h2.rg, h2.cl, h2.len⟩
theorem Mok.row {m : Mst} {r : Row} (h : Mok m) (v : RV r) : Mok (rowM m r) := h.does v fun x hx => by
  obtain ⟨i, _, rfl⟩ := List.mem_map.mp hx
  exact h.rg i
/-- fuel, the test 0, how much is said -/
theorem rowM_keep {m : Mst} {r : Row} (v : RV r) : (rowM m r).fuel = m.fuel ∧ (rowM m r).tests 0 = m.tests 0 ∧ (rowM m r).said.length ≤ m.said.length + 1 := by
  unfold rowM
  rw [doesM_mid]
  dsimp only
  unfold midM
  split
  · rename_i hw
    refine ⟨rfl, ?_, Nat.le_succ _⟩
    cases v with
    | test t1 t2 t3 t4 t5 t6 t7 =>
      show upI (upI m.tests _ _) _ _ 0 = _
      rename_i p q a
      show (if (0 : Int) = q then _ else if (0 : Int) = p then _ else m.tests 0) = m.tests 0
      rw [if_neg (by omega), if_neg (by omega)]
    | bin hx _ _ _ _ => exact absurd hw (pair_not_test hx)
    | num _ _ _ => exact absurd hw (by dsimp only; decide +kernel)
    | copy _ _ _ => exact absurd hw (by dsimp only; decide +kernel)
    | nt _ _ _ => exact absurd hw (by dsimp only; decide +kernel)
    | say _ _ => exact absurd hw (by dsimp only; decide +kernel)
    | stop _ _ => exact absurd hw (by dsimp only; decide +kernel)
    | get _ _ _ => exact absurd hw (by dsimp only; decide +kernel)
    | put _ _ _ => exact absurd hw (by dsimp only; decide +kernel)
  · split
    · obtain ⟨k1, k2, k3, k4, k5⟩ := changeM_keep { m with looked := m.looked + 1 } r ((srcOf r.w r.ps).map m.regs)
      exact ⟨k2, by rw [k1], k5⟩
    · exact ⟨rfl, rfl, Nat.le_succ _⟩
/-- rows by turns -/
theorem rowsM_snoc {m : Mst} (h0 : m.fin = none) : ∀ {rs : List Row} {i : Nat} {r : Row}, rs[i]? = some r → (rowsM m (rs.take i)).fin = none → rowsM m (rs.take (i + 1)) = rowM (rowsM m (rs.take i)) r ∧ ((rowM (rowsM m (rs.take i)) r).fin ≠ none → rowsM m rs = rowM (rowsM m (rs.take i)) r)
  | [], _, _, h, _ => by cases h
  | q :: rs, 0, r, h, hf => by
    cases h
    refine ⟨?_, fun hn => ?_⟩
    · show rowsM m [_] = rowM m _
      unfold rowsM
      split <;> rfl
    · show rowsM m (_ :: rs) = rowM m _
      have hn : (rowM m q).fin ≠ none := hn
      unfold rowsM
      split
      · rename_i he; exact absurd he hn
      · rfl
  | q :: rs, i + 1, r, h, hf => by
    have hf : (rowsM m (q :: rs.take i)).fin = none := hf
    show rowsM m (q :: rs.take (i + 1)) = rowM (rowsM m (q :: rs.take i)) r ∧ ((rowM (rowsM m (q :: rs.take i)) r).fin ≠ none → rowsM m (q :: rs) = rowM (rowsM m (q :: rs.take i)) r)
    cases hq : (rowM m q).fin with
    | none =>
      have e : ∀ xs, rowsM m (q :: xs) = rowsM (rowM m q) xs := fun xs => by
        rw [rowsM, hq]
      rw [e, e, e] at *
      exact rowsM_snoc hq h hf
    | some x =>
      have e : rowsM m (q :: rs.take i) = rowM m q := by
        rw [rowsM, hq]
      rw [e, hq] at hf
      cases hf
theorem Mok.rows {rs : List Row} : ∀ {m : Mst}, Mok m → (∀ r ∈ rs, RV r) → Mok (rowsM m rs) := by
  induction rs with
  | nil => exact fun h _ => h
  | cons r rs ih =>
    intro m h hv
    have h1 := h.row (hv r (by simp))
    unfold rowsM
    split
    · exact ih h1 fun q hq => hv q (by simp [hq])
    · exact h1
theorem rowsM_keep {rs : List Row} : ∀ {m : Mst}, (∀ r ∈ rs, RV r) → (rowsM m rs).fuel = m.fuel ∧ (rowsM m rs).tests 0 = m.tests 0 ∧ (rowsM m rs).said.length ≤ m.said.length + rs.length := by
  induction rs with
  | nil => exact fun _ => ⟨rfl, rfl, Nat.le_refl _⟩
  | cons r rs ih =>
    intro m hv
    obtain ⟨k1, k2, k3⟩ := rowM_keep (m := m) (hv r (by simp))
    obtain ⟨j1, j2, j3⟩ := ih (m := rowM m r) fun q hq => hv q (by simp [hq])
    unfold rowsM
    split
    · exact ⟨by rw [j1, k1], by rw [j2, k2], by rw [List.length_cons]; omega⟩
    · exact ⟨k1, k2, by rw [List.length_cons]; omega⟩
/-! a piece -/
def encG (g : Int × Int) : PyData := .tuple [.int g.1, .int g.2]
structure GoesOk (goes : List (Int × Int)) : Prop where
  len : goes.length ≤ 8
  last : ∃ g ∈ goes, g.1 = 0
def goalM (m : Mst) (goes : List (Int × Int)) : Int := (((goes.filter fun g => m.tests g.1).map (·.2)).head?).getD (-1)
def begun (m : Mst) : Mst := { m with tests := fun i => decide (i = 0) }
def wayM (m : Mst) (n g : Int) : Mst × Option Int :=
  if g = -1 then ({ m with fin := some (.worth 0) }, none)
  else if g ≤ n then (if m.fuel = 0 then ({ m with fin := some .long }, none) else ({ m with fuel := m.fuel - 1 }, some g))
  else (m, some g)
def throughM (m : Mst) (n : Int) (rows : List Row) (goes : List (Int × Int)) : Mst × Option Int :=
  match (rowsM (begun m) rows).fin with
  | some _ => (rowsM (begun m) rows, none)
  | none => wayM (rowsM (begun m) rows) n (goalM (rowsM (begun m) rows) goes)
def optV : Option Int → V
  | none => .non
  | some i => .int i
theorem goal_head {m : Mst} {goes : List (Int × Int)} (h : GoesOk goes) (h0 : m.tests 0 = true) : ((goes.filter fun g => m.tests g.1).map (·.2)).head? = some (goalM m goes) := by
  obtain ⟨g, hg, e⟩ := h.last
  have : g ∈ goes.filter fun g => m.tests g.1 := List.mem_filter.mpr ⟨hg, by rw [e, h0]⟩
  unfold goalM
  cases hl : goes.filter fun g => m.tests g.1 with
  | nil => rw [hl] at this; cases this
  | cons a r => rfl
theorem srcOf_map {α β : Type} (f : α → β) (x : Str) (ps : List α) : srcOf x (ps.map f) = (srcOf x ps).map f := by
  unfold srcOf
  split
  · rfl
  · split
    · rfl
    · split
      · rw [List.map_drop]
      · rw [List.map_drop]
end Kt
set_option Elab.async false
set_option linter.all false
set_option maxRecDepth 100000
set_option maxHeartbeats 8000000
namespace Kt
open PySem PySem.Spec PyProof.Rows L2 Tr
theorem dok_nil {d : V} : DOk [] (fun _ => d) d := ⟨List.Pairwise.nil, fun _ h => (nomatch h), fun _ => rfl⟩
theorem dok_tests : DOk (mergeK [] [((Sum.inl 0 : Key), V.bl true)]) (fun i => .bl (decide (i = 0))) (.bl false) := by
  have := (dok_nil (d := .bl false)).put (k := 0) (.bl true) ⟨by decide, by decide⟩
  have e : (fun i : Int => V.bl (decide (i = 0))) = upI (fun _ => V.bl false) 0 (.bl true) := by
    funext i
    unfold upI
    by_cases h : i = 0
    · rw [if_pos h, decide_eq_true h]
    · rw [if_neg h, decide_eq_false h]
  rw [e]
  exact this
theorem MAt.newT {C p t : Addr} {H : Hp} {a : Ad} {m : Mst} {e : V} (h : MAt C H p a m) (ht : H t = none) (he : Im H e (finD m.fin)) :
    MAt C (upd (upd (upd H t (.dK [])) t (.dK (mergeK [] [((Sum.inl 0 : Key), V.bl true)]))) p (.ins C a.dx (mf a.r a.c t m.fuel a.s e m.looked m.done))) p { a with t := t } (begun m) := by
  have ap := h.apart
  rw [upd_upd]
  have s1 : Same H (upd H t (.dK (mergeK [] [((Sum.inl 0 : Key), V.bl true)]))) := same_new ht
  have h' := h.same s1
  have tm : Tx _ (upd (upd H t (.dK (mergeK [] [((Sum.inl 0 : Key), V.bl true)]))) p (.ins C a.dx (mf a.r a.c t m.fuel a.s e m.looked m.done))) := Fr.tx h' (Fr.upd (by simp [Ad.own]))
  obtain ⟨⟨e0, h1, h2⟩, ⟨kr, h3, h4⟩, h5, ⟨kt, h6, h7⟩, h8, h9, h10⟩ := id h
  obtain ⟨⟨e0', g1, g2⟩, ⟨kr', g3, g4⟩, g5, ⟨kt', g6, g7⟩, g8, g9, g10⟩ := id h'
  have pt : p ≠ t := fun z => by subst z; rw [h1] at ht; cases ht
  have rt : a.r ≠ t := fun z => by rw [z, ht] at h3; cases h3
  exact ⟨⟨e, upd_same, (he.mono (tx_same s1)).mono tm⟩, ⟨kr', by rw [upd_ne ap.pr.symm]; exact g3, g4⟩, by rw [upd_ne ap.pc.symm]; exact g5, ⟨_, by rw [upd_ne pt.symm]; exact upd_same, dok_tests⟩, by rw [upd_ne ap.ps.symm]; exact g8, rt, h10⟩
theorem Fr.newT {p t : Addr} {a : Ad} {H H1 H2 : Hp} (ht : H t = none) (f1 : Fr (a.own p) H H1) (f2 : Fr (({ a with t := t } : Ad).own p) H1 H2) : Fr (a.own p) H H2 := fun b o hb hn => f2 b o (f1 b o hb hn) fun hm => by
  have hnt : b ≠ t := fun z => by rw [z, ht] at hb; cases hb
  have := own_not hn
  have hm : b = p ∨ b = a.r ∨ b = a.c ∨ b = t ∨ b = a.s := by simpa [Ad.own] using hm
  rcases hm with h | h | h | h | h
  · exact this.1 h
  · exact this.2.1 h
  · exact this.2.2.1 h
  · exact hnt h
  · exact this.2.2.2.2 h
def regD (m : Mst) : PyData → PyData
  | .int i => .int (m.regs i)
  | d => d
def tstD (m : Mst) : PyData → Bool
  | .tuple [.int i, _] => m.tests i
  | _ => false
def sndG : PyData → PyData
  | .tuple [_, d] => d
  | d => d
theorem comp_regs (m : Mst) (ns : List Int) : comp (fun _ => true) (regD m) (ns.map PyData.int) = (ns.map m.regs).map PyData.int := by
  unfold comp
  rw [List.filter_eq_self.mpr fun _ _ => rfl, List.map_map, List.map_map]
  rfl
theorem comp_goes (m : Mst) (goes : List (Int × Int)) : comp (tstD m) sndG (goes.map encG) = ((goes.filter fun g => m.tests g.1).map (·.2)).map PyData.int := by
  unfold comp
  induction goes with
  | nil => rfl
  | cons g r ih =>
    obtain ⟨t, n⟩ := g
    rw [List.map_cons, List.filter_cons, List.filter_cons]
    have e : tstD m (encG (t, n)) = m.tests t := rfl
    rw [e]
    cases m.tests t with
    | false => exact ih
    | true =>
      show PyData.int n :: _ = PyData.int n :: _
      exact congrArg _ ih
theorem RV.psl {r : Row} (h : RV r) : r.ps.length ≤ 3 := by cases h <;> simp
theorem srcOf_len {α : Type} (x : Str) (ps : List α) : (srcOf x ps).length ≤ ps.length := by
  unfold srcOf
  split
  · exact Nat.zero_le _
  · split
    · exact Nat.le_refl _
    · split <;> (rw [List.length_drop]; omega)
theorem isN_fin (o : Option Ef) : (!isN (finD o)) = o.isSome := by
  match o with
  | none => rfl
  | some (.worth _) => rfl
  | some (.fault _) => rfl
  | some .long => rfl
structure TIn (C : Addr) (H : Hp) (p : Addr) (a : Ad) (m : Mst) (rv gv : V) (rows : List Row) (goes : List (Int × Int)) : Prop where
  M : MAt C H p a m
  ok : Mok m
  fin : m.fin = none
  rs : Im H rv (.tuple (rows.map encR))
  gs : Im H gv (.tuple (goes.map encG))
  rv : ∀ r ∈ rows, RV r
  go : GoesOk goes
  sl : m.said.length + rows.length < 900000
def spThrough (C : Addr) : Sp := fun vs H Q _ => ∃ (p : Addr) (a : Ad) (m : Mst) (n : Int) (rv gv : V) (rows : List Row) (goes : List (Int × Int)), vs = [.ref p, .int n, rv, gv] ∧ TIn C H p a m rv gv rows goes ∧
  ∀ H' t, H t = none → Fr (a.own p) H H' → MAt C H' p { a with t := t } (throughM m n rows goes).1 → Q (optV (throughM m n rows goes).2) H'
section
variable {P : Program} {w : World} {K : PySem.W.Frag} {mg : Str → Option Value} {base : Heap} {cs : Cs}
theorem mc_through (T : Txt w K mg cs) : Mc P w K mg base 4 cs.Machine "through" (spThrough cs.Machine) := by
  obtain ⟨f, fd, F, me⟩ := T.f_Machine_through
  have GD : Mc P w K mg base 3 cs.Machine "does" (spDoes cs.Machine) := mc_does T
  have GH : Mc P w K mg base 1 cs.Machine "held" (spHeld cs.Machine) := mc_held T
  have GO : Mc P w K mg base 1 cs.Machine "holds" (spHolds cs.Machine) := mc_holds T
  have GS : Fc P w K mg base 1 "sources" (spF sourcesF) := fc_sources T
  refine mc_mk T.cl_Machine me F bd_Machine_through sc_Machine_through (fun vs H Q E h => ?_) (fun cdv A outer s H vs Q E hr h => ?_)
  · obtain ⟨p, a, m, n, rv, gv, rows, goes, rfl, _⟩ := h
    rfl
  · obtain ⟨p, a, m, n, rv, gv, rows, goes, rfl, R, q⟩ := h
    have hu := hu_of hr
    have M := R.M
    obtain ⟨⟨e, h1, h2⟩, _⟩ := id M
    -- self.tests = {0: True}
    refine ws_fld (we (pe_disp (pps_cons peW peW pps_nil) rfl rfl (fun z => by cases z) (by decide)) fun t ht => w_int (w_bl ⟨upd_same, [(Sum.inl 0, .bl true)], rfl, (show 1 ≤ 15 by decide), w_v 0 rfl ⟨p, cs.Machine, a.dx, _, rfl, by rw [upd_upd]; exact same_new ht _ _ h1, T.cl_Machine, T.na_Machine_tests, mf_len, ?_⟩⟩))
    rw [mf_pTests]
    have M1 := M.newT ht h2
    have f1 : Fr (a.own p) H (upd (upd (upd H t (.dK [])) t (.dK (mergeK [] [((Sum.inl 0 : Key), V.bl true)]))) p (.ins cs.Machine a.dx (mf a.r a.c t m.fuel a.s e m.looked m.done))) := by
      rw [upd_upd]
      exact (Fr.same (same_new ht)).trans (Fr.upd mem_own.1)
    generalize (upd (upd (upd H t (.dK [])) t (.dK (mergeK [] [((Sum.inl 0 : Key), V.bl true)]))) p (.ins cs.Machine a.dx (mf a.r a.c t m.fuel a.s e m.looked m.done))) = H1 at M1 f1
    have q1 : ∀ H', Fr (a.own p) H H' → MAt cs.Machine H' p { a with t := t } (throughM m n rows goes).1 → Q (optV (throughM m n rows goes).2) H' := fun H' => q H' t ht
    have tx : ∀ {H' : Hp}, Fr (a.own p) H H' → Tx H H' := fun f => Fr.tx M f
    have b0 : (begun m).fin = none := R.fin
    refine ws_for1 (n := 4) sc_Machine_through.nd rfl (sv_tup (dv_v 2 rfl (R.rs.mono (tx f1)))) (fun i σ' H' => (∃ o4 o5, σ' = [some (.ref p), some (.int n), some rv, some gv, o4, o5, none, none, none]) ∧ (rowsM (begun m) (rows.take i)).fin = none ∧ MAt cs.Machine H' p { a with t := t } (rowsM (begun m) (rows.take i)) ∧ Fr (a.own p) H H')
      (fun H' s' => ⟨⟨_, _, rfl⟩, b0, M1.same s', f1.trans (Fr.same s')⟩) (fun i σ' H' H'' ⟨x1, x2, x3, x4⟩ s' => ⟨x1, x2, x3.same s', x4.trans (Fr.same s')⟩) ?_ ?_
    · intro i d v σ' H' hd ⟨⟨o4, o5, eσ⟩, y1, y2, y3⟩ iv
      subst eσ
      rw [List.getElem?_map] at hd
      obtain ⟨r, hr1, rfl⟩ : ∃ r, rows[i]? = some r ∧ encR r = d := by
        cases hx : rows[i]? with
        | none => rw [hx] at hd; cases hd
        | some r => rw [hx] at hd; exact ⟨r, rfl, Option.some.inj hd⟩
      have rvr : RV r := R.rv r (List.mem_of_getElem? hr1)
      obtain ⟨z1, z2⟩ := rowsM_snoc b0 hr1 y1
      generalize em : rowsM (begun m) (rows.take i) = m' at y1 y2 z1 z2
      have ok' : Mok m' := by
        rw [← em]
        exact Mok.rows ⟨R.ok.rg, R.ok.cl, R.ok.len⟩ fun q hq => R.rv q (List.mem_of_mem_take hq)
      have sl' : m'.said.length < 900000 := by
        have := (rowsM_keep (m := begun m) (rs := rows.take i) fun q hq => R.rv q (List.mem_of_mem_take hq)).2.2
        rw [em, List.length_take] at this
        have h3 : (begun m).said = m.said := rfl
        rw [h3] at this
        have := R.sl
        omega
      obtain ⟨⟨e3, g1, g2⟩, _⟩ := id y2
      refine ws_expr (w_mt GD hr (by decide) (w_v 0 rfl ⟨p, a.dx, _, rfl, g1, mf_m.2.1, wa_cons (w_v 4 rfl (wa_cons (w_mt GO hr (by decide) (w_v 0 rfl ⟨p, a.dx, _, rfl, g1, mf_m.2.2.2.2.1, wa_cons (DV.v (v := .int r.t) rfl (dv_ix (dv_v 4 rfl iv) dv_int (atI_nat (j := 0) rfl)) fun H2 s2 => wa_nil ⟨p, _, m', r.t, rfl, y2.same s2, wa_cons ?_⟩)⟩))))⟩))
      have iv2 := iv.mono (tx_same s2)
      have M2 := y2.same s2
      have g12 := s2 _ _ g1
      refine w_lcA1 (n := 5) (fun _ => true) (regD m') rfl sc_Machine_through.nd (blkOk_by (N := N_Machine_through) (sc := defScope s_Machine_through) (by decide +kernel)) (SVt.sv (sv_tup (ds := srcOf r.w (r.ps.map PyData.int)) (dv_c GS hr (by decide) (av_cons (dv_v 4 rfl iv2) av_nil) rfl))) ?_ (fun H3 d v hd t3 iv3 => rfl) (fun H3 d v hd t3 iv3 _ => ?_) ?_
      · have h1 := srcOf_len r.w (r.ps.map PyData.int)
        have h2 := rvr.psl
        rw [List.length_map] at h1
        omega
      · rw [srcOf_map] at hd
        obtain ⟨k, hk, rfl⟩ := List.mem_map.mp hd
        cases im_int iv3
        intro s H0 C cl fp Q' q'
        exact w_mt GH hr (by decide) (w_v 0 rfl ⟨p, a.dx, _, rfl, t3 _ _ g12, mf_m.1, wa_cons (w_v 5 rfl (wa_nil ⟨p, _, m', k, rfl, M2.same t3, q' _ _ (Same.refl _) (.int _)⟩))⟩)
      · intro l ws H3 hl s3 hls iws
        rw [srcOf_map, comp_regs] at iws
        cases iws.of_ints
        have M3 := M2.same s3
        have iv3 := iv2.mono (tx_same s3)
        have hap : l ∉ ({ a with t := t } : Ad).own p := fun hm => by
          obtain ⟨⟨e4, j1, j2⟩, ⟨kr, j3, j4⟩, j5, ⟨kt, j6, j7⟩, j8, j9, j10⟩ := id M2
          have hm : l = p ∨ l = a.r ∨ l = a.c ∨ l = t ∨ l = a.s := by simpa [Ad.own] using hm
          rcases hm with h | h | h | h | h
          · rw [h, j1] at hl; cases hl
          · rw [h, j3] at hl; cases hl
          · rw [h, j5] at hl; cases hl
          · rw [h, j6] at hl; cases hl
          · rw [h, j8] at hl; cases hl
        refine wa_nil ⟨p, _, m', v, r, m'.tests r.t, l, _, rfl, ⟨M3, ok', iv3, rvr, hls, hap, by rw [List.length_map], fun x hx => ?_, sl'⟩, fun H4 f4 M4 => ?_⟩
        · obtain ⟨k, _, rfl⟩ := List.mem_map.mp hx
          exact ok'.rg k
        · have M4 : MAt cs.Machine H4 p { a with t := t } (rowM m' r) := M4
          have f5 : Fr (a.own p) H H4 := Fr.newT ht (y3.trans (Fr.same (s2.trans s3))) f4
          have t5 : Tx H' H4 := (tx_same (s2.trans s3)).trans (Fr.tx M3 f4)
          obtain ⟨⟨e4, k1, k2⟩, _⟩ := id M4
          refine ws_if (t_cmp op_notN (w_attr (w_vv 0 rfl) k1 T.cl_Machine T.na_Machine_end mf_end (w_non ⟨rfl, _, rfl, ?_⟩)))
          rw [im_isN k2, isN_fin]
          cases hfin : (rowM m' r).fin with
          | none =>
            refine iteF (ws_nil (ws_nil ⟨t5, ⟨_, _, rfl⟩, ?_, ?_, f5⟩))
            · rw [z1]; exact hfin
            · rw [z1]; exact M4
          | some x =>
            refine iteT (ws_ret (w_non ?_))
            have e := z2 (by rw [hfin]; exact fun z => by cases z)
            have e2 : throughM m n rows goes = (rowM m' r, none) := by
              unfold throughM
              rw [e, hfin]
            have := q1 H4 f5
            rw [e2] at this
            exact this M4
    · intro σ' H' ⟨⟨o4, o5, eσ⟩, y1, y2, y3⟩
      subst eσ
      rw [List.length_map, List.take_length] at y1 y2
      have e2 : throughM m n rows goes = wayM (rowsM (begun m) rows) n (goalM (rowsM (begun m) rows) goes) := by
        unfold throughM
        rw [y1]
      rw [e2] at q1
      have k0 : (rowsM (begun m) rows).tests 0 = true := by
        rw [(rowsM_keep R.rv).2.1]
        rfl
      generalize em : rowsM (begun m) rows = m' at y1 y2 q1 k0
      have gs := R.gs.mono (tx y3)
      obtain ⟨⟨e3, g1, g2⟩, _⟩ := id y2
      refine ws_set (i := 6) sc_Machine_through.nd (w_ix ix_list (w_lcA2 (n := 7) (m := 8) (tstD m') sndG rfl sc_Machine_through.nd (blkOk_by (N := N_Machine_through) (sc := defScope s_Machine_through) (by decide +kernel)) (SVt.sv (sv_tup (dv_v 3 rfl gs))) (by rw [List.length_map]; have := R.go.len; omega) (fun d hd => ?_) (fun H3 d1 d2 u v hd t3 i1 i2 => ?_) (fun H3 d1 d2 u v hd t3 i1 i2 _ => fun _ _ _ _ _ Q' q' => (dv_v 8 rfl i2).w q') fun l ws H3 hl s3 hls iws => w_int ?_))
      · obtain ⟨g, _, rfl⟩ := List.mem_map.mp hd
        exact ⟨_, _, rfl⟩
      · obtain ⟨g, _, eg⟩ := List.mem_map.mp hd
        cases eg
        cases im_int i1
        intro s H0 C cl fp B qB
        exact t_val (w_mt GO hr (by decide) (w_v 0 rfl ⟨p, a.dx, _, rfl, t3 _ _ g1, mf_m.2.2.2.2.1, wa_cons (w_v 7 rfl (wa_nil ⟨p, _, m', g.1, rfl, y2.same t3, _, rfl, qB _ (Same.refl _)⟩))⟩))
      · rw [comp_goes] at iws
        cases iws.of_ints
        have hg := goal_head R.go k0
        generalize eg : goalM m' goes = g at hg q1
        refine ⟨l, _, 0, .int g, rfl, rfl, SqL.of hls, atI_nat (j := 0) (by rw [List.getElem?_map, ← List.head?_eq_getElem?, hg]; rfl), ?_⟩
        have M3 := y2.same s3
        have f3 := y3.trans (Fr.same s3)
        have endd : ∀ (H3 : Hp), Fr (a.own p) H H3 → ∀ (ef : Ef) (e' : V), MAt cs.Machine H3 p { a with t := t } m' → Im H3 e' (finD (some ef)) → ∃ e0, H3 p = some (.ins cs.Machine a.dx (mf a.r a.c t m'.fuel a.s e0 m'.looked m'.done)) ∧ Fr (a.own p) H (upd H3 p (.ins cs.Machine a.dx (mf a.r a.c t m'.fuel a.s e' m'.looked m'.done))) ∧ MAt cs.Machine (upd H3 p (.ins cs.Machine a.dx (mf a.r a.c t m'.fuel a.s e' m'.looked m'.done))) p { a with t := t } { m' with fin := some ef } := by
          intro H3 f3 ef e' M3 he
          obtain ⟨⟨e3, k1, k2⟩, _⟩ := id M3
          exact ⟨e3, k1, f3.trans (Fr.upd mem_own.1), M3.obj (fin := some ef) he⟩
        refine ws_ifD (tv_eqI (dv_v 6 rfl (.int g)) dv_neg) (fun h H4 s4 => ?_) (fun h H4 s4 => ?_)
        · have hg1 : g = -1 := of_decide_eq_true h
          refine ws_fld (DV.w (dv_tup (av_cons dv_str (av_cons dv_int av_nil)) (by decide)) fun v H5 s5 iv => w_v 0 rfl ?_)
          obtain ⟨e0, k1, k2, k3⟩ := endd H5 (f3.trans (Fr.same (s4.trans s5))) (.worth 0) v (M3.same (s4.trans s5)) iv
          refine ⟨p, cs.Machine, a.dx, _, rfl, k1, T.cl_Machine, T.na_Machine_end, mf_len, ?_⟩
          rw [mf_pEnd]
          refine ws_ret (w_non ?_)
          have := q1 _ k2
          unfold wayM at this
          rw [if_pos hg1] at this
          exact this k3
        · have hg1 : ¬ g = -1 := of_decide_eq_false h
          refine ws_nil (ws_ifD (tv_le (dv_v 6 rfl (.int g)) (dv_v 1 rfl (.int n))) (fun h H5 s5 => ?_) (fun h H5 s5 => ?_))
          · have hg2 : g ≤ n := of_decide_eq_true h
            have M5 := M3.same (s4.trans s5)
            have f5 := f3.trans (Fr.same (s4.trans s5))
            obtain ⟨⟨e5, k1, k2⟩, _⟩ := id M5
            refine ws_if (t_cmp op_eq (w_attr (w_vv 0 rfl) k1 T.cl_Machine T.na_Machine_fuel mf_fuel (w_int ⟨rfl, _, rfl, ?_⟩)))
            rw [decI]
            refine ite2 (fun h => ?_) (fun h => ?_)
            · have hf0 : m'.fuel = 0 := of_decide_eq_true h
              refine ws_fld (DV.w (dv_tup (av_cons dv_str av_nil) (by decide)) fun v H6 s6 iv => w_v 0 rfl ?_)
              obtain ⟨e0, k1, k2, k3⟩ := endd H6 (f5.trans (Fr.same s6)) .long v (M5.same s6) iv
              refine ⟨p, cs.Machine, a.dx, _, rfl, k1, T.cl_Machine, T.na_Machine_end, mf_len, ?_⟩
              rw [mf_pEnd]
              refine ws_ret (w_non ?_)
              have := q1 _ k2
              unfold wayM at this
              rw [if_neg hg1, if_pos hg2, if_pos hf0] at this
              exact this k3
            · have hf0 : ¬ m'.fuel = 0 := fun z => h (decide_eq_true z)
              refine ws_nil (ws_fld (w_op op_sub (w_attr (w_vv 0 rfl) k1 T.cl_Machine T.na_Machine_fuel mf_fuel (w_int ⟨m'.fuel, 1, rfl, rfl, w_v 0 rfl ⟨p, cs.Machine, a.dx, _, rfl, k1, T.cl_Machine, T.na_Machine_fuel, mf_len, ?_⟩⟩))))
              rw [mf_pFuel]
              refine ws_nil (ws_ret (w_v 6 rfl ?_))
              have := q1 _ (f5.trans (Fr.upd (o := .ins cs.Machine a.dx (mf a.r a.c t (m'.fuel - 1) a.s e5 m'.looked m'.done)) mem_own.1))
              unfold wayM at this
              rw [if_neg hg1, if_pos hg2, if_neg hf0] at this
              exact this (M5.obj (fin := m'.fin) k2)
          · have hg2 : ¬ g ≤ n := of_decide_eq_false h
            refine ws_nil (ws_ret (w_v 6 rfl ?_))
            have := q1 _ (f3.trans (Fr.same (s4.trans s5)))
            unfold wayM at this
            rw [if_neg hg1, if_neg hg2] at this
            exact this (M3.same (s4.trans s5))
end
end Kt
set_option Elab.async false
set_option linter.all false
set_option maxRecDepth 100000
set_option maxHeartbeats 8000000
namespace Kt
open PySem PySem.Spec PyProof.Rows L2 Tr
def initM (ns : List Int) (fuel : Int) : Mst := ⟨fun j => if 0 ≤ j then ns.getD j.toNat 0 else 0, List.replicate 16 0, fun i => decide (i = 0), fuel, [], none, 0, 0⟩
theorem initM_ok {ns : List Int} {fuel : Int} (h : ∀ n ∈ ns, inR n) : Mok (initM ns fuel) := by
  refine ⟨fun j => ?_, fun n hn => ?_, List.length_replicate ..⟩
  · show inR (if 0 ≤ j then ns.getD j.toNat 0 else 0)
    split
    · exact getD_inR h _
    · exact inR0
  · rw [(List.mem_replicate.mp hn).2]
    exact inR0
/-- an object under way, with what it owns -/
structure Bt (C dx p : Addr) (H H' : Hp) (fs : List (Str × V)) (own : List (Addr × HO)) : Prop where
  hp : H' p = some (.ins C dx fs)
  ow : ∀ x ∈ own, H' x.1 = some x.2 ∧ x.1 ≠ p ∧ H x.1 = none
  nd : (own.map (·.1)).Nodup
  fr : Fr [p] H H'
section
variable {C dx p : Addr} {H H' H'' : Hp} {fs fs' : List (Str × V)} {own : List (Addr × HO)}
theorem Bt.put (h : Bt C dx p H H' fs own) : Bt C dx p H (upd H' p (.ins C dx fs')) fs' own :=
  ⟨upd_same, fun x hx => ⟨by rw [upd_ne (h.ow x hx).2.1]; exact (h.ow x hx).1, (h.ow x hx).2⟩, h.nd, h.fr.trans (Fr.upd (by simp))⟩
theorem Bt.same (h : Bt C dx p H H' fs own) (s : Same H' H'') : Bt C dx p H H'' fs own :=
  ⟨s _ _ h.hp, fun x hx => ⟨s _ _ (h.ow x hx).1, (h.ow x hx).2⟩, h.nd, h.fr.trans (Fr.same s)⟩
theorem Bt.new {x : Addr} {o : HO} (h : Bt C dx p H H' fs own) (hx : H' x = none) : Bt C dx p H (upd H' x o) fs ((x, o) :: own) := by
  have xp : x ≠ p := fun z => by rw [z, h.hp] at hx; cases hx
  have h2 := h.same (same_new (o := o) hx)
  refine ⟨h2.hp, fun y hy => ?_, ?_, h2.fr⟩
  · rcases List.mem_cons.mp hy with rfl | hy
    · refine ⟨upd_same, xp, ?_⟩
      cases e : H x with
      | none => rfl
      | some u =>
        have := h.fr x u e (by simpa using xp)
        rw [hx] at this
        cases this
    · exact h2.ow y hy
  · rw [List.map_cons]
    refine List.nodup_cons.mpr ⟨fun hm => ?_, h.nd⟩
    obtain ⟨y, hy, e⟩ := List.mem_map.mp hm
    have := (h.ow y hy).1
    rw [e, hx] at this
    cases this
theorem Bt.set {x : Addr} {o o' : HO} (h : Bt C dx p H H' fs ((x, o) :: own)) : Bt C dx p H (upd H' x o') fs ((x, o') :: own) := by
  have hx := h.ow (x, o) (by simp)
  refine ⟨by rw [upd_ne hx.2.1.symm]; exact h.hp, fun y hy => ?_, h.nd, fun b u hb hn => ?_⟩
  · rcases List.mem_cons.mp hy with rfl | hy
    · exact ⟨upd_same, hx.2⟩
    · have := h.ow y (by simp [hy])
      refine ⟨?_, this.2⟩
      rw [upd_ne fun z => ?_]
      · exact this.1
      · have hn := h.nd
        rw [List.map_cons] at hn
        exact (List.nodup_cons.mp hn).1 (List.mem_map.mpr ⟨y, hy, z⟩)
  · rw [upd_ne fun z => by rw [z, hx.2.2] at hb; cases hb]
    exact h.fr b u hb hn
end
def spInit (C : Addr) : Sp := fun vs H Q _ => ∃ (p dx l : Addr) (ns : List Int) (fuel : Int), vs = [.ref p, .ref l, .int fuel] ∧ H p = some (.ins C dx []) ∧ H l = some (.lst (ns.map V.int)) ∧ ns.length ≤ 3 ∧
  ∀ H' a, a.dx = dx → H a.r = none → H a.c = none → H a.t = none → H a.s = none → Fr [p] H H' → MAt C H' p a (initM ns fuel) → Q .non H'
theorem enum_int (ns : List Int) (i : Nat) (d1 d2 : PyData) (h : (enumD 0 (ns.map PyData.int))[i]? = some (.tuple [d1, d2])) : ∃ n, ns[i]? = some n ∧ d1 = .int (i : Int) ∧ d2 = .int n := by
  have hi : i < ns.length := by
    have := (List.getElem?_eq_some_iff.mp h).1
    rw [enumD_len, List.length_map] at this
    exact this
  have := enumD_get 0 (ns.map PyData.int) i (.int ns[i]) (by rw [List.getElem?_map, List.getElem?_eq_getElem hi]; rfl)
  rw [this] at h
  cases h
  exact ⟨_, List.getElem?_eq_getElem hi, by rw [Int.zero_add], rfl⟩
theorem enum_pair (ns : List Int) : ∀ d ∈ enumD 0 (ns.map PyData.int), ∃ u v, d = .tuple [u, v] := by
  have : ∀ (ds : List PyData) (k : Int), ∀ d ∈ enumD k ds, ∃ u v, d = .tuple [u, v] := by
    intro ds
    induction ds with
    | nil => intro k d h; cases h
    | cons x r ih =>
      intro k d h
      rcases List.mem_cons.mp h with rfl | h
      · exact ⟨_, _, rfl⟩
      · exact ih _ d h
  exact this _ 0
/-- the registers behind i turns -/
def regsI (ns : List Int) (i : Nat) : Int → Int := fun j => if 0 ≤ j ∧ j < i then ns.getD j.toNat 0 else 0
theorem regsI_snoc {ns : List Int} {i : Nat} {n : Int} (h : ns[i]? = some n) : (fun j => V.int (regsI ns (i + 1) j)) = upI (fun j => V.int (regsI ns i j)) (i : Int) (.int n) := by
  funext j
  unfold upI regsI
  by_cases e : j = (i : Int)
  · subst e
    rw [if_pos rfl, if_pos ⟨by omega, by omega⟩, Int.toNat_natCast, List.getD_eq_getElem?_getD, h]
    rfl
  · rw [if_neg e]
    dsimp only
    by_cases e2 : 0 ≤ j ∧ j < i
    · rw [if_pos e2, if_pos ⟨e2.1, by omega⟩]
    · rw [if_neg e2, if_neg (fun z => e2 ⟨z.1, by omega⟩)]
theorem regsI_end (ns : List Int) (fuel : Int) : (fun j => V.int (regsI ns ns.length j)) = fun j => V.int ((initM ns fuel).regs j) := by
  funext j
  show V.int (regsI ns ns.length j) = V.int (if 0 ≤ j then ns.getD j.toNat 0 else 0)
  unfold regsI
  by_cases h : 0 ≤ j
  · rw [if_pos h]
    by_cases h2 : j < ns.length
    · rw [if_pos ⟨h, h2⟩]
    · rw [if_neg (fun z => h2 z.2), List.getD_eq_getElem?_getD, List.getElem?_eq_none (by omega)]
      rfl
  · rw [if_neg h, if_neg (fun z => h z.1)]
section
variable {r c t s : Addr} {e : V} {fuel lk dn : Int}
abbrev fl1 (r : Addr) : List (Str × V) := [("registers", .ref r)]
abbrev fl2 (r : Addr) (c : Addr) : List (Str × V) := [("registers", .ref r), ("cells", .ref c)]
abbrev fl3 (r : Addr) (c : Addr) (t : Addr) : List (Str × V) := [("registers", .ref r), ("cells", .ref c), ("tests", .ref t)]
abbrev fl4 (r : Addr) (c : Addr) (t : Addr) (fuel : Int) : List (Str × V) := [("registers", .ref r), ("cells", .ref c), ("tests", .ref t), ("fuel", .int fuel)]
abbrev fl5 (r : Addr) (c : Addr) (t : Addr) (fuel : Int) (s : Addr) : List (Str × V) := [("registers", .ref r), ("cells", .ref c), ("tests", .ref t), ("fuel", .int fuel), ("said", .ref s)]
abbrev fl6 (r : Addr) (c : Addr) (t : Addr) (fuel : Int) (s : Addr) : List (Str × V) := [("registers", .ref r), ("cells", .ref c), ("tests", .ref t), ("fuel", .int fuel), ("said", .ref s), ("end", .non)]
abbrev fl7 (r : Addr) (c : Addr) (t : Addr) (fuel : Int) (s : Addr) (lk : Int) : List (Str × V) := [("registers", .ref r), ("cells", .ref c), ("tests", .ref t), ("fuel", .int fuel), ("said", .ref s), ("end", .non), ("looked", .int lk)]
theorem pf1 : putF "registers" (.ref r) [] = (fl1 r) := by kernel_rfl
theorem pf2 : putF "cells" (.ref c) (fl1 r) = (fl2 r c) := by kernel_rfl
theorem pf3 : putF "tests" (.ref t) (fl2 r c) = (fl3 r c t) := by kernel_rfl
theorem pf4 : putF "fuel" (.int fuel) (fl3 r c t) = (fl4 r c t fuel) := by kernel_rfl
theorem pf5 : putF "said" (.ref s) (fl4 r c t fuel) = (fl5 r c t fuel s) := by kernel_rfl
theorem pf6 : putF "end" .non (fl5 r c t fuel s) = (fl6 r c t fuel s) := by kernel_rfl
theorem pf7 : putF "looked" (.int lk) (fl6 r c t fuel s) = (fl7 r c t fuel s lk) := by kernel_rfl
theorem pf8 : putF "done" (.int dn) (fl7 r c t fuel s lk) = mf r c t fuel s .non lk dn := by kernel_rfl
end
section
variable {P : Program} {w : World} {K : PySem.W.Frag} {mg : Str → Option Value} {base : Heap} {cs : Cs}
theorem kc_Machine (T : Txt w K mg cs) : Kc P w K mg base 1 "Machine" cs.Machine (spInit cs.Machine) := by
  obtain ⟨f, fd, F, M⟩ := T.f_Machine_init
  have g := T.k_Machine
  obtain ⟨tk1, c1⟩ := T.c_CELLS
  have b1 := T.b_enumerate
  refine kc_mk M g F bd_Machine_init sc_Machine_init (fun vs H Q E h => ?_) (fun cdv A outer s H vs Q E hr h => ?_)
  · obtain ⟨p, dx, l, ns, fuel, rfl, _⟩ := h
    rfl
  · obtain ⟨p, dx, l, ns, fuel, rfl, h1, h2, h3, q⟩ := h
    have hu := hu_of hr
    have B0 : Bt cs.Machine dx p H H [] [] := ⟨h1, fun _ h => (nomatch h), List.Pairwise.nil, Fr.refl _ _⟩
    have lp : l ≠ p := fun z => by rw [z, h1] at h2; cases h2
    refine ws_fld (we pe_dnewK fun r hr0 => w_v 0 rfl ⟨p, cs.Machine, dx, _, rfl, same_new hr0 _ _ h1, T.cl_Machine, T.na_Machine_registers, (by decide), ?_⟩)
    rw [pf1]
    have B1 := (B0.new (o := .dK []) hr0).put (fs' := (fl1 r))
    generalize (upd (upd H r (.dK [])) p (.ins cs.Machine dx (fl1 r))) = H1 at B1
    refine ws_forJ2 (n := 3) (m := 4) sc_Machine_init.nd rfl (sv_enL b1 (w_vv 1 rfl) (B1.fr _ _ h2 (by simpa using lp)) (ImAll.ints ns)) (enum_pair ns) (fun i σ' H' => (∃ o3 o4, σ' = [some (.ref p), some (.ref l), some (.int fuel), o3, o4]) ∧ ∃ kr, DOk kr (fun j => .int (regsI ns i j)) (.int 0) ∧ Bt cs.Machine dx p H H' (fl1 r) [(r, .dK kr)])
      (fun H' s' => ⟨⟨_, _, rfl⟩, [], ?_, B1.same s'⟩) (fun i σ' H' H'' ⟨x1, kr, x2, x3⟩ s' => ⟨x1, kr, x2, x3.same s'⟩) (fun i σ' H' ⟨x1, kr, x2, x3⟩ => x3.fr _ _ h2 (by simpa using lp)) ?_ ?_
    · have e : (fun j => V.int (regsI ns 0 j)) = fun _ => V.int 0 := by
        funext j
        unfold regsI
        rw [if_neg (fun z => by omega)]
      rw [e]
      exact dok_nil
    · intro i d1 d2 u v σ' H' hd ⟨⟨o3, o4, eσ⟩, kr, dk, B⟩ i1 i2
      subst eσ
      obtain ⟨n, hn, rfl, rfl⟩ := enum_int ns i d1 d2 hd
      cases im_int i1
      cases im_int i2
      have hi := (List.getElem?_eq_some_iff.mp hn).1
      have ow := B.ow (r, .dK kr) (by simp)
      refine ws_dput hu (w_v 4 rfl (w_attr (w_vv 0 rfl) B.hp T.cl_Machine T.na_Machine_registers (by kernel_rfl : List.lookup ("registers" : Str) (fl1 r) = some (V.ref r)) (w_v 3 rfl ⟨r, _, rfl, DPut.k (k := Sum.inl (i : Int)) ow.1 (Nat.lt_of_le_of_lt dk.len (by decide)), ?_⟩)))
      refine ws_nil ⟨tx_mut (Tx.refl _) (fun xs z => by rw [ow.1] at z; cases z), ⟨_, _, rfl⟩, _, ?_, B.set⟩
      rw [regsI_snoc hn]
      exact dk.put _ ⟨by omega, by omega⟩
    · intro σ' H' ⟨⟨o3, o4, eσ⟩, kr, dk, B2⟩
      subst eσ
      rw [enumD_len, List.length_map, regsI_end ns fuel] at dk
      -- self.cells = [0] * CELLS
      refine ws_fld (w_op op_rep (w_lst (wa_cons (w_int (wa_nil ⟨(show 1 ≤ sizeLine by decide), fun x hx => w_glob (v := .int 16) c1 ⟨_, rfl⟩ ⟨x, 16, [.int 0], rfl, rfl, upd_same, by decide, by decide, (by decide), fun c hc => w_v 0 rfl ?_⟩⟩)))))
      have B3 := (B2.same (same_new (o := .lst [.int 0]) hx)).new (o := .lst (List.replicate (16 : Int).toNat [V.int 0]).flatten) hc
      refine ⟨p, cs.Machine, dx, _, rfl, B3.hp, T.cl_Machine, T.na_Machine_cells, (by decide : (1 : Nat) < 1000), ?_⟩
      rw [pf2]
      have B4 := B3.put (fs' := (fl2 r c))
      generalize (upd (upd (upd H' x (.lst [.int 0])) c (.lst (List.replicate (16 : Int).toNat [V.int 0]).flatten)) p (.ins cs.Machine dx (fl2 r c))) = H3 at B4
      -- self.tests = {0: True}
      refine ws_fld (we (pe_disp (pps_cons peW peW pps_nil) rfl rfl (fun z => by cases z) (by decide)) fun t ht => w_int (w_bl ⟨upd_same, [(Sum.inl 0, .bl true)], rfl, (show 1 ≤ 15 by decide), w_v 0 rfl ?_⟩))
      have B5 := (B4.new (o := .dK []) ht).set (o' := .dK (mergeK [] [((Sum.inl 0 : Key), V.bl true)]))
      refine ⟨p, cs.Machine, dx, _, rfl, B5.hp, T.cl_Machine, T.na_Machine_tests, (by decide : (2 : Nat) < 1000), ?_⟩
      rw [pf3]
      have B6 := B5.put (fs' := (fl3 r c t))
      generalize (upd (upd (upd H3 t (.dK [])) t (.dK (mergeK [] [((Sum.inl 0 : Key), V.bl true)]))) p (.ins cs.Machine dx (fl3 r c t))) = H4 at B6
      refine ws_fld (w_v 2 rfl (w_v 0 rfl ⟨p, cs.Machine, dx, _, rfl, B6.hp, T.cl_Machine, T.na_Machine_fuel, (by decide : (3 : Nat) < 1000), ?_⟩))
      rw [pf4]
      have B7 := B6.put (fs' := (fl4 r c t fuel))
      generalize (upd H4 p (.ins cs.Machine dx (fl4 r c t fuel))) = H5 at B7
      refine ws_fld (w_lst (wa_nil ⟨Nat.zero_le _, fun s0 hs0 => w_v 0 rfl ?_⟩))
      have B8 := B7.new (o := .lst []) hs0
      refine ⟨p, cs.Machine, dx, _, rfl, B8.hp, T.cl_Machine, T.na_Machine_said, (by decide : (4 : Nat) < 1000), ?_⟩
      rw [pf5]
      have B9 := B8.put (fs' := (fl5 r c t fuel s0))
      generalize (upd (upd H5 s0 (.lst [])) p (.ins cs.Machine dx (fl5 r c t fuel s0))) = H6 at B9
      refine ws_fld (w_non (w_v 0 rfl ⟨p, cs.Machine, dx, _, rfl, B9.hp, T.cl_Machine, T.na_Machine_end, (by decide : (5 : Nat) < 1000), ?_⟩))
      rw [pf6]
      have B10 := B9.put (fs' := (fl6 r c t fuel s0))
      generalize (upd H6 p (.ins cs.Machine dx (fl6 r c t fuel s0))) = H7 at B10
      refine ws_fld (w_int (w_v 0 rfl ⟨p, cs.Machine, dx, _, rfl, B10.hp, T.cl_Machine, T.na_Machine_looked, (by decide : (6 : Nat) < 1000), ?_⟩))
      rw [pf7]
      have B11 := B10.put (fs' := (fl7 r c t fuel s0 0))
      generalize (upd H7 p (.ins cs.Machine dx (fl7 r c t fuel s0 0))) = H8 at B11
      refine ws_fld (w_int (w_v 0 rfl ⟨p, cs.Machine, dx, _, rfl, B11.hp, T.cl_Machine, T.na_Machine_done, (by decide : (7 : Nat) < 1000), ?_⟩))
      rw [pf8]
      have B12 := B11.put (fs' := mf r c t fuel s0 .non 0 0)
      generalize (upd H8 p (.ins cs.Machine dx (mf r c t fuel s0 .non 0 0))) = H9 at B12
      have o1 := B12.ow (s0, .lst []) (by simp)
      have o2 := B12.ow (t, .dK (mergeK [] [((Sum.inl 0 : Key), V.bl true)])) (by simp)
      have o3 := B12.ow (c, .lst (List.replicate (16 : Int).toNat [V.int 0]).flatten) (by simp)
      have o4 := B12.ow (r, .dK kr) (by simp)
      have nd := B12.nd
      have nd2 : r ≠ t ∧ c ≠ s0 := by
        have hs : (s0 ≠ t ∧ s0 ≠ c ∧ s0 ≠ r) ∧ (t ≠ c ∧ t ≠ r) ∧ c ≠ r := by simpa using nd
        exact ⟨hs.2.1.2.symm, hs.1.2.1.symm⟩
      exact ws_nil (q H9 ⟨dx, r, c, t, s0⟩ rfl o4.2.2 o3.2.2 o2.2.2 o1.2.2 B12.fr ⟨⟨.non, B12.hp, .non⟩, ⟨kr, o4.1, dk⟩, o3.1, ⟨_, o2.1, dok_tests⟩, o1.1, nd2.1, nd2.2⟩)
end
end Kt
set_option Elab.async false
set_option linter.all false
set_option maxRecDepth 100000
set_option maxHeartbeats 8000000
namespace Kt
open PySem PySem.Spec PyProof.Rows L2 Tr
abbrev Pc : Type := List Row × List (Int × Int)
def encP (q : Pc) : PyData := .tuple [.tuple (q.1.map encR), .tuple (q.2.map encG)]
def encT (ins nm : Int) (ps : List Pc) : PyData := .tuple [.int ins, .int nm, .tuple (ps.map encP)]
structure GoV (many : Nat) (goes : List (Int × Int)) : Prop where
  l1 : 1 ≤ goes.length
  l2 : goes.length ≤ 8
  g : ∀ g ∈ goes, rg g.1 ∧ -1 ≤ g.2 ∧ g.2 < many
  last : ∃ n, goes.getLast? = some (0, n)
structure PsOk (ps : List Pc) : Prop where
  n1 : 1 ≤ ps.length
  n2 : ps.length ≤ 999
  rl : ∀ q ∈ ps, q.1.length ≤ 1500
  rv : ∀ q ∈ ps, ∀ r ∈ q.1, RV r
  gv : ∀ q ∈ ps, GoV ps.length q.2
theorem GoV.ok {many : Nat} {goes : List (Int × Int)} (h : GoV many goes) : GoesOk goes := by
  obtain ⟨n, hn⟩ := h.last
  exact ⟨h.l2, (0, n), List.mem_of_getLast? hn, rfl⟩
/-! data's shape -/
def sml (k : Nat) (d : PyData) : Prop := d.canLay0 = true ∧ d.depth ≤ k
theorem sml_int {k : Nat} (i : Int) : sml k (.int i) := ⟨rfl, Nat.zero_le _⟩
theorem sml_str {k : Nat} {i : Str} (h : PyData.canLay0 (.str i) = true) : sml k (.str i) := ⟨h, Nat.zero_le _⟩
theorem RV.wok {r : Row} (h : RV r) : PyData.canLay0 (.str r.w) = true := by
  cases h with
  | bin hx _ _ _ _ =>
    dsimp only
    rcases pairs_cases hx with h | h | h | h | h | h | h <;> (rw [h]; decide +kernel)
  | num _ _ _ => dsimp only; decide +kernel
  | copy _ _ _ => dsimp only; decide +kernel
  | nt _ _ _ => dsimp only; decide +kernel
  | get _ _ _ => dsimp only; decide +kernel
  | put _ _ _ => dsimp only; decide +kernel
  | say _ _ => dsimp only; decide +kernel
  | stop _ _ => dsimp only; decide +kernel
  | test _ _ _ _ _ _ _ => dsimp only; decide +kernel
theorem sml_tup {k : Nat} {ds : List PyData} (h : ∀ d ∈ ds, sml k d) : sml (k + 1) (.tuple ds) := by
  refine ⟨?_, ?_⟩
  · have := canAll.mpr fun d hd => (h d hd).1
    exact this
  · have := depAll.mpr fun d hd => (h d hd).2
    show PyData.depthAll ds + 1 ≤ k + 1
    omega
theorem sml.ok {k : Nat} {d : PyData} (h : sml k d) (hk : k ≤ 60) : okD d = true := by
  unfold okD
  rw [h.1, decide_eq_true (Nat.le_trans h.2 hk)]
  rfl
theorem sml_row {r : Row} (h : RV r) : sml 1 (encR r) := sml_tup fun d hd => by
  rcases List.mem_cons.mp hd with rfl | hd
  · exact sml_int _
  · rcases List.mem_cons.mp hd with rfl | hd
    · exact sml_str h.wok
    · obtain ⟨i, _, rfl⟩ := List.mem_map.mp hd
      exact sml_int _
theorem sml_go (g : Int × Int) : sml 1 (encG g) := sml_tup fun d hd => by
  rcases List.mem_cons.mp hd with rfl | hd
  · exact sml_int _
  · rcases List.mem_cons.mp hd with rfl | hd
    · exact sml_int _
    · cases hd
theorem sml_pc {q : Pc} (h : ∀ r ∈ q.1, RV r) : sml 3 (encP q) := sml_tup fun d hd => by
  rcases List.mem_cons.mp hd with rfl | hd
  · exact sml_tup fun d hd => by
      obtain ⟨r, hr, rfl⟩ := List.mem_map.mp hd
      exact sml_row (h r hr)
  · rcases List.mem_cons.mp hd with rfl | hd
    · exact sml_tup fun d hd => by
        obtain ⟨r, _, rfl⟩ := List.mem_map.mp hd
        exact sml_go r
    · cases hd
theorem sml_tested (ins nm : Int) {ps : List Pc} (h : ∀ q ∈ ps, ∀ r ∈ q.1, RV r) : sml 5 (encT ins nm ps) := sml_tup fun d hd => by
  rcases List.mem_cons.mp hd with rfl | hd
  · exact sml_int _
  · rcases List.mem_cons.mp hd with rfl | hd
    · exact sml_int _
    · rcases List.mem_cons.mp hd with rfl | hd
      · exact sml_tup fun d hd => by
          obtain ⟨r, hr, rfl⟩ := List.mem_map.mp hd
          exact sml_pc (h r hr)
      · cases hd
theorem goes_ok {many : Nat} {goes : List (Int × Int)} (h : GoV many goes) : areGoesD (many : Int) (.tuple (goes.map encG)) = true := by
  show ((decide ((1 : Int) ≤ ((goes.map encG).length : Int)) && decide (((goes.map encG).length : Int) ≤ 8)) && ((goes.map encG).all (goOk (many : Int)) && lastZero (goes.map encG))) = true
  have e1 : (goes.map encG).all (goOk (many : Int)) = true := List.all_eq_true.mpr fun d hd => by
    obtain ⟨g, hg, rfl⟩ := List.mem_map.mp hd
    obtain ⟨h1, h2, h3⟩ := h.g g hg
    show (isNum (.int g.1) 0 1999 && isNum (.int g.2) (-1) ((many : Int) - 1)) = true
    rw [isNum_i.mpr h1, isNum_i.mpr ⟨h2, by omega⟩]
    rfl
  have e2 : lastZero (goes.map encG) = true := by
    obtain ⟨n, hn⟩ := h.last
    unfold lastZero
    rw [List.getLast?_map, hn]
    rfl
  have h1 := h.l1
  have h2 := h.l2
  rw [e1, e2, List.length_map, decide_eq_true (by omega), decide_eq_true (by omega)]
  rfl
theorem piece_ok {many : Nat} {q : Pc} (h1 : q.1.length ≤ 1500) (h2 : ∀ r ∈ q.1, RV r) (h3 : GoV many q.2) : pieceOk (many : Int) (encP q) = true := by
  show (decide ((q.1.map encR).length ≤ 1500) && ((q.1.map encR).all isRowD && areGoesD (many : Int) (.tuple (q.2.map encG)))) = true
  rw [goes_ok h3, List.length_map, decide_eq_true h1, List.all_eq_true.mpr fun d hd => by
    obtain ⟨r, hr, rfl⟩ := List.mem_map.mp hd
    exact (h2 r hr).ok]
  rfl
theorem tested_ok {ins nm : Int} {ps : List Pc} (h : PsOk ps) (i1 : 0 ≤ ins) (i2 : ins ≤ 3) (i3 : ins ≤ nm) (i4 : nm ≤ 99) : needTestedF [encT ins nm ps] = some .none := by
  have e : testedOk (encT ins nm ps) = true := by
    show (((decide (0 ≤ ins) && decide (ins ≤ 3)) && (decide (ins ≤ nm) && decide (nm ≤ 99))) && ((decide (1 ≤ (ps.map encP).length) && decide ((ps.map encP).length ≤ 999)) && (ps.map encP).all (pieceOk ((ps.map encP).length : Int)))) = true
    rw [List.length_map, decide_eq_true i1, decide_eq_true i2, decide_eq_true i3, decide_eq_true i4, decide_eq_true h.n1, decide_eq_true h.n2, List.all_eq_true.mpr fun d hd => by
      obtain ⟨q, hq, rfl⟩ := List.mem_map.mp hd
      exact piece_ok (h.rl q hq) (h.rv q hq) (h.gv q hq)]
    rfl
  show (if okD (encT ins nm ps) && testedOk (encT ins nm ps) then some PyData.none else none) = some .none
  rw [(sml_tested ins nm h.rv).ok (by decide), e]
  rfl
/-! gone -/
inductive Gone (ps : List Pc) : Nat → Mst → Option Int → Mst → Prop
  | fin {m : Mst} : Gone ps 0 m none m
  | step {k n : Nat} {m m' : Mst} {q : Pc} : ps[n]? = some q → m.said.length + q.1.length < 900000 → Gone ps k (throughM m n q.1 q.2).1 (throughM m n q.1 q.2).2 m' → Gone ps (k + 1) m (some n) m'
theorem through_none {m : Mst} {n : Int} {rows : List Row} {goes : List (Int × Int)} {i : Int} (h : (throughM m n rows goes).2 = some i) : (throughM m n rows goes).1.fin = none := by
  unfold throughM at h ⊢
  split
  · rename_i e
    rw [e] at h
    cases h
  · rename_i e
    rw [e] at h
    unfold wayM at h ⊢
    dsimp only at h
    split
    · rename_i e2; rw [if_pos e2] at h; cases h
    · rename_i e2
      rw [if_neg e2] at h
      split
      · rename_i e3
        rw [if_pos e3] at h
        split
        · rename_i e4; rw [if_pos e4] at h; cases h
        · exact e
      · exact e
theorem Mok.through {m : Mst} {n : Int} {rows : List Row} {goes : List (Int × Int)} (h : Mok m) (hv : ∀ r ∈ rows, RV r) : Mok (throughM m n rows goes).1 := by
  have h1 : Mok (rowsM (begun m) rows) := Mok.rows ⟨h.rg, h.cl, h.len⟩ hv
  unfold throughM
  split
  · exact h1
  · unfold wayM
    split
    · exact ⟨h1.rg, h1.cl, h1.len⟩
    · split
      · split
        · exact ⟨h1.rg, h1.cl, h1.len⟩
        · exact ⟨h1.rg, h1.cl, h1.len⟩
      · exact h1
structure GIn (H : Hp) (tv : V) (l : Addr) (ns : List Int) (ins nm : Int) (ps : List Pc) : Prop where
  td : Im H tv (encT ins nm ps)
  ls : H l = some (.lst (ns.map V.int))
  nl : ns.length ≤ 3
  nr : ∀ n ∈ ns, inR n
  ok : PsOk ps
def spGone (C : Addr) : Sp := fun vs H Q _ => ∃ (tv : V) (l : Addr) (ns : List Int) (fuel ins nm : Int) (ps : List Pc) (k : Nat) (m' : Mst), vs = [tv, .ref l, .int fuel] ∧ GIn H tv l ns ins nm ps ∧ Gone ps k (initM ns fuel) (some 0) m' ∧
  ∀ p a H', Same H H' → (∀ b ∈ a.own p, H b = none) → MAt C H' p a m' → Q (.ref p) H'
theorem Fr.fresh {own : List Addr} {H H1 H2 : Hp} (s : Same H H1) (h : ∀ b ∈ own, H b = none) (f : Fr own H1 H2) : Same H H2 := fun b o e => f b o (s b o e) fun hm => by
  rw [h b hm] at e; cases e
section
variable {P : Program} {w : World} {K : PySem.W.Frag} {mg : Str → Option Value} {base : Heap} {cs : Cs}
theorem fc_gone (T : Txt w K mg cs) : Fc P w K mg base 5 "gone" (spGone cs.Machine) := by
  obtain ⟨f, fd, F, g⟩ := T.f_gone
  have GM : Kc P w K mg base 1 "Machine" cs.Machine (spInit cs.Machine) := kc_Machine T
  have GT : Mc P w K mg base 4 cs.Machine "through" (spThrough cs.Machine) := mc_through T
  refine fc_mk F g bd_gone sc_gone (fun vs H Q E h => ?_) (fun cdv A outer s H vs Q E hr h => ?_)
  · obtain ⟨tv, l, ns, fuel, ins, nm, ps, k, m', rfl, _⟩ := h
    rfl
  · obtain ⟨tv, l, ns, fuel, ins, nm, ps, k, m', rfl, G, W, q⟩ := h
    refine ws_set (i := 3) sc_gone.nd (w_mk GM hr (by decide) (wa_cons (w_v 1 rfl (wa_cons (w_v 2 rfl (wa_nil fun p dx hp hdx hne => ⟨p, dx, l, ns, fuel, rfl, upd_same, ?_, G.nl, fun H' a ea nr nc nt ns' fr M => ⟨rfl, ?_⟩⟩))))))
    · rw [upd_ne (ne_of_none G.ls hp), upd_ne (ne_of_none G.ls hdx)]
      exact G.ls
    · have s0 : Same H (upd (upd H dx (.own p)) p (.ins cs.Machine dx [])) := (same_new hdx).trans (same_new (by rw [upd_ne hne.symm]; exact hp))
      have s1 : Same H H' := Fr.fresh s0 (by intro b hb; rw [show b = p by simpa using hb]; exact hp) fr
      have fs : ∀ b ∈ a.own p, H b = none := fun b hb => by
        have : b = p ∨ b = a.r ∨ b = a.c ∨ b = a.t ∨ b = a.s := by simpa [Ad.own] using hb
        rcases this with rfl | rfl | rfl | rfl | rfl
        · exact hp
        · exact s0.free nr
        · exact s0.free nc
        · exact s0.free nt
        · exact s0.free ns'
      refine ws_set (i := 4) sc_gone.nd (w_int ?_)
      refine ws_while ⟨fun k σ' H' => ∃ (n : Option Int) (mm : Mst) (a : Ad) (o5 o6 : Option V), σ' = [some tv, some (.ref l), some (.int fuel), some (.ref p), some (optV n), o5, o6] ∧ Gone ps k mm n m' ∧ (n.isSome = true → mm.fin = none) ∧ Mok mm ∧ MAt cs.Machine H' p a mm ∧ (∀ b ∈ a.own p, H b = none) ∧ Same H H', ⟨k, some 0, _, a, none, none, rfl, W, fun _ => rfl, initM_ok G.nr, M, fs, s1⟩, ?_⟩
      rintro k σ' H2 ⟨n, mm, a, o5, o6, rfl, W, hf, ok, M, fs, s2⟩
      refine t_cmp op_notN (w_v 4 rfl (w_non ⟨rfl, _, rfl, ?_⟩))
      cases W with
      | fin =>
        show if (!decide (V.non = V.non)) = true then _ else _
        rw [decide_eq_true rfl]
        exact iteF (ws_ret (w_v 3 rfl (q p a H2 s2 fs M)))
      | step hq hs W =>
        rename_i k n q0
        show if (!decide (V.int (n : Int) = V.non)) = true then _ else _
        rw [decide_eq_false (by intro z; cases z)]
        refine iteT ⟨fun σ3 H3 => ∃ (n : Option Int) (mm : Mst) (a : Ad) (o5 o6 : Option V), σ3 = [some tv, some (.ref l), some (.int fuel), some (.ref p), some (optV n), o5, o6] ∧ Gone ps k mm n m' ∧ (n.isSome = true → mm.fin = none) ∧ Mok mm ∧ MAt cs.Machine H3 p a mm ∧ (∀ b ∈ a.own p, H b = none) ∧ Same H H3, fun σ3 H3 h => ⟨k, Nat.lt_succ_self k, h⟩, ?_⟩
        have hm := List.mem_of_getElem? hq
        refine ws_unp2 (n := 5) (m := 6) sc_gone.nd rfl (Same.refl H2) (dv_ix (dv_ix (dv_v 0 rfl (G.td.mono (tx_same s2))) dv_int (atI_nat (j := 2) rfl)) (dv_v 4 rfl (.int (n : Int))) (atI_nat (j := n) (by rw [List.getElem?_map, hq]; rfl))) fun u v H3 s3 i1 i2 => ?_
        have M3 := M.same s3
        obtain ⟨⟨e3, g1, g2⟩, _⟩ := id M3
        refine ws_set (i := 4) sc_gone.nd (w_mt GT hr (by decide) (w_v 3 rfl ⟨p, a.dx, _, rfl, g1, mf_m.2.2.2.2.2, wa_cons (w_v 4 rfl (wa_cons (w_v 5 rfl (wa_cons (w_v 6 rfl (wa_nil ?_))))))⟩))
        refine ⟨p, a, mm, n, u, v, q0.1, q0.2, rfl, ⟨M3, ok, hf rfl, i1, i2, G.ok.rv q0 hm, (G.ok.gv q0 hm).ok, hs⟩, fun H4 t ht f4 M4 => ws_nil ?_⟩
        refine ⟨_, _, { a with t := t }, _, _, rfl, W, fun h => ?_, ok.through (G.ok.rv q0 hm), M4, fun b hb => ?_, ?_⟩
        · obtain ⟨i, hi⟩ := Option.isSome_iff_exists.mp h
          exact through_none hi
        · have : b = p ∨ b = a.r ∨ b = a.c ∨ b = t ∨ b = a.s := by simpa [Ad.own] using hb
          rcases this with rfl | rfl | rfl | rfl | rfl
          · exact fs _ (by simp [Ad.own])
          · exact fs _ (by simp [Ad.own])
          · exact fs _ (by simp [Ad.own])
          · exact (s2.trans s3).free ht
          · exact fs _ (by simp [Ad.own])
        · exact Fr.fresh (s2.trans s3) fs f4
end
end Kt
set_option Elab.async false
set_option linter.all false
set_option maxRecDepth 100000
set_option maxHeartbeats 8000000
namespace Kt
open PySem PySem.Spec PyProof.Rows L2 Tr
structure RIn (H : Hp) (tv : V) (l : Addr) (ns : List Int) (fuel nm : Int) (ps : List Pc) : Prop where
  g : GIn H tv l ns (ns.length : Int) nm ps
  f1 : 0 ≤ fuel
  f2 : fuel ≤ 1000
  n1 : (ns.length : Int) ≤ nm
  n2 : nm ≤ 99
def spRun : Sp := fun vs H Q _ => ∃ (tv : V) (l : Addr) (ns : List Int) (fuel nm : Int) (ps : List Pc) (k : Nat) (m' : Mst), vs = [tv, .ref l, .int fuel] ∧ RIn H tv l ns fuel nm ps ∧ Gone ps k (initM ns fuel) (some 0) m' ∧
  ∀ u s c e H', Same H H' → H' u = some (.tup [.ref s, e, .ref c]) → H' s = some (.lst (m'.said.map V.int)) → Im H' e (finD m'.fin) → H' c = some (.lst (m'.cells.map V.int)) → H u = none → H s = none → H c = none → Q (.ref u) H'
def spCounts : Sp := fun vs H Q _ => ∃ (tv : V) (l : Addr) (ns : List Int) (fuel nm : Int) (ps : List Pc) (k : Nat) (m' : Mst), vs = [tv, .ref l, .int fuel] ∧ RIn H tv l ns fuel nm ps ∧ Gone ps k (initM ns fuel) (some 0) m' ∧
  ∀ v H', Same H H' → Im H' v (.tuple [.int m'.looked, .int m'.done]) → Q v H'
section
variable {P : Program} {w : World} {K : PySem.W.Frag} {mg : Str → Option Value} {base : Heap} {cs : Cs}
theorem fc_run_rows (T : Txt w K mg cs) : Fc P w K mg base 6 "run_rows" spRun := by
  obtain ⟨f, fd, F, g⟩ := T.f_run_rows
  have GT : Fc P w K mg base 4 "need_tested" (spF needTestedF) := fc_need_tested T
  have GH : Fc P w K mg base 2 "need_handed" (spNH K) := fc_need_handed T
  have GG : Fc P w K mg base 5 "gone" (spGone cs.Machine) := fc_gone T
  refine fc_mk F g bd_run_rows sc_run_rows (fun vs H Q E h => ?_) (fun cdv A outer s H vs Q E hr h => ?_)
  · obtain ⟨tv, l, ns, fuel, nm, ps, k, m', rfl, _⟩ := h
    rfl
  · obtain ⟨tv, l, ns, fuel, nm, ps, k, m', rfl, R, W, q⟩ := h
    have nl := R.g.nl
    refine ws_expr (DV.w (dv_c GT hr (by decide) (av_cons (dv_v 0 rfl R.g.td) av_nil) (tested_ok R.g.ok (by omega) (by omega) R.n1 R.n2)) fun v1 H1 s1 _ => ?_)
    have td1 := R.g.td.mono (tx_same s1)
    refine ws_expr (w_c GH hr (by decide) (wa_cons (DV.v (v := .int (ns.length : Int)) rfl (dv_ix (dv_v 0 rfl td1) dv_int (atI_nat (j := 0) rfl)) fun H2 s2 => wa_cons (w_v 1 rfl (wa_cons (w_v 2 rfl (wa_nil ⟨l, ns, fuel, rfl, SqL.of (s2 _ _ (s1 _ _ R.g.ls)), R.g.nr, nl, R.f1, R.f2, fun H3 s3 => ?_⟩)))))))
    have s03 := s1.trans (s2.trans s3)
    refine ws_set (i := 3) sc_run_rows.nd (w_c GG hr (by decide) (wa_cons (w_v 0 rfl (wa_cons (w_v 1 rfl (wa_cons (w_v 2 rfl (wa_nil ⟨tv, l, ns, fuel, _, nm, ps, k, m', rfl, ⟨R.g.td.mono (tx_same s03), s03 _ _ R.g.ls, nl, R.g.nr, R.g.ok⟩, W, fun p a H4 s4 fs M => ?_⟩))))))))
    have s04 := s03.trans s4
    obtain ⟨⟨e, h1, h2⟩, ⟨kr, h3, h4⟩, h5, ⟨kt, h6, h7⟩, h8, h9, h10⟩ := id M
    refine ws_ret (w_tup (wa_cons (w_attr (w_vv 3 rfl) h1 T.cl_Machine T.na_Machine_said mf_said (wa_cons (w_attr (w_vv 3 rfl) h1 T.cl_Machine T.na_Machine_end mf_end (wa_cons (w_attr (w_vv 3 rfl) h1 T.cl_Machine T.na_Machine_cells mf_cells (wa_nil ⟨(show 3 ≤ sizeLine by decide), fun u hu => ?_⟩))))))))
    have s5 : Same H4 (upd H4 u (.tup [.ref a.s, e, .ref a.c])) := same_new hu
    exact q u a.s a.c e _ (s04.trans s5) upd_same (s5 _ _ h8) (h2.mono (tx_same s5)) (s5 _ _ h5) (s04.free hu) (s03.free (fs _ (by simp [Ad.own]))) (s03.free (fs _ (by simp [Ad.own])))
theorem fc_counts (T : Txt w K mg cs) : Fc P w K mg base 6 "counts" spCounts := by
  obtain ⟨f, fd, F, g⟩ := T.f_counts
  have GT : Fc P w K mg base 4 "need_tested" (spF needTestedF) := fc_need_tested T
  have GH : Fc P w K mg base 2 "need_handed" (spNH K) := fc_need_handed T
  have GG : Fc P w K mg base 5 "gone" (spGone cs.Machine) := fc_gone T
  refine fc_mk F g bd_counts sc_counts (fun vs H Q E h => ?_) (fun cdv A outer s H vs Q E hr h => ?_)
  · obtain ⟨tv, l, ns, fuel, nm, ps, k, m', rfl, _⟩ := h
    rfl
  · obtain ⟨tv, l, ns, fuel, nm, ps, k, m', rfl, R, W, q⟩ := h
    have nl := R.g.nl
    refine ws_expr (DV.w (dv_c GT hr (by decide) (av_cons (dv_v 0 rfl R.g.td) av_nil) (tested_ok R.g.ok (by omega) (by omega) R.n1 R.n2)) fun v1 H1 s1 _ => ?_)
    have td1 := R.g.td.mono (tx_same s1)
    refine ws_expr (w_c GH hr (by decide) (wa_cons (DV.v (v := .int (ns.length : Int)) rfl (dv_ix (dv_v 0 rfl td1) dv_int (atI_nat (j := 0) rfl)) fun H2 s2 => wa_cons (w_v 1 rfl (wa_cons (w_v 2 rfl (wa_nil ⟨l, ns, fuel, rfl, SqL.of (s2 _ _ (s1 _ _ R.g.ls)), R.g.nr, nl, R.f1, R.f2, fun H3 s3 => ?_⟩)))))))
    have s03 := s1.trans (s2.trans s3)
    refine ws_set (i := 3) sc_counts.nd (w_c GG hr (by decide) (wa_cons (w_v 0 rfl (wa_cons (w_v 1 rfl (wa_cons (w_v 2 rfl (wa_nil ⟨tv, l, ns, fuel, _, nm, ps, k, m', rfl, ⟨R.g.td.mono (tx_same s03), s03 _ _ R.g.ls, nl, R.g.nr, R.g.ok⟩, W, fun p a H4 s4 fs M => ?_⟩))))))))
    have s04 := s03.trans s4
    obtain ⟨⟨e, h1, h2⟩, _⟩ := id M
    refine ws_ret (w_tup (wa_cons (w_attr (w_vv 3 rfl) h1 T.cl_Machine T.na_Machine_looked mf_looked (wa_cons (w_attr (w_vv 3 rfl) h1 T.cl_Machine T.na_Machine_done mf_done (wa_nil ⟨(show 2 ≤ sizeLine by decide), fun u hu => ?_⟩))))))
    have s5 : Same H4 (upd H4 u (.tup [.int m'.looked, .int m'.done])) := same_new hu
    exact q _ _ (s04.trans s5) (.tup upd_same (.cons (.int _) (.cons (.int _) .nil)))
end
end Kt
set_option Elab.async false
set_option linter.all false
set_option maxRecDepth 100000
set_option maxHeartbeats 8000000
namespace Kt
open PySem PySem.Spec PyProof.Rows L2 Tr
/-! the law's dice -/
/-- the script: frozen, or of the text -/
def SqF (K : PySem.W.Frag) (H : Hp) (sc : Addr) (ns : List Int) : Prop := (∃ o, H sc = some (.frz o (.lst (ns.map V.int)))) ∨ ∀ H', SqL K H' sc (ns.map V.int)
theorem SqF.sq {K : PySem.W.Frag} {H : Hp} {sc : Addr} {ns : List Int} (h : SqF K H sc ns) : SqL K H sc (ns.map V.int) := by
  rcases h with ⟨o, h⟩ | h
  · exact .inl (.inr ⟨o, h⟩)
  · exact h H
theorem SqF.of {K : PySem.W.Frag} {H : Hp} {sc : Addr} {ns : List Int} (hO : Only H) (h : SqL K H sc (ns.map V.int)) : SqF K H sc ns := by
  rcases h with (h | ⟨o, h⟩) | h
  · rcases hO sc with e | ⟨o, xs, e⟩
    · rw [e] at h; cases h
    · rw [e] at h; cases h
  · exact .inl ⟨o, h⟩
  · exact .inr fun _ => .inr h
/-- what is frozen stands -/
def Fz (H H' : Hp) : Prop := ∀ b o u, H b = some (.frz o u) → H' b = some (.frz o u)
theorem Fz.same {H H' : Hp} (s : Same H H') : Fz H H' := fun b o u h => s b _ h
theorem Fz.trans {H H1 H2 : Hp} (a : Fz H H1) (b : Fz H1 H2) : Fz H H2 := fun c o u h => b c o u (a c o u h)
theorem Fz.upd {H : Hp} {d : Addr} {o : HO} (hd : ∀ o u, H d ≠ some (.frz o u)) : Fz H (upd H d o) := fun b o u h => by
  rw [upd_ne fun z => ?_]
  · exact h
  · rw [z] at h; exact hd _ _ h
theorem SqF.fz {K : PySem.W.Frag} {H H' : Hp} {sc : Addr} {ns : List Int} (h : SqF K H sc ns) (f : Fz H H') : SqF K H' sc ns := by
  rcases h with ⟨o, h⟩ | h
  · exact .inl ⟨o, f _ _ _ h⟩
  · exact .inr h
structure Dice (K : PySem.W.Frag) (H : Hp) (d : Addr) : Prop where
  at_ : ∃ (sc : Addr) (ns : List Int) (i r q : Int), H d = some (.lst [.ref sc, .int i, .int r, .int q]) ∧ SqF K H sc ns ∧ 0 ≤ i
theorem Dice.same {K : PySem.W.Frag} {H H' : Hp} {d : Addr} (h : Dice K H d) (s : Same H H') : Dice K H' d := by
  obtain ⟨sc, ns, i, r, q, h1, h2, h3⟩ := h.at_
  exact ⟨sc, ns, i, r, q, s _ _ h1, h2.fz (Fz.same s), h3⟩
theorem Dice.put {K : PySem.W.Frag} {H : Hp} {d b : Addr} {o : HO} (h : Dice K H d) (hb : b ≠ d) (hf : ∀ o u, H b ≠ some (.frz o u)) : Dice K (upd H b o) d := by
  obtain ⟨sc, ns, i, r, q, h1, h2, h3⟩ := h.at_
  exact ⟨sc, ns, i, r, q, by rw [upd_ne hb.symm]; exact h1, h2.fz (Fz.upd hf), h3⟩
def spDice (K : PySem.W.Frag) : Sp := fun vs H Q _ => ∃ (a : Addr) (ns : List Int), vs = [.ref a] ∧ SqF K H a ns ∧ ∀ d H', H d = none → Same H H' → Dice K H' d → Q (.ref d) H'
def spNext (K : PySem.W.Frag) : Sp := fun vs H Q _ => ∃ (d : Addr) (many : Int), vs = [.ref d, .int many] ∧ 0 < many ∧ many < 1073741824 ∧ Dice K H d ∧ ∀ x H', 0 ≤ x → x < many → Fr [d] H H' → Dice K H' d → Q (.int x) H'
theorem sv_sqL {X : Cx} {tg iter : Expr} {σ : St} {H : Hp} {l : Addr} {ns : List Int} (ha : ∀ Q : VK, Q (.ref l) H → WE X iter σ H Q) (hl : SqL X.K H l (ns.map V.int)) : SVr X tg iter σ H (ns.map PyData.int) (fun H' => SqL X.K H' l (ns.map V.int)) := fun R q => wi (pi_list peW) (ha _ ⟨l, rfl, ⟨_, hl⟩, q (Itl X.K l) H (fun H => SqL X.K H l (ns.map V.int)) (YAt (ns.map V.int)) (Same.refl H) (by rw [List.length_map, ← List.length_map (as := ns) V.int]; exact walk_list) (fun H3 t3 j3 => j3) fun i H3 x H4 hi' t3 j3 hy => by
  obtain ⟨rfl, hxi⟩ := hy
  obtain ⟨d, h1, h2⟩ := (ImAll.ints ns).getV hxi
  exact ⟨Same.refl _, d, h1, h2⟩⟩)
section
variable {P : Program} {w : World} {K : PySem.W.Frag} {mg : Str → Option Value} {base : Heap} {cs : Cs}
theorem fc_dice (T : Txt w K mg cs) : Fc P w K mg base 1 "_law_dice" (spDice K) := by
  obtain ⟨f, fd, F, g⟩ := T.f__law_dice
  have b1 := T.b_len
  have b2 := T.b_int
  refine fc_mk F g bd__law_dice sc__law_dice (fun vs H Q E h => ?_) (fun cdv A outer s H vs Q E hr h => ?_)
  · obtain ⟨a, ns, rfl, _⟩ := h
    rfl
  · obtain ⟨a, ns, rfl, hS, q⟩ := h
    refine ws_set (i := 1) sc__law_dice.nd (w_int ?_)
    refine ws_forJ1 (n := 2) sc__law_dice.nd rfl (sv_sqL (ns := ns) (w_vv 0 rfl) hS.sq) (fun i σ' H' => (∃ (o2 : Option V) (z : Int), σ' = [some (.ref a), some (.int z), o2]) ∧ Same H H') (fun H' s' => ⟨⟨_, _, rfl⟩, s'⟩) (fun i σ' H' H'' ⟨x1, x2⟩ s' => ⟨x1, x2.trans s'⟩) (fun i σ' H' ⟨_, x2⟩ => x2.seq hS.sq) ?_ ?_
    · rintro i d v σ' H' hd ⟨⟨o2, z, rfl⟩, s1⟩ iv
      rw [List.getElem?_map] at hd
      obtain ⟨n, rfl⟩ : ∃ n : Int, d = .int n := by
        cases hx : ns[i]? with
        | none => rw [hx] at hd; cases hd
        | some n => rw [hx] at hd; exact ⟨n, (Option.some.inj hd).symm⟩
      refine ws_setE (n := 1) sc__law_dice.nd (Same.refl H') (dv_mod (dv_add (dv_add (dv_mul (dv_v 1 rfl (.int z)) dv_int (.inr ⟨by decide, by decide⟩)) (dv_mul (dv_mod (dv_v 2 rfl iv) dv_int (by decide)) dv_int (.inr ⟨by decide, by decide⟩))) dv_int) dv_int (by decide)) fun v1 H1 s2 iv1 => ?_
      cases im_int iv1
      exact ws_nil ⟨tx_same s2, ⟨_, _, rfl⟩, s1.trans s2⟩
    · rintro σ' H' ⟨⟨o2, z, rfl⟩, s1⟩
      have hS1 := hS.fz (Fz.same s1)
      refine ws_ret (w_lst (wa_cons (w_v 0 rfl (wa_cons (w_int (wa_cons (w_op op_mul (w_v 1 rfl ?_))))))))
      refine w_callT call_int1 b2 bt_int (wa_cons (w_cmp op_gt (w_lenL b1 (w_vv 0 rfl) hS1.sq (w_int ⟨_, _, rfl, rfl, ?_⟩))))
      refine wa_nil (.inr ⟨_, rfl, ⟨z, _, rfl, rfl, .inr ?_, wa_cons (w_int (wa_nil ⟨(show 4 ≤ sizeLine by decide), fun d hd => ?_⟩))⟩⟩)
      · split <;> decide
      · exact q d _ (s1.free hd) (s1.trans (same_new hd)) ⟨a, ns, _, _, _, upd_same, hS1.fz (Fz.same (same_new hd)), by decide⟩
theorem fc_next (T : Txt w K mg cs) : Fc P w K mg base 1 "_law_next" (spNext K) := by
  obtain ⟨f, fd, F, g⟩ := T.f__law_next
  have b1 := T.b_len
  refine fc_mk F g bd__law_next sc__law_next (fun vs H Q E h => ?_) (fun cdv A outer s H vs Q E hr h => ?_)
  · obtain ⟨d, many, rfl, _⟩ := h
    rfl
  · obtain ⟨d, many, rfl, h0, h1, D, q⟩ := h
    obtain ⟨sc, ns, i, r, z, hd, hS, hi⟩ := D.at_
    have st : ∀ {H1 : Hp} {i r z i' r' z' : Int}, H1 d = some (.lst [.ref sc, .int i, .int r, .int z]) → SqF K H1 sc ns → 0 ≤ i' → Fr [d] H H1 → Fr [d] H (upd H1 d (.lst [.ref sc, .int i', .int r', .int z'])) ∧ SqF K (upd H1 d (.lst [.ref sc, .int i', .int r', .int z'])) sc ns ∧ Dice K (upd H1 d (.lst [.ref sc, .int i', .int r', .int z'])) d := fun {H1 i r z i' r' z'} h1 h2 h3 h4 => by
      have e := h2.fz (Fz.upd (d := d) (o := .lst [.ref sc, .int i', .int r', .int z']) fun o u z => by rw [h1] at z; cases z)
      exact ⟨h4.trans (Fr.upd (by simp)), e, ⟨sc, ns, _, _, _, upd_same, e, h3⟩⟩
    have md : ∀ x : Int, 0 ≤ x % many ∧ x % many < many := fun x => ⟨Int.emod_nonneg _ (by omega), Int.emod_lt_of_pos _ h0⟩
    have at3 : ∀ {a b c e : V}, atI [a, b, c, e] 3 = some e := fun {a b c e} => atI_nat (j := 3) rfl
    refine ws_if (t_cmp op_gt (w_item (w_vv 0 rfl) (SqL.of hd) w_ival at3 (w_int ⟨_, _, rfl, rfl, _, rfl, ite2 (fun h => ?_) (fun h => ?_)⟩)))
    · refine ws_set (i := 2) sc__law_next.nd (w_op op_mod (w_item (w_vv 0 rfl) (SqL.of hd) w_ival at3 (w_v 1 rfl ⟨z, many, rfl, rfl, h0, ?_⟩)))
      refine ws_asg (pg_sub peW peW set_list) (w_op op_fdiv (w_item (w_vv 0 rfl) (SqL.of hd) w_ival at3 (w_v 1 rfl ⟨z, many, rfl, rfl, ⟨h0, h1⟩, w_v 0 rfl (w_int ⟨d, _, 3, 3, rfl, rfl, hd, rfl, ?_⟩)⟩)))
      obtain ⟨e1, e2, e3⟩ := st (z' := z / many) (r' := r) hd hS hi (Fr.refl _ _)
      exact ws_ret (w_v 2 rfl (q _ _ (md z).1 (md z).2 e1 e3))
    · refine ws_nil (ws_asg (pg_sub peW peW set_list) (w_op op_add (w_item (w_vv 0 rfl) (SqL.of hd) w_ival (atI_nat (j := 1) rfl) (w_int ⟨i, 1, rfl, rfl, w_v 0 rfl (w_int ⟨d, _, 1, 1, rfl, rfl, hd, rfl, ?_⟩)⟩))))
      obtain ⟨e1, e2, e3⟩ := st (i' := i + 1) (r' := r) (z' := z) hd hS (by omega) (Fr.refl _ _)
      have hd1 : upd H d (.lst [.ref sc, .int (i + 1), .int r, .int z]) d = some (.lst [.ref sc, .int (i + 1), .int r, .int z]) := upd_same
      change WS _ _ _ _ (upd H d (.lst [.ref sc, .int (i + 1), .int r, .int z]))
      generalize (upd H d (.lst [.ref sc, .int (i + 1), .int r, .int z])) = H1 at e1 e2 e3 hd1
      refine ws_if (t_cmp op_le (w_item (w_vv 0 rfl) (SqL.of hd1) w_ival (atI_nat (j := 1) rfl) (w_lenL b1 (w_itemv (w_vv 0 rfl) (SqL.of hd1) w_ival (atI_nat (j := 0) rfl)) e2.sq ⟨_, _, rfl, rfl, _, rfl, ite2 (fun h => ?_) (fun h => ?_)⟩)))
      · have hlt : i + 1 ≤ ((ns.map V.int).length : Int) := of_decide_eq_true h
        rw [List.length_map] at hlt
        obtain ⟨c, hc⟩ : ∃ c, ns[i.toNat]? = some c := ⟨_, List.getElem?_eq_getElem (by omega)⟩
        have hat : atI (ns.map V.int) (i + 1 - 1) = some (.int c) := by
          rw [show i + 1 - 1 = ((i.toNat : Nat) : Int) by omega]
          exact atI_nat (by rw [List.getElem?_map, hc]; rfl)
        refine ws_set (i := 3) sc__law_next.nd (w_item (w_itemv (w_vv 0 rfl) (SqL.of hd1) w_ival (atI_nat (j := 0) rfl)) e2.sq (fun Q' q' => w_op op_sub (w_item (w_vv 0 rfl) (SqL.of hd1) w_ival (atI_nat (j := 1) rfl) (w_int ⟨i + 1, 1, rfl, rfl, q'⟩))) hat ?_)
        refine ws_asg (pg_sub peW peW set_list) (w_ifx (t_cmp op_ge (w_v 3 rfl (w_op op_pow (w_int (w_int ⟨10, 18, rfl, rfl, ⟨by decide, by decide, by decide⟩, ⟨_, _, rfl, rfl, _, rfl, ite2 (fun h => ?_) (fun h => ?_)⟩⟩))))))
        · refine w_op op_fdiv (w_v 3 rfl (w_v 1 rfl ⟨c, many, rfl, rfl, ⟨h0, h1⟩, w_v 0 rfl (w_int ⟨d, _, 3, 3, rfl, rfl, hd1, rfl, ?_⟩)⟩))
          obtain ⟨e4, e5, e6⟩ := st (i' := i + 1) (r' := r) (z' := c / many) hd1 e2 (by omega) e1
          exact ws_ret (w_op op_mod (w_v 3 rfl (w_v 1 rfl ⟨c, many, rfl, rfl, h0, q _ _ (md c).1 (md c).2 e4 e6⟩)))
        · refine w_int (w_v 0 rfl (w_int ⟨d, _, 3, 3, rfl, rfl, hd1, rfl, ?_⟩))
          obtain ⟨e4, e5, e6⟩ := st (i' := i + 1) (r' := r) (z' := 0) hd1 e2 (by omega) e1
          exact ws_ret (w_op op_mod (w_v 3 rfl (w_v 1 rfl ⟨c, many, rfl, rfl, h0, q _ _ (md c).1 (md c).2 e4 e6⟩)))
      · refine ws_nil (ws_asg (pg_sub peW peW set_list) (w_op op_mod (w_op op_mul (w_item (w_vv 0 rfl) (SqL.of hd1) w_ival (atI_nat (j := 2) rfl) (w_int ⟨r, 48271, rfl, rfl, .inr ⟨by decide, by decide⟩, w_int ⟨_, _, rfl, rfl, (show (0 : Int) < 2147483647 by decide), w_v 0 rfl (w_int ⟨d, _, 2, 2, rfl, rfl, hd1, rfl, ?_⟩)⟩⟩)))))
        obtain ⟨e4, e5, e6⟩ := st (i' := i + 1) (r' := r * 48271 % 2147483647) (z' := z) hd1 e2 (by omega) e1
        exact ws_ret (w_op op_mod (w_op op_fdiv (w_item (w_vv 0 rfl) (SqL.of upd_same) w_ival (atI_nat (j := 2) rfl) (w_int ⟨_, 7, rfl, rfl, ⟨by decide, by decide⟩, w_v 1 rfl ⟨_, many, rfl, rfl, h0, q _ _ (md _).1 (md _).2 e4 e6⟩⟩))))
end
end Kt
set_option Elab.async false
set_option linter.all false
set_option maxRecDepth 100000
set_option maxHeartbeats 8000000
namespace Kt
open PySem PySem.Spec PyProof.Rows L2 Tr
/-! rows by kinds, plain -/
theorem rowsM_cons {m : Mst} {r : Row} {rs : List Row} (h : (rowM m r).fin = none) : rowsM m (r :: rs) = rowsM (rowM m r) rs := by
  rw [rowsM, h]
theorem rowM_off {m : Mst} {r : Row} (h : m.tests r.t = false) (hw : r.w ≠ "test") : rowM m r = { m with looked := m.looked + 1 } := by
  unfold rowM doesM
  dsimp only
  rw [h, if_neg hw]
  show { m with looked := m.looked + 1, done := m.done + 0 } = _
  rw [Int.add_zero]
theorem rowM_on {m : Mst} {r : Row} (h : m.tests r.t = true) (hw : r.w ≠ "test") : rowM m r = { changeM { m with looked := m.looked + 1 } r ((srcOf r.w r.ps).map m.regs) with done := m.done + 1 } := by
  unfold rowM doesM
  dsimp only
  rw [h, if_neg hw, if_pos rfl]
  show { changeM { m with looked := m.looked + 1 } r ((srcOf r.w r.ps).map m.regs) with done := (changeM { m with looked := m.looked + 1 } r ((srcOf r.w r.ps).map m.regs)).done + 1 } = _
  rw [(changeM_keep _ _ _).2.2.2.1]
theorem rowM_num {m : Mst} {t r n : Int} (h : m.tests t = true) : rowM m ⟨t, "num", [r, n]⟩ = { m with looked := m.looked + 1, done := m.done + 1, regs := upI m.regs r n } := by
  rw [rowM_on h (by dsimp only; decide +kernel)]
  kernel_rfl
theorem rowM_say {m : Mst} {t a : Int} (h : m.tests t = true) : rowM m ⟨t, "say", [a]⟩ = { m with looked := m.looked + 1, done := m.done + 1, said := m.said ++ [m.regs a] } := by
  rw [rowM_on h (by dsimp only; decide +kernel)]
  kernel_rfl
theorem rowM_test {m : Mst} {t p q a : Int} (h : m.tests t = true) : rowM m ⟨t, "test", [p, q, a]⟩ = { m with looked := m.looked + 1, done := m.done + 1, tests := upI (upI m.tests p (!decide (m.regs a = 0))) q (decide (m.regs a = 0)) } := by
  unfold rowM
  rw [show m.tests (Row.t ⟨t, "test", [p, q, a]⟩) = true from h]
  kernel_rfl
/-! the pieces of this law -/
def rowsOf (one two n : Int) : List Row := [⟨one, "say", [0]⟩, ⟨two, "stop", [1]⟩, ⟨0, "num", [0, n]⟩, ⟨0, "test", [one, two, 0]⟩, ⟨one, "say", [0]⟩, ⟨two, "say", [1]⟩]
def tstOf (one two n : Int) : Int → Bool := upI (upI (fun i => decide (i = 0)) one (!decide (n = 0))) two (decide (n = 0))
theorem run6 {m : Mst} {one two n : Int} (hf : m.fin = none) (h1 : m.regs 1 = 0) (ho : 1 ≤ one) (ht : one < two) :
    rowsM (begun m) (rowsOf one two n) = { m with regs := upI m.regs 0 n, tests := tstOf one two n, said := m.said ++ [n], looked := m.looked + 6, done := m.done + 3 } := by
  have b1 : (begun m).tests one = false := decide_eq_false (by omega)
  have b2 : (begun m).tests two = false := decide_eq_false (by omega)
  have b0 : (begun m).tests 0 = true := rfl
  unfold rowsOf
  have e1 : rowM (begun m) ⟨one, "say", [0]⟩ = { begun m with looked := m.looked + 1 } := rowM_off b1 (by dsimp only; decide +kernel)
  rw [rowsM_cons (by rw [e1]; exact hf), e1]
  have e2 : rowM { begun m with looked := m.looked + 1 } ⟨two, "stop", [1]⟩ = { begun m with looked := m.looked + 1 + 1 } := rowM_off b2 (by dsimp only; decide +kernel)
  rw [rowsM_cons (by rw [e2]; exact hf), e2]
  have e3 : rowM { begun m with looked := m.looked + 1 + 1 } ⟨0, "num", [0, n]⟩ = { begun m with looked := m.looked + 1 + 1 + 1, done := m.done + 1, regs := upI m.regs 0 n } := rowM_num b0
  rw [rowsM_cons (by rw [e3]; exact hf), e3]
  have r0 : upI m.regs 0 n 0 = n := by unfold upI; rw [if_pos rfl]
  have r1 : upI m.regs 0 n 1 = 0 := by unfold upI; rw [if_neg (by decide)]; exact h1
  have e4 : rowM { begun m with looked := m.looked + 1 + 1 + 1, done := m.done + 1, regs := upI m.regs 0 n } ⟨0, "test", [one, two, 0]⟩ = { begun m with looked := m.looked + 1 + 1 + 1 + 1, done := m.done + 1 + 1, regs := upI m.regs 0 n, tests := tstOf one two n } := by
    refine (rowM_test (m := { begun m with looked := m.looked + 1 + 1 + 1, done := m.done + 1, regs := upI m.regs 0 n }) b0).trans ?_
    show ({ begun m with looked := m.looked + 1 + 1 + 1 + 1, done := m.done + 1 + 1, regs := upI m.regs 0 n, tests := upI (upI (begun m).tests one (!decide (upI m.regs 0 n 0 = 0))) two (decide (upI m.regs 0 n 0 = 0)) } : Mst) = _
    rw [r0]
    rfl
  rw [rowsM_cons (by rw [e4]; exact hf), e4]
  have t1 : tstOf one two n one = !decide (n = 0) := by unfold tstOf upI; rw [if_neg (by omega), if_pos rfl]
  have t2 : tstOf one two n two = decide (n = 0) := by unfold tstOf upI; rw [if_pos rfl]
  by_cases hn : n = 0
  · have e5 : rowM { begun m with looked := m.looked + 1 + 1 + 1 + 1, done := m.done + 1 + 1, regs := upI m.regs 0 n, tests := tstOf one two n } ⟨one, "say", [0]⟩ = { begun m with looked := m.looked + 1 + 1 + 1 + 1 + 1, done := m.done + 1 + 1, regs := upI m.regs 0 n, tests := tstOf one two n } := rowM_off (by show tstOf one two n one = false; rw [t1, hn]; rfl) (by dsimp only; decide +kernel)
    rw [rowsM_cons (by rw [e5]; exact hf), e5]
    have e6 : rowM { begun m with looked := m.looked + 1 + 1 + 1 + 1 + 1, done := m.done + 1 + 1, regs := upI m.regs 0 n, tests := tstOf one two n } ⟨two, "say", [1]⟩ = { begun m with looked := m.looked + 1 + 1 + 1 + 1 + 1 + 1, done := m.done + 1 + 1 + 1, regs := upI m.regs 0 n, tests := tstOf one two n, said := m.said ++ [upI m.regs 0 n 1] } := rowM_say (by show tstOf one two n two = true; rw [t2, hn]; rfl)
    rw [rowsM_cons (by rw [e6]; exact hf), e6, r1]
    show ({ begun m with looked := m.looked + 1 + 1 + 1 + 1 + 1 + 1, done := m.done + 1 + 1 + 1, regs := upI m.regs 0 n, tests := tstOf one two n, said := m.said ++ [0] } : Mst) = _
    rw [show m.looked + 1 + 1 + 1 + 1 + 1 + 1 = m.looked + 6 by omega, show m.done + 1 + 1 + 1 = m.done + 3 by omega, hn]
    rfl
  · have e5 : rowM { begun m with looked := m.looked + 1 + 1 + 1 + 1, done := m.done + 1 + 1, regs := upI m.regs 0 n, tests := tstOf one two n } ⟨one, "say", [0]⟩ = { begun m with looked := m.looked + 1 + 1 + 1 + 1 + 1, done := m.done + 1 + 1 + 1, regs := upI m.regs 0 n, tests := tstOf one two n, said := m.said ++ [upI m.regs 0 n 0] } := rowM_say (by show tstOf one two n one = true; rw [t1, decide_eq_false hn]; rfl)
    rw [rowsM_cons (by rw [e5]; exact hf), e5, r0]
    have e6 : rowM { begun m with looked := m.looked + 1 + 1 + 1 + 1 + 1, done := m.done + 1 + 1 + 1, regs := upI m.regs 0 n, tests := tstOf one two n, said := m.said ++ [n] } ⟨two, "say", [1]⟩ = { begun m with looked := m.looked + 1 + 1 + 1 + 1 + 1 + 1, done := m.done + 1 + 1 + 1, regs := upI m.regs 0 n, tests := tstOf one two n, said := m.said ++ [n] } := rowM_off (by show tstOf one two n two = false; rw [t2, decide_eq_false hn]) (by dsimp only; decide +kernel)
    rw [rowsM_cons (by rw [e6]; exact hf), e6]
    show ({ begun m with looked := m.looked + 1 + 1 + 1 + 1 + 1 + 1, done := m.done + 1 + 1 + 1, regs := upI m.regs 0 n, tests := tstOf one two n, said := m.said ++ [n] } : Mst) = _
    rw [show m.looked + 1 + 1 + 1 + 1 + 1 + 1 = m.looked + 6 by omega, show m.done + 1 + 1 + 1 = m.done + 3 by omega]
    rfl
/-- behind one piece -/
def one6 (m : Mst) (one two n : Int) : Mst := { m with regs := upI m.regs 0 n, tests := tstOf one two n, said := m.said ++ [n], looked := m.looked + 6, done := m.done + 3 }
theorem through6 {m : Mst} {one two n g i : Int} (hf : m.fin = none) (h1 : m.regs 1 = 0) (ho : 1 ≤ one) (ht : one < two) : throughM m i (rowsOf one two n) [(0, g)] = wayM (one6 m one two n) i g := by
  have e : rowsM (begun m) (rowsOf one two n) = one6 m one two n := run6 hf h1 ho ht
  unfold throughM
  rw [e]
  have e2 : (one6 m one two n).fin = none := hf
  rw [e2]
  have t0 : (one6 m one two n).tests 0 = true := by
    show upI (upI (fun i => decide (i = 0)) one (!decide (n = 0))) two (decide (n = 0)) 0 = true
    unfold upI
    rw [if_neg (by omega), if_neg (by omega)]
    rfl
  have e3 : goalM (one6 m one two n) [(0, g)] = g := by
    unfold goalM
    rw [List.filter_cons_of_pos (by exact t0)]
    rfl
  show wayM _ i (goalM (one6 m one two n) [(0, g)]) = _
  rw [e3]
def pcs (one two : Int) (gs : Nat → Int) : Nat → List Int → List Pc
  | _, [] => []
  | k, n :: r => (rowsOf one two n, [(0, gs k)]) :: pcs one two gs (k + 1) r
theorem pcs_len (one two : Int) (gs : Nat → Int) : ∀ (k : Nat) (ns : List Int), (pcs one two gs k ns).length = ns.length
  | _, [] => rfl
  | k, n :: r => by
    show (pcs one two gs (k + 1) r).length + 1 = r.length + 1
    rw [pcs_len one two gs (k + 1) r]
theorem pcs_get (one two : Int) (gs : Nat → Int) : ∀ (k : Nat) (ns : List Int) (i : Nat) (n : Int), ns[i]? = some n → (pcs one two gs k ns)[i]? = some (rowsOf one two n, [(0, gs (k + i))])
  | _, [], _, _, h => by cases h
  | k, n :: r, 0, x, h => by cases h; rfl
  | k, n :: r, i + 1, x, h => by
    show (pcs one two gs (k + 1) r)[i]? = _
    rw [pcs_get one two gs (k + 1) r i x h, show k + 1 + i = k + (i + 1) by omega]
theorem pcs_snoc (one two : Int) (gs : Nat → Int) : ∀ (k : Nat) (ns : List Int) (n : Int), pcs one two gs k (ns ++ [n]) = pcs one two gs k ns ++ [(rowsOf one two n, [(0, gs (k + ns.length))])]
  | _, [], _ => rfl
  | k, x :: r, n => by
    show _ :: pcs one two gs (k + 1) (r ++ [n]) = _ :: (pcs one two gs (k + 1) r ++ _)
    rw [pcs_snoc one two gs (k + 1) r n, List.length_cons, show k + 1 + r.length = k + (r.length + 1) by omega]
theorem pcs_mem (one two : Int) (gs : Nat → Int) (k : Nat) (ns : List Int) (q : Pc) (h : q ∈ pcs one two gs k ns) : ∃ i n, ns[i]? = some n ∧ q = (rowsOf one two n, [(0, gs (k + i))]) := by
  obtain ⟨i, hi⟩ := List.getElem?_of_mem h
  have hl := (List.getElem?_eq_some_iff.mp hi).1
  rw [pcs_len] at hl
  have e : ns[i]? = some ns[i] := List.getElem?_eq_getElem hl
  rw [pcs_get one two gs k ns i _ e] at hi
  exact ⟨i, _, e, (Option.some.inj hi).symm⟩
theorem rowsOf_rv {one two n : Int} (h1 : 1 ≤ one) (h2 : one < two) (h3 : two ≤ 1999) (hn : inR n) : ∀ r ∈ rowsOf one two n, RV r := by
  have r0 : rg 0 := ⟨by decide, by decide⟩
  have r1 : rg 1 := ⟨by decide, by decide⟩
  have ro : rg one := ⟨by omega, by omega⟩
  have rt : rg two := ⟨by omega, by omega⟩
  intro r hr
  unfold rowsOf at hr
  rcases List.mem_cons.mp hr with rfl | hr
  · exact .say ro r0
  rcases List.mem_cons.mp hr with rfl | hr
  · exact .stop rt r1
  rcases List.mem_cons.mp hr with rfl | hr
  · exact .num r0 r0 hn
  rcases List.mem_cons.mp hr with rfl | hr
  · exact .test r0 ro h1 rt (by omega) r0 (by omega)
  rcases List.mem_cons.mp hr with rfl | hr
  · exact .say ro r0
  rcases List.mem_cons.mp hr with rfl | hr
  · exact .say rt r1
  · cases hr
theorem pcs_ok {one two : Int} {gs : Nat → Int} {ns : List Int} (h1 : 1 ≤ one) (h2 : one < two) (h3 : two ≤ 1999) (hn : ∀ n ∈ ns, inR n) (l1 : 1 ≤ ns.length) (l2 : ns.length ≤ 999) (hg : ∀ i, i < ns.length → -1 ≤ gs i ∧ gs i < ns.length) : PsOk (pcs one two gs 0 ns) := by
  refine ⟨by rw [pcs_len]; exact l1, by rw [pcs_len]; exact l2, fun q hq => ?_, fun q hq => ?_, fun q hq => ?_⟩
  · obtain ⟨i, n, _, rfl⟩ := pcs_mem _ _ _ _ _ _ hq
    show 6 ≤ 1500
    decide
  · obtain ⟨i, n, hi, rfl⟩ := pcs_mem _ _ _ _ _ _ hq
    exact rowsOf_rv h1 h2 h3 (hn n (List.mem_of_getElem? hi))
  · obtain ⟨i, n, hi, rfl⟩ := pcs_mem _ _ _ _ _ _ hq
    have hl := (List.getElem?_eq_some_iff.mp hi).1
    refine ⟨Nat.le_refl _, (show 1 ≤ 8 by decide), fun g hgm => ?_, _, rfl⟩
    have : g = (0, gs (0 + i)) := by simpa using hgm
    subst this
    rw [pcs_len, Nat.zero_add]
    exact ⟨⟨Int.le_refl 0, (show (0 : Int) ≤ 1999 by decide)⟩, hg i hl⟩
theorem take_snoc {ns : List Int} {i : Nat} {n : Int} (h : ns[i]? = some n) : ns.take i ++ [n] = ns.take (i + 1) := by
  rw [List.take_add_one, h]
  rfl
/-- straight on to the end -/
theorem gone_on {one two : Int} (h1 : 1 ≤ one) (h2 : one < two) {gs : Nat → Int} {ns : List Int} (hg : ∀ i, i < ns.length → gs i = if i + 1 < ns.length then ((i : Int) + 1) else -1) : ∀ (j i : Nat) (m : Mst), i + j + 1 = ns.length → m.fin = none → m.regs 1 = 0 → m.said = ns.take i → m.said.length ≤ 1000 → ns.length ≤ 1000 → m.looked = 6 * (i : Int) → m.done = 3 * (i : Int) →
    ∃ k m', Gone (pcs one two gs 0 ns) k m (some (i : Int)) m' ∧ m'.fin = some (.worth 0) ∧ m'.said = ns ∧ m'.cells = m.cells ∧ m'.looked = 6 * (ns.length : Int) ∧ m'.done = 3 * (ns.length : Int) := by
  intro j
  induction j with
  | zero =>
    intro i m hi hf hr hs hl hl2 hk hd
    have hn : ns[i]? = some ns[i] := List.getElem?_eq_getElem (by omega)
    have e := through6 (m := m) (n := ns[i]) (g := gs (0 + i)) (i := (i : Int)) hf hr h1 h2
    rw [Nat.zero_add, hg i (by omega), if_neg (by omega)] at e
    have e2 : wayM (one6 m one two ns[i]) (i : Int) (-1) = ({ one6 m one two ns[i] with fin := some (.worth 0) }, none) := by
      unfold wayM
      rw [if_pos rfl]
    rw [e2] at e
    refine ⟨1, { one6 m one two ns[i] with fin := some (.worth 0) }, .step (pcs_get one two gs 0 ns i _ hn) (by show m.said.length + 6 < 900000; omega) ?_, ?_, ?_, ?_, ?_, ?_⟩
    · rw [Nat.zero_add, hg i (by omega), if_neg (by omega), e]
      exact .fin
    · rfl
    · show m.said ++ [ns[i]] = ns
      rw [hs, take_snoc hn, List.take_of_length_le (by omega)]
    · rfl
    · show m.looked + 6 = _
      omega
    · show m.done + 3 = _
      omega
  | succ j ih =>
    intro i m hi hf hr hs hl hl2 hk hd
    have hn : ns[i]? = some ns[i] := List.getElem?_eq_getElem (by omega)
    have e := through6 (m := m) (n := ns[i]) (g := gs (0 + i)) (i := (i : Int)) hf hr h1 h2
    rw [Nat.zero_add, hg i (by omega), if_pos (by omega)] at e
    have e2 : wayM (one6 m one two ns[i]) (i : Int) ((i : Int) + 1) = (one6 m one two ns[i], some ((i : Int) + 1)) := by
      unfold wayM
      rw [if_neg (by omega), if_neg (by omega)]
    rw [e2] at e
    have r1 : (one6 m one two ns[i]).regs 1 = 0 := by
      show upI m.regs 0 ns[i] 1 = 0
      unfold upI
      rw [if_neg (by decide)]
      exact hr
    obtain ⟨k, m', G, p⟩ := ih (i + 1) (one6 m one two ns[i]) (by omega) hf r1 (by
      show m.said ++ [ns[i]] = _
      rw [hs, take_snoc hn]) (by
      show (m.said ++ [ns[i]]).length ≤ 1000
      rw [List.length_append, hs, List.length_take]
      show _ + 1 ≤ _
      omega) hl2 (by show m.looked + 6 = _; omega) (by show m.done + 3 = _; omega)
    refine ⟨k + 1, m', .step (pcs_get one two gs 0 ns i _ hn) (by show m.said.length + 6 < 900000; omega) ?_, p⟩
    rw [Nat.zero_add, hg i (by omega), if_pos (by omega), e]
    rw [show (((i + 1 : Nat) : Int)) = (i : Int) + 1 by omega] at G
    exact G
/-- around and around, until the fuel is out -/
theorem gone_around {one two : Int} (h1 : 1 ≤ one) (h2 : one < two) {gs : Nat → Int} {ns : List Int} {b : Nat} (hb : b < ns.length) (hl2 : ns.length ≤ 100) (hg : ∀ i, i < ns.length → gs i = if i + 1 < ns.length then ((i : Int) + 1) else (b : Int)) : ∀ (f j i : Nat) (m : Mst), f ≤ 100 → i + j + 1 = ns.length → m.fuel = (f : Int) → m.fin = none → m.regs 1 = 0 → (∀ x ∈ m.said, x ∈ ns) → m.said.length + f * 100 + j ≤ 20000 →
    ∃ k m', Gone (pcs one two gs 0 ns) k m (some (i : Int)) m' ∧ m'.fin = some .long ∧ (∀ x ∈ m'.said, x ∈ ns) ∧ m'.said.length ≤ 20001 := by
  intro f
  induction f with
  | zero =>
    intro j
    induction j with
    | zero =>
      intro i m hf0 hi hfu hf hr hs hl
      have hn : ns[i]? = some ns[i] := List.getElem?_eq_getElem (by omega)
      have e := through6 (m := m) (n := ns[i]) (g := gs (0 + i)) (i := (i : Int)) hf hr h1 h2
      rw [Nat.zero_add, hg i (by omega), if_neg (by omega)] at e
      have e2 : wayM (one6 m one two ns[i]) (i : Int) (b : Int) = ({ one6 m one two ns[i] with fin := some .long }, none) := by
        unfold wayM
        rw [if_neg (by omega), if_pos (by omega), if_pos (by exact hfu)]
      rw [e2] at e
      refine ⟨1, { one6 m one two ns[i] with fin := some .long }, .step (pcs_get one two gs 0 ns i _ hn) (by show m.said.length + 6 < 900000; omega) ?_, rfl, ?_, ?_⟩
      · rw [Nat.zero_add, hg i (by omega), if_neg (by omega), e]
        exact .fin
      · intro x hx
        have hx : x ∈ m.said ++ [ns[i]] := hx
        rcases List.mem_append.mp hx with hx | hx
        · exact hs x hx
        · rw [show x = ns[i] by simpa using hx]; exact List.getElem_mem _
      · show (m.said ++ [ns[i]]).length ≤ 20001
        rw [List.length_append]
        show _ + 1 ≤ _
        omega
    | succ j ih =>
      intro i m hf0 hi hfu hf hr hs hl
      have hn : ns[i]? = some ns[i] := List.getElem?_eq_getElem (by omega)
      have e := through6 (m := m) (n := ns[i]) (g := gs (0 + i)) (i := (i : Int)) hf hr h1 h2
      rw [Nat.zero_add, hg i (by omega), if_pos (by omega)] at e
      have e2 : wayM (one6 m one two ns[i]) (i : Int) ((i : Int) + 1) = (one6 m one two ns[i], some ((i : Int) + 1)) := by
        unfold wayM
        rw [if_neg (by omega), if_neg (by omega)]
      rw [e2] at e
      have r1 : (one6 m one two ns[i]).regs 1 = 0 := by
        show upI m.regs 0 ns[i] 1 = 0
        unfold upI
        rw [if_neg (by decide)]
        exact hr
      obtain ⟨k, m', G, p⟩ := ih (i + 1) (one6 m one two ns[i]) hf0 (by omega) hfu hf r1 (by
        intro x hx
        have hx : x ∈ m.said ++ [ns[i]] := hx
        rcases List.mem_append.mp hx with hx | hx
        · exact hs x hx
        · rw [show x = ns[i] by simpa using hx]; exact List.getElem_mem _) (by
        show (m.said ++ [ns[i]]).length + _ + _ ≤ 20000
        rw [List.length_append]
        show (_ + 1) + _ + _ ≤ _
        omega)
      refine ⟨k + 1, m', .step (pcs_get one two gs 0 ns i ns[i] hn) (by show m.said.length + 6 < 900000; omega) ?_, p⟩
      rw [Nat.zero_add, hg i (by omega), if_pos (by omega), e]
      rw [show (((i + 1 : Nat) : Int)) = (i : Int) + 1 by omega] at G
      exact G
  | succ f ihf =>
    intro j
    induction j with
    | zero =>
      intro i m hf0 hi hfu hf hr hs hl
      have hn : ns[i]? = some ns[i] := List.getElem?_eq_getElem (by omega)
      have e := through6 (m := m) (n := ns[i]) (g := gs (0 + i)) (i := (i : Int)) hf hr h1 h2
      rw [Nat.zero_add, hg i (by omega), if_neg (by omega)] at e
      have e2 : wayM (one6 m one two ns[i]) (i : Int) (b : Int) = ({ one6 m one two ns[i] with fuel := m.fuel - 1 }, some (b : Int)) := by
        unfold wayM
        rw [if_neg (by omega), if_pos (by omega), if_neg (show ¬ (one6 m one two ns[i]).fuel = 0 from fun z => by have z : m.fuel = 0 := z; omega)]
        rfl
      rw [e2] at e
      have r1 : (one6 m one two ns[i]).regs 1 = 0 := by
        show upI m.regs 0 ns[i] 1 = 0
        unfold upI
        rw [if_neg (by decide)]
        exact hr
      obtain ⟨k, m', G, p⟩ := ihf (ns.length - 1 - b) b { one6 m one two ns[i] with fuel := m.fuel - 1 } (by omega) (by omega) (by show m.fuel - 1 = _; omega) hf r1 (by
        intro x hx
        have hx : x ∈ m.said ++ [ns[i]] := hx
        rcases List.mem_append.mp hx with hx | hx
        · exact hs x hx
        · rw [show x = ns[i] by simpa using hx]; exact List.getElem_mem _) (by
        show (m.said ++ [ns[i]]).length + _ + _ ≤ 20000
        rw [List.length_append]
        show (_ + 1) + _ + _ ≤ _
        omega)
      refine ⟨k + 1, m', .step (pcs_get one two gs 0 ns i ns[i] hn) (by show m.said.length + 6 < 900000; omega) ?_, p⟩
      rw [Nat.zero_add, hg i (by omega), if_neg (by omega), e]
      exact G
    | succ j ih =>
      intro i m hf0 hi hfu hf hr hs hl
      have hn : ns[i]? = some ns[i] := List.getElem?_eq_getElem (by omega)
      have e := through6 (m := m) (n := ns[i]) (g := gs (0 + i)) (i := (i : Int)) hf hr h1 h2
      rw [Nat.zero_add, hg i (by omega), if_pos (by omega)] at e
      have e2 : wayM (one6 m one two ns[i]) (i : Int) ((i : Int) + 1) = (one6 m one two ns[i], some ((i : Int) + 1)) := by
        unfold wayM
        rw [if_neg (by omega), if_neg (by omega)]
      rw [e2] at e
      have r1 : (one6 m one two ns[i]).regs 1 = 0 := by
        show upI m.regs 0 ns[i] 1 = 0
        unfold upI
        rw [if_neg (by decide)]
        exact hr
      obtain ⟨k, m', G, p⟩ := ih (i + 1) (one6 m one two ns[i]) hf0 (by omega) hfu hf r1 (by
        intro x hx
        have hx : x ∈ m.said ++ [ns[i]] := hx
        rcases List.mem_append.mp hx with hx | hx
        · exact hs x hx
        · rw [show x = ns[i] by simpa using hx]; exact List.getElem_mem _) (by
        show (m.said ++ [ns[i]]).length + _ + _ ≤ 20000
        rw [List.length_append]
        show (_ + 1) + _ + _ ≤ _
        omega)
      refine ⟨k + 1, m', .step (pcs_get one two gs 0 ns i ns[i] hn) (by show m.said.length + 6 < 900000; omega) ?_, p⟩
      rw [Nat.zero_add, hg i (by omega), if_pos (by omega), e]
      rw [show (((i + 1 : Nat) : Int)) = (i : Int) + 1 by omega] at G
      exact G
end Kt
set_option Elab.async false
set_option linter.all false
set_option maxRecDepth 100000
set_option maxHeartbeats 8000000
namespace Kt
open PySem PySem.Spec PyProof.Rows L2 Tr
theorem FrD.tx {K : PySem.W.Frag} {H H' : Hp} {d : Addr} (D : Dice K H d) (f : Fr [d] H H') : Tx H H' := fun b xs hb => f b _ hb fun hm => by
  obtain ⟨sc, ns, i, r, q, h1, _⟩ := D.at_
  rw [show b = d by simpa using hm, h1] at hb
  cases hb
/-- x.append(e), e makes what it makes -/
theorem w_appendN {X : Cx} {o e : Expr} {σ : St} {H : Hp} {pos : Pos} {r : Addr} {vs : List V} {apos : Pos} {Q : VK} (h : ∀ Q : VK, Q (.ref r) H → WE X o σ H Q) (hr : H r = some (.lst vs)) (he : WE X e σ H fun v H2 => ∃ ws, H2 r = some (.lst ws) ∧ ws.length < 1000000 ∧ Q .non (upd H2 r (.lst (ws ++ [v]))))
    (hbase : attributeBase o "append" X.env (eval o X.env) = eval o X.env := by rfl)
    (hfew : ((backTo pos (starEach [e] X.env)).all (fun x => !x.1) && (backToKw pos (keywordEach [] X.env)).all (fun x => x.1.isSome)
      && decide (([e] : List Expr).length + ([] : List Keyword).length + (if ([] : List Keyword).isEmpty then 0 else 1) < 30)) = true := by rfl)
    (hline : (apos.endLine == pos.line) = true := by rfl) (hs : starEach [e] X.env = (false, eval e X.env) :: starEach [] X.env := by rfl) : WE X (.Call (.Attribute o "append" apos) [e] [] pos) σ H Q :=
  w_bm PySem.F.plainAttrs_list PySem.F.slot_list_append PySem.F.type_list_append mt_append (h _ ⟨.inl ⟨rfl, _, SqL.of hr⟩, wa_cons (he.mono fun v H2 ⟨ws, h1, h2, h3⟩ => wa_nil ⟨r, ws, v, rfl, rfl, h1, Nat.lt_trans h2 (by decide), h3⟩) hs⟩) hbase hfew hline hs rfl
/-- x, y = a, b, the tuple made -/
theorem ws_tw {X : Cx} {a b : Expr} {sts : List Stmt} {σ : St} {H : Hp} {D : Ends} {pos : Pos} {x y : Str} {n m kk k2 : Nat} {p1 p2 p4 pt : Pos} (hN : X.N.Nodup) (hc : X.calm = true) (h : WA X [a, b] σ H fun vs H1 => ∃ v w, vs = [v, w] ∧ ∀ p, H1 p = none → WS X sts D ((σ.set n (some v)).set m (some w)) (upd H1 p (.tup [v, w])))
    (hi : X.N[n]? = some x := by rfl) (hj : X.N[m]? = some y := by rfl) (hx : Loc X.env.scope x := by first | exact Or.inl rfl | exact Or.inr rfl) (hy : Loc X.env.scope y := by first | exact Or.inl rfl | exact Or.inr rfl)
    (hf : X.fn x = true ∨ X.env.scope.names.lookup x = some .local := by first | exact .inl rfl | exact .inr rfl) (hf2 : X.fn y = true ∨ X.env.scope.names.lookup y = some .local := by first | exact .inl rfl | exact .inr rfl)
    (hs : swapsWithSole [.Tuple [.Name x p1, .Name y p2] kk p4] (.Tuple [a, b] k2 pt) pos.line X.env = pure false := by rfl) (hw : swappedStores [.Tuple [.Name x p1, .Name y p2] kk p4] (.Tuple [a, b] k2 pt) X.env = pure none := by rfl) :
    WS X (.Assign [.Tuple [.Name x p1, .Name y p2] kk p4] (.Tuple [a, b] k2 pt) pos :: sts) D σ H :=
  ws_asg (g := gTup X.K 2 (gCons (gName n) (gCons (gName m) gNil))) (pg_tup hc (pgs_cons (pg_name (i := n) hN hi hx hf) (pgs_cons (pg_name (i := m) hN hj hy hf2) pgs_nil)))
    (w_tup (fun pos' pins s I => thn (h pos' pins s I) fun us s1 ⟨vs, H', I', r, v, w, ev, q⟩ => ⟨vs, H', I', r, by rw [ev]; exact (show 2 ≤ sizeLine by decide), fun p hp => by subst ev; exact ⟨p, [v, w], rfl, SqT.of upd_same, rfl, _, _, rfl, _, _, rfl, rfl, q p hp⟩⟩)) hs hw rfl
theorem sml_lst {k : Nat} {ds : List PyData} (h : ∀ d ∈ ds, sml k d) : sml (k + 1) (.list ds) := by
  refine ⟨?_, ?_⟩
  · have := canAll.mpr fun d hd => (h d hd).1
    exact this
  · have := depAll.mpr fun d hd => (h d hd).2
    show PyData.depthAll ds + 1 ≤ k + 1
    omega
theorem sml.shaped {k : Nat} {d : PyData} (h : sml k d) (hk : k ≤ 64) : SeqAt.shaped d = true := by
  unfold SeqAt.shaped
  rw [h.1, decide_eq_true (Nat.le_trans h.2 hk)]
  rfl
theorem sml_ints (ns : List Int) : sml 1 (.list (ns.map PyData.int)) := sml_lst fun d hd => by
  obtain ⟨i, _, rfl⟩ := List.mem_map.mp hd
  exact sml_int _
/-- what run_rows hands back, as data -/
def outD (said : List Int) (fin : Option Ef) (cells : List Int) : PyData := .tuple [.list (said.map PyData.int), finD fin, .list (cells.map PyData.int)]
theorem sml_fin (o : Option Ef) (h : ∀ x, o = some (.fault x) → PyData.canLay0 (.str x) = true) : sml 1 (finD o) := by
  match o, h with
  | none, _ => exact ⟨rfl, Nat.zero_le _⟩
  | some (.worth n), _ =>
    refine sml_tup fun d hd => ?_
    rcases List.mem_cons.mp hd with rfl | hd
    · exact sml_str (by decide +kernel)
    · rw [show d = .int n by simpa using hd]
      exact sml_int _
  | some (.fault x), h =>
    refine sml_tup fun d hd => ?_
    rcases List.mem_cons.mp hd with rfl | hd
    · exact sml_str (by decide +kernel)
    · rw [show d = .str x by simpa using hd]
      exact sml_str (h x rfl)
  | some .long, _ => exact ⟨by decide +kernel, by show 1 ≤ 1; decide⟩
theorem sml_out (said : List Int) (fin : Option Ef) (cells : List Int) (h : ∀ x, fin = some (.fault x) → PyData.canLay0 (.str x) = true) : sml 2 (outD said fin cells) := sml_tup fun d hd => by
  rcases List.mem_cons.mp hd with rfl | hd
  · exact sml_ints _
  · rcases List.mem_cons.mp hd with rfl | hd
    · exact sml_fin _ h
    · rw [show d = _ by simpa using hd]
      exact sml_ints _
theorem dp_ints {K : PySem.W.Frag} {H : Hp} {a : Addr} {ns : List Int} (h : H a = some (.lst (ns.map V.int))) : Dp K H (.ref a) (.list (ns.map PyData.int)) := .lst (SqL.of h) (ImAll.dp (ImAll.ints ns))
theorem pcs_congr {one two : Int} {gs gs' : Nat → Int} : ∀ {k : Nat} {ns : List Int}, (∀ i, k ≤ i → i < k + ns.length → gs i = gs' i) → pcs one two gs k ns = pcs one two gs' k ns
  | _, [], _ => rfl
  | k, n :: r, h => by
    show _ :: pcs one two gs (k + 1) r = _ :: pcs one two gs' (k + 1) r
    rw [h k (Nat.le_refl _) (by rw [List.length_cons]; omega), pcs_congr (k := k + 1) (ns := r) fun i h1 h2 => h i (by omega) (by rw [List.length_cons]; omega)]
theorem cut_to {xs : List V} {n : Nat} (h : n ≤ xs.length) : cutV xs none (some (n : Int)) = xs.take n := by
  unfold cutV
  rw [HT.sIx_none, HT.sIx_nat, Nat.min_eq_left h]
  rfl
def spLaw (K : PySem.W.Frag) : Sp := fun vs H Q _ => ∃ (a : Addr) (ns : List Int), vs = [.ref a] ∧ SqF K H a ns ∧ ∀ H', Q (.bl true) H'
def gsOf (N : Nat) : Nat → Int := fun i => if i + 1 < N then (i : Int) + 1 else -1
theorem w_next {X : Cx} {a b : Expr} {σ : St} {H : Hp} {pos ps : Pos} {Q : VK} {d : Addr} {many : Int} {j : Nat} (GN : Fc X.prog X.w X.K X.mg X.base 1 "_law_next" (spNext X.K)) (hr : Room j X.A) (ha : ∀ Q : VK, Q (.ref d) H → WE X a σ H Q) (hb : ∀ Q : VK, Q (.int many) H → WE X b σ H Q) (D : Dice X.K H d) (h0 : 0 < many) (h1 : many < 1073741824) (q : ∀ x H', 0 ≤ x → x < many → Fr [d] H H' → Dice X.K H' d → Q (.int x) H') (hj : 1 ≤ j := by decide) (hg : Gl X "_law_next" := by rfl)
    (he : starEach [a, b] X.env = (false, eval a X.env) :: starEach [b] X.env := by rfl) (he2 : starEach [b] X.env = [(false, eval b X.env)] := by rfl) (hpl : (backTo pos (starEach [b] X.env)).any (·.1) = false := by rfl) : WE X (.Call (.Name "_law_next" ps) [a, b] [] pos) σ H Q :=
  w_c GN hr hj (wa_cons (ha _ (wa_cons (hb _ (wa_nil ⟨d, many, rfl, h0, h1, D, q⟩)) he2)) he) hg (by decide) he hpl
section
variable {P : Program} {w : World} {K : PySem.W.Frag} {mg : Str → Option Value} {base : Heap} {cs : Cs}
theorem ok_law (T : Txt w K mg cs) {f : Addr} {fd : FuncData} (F : Fn K "law" "law" s_law f fd) : FnOk P w K mg base CX0 7 f fd ["_law_script"] (spLaw K) := by
  have GD : Fc P w K mg base 1 "_law_dice" (spDice K) := fc_dice T
  have GN : Fc P w K mg base 1 "_law_next" (spNext K) := fc_next T
  have GR : Fc P w K mg base 6 "run_rows" spRun := fc_run_rows T
  have GC : Fc P w K mg base 6 "counts" spCounts := fc_counts T
  have b1 := T.b_range
  have b2 := T.b_tuple
  refine fn_mk F sc_law (fun vs H Q E h => ?_) (fun cdv A outer s H vs Q E hr h => ?_)
  · obtain ⟨a, ns, rfl, _⟩ := h
    rfl
  · obtain ⟨a, ns, rfl, hS, q⟩ := h
    refine ws_set (i := 1) sc_law.nd (w_c GD hr (by decide) (wa_cons (w_v 0 rfl (wa_nil ⟨a, ns, rfl, hS, fun d H1 hd s1 D1 => ?_⟩))))
    refine ws_par (i := 2) (j := 3) rfl sc_law.nd (wa_cons (w_op op_add (w_int (w_next GN hr (w_vv 1 rfl) w_ival D1 (by decide) (by decide) fun x H2 x0 x1 f2 D2 => ⟨2, x, rfl, rfl, wa_cons (w_op op_add (w_int (w_next GN hr (w_vv 1 rfl) w_ival D2 (by decide) (by decide) fun y H3 y0 y1 f3 D3 => ⟨1, y, rfl, rfl, wa_nil ⟨_, _, rfl, ?_⟩⟩)))⟩))))
    refine ws_set (i := 4) sc_law.nd (w_op op_add (w_op op_add (w_v 3 rfl (w_int ⟨1 + y, 1, rfl, rfl, w_next GN hr (w_vv 1 rfl) w_ival D3 (by decide) (by decide) fun z H4 z0 z1 f4 D4 => ⟨1 + y + 1, z, rfl, rfl, ?_⟩⟩))))
    obtain ⟨one, hone⟩ : ∃ one : Int, one = 1 + y := ⟨_, rfl⟩
    obtain ⟨two, htwo⟩ : ∃ two : Int, two = one + 1 + z := ⟨_, rfl⟩
    obtain ⟨N, hN⟩ : ∃ N : Nat, (N : Int) = 2 + x := ⟨(2 + x).toNat, by omega⟩
    change WS _ _ _ [some (.ref a), some (.ref d), some (.int (2 + x)), some (.int (1 + y)), some (.int (1 + y + 1 + z)), none, none, none, none, none, none, none, none, none] H4
    rw [← hone, ← htwo, ← hN]
    have o1 : 1 ≤ one := by omega
    have o2 : one < two := by omega
    have o3 : two ≤ 1999 := by omega
    have n2 : 2 ≤ N := by omega
    have n3 : N ≤ 12 := by omega
    clear hone htwo hN x0 x1 y0 y1 z0 z1 f2 f3 f4 D1 D2 D3
    refine ws_tw (n := 5) (m := 6) sc_law.nd rfl (wa_cons (w_lst (wa_nil ⟨Nat.zero_le _, fun lp hlp => wa_cons (w_lst (wa_nil ⟨Nat.zero_le _, fun ls hls => wa_nil ⟨_, _, rfl, fun tp htp => ?_⟩⟩))⟩)))
    have s5' : Same H4 (upd (upd H4 lp (.lst [])) ls (.lst [])) := (same_new hlp).trans (same_new hls)
    have sT : Same (upd (upd H4 lp (.lst [])) ls (.lst [])) (upd (upd (upd H4 lp (.lst [])) ls (.lst [])) tp (.tup [.ref lp, .ref ls])) := same_new htp
    have s5 := s5'.trans sT
    have D5 := D4.same s5
    have e1 := sT _ _ (show (upd (upd H4 lp (.lst [])) ls (.lst [])) ls = some (.lst []) from upd_same)
    have ne1 : lp ≠ ls := fun z => by rw [← z, upd_same] at hls; cases hls
    have e2 := sT _ _ (show (upd (upd H4 lp (.lst [])) ls (.lst [])) lp = some (.lst []) by rw [upd_ne ne1]; exact upd_same)
    have dne : ∀ b, H4 b = none → b ≠ d := fun b hb z => by
      obtain ⟨sc, ns, i, r, q, h1, _⟩ := D4.at_
      rw [z, h1] at hb; cases hb
    have nd1 : lp ≠ d := dne lp hlp
    have nd2 : ls ≠ d := dne ls ((same_new hlp).free hls)
    clear s5' sT
    generalize (upd (upd (upd H4 lp (.lst [])) ls (.lst [])) tp (.tup [.ref lp, .ref ls])) = H5 at s5 D5 e1 e2
    refine ws_for1 (n := 7) sc_law.nd rfl (sv_range (n := N) b1 (dv_v 2 rfl (.int (N : Int))) (by omega)) (fun i σ' H' => (∃ o7 o8 o9, σ' = [some (.ref a), some (.ref d), some (.int (N : Int)), some (.int one), some (.int two), some (.ref lp), some (.ref ls), o7, o8, o9, none, none, none, none]) ∧ ∃ nums vs, nums.length = i ∧ (∀ n ∈ nums, n = 0 ∨ n = 11 ∨ n = 22) ∧ H' lp = some (.lst vs) ∧ ImAll H' vs ((pcs one two (gsOf N) 0 nums).map encP) ∧ H' ls = some (.lst (nums.map V.int)) ∧ Dice K H' d)
      (fun H' s' => ⟨⟨_, _, _, rfl⟩, [], [], rfl, fun _ h => (nomatch h), s' _ _ e2, .nil, s' _ _ e1, D5.same s'⟩) (fun i σ' H' H'' ⟨y1, nums, vs, y2, y3, y4, y5, y6, y7⟩ s' => ⟨y1, nums, vs, y2, y3, s' _ _ y4, y5.mono (tx_same s'), s' _ _ y6, y7.same s'⟩) ?_ ?_
    · rintro i dt v σ' H' hdt ⟨⟨o7, o8, o9, rfl⟩, nums, vs, y2, y3, y4, y5, y6, y7⟩ iv
      have hi : i < N := by
        have := (List.getElem?_eq_some_iff.mp hdt).1
        rw [List.length_map, List.length_range] at this
        exact this
      obtain rfl : dt = .int (i : Int) := by
        rw [List.getElem?_map, List.getElem?_range hi] at hdt
        exact (Option.some.inj hdt).symm
      cases im_int iv
      refine ws_set (i := 8) sc_law.nd (w_op op_mul (w_next GN hr (w_vv 1 rfl) w_ival y7 (by decide) (by decide) fun x H6 x0 x1 f6 D6 => w_int ⟨x, 11, rfl, rfl, .inr ⟨by decide, by decide⟩, ?_⟩))
      have hn : x * 11 = 0 ∨ x * 11 = 11 ∨ x * 11 = 22 := by omega
      change WS _ _ _ [some (.ref a), some (.ref d), some (.int (N : Int)), some (.int one), some (.int two), some (.ref lp), some (.ref ls), some (.int (i : Int)), some (.int (x * 11)), o9, none, none, none, none] H6
      generalize x * 11 = n at hn
      have t6 : Tx H' H6 := FrD.tx y7 f6
      have g4 := f6 _ _ y4 (by simpa using nd1)
      have g6 := f6 _ _ y6 (by simpa using nd2)
      have g5 := y5.mono t6
      -- rows
      refine ws_set (i := 9) sc_law.nd (LV.w (lv_lst (av_cons (dv_tup (av_cons (dv_v 3 rfl (.int one)) (av_cons dv_str (av_cons dv_int av_nil))) (show 3 ≤ 100000 by decide)) (av_cons (dv_tup (av_cons (dv_v 4 rfl (.int two)) (av_cons dv_str (av_cons dv_int av_nil))) (show 3 ≤ 100000 by decide)) (av_cons (dv_tup (av_cons dv_int (av_cons dv_str (av_cons dv_int (av_cons (dv_v 8 rfl (.int n)) av_nil)))) (show 4 ≤ 100000 by decide)) (av_cons (dv_tup (av_cons dv_int (av_cons dv_str (av_cons (dv_v 3 rfl (.int one)) (av_cons (dv_v 4 rfl (.int two)) (av_cons dv_int av_nil))))) (show 5 ≤ 100000 by decide)) av_nil)))) (show 4 ≤ 100000 by decide)) fun p7 v7 H7 hp7 s7 hv7 iv7 => ?_)
      refine ws_set (i := 9) sc_law.nd (w_op op_cat (w_v 9 rfl (LV.w (lv_lst (av_cons (dv_tup (av_cons (dv_v 3 rfl (.int one)) (av_cons dv_str (av_cons dv_int av_nil))) (show 3 ≤ 100000 by decide)) (av_cons (dv_tup (av_cons (dv_v 4 rfl (.int two)) (av_cons dv_str (av_cons dv_int av_nil))) (show 3 ≤ 100000 by decide)) av_nil)) (show 2 ≤ 100000 by decide)) fun p8 v8 H8 hp8 s8 hv8 iv8 => ⟨p7, p8, v7, v8, rfl, rfl, s8 _ _ hv7, hv8, ?_, fun p9 hp9 => ?_⟩)))
      · rw [iv7.length, iv8.length]
        show 4 + 2 ≤ sizeLine
        decide
      · have s9 : Same H8 (upd H8 p9 (.lst (v7 ++ v8))) := same_new hp9
        have irs : ImAll (upd H8 p9 (.lst (v7 ++ v8))) (v7 ++ v8) ((rowsOf one two n).map encR) := ((iv7.mono (tx_same s8)).append iv8).mono (tx_same s9)
        have e9 : (upd H8 p9 (.lst (v7 ++ v8))) p9 = some (.lst (v7 ++ v8)) := upd_same
        have s69 : Same H6 (upd H8 p9 (.lst (v7 ++ v8))) := (s7.trans s8).trans s9
        have hl9 : (v7 ++ v8).length = 6 := irs.length
        generalize v7 ++ v8 = v9 at s9 irs e9 s69 hl9
        generalize (upd H8 p9 (.lst v9)) = H9 at s9 irs e9 s69
        have k4 := s69 _ _ g4
        have k5 := g5.mono (tx_same s69)
        have k6 := s69 _ _ g6
        have kD := D6.same s69
        have hvl : vs.length = i := by rw [y5.length, List.length_map, pcs_len, y2]
        -- pieces.append(..)
        refine ws_expr (w_appendN (w_vv 5 rfl) k4 (w_tup (wa_cons (w_callT call_tuple_of b2 bt_tuple (wa_cons (w_v 9 rfl (wa_nil ⟨p9, v9, rfl, .inl ⟨SqL.of e9, fun q9 hq9 => ?_⟩⟩)))))))
        refine wa_cons (DV.w (dv_tup (av_cons (dv_tup (av_cons dv_int (av_cons (dv_ifx (d := .int (gsOf N i)) (tv_lt (dv_add (dv_v 7 rfl (.int (i : Int))) dv_int) (dv_v 2 rfl (.int (N : Int)))) (fun h => DV.to (dv_add (dv_v 7 rfl (.int (i : Int))) dv_int) ?_) (fun h => DV.to dv_neg ?_)) av_nil)) (show 2 ≤ 100000 by decide)) av_nil) (show 1 ≤ 100000 by decide)) fun v10 H10 s10 iv10 => ?_)
        · have h := of_decide_eq_true h
          unfold gsOf
          rw [if_pos (by omega)]
        · have h := of_decide_eq_false h
          unfold gsOf
          rw [if_neg (by omega)]
        · have s9' : Same H9 (upd H9 q9 (.tup v9)) := same_new hq9
          refine wa_nil ⟨(show 2 ≤ sizeLine by decide), fun u hu => ?_⟩
          have s11 : Same H10 (upd H10 u (.tup [.ref q9, v10])) := same_new hu
          have s9u := (s9'.trans s10).trans s11
          have iu : Im (upd H10 u (.tup [.ref q9, v10])) (.ref u) (encP (rowsOf one two n, [(0, gsOf N i)])) :=
            .tup upd_same (.cons (.tup (s11 _ _ (s10 _ _ upd_same)) (irs.mono (tx_same s9u))) (.cons (iv10.mono (tx_same s11)) .nil))
          generalize (upd H10 u (.tup [.ref q9, v10])) = H11 at s11 s9u iu
          have l4 := s9u _ _ k4
          have l5 := k5.mono (tx_same s9u)
          have l6 := s9u _ _ k6
          have lD := kD.same s9u
          refine ⟨vs, l4, by rw [hvl]; omega, ?_⟩
          have t12 : Tx H11 (upd H11 lp (.lst (vs ++ [.ref u]))) := tx_mut (Tx.refl _) fun xs z => by rw [l4] at z; cases z
          have mD : Dice K (upd H11 lp (.lst (vs ++ [.ref u]))) d := lD.put nd1 fun o u z => by rw [l4] at z; cases z
          have m4 : (upd H11 lp (.lst (vs ++ [.ref u]))) lp = some (.lst (vs ++ [.ref u])) := upd_same
          have m6 : (upd H11 lp (.lst (vs ++ [.ref u]))) ls = some (.lst (nums.map V.int)) := by rw [upd_ne ne1.symm]; exact l6
          have m5 : ImAll (upd H11 lp (.lst (vs ++ [.ref u]))) (vs ++ [.ref u]) ((pcs one two (gsOf N) 0 (nums ++ [n])).map encP) := by
            rw [pcs_snoc, List.map_append, Nat.zero_add, y2]
            exact (l5.mono t12).append (.cons (iu.mono t12) .nil)
          have tx12 : Tx H' (upd H11 lp (.lst (vs ++ [.ref u]))) := (t6.trans (tx_same (s69.trans s9u))).trans t12
          generalize (upd H11 lp (.lst (vs ++ [.ref u]))) = H12 at mD m4 m5 m6 tx12
          refine ws_expr (w_appendN (w_vv 6 rfl) m6 (DV.v (v := .int n) rfl (dv_ifx (d := .int n) (tv_gt (dv_v 8 rfl (.int n)) dv_int) (fun _ => dv_v 8 rfl (.int n)) (fun h => DV.to dv_int (by
            have h := of_decide_eq_false h
            rw [show n = 0 by omega]))) fun H13 s13 => ⟨_, s13 _ _ m6, by rw [List.length_map, y2]; omega, ?_⟩))
          have m6' := s13 _ _ m6
          have t13 : Tx H13 (upd H13 ls (.lst (nums.map V.int ++ [.int n]))) := tx_mut (Tx.refl _) fun xs z => by rw [m6'] at z; cases z
          refine ws_nil ⟨(tx12.trans (tx_same s13)).trans t13, ⟨_, _, _, rfl⟩, nums ++ [n], vs ++ [.ref u], by rw [List.length_append, y2]; rfl, fun k hk => ?_, ?_, (m5.mono (tx_same s13)).mono t13, ?_, (mD.same s13).put nd2 fun o u z => by rw [m6'] at z; cases z⟩
          · rcases List.mem_append.mp hk with hk | hk
            · exact y3 k hk
            · rw [show k = n by simpa using hk]; exact hn
          · rw [upd_ne ne1]; exact s13 _ _ m4
          · rw [List.map_append]; exact upd_same
    · rintro σ' H' ⟨⟨o7, o8, o9, rfl⟩, nums, vs, y2, y3, y4, y5, y6, y7⟩
      rw [List.length_map, List.length_range] at y2
      have hin : ∀ n ∈ nums, inR n := fun n hn => by
        have := y3 n hn
        unfold inR
        omega
      have hgs : ∀ i, i < nums.length → gsOf N i = if i + 1 < nums.length then ((i : Int) + 1) else -1 := fun i hi => by
        unfold gsOf
        rw [y2]
      have ok1 : PsOk (pcs one two (gsOf N) 0 nums) := pcs_ok o1 o2 o3 hin (by omega) (by omega) fun i hi => by
        rw [hgs i hi]
        split <;> omega
      obtain ⟨k1, m1, G1, r1, r2, r3, r4, r5⟩ := gone_on o1 o2 hgs (nums.length - 1) 0 (initM [] 0) (by omega) rfl (by rfl) (by simp [initM]) (by show 0 ≤ 1000; decide) (by omega) rfl rfl
      -- tested
      refine ws_set (i := 10) sc_law.nd (w_tup (wa_cons (w_int (wa_cons (w_int (wa_cons (w_callT call_tuple_of b2 bt_tuple (wa_cons (w_v 5 rfl (wa_nil ⟨lp, vs, rfl, .inl ⟨SqL.of y4, fun tp htp => wa_nil ⟨(show 3 ≤ sizeLine by decide), fun u hu => ?_⟩⟩⟩))))))))))
      have s1' : Same H' (upd H' tp (.tup vs)) := same_new htp
      have s2' : Same (upd H' tp (.tup vs)) (upd (upd H' tp (.tup vs)) u (.tup [.int 0, .int 2, .ref tp])) := same_new hu
      have iT : Im (upd (upd H' tp (.tup vs)) u (.tup [.int 0, .int 2, .ref tp])) (.ref u) (encT 0 2 (pcs one two (gsOf N) 0 nums)) :=
        .tup upd_same (.cons (.int 0) (.cons (.int 2) (.cons (.tup (s2' _ _ upd_same) (y5.mono (tx_same (s1'.trans s2')))) .nil)))
      have s12 := s1'.trans s2'
      clear s1' s2'
      generalize (upd (upd H' tp (.tup vs)) u (.tup [.int 0, .int 2, .ref tp])) = J1 at s12 iT
      have z6 := s12 _ _ y6
      -- run_rows(..) != ..
      refine ws_if (t_cmp (op_neD hr.units) (w_c GR hr (by decide) (wa_cons (w_v 10 rfl (wa_cons (w_lst (wa_nil ⟨Nat.zero_le _, fun l hl => wa_cons (w_int (wa_nil ?_))⟩)))))))
      have sl : Same J1 (upd J1 l (.lst [])) := same_new hl
      refine ⟨.ref u, l, [], 0, 2, _, k1, m1, rfl, ⟨⟨iT.mono (tx_same sl), upd_same, by decide, fun _ h => (nomatch h), ok1⟩, by decide, by decide, by decide, by decide⟩, G1, fun u2 sd c2 e2 J2 sm hu2 hs2 he2 hc2 _ _ _ => ?_⟩
      have s13 := sl.trans sm
      refine w_tup (wa_cons (w_v 6 rfl (wa_cons (DV.w (dv_tup (av_cons dv_str (av_cons dv_int av_nil)) (show 2 ≤ 100000 by decide)) fun v3 J3 s3 iv3 => wa_cons (w_op op_rep (w_lst (wa_cons (w_int (wa_nil ⟨(show 1 ≤ sizeLine by decide), fun lz hlz => w_int ⟨lz, 16, [.int 0], rfl, rfl, upd_same, by decide, by decide, by decide, fun lc hlc => wa_nil ⟨(show 3 ≤ sizeLine by decide), fun ut hut => ?_⟩⟩⟩)))))))))
      have q1 : Same J3 (upd J3 lz (.lst [.int 0])) := same_new hlz
      have q2 : Same (upd J3 lz (.lst [.int 0])) (upd (upd J3 lz (.lst [.int 0])) lc (.lst (List.replicate (16 : Int).toNat [V.int 0]).flatten)) := same_new hlc
      have q3 : Same (upd (upd J3 lz (.lst [.int 0])) lc (.lst (List.replicate (16 : Int).toNat [V.int 0]).flatten)) (upd (upd (upd J3 lz (.lst [.int 0])) lc (.lst (List.replicate (16 : Int).toNat [V.int 0]).flatten)) ut (.tup [.ref ls, v3, .ref lc])) := same_new hut
      have qq := (q1.trans q2).trans q3
      have c16 : (upd (upd J3 lz (.lst [.int 0])) lc (.lst (List.replicate (16 : Int).toNat [V.int 0]).flatten)) lc = some (.lst ((List.replicate 16 (0 : Int)).map V.int)) := upd_same
      have eut : (upd (upd (upd J3 lz (.lst [.int 0])) lc (.lst (List.replicate (16 : Int).toNat [V.int 0]).flatten)) ut (.tup [.ref ls, v3, .ref lc])) ut = some (.tup [.ref ls, v3, .ref lc]) := upd_same
      have c17 := q3 _ _ c16
      clear c16 q1 q2 q3
      generalize (upd (upd (upd J3 lz (.lst [.int 0])) lc (.lst (List.replicate (16 : Int).toNat [V.int 0]).flatten)) ut (.tup [.ref ls, v3, .ref lc])) = J4 at qq c17 eut
      have s34 := s3.trans qq
      have s14 := s13.trans s34
      rw [r2] at hs2
      rw [r1] at he2
      rw [show m1.cells = List.replicate 16 0 from r3] at hc2
      have dOk := sml_out nums (some (.worth 0)) (List.replicate 16 0) (fun x h => by cases h)
      refine ⟨outD nums (some (.worth 0)) (List.replicate 16 0), outD nums (some (.worth 0)) (List.replicate 16 0), .tup (SqT.of (s34 _ _ hu2)) (.cons (dp_ints (s34 _ _ hs2)) (.cons (Im.dp (he2.mono (tx_same s34))) (.cons (dp_ints (s34 _ _ hc2)) .nil))), .tup (SqT.of eut) (.cons (dp_ints (s14 _ _ z6)) (.cons (Im.dp (iv3.mono (tx_same qq))) (.cons (dp_ints c17) .nil))), dOk.shaped (by decide), dOk.shaped (by decide), _, rfl, ?_⟩
      rw [PySem.SeqAt.eqv_refl _ dOk.1]
      refine iteF (ws_nil ?_)
      have i14 := iT.mono (tx_same s14)
      have hJ4lp := s14 _ _ (s12 _ _ y4)
      have hJ4vs := y5.mono (tx_same (s12.trans s14))
      have hJ4ls := s14 _ _ z6
      have hJ4D := y7.same (s12.trans s14)
      clear hs2 he2 hc2 hu2 s34 s14 s13 c17 eut qq s3 iv3 sm sl hl hut hlc hlz z6
      -- counts(..) != ..
      refine ws_if (t_cmp (op_neD hr.units) (w_c GC hr (by decide) (wa_cons (w_v 10 rfl (wa_cons (w_lst (wa_nil ⟨Nat.zero_le _, fun l hl => wa_cons (w_int (wa_nil ?_))⟩)))))))
      have sl : Same J4 (upd J4 l (.lst [])) := same_new hl
      refine ⟨.ref u, l, [], 0, 2, _, k1, m1, rfl, ⟨⟨i14.mono (tx_same sl), upd_same, by decide, fun _ h => (nomatch h), ok1⟩, by decide, by decide, by decide, by decide⟩, G1, fun v5 J5 sm iv5 => ?_⟩
      rw [r4, r5] at iv5
      refine DV.w (dv_tup (av_cons (dv_mul dv_int (dv_v 2 rfl (.int (N : Int))) (.inl ⟨by decide, by decide⟩)) (av_cons (dv_mul dv_int (dv_v 2 rfl (.int (N : Int))) (.inl ⟨by decide, by decide⟩)) av_nil)) (show 2 ≤ 100000 by decide)) fun v6 J6 s6 iv6 => ?_
      have dOk2 : sml 1 (.tuple [.int (6 * (N : Int)), .int (3 * (N : Int))]) := sml_tup fun d hd => by
        rcases List.mem_cons.mp hd with rfl | hd
        · exact sml_int _
        · rw [show d = _ by simpa using hd]; exact sml_int _
      rw [y2] at iv5
      refine ⟨_, _, Im.dp (iv5.mono (tx_same s6)), Im.dp iv6, dOk2.shaped (by decide), dOk2.shaped (by decide), _, rfl, ?_⟩
      rw [PySem.SeqAt.eqv_refl _ dOk2.1]
      refine iteF (ws_nil ?_)
      have s46 := (sl.trans sm).trans s6
      have hlp := s46 _ _ hJ4lp
      have hvs := hJ4vs.mono (tx_same s46)
      have hls := s46 _ _ hJ4ls
      have hD := hJ4D.same s46
      clear hJ4lp hJ4vs hJ4ls hJ4D
      obtain ⟨ini, ln, hnums⟩ : ∃ ini ln, nums = ini ++ [ln] := ⟨nums.dropLast, nums.getLast (by intro z; rw [z] at y2; simp at y2; omega), (List.dropLast_concat_getLast _).symm⟩
      have hil : ini.length = N - 1 := by
        rw [hnums, List.length_append] at y2
        have : ini.length + 1 = N := y2
        omega
      have hp0 : (pcs one two (gsOf N) 0 nums).map encP = (pcs one two (gsOf N) 0 ini).map encP ++ [encP (rowsOf one two ln, [(0, gsOf N (0 + ini.length))])] := by
        rw [hnums, pcs_snoc, List.map_append]
        rfl
      have hvl : vs.length = N := by rw [hvs.length, List.length_map, pcs_len, y2]
      obtain ⟨vl, hvl1, ivl⟩ := hvs.get (i := N - 1) (d := encP (rowsOf one two ln, [(0, gsOf N (0 + ini.length))])) (by
        rw [hp0, List.getElem?_append_right (by rw [List.length_map, pcs_len, hil]; exact Nat.le_refl _), List.length_map, pcs_len, hil, Nat.sub_self]
        rfl)
      have hNi : ((N : Int) - 1) = ((N - 1 : Nat) : Int) := by omega
      have htk : ImAll J6 (vs.take (N - 1)) ((pcs one two (gsOf N) 0 ini).map encP) := by
        have := hvs.take (N - 1)
        have e : ((pcs one two (gsOf N) 0 ini).map encP ++ [encP (rowsOf one two ln, [(0, gsOf N (0 + ini.length))])]).take (N - 1) = (pcs one two (gsOf N) 0 ini).map encP := by
          rw [← hil, ← pcs_len one two (gsOf N) 0 ini, ← List.length_map (as := pcs one two (gsOf N) 0 ini) encP, List.take_left]
        rw [hp0, e] at this
        exact this
      refine ws_set (i := 11) sc_law.nd (w_item (w_vv 5 rfl) (SqL.of hlp) (fun Q' q' => w_op op_sub (w_v 2 rfl (w_int ⟨(N : Int), 1, rfl, rfl, q'⟩))) (hNi ▸ atI_nat hvl1) ?_)
      refine ws_set (i := 12) sc_law.nd (w_tup (wa_cons (w_int (wa_cons (w_int (wa_cons (w_op op_catT ?_)))))))
      refine w_callT call_tuple_of b2 bt_tuple (wa_cons (w_sl sl_list po_none (po_some peW) (w_v 5 rfl (w_op op_sub (w_v 2 rfl (w_int ⟨(N : Int), 1, rfl, rfl, (N : Int) - 1, rfl, lp, vs, rfl, SqL.of hlp, fun p hp => wa_nil ⟨p, _, rfl, .inl ⟨SqL.of upd_same, fun t1 ht1 => ?_⟩⟩⟩))))))
      have ecut : cutV vs none (some ((N : Int) - 1)) = vs.take (N - 1) := by rw [hNi]; exact cut_to (by omega)
      rw [ecut]
      rw [ecut] at ht1
      have u1 : Same J6 (upd J6 p (.lst (vs.take (N - 1)))) := same_new hp
      have u2 : Same (upd J6 p (.lst (vs.take (N - 1)))) (upd (upd J6 p (.lst (vs.take (N - 1)))) t1 (.tup (vs.take (N - 1)))) := same_new ht1
      have u12 := u1.trans u2
      have et1 : (upd (upd J6 p (.lst (vs.take (N - 1)))) t1 (.tup (vs.take (N - 1)))) t1 = some (.tup (vs.take (N - 1))) := upd_same
      clear u1 u2
      generalize (upd (upd J6 p (.lst (vs.take (N - 1)))) t1 (.tup (vs.take (N - 1)))) = J7 at u12 et1
      refine w_tup (wa_cons (w_tup (wa_cons (DV.w (dv_ix (dv_v 11 rfl (ivl.mono (tx_same u12))) dv_int (atI_nat (j := 0) rfl)) fun v8 J8 s8 iv8 => wa_cons (w_tup (wa_cons (w_tup (wa_cons (w_int (wa_cons (w_next GN hr (w_vv 1 rfl) (w_vv 2 rfl) (hD.same (u12.trans s8)) (by omega) (by omega) fun x J9 x0 x1 f9 D9 => wa_nil ⟨(show 2 ≤ sizeLine by decide), fun g1 hg1 => wa_nil ⟨(show 1 ≤ sizeLine by decide), fun g2 hg2 => wa_nil ⟨(show 2 ≤ sizeLine by decide), fun g3 hg3 => wa_nil ⟨(show 1 ≤ sizeLine by decide), fun g4 hg4 => ?_⟩⟩⟩⟩)))))))))))
      have D8 := hD.same (u12.trans s8)
      have t9 : Tx J8 J9 := FrD.tx D8 f9
      have a1 := t9 _ _ (s8 _ _ et1)
      have a2 := (((htk.mono (tx_same u12)).mono (tx_same s8)).mono t9)
      have a3 := iv8.mono t9
      have nls : ls ∉ [d] := by simpa using nd2
      have a4 := f9 _ _ (s8 _ _ (u12 _ _ hls)) nls
      have w1 : Same J9 (upd J9 g1 (.tup [.int 0, .int x])) := same_new hg1
      have w2 : Same (upd J9 g1 (.tup [.int 0, .int x])) (upd (upd J9 g1 (.tup [.int 0, .int x])) g2 (.tup [.ref g1])) := same_new hg2
      have w3 : Same (upd (upd J9 g1 (.tup [.int 0, .int x])) g2 (.tup [.ref g1])) (upd (upd (upd J9 g1 (.tup [.int 0, .int x])) g2 (.tup [.ref g1])) g3 (.tup [v8, .ref g2])) := same_new hg3
      have w4 : Same (upd (upd (upd J9 g1 (.tup [.int 0, .int x])) g2 (.tup [.ref g1])) g3 (.tup [v8, .ref g2])) (upd (upd (upd (upd J9 g1 (.tup [.int 0, .int x])) g2 (.tup [.ref g1])) g3 (.tup [v8, .ref g2])) g4 (.tup [.ref g3])) := same_new hg4
      have ww := ((w1.trans w2).trans w3).trans w4
      have ig3 : Im (upd (upd (upd (upd J9 g1 (.tup [.int 0, .int x])) g2 (.tup [.ref g1])) g3 (.tup [v8, .ref g2])) g4 (.tup [.ref g3])) (.ref g3) (encP (rowsOf one two ln, [(0, x)])) :=
        .tup (w4 _ _ upd_same) (.cons (a3.mono (tx_same ww)) (.cons (.tup ((w3.trans w4) _ _ upd_same) (.cons (.tup (((w2.trans w3).trans w4) _ _ upd_same) (.cons (.int 0) (.cons (.int x) .nil))) .nil)) .nil))
      have eg4 : (upd (upd (upd (upd J9 g1 (.tup [.int 0, .int x])) g2 (.tup [.ref g1])) g3 (.tup [v8, .ref g2])) g4 (.tup [.ref g3])) g4 = some (.tup [.ref g3]) := upd_same
      clear w1 w2 w3 w4
      generalize (upd (upd (upd (upd J9 g1 (.tup [.int 0, .int x])) g2 (.tup [.ref g1])) g3 (.tup [v8, .ref g2])) g4 (.tup [.ref g3])) = J10 at ww ig3 eg4
      have ltk : (vs.take (N - 1)).length = N - 1 := by rw [List.length_take]; omega
      refine ⟨t1, g4, vs.take (N - 1), [.ref g3], rfl, rfl, SqT.of (ww _ _ a1), SqT.of eg4, fun z => by rw [z] at ltk; simp at ltk; omega, by rw [ltk]; exact Nat.le_trans (show N - 1 + 1 ≤ 100 by omega) (by decide), fun z => (by cases z), fun _ ta hta => wa_nil ⟨(show 3 ≤ sizeLine by decide), fun ua hua => ?_⟩⟩
      obtain ⟨b, hb⟩ : ∃ b : Nat, x = (b : Int) := ⟨x.toNat, by omega⟩
      subst hb
      have hbN : b < N := by omega
      let gs' : Nat → Int := fun i => if i + 1 < N then (i : Int) + 1 else (b : Int)
      have hgs' : ∀ i, i < nums.length → gs' i = if i + 1 < nums.length then ((i : Int) + 1) else (b : Int) := fun i hi => by rw [y2]
      have hp1 : (pcs one two gs' 0 nums).map encP = (pcs one two (gsOf N) 0 ini).map encP ++ [encP (rowsOf one two ln, [(0, (b : Int))])] := by
        rw [hnums, pcs_snoc, List.map_append, pcs_congr (gs := gs') (gs' := gsOf N) (k := 0) (ns := ini) fun i h1 h2 => by
          show (if i + 1 < N then (i : Int) + 1 else (b : Int)) = if i + 1 < N then (i : Int) + 1 else -1
          rw [if_pos (by omega), if_pos (by omega)]]
        have : gs' (0 + ini.length) = (b : Int) := by
          show (if 0 + ini.length + 1 < N then ((0 + ini.length : Nat) : Int) + 1 else (b : Int)) = b
          rw [if_neg (by omega)]
        rw [this]
        rfl
      have w1 : Same J10 (upd J10 ta (.tup (vs.take (N - 1) ++ [.ref g3]))) := same_new hta
      have w2 : Same (upd J10 ta (.tup (vs.take (N - 1) ++ [.ref g3]))) (upd (upd J10 ta (.tup (vs.take (N - 1) ++ [.ref g3]))) ua (.tup [.int 0, .int 2, .ref ta])) := same_new hua
      have iA : Im (upd (upd J10 ta (.tup (vs.take (N - 1) ++ [.ref g3]))) ua (.tup [.int 0, .int 2, .ref ta])) (.ref ua) (encT 0 2 (pcs one two gs' 0 nums)) := by
        unfold encT
        rw [hp1]
        exact .tup upd_same (.cons (.int 0) (.cons (.int 2) (.cons (.tup (w2 _ _ upd_same) (((a2.mono (tx_same ww)).append (.cons ig3 .nil)).mono (tx_same (w1.trans w2)))) .nil)))
      have w12 := w1.trans w2
      clear w1 w2
      generalize (upd (upd J10 ta (.tup (vs.take (N - 1) ++ [.ref g3]))) ua (.tup [.int 0, .int 2, .ref ta])) = J11 at w12 iA
      have b4 := w12 _ _ (ww _ _ a4)
      have bD := D9.same (ww.trans w12)
      have ok2 : PsOk (pcs one two gs' 0 nums) := pcs_ok o1 o2 o3 hin (by omega) (by omega) fun i hi => by
        rw [hgs' i hi]
        split <;> omega
      refine ws_set (i := 13) sc_law.nd (w_c GR hr (by decide) (wa_cons (w_v 12 rfl (wa_cons (w_lst (wa_nil ⟨Nat.zero_le _, fun l hl => wa_cons (w_op op_add (w_int (w_next GN hr (w_vv 1 rfl) w_ival (bD.same (same_new hl)) (by decide) (by decide) fun y J12 y0 y1 f12 D12 => ⟨5, y, rfl, rfl, wa_nil ?_⟩)))⟩))))))
      have sl : Same J11 (upd J11 l (.lst [])) := same_new hl
      have bDl := bD.same sl
      have lne : l ∉ [d] := by
        have : l ≠ d := fun z => by
          obtain ⟨sc, ns, i, r, q, h1, _⟩ := bD.at_
          rw [z, h1] at hl; cases hl
        simpa using this
      obtain ⟨fu, hfu⟩ : ∃ fu : Nat, 5 + y = (fu : Int) := ⟨(5 + y).toNat, by omega⟩
      change spRun [.ref ua, .ref l, .int (5 + y)] J12 _ _
      rw [hfu]
      obtain ⟨k2, m2, G2, r6, r7, r8⟩ := gone_around o1 o2 (b := b) (by omega) (by omega) hgs' fu (nums.length - 1) 0 (initM [] (fu : Int)) (by omega) (by omega) rfl rfl (by rfl) (fun x h => by cases h) (by show 0 + fu * 100 + _ ≤ 20000; omega)
      have t12 := (tx_same sl).trans (FrD.tx bDl f12)
      refine ⟨.ref ua, l, [], (fu : Int), 2, _, k2, m2, rfl, ⟨⟨iA.mono t12, f12 _ _ upd_same lne, by decide, fun _ h => (nomatch h), ok2⟩, by omega, by omega, by decide, by decide⟩, G2, fun u3 sd c3 e3 J13 sm hu3 hs3 he3 hc3 _ _ _ => ?_⟩
      have b5 := sm _ _ (f12 _ _ (sl _ _ b4) nls)
      rw [r6] at he3
      refine ws_ret (w_and (w_cmp (op_eqD hr.units) (w_ix ix_tup (w_v 13 rfl (w_int ⟨u3, _, 1, e3, rfl, rfl, SqT.of hu3, atI_nat (j := 1) rfl, ?_⟩)))))
      refine DV.w (dv_tup (av_cons dv_str av_nil) (show 1 ≤ 100000 by decide)) fun v14 J14 s14 iv14 => ?_
      have dl : sml 1 (.tuple [.str "long"]) := sml_fin (some .long) (fun x h => by cases h)
      refine ⟨_, _, Im.dp (he3.mono (tx_same s14)), Im.dp iv14, dl.shaped (by decide), dl.shaped (by decide), ?_⟩
      refine ⟨_, rfl, ?_⟩
      rw [show PyData.eqv (finD (some .long)) (.tuple [.str "long"]) = true from PySem.SeqAt.eqv_refl _ dl.1]
      refine iteT (w_one ?_)
      have hu4 := s14 _ _ hu3
      have hs4 := s14 _ _ hs3
      have b6 := s14 _ _ b5
      let tst : PyData → Bool := fun d => match d with
        | .int i => !inV (.int i) (nums.map V.int)
        | _ => false
      have hinv : ∀ i : Int, i ∈ nums → inV (.int i) (nums.map V.int) = true := fun i hi => List.any_eq_true.mpr ⟨.int i, List.mem_map.mpr ⟨i, hi, rfl⟩, by show decide (i = i) = true; exact decide_eq_true rfl⟩
      have hcomp : comp tst id (m2.said.map PyData.int) = [] := by
        unfold comp
        rw [List.filter_eq_nil_iff.mpr fun d hd => ?_]
        · rfl
        · obtain ⟨i, hi, rfl⟩ := List.mem_map.mp hd
          show ¬ (!inV (.int i) (nums.map V.int)) = true
          rw [hinv i (r7 i hi)]
          exact Bool.false_ne_true
      refine w_cmp (op_eqD hr.units) (w_lcA1 (n := 8) tst id rfl sc_law.nd (blkOk_by (N := N_law) (sc := defScope s_law) (by decide +kernel)) (sv_lst (r := sd) (ds := m2.said.map PyData.int) (fun Q' q' => w_ix ix_tup (w_v 13 rfl (w_int ⟨u3, _, 0, .ref sd, rfl, rfl, SqT.of hu4, atI_nat (j := 0) rfl, q'⟩))) (SqL.of hs4) (ImAll.ints _)) (by rw [List.length_map]; omega) (fun J d v hd t3 iv => ?_) (fun J d v hd t3 iv _ => fun _ _ _ _ _ Q' q' => (dv_v 8 rfl iv).w q') fun p5 ws J15 hp5 s15 hl5 iws => ?_)
      · obtain ⟨i, hi, rfl⟩ := List.mem_map.mp hd
        cases im_int iv
        intro s H0 C cl fp B qB
        exact t_cmp op_notIn_seq (w_v 8 rfl (w_v 6 rfl ⟨ls, nums.map V.int, rfl, .inl (SqL.of (t3 _ _ b6)), rfl, List.all_eq_true.mpr fun z hz => by
          obtain ⟨k, _, rfl⟩ := List.mem_map.mp hz
          rfl, _, rfl, qB _ (Same.refl _)⟩))
      · rw [hcomp] at iws
        cases iws.none
        refine w_lst (wa_nil ⟨Nat.zero_le _, fun r6 hr6 => ?_⟩)
        have s16 : Same J15 (upd J15 r6 (.lst [])) := same_new hr6
        refine ⟨.list [], .list [], .lst (SqL.of (s16 _ _ hl5)) .nil, .lst (SqL.of upd_same) .nil, by decide, by decide, q _⟩
end
end Kt
set_option Elab.async false
set_option linter.all false
set_option maxRecDepth 100000
set_option maxHeartbeats 0
open PySem PySem.W PySem.Calls PyProof.Rows
theorem PySem.Challenge.cw_testedrows_k47_whole_no_test_at_a_begin_holds : PySem.Challenge.rw_testedrows_k47_whole_no_test_at_a_begin.Holds := by
  w_on; o_law
  refine HandSHeadRun.head_any (r := OpenLaw.row PySem.Challenge.rw_testedrows_k47_whole_no_test_at_a_begin) (q := view (OpenLaw.row PySem.Challenge.rw_testedrows_k47_whole_no_test_at_a_begin).prog [38]) (H := Kt.hk) (ob := Kt.ob) (M := 60000) (loose := Kt.loose) (d := HandSHeadRun.topDef (OpenLaw.row PySem.Challenge.rw_testedrows_k47_whole_no_test_at_a_begin).prog 38) (kwd := []) Kt.ob_eq
    (by kernel_rfl) (fun s => by kernel_rfl) Kt.run (by kernel_rfl) (by kernel_rfl) (by kernel_rfl) (by rfl) (by first | assumption | decide +kernel) (by decide +kernel) ⟨rfl, rfl, rfl, rfl, rfl, by decide +kernel⟩ ?hw ?hc
  case hw => w_witness2
  case hc =>
    refine L2.walk_ofE (l := PySem.Challenge.rw_testedrows_k47_whole_no_test_at_a_begin) (n := 63) (k := 7) (x := "_law_script") (CX := L2.CX0) rfl (by decide) (by kernel_rfl) ⟨rfl, by decide, by decide⟩ ?F (fun _ _ _ _ z => z)
    intro w mg fa h Y G hmg0
    obtain ⟨K, KX, c⟩ := Y
    have hmg : mg ("law" : PySem.Str) = some (.ref fa) := by
      have e : (HandSHeadRun.topDef (OpenLaw.row PySem.Challenge.rw_testedrows_k47_whole_no_test_at_a_begin).prog 38).name = ("law" : PySem.Str) := by kernel_rfl
      rw [← e]
      exact hmg0
    have T := Kt.txt_of KX G c
    obtain ⟨f, fd, F, g⟩ := T.f_law
    have e := hmg.symm.trans g
    cases e
    have b := L2.FunD.bindsA (ps := ["_law_script"]) F Kt.bd_law
    exact ⟨K, fd, Kt.spLaw K, KX, fun s v => b s [v] rfl, fun H a ns hl hO hS => ⟨a, ns, rfl, Kt.SqF.of hO hS, fun _ => rfl⟩, fun base _ _ => Kt.ok_law T F⟩
