import PyProof.Rows.All
import Wide.All
import OpenK.AllK
import Wide.FinOn
import KE.KStateDown
import KE.GoesNew
import HandS.ForMost
import HandS.Walk
import HandS.IsInst
import HandS.More
import HandS.Codes
import HandS.TupAny
import HandS.Flow
import HandS.HeadHook4
import HandS.HeadEnd
import HandS.HeadWalk
import HandS.Head0
import HandS.Head1
import HandS.Head2
import HandS.Style
import HandS.SetFor
import HandS.Small
import PySem.Challenge.RW_testedrows_k11_whole_nobody_reads_them
set_option Elab.async false
set_option linter.all false
set_option maxRecDepth 100000
set_option maxHeartbeats 4000000
/-! iterators of several sources: enumerate and zip over a list, a tuple, a text -/
namespace Tr
open PySem PySem.Spec PyProof.Rows L2
abbrev St := L2.St

/-- what is walked: a list, a tuple, a text -/
inductive Src where
  | lst (a : Addr)
  | tup (a : Addr)
  | txt (z : Str)
def Src.v : Src → V
  | .lst a => .ref a
  | .tup a => .ref a
  | .txt z => .str z
def signs (z : Str) : List V := z.cps.toList.map fun c => .str ⟨#[c]⟩
def Src.has (K : PySem.W.Frag) (H : Hp) : Src → List V → Prop
  | .lst a, xs => SqL K H a xs
  | .tup a, xs => SqT K H a xs
  | .txt z, xs => xs = signs z
/-- its iterator at turn i -/
def Src.itr : Src → Addr → Nat → Heap → Prop
  | .lst a, it, i, h => h.IsListIter it a i ∧ a ≠ it
  | .tup a, it, i, h => h.IsTupleIter it a i ∧ a ≠ it
  | .txt z, it, i, h => ∃ t, h.IsStrIter it (strIterType z) z t i
theorem Src.itr_obj {s : Src} {it : Addr} {i : Nat} {h : Heap} (x : s.itr it i h) : ∃ o, h.get? it = some o ∧ ∀ v, o.data ≠ .cell v := by
  cases s with
  | lst a =>
    obtain ⟨⟨o, e, c, d⟩, _⟩ := x
    exact ⟨o, e, fun v z => by rw [d] at z; cases z⟩
  | tup a =>
    obtain ⟨⟨o, e, c, d⟩, _⟩ := x
    exact ⟨o, e, fun v z => by rw [d] at z; cases z⟩
  | txt z =>
    obtain ⟨t, o, e, c, d⟩ := x
    exact ⟨o, e, fun v z => by rw [d] at z; cases z⟩
theorem Src.itr_keep {s : Src} {it : Addr} {i : Nat} {h h' : Heap} (x : s.itr it i h) (k : ∀ o, h.get? it = some o → h'.get? it = some o) : s.itr it i h' := by
  cases s with
  | lst a => exact ⟨x.1.at k, x.2⟩
  | tup a => exact ⟨x.1.at k, x.2⟩
  | txt z =>
    obtain ⟨t, o, e, c⟩ := x
    exact ⟨t, o, k o e, c⟩
/-- what the library's Draws needs: cells, number, what is drawn, state -/
structure DrawsAt (P : Program) (w : World) (A : Around) (s : Src) (xs : List V) (it : Addr) (i : Nat) (h : Heap) (fp : List Addr) (Pd : Nat → Value → Prop) (Sd : Nat → Heap → Prop) : Prop where
  D : Draws P w A it fp xs.length Pd Sd
  mem : it ∈ fp
  now : Sd i h
  drew : ∀ j u, Pd j u → ∃ x, xs[j]? = some x ∧ RelV x u
  back : ∀ j h', Sd j h' → s.itr it j h'
  old : ∀ b ∈ fp, b ≠ it → ∃ o, h.get? b = some o
  tracked : ∀ b ∈ fp, b ≠ it → b = it ∨ s.v = .ref b
theorem relV_at {xs : List V} {its : List Value} (r : Vals xs its) {j : Nat} {u : Value} (e : its.toArray[j]? = some u) : ∃ x, xs[j]? = some x ∧ RelV x u := by
  have e2 : its[j]? = some u := by simpa using e
  have hl := r.length
  have hj : j < xs.length := by
    have := (List.getElem?_eq_some_iff.mp e2).1
    omega
  obtain ⟨u', h1, h2⟩ := r.get (i := j) (x := xs[j]) (by simp [hj])
  rw [e2] at h1
  cases h1
  exact ⟨xs[j], by simp [hj], h2⟩
theorem draws_of {X : Cx} {pins : List (Addr × Obj)} {σ : St} {H : Hp} {s : Shared} {A : Around} {c : Src} {xs : List V} {it : Addr} {i : Nat} (I : Inv X pins σ H s) (hh : A.handled = none) (q : c.has X.K H xs) (x : c.itr it i s.heap) :
    ∃ fp Pd Sd, DrawsAt X.prog X.w A c xs it i s.heap fp Pd Sd := by
  cases c with
  | lst a =>
    obtain ⟨its, rv, p, hz⟩ := I.list (show SqL X.K H a xs from q)
    have hl := rv.length
    obtain ⟨o, n, e1, e2, e3, e4⟩ := id p
    have D := Draws.list (prog := X.prog) (w := X.w) (A := A) hh it a x.2 its.toArray
    have en : its.toArray.size = xs.length := by simp [hl]
    rw [en] at D
    exact ⟨_, _, _, D, by simp, ⟨x.1, p.isList⟩, fun j u e => relV_at rv e, fun j h' st => ⟨st.1, x.2⟩, fun b hb hn => by
      have z : b = it ∨ b = a := by simpa using hb
      rcases z with z | z
      · exact absurd z hn
      · rw [z]; exact ⟨o, e1⟩, fun b hb hn => by
      have z : b = it ∨ b = a := by simpa using hb
      rcases z with z | z
      · exact .inl z
      · rw [z]; exact .inr rfl⟩
  | tup a =>
    obtain ⟨its, rv, p, hz⟩ := I.tuple (show SqT X.K H a xs from q)
    have hl := rv.length
    obtain ⟨o, e1, e2⟩ := id p
    have D := Draws.tuple (prog := X.prog) (w := X.w) (A := A) hh it a x.2 its.toArray
    have en : its.toArray.size = xs.length := by simp [hl]
    rw [en] at D
    exact ⟨_, _, _, D, by simp, ⟨x.1, p⟩, fun j u e => relV_at rv e, fun j h' st => ⟨st.1, x.2⟩, fun b hb hn => by
      have z : b = it ∨ b = a := by simpa using hb
      rcases z with z | z
      · exact absurd z hn
      · rw [z]; exact ⟨o, e1⟩, fun b hb hn => by
      have z : b = it ∨ b = a := by simpa using hb
      rcases z with z | z
      · exact .inl z
      · rw [z]; exact .inr rfl⟩
  | txt z =>
    obtain ⟨t, st⟩ := x
    cases (show xs = signs z from q)
    have D := Draws.text (prog := X.prog) (w := X.w) (A := A) hh it z t
    have en : z.cps.size = (signs z).length := by simp [signs]
    rw [en] at D
    exact ⟨_, _, _, D, by simp, st, fun j u ⟨c, k, e1, e2⟩ => ⟨.str ⟨#[c]⟩, by simp [signs, e1], ⟨k, e2⟩⟩, fun j h' st => ⟨t, st⟩, fun b hb hn => absurd (by simpa using hb) hn, fun b hb hn => .inl (by simpa using hb)⟩
end Tr
set_option Elab.async false
set_option linter.all false
set_option maxRecDepth 100000
set_option maxHeartbeats 4000000
namespace Tr
open PySem PySem.Spec PyProof.Rows L2
theorem Src.inj {X : Cx} {pins : List (Addr × Obj)} {σ : St} {H : Hp} {s : Shared} {c : Src} {xs ys : List V} (I : Inv X pins σ H s) (h1 : c.has X.K H xs) (h2 : c.has X.K H ys) : xs = ys := by
  cases c with
  | lst a => exact I.list_inj h1 h2
  | tup a => exact I.tuple_inj h1 h2
  | txt z => exact Eq.trans h1 (Eq.symm h2)
/-- enumerate over a source, from k0 -/
def ItE (K : PySem.W.Frag) (c : Src) (k0 : Int) : It :=
  ⟨fun i H => ∃ (xs : List V) (x : V), c.has K H xs ∧ xs[i]? = some x, fun i H v H' => ∃ T x, v = .ref T ∧ H T = none ∧ H' = upd H T (.tup [.int (k0 + (i : Nat)), x]) ∧ ∀ xs, c.has K H xs → xs[i]? = some x, fun i H => ∃ xs : List V, c.has K H xs ∧ xs.length = i⟩
theorem k_fp {X : Cx} {pins : List (Addr × Obj)} {σ : St} {H : Hp} {s : Shared} {b : Addr} {u : Obj} (I : Inv X pins σ H s) (f : FpOk X pins H b) (hk : X.K.lookup b = some u) : False := by
  obtain ⟨_, _, _, h4, _⟩ := f
  have bs := I.ok.noex
  rcases h4 with h4 | h4
  · exact bs b u (I.ok.mod.kin b u hk) h4
  · have e1 := (I.ok.bs b u (I.ok.mod.kin b u hk)).1
    exact absurd (Nat.lt_of_lt_of_le (Heap.lt_size e1) h4) (Nat.lt_irrefl _)
/-- the iterators' own cells are not what is walked -/
theorem Src.ne {X : Cx} {pins : List (Addr × Obj)} {σ : St} {H : Hp} {s : Shared} {c : Src} {xs : List V} {b : Addr} (I : Inv X pins σ H s) (q : c.has X.K H xs) (f : FpOk X pins H b) : c.v ≠ .ref b := by
  intro z
  have f0 := f.1
  cases c with
  | lst a =>
    cases (show V.ref a = V.ref b from z)
    rcases (show SqL X.K H b xs from q) with (h | ⟨u, h⟩) | ⟨u, its, n, hk, hcl, _⟩
    · rw [f0] at h; cases h
    · rw [f0] at h; cases h
    · exact k_fp I f hk
  | tup a =>
    cases (show V.ref a = V.ref b from z)
    rcases (show SqT X.K H b xs from q) with (h | ⟨u, h⟩) | ⟨u, its, n, hk, hcl, _⟩
    · rw [f0] at h; cases h
    · rw [f0] at h; cases h
    · exact k_fp I f hk
  | txt y => cases z
theorem DrawsAt.out {X : Cx} {pins : List (Addr × Obj)} {σ : St} {H : Hp} {s : Shared} {A : Around} {c : Src} {xs : List V} {it b : Addr} {i : Nat} {fp : List Addr} {P : Nat → Value → Prop} {S : Nat → Heap → Prop}
    (d : DrawsAt X.prog X.w A c xs it i s.heap fp P S) (I : Inv X pins σ H s) (q : c.has X.K H xs) (f : FpOk X pins H b) (hn : b ≠ it) : b ∉ fp := fun hm => by
  rcases d.tracked b hm hn with z | z
  · exact hn z
  · exact Src.ne I q f z
theorem Inv.turnedL {X : Cx} {pins : List (Addr × Obj)} {σ : St} {H : Hp} {s : Shared} {h' : Heap} {t' : Nat} {ch : List Addr} (I : Inv X pins σ H s) (k : ∀ b o, b ∉ ch → s.heap.get? b = some o → h'.get? b = some o) (hf : ∀ b ∈ ch, FpOk X pins H b) :
    Inv X pins σ H { s with heap := h', toks := t' } := by
  have nit : ∀ b u, H b = some u → b ∉ ch := fun b u e z => by
    have q := (hf b z).1
    rw [q] at e; cases e
  refine I.step (g' := s.gens) (d' := s.drawn) (ch := ch) (fun b hb => ⟨(hf b hb).2.2.2.1, (hf b hb).2.1, (hf b hb).2.2.2.2.1, (hf b hb).2.2.2.2.2⟩) (fun b o _ _ hc e _ => k b o hc e) (fun b o _ _ hc e _ => ⟨o.slots, k b o hc e⟩)
    (fun _ _ _ _ n => n) (fun b o hc e => ⟨o, k b o hc e⟩) (fun _ _ e => e) (fun _ _ _ e => e) (fun b ps e => ⟨#[], by rw [e]; simp⟩) (fun m hm => ?_) (fun b u e => ?_) I.bare
  · obtain ⟨o, es, ep, ho, r⟩ := hm
    exact ⟨o, es, ep, k _ o (fun z => (hf _ z).2.1 rfl) ho, r⟩
  · refine (I.hok b u e).stay (fun c v hc q => k c v ?_ q) (fun c q => q) fun c xs q => q
    rcases hc with z | z
    · rw [z]; exact nit b u e
    · exact nit c _ z
theorem turn_en {P : Program} {w : World} {K : PySem.W.Frag} {elts : List Expr} {kk : Nat} {tpos : Pos} (c : Src) (k0 : Int) (e it : Addr) :
    Turn P w K (.Tuple elts kk tpos) (ItE K c k0) [e, it] e (fun i h => (∃ old, IsEnum h e it (k0 + (i : Nat)) old) ∧ c.itr it i h ∧ e ≠ it) where
  mem := by simp
  obj := fun i h st b hb => by
    obtain ⟨⟨old, he⟩, hit, _⟩ := st
    have e' : b = e ∨ b = it := by simpa using hb
    rcases e' with z | z
    · rw [z]; exact ⟨_, he, fun v q => nomatch q⟩
    · rw [z]; exact Src.itr_obj (s := c) hit
  keep := fun i h h' st k => let ⟨⟨old, he⟩, hi, hne⟩ := st; ⟨⟨old, k e (by simp) _ he⟩, Src.itr_keep (s := c) hi fun o q => k it (by simp) o q, hne⟩
  item := by
    intro X hP hw hK hc i pins s σ H E I hf st hg
    subst hP hw hK
    obtain ⟨⟨old, he⟩, hit, hne⟩ := st
    obtain ⟨xs, x, hq, hx⟩ := hg
    obtain ⟨fp, Pd, Sd, d⟩ := draws_of (A := X.A.in1) I (I.ok.hd hc) hq hit
    have hel : e < s.heap.objs.size := Heap.lt_size he
    have hil : it < s.heap.objs.size := by obtain ⟨_, q, _⟩ := Src.itr_obj (s := c) hit; exact Heap.lt_size q
    have hi : i < xs.length := (List.getElem?_eq_some_iff.mp hx).1
    have hef : e ∉ fp := d.out I hq (hf e (by simp)) hne
    have G := GoesN.enumFrom (elts := elts) (x1 := kk) (pos := tpos) k0 d.D e hne hef d.mem
    refine thn (G.goes i s (fun v s2 => ∃ x H', Inv X pins σ H' s2 ∧ RelV x v ∧ (ItE X.K c k0).yld i H x H' ∧ ((∃ old, IsEnum s2.heap e it (k0 + ((i + 1 : Nat) : Int)) old) ∧ c.itr it (i + 1) s2.heap ∧ e ≠ it) ∧ ∀ b ∈ [e, it], H' b = none) E hi ⟨⟨old, he⟩, d.now⟩ fun v h' tk hy st' hk _ => ?_) fun r s1 h1 => h1
    obtain ⟨T, t, u, rfl, hT, pu, o, g1, g2, n, g3⟩ := hy
    obtain ⟨x', hx', ru⟩ := d.drew i u pu
    rw [hx] at hx'
    cases hx'
    have new : ObjOk X.prog X.w (upd H T (.tup [.int (k0 + (i : Nat)), x])) h' T (.tup [.int (k0 + (i : Nat)), x]) :=
      ⟨by show 2 ≤ sizeLine; decide, [.int (k0 + (i : Nat)) t, u], .cons ⟨_, rfl⟩ (.cons ru .nil), ⟨o, g1, g2, n, g3⟩⟩
    have I1 : Inv X pins σ (upd H T (.tup [.int (k0 + (i : Nat)), x])) { s with heap := h', toks := tk } :=
      I.turnedNew (t' := tk) (ch := [e, it]) (fun b ob hb q => hk b ob hb q) hf hT new
    refine ⟨.ref T, _, I1, rfl, ⟨T, x, rfl, I.hok.fresh hT, rfl, fun ys hy => by rw [Src.inj I hy hq]; exact hx⟩, ⟨st'.1, d.back _ _ st'.2, hne⟩, fun b hb => ?_⟩
    have hb' : b < s.heap.objs.size := by
      have e' : b = e ∨ b = it := by simpa using hb
      rcases e' with z | z
      · rw [z]; exact hel
      · rw [z]; exact hil
    rw [upd_ne (Nat.ne_of_lt (Nat.lt_of_lt_of_le hb' hT))]
    exact (hf b hb).1
  done := by
    intro X hP hw hK hc i pins s σ H E I hf st hg
    subst hP hw hK
    obtain ⟨⟨old, he⟩, hit, hne⟩ := st
    obtain ⟨xs, hq, hx⟩ := hg
    obtain ⟨fp, Pd, Sd, d⟩ := draws_of (A := X.A.in1) I (I.ok.hd hc) hq hit
    have hef : e ∉ fp := d.out I hq (hf e (by simp)) hne
    subst hx
    have G := GoesN.enumFrom (elts := elts) (x1 := kk) (pos := tpos) k0 d.D e hne hef d.mem
    refine thn (G.stops s (fun s1 => Inv X pins σ H s1) E ⟨⟨old, he⟩, d.now⟩ fun h' tk hk _ => ?_) fun r s1 h1 => h1
    exact Inv.turnedL (t' := tk) I hk hf
  self := fun A i s Q E st h => let ⟨⟨_, he⟩, _⟩ := st; wpAny_pyIter_enum he h

/-- zip over two sources -/
def ItZ (K : PySem.W.Frag) (c d : Src) : It :=
  ⟨fun i H => ∃ (xs ys : List V) (x y : V), c.has K H xs ∧ d.has K H ys ∧ xs[i]? = some x ∧ ys[i]? = some y,
    fun i H v H' => ∃ T x y, v = .ref T ∧ H T = none ∧ H' = upd H T (.tup [x, y]) ∧ (∀ xs, c.has K H xs → xs[i]? = some x) ∧ ∀ ys, d.has K H ys → ys[i]? = some y,
    fun i H => ∃ xs ys : List V, c.has K H xs ∧ d.has K H ys ∧ i = min xs.length ys.length⟩
/-- the cells of a zip -/
structure ZipTn (c d : Src) (z TI TO i1 i2 : Addr) (i : Nat) (h : Heap) : Prop where
  zp : IsZip h z TI TO .none
  ti : IsTupOf2 h TI (.ref i1) (.ref i2)
  to : ∃ a1 a2, IsTupOf2 h TO a1 a2
  c1 : c.itr i1 i h
  c2 : d.itr i2 i h
structure ZipNe (z TI TO i1 i2 : Addr) : Prop where
  a1 : TI ≠ z
  a2 : TO ≠ z
  a3 : TI ≠ TO
  a4 : TI ≠ i1
  a5 : TI ≠ i2
  a6 : z ≠ i1
  a7 : z ≠ i2
  a8 : TO ≠ i1
  a9 : TO ≠ i2
  a10 : i1 ≠ i2
theorem zip_sep {X : Cx} {pins : List (Addr × Obj)} {σ : St} {H : Hp} {s : Shared} {A : Around} {c d : Src} {xs ys : List V} {z TI TO i1 i2 : Addr} {i : Nat} {fp1 fp2 : List Addr} {P1 P2 : Nat → Value → Prop} {S1 S2 : Nat → Heap → Prop}
    (I : Inv X pins σ H s) (hf : ∀ b ∈ [z, TI, TO, i1, i2], FpOk X pins H b) (ne : ZipNe z TI TO i1 i2) (hq : c.has X.K H xs) (hq' : d.has X.K H ys)
    (d1 : DrawsAt X.prog X.w A c xs i1 i s.heap fp1 P1 S1) (d2 : DrawsAt X.prog X.w A d ys i2 i s.heap fp2 P2 S2) : ZipSep2 z TI TO i1 i2 fp1 fp2 :=
  { TIz := ne.a1, TOz := ne.a2, TITO := ne.a3, TIi1 := ne.a4, TIi2 := ne.a5, mem1 := d1.mem, mem2 := d2.mem,
    zf1 := d1.out I hq (hf z (by simp)) ne.a6, Tf1 := d1.out I hq (hf TO (by simp)) ne.a8, zf2 := d2.out I hq' (hf z (by simp)) ne.a7, Tf2 := d2.out I hq' (hf TO (by simp)) ne.a9,
    sep1_2 := d2.out I hq' (hf i1 (by simp)) ne.a10, sep2_1 := d1.out I hq (hf i2 (by simp)) ne.a10.symm }
theorem mem5 {z TI TO i1 i2 b : Addr} (h : b ∈ [z, TI, TO, i1, i2]) : b = z ∨ b = TI ∨ b = TO ∨ b = i1 ∨ b = i2 := by simpa using h
theorem turn_zp {P : Program} {w : World} {K : PySem.W.Frag} {elts : List Expr} {kk : Nat} {tpos : Pos} (c d : Src) {z TI TO i1 i2 : Addr} (ne : ZipNe z TI TO i1 i2) :
    Turn P w K (.Tuple elts kk tpos) (ItZ K c d) [z, TI, TO, i1, i2] z (fun i h => ZipTn c d z TI TO i1 i2 i h) where
  mem := by simp
  obj := fun i h st b hb => by
    rcases mem5 hb with e | e | e | e | e
    · rw [e]; exact ⟨_, st.zp, fun v q => nomatch q⟩
    · rw [e]; exact ⟨_, st.ti, fun v q => nomatch q⟩
    · rw [e]; obtain ⟨a1, a2, g⟩ := st.to; exact ⟨_, g, fun v q => nomatch q⟩
    · rw [e]; exact Src.itr_obj st.c1
    · rw [e]; exact Src.itr_obj st.c2
  keep := fun i h h' st k => ⟨k z (by simp) _ st.zp, k TI (by simp) _ st.ti, let ⟨a1, a2, g⟩ := st.to; ⟨a1, a2, k TO (by simp) _ g⟩, Src.itr_keep st.c1 fun o q => k i1 (by simp) o q, Src.itr_keep st.c2 fun o q => k i2 (by simp) o q⟩
  item := by
    intro X hP hw hK hc i pins s σ H E I hf st hg
    subst hP hw hK
    obtain ⟨xs, ys, x, y, hq, hq', hx, hy⟩ := hg
    obtain ⟨fp1, P1, S1, d1⟩ := draws_of (A := X.A.in1) I (I.ok.hd hc) hq st.c1
    obtain ⟨fp2, P2, S2, d2⟩ := draws_of (A := X.A.in1) I (I.ok.hd hc) hq' st.c2
    have hi : i < min xs.length ys.length := by
      have h1 := (List.getElem?_eq_some_iff.mp hx).1
      have h2 := (List.getElem?_eq_some_iff.mp hy).1
      omega
    have G := GoesN.zip2 (elts := elts) (x1 := kk) (pos := tpos) (zip_sep I hf ne hq hq' d1 d2) d1.D d2.D
    refine thn (G.goes i s (fun v s2 => ∃ x H', Inv X pins σ H' s2 ∧ RelV x v ∧ (ItZ X.K c d).yld i H x H' ∧ ZipTn c d z TI TO i1 i2 (i + 1) s2.heap ∧ ∀ b ∈ [z, TI, TO, i1, i2], H' b = none) E hi ⟨st.zp, st.ti, st.to, d1.now, d2.now⟩ fun v h' tk hY st' hk _ => ?_) fun r s1 h1 => h1
    obtain ⟨T, u1, u2, rfl, hT, p1, p2, o, g1, g2, n, g3⟩ := hY
    obtain ⟨x', hx', r1⟩ := d1.drew i u1 p1
    obtain ⟨y', hy', r2⟩ := d2.drew i u2 p2
    rw [hx] at hx'
    cases hx'
    rw [hy] at hy'
    cases hy'
    have new : ObjOk X.prog X.w (upd H T (.tup [x, y])) h' T (.tup [x, y]) := ⟨by show 2 ≤ sizeLine; decide, [u1, u2], .cons r1 (.cons r2 .nil), ⟨o, g1, g2, n, g3⟩⟩
    have I1 : Inv X pins σ (upd H T (.tup [x, y])) { s with heap := h', toks := tk } :=
      I.turnedNew (t' := tk) (ch := [z, TI, TO, i1, i2]) (fun b ob hb q => hk b ob (fun hm => hb (by
        have e : b = z ∨ b = TO ∨ b = i1 ∨ b = i2 := by simpa using hm
        rcases e with e | e | e | e <;> simp [e])) q) hf hT new
    refine ⟨.ref T, _, I1, rfl, ⟨T, x, y, rfl, I.hok.fresh hT, rfl, fun us hu => by rw [Src.inj I hu hq]; exact hx, fun us hu => by rw [Src.inj I hu hq']; exact hy⟩, ⟨st'.1, st'.2.1, st'.2.2.1, d1.back _ _ st'.2.2.2.1, d2.back _ _ st'.2.2.2.2⟩, fun b hb => ?_⟩
    have hb' : ∃ o, s.heap.get? b = some o := by
      rcases mem5 hb with e | e | e | e | e
      · rw [e]; exact ⟨_, st.zp⟩
      · rw [e]; exact ⟨_, st.ti⟩
      · rw [e]; obtain ⟨a1, a2, g⟩ := st.to; exact ⟨_, g⟩
      · rw [e]; obtain ⟨o, g, _⟩ := Src.itr_obj st.c1; exact ⟨o, g⟩
      · rw [e]; obtain ⟨o, g, _⟩ := Src.itr_obj st.c2; exact ⟨o, g⟩
    obtain ⟨ob, hb'⟩ := hb'
    rw [upd_ne (Nat.ne_of_lt (Nat.lt_of_lt_of_le (Heap.lt_size hb') hT))]
    exact (hf b hb).1
  done := by
    intro X hP hw hK hc i pins s σ H E I hf st hg
    subst hP hw hK
    obtain ⟨xs, ys, hq, hq', hi⟩ := hg
    obtain ⟨fp1, P1, S1, d1⟩ := draws_of (A := X.A.in1) I (I.ok.hd hc) hq st.c1
    obtain ⟨fp2, P2, S2, d2⟩ := draws_of (A := X.A.in1) I (I.ok.hd hc) hq' st.c2
    have G := GoesN.zip2 (elts := elts) (x1 := kk) (pos := tpos) (zip_sep I hf ne hq hq' d1 d2) d1.D d2.D
    rw [← hi] at G
    refine thn (G.stops s (fun s1 => Inv X pins σ H s1) E ⟨st.zp, st.ti, st.to, d1.now, d2.now⟩ fun h' tk hk _ => ?_) fun r s1 h1 => h1
    exact Inv.turnedL (t' := tk) (ch := [z, TI, TO, i1, i2]) I (fun b ob hb q => hk b ob (fun hm => hb (by
        have e : b = z ∨ b = TO ∨ b = i1 ∨ b = i2 := by simpa using hm
        rcases e with e | e | e | e <;> simp [e])) q) hf
  self := fun A i s Q E st h => wpAny_pyIter_zip st.zp h
end Tr
set_option Elab.async false
set_option linter.all false
set_option maxRecDepth 100000
set_option maxHeartbeats 4000000
namespace Tr
open PySem PySem.Spec PyProof.Rows L2
/-- how the iterator of a source begins -/
theorem begins_of {X : Cx} {pins : List (Addr × Obj)} {σ : St} {H : Hp} {s : Shared} {c : Src} {xs : List V} {u : Value} (I : Inv X pins σ H s) (q : c.has X.K H xs) (r : RelV c.v u) :
    ∃ (o : Obj) (Hh : Heap → Prop), Begins u o Hh ∧ Hh s.heap ∧ ∀ (h' : Heap) (it : Addr), s.heap.objs.size ≤ it → h'.get? it = some o → c.itr it 0 h' := by
  cases c with
  | lst a =>
    cases (show u = Value.ref a from r)
    obtain ⟨its, rv, p, hz⟩ := I.list (show SqL X.K H a xs from q)
    have la : a < s.heap.objs.size := p.lt
    exact ⟨_, _, begins_list a its.toArray, p.isList, fun h' it hi e => ⟨⟨_, e, rfl, rfl⟩, Nat.ne_of_lt (Nat.lt_of_lt_of_le la hi)⟩⟩
  | tup a =>
    cases (show u = Value.ref a from r)
    obtain ⟨its, rv, p, hz⟩ := I.tuple (show SqT X.K H a xs from q)
    have la : a < s.heap.objs.size := p.lt
    exact ⟨_, _, begins_tuple a its.toArray, p, fun h' it hi e => ⟨⟨_, e, rfl, rfl⟩, Nat.ne_of_lt (Nat.lt_of_lt_of_le la hi)⟩⟩
  | txt z =>
    obtain ⟨t, rfl⟩ := (show ∃ t, u = Value.str z t from r)
    exact ⟨_, _, begins_text z t, trivial, fun h' it hi e => ⟨t, _, e, rfl, rfl⟩⟩
set_option maxHeartbeats 1000000 in
theorem meets_enum1 {v : Value} {o : Obj} {H : Heap → Prop} (B : Begins v o H) :
    Meets (Builtin.«enumerate.__new__» ⟨[.type "enumerate", v], []⟩) (fun _ R s => H s.heap ∧
      R (.ok (.ret (.ref (s.heap.push o).objs.size))) { s with heap := (s.heap.push o).push { cls := .type "enumerate", data := .fields #[.none, .bool false, .ref s.heap.objs.size, rawInt 0, .none, .none] } }) :=
  .of_wp fun prog w A R s h => by
    obtain ⟨hp, g, d, tk, os⟩ := s; obtain ⟨h1, h⟩ := h
    have hsub := sub_enumerate
    have q1 : ∀ {A' : Around} {E : Value → Shared → Prop} {Q : Value → Shared → Prop}, Q (.ref hp.objs.size) ⟨hp.push o, g, d, tk, os⟩ → wpAny (model prog w) A' (pyIter v) Q E ⟨hp, g, d, tk, os⟩ :=
      fun q => B.iter prog w _ _ ⟨hp, g, d, tk, os⟩ _ h1 q
    wp_walk using q1
    refine wpAny_stack_any fun st => wpAny_pure ?_
    split
    · rename_i c _ _ _ _ _
      cases (c == Value.type "enumerate")
      · wp_walk using q1
        exact ⟨_, rfl, h⟩
      · wp_walk using q1
        exact ⟨_, rfl, h⟩
    · wp_walk using q1
      exact ⟨_, rfl, h⟩
theorem enum_begins1 {prog : Program} {w : World} {A : Around} {E : Value → Shared → Prop} {s : Shared} {v : Value} {o : Obj} {H : Heap → Prop} {Q : Value → Shared → Prop} (B : Begins v o H) (h1 : H s.heap)
    (h : ∀ h', IsEnum h' (s.heap.objs.size + 1) s.heap.objs.size 0 .none → h'.get? s.heap.objs.size = some o → h'.objs.size = s.heap.objs.size + 2 →
      (∀ b o, s.heap.get? b = some o → h'.get? b = some o) → Q (.ref (s.heap.objs.size + 1)) { s with heap := h' }) :
    wpAny (model prog w) A (call (.type "enumerate") [v]) Q E s := by
  refine callType_new F.called_enumerate (by decide) (F.typeCall_enumerate_1 _) (F.newCall_enumerate_1 _) (fun obj => F.args_object_init_2 obj _) F.entry_enumerate_new
    (meets_enum1 B) ⟨h1, ?_⟩
  have hz : (s.heap.push o).objs.size = s.heap.objs.size + 1 := Heap.size_push ..
  show _ ∧ _
  rw [hz]
  have he : IsEnum ((s.heap.push o).push { cls := .type "enumerate", data := .fields #[.none, .bool false, .ref s.heap.objs.size, rawInt 0, .none, .none] }) (s.heap.objs.size + 1) s.heap.objs.size 0 .none := by
    have := Heap.get?_push_size (s.heap.push o) (o := { cls := .type "enumerate", data := .fields #[.none, .bool false, .ref s.heap.objs.size, rawInt 0, .none, .none] }) rfl
    rw [hz] at this; exact this
  refine ⟨⟨_, he, rfl⟩, h _ he (Heap.get?_push_of_some _ (Heap.get?_push_size _ B.free)) (by rw [Heap.size_push, hz]) fun b o x => Heap.get?_push_of_some _ (Heap.get?_push_of_some _ x)⟩
/-- enumerate(e) of a list, a tuple, a text -/
def iEn (K : PySem.W.Frag) (ta : TA) : TI := fun σ H R => ta σ H fun vs H1 => ∃ c xs, vs = [Src.v c] ∧ c.has K H1 xs ∧ R (ItE K c 0) H1
theorem pi_en {X : Cx} {e : Expr} {ta : TA} {p pos tpos : Pos} {elts : List Expr} {kk : Nat} (hg : Gl X "enumerate") (hm : X.mg "enumerate" = none) (ha : PA X [e] ta) (hs : starEach [e] X.env = [(false, eval e X.env)] := by rfl) :
    PI X (.Tuple elts kk tpos) (.Call (.Name "enumerate" p) [e] [] pos) (iEn X.K ta) := by
  refine ⟨fun pins s σ H R I h => ?_⟩
  refine Call_ (ld_blt I hg hm boot_enumerate (PyProof.Rows.callWith_type1 (thn (ha.run pos pins s σ H _ I h) fun us s1 ⟨vs, H1, I1, r1, q1⟩ => ?_) hs rfl))
  obtain ⟨c, xs, ex, hq, q⟩ := q1
  subst ex
  cases r1 with
  | cons r rr =>
    cases rr
    obtain ⟨o, Hh, B, hB, hI⟩ := begins_of I1 hq r
    refine enum_begins1 B hB fun h' he hit hsz hk => wpAny_pyIter_enum he ?_
    have I2 : Inv X pins σ H1 { s1 with heap := h' } := I1.kept (t' := s1.toks) hk
    refine ⟨s1.heap.objs.size + 1, [s1.heap.objs.size + 1, s1.heap.objs.size], _, _, H1, rfl, I2, turn_en c 0 (s1.heap.objs.size + 1) s1.heap.objs.size, ⟨⟨.none, by simpa using he⟩, hI _ _ (Nat.le_refl _) hit, Nat.succ_ne_self _⟩, fun b hb => ?_, q⟩
    have e' : b = s1.heap.objs.size + 1 ∨ b = s1.heap.objs.size := by simpa using hb
    have hle : s1.heap.objs.size ≤ b := by
      rcases e' with z | z
      · rw [z]; exact Nat.le_add_right _ _
      · rw [z]; exact Nat.le_refl _
    exact I1.fpOk hle (I1.hok.fresh hle)
/-- enumerate(e, k) -/
def iEn2 (K : PySem.W.Frag) (ta : TA) : TI := fun σ H R => ta σ H fun vs H1 => ∃ c xs k, vs = [Src.v c, .int k] ∧ c.has K H1 xs ∧ -(2 ^ 63) ≤ k ∧ k < 2 ^ 63 ∧ R (ItE K c k) H1
theorem pi_en2 {X : Cx} {e e2 : Expr} {ta : TA} {p pos tpos : Pos} {elts : List Expr} {kk : Nat} (hg : Gl X "enumerate") (hm : X.mg "enumerate" = none) (ha : PA X [e, e2] ta)
    (hs : starEach [e, e2] X.env = (false, eval e X.env) :: starEach [e2] X.env := by rfl) (hpl : (backTo pos (starEach [e2] X.env)).any (·.1) = false := by rfl) :
    PI X (.Tuple elts kk tpos) (.Call (.Name "enumerate" p) [e, e2] [] pos) (iEn2 X.K ta) := by
  refine ⟨fun pins s σ H R I h => ?_⟩
  refine Call_ (ld_blt I hg hm boot_enumerate (PyProof.Rows.callWith_type1 (thn (ha.run pos pins s σ H _ I h) fun us s1 ⟨vs, H1, I1, r1, q1⟩ => ?_) hs hpl))
  obtain ⟨c, xs, k, ex, hq, k0, k1, q⟩ := q1
  subst ex
  cases r1 with
  | cons r rr =>
    cases rr with
    | cons r' rr =>
      cases rr
      obtain ⟨tk, rfl⟩ := r'
      obtain ⟨o, Hh, B, hB, hI⟩ := begins_of I1 hq r
      refine enum_begins B hB k0 k1 fun h' he hit hsz hk => wpAny_pyIter_enum he ?_
      have I2 : Inv X pins σ H1 { s1 with heap := h' } := I1.kept (t' := s1.toks) hk
      refine ⟨s1.heap.objs.size + 1, [s1.heap.objs.size + 1, s1.heap.objs.size], _, _, H1, rfl, I2, turn_en c k (s1.heap.objs.size + 1) s1.heap.objs.size, ⟨⟨.none, by simpa using he⟩, hI _ _ (Nat.le_refl _) hit, Nat.succ_ne_self _⟩, fun b hb => ?_, q⟩
      have e' : b = s1.heap.objs.size + 1 ∨ b = s1.heap.objs.size := by simpa using hb
      have hle : s1.heap.objs.size ≤ b := by
        rcases e' with z | z
        · rw [z]; exact Nat.le_add_right _ _
        · rw [z]; exact Nat.le_refl _
      exact I1.fpOk hle (I1.hok.fresh hle)
/-- zip(e, e2) of lists, tuples, texts -/
def iZp (K : PySem.W.Frag) (ta : TA) : TI := fun σ H R => ta σ H fun vs H1 => ∃ c d xs ys, vs = [Src.v c, Src.v d] ∧ c.has K H1 xs ∧ d.has K H1 ys ∧ R (ItZ K c d) H1
theorem zne (n : Nat) : ZipNe (n + 4) (n + 2) (n + 3) n (n + 1) := by
  refine ⟨?_, ?_, ?_, ?_, ?_, ?_, ?_, ?_, ?_, ?_⟩ <;> (intro h; have h' : (_ : Nat) = _ := h; omega)
theorem pi_zp {X : Cx} {e e2 : Expr} {ta : TA} {p pos tpos : Pos} {elts : List Expr} {kk : Nat} (hg : Gl X "zip") (hm : X.mg "zip" = none) (ha : PA X [e, e2] ta)
    (hs : starEach [e, e2] X.env = (false, eval e X.env) :: starEach [e2] X.env := by rfl) (hpl : (backTo pos (starEach [e2] X.env)).any (·.1) = false := by rfl) :
    PI X (.Tuple elts kk tpos) (.Call (.Name "zip" p) [e, e2] [] pos) (iZp X.K ta) := by
  refine ⟨fun pins s σ H R I h => ?_⟩
  refine Call_ (ld_blt I hg hm PyProof.Rows.boot_zip (PyProof.Rows.callWith_type1 (thn (ha.run pos pins s σ H _ I h) fun us s1 ⟨vs, H1, I1, r1, q1⟩ => ?_) hs hpl))
  obtain ⟨c, d, xs, ys, ex, hq, hq', q⟩ := q1
  subst ex
  cases r1 with
  | cons r rr =>
    cases rr with
    | cons r' rr =>
      cases rr
      obtain ⟨o, Hh, B, hB, hI⟩ := begins_of I1 hq r
      obtain ⟨o', Hh', B', hB', hI'⟩ := begins_of I1 hq' r'
      refine zip_begins2 B B' hB hB' fun h' hz hTI hTO h1 h2 hsz hk => wpAny_pyIter_zip hz ?_
      have I2 : Inv X pins σ H1 { s1 with heap := h' } := I1.kept (t' := s1.toks) hk
      refine ⟨s1.heap.objs.size + 4, [s1.heap.objs.size + 4, s1.heap.objs.size + 2, s1.heap.objs.size + 3, s1.heap.objs.size, s1.heap.objs.size + 1], _, _, H1, rfl, I2, turn_zp c d (zne s1.heap.objs.size), ⟨hz, hTI, ⟨_, _, hTO⟩, hI _ _ (Nat.le_refl _) h1, hI' _ _ (Nat.le_add_right _ _) h2⟩, fun c hcm => ?_, q⟩
      have hle : s1.heap.objs.size ≤ c := by
        rcases mem5 hcm with z | z | z | z | z
        · rw [z]; exact Nat.le_add_right _ _
        · rw [z]; exact Nat.le_add_right _ _
        · rw [z]; exact Nat.le_add_right _ _
        · rw [z]; exact Nat.le_refl _
        · rw [z]; exact Nat.le_add_right _ _
      exact I1.fpOk hle (I1.hok.fresh hle)
/-! walks -/
theorem walk_en {K : PySem.W.Frag} {c : Src} {k0 : Int} {xs : List V} : Walk (ItE K c k0) xs.length (fun H => c.has K H xs) (YPair (fun i => some (.int (k0 + (i : Nat)))) (fun i => xs[i]?)) := by
  refine ⟨fun i _ hi q => ⟨xs, xs[i], q, by simp [hi]⟩, fun _ q => ⟨xs, q, rfl⟩, fun i H v H' _ q y => ?_⟩
  obtain ⟨T, x, h1, h2, h3, h4⟩ := y
  exact ⟨T, _, x, h1, h2, h3, rfl, h4 xs q⟩
theorem walk_zp {K : PySem.W.Frag} {c d : Src} {xs ys : List V} : Walk (ItZ K c d) (min xs.length ys.length) (fun H => c.has K H xs ∧ d.has K H ys) (YPair (fun i => xs[i]?) (fun i => ys[i]?)) := by
  refine ⟨fun i _ hi q => ?_, fun _ q => ⟨xs, ys, q.1, q.2, rfl⟩, fun i H v H' _ q y => ?_⟩
  · have h1 : i < xs.length := by omega
    have h2 : i < ys.length := by omega
    exact ⟨xs, ys, xs[i], ys[i], q.1, q.2, by simp [h1], by simp [h2]⟩
  · obtain ⟨T, x, z, h1, h2, h3, h6, h7⟩ := y
    exact ⟨T, x, z, h1, h2, h3, h6 xs q.1, h7 ys q.2⟩
end Tr
set_option Elab.async false
set_option linter.all false
set_option maxRecDepth 100000
set_option maxHeartbeats 4000000
/-! what is wanted of an expression, a test, arguments, a block, in the model's own words; the rules of the layer said over these -/
namespace Tr
open PySem PySem.Spec PyProof.Rows L2
/-- a def of the text that may be called by its name (no defaults) -/
structure Fc (P : Program) (w : World) (K : PySem.W.Frag) (mg : Str → Option Value) (base : Heap) (k : Nat) (x : Str) (sp : Sp) : Prop where
  ex : ∃ (f : Addr) (fd : FuncData) (ps : List Str), FnOk P w K mg base CX0 k f fd ps sp ∧ mg x = some (.ref f) ∧ PySem.W.keepIn K (.ref f) = true ∧ Binds K fd ps []
/-- a method of the class at C -/
structure Mc (P : Program) (w : World) (K : PySem.W.Frag) (mg : Str → Option Value) (base : Heap) (k : Nat) (C : Addr) (m : Str) (sp : Sp) : Prop where
  ex : ∃ (f : Addr) (fd : FuncData) (ps : List Str), Cls K C ∧ Meth K C m f ∧ FnOk P w K mg base CX0 k f fd ps sp ∧ Binds K fd ps []
/-- a class that is made by its name; sp: of its __init__ -/
structure Kc (P : Program) (w : World) (K : PySem.W.Frag) (mg : Str → Option Value) (base : Heap) (k : Nat) (x : Str) (C : Addr) (sp : Sp) : Prop where
  ex : ∃ (f : Addr) (fd : FuncData) (ps : List Str), Mk K C f ∧ FnOk P w K mg base CX0 k f fd ps sp ∧ mg x = some (.ref C) ∧ Binds K fd ps []
def WE (X : Cx) (e : Expr) : TE := fun σ H Q => ∀ (pins : List (Addr × Obj)) (s : Shared), Inv X pins σ H s → wpAny (model X.prog X.w) X.A (eval e X.env) (EP X pins σ Q) X.xe s
def WT (X : Cx) (e : Expr) : TT := fun σ H Q => ∀ (pins : List (Addr × Obj)) (s : Shared), Inv X pins σ H s → wpAny (model X.prog X.w) X.A (isTrue e X.env (eval e X.env)) (TP X pins σ Q) X.xe s
def WW (X : Cx) (e : Expr) : TT := fun σ H Q => ∀ (wh : Sem Value) (pins : List (Addr × Obj)) (s : Shared), Inv X pins σ H s → wpAny (model X.prog X.w) X.A (isTrue e X.env wh) (TP X pins σ Q) X.xe s
def WA (X : Cx) (es : List Expr) : TA := fun σ H Q => ∀ (pos : Pos) (pins : List (Addr × Obj)) (s : Shared), Inv X pins σ H s → wpAny (model X.prog X.w) X.A (spliced (backTo pos (starEach es X.env))) (AP X pins σ Q) X.xe s
def WS (X : Cx) (sts : List Stmt) : TS := fun D σ H => ∀ (pins : List (Addr × Obj)) (s : Shared), Inv X pins σ H s → wpAny (model X.prog X.w) X.A (execs sts X.env) (SP X pins D) X.xe s
def WI (X : Cx) (tg iter : Expr) : TI := fun σ H R => ∀ (pins : List (Addr × Obj)) (s : Shared), Inv X pins σ H s → wpAny (model X.prog X.w) X.A (eval iter X.env) (fun v s1 => wpAny (model X.prog X.w) X.A (pyIter v) (PIE X pins σ tg R) X.xe s1) X.xe s
section
variable {X : Cx} {e a b c o tg iter : Expr} {es rest : List Expr} {sts p q more : List Stmt} {st : Stmt} {σ : St} {H : Hp} {Q Q' : VK} {B B' : Bool → Hp → Prop} {D : Ends} {t ta tb : TE} {tt : TT} {tas : TA} {ts : TS} {ti : TI} {pos : Pos}
theorem peW : PE X e (WE X e) := ⟨fun pins s _ _ _ I h => h pins s I⟩
theorem ptW : PT X e (WT X e) := ⟨fun pins s _ _ _ I h => h pins s I⟩
theorem pwW : PW X e (WW X e) := ⟨fun wh pins s _ _ _ I h => h wh pins s I⟩
theorem paW : PA X es (WA X es) := ⟨fun pos pins s _ _ _ I h => h pos pins s I⟩
theorem pssW : PSs X sts (WS X sts) := ⟨fun pins s _ _ _ I h => h pins s I⟩
theorem piW : PI X tg iter (WI X tg iter) := ⟨fun pins s _ _ _ I h => h pins s I⟩
theorem we (r : PE X e t) (h : t σ H Q) : WE X e σ H Q := fun pins s I => r.run pins s σ H Q I h
theorem wt (r : PT X e tt) (h : tt σ H B) : WT X e σ H B := fun pins s I => r.run pins s σ H B I h
theorem ww (r : PW X e tt) (h : tt σ H B) : WW X e σ H B := fun wh pins s I => r.run wh pins s σ H B I h
theorem wa {B : List V → Hp → Prop} (r : PA X es tas) (h : tas σ H B) : WA X es σ H B := fun pos pins s I => r.run pos pins s σ H B I h
theorem ws (r : PSs X sts ts) (h : ts D σ H) : WS X sts D σ H := fun pins s I => r.run pins s σ H D I h
theorem wi {R : It → Hp → Prop} (r : PI X tg iter ti) (h : ti σ H R) : WI X tg iter σ H R := fun pins s I => r.run pins s σ H R I h
theorem WE.mono (h : WE X e σ H Q) (m : ∀ v H', Q v H' → Q' v H') : WE X e σ H Q' := fun pins s I => thn (h pins s I) fun u s1 ⟨v, H', I', r, q⟩ => ⟨v, H', I', r, m v H' q⟩
theorem WT.mono (h : WT X e σ H B) (m : ∀ v H', B v H' → B' v H') : WT X e σ H B' := fun pins s I => thn (h pins s I) fun u s1 ⟨H', I', q⟩ => ⟨H', I', m u H' q⟩
/-! blocks -/
theorem ws_nil (h : D.nx σ H) : WS X [] D σ H := ws pss_nil h
theorem ws_cons (r : PS X st ts) (h : ts { D with nx := WS X sts D } σ H) : WS X (st :: sts) D σ H := ws (pss_cons r pssW) h
theorem ws_ret (h : WE X e σ H D.rt) : WS X (.Return (some e) pos :: sts) D σ H := ws_cons (ps_ret peW) h
theorem ws_expr (h : WE X e σ H fun _ H' => WS X sts D σ H') (hs : swapsWith e none pos.line X.env = pure false := by rfl) : WS X (.Expr e pos :: sts) D σ H := ws_cons (ps_expr peW hs) h
theorem ws_set {i : Nat} {x : Str} {pos' : Pos} (hN : X.N.Nodup) (h : WE X e σ H fun v H' => WS X sts D (σ.set i (some v)) H') (hi : X.N[i]? = some x := by rfl) (hx : Loc X.env.scope x := by first | exact Or.inl rfl | exact Or.inr rfl)
    (hs : swapsWith e (some (.Name x pos')) pos.line X.env = pure false := by rfl) (hf : X.fn x = true ∨ X.env.scope.names.lookup x = some .local := by first | exact .inl rfl | exact .inr rfl) : WS X (.Assign [.Name x pos'] e pos :: sts) D σ H := ws_cons (ps_set (i := i) hN hi hx peW hs hf) h
theorem ws_if (h : WT X c σ H fun b H' => if b = true then WS X p { D with nx := WS X sts D } σ H' else WS X q { D with nx := WS X sts D } σ H') : WS X (.If c p q pos :: sts) D σ H := ws_cons (ps_if ptW pssW pssW) h
theorem ws_asg {g : TG} (r : PG X tg g) (h : WE X e σ H fun v H' => g v σ H' fun σ' H2 => WS X sts D σ' H2)
    (hs : swapsWithSole [tg] e pos.line X.env = pure false := by rfl) (hw : swappedStores [tg] e X.env = pure none := by rfl) (h1 : (assignEach [tg] X.env).map (·.2) = [assign tg X.env] := by rfl) : WS X (.Assign [tg] e pos :: sts) D σ H := ws_cons (ps_asg peW r hs hw h1) h
theorem ws_for {g : TG} (r : PG X tg g) (hc : X.calm = true) (h : tFor (WI X tg iter) g (WS X p) { D with nx := WS X sts D } σ H) (hp : PassesOwn (model X.prog X.w) X.A X.env X.xe := by exact PassesOwn.never) (hs : ∀ x, foldedSetIterable iter X.env x = pure x := by intro _; rfl) : WS X (.For tg iter p [] pos :: sts) D σ H := ws_cons (ps_for hp hc piW r pssW hs) h
theorem ws_while (h : tWhile (WT X c) (WS X p) { D with nx := WS X sts D } σ H) (hp : PassesOwn (model X.prog X.w) X.A X.env X.xe := by exact PassesOwn.never) : WS X (.While c p [] pos :: sts) D σ H := ws_cons (ps_while hp ptW pssW) h
/-- a statement that is not reached -/
theorem ws_no (h : False) : WS X sts D σ H := h.elim
/-! expressions -/
theorem w_v (i : Nat) {x : Str} {v : V} (h : σ[i]? = some (some v)) (k : Q v H) (hN : X.N[i]? = some x := by rfl) (hv : Vis X.env.scope x := by first | exact Or.inl rfl | exact Or.inr (Or.inl rfl) | exact Or.inr (Or.inr rfl)) (hd : (x == ("__debug__" : Str)) = false := by decide)
    (hcd : (x == ("__classdict__" : Str)) = false := by decide) : WE X (.Name x pos) σ H Q := we (pv i hN hv hd hcd) ⟨v, h, k⟩
theorem w_int {i : Int} {j : Nat} (k : Q (.int i) H) : WE X (.Constant (.int i) j pos) σ H Q := we pe_int k
theorem w_str {x : Str} {j : Nat} (k : Q (.str x) H) : WE X (.Constant (.str x) j pos) σ H Q := we pe_str k
theorem w_bl {x : Bool} {j : Nat} (k : Q (.bl x) H) : WE X (.Constant (.bool x) j pos) σ H Q := we pe_bl k
theorem w_non {j : Nat} (k : Q .non H) : WE X (.Constant .none j pos) σ H Q := we pe_non k
theorem w_op {op : Operator} {r : R2} (ho : OpR X (binaryOp op) r) (h : WE X a σ H fun x H1 => WE X b σ H1 fun y H2 => r x y H2 Q) : WE X (.BinOp a op b pos) σ H Q := we (pe_op ho peW peW) h
theorem w_cmp {op : CmpOp} {r : R2} (ho : OpR X (compareOp op) r) (h : WE X a σ H fun x H1 => WE X b σ H1 fun y H2 => r x y H2 Q) (hm : behindInMarks op b = false := by first | exact nomark _ | rfl) : WE X (.Compare a [op] [b] pos) σ H Q := we (pe_cmpR ho peW peW hm) h
theorem t_cmp {op : CmpOp} {r : R2} (ho : OpR X (compareOp op) r) (h : WE X a σ H fun x H1 => WE X b σ H1 fun y H2 => r x y H2 fun z H3 => ∃ k, z = .bl k ∧ B k H3) (hm : behindInMarks op b = false := by first | exact nomark _ | rfl) : WT X (.Compare a [op] [b] pos) σ H B := wt (pt_cmpR ho peW peW hm) h
theorem t_val (h : WE X e σ H fun x H1 => ∃ k, x = .bl k ∧ B k H1) (he : ∀ whole, isTrue e X.env whole = (do let v ← whole; standAt e.pos; holding [v] (truthy v)) := by intro _; rfl) : WT X e σ H B := wt (pt_val peW he) h
theorem t_not (h : WT X a σ H fun k H1 => B (!k) H1) : WT X (.UnaryOp .Not a pos) σ H B := wt (pt_not ptW) h
theorem w_not (h : WE X a σ H fun x H1 => ∃ c, x = .bl c ∧ Q (.bl (!c)) H1) : WE X (.UnaryOp .Not a pos) σ H Q := we (pe_not peW) h
theorem w_ifx (h : WT X c σ H fun k H1 => if k = true then WE X a σ H1 Q else WE X b σ H1 Q) : WE X (.IfExp c a b pos) σ H Q := we (pe_ifExp ptW peW peW) h
theorem w_ix {r : R2} (hr : IxR X r) (h : WE X a σ H fun x H1 => WE X b σ H1 fun y H2 => r x y H2 Q) (hs : PlainIx b := by exact fun _ _ => rfl) : WE X (.Subscript a b pos) σ H Q := we (pe_ix hr peW peW hs) h
theorem w_tup {k : Nat} (h : WA X es σ H fun xs H1 => xs.length ≤ sizeLine ∧ ∀ p, H1 p = none → Q (.ref p) (upd H1 p (.tup xs))) : WE X (.Tuple es k pos) σ H Q := we (pe_tup paW) h
theorem w_lst (h : WA X es σ H fun xs H1 => xs.length ≤ sizeLine ∧ ∀ p, H1 p = none → Q (.ref p) (upd H1 p (.lst xs))) : WE X (.List es pos) σ H Q := we (pe_lst paW) h
theorem w_fld {f : Str} (h : tFld X.K (WE X e) f σ H Q) (hb : attributeBase e f X.env (eval e X.env) = eval e X.env := by rfl) : WE X (.Attribute e f pos) σ H Q := we (pe_fld peW hb) h
theorem wa_nil {B : List V → Hp → Prop} (h : B [] H) : WA X [] σ H B := wa pa_nil h
theorem wa_cons {B : List V → Hp → Prop} (h : WE X e σ H fun x H1 => WA X es σ H1 fun xs H2 => B (x :: xs) H2) (hs : starEach (e :: es) X.env = (false, eval e X.env) :: starEach es X.env := by rfl) : WA X (e :: es) σ H B := wa (pa_cons peW paW hs) h
theorem w_callB {id : String} {x : Str} {ps : Pos} {r : List V → Hp → VK → Prop} (hc : CallR X (.builtin id) r) (hm : X.mg x = none) (hv : bootBuiltins x = some (.builtin id)) (h : WA X (e :: es) σ H fun vs H1 => r vs H1 Q) (hg : Gl X x := by rfl)
    (hdb : (x == ("__debug__" : Str)) = false := by decide) (hn : x ≠ "__name__" := by decide) (he : starEach (e :: es) X.env = (false, eval e X.env) :: starEach es X.env := by rfl) (hpl : (backTo pos (starEach es X.env)).any (·.1) = false := by rfl) :
    WE X (.Call (.Name x ps) (e :: es) [] pos) σ H Q := we (pe_callB hc hg hm hv paW hn hdb he hpl) h
theorem w_callT {T : String} {x : Str} {ps : Pos} {r : List V → Hp → VK → Prop} (hc : CallR X (.type T) r) (hm : X.mg x = none) (hv : bootBuiltins x = some (.type T)) (h : WA X (e :: es) σ H fun vs H1 => r vs H1 Q) (hg : Gl X x := by rfl)
    (hdb : (x == ("__debug__" : Str)) = false := by decide) (hn : x ≠ "__name__" := by decide) (he : starEach (e :: es) X.env = (false, eval e X.env) :: starEach es X.env := by rfl) (hpl : (backTo pos (starEach es X.env)).any (·.1) = false := by rfl) :
    WE X (.Call (.Name x ps) (e :: es) [] pos) σ H Q := we (pe_callTy hc hg hm hv paW hn hdb he hpl) h
/-- a def of the text, by its name -/
theorem w_c {k j : Nat} {x : Str} {sp : Sp} {ps : Pos} (c : Fc X.prog X.w X.K X.mg X.base k x sp) (hr : Room j X.A) (hk : k ≤ j) (h : WA X (e :: es) σ H fun vs H1 => sp vs H1 Q E0) (hg : Gl X x := by rfl)
    (hdb : (x == ("__debug__" : Str)) = false := by decide) (he : starEach (e :: es) X.env = (false, eval e X.env) :: starEach es X.env := by rfl) (hpl : (backTo pos (starEach es X.env)).any (·.1) = false := by rfl) :
    WE X (.Call (.Name x ps) (e :: es) [] pos) σ H Q := by
  obtain ⟨f, fd, ps, F, hm, kp, b⟩ := c.ex
  refine we (pe_call F (hr.mono hk) hg hm kp b .nil pass0 paW hdb he hpl) (fun pos' pins s I => thn (h pos' pins s I) fun us s1 ⟨vs, H', I', r, q⟩ => ⟨vs, H', I', r, by simpa only [List.append_nil] using q⟩)
theorem w_mk {k j : Nat} {C : Addr} {x : Str} {sp : Sp} {ps : Pos} (c : Kc X.prog X.w X.K X.mg X.base k x C sp) (hr : Room j X.A) (hk : k + 1 ≤ j)
    (h : WA X (e :: es) σ H fun vs H1 => ∀ x dx, H1 x = none → H1 dx = none → dx ≠ x → sp (.ref x :: vs) (upd (upd H1 dx (.own x)) x (.ins C dx [])) (fun v H2 => v = .non ∧ Q (.ref x) H2) E0) (hg : Gl X x := by rfl)
    (hdb : (x == ("__debug__" : Str)) = false := by decide) (he : starEach (e :: es) X.env = (false, eval e X.env) :: starEach es X.env := by rfl) (hpl : (backTo pos (starEach es X.env)).any (·.1) = false := by rfl) :
    WE X (.Call (.Name x ps) (e :: es) [] pos) σ H Q := by
  obtain ⟨f, fd, ps, M, F, hm, b⟩ := c.ex
  refine we (pe_make M F (hr.mono hk) hg hm b .nil pass0 paW hdb he hpl) (fun pos' pins s I => thn (h pos' pins s I) fun us s1 ⟨vs, H', I', r, q⟩ => ⟨vs, H', I', r, by simpa only [List.append_nil] using q⟩)
theorem w_mt {k j : Nat} {C : Addr} {m : Str} {sp : Sp} {apos : Pos} {pl : Sem Bool} (c : Mc X.prog X.w X.K X.mg X.base k C m sp) (hr : Room j X.A) (hk : k ≤ j)
    (h : WE X o σ H fun x H1 => ∃ a dx fs, x = .ref a ∧ H1 a = some (.ins C dx fs) ∧ fs.lookup m = none ∧ WA X (e :: es) σ H1 fun vs H2 => sp (.ref a :: vs) H2 Q E0)
    (hst : starEach (e :: es) X.env = (false, eval e X.env) :: starEach es X.env := by rfl) (hpl : (backTo pos (starEach es X.env)).any (·.1) = false := by rfl)
    (ht : eval (.Call (.Attribute o m apos) (e :: es) [] pos) X.env = (do
      let ov ← eval o X.env
      standAt apos.atName
      let (f, first) ← holding [ov] (getMethod ov m pl)
      callWith pos f first (backTo pos (starEach (e :: es) X.env)) (backToKw pos (keywordEach [] X.env))) := by rfl) :
    WE X (.Call (.Attribute o m apos) (e :: es) [] pos) σ H Q := by
  obtain ⟨f, fd, ps, cl, me, F, b⟩ := c.ex
  refine we (pe_meth peW cl me F (hr.mono hk) b .nil pass0 paW hst hpl ht) (h.mono fun x H1 ⟨a, dx, fs, h1, h2, h3, h4⟩ => ⟨a, dx, fs, h1, h2, h3, fun pos' pins s I => thn (h4 pos' pins s I) fun us s1 ⟨vs, H', I', r, q⟩ => ⟨vs, H', I', r, by subst h1; simpa only [List.append_nil] using q⟩⟩)
theorem w_mt0 {k j : Nat} {C : Addr} {m : Str} {sp : Sp} {apos : Pos} {pl : Sem Bool} (c : Mc X.prog X.w X.K X.mg X.base k C m sp) (hr : Room j X.A) (hk : k ≤ j)
    (h : WE X o σ H fun x H1 => ∃ a dx fs, x = .ref a ∧ H1 a = some (.ins C dx fs) ∧ fs.lookup m = none ∧ sp [.ref a] H1 Q E0)
    (ht : eval (.Call (.Attribute o m apos) [] [] pos) X.env = (do
      let ov ← eval o X.env
      standAt apos.atName
      let (f, first) ← holding [ov] (getMethod ov m pl)
      callWith pos f first (backTo pos (starEach [] X.env)) (backToKw pos (keywordEach [] X.env))) := by rfl) :
    WE X (.Call (.Attribute o m apos) [] [] pos) σ H Q := by
  obtain ⟨f, fd, ps, cl, me, F, b⟩ := c.ex
  exact we (pe_meth0 peW cl me F (hr.mono hk) b .nil pass0 ht) (h.mono fun x H1 ⟨a, dx, fs, h1, h2, h3, h4⟩ => ⟨a, dx, fs, h1, h2, h3, by subst h1; exact h4⟩)
/-- a method of a built-in type -/
theorem w_bm {T id : String} {name : Str} {r : V → List V → Hp → VK → Prop} {apos : Pos} (pa : PlainAttrs T) (slot : Slot T name id) (hty : typeOf (.builtin id) = pure (.type "method_descriptor")) (hm : MtR X id r)
    (h : WE X o σ H fun x H1 => tyV X.K T x H1 ∧ WA X (e :: es) σ H1 fun xs H2 => r x xs H2 Q)
    (hbase : attributeBase o name X.env (eval o X.env) = eval o X.env := by rfl)
    (hfew : ((backTo pos (starEach (e :: es) X.env)).all (fun x => !x.1) && (backToKw pos (keywordEach [] X.env)).all (fun x => x.1.isSome)
      && decide ((e :: es).length + ([] : List Keyword).length + (if ([] : List Keyword).isEmpty then 0 else 1) < 30)) = true := by rfl)
    (hline : (apos.endLine == pos.line) = true := by rfl) (hs : starEach (e :: es) X.env = (false, eval e X.env) :: starEach es X.env := by rfl) (hplain : (backTo pos (starEach es X.env)).any (·.1) = false := by rfl) :
    WE X (.Call (.Attribute o name apos) (e :: es) [] pos) σ H Q := we (pe_bm pa slot hty hm peW paW hbase hfew hline hs hplain) h
theorem w_bm0 {T id : String} {name : Str} {r : V → List V → Hp → VK → Prop} {apos : Pos} (pa : PlainAttrs T) (slot : Slot T name id) (hty : typeOf (.builtin id) = pure (.type "method_descriptor")) (hm : MtR X id r)
    (h : WE X o σ H fun x H1 => tyV X.K T x H1 ∧ r x [] H1 Q)
    (hbase : attributeBase o name X.env (eval o X.env) = eval o X.env := by rfl) (hline : (apos.endLine == pos.line) = true := by rfl) :
    WE X (.Call (.Attribute o name apos) [] [] pos) σ H Q := we (pe_bm0 pa slot hty hm peW hbase hline) h
theorem w_dget2 {apos : Pos} (hu : X.A.units + 1 < cLine) (h : tDGet2 (WE X o) (WE X a) (WE X b) σ H Q) (m : M2 X o "get" apos a b pos := by exact ⟨rfl, rfl, rfl, rfl⟩) : WE X (.Call (.Attribute o "get" apos) [a, b] [] pos) σ H Q := we (pe_dget2 hu peW peW peW m) h
theorem w_dget {i : Expr} (hu : X.A.units + 1 < cLine) (h : tDGet (WE X o) (WE X i) σ H Q) (hs : NoSl i := by exact fun _ _ => rfl) : WE X (.Subscript o i pos) σ H Q := we (pe_dget hu peW peW hs) h
theorem w_and (h : WE X a σ H fun x H1 => ∃ c, x = .bl c ∧ if c = true then WE X (.BoolOp .And (b :: rest) pos) σ H1 Q else Q (.bl false) H1) : WE X (.BoolOp .And (a :: b :: rest) pos) σ H Q := we (pe_and peW peW) h
theorem w_or (h : WE X a σ H fun x H1 => ∃ c, x = .bl c ∧ if c = true then Q (.bl true) H1 else WE X (.BoolOp .Or (b :: rest) pos) σ H1 Q) : WE X (.BoolOp .Or (a :: b :: rest) pos) σ H Q := we (pe_or peW peW) h
theorem w_one {op : BoolOp} (h : WE X a σ H Q) : WE X (.BoolOp op [a] pos) σ H Q := we (pe_one peW) h
theorem w_glob {x : Str} {v : V} {u : Value} (hm : X.mg x = some u) (r : RelV v u) (k : Q v H) (hg : Gl X x := by rfl) (hd : (x == ("__debug__" : Str)) = false := by decide) : WE X (.Name x pos) σ H Q := we (pe_glob hg hm r hd) k
theorem w_blt {x : Str} {v : V} {u : Value} (hm : X.mg x = none) (hv : bootBuiltins x = some u) (r : RelV v u) (k : Q v H) (hg : Gl X x := by rfl) (hn : x ≠ "__name__" := by decide) (hd : (x == ("__debug__" : Str)) = false := by decide) : WE X (.Name x pos) σ H Q := we (pe_bltn hg hm hv r hn hd) k
theorem t_and (h : WT X a σ H fun k H1 => if k = true then WW X (.BoolOp .And (b :: rest) pos) σ H1 B else B false H1) : WW X (.BoolOp .And (a :: b :: rest) pos) σ H B := ww (pw_and ptW pwW) h
theorem t_or (h : WT X a σ H fun k H1 => if k = true then B true H1 else WW X (.BoolOp .Or (b :: rest) pos) σ H1 B) : WW X (.BoolOp .Or (a :: b :: rest) pos) σ H B := ww (pw_or ptW pwW) h
theorem t_and1 (h : WT X a σ H B) : WW X (.BoolOp .And [a] pos) σ H B := ww (pw_and1 ptW) h
theorem t_or1 (h : WT X a σ H B) : WW X (.BoolOp .Or [a] pos) σ H B := ww (pw_or1 ptW) h
theorem t_w (h : WW X e σ H B) : WT X e σ H B := wt (PW.pt pwW) h
theorem t_chain {op op' : CmpOp} {r r' : R2} (ho : OpR X (compareOp op) r) (ho' : OpR X (compareOp op') r') (h : tTest (tChain r r' (WE X a) (WE X b) (WE X c)) σ H B) (hm : lastMarks [op, op'] [b, c] = false := by with_unfolding_all rfl) : WT X (.Compare a [op, op'] [b, c] pos) σ H B := wt (pt_chain ho ho' peW peW peW hm) h
theorem w_chain {op op' : CmpOp} {r r' : R2} (ho : OpR X (compareOp op) r) (ho' : OpR X (compareOp op') r') (h : tChain r r' (WE X a) (WE X b) (WE X c) σ H Q) (hm : lastMarks [op, op'] [b, c] = false := by with_unfolding_all rfl) : WE X (.Compare a [op, op'] [b, c] pos) σ H Q := we (pe_chain ho ho' peW peW peW hm) h
theorem w_neg {i : Int} {j : Nat} {p1 : Pos} (k : Q (.int (-i)) H) : WE X (.UnaryOp .USub (.Constant (.int i) j p1) pos) σ H Q := we (pe_un un_neg peW) (w_int ⟨i, rfl, k⟩)
/-! slices -/
theorem w_sl {r : V → Option Int → Option Int → Hp → VK → Prop} {lo hi : Option Expr} {tl th : TO} {p2 : Pos} (hr : SlR X r) (hl : PO X lo tl) (hu : PO X hi th) (h : tSl r (WE X e) tl th σ H Q) : WE X (.Subscript e (.Slice lo hi none p2) pos) σ H Q := we (pe_slice hr peW hl hu) h
/-! stores -/
theorem ws_fld {f : Str} {pos' : Pos} (h : sFld X.K (WE X o) (WE X e) f { D with nx := WS X sts D } σ H) (hs : swapsWith e (some (.Attribute o f pos')) pos.line X.env = pure false := by rfl) : WS X (.Assign [.Attribute o f pos'] e pos :: sts) D σ H := ws_cons (ps_fld peW peW hs) h
theorem ws_dput {i : Expr} {pos' : Pos} (hu : X.A.units + 1 < cLine) (h : sDPut (WE X o) (WE X i) (WE X e) { D with nx := WS X sts D } σ H) (hs : swapsWith e (some (.Subscript o i pos')) pos.line X.env = pure false := by rfl) : WS X (.Assign [.Subscript o i pos'] e pos :: sts) D σ H := ws_cons (ps_dput hu peW peW peW hs) h
theorem ws_par {i j : Nat} {x y : Str} {px py pt pt2 : Pos} {kt k2 : Nat} (hc : X.calm = true) (hN : X.N.Nodup) (h : WA X [a, b] σ H fun vs H1 => ∃ v w, vs = [v, w] ∧ WS X sts D ((σ.set i (some v)).set j (some w)) H1) (hi : X.N[i]? = some x := by rfl) (hj : X.N[j]? = some y := by rfl) (hij : i ≠ j := by decide)
    (hx : X.env.scope.names.lookup x = some .local := by rfl) (hy : X.env.scope.names.lookup y = some .local := by rfl) (hw : swappedStores [.Tuple [.Name x px, .Name y py] kt pt] (.Tuple [a, b] k2 pt2) X.env = pure (some [x, y]) := by rfl)
    (hs : swapsWithSole [.Tuple [.Name x px, .Name y py] kt pt] (.Tuple [a, b] k2 pt2) pos.line X.env = pure false := by rfl) :
    WS X (.Assign [.Tuple [.Name x px, .Name y py] kt pt] (.Tuple [a, b] k2 pt2) pos :: sts) D σ H := ws_cons (ps_par hc hN hi hj hij hx hy paW hw hs) h
/-! comprehensions -/
/-- in a comprehension's block, whatever its frame -/
def BE (X : Cx) (sc : Scope) (e : Expr) : TE := fun σ H Q => ∀ (s : Shared) (H0 : Hp) (C : Addr) (cl : List (Str × Addr)) (fp : List Addr), WE (X.blk s H0 sc (compEnvC sc cl C X.env) fp) e σ H Q
def BT (X : Cx) (sc : Scope) (e : Expr) : TT := fun σ H B => ∀ (s : Shared) (H0 : Hp) (C : Addr) (cl : List (Str × Addr)) (fp : List Addr), WT (X.blk s H0 sc (compEnvC sc cl C X.env) fp) e σ H B
def BTs (X : Cx) (sc : Scope) : List Expr → TT
  | [] => tYes
  | [e] => BT X sc e
  | _ => fun _ _ _ => False
theorem btsW {sc : Scope} {ifs : List Expr} {s : Shared} {H0 : Hp} {C : Addr} {cl : List (Str × Addr)} {fp : List Addr} : PTs (X.blk s H0 sc (compEnvC sc cl C X.env) fp) ifs (BTs X sc ifs) := by
  match ifs with
  | [] => exact pts_nil
  | [e] => exact pts_one ⟨fun pins s' σ H Q I h => h s H0 C cl fp pins s' I⟩
  | _ :: _ :: _ => exact ⟨fun pins s' σ H Q I h => (show False from h).elim⟩
theorem w_lc {elt : Expr} {ifs : List Expr} {sc : Scope} {g : TG} (own : List (Str × Nat)) (hc : X.calm = true) (hN : X.N.Nodup) (ok : BlkOk X.N X.env.scope sc own)
    (hg : ∀ (s : Shared) (H : Hp) (C : Addr) (cl : List (Str × Addr)) (fp : List Addr), PG (X.blk s H sc (compEnvC sc cl C X.env) fp) tg g)
    (h : tLc (WI X tg iter) g (BTs X sc ifs) (BE X sc elt) (own.map (·.2)) σ H Q) (hs : ∀ x, foldedSetIterable iter X.env x = pure x := by intro _; rfl) :
    WE X (.ListComp elt [⟨tg, iter, ifs, 0⟩] sc pos) σ H Q :=
  we (pe_lc (own := own) hc hN piW ok hg (fun _ _ _ _ _ => btsW) (fun s H0 C cl fp => ⟨fun pins s' σ H Q I h => h s H0 C cl fp pins s' I⟩) hs) h
theorem ws_lc {elt : Expr} {ifs : List Expr} {sc : Scope} {g : TG} {i : Nat} {y : Str} {py pos2 : Pos} (own : List (Str × Nat)) (hc : X.calm = true) (hN : X.N.Nodup) (ok : BlkOk X.N X.env.scope sc own)
    (hg : ∀ (s : Shared) (H : Hp) (C : Addr) (cl : List (Str × Addr)) (fp : List Addr), PG (X.blk s H sc (compEnvC sc cl C X.env) fp) tg g)
    (hsw : swapsWith (.ListComp elt [⟨tg, iter, ifs, 0⟩] sc pos2) (some (.Name y py)) pos.line X.env = pure true)
    (h : tLc (WI X tg iter) g (BTs X sc ifs) (BE X sc elt) (own.map (·.2)) σ H fun v H' => WS X sts D (σ.set i (some v)) H') (hi : X.N[i]? = some y := by rfl) (hy : X.env.scope.names.lookup y = some .local := by rfl) (hs : ∀ x, foldedSetIterable iter X.env x = pure x := by intro _; rfl) :
    WS X (.Assign [.Name y py] (.ListComp elt [⟨tg, iter, ifs, 0⟩] sc pos2) pos :: sts) D σ H :=
  ws_cons (ps_setLc (own := own) hc hN hi hy hsw piW ok hg (fun _ _ _ _ _ => btsW) (fun s H0 C cl fp => ⟨fun pins s' σ H Q I h => h s H0 C cl fp pins s' I⟩) hs) h
end
end Tr
set_option Elab.async false
set_option linter.all false
set_option maxRecDepth 100000
set_option maxHeartbeats 4000000
/-! data that never change: numbers, texts, None, bools, tuples of these; what an expression comes to, as data -/
namespace Tr
open PySem PySem.Spec PyProof.Rows L2
/-- the tuples stand -/
def Tx (H H' : Hp) : Prop := ∀ a xs, H a = some (.tup xs) → H' a = some (.tup xs)
theorem Tx.refl (H : Hp) : Tx H H := fun _ _ h => h
theorem Tx.trans {H H1 H2 : Hp} (a : Tx H H1) (b : Tx H1 H2) : Tx H H2 := fun c o h => b c o (a c o h)
theorem tx_same {H H' : Hp} (s : Same H H') : Tx H H' := fun a _ h => s a _ h
theorem same_new {H : Hp} {p : Addr} {o : HO} (h : H p = none) : Same H (upd H p o) := fun b x e => by
  rw [upd_ne (ne_of_none e h)]
  exact e
/-- what is no tuple may change -/
theorem tx_mut {H H' : Hp} {p : Addr} {o : HO} (t : Tx H H') (h : ∀ xs, H p ≠ some (.tup xs)) : Tx H (upd H' p o) := fun a xs e => by
  rw [upd_ne (fun z => by subst z; exact h xs e)]
  exact t a xs e
theorem same_mut {H H' : Hp} {p : Addr} {o : HO} (t : Same H H') (h : H p = none) : Same H (upd H' p o) := fun a u e => by
  rw [upd_ne (ne_of_none e h)]
  exact t a u e
mutual
inductive Im (H : Hp) : V → PyData → Prop
  | non : Im H .non .none
  | bl (b : Bool) : Im H (.bl b) (.bool b)
  | int (i : Int) : Im H (.int i) (.int i)
  | str (x : Str) : Im H (.str x) (.str x)
  | tup {a : Addr} {xs : List V} {ds : List PyData} : H a = some (.tup xs) → ImAll H xs ds → Im H (.ref a) (.tuple ds)
inductive ImAll (H : Hp) : List V → List PyData → Prop
  | nil : ImAll H [] []
  | cons {v : V} {vs : List V} {d : PyData} {ds : List PyData} : Im H v d → ImAll H vs ds → ImAll H (v :: vs) (d :: ds)
end
mutual
theorem Im.mono {H H' : Hp} (t : Tx H H') : ∀ {v : V} {d : PyData}, Im H v d → Im H' v d
  | _, _, .non => .non
  | _, _, .bl b => .bl b
  | _, _, .int i => .int i
  | _, _, .str x => .str x
  | _, _, .tup h hs => .tup (t _ _ h) (ImAll.mono t hs)
theorem ImAll.mono {H H' : Hp} (t : Tx H H') : ∀ {vs : List V} {ds : List PyData}, ImAll H vs ds → ImAll H' vs ds
  | _, _, .nil => .nil
  | _, _, .cons h hs => .cons (h.mono t) (ImAll.mono t hs)
end
mutual
theorem Im.dp {K : PySem.W.Frag} {H : Hp} : ∀ {v : V} {d : PyData}, Im H v d → Dp K H v d
  | _, _, .non => .non
  | _, _, .bl b => .bl b
  | _, _, .int i => .int i
  | _, _, .str x => .str x
  | _, _, .tup h hs => .tup (SqT.of h) (ImAll.dp hs)
theorem ImAll.dp {K : PySem.W.Frag} {H : Hp} : ∀ {vs : List V} {ds : List PyData}, ImAll H vs ds → DpAll K H vs ds
  | _, _, .nil => .nil
  | _, _, .cons h hs => .cons (h.dp) (ImAll.dp hs)
end
theorem ImAll.length {H : Hp} : ∀ {vs : List V} {ds : List PyData}, ImAll H vs ds → vs.length = ds.length
  | _, _, .nil => rfl
  | _, _, .cons _ hs => by rw [List.length_cons, List.length_cons, hs.length]
theorem ImAll.get {H : Hp} : ∀ {vs : List V} {ds : List PyData} {i : Nat} {d : PyData}, ImAll H vs ds → ds[i]? = some d → ∃ v, vs[i]? = some v ∧ Im H v d
  | _, _, _, _, .nil, e => by simp at e
  | _, _, 0, _, .cons h _, e => by simp at e; subst e; exact ⟨_, rfl, h⟩
  | _, _, i + 1, d, .cons _ hs, e => by
    obtain ⟨v, h1, h2⟩ := ImAll.get (i := i) (d := d) hs (by simpa using e)
    exact ⟨v, by simpa using h1, h2⟩
theorem ImAll.getV {H : Hp} : ∀ {vs : List V} {ds : List PyData} {i : Nat} {v : V}, ImAll H vs ds → vs[i]? = some v → ∃ d, ds[i]? = some d ∧ Im H v d
  | _, _, _, _, .nil, e => by simp at e
  | _, _, 0, _, .cons h _, e => by simp at e; subst e; exact ⟨_, rfl, h⟩
  | _, _, i + 1, d, .cons _ hs, e => by
    obtain ⟨v, h1, h2⟩ := ImAll.getV (i := i) (v := d) hs (by simpa using e)
    exact ⟨v, by simpa using h1, h2⟩
theorem ImAll.append {H : Hp} : ∀ {vs ws : List V} {ds es : List PyData}, ImAll H vs ds → ImAll H ws es → ImAll H (vs ++ ws) (ds ++ es)
  | _, _, _, _, .nil, s => s
  | _, _, _, _, .cons h t, s => .cons h (ImAll.append t s)
theorem ImAll.drop {H : Hp} : ∀ {vs : List V} {ds : List PyData} (n : Nat), ImAll H vs ds → ImAll H (vs.drop n) (ds.drop n)
  | _, _, 0, h => h
  | _, _, _ + 1, .nil => .nil
  | _, _, n + 1, .cons _ t => ImAll.drop n t
theorem ImAll.take {H : Hp} : ∀ {vs : List V} {ds : List PyData} (n : Nat), ImAll H vs ds → ImAll H (vs.take n) (ds.take n)
  | _, _, 0, _ => .nil
  | _, _, _ + 1, .nil => .nil
  | _, _, n + 1, .cons h t => .cons h (ImAll.take n t)
theorem im_int {H : Hp} {v : V} {i : Int} (h : Im H v (.int i)) : v = .int i := by cases h; rfl
theorem im_str {H : Hp} {v : V} {i : Str} (h : Im H v (.str i)) : v = .str i := by cases h; rfl
theorem im_bl {H : Hp} {v : V} {i : Bool} (h : Im H v (.bool i)) : v = .bl i := by cases h; rfl
theorem im_non {H : Hp} {v : V} (h : Im H v .none) : v = .non := by cases h; rfl
theorem im_tup {H : Hp} {v : V} {ds : List PyData} (h : Im H v (.tuple ds)) : ∃ a xs, v = .ref a ∧ H a = some (.tup xs) ∧ ImAll H xs ds := by cases h with | tup e hs => exact ⟨_, _, rfl, e, hs⟩
theorem ImAll.ints {H : Hp} (ns : List Int) : ImAll H (ns.map V.int) (ns.map PyData.int) := by
  induction ns with
  | nil => exact .nil
  | cons n r ih => exact .cons (.int n) ih
theorem ImAll.of_ints {H : Hp} : ∀ {vs : List V} {ns : List Int}, ImAll H vs (ns.map PyData.int) → vs = ns.map V.int
  | vs, [], h => by cases h; rfl
  | vs, n :: r, h => by
    cases h with
    | cons h1 h2 =>
      cases h1
      rw [ImAll.of_ints h2]
      rfl
/-- no data is a list or a dict here -/
theorem ImAll.none {H : Hp} {vs : List V} (h : ImAll H vs []) : vs = [] := by cases h; rfl

/-! ### what an expression comes to -/
def DV (X : Cx) (e : Expr) (σ : St) (H : Hp) (d : PyData) : Prop := ∀ H1, Tx H H1 → ∀ Q : VK, (∀ v H2, Same H1 H2 → Im H2 v d → Q v H2) → WE X e σ H1 Q
def TV (X : Cx) (e : Expr) (σ : St) (H : Hp) (b : Bool) : Prop := ∀ H1, Tx H H1 → ∀ B : Bool → Hp → Prop, (∀ H2, Same H1 H2 → B b H2) → WT X e σ H1 B
def TVW (X : Cx) (e : Expr) (σ : St) (H : Hp) (b : Bool) : Prop := ∀ H1, Tx H H1 → ∀ B : Bool → Hp → Prop, (∀ H2, Same H1 H2 → B b H2) → WW X e σ H1 B
def AV (X : Cx) (es : List Expr) (σ : St) (H : Hp) (ds : List PyData) : Prop := ∀ H1, Tx H H1 → ∀ B : List V → Hp → Prop, (∀ vs H2, Same H1 H2 → ImAll H2 vs ds → B vs H2) → WA X es σ H1 B
/-- a new list of such data -/
def LV (X : Cx) (e : Expr) (σ : St) (H : Hp) (ds : List PyData) : Prop := ∀ H1, Tx H H1 → ∀ Q : VK, (∀ p vs H2, H1 p = none → Same H1 H2 → H2 p = some (.lst vs) → ImAll H2 vs ds → Q (.ref p) H2) → WE X e σ H1 Q
/-- the promise of a def that changes nothing: from data to data -/
def spF (F : List PyData → Option PyData) : Sp := fun vs H Q _ => ∃ ds d, ImAll H vs ds ∧ F ds = some d ∧ ∀ v H', Same H H' → Im H' v d → Q v H'
/-- .. to a new list of data -/
def spL (F : List PyData → Option (List PyData)) : Sp := fun vs H Q _ => ∃ ds rs, ImAll H vs ds ∧ F ds = some rs ∧ ∀ p ws H', H p = none → Same H H' → H' p = some (.lst ws) → ImAll H' ws rs → Q (.ref p) H'
section
variable {X : Cx} {e a b c o : Expr} {es rest : List Expr} {sts p q : List Stmt} {σ : St} {H : Hp} {D : Ends} {pos : Pos} {d d1 d2 : PyData} {ds : List PyData} {k k1 k2 : Bool} {i j : Int} {x y : Str}
theorem DV.mono {H' : Hp} (h : DV X e σ H d) (t : Tx H H') : DV X e σ H' d := fun H1 t1 => h H1 (t.trans t1)
theorem TV.mono {H' : Hp} (h : TV X e σ H k) (t : Tx H H') : TV X e σ H' k := fun H1 t1 => h H1 (t.trans t1)
theorem DV.w {Q : VK} (h : DV X e σ H d) (q : ∀ v H', Same H H' → Im H' v d → Q v H') : WE X e σ H Q := h H (Tx.refl H) Q q
theorem TV.w {B : Bool → Hp → Prop} (h : TV X e σ H k) (q : ∀ H', Same H H' → B k H') : WT X e σ H B := h H (Tx.refl H) B q
theorem LV.w {Q : VK} (h : LV X e σ H ds) (q : ∀ p vs H', H p = none → Same H H' → H' p = some (.lst vs) → ImAll H' vs ds → Q (.ref p) H') : WE X e σ H Q := h H (Tx.refl H) Q q
theorem AV.w {B : List V → Hp → Prop} (h : AV X es σ H ds) (q : ∀ vs H', Same H H' → ImAll H' vs ds → B vs H') : WA X es σ H B := h H (Tx.refl H) B q
theorem DV.to (h : DV X e σ H d1) (q : d1 = d2) : DV X e σ H d2 := q ▸ h
theorem TV.to (h : TV X e σ H k1) (q : k1 = k2) : TV X e σ H k2 := q ▸ h
theorem dv_v (n : Nat) {v : V} (h : σ[n]? = some (some v)) (hd : Im H v d) (hN : X.N[n]? = some x := by rfl) (hv : Vis X.env.scope x := by first | exact Or.inl rfl | exact Or.inr (Or.inl rfl) | exact Or.inr (Or.inr rfl)) (hdb : (x == ("__debug__" : Str)) = false := by decide)
    (hcd : (x == ("__classdict__" : Str)) = false := by decide) : DV X (.Name x pos) σ H d := fun H1 t Q q => w_v n h (q v H1 (Same.refl _) (hd.mono t)) hN hv hdb hcd
theorem dv_int {m : Nat} : DV X (.Constant (.int i) m pos) σ H (.int i) := fun H1 _ Q q => w_int (q _ H1 (Same.refl _) (.int i))
theorem dv_neg {m : Nat} {p1 : Pos} : DV X (.UnaryOp .USub (.Constant (.int i) m p1) pos) σ H (.int (-i)) := fun H1 _ Q q => w_neg (q _ H1 (Same.refl _) (.int _))
theorem dv_str {m : Nat} : DV X (.Constant (.str x) m pos) σ H (.str x) := fun H1 _ Q q => w_str (q _ H1 (Same.refl _) (.str x))
theorem dv_bl {m : Nat} : DV X (.Constant (.bool k) m pos) σ H (.bool k) := fun H1 _ Q q => w_bl (q _ H1 (Same.refl _) (.bl k))
theorem dv_non {m : Nat} : DV X (.Constant .none m pos) σ H .none := fun H1 _ Q q => w_non (q _ H1 (Same.refl _) .non)
/-- a number, a text of the top -/
theorem dv_gi {tk : Tok} (hm : X.mg x = some (.int i tk)) (hg : Gl X x := by rfl) (hd : (x == ("__debug__" : Str)) = false := by decide) : DV X (.Name x pos) σ H (.int i) := fun H1 _ Q q => w_glob hm (show RelV (.int i) (.int i tk) from ⟨tk, rfl⟩) (q _ H1 (Same.refl _) (.int i)) hg hd
theorem dv_gs {tk : Tok} (hm : X.mg x = some (.str y tk)) (hg : Gl X x := by rfl) (hd : (x == ("__debug__" : Str)) = false := by decide) : DV X (.Name x pos) σ H (.str y) := fun H1 _ Q q => w_glob hm (show RelV (.str y) (.str y tk) from ⟨tk, rfl⟩) (q _ H1 (Same.refl _) (.str y)) hg hd
/-- two operands, then a rule by values -/
theorem dv_two {r : R2} (hf : ∀ H1 Q, (WE X a σ H1 fun u H2 => WE X b σ H2 fun v H3 => r u v H3 Q) → WE X e σ H1 Q) (ha : DV X a σ H d1) (hb : DV X b σ H d2) (hr : ∀ H1 u v (Q : VK), Im H1 u d1 → Im H1 v d2 → (∀ w H2, Same H1 H2 → Im H2 w d → Q w H2) → r u v H1 Q) : DV X e σ H d :=
  fun H1 t Q q => hf H1 Q (ha H1 t _ fun u H2 s2 iu => hb H2 (t.trans (tx_same s2)) _ fun v H3 s3 iv => hr H3 u v Q (iu.mono (tx_same s3)) iv fun w H4 s4 iw => q w H4 ((s2.trans s3).trans s4) iw)
theorem dv_op {op : Operator} {r : R2} (ho : OpR X (binaryOp op) r) (ha : DV X a σ H d1) (hb : DV X b σ H d2) (hr : ∀ H1 u v (Q : VK), Im H1 u d1 → Im H1 v d2 → (∀ w H2, Same H1 H2 → Im H2 w d → Q w H2) → r u v H1 Q) : DV X (.BinOp a op b pos) σ H d :=
  dv_two (fun _ _ h => w_op ho h) ha hb hr
theorem dv_add (ha : DV X a σ H (.int i)) (hb : DV X b σ H (.int j)) : DV X (.BinOp a .Add b pos) σ H (.int (i + j)) := dv_op op_add ha hb fun H1 u v Q iu iv q => ⟨i, j, im_int iu, im_int iv, q _ _ (Same.refl _) (.int _)⟩
theorem dv_sub (ha : DV X a σ H (.int i)) (hb : DV X b σ H (.int j)) : DV X (.BinOp a .Sub b pos) σ H (.int (i - j)) := dv_op op_sub ha hb fun H1 u v Q iu iv q => ⟨i, j, im_int iu, im_int iv, q _ _ (Same.refl _) (.int _)⟩
theorem dv_mul (ha : DV X a σ H (.int i)) (hb : DV X b σ H (.int j)) (hc : CMul i j) : DV X (.BinOp a .Mult b pos) σ H (.int (i * j)) := dv_op op_mul ha hb fun H1 u v Q iu iv q => ⟨i, j, im_int iu, im_int iv, hc, q _ _ (Same.refl _) (.int _)⟩
theorem dv_mod (ha : DV X a σ H (.int i)) (hb : DV X b σ H (.int j)) (hc : 0 < j) : DV X (.BinOp a .Mod b pos) σ H (.int (i % j)) := dv_op op_mod ha hb fun H1 u v Q iu iv q => ⟨i, j, im_int iu, im_int iv, hc, q _ _ (Same.refl _) (.int _)⟩
theorem dv_div (ha : DV X a σ H (.int i)) (hb : DV X b σ H (.int j)) (hc : CDiv i j) : DV X (.BinOp a .FloorDiv b pos) σ H (.int (i / j)) := dv_op op_fdiv ha hb fun H1 u v Q iu iv q => ⟨i, j, im_int iu, im_int iv, hc, q _ _ (Same.refl _) (.int _)⟩
theorem dv_cmp {op : CmpOp} {r : R2} (ho : OpR X (compareOp op) r) (ha : DV X a σ H d1) (hb : DV X b σ H d2) (hr : ∀ H1 u v (Q : VK), Im H1 u d1 → Im H1 v d2 → (∀ w H2, Same H1 H2 → Im H2 w d → Q w H2) → r u v H1 Q) (hm : behindInMarks op b = false := by first | exact nomark _ | rfl) : DV X (.Compare a [op] [b] pos) σ H d :=
  dv_two (fun _ _ h => w_cmp ho h hm) ha hb hr
theorem tv_cmp {op : CmpOp} {r : R2} (ho : OpR X (compareOp op) r) (ha : DV X a σ H d1) (hb : DV X b σ H d2) (hr : ∀ H1 u v (Q : VK), Im H1 u d1 → Im H1 v d2 → (∀ H2, Same H1 H2 → Q (.bl k) H2) → r u v H1 Q) (hm : behindInMarks op b = false := by first | exact nomark _ | rfl) : TV X (.Compare a [op] [b] pos) σ H k :=
  fun H1 t B q => t_cmp ho (ha H1 t _ fun u H2 s2 iu => hb H2 (t.trans (tx_same s2)) _ fun v H3 s3 iv => hr H3 u v _ (iu.mono (tx_same s3)) iv fun H4 s4 => ⟨k, rfl, q H4 ((s2.trans s3).trans s4)⟩) hm
theorem r_lt {H1 : Hp} {u v : V} {Q : VK} (iu : Im H1 u (.int i)) (iv : Im H1 v (.int j)) (q : ∀ H2, Same H1 H2 → Q (.bl (decide (i < j))) H2) : (rI0 fun i j => V.bl (decide (i < j))) u v H1 Q := ⟨i, j, im_int iu, im_int iv, q _ (Same.refl _)⟩
theorem tv_lt (ha : DV X a σ H (.int i)) (hb : DV X b σ H (.int j)) : TV X (.Compare a [.Lt] [b] pos) σ H (decide (i < j)) := tv_cmp op_lt ha hb fun H1 u v Q iu iv q => ⟨i, j, im_int iu, im_int iv, q _ (Same.refl _)⟩
theorem tv_le (ha : DV X a σ H (.int i)) (hb : DV X b σ H (.int j)) : TV X (.Compare a [.LtE] [b] pos) σ H (decide (i ≤ j)) := tv_cmp op_le ha hb fun H1 u v Q iu iv q => ⟨i, j, im_int iu, im_int iv, q _ (Same.refl _)⟩
theorem tv_gt (ha : DV X a σ H (.int i)) (hb : DV X b σ H (.int j)) : TV X (.Compare a [.Gt] [b] pos) σ H (decide (j < i)) := tv_cmp op_gt ha hb fun H1 u v Q iu iv q => ⟨i, j, im_int iu, im_int iv, q _ (Same.refl _)⟩
theorem tv_ge (ha : DV X a σ H (.int i)) (hb : DV X b σ H (.int j)) : TV X (.Compare a [.GtE] [b] pos) σ H (decide (j ≤ i)) := tv_cmp op_ge ha hb fun H1 u v Q iu iv q => ⟨i, j, im_int iu, im_int iv, q _ (Same.refl _)⟩
theorem decI {i j : Int} : decide (V.int i = V.int j) = decide (i = j) := by
  by_cases h : i = j
  · subst h; simp
  · rw [decide_eq_false h, decide_eq_false (fun z => h (V.int.inj z))]
theorem decS {i j : Str} : decide (V.str i = V.str j) = decide (i = j) := by
  by_cases h : i = j
  · subst h; simp
  · rw [decide_eq_false h, decide_eq_false (fun z => h (V.str.inj z))]
theorem tv_eqI (ha : DV X a σ H (.int i)) (hb : DV X b σ H (.int j)) : TV X (.Compare a [.Eq] [b] pos) σ H (decide (i = j)) := tv_cmp op_eq ha hb fun H1 u v Q iu iv q => by
  cases im_int iu; cases im_int iv
  refine ⟨rfl, ?_⟩
  rw [decI]
  exact q _ (Same.refl _)
theorem tv_neI (ha : DV X a σ H (.int i)) (hb : DV X b σ H (.int j)) : TV X (.Compare a [.NotEq] [b] pos) σ H (!decide (i = j)) := tv_cmp op_ne ha hb fun H1 u v Q iu iv q => by
  cases im_int iu; cases im_int iv
  refine ⟨rfl, ?_⟩
  rw [decI]
  exact q _ (Same.refl _)
theorem tv_eqS (ha : DV X a σ H (.str x)) (hb : DV X b σ H (.str y)) : TV X (.Compare a [.Eq] [b] pos) σ H (decide (x = y)) := tv_cmp op_eq ha hb fun H1 u v Q iu iv q => by
  cases im_str iu; cases im_str iv
  refine ⟨rfl, ?_⟩
  rw [decS]
  exact q _ (Same.refl _)
theorem tv_neS (ha : DV X a σ H (.str x)) (hb : DV X b σ H (.str y)) : TV X (.Compare a [.NotEq] [b] pos) σ H (!decide (x = y)) := tv_cmp op_ne ha hb fun H1 u v Q iu iv q => by
  cases im_str iu; cases im_str iv
  refine ⟨rfl, ?_⟩
  rw [decS]
  exact q _ (Same.refl _)
theorem dv_eqI (ha : DV X a σ H (.int i)) (hb : DV X b σ H (.int j)) : DV X (.Compare a [.Eq] [b] pos) σ H (.bool (decide (i = j))) := dv_cmp op_eq ha hb fun H1 u v Q iu iv q => by
  cases im_int iu; cases im_int iv
  refine ⟨rfl, ?_⟩
  rw [decI]
  exact q _ _ (Same.refl _) (.bl _)
theorem dv_neI (ha : DV X a σ H (.int i)) (hb : DV X b σ H (.int j)) : DV X (.Compare a [.NotEq] [b] pos) σ H (.bool (!decide (i = j))) := dv_cmp op_ne ha hb fun H1 u v Q iu iv q => by
  cases im_int iu; cases im_int iv
  refine ⟨rfl, ?_⟩
  rw [decI]
  exact q _ _ (Same.refl _) (.bl _)
theorem dv_eqS (ha : DV X a σ H (.str x)) (hb : DV X b σ H (.str y)) : DV X (.Compare a [.Eq] [b] pos) σ H (.bool (decide (x = y))) := dv_cmp op_eq ha hb fun H1 u v Q iu iv q => by
  cases im_str iu; cases im_str iv
  refine ⟨rfl, ?_⟩
  rw [decS]
  exact q _ _ (Same.refl _) (.bl _)
theorem dv_neS (ha : DV X a σ H (.str x)) (hb : DV X b σ H (.str y)) : DV X (.Compare a [.NotEq] [b] pos) σ H (.bool (!decide (x = y))) := dv_cmp op_ne ha hb fun H1 u v Q iu iv q => by
  cases im_str iu; cases im_str iv
  refine ⟨rfl, ?_⟩
  rw [decS]
  exact q _ _ (Same.refl _) (.bl _)
theorem dv_lt (ha : DV X a σ H (.int i)) (hb : DV X b σ H (.int j)) : DV X (.Compare a [.Lt] [b] pos) σ H (.bool (decide (i < j))) := dv_cmp op_lt ha hb fun H1 u v Q iu iv q => ⟨i, j, im_int iu, im_int iv, q _ _ (Same.refl _) (.bl _)⟩
theorem dv_le (ha : DV X a σ H (.int i)) (hb : DV X b σ H (.int j)) : DV X (.Compare a [.LtE] [b] pos) σ H (.bool (decide (i ≤ j))) := dv_cmp op_le ha hb fun H1 u v Q iu iv q => ⟨i, j, im_int iu, im_int iv, q _ _ (Same.refl _) (.bl _)⟩
def isN : PyData → Bool
  | .none => true
  | _ => false
theorem im_isN {H : Hp} {v : V} (h : Im H v d) : decide (v = .non) = isN d := by cases h <;> rfl
theorem tv_isN {m : Nat} {p1 : Pos} (ha : DV X a σ H d) : TV X (.Compare a [.Is] [.Constant .none m p1] pos) σ H (isN d) := tv_cmp op_isN ha dv_non fun H1 u v Q iu iv q => by
  refine ⟨im_non iv, ?_⟩
  rw [im_isN iu]
  exact q _ (Same.refl _)
theorem tv_notN {m : Nat} {p1 : Pos} (ha : DV X a σ H d) : TV X (.Compare a [.IsNot] [.Constant .none m p1] pos) σ H (!isN d) := tv_cmp op_notN ha dv_non fun H1 u v Q iu iv q => by
  refine ⟨im_non iv, ?_⟩
  rw [im_isN iu]
  exact q _ (Same.refl _)
theorem tv_val (h : DV X e σ H (.bool k)) (he : ∀ whole, isTrue e X.env whole = (do let v ← whole; standAt e.pos; holding [v] (truthy v)) := by intro _; rfl) : TV X e σ H k := fun H1 t B q => t_val (h H1 t _ fun v H2 s2 iv => ⟨k, im_bl iv, q H2 s2⟩) he
theorem tv_not (h : TV X a σ H k) : TV X (.UnaryOp .Not a pos) σ H (!k) := fun H1 t B q => t_not (h H1 t _ fun H2 s2 => q H2 s2)
theorem dv_not (h : DV X a σ H (.bool k)) : DV X (.UnaryOp .Not a pos) σ H (.bool (!k)) := fun H1 t Q q => w_not (h H1 t _ fun v H2 s2 iv => ⟨k, im_bl iv, q _ H2 s2 (.bl _)⟩)
theorem tw_or1 (h : TV X a σ H k) : TVW X (.BoolOp .Or [a] pos) σ H k := fun H1 t B q => t_or1 (h H1 t _ fun H2 s2 => q H2 s2)
theorem tw_and1 (h : TV X a σ H k) : TVW X (.BoolOp .And [a] pos) σ H k := fun H1 t B q => t_and1 (h H1 t _ fun H2 s2 => q H2 s2)
theorem tw_or (h : TV X a σ H k1) (h2 : k1 = false → TVW X (.BoolOp .Or (b :: rest) pos) σ H k2) : TVW X (.BoolOp .Or (a :: b :: rest) pos) σ H (k1 || k2) := fun H1 t B q => t_or (h H1 t _ fun H2 s2 => by
  cases k1 with
  | true => exact iteT (q H2 s2)
  | false => exact iteF (h2 rfl H2 (t.trans (tx_same s2)) _ fun H3 s3 => q H3 (s2.trans s3)))
theorem tw_and (h : TV X a σ H k1) (h2 : k1 = true → TVW X (.BoolOp .And (b :: rest) pos) σ H k2) : TVW X (.BoolOp .And (a :: b :: rest) pos) σ H (k1 && k2) := fun H1 t B q => t_and (h H1 t _ fun H2 s2 => by
  cases k1 with
  | false => exact iteF (q H2 s2)
  | true => exact iteT (h2 rfl H2 (t.trans (tx_same s2)) _ fun H3 s3 => q H3 (s2.trans s3)))
theorem tv_w (h : TVW X e σ H k) : TV X e σ H k := fun H1 t B q => t_w (h H1 t B q)
theorem dv_one {op : BoolOp} (h : DV X a σ H d) : DV X (.BoolOp op [a] pos) σ H d := fun H1 t Q q => w_one (h H1 t Q q)
theorem dv_and (h : DV X a σ H (.bool k1)) (h2 : k1 = true → DV X (.BoolOp .And (b :: rest) pos) σ H (.bool k2)) : DV X (.BoolOp .And (a :: b :: rest) pos) σ H (.bool (k1 && k2)) := fun H1 t Q q => w_and (h H1 t _ fun v H2 s2 iv => ⟨k1, im_bl iv, by
  cases k1 with
  | false => exact iteF (q _ H2 s2 (.bl _))
  | true => exact iteT (h2 rfl H2 (t.trans (tx_same s2)) _ fun v H3 s3 iv => q v H3 (s2.trans s3) iv)⟩)
theorem dv_or (h : DV X a σ H (.bool k1)) (h2 : k1 = false → DV X (.BoolOp .Or (b :: rest) pos) σ H (.bool k2)) : DV X (.BoolOp .Or (a :: b :: rest) pos) σ H (.bool (k1 || k2)) := fun H1 t Q q => w_or (h H1 t _ fun v H2 s2 iv => ⟨k1, im_bl iv, by
  cases k1 with
  | true => exact iteT (q _ H2 s2 (.bl _))
  | false => exact iteF (h2 rfl H2 (t.trans (tx_same s2)) _ fun v H3 s3 iv => q v H3 (s2.trans s3) iv)⟩)
theorem dv_ifx (h : TV X c σ H k) (h1 : k = true → DV X a σ H d) (h2 : k = false → DV X b σ H d) : DV X (.IfExp c a b pos) σ H d := fun H1 t Q q => w_ifx (h H1 t _ fun H2 s2 => by
  cases k with
  | true => exact iteT (h1 rfl H2 (t.trans (tx_same s2)) _ fun v H3 s3 iv => q v H3 (s2.trans s3) iv)
  | false => exact iteF (h2 rfl H2 (t.trans (tx_same s2)) _ fun v H3 s3 iv => q v H3 (s2.trans s3) iv))
/-- low <= part <= high -/
theorem dv_le2 {m : Int} (ha : DV X a σ H (.int i)) (hb : DV X b σ H (.int j)) (hc : DV X c σ H (.int m)) (hm : lastMarks [.LtE, .LtE] [b, c] = false := by with_unfolding_all rfl) : DV X (.Compare a [.LtE, .LtE] [b, c] pos) σ H (.bool (decide (i ≤ j) && decide (j ≤ m))) := fun H1 t Q q =>
  w_chain op_le op_le (ha H1 t _ fun u H2 s2 iu => hb H2 (t.trans (tx_same s2)) _ fun v H3 s3 iv => ⟨i, j, im_int iu, im_int iv, decide (i ≤ j), rfl, by
    cases hk : decide (i ≤ j) with
    | false => exact iteF (q _ H3 (s2.trans s3) (by rw [hk]; exact .bl false))
    | true => exact iteT (hc H3 ((t.trans (tx_same s2)).trans (tx_same s3)) _ fun w H4 s4 iw => ⟨j, m, im_int iv, im_int iw, q _ H4 ((s2.trans s3).trans s4) (by rw [hk]; exact .bl _)⟩)⟩) hm
theorem tv_le2 {m : Int} (ha : DV X a σ H (.int i)) (hb : DV X b σ H (.int j)) (hc : DV X c σ H (.int m)) (hm : lastMarks [.LtE, .LtE] [b, c] = false := by with_unfolding_all rfl) : TV X (.Compare a [.LtE, .LtE] [b, c] pos) σ H (decide (i ≤ j) && decide (j ≤ m)) := fun H1 t Q q =>
  t_chain op_le op_le (ha H1 t _ fun u H2 s2 iu => hb H2 (t.trans (tx_same s2)) _ fun v H3 s3 iv => ⟨i, j, im_int iu, im_int iv, decide (i ≤ j), rfl, by
    cases hk : decide (i ≤ j) with
    | false => exact iteF ⟨false, rfl, by have z := q H3 (s2.trans s3); rw [hk] at z; exact z⟩
    | true => exact iteT (hc H3 ((t.trans (tx_same s2)).trans (tx_same s3)) _ fun w H4 s4 iw => ⟨j, m, im_int iv, im_int iw, _, rfl, by have z := q H4 ((s2.trans s3).trans s4); rw [hk] at z; exact z⟩)⟩) hm
theorem av_nil : AV X [] σ H [] := fun H1 _ B q => wa_nil (q [] H1 (Same.refl _) .nil)
theorem av_cons (h : DV X e σ H d) (hs : AV X es σ H ds) (hst : starEach (e :: es) X.env = (false, eval e X.env) :: starEach es X.env := by rfl) : AV X (e :: es) σ H (d :: ds) := fun H1 t B q => wa_cons (h H1 t _ fun v H2 s2 iv => hs H2 (t.trans (tx_same s2)) _ fun vs H3 s3 ivs => q (v :: vs) H3 (s2.trans s3) (.cons (iv.mono (tx_same s3)) ivs)) hst
theorem dv_tup {m : Nat} (h : AV X es σ H ds) (hl : ds.length ≤ 100000) : DV X (.Tuple es m pos) σ H (.tuple ds) := fun H1 t Q q => w_tup (h H1 t _ fun vs H2 s2 ivs => ⟨by rw [ivs.length]; exact Nat.le_trans hl (by decide), fun p hp => q _ _ (s2.trans (same_new hp)) (.tup upd_same (ivs.mono (tx_same (same_new hp))))⟩)
theorem lv_lst (h : AV X es σ H ds) (hl : ds.length ≤ 100000) : LV X (.List es pos) σ H ds := fun H1 t Q q => w_lst (h H1 t _ fun vs H2 s2 ivs => ⟨by rw [ivs.length]; exact Nat.le_trans hl (by decide), fun p hp => q p vs _ (s2.free hp) (s2.trans (same_new hp)) upd_same (ivs.mono (tx_same (same_new hp)))⟩)
theorem ixN_some {n : Nat} {i : Int} {j : Nat} (h : ixN n i = some j) : j < n := by
  unfold ixN at h
  split at h
  · split at h
    · cases h; omega
    · cases h
  · split at h
    · cases h; omega
    · cases h
theorem dv_ix (ha : DV X a σ H (.tuple ds)) (hb : DV X b σ H (.int i)) (hd : atI ds i = some d) (hs : PlainIx b := by exact fun _ _ => rfl) : DV X (.Subscript a b pos) σ H d :=
  dv_two (fun _ _ h => w_ix ix_tup h hs) ha hb fun H1 u v Q iu iv q => by
    obtain ⟨p, xs, rfl, hp, hx⟩ := im_tup iu
    cases im_int iv
    unfold atI at hd
    cases hn : ixN ds.length i with
    | none => rw [hn] at hd; cases hd
    | some n =>
      rw [hn] at hd
      obtain ⟨w, hw, iw⟩ := hx.get (show ds[n]? = some d from hd)
      exact ⟨p, xs, i, w, rfl, rfl, SqT.of hp, by unfold atI; rw [hx.length, hn]; exact hw, q w H1 (Same.refl _) iw⟩
theorem cut_from {α : Type} (xs : List α) (n : Nat) : (xs.drop (HT.sIx xs.length 0 (some (n : Int)))).take (HT.sIx xs.length xs.length none - HT.sIx xs.length 0 (some (n : Int))) = xs.drop n := by
  rw [HT.sIx_nat, HT.sIx_none]
  by_cases h : n ≤ xs.length
  · rw [Nat.min_eq_left h, List.take_of_length_le (by rw [List.length_drop]; omega)]
  · rw [Nat.min_eq_right (by omega), List.drop_of_length_le (show xs.length ≤ n by omega), List.drop_of_length_le (Nat.le_refl _), List.take_nil]
/-- t[n:] -/
theorem dv_from {n m : Nat} {p1 p2 : Pos} (ha : DV X a σ H (.tuple ds)) : DV X (.Subscript a (.Slice (some (.Constant (.int (n : Int)) m p1)) none none p2) pos) σ H (.tuple (ds.drop n)) := fun H1 t Q q =>
  w_sl sl_tupA (po_some pe_int) po_none (ha H1 t _ fun u H2 s2 iu => by
    obtain ⟨p, xs, rfl, hp, hx⟩ := im_tup iu
    refine ⟨(n : Int), rfl, p, xs, rfl, SqT.of hp, fun hw => ?_, fun hw r hr => ?_⟩
    · have e := cut_from xs n
      rw [hw.1, hw.2] at e
      have e0 : xs.drop n = xs := by rw [← e]; simp
      have e1 : ds.drop n = ds := by
        have l := congrArg List.length e0
        rw [List.length_drop] at l
        have hl := hx.length
        by_cases z : n = 0
        · subst z; rfl
        · have : ds.length = 0 := by omega
          rw [List.length_eq_zero_iff] at this
          rw [this]; simp
      rw [e1] at q
      exact q _ H2 s2 iu
    · refine q _ _ (s2.trans (same_new hr)) (.tup (xs := xs.drop n) ?_ ((hx.drop n).mono (tx_same (same_new hr))))
      rw [upd_same]
      exact congrArg (fun z => some (HO.tup z)) (cut_from xs n))
theorem dv_lenT (hm : X.mg "len" = none) (ha : DV X a σ H (.tuple ds)) {p1 : Pos} (hg : Gl X "len" := by rfl) (he : starEach [a] X.env = [(false, eval a X.env)] := by rfl) : DV X (.Call (.Name "len" p1) [a] [] pos) σ H (.int (ds.length : Int)) := fun H1 t Q q =>
  w_callB call_len_seq hm PySem.boot_len (wa_cons (ha H1 t _ fun u H2 s2 iu => wa_nil (by
    obtain ⟨p, xs, rfl, hp, hx⟩ := im_tup iu
    refine ⟨p, xs, rfl, .inr (SqT.of hp), ?_⟩
    rw [hx.length]
    exact q _ H2 s2 (.int _))) he) hg (he := he)
theorem dv_lenS (hm : X.mg "len" = none) (ha : DV X a σ H (.str x)) (hl : x.length ≤ 100000) {p1 : Pos} (hg : Gl X "len" := by rfl) (he : starEach [a] X.env = [(false, eval a X.env)] := by rfl) : DV X (.Call (.Name "len" p1) [a] [] pos) σ H (.int (x.length : Int)) := fun H1 t Q q =>
  w_callB call_len_str hm PySem.boot_len (wa_cons (ha H1 t _ fun u H2 s2 iu => wa_nil (by
    cases im_str iu
    exact ⟨x, rfl, Nat.le_trans hl (by decide), q _ H2 s2 (.int _)⟩)) he) hg (he := he)
/-- a def of the text -/
theorem dv_c {n m : Nat} {F : List PyData → Option PyData} {p1 : Pos} (c : Fc X.prog X.w X.K X.mg X.base n x (spF F)) (hr : Room m X.A) (hk : n ≤ m) (ha : AV X (e :: es) σ H ds) (hF : F ds = some d) (hg : Gl X x := by rfl)
    (hdb : (x == ("__debug__" : Str)) = false := by decide) (he : starEach (e :: es) X.env = (false, eval e X.env) :: starEach es X.env := by rfl) (hpl : (backTo pos (starEach es X.env)).any (·.1) = false := by rfl) : DV X (.Call (.Name x p1) (e :: es) [] pos) σ H d := fun H1 t Q q =>
  w_c c hr hk (ha H1 t _ fun vs H2 s2 ivs => ⟨ds, d, ivs, hF, fun v H3 s3 iv => q v H3 (s2.trans s3) iv⟩) hg hdb he hpl
theorem lv_c {n m : Nat} {F : List PyData → Option (List PyData)} {rs : List PyData} {p1 : Pos} (c : Fc X.prog X.w X.K X.mg X.base n x (spL F)) (hr : Room m X.A) (hk : n ≤ m) (ha : AV X (e :: es) σ H ds) (hF : F ds = some rs) (hg : Gl X x := by rfl)
    (hdb : (x == ("__debug__" : Str)) = false := by decide) (he : starEach (e :: es) X.env = (false, eval e X.env) :: starEach es X.env := by rfl) (hpl : (backTo pos (starEach es X.env)).any (·.1) = false := by rfl) : LV X (.Call (.Name x p1) (e :: es) [] pos) σ H rs := fun H1 t Q q =>
  w_c c hr hk (ha H1 t _ fun vs H2 s2 ivs => ⟨ds, rs, ivs, hF, fun p ws H3 hp s3 hw iv => q p ws H3 (s2.free hp) (s2.trans s3) hw iv⟩) hg hdb he hpl
/-! statements -/
theorem ws_retD (h : DV X e σ H d) (q : ∀ v H', Same H H' → Im H' v d → D.rt v H') : WS X (.Return (some e) pos :: sts) D σ H := ws_ret (h.w q)
theorem ws_ifD (h : TV X c σ H k) (h1 : k = true → ∀ H', Same H H' → WS X p { D with nx := WS X sts D } σ H') (h2 : k = false → ∀ H', Same H H' → WS X q { D with nx := WS X sts D } σ H') : WS X (.If c p q pos :: sts) D σ H := ws_if (h.w fun H' s => by
  cases k with
  | true => exact iteT (h1 rfl H' s)
  | false => exact iteF (h2 rfl H' s))
end
end Tr
set_option Elab.async false
set_option linter.all false
set_option maxRecDepth 100000
set_option maxHeartbeats 4000000
/-! isinstance, in, tables of the top, comprehensions over data -/
namespace Tr
open PySem PySem.Spec PyProof.Rows L2
def tyD : PyData → String
  | .none => "NoneType"
  | .bool _ => "bool"
  | .int _ => "int"
  | .str _ => "str"
  | .list _ => "list"
  | .tuple _ => "tuple"
  | .dict _ => "dict"
def isiD (T : String) (d : PyData) : Bool := match T with
  | "int" => (match d with | .int _ => true | .bool _ => true | _ => false)
  | "bool" => (match d with | .bool _ => true | _ => false)
  | "str" => (match d with | .str _ => true | _ => false)
  | "tuple" => (match d with | .tuple _ => true | _ => false)
  | "list" => (match d with | .list _ => true | _ => false)
  | _ => false
theorem kit_int (d : PyData) : kitB (tyD d) "int" = some (isiD "int" d) := by cases d <;> kernel_rfl
theorem kit_bool (d : PyData) : kitB (tyD d) "bool" = some (isiD "bool" d) := by cases d <;> kernel_rfl
theorem kit_str (d : PyData) : kitB (tyD d) "str" = some (isiD "str" d) := by cases d <;> kernel_rfl
theorem kit_tuple (d : PyData) : kitB (tyD d) "tuple" = some (isiD "tuple" d) := by cases d <;> kernel_rfl
theorem kit_list (d : PyData) : kitB (tyD d) "list" = some (isiD "list" d) := by cases d <;> kernel_rfl
theorem im_ty {K : PySem.W.Frag} {H : Hp} {v : V} {d : PyData} (h : Im H v d) : TyX K H v (.type (tyD d)) := by
  cases h with
  | non => exact .base .non
  | bl b => exact .base (.bl b)
  | int i => exact .base (.int i)
  | str x => exact .base (.str x)
  | tup e _ => exact .base (.tup e)
theorem bt_isinstance : bootBuiltins "isinstance" = some (.builtin "isinstance") := by decide +kernel
theorem bt_int : bootBuiltins "int" = some (.type "int") := by decide +kernel
theorem bt_bool : bootBuiltins "bool" = some (.type "bool") := by decide +kernel
theorem bt_str : bootBuiltins "str" = some (.type "str") := by decide +kernel
theorem bt_tuple : bootBuiltins "tuple" = some (.type "tuple") := by decide +kernel
theorem bt_list : bootBuiltins "list" = some (.type "list") := by decide +kernel
theorem bt_len : bootBuiltins "len" = some (.builtin "len") := PySem.boot_len
section
variable {X : Cx} {e a b c o tg iter elt : Expr} {es rest ifs : List Expr} {sts p q : List Stmt} {σ : St} {H : Hp} {D : Ends} {pos : Pos} {d d1 d2 : PyData} {ds : List PyData} {k k1 k2 : Bool} {i j : Int} {x y : Str}
theorem dv_isi {T : String} {n : Str} {p1 p2 : Pos} (hT : bootBuiltins n = some (.type T)) (hk : kitB (tyD d) T = some (isiD T d)) (hm : X.mg "isinstance" = none) (hn : X.mg n = none) (ha : DV X a σ H d)
    (hg : Gl X "isinstance" := by rfl) (hg2 : Gl X n := by rfl) (h1 : n ≠ "__name__" := by decide) (h2 : (n == ("__debug__" : Str)) = false := by decide)
    (he : starEach [a, .Name n p2] X.env = (false, eval a X.env) :: starEach [.Name n p2] X.env := by rfl) (he2 : starEach [.Name n p2] X.env = [(false, eval (.Name n p2) X.env)] := by rfl) (hpl : (backTo pos (starEach [.Name n p2] X.env)).any (·.1) = false := by rfl) :
    DV X (.Call (.Name "isinstance" p1) [a, .Name n p2] [] pos) σ H (.bool (isiD T d)) := fun H1 t Q qq =>
  w_callB call_isi hm bt_isinstance (wa_cons (ha H1 t _ fun u H2 s2 iu => wa_cons (w_blt (v := .ty T) hn hT rfl (wa_nil ⟨u, .ty T, _, _, isiD T d, rfl, .ty T, im_ty iu, kit_ty hk, qq _ H2 s2 (.bl _)⟩) hg2 h1 h2) he2) he) hg (he := he) (hpl := hpl)
theorem dv_isInt {p1 p2 : Pos} (hm : X.mg "isinstance" = none) (hn : X.mg "int" = none) (ha : DV X a σ H d) (hg : Gl X "isinstance" := by rfl) (hg2 : Gl X "int" := by rfl)
    (he : starEach [a, .Name "int" p2] X.env = (false, eval a X.env) :: starEach [.Name "int" p2] X.env := by rfl) (he2 : starEach [.Name "int" p2] X.env = [(false, eval (.Name "int" p2) X.env)] := by rfl) (hpl : (backTo pos (starEach [.Name "int" p2] X.env)).any (·.1) = false := by rfl) :
    DV X (.Call (.Name "isinstance" p1) [a, .Name "int" p2] [] pos) σ H (.bool (isiD "int" d)) := dv_isi bt_int (kit_int d) hm hn ha hg hg2 (by decide) (by decide) he he2 hpl
theorem dv_isBool {p1 p2 : Pos} (hm : X.mg "isinstance" = none) (hn : X.mg "bool" = none) (ha : DV X a σ H d) (hg : Gl X "isinstance" := by rfl) (hg2 : Gl X "bool" := by rfl)
    (he : starEach [a, .Name "bool" p2] X.env = (false, eval a X.env) :: starEach [.Name "bool" p2] X.env := by rfl) (he2 : starEach [.Name "bool" p2] X.env = [(false, eval (.Name "bool" p2) X.env)] := by rfl) (hpl : (backTo pos (starEach [.Name "bool" p2] X.env)).any (·.1) = false := by rfl) :
    DV X (.Call (.Name "isinstance" p1) [a, .Name "bool" p2] [] pos) σ H (.bool (isiD "bool" d)) := dv_isi bt_bool (kit_bool d) hm hn ha hg hg2 (by decide) (by decide) he he2 hpl
theorem dv_isStr {p1 p2 : Pos} (hm : X.mg "isinstance" = none) (hn : X.mg "str" = none) (ha : DV X a σ H d) (hg : Gl X "isinstance" := by rfl) (hg2 : Gl X "str" := by rfl)
    (he : starEach [a, .Name "str" p2] X.env = (false, eval a X.env) :: starEach [.Name "str" p2] X.env := by rfl) (he2 : starEach [.Name "str" p2] X.env = [(false, eval (.Name "str" p2) X.env)] := by rfl) (hpl : (backTo pos (starEach [.Name "str" p2] X.env)).any (·.1) = false := by rfl) :
    DV X (.Call (.Name "isinstance" p1) [a, .Name "str" p2] [] pos) σ H (.bool (isiD "str" d)) := dv_isi bt_str (kit_str d) hm hn ha hg hg2 (by decide) (by decide) he he2 hpl
theorem dv_isTup {p1 p2 : Pos} (hm : X.mg "isinstance" = none) (hn : X.mg "tuple" = none) (ha : DV X a σ H d) (hg : Gl X "isinstance" := by rfl) (hg2 : Gl X "tuple" := by rfl)
    (he : starEach [a, .Name "tuple" p2] X.env = (false, eval a X.env) :: starEach [.Name "tuple" p2] X.env := by rfl) (he2 : starEach [.Name "tuple" p2] X.env = [(false, eval (.Name "tuple" p2) X.env)] := by rfl) (hpl : (backTo pos (starEach [.Name "tuple" p2] X.env)).any (·.1) = false := by rfl) :
    DV X (.Call (.Name "isinstance" p1) [a, .Name "tuple" p2] [] pos) σ H (.bool (isiD "tuple" d)) := dv_isi bt_tuple (kit_tuple d) hm hn ha hg hg2 (by decide) (by decide) he he2 hpl
/-- int(flag), int(number) -/
theorem dv_intB {p1 : Pos} (hm : X.mg "int" = none) (ha : DV X a σ H (.bool k)) (hg : Gl X "int" := by rfl) (he : starEach [a] X.env = [(false, eval a X.env)] := by rfl) : DV X (.Call (.Name "int" p1) [a] [] pos) σ H (.int (if k then 1 else 0)) := fun H1 t Q qq =>
  w_callT call_int1 hm bt_int (wa_cons (ha H1 t _ fun u H2 s2 iu => wa_nil (by
    cases im_bl iu
    exact .inr ⟨k, rfl, qq _ H2 s2 (.int _)⟩)) he) hg (he := he)
/-! in -/
theorem inV_strs (ss : List Str) : inV (.str x) (ss.map V.str) = ss.contains x := by
  induction ss with
  | nil => rfl
  | cons s r ih =>
    have e : inV (.str x) ((s :: r).map V.str) = ((s == x) || inV (.str x) (r.map V.str)) := rfl
    rw [e, ih, List.contains_cons, Bool.beq_comm]
theorem flat_strs (ss : List Str) : (ss.map V.str).all flatV = true := by
  induction ss with
  | nil => rfl
  | cons s r ih => rw [List.map_cons, List.all_cons, ih]; rfl
theorem ImAll.of_strs {H : Hp} : ∀ {vs : List V} {ns : List Str}, ImAll H vs (ns.map PyData.str) → vs = ns.map V.str
  | vs, [], h => by cases h; rfl
  | vs, n :: r, h => by
    cases h with
    | cons h1 h2 =>
      cases h1
      rw [ImAll.of_strs h2]
      rfl
theorem tv_inT {ss : List Str} (ha : DV X a σ H (.str x)) (hb : DV X b σ H (.tuple (ss.map PyData.str))) (hm : behindInMarks .In b = false := by rfl) : TV X (.Compare a [.In] [b] pos) σ H (ss.contains x) :=
  tv_cmp op_in_seq ha hb (fun H1 u v Q iu iv qq => by
    cases im_str iu
    obtain ⟨p, xs, rfl, hp, hx⟩ := im_tup iv
    cases hx.of_strs
    refine ⟨p, _, rfl, .inr (SqT.of hp), rfl, flat_strs ss, ?_⟩
    have e := qq H1 (Same.refl _)
    rw [← inV_strs ss] at e
    exact e) hm
/-- a tuple of texts of the top -/
theorem tv_inK {ss : List Str} {T : Addr} {n : Str} {p1 : Pos} (hn : X.mg n = some (.ref T)) (hT : ∀ H, SqT X.K H T (ss.map V.str)) (ha : DV X a σ H (.str x)) (hg : Gl X n := by rfl) (hd : (n == ("__debug__" : Str)) = false := by decide) (hm : behindInMarks .In (.Name n p1) = false := by rfl) : TV X (.Compare a [.In] [.Name n p1] pos) σ H (ss.contains x) := fun H1 t B qq =>
  t_cmp op_in_seq (ha H1 t _ fun u H2 s2 iu => w_glob (v := .ref T) hn rfl (by
    cases im_str iu
    refine ⟨T, _, rfl, .inr (hT H2), rfl, flat_strs ss, _, rfl, ?_⟩
    have e := qq H2 s2
    rw [← inV_strs ss] at e
    exact e) hg hd) hm
theorem tv_ninK {ss : List Str} {T : Addr} {n : Str} {p1 : Pos} (hn : X.mg n = some (.ref T)) (hT : ∀ H, SqT X.K H T (ss.map V.str)) (ha : DV X a σ H (.str x)) (hg : Gl X n := by rfl) (hd : (n == ("__debug__" : Str)) = false := by decide) (hm : behindInMarks .NotIn (.Name n p1) = false := by rfl) : TV X (.Compare a [.NotIn] [.Name n p1] pos) σ H (!ss.contains x) := fun H1 t B qq =>
  t_cmp op_notIn_seq (ha H1 t _ fun u H2 s2 iu => w_glob (v := .ref T) hn rfl (by
    cases im_str iu
    refine ⟨T, _, rfl, .inr (hT H2), rfl, flat_strs ss, _, rfl, ?_⟩
    have e := qq H2 s2
    rw [← inV_strs ss] at e
    exact e) hg hd) hm
end
/-! ### a table of the top: texts to numbers or texts -/
structure STab (K : PySem.W.Frag) (w : World) (T : Addr) (kvs : List (Str × V)) : Prop where
  kd : ∃ es n, KDict K w T es n
  some_ : ∀ x v, kvs.lookup x = some v → ∃ u, PySem.W.nsIn K T x = some (some u) ∧ RelV v u
  none_ : ∀ x, kvs.lookup x = none → PySem.W.nsIn K T x = some none
/-- what the head looks at -/
def tabB (K : PySem.W.Frag) (T : Addr) (kvs : List (Str × V)) : Bool := match K.lookup T with
  | some ⟨_, _, .dict es _, _⟩ => go es.toList kvs
  | _ => false
where go : List DictEntry → List (Str × V) → Bool
  | [], [] => true
  | e :: r, (k, v) :: s => (match e.key with
    | .str y _ => decide (y = k)
    | _ => false) && He.relB v e.val && go r s
  | _, _ => false
theorem tabB_go {x : Str} : ∀ {l : List DictEntry} {kvs : List (Str × V)}, tabB.go l kvs = true → (∀ v, kvs.lookup x = some v → ∃ e, l.find? (·.key.isStr x) = some e ∧ RelV v e.val) ∧ (kvs.lookup x = none → l.find? (·.key.isStr x) = none) ∧ l.any (·.refKey) = false
  | [], [], _ => ⟨fun v h => (nomatch h), fun _ => rfl, rfl⟩
  | [], _ :: _, h => (nomatch h)
  | _ :: _, [], h => (nomatch h)
  | e :: r, (k, v) :: s, h => by
    have h' : ((match e.key with
      | .str y _ => decide (y = k)
      | _ => false) && He.relB v e.val && tabB.go r s) = true := h
    rw [Bool.and_eq_true, Bool.and_eq_true] at h'
    obtain ⟨⟨h1, h2⟩, h3⟩ := h'
    obtain ⟨i1, i2, i3⟩ := tabB_go (x := x) h3
    cases hk : e.key with
    | str y t =>
      rw [hk] at h1
      have ey : y = k := of_decide_eq_true h1
      subst ey
      have eis : e.key.isStr x = decide (y = x) := by rw [hk]; rfl
      have eref : e.refKey = false := by unfold DictEntry.refKey; rw [hk]
      by_cases hyx : y = x
      · subst hyx
        have ef : (e :: r).find? (·.key.isStr y) = some e := by
          rw [List.find?_cons_of_pos]
          rw [eis]
          exact decide_eq_true rfl
        have el : List.lookup y ((y, v) :: s) = some v := by simp [List.lookup]
        refine ⟨fun v' hv => ?_, fun hn => ?_, ?_⟩
        · rw [el] at hv
          cases hv
          exact ⟨e, ef, He.relB_ok h2⟩
        · rw [el] at hn
          cases hn
        · rw [List.any_cons, eref, i3]
          rfl
      · have ef : (e :: r).find? (·.key.isStr x) = r.find? (·.key.isStr x) := by
          rw [List.find?_cons_of_neg]
          rw [eis, decide_eq_false hyx]
          exact Bool.false_ne_true
        have el : List.lookup x ((y, v) :: s) = s.lookup x := by
          have z : (x == y) = false := by simpa using fun q => hyx q.symm
          simp [List.lookup, z]
        refine ⟨fun v' hv => ?_, fun hn => ?_, ?_⟩
        · rw [el] at hv
          rw [ef]
          exact i1 v' hv
        · rw [el] at hn
          rw [ef]
          exact i2 hn
        · rw [List.any_cons, eref, i3]
          rfl
    | _ =>
      rw [hk] at h1
      cases h1
theorem stab_of {K : PySem.W.Frag} {w : World} {T : Addr} {kvs : List (Str × V)} (h : tabB K T kvs = true) (kd : ∃ es n, KDict K w T es n) : STab K w T kvs := by
  obtain ⟨es, n, D⟩ := kd
  have e := D.at_
  have h' := h
  unfold tabB at h'
  rw [e] at h'
  refine ⟨⟨es, n, D⟩, fun x v hv => ?_, fun x hn => ?_⟩
  · obtain ⟨en, h1, h2⟩ := (tabB_go (x := x) h').1 v hv
    refine ⟨en.val, ?_, h2⟩
    unfold PySem.W.nsIn
    rw [e]
    show (match es.toList.find? (·.key.isStr x) with
      | some e => some (some e.val)
      | none => if es.toList.any (·.refKey) then none else some none) = some (some en.val)
    rw [h1]
  · obtain ⟨_, h1, h2⟩ := tabB_go (x := x) h'
    unfold PySem.W.nsIn
    rw [e]
    show (match es.toList.find? (·.key.isStr x) with
      | some e => some (some e.val)
      | none => if es.toList.any (·.refKey) then none else some none) = some none
    rw [h1 hn, h2]
    rfl
/-- D.get(x, y), D a table of the top -/
theorem pe_kget {X : Cx} {o e f : Expr} {apos cpos : Pos} {T : Addr} {kvs : List (Str × V)} {to te tf : TE} (S : STab X.K X.w T kvs) (ho : PE X o to) (he : PE X e te) (hf : PE X f tf) (m : M2 X o "get" apos e f cpos) :
    PE X (.Call (.Attribute o "get" apos) [e, f] [] cpos) (fun σ H Q => to σ H fun v H1 => v = .ref T ∧ te σ H1 fun u H2 => ∃ x, u = .str x ∧ tf σ H2 fun z H3 => Q ((kvs.lookup x).getD z) H3) := by
  obtain ⟨es, n, D⟩ := S.kd
  refine ⟨fun pins s σ H Q I h => ?_⟩
  refine wpAny_Call_method m.base m.few m.line PySem.F.plainAttrs_dict PySem.F.slot_dict_get PySem.F.type_dict_get (thn (ho.run pins s σ H _ I h) fun u s1 ⟨x, H1, I1, rx, ex, q1⟩ => ?_)
  subst ex
  obtain rfl : u = Value.ref T := rx
  refine ⟨kd_type D I1, fun b q => by cases q; exact ⟨_, I1.kIn _ _ D.at_, rfl⟩, ?_⟩
  rw [m.trees]
  refine Calls.callWith_builtin rfl (Calls.evalArgs_plain (Calls.spliced_cons (thn (he.run pins s1 σ H1 _ I1 q1) fun iv s2 ⟨y, H2, I2, ry, x, ey, q2⟩ =>
    Calls.spliced_cons (thn (hf.run pins s2 σ H2 _ I2 q2) fun fv s3 ⟨z, H3, I3, rz, q3⟩ => Calls.spliced_nil ?_))))
  subst ey
  obtain ⟨t, rfl⟩ := ry
  refine call_meetsIn PySem.F.slot_dict_get (kd_type D I3) PySem.F.entry_dict_get (PySem.F.args_dict_get_3 _ _ _) (meets_dict_get_default (strKind X.prog X.w) T (PySem.strKind_is X.prog X.w x t) D.low fv) ⟨_, PySem.W.mapOf_K (prog := X.prog) I3.kIn D.at_ D.lit, ?_⟩
  cases hl : kvs.lookup x with
  | none =>
    rw [hl] at q3
    have e := PySem.W.find_K D.at_ (S.none_ x hl)
    refine ⟨z, H3, I3.tok _, ?_, q3⟩
    show RelV z ((findBy Value.isStrOf es x).getD fv)
    rw [e]
    exact rz
  | some v =>
    rw [hl] at q3
    obtain ⟨u, e1, r1⟩ := S.some_ x v hl
    have e := PySem.W.find_K D.at_ e1
    refine ⟨v, H3, I3.tok _, ?_, q3⟩
    show RelV v ((findBy Value.isStrOf es x).getD fv)
    rw [e]
    exact r1
end Tr
set_option Elab.async false
set_option linter.all false
set_option maxRecDepth 100000
set_option maxHeartbeats 4000000
/-! walks over data, comprehensions -/
namespace Tr
open PySem PySem.Spec PyProof.Rows L2
/-- an iterable that gives these data, one by one -/
def SV (X : Cx) (tg iter : Expr) (σ : St) (H : Hp) (ds : List PyData) : Prop := ∀ R : It → Hp → Prop,
  (∀ J H2 G YY, Same H H2 → Walk J ds.length G YY → (∀ H3, Same H2 H3 → G H3) → (∀ i H3 x H4, i < ds.length → Same H2 H3 → YY i H3 x H4 → Same H3 H4 ∧ ∃ d, ds[i]? = some d ∧ Im H4 x d) → R J H2) → WI X tg iter σ H R
/-- .. while the tuples stand -/
def SVt (X : Cx) (tg iter : Expr) (σ : St) (H : Hp) (ds : List PyData) : Prop := ∀ R : It → Hp → Prop,
  (∀ J H2 G YY, Same H H2 → Walk J ds.length G YY → (∀ H3, Tx H2 H3 → G H3) → (∀ i H3 x H4, i < ds.length → Tx H2 H3 → YY i H3 x H4 → Same H3 H4 ∧ ∃ d, ds[i]? = some d ∧ Im H4 x d) → R J H2) → WI X tg iter σ H R
def enumD : Int → List PyData → List PyData
  | _, [] => []
  | k, d :: r => .tuple [.int k, d] :: enumD (k + 1) r
theorem enumD_len : ∀ (k : Int) (ds : List PyData), (enumD k ds).length = ds.length
  | _, [] => rfl
  | k, d :: r => by rw [enumD, List.length_cons, List.length_cons, enumD_len]
theorem enumD_get : ∀ (k : Int) (ds : List PyData) (i : Nat) (d : PyData), ds[i]? = some d → (enumD k ds)[i]? = some (.tuple [.int (k + i), d])
  | _, [], _, _, h => by simp at h
  | k, d :: r, 0, _, h => by simp at h; subst h; simp [enumD]
  | k, d :: r, i + 1, x, h => by
    have e := enumD_get (k + 1) r i x (by simpa using h)
    simp only [enumD, List.getElem?_cons_succ]
    rw [e]
    congr 3
    rw [show k + 1 + (i : Int) = k + ((i + 1 : Nat) : Int) by omega]
def zipSD (z : Str) (ds : List PyData) : List PyData := List.zipWith (fun c d => .tuple [.str ⟨#[c]⟩, d]) z.cps.toList ds
def zipDD (es ds : List PyData) : List PyData := List.zipWith (fun c d => .tuple [c, d]) es ds
section
variable {X : Cx} {e a b c o tg iter elt : Expr} {es rest : List Expr} {sts p q : List Stmt} {σ : St} {H : Hp} {D : Ends} {pos : Pos} {d d1 d2 : PyData} {ds : List PyData} {k k1 k2 : Bool} {i j : Int} {x y : Str}
theorem SVt.sv (h : SVt X tg iter σ H ds) : SV X tg iter σ H ds := fun R q => h R fun J H2 G YY s w g y => q J H2 G YY s w (fun H3 s3 => g H3 (tx_same s3)) fun i H3 x H4 hi s3 => y i H3 x H4 hi (tx_same s3)
/-- a tuple -/
theorem sv_tup (h : DV X iter σ H (.tuple ds)) : SVt X tg iter σ H ds := fun R q => wi (pi_tup peW) (h.w fun v H2 s2 iv => by
  obtain ⟨p, xs, rfl, hp, hx⟩ := im_tup iv
  refine ⟨p, rfl, ⟨xs, SqT.of hp⟩, q (Itt X.K p) H2 (fun H => SqT X.K H p xs) (YAt xs) s2 ?_ (fun H3 t3 => SqT.of (t3 _ _ hp)) fun i H3 x H4 hi t3 hy => ?_⟩
  · rw [← hx.length]; exact walk_tup
  · obtain ⟨rfl, hxi⟩ := hy
    refine ⟨Same.refl _, ?_⟩
    obtain ⟨d, h1, h2⟩ := (hx.mono t3).getV hxi
    exact ⟨d, h1, h2⟩)
/-- range(n) -/
theorem sv_range {n : Nat} {p1 : Pos} (hm : X.mg "range" = none) (ha : DV X a σ H (.int (n : Int))) (hn : n < 2 ^ 62) (hg : Gl X "range" := by rfl) (hs : starEach [a] X.env = [(false, eval a X.env)] := by rfl) :
    SVt X tg (.Call (.Name "range" p1) [a] [] pos) σ H ((List.range n).map fun (k : Nat) => PyData.int (k : Int)) := fun R q => wi (pi_range1 hg hm paW hs) (wa_cons (ha.w fun v H2 s2 iv => wa_nil (by
  cases im_int iv
  refine ⟨(n : Int), rfl, by omega, by omega, ?_⟩
  rw [Int.toNat_natCast]
  refine q (Itr 0 n) H2 (fun _ => True) _ s2 (by rw [List.length_map, List.length_range]; exact walk_range) (fun _ _ => trivial) fun i H3 x H4 hi t3 hy => ?_
  obtain ⟨rfl, rfl⟩ := hy
  rw [List.length_map, List.length_range] at hi
  exact ⟨Same.refl _, .int (i : Int), by simp [hi], by show Im H4 (.int (0 + (i : Int))) _; rw [show (0 : Int) + (i : Int) = (i : Int) by omega]; exact .int _⟩)) hs)
theorem ypair_same {xs ys : Nat → Option V} {n : Nat} {H3 H4 : Hp} {v : V} (h : YPair xs ys n H3 v H4) : ∃ T x y, v = .ref T ∧ Same H3 H4 ∧ H4 T = some (.tup [x, y]) ∧ xs n = some x ∧ ys n = some y := by
  obtain ⟨T, x, y, h1, h2, h3, h4, h5⟩ := h
  refine ⟨T, x, y, h1, ?_, ?_, h4, h5⟩
  · rw [h3]; exact same_new h2
  · rw [h3]; exact upd_same
/-- enumerate of a tuple -/
theorem sv_en {elts : List Expr} {kk : Nat} {tpos p1 : Pos} (hm : X.mg "enumerate" = none) (ha : DV X a σ H (.tuple ds)) (hg : Gl X "enumerate" := by rfl) (hs : starEach [a] X.env = [(false, eval a X.env)] := by rfl) :
    SVt X (.Tuple elts kk tpos) (.Call (.Name "enumerate" p1) [a] [] pos) σ H (enumD 0 ds) := fun R q => wi (pi_en hg hm paW hs) (wa_cons (ha.w fun v H2 s2 iv => wa_nil (by
  obtain ⟨p, xs, rfl, hp, hx⟩ := im_tup iv
  refine ⟨.tup p, xs, rfl, SqT.of hp, ?_⟩
  refine q _ H2 (fun H => Src.has X.K H (.tup p) xs) _ s2 (by rw [enumD_len, ← hx.length]; exact walk_en) (fun H3 t3 => SqT.of (t3 _ _ hp)) fun i H3 x H4 hi t3 hy => ?_
  obtain ⟨T, u, w, rfl, s4, hT, e1, e2⟩ := ypair_same hy
  cases e1
  obtain ⟨d, h1, h2⟩ := (hx.mono t3).getV e2
  exact ⟨s4, _, enumD_get 0 ds i d h1, .tup hT (.cons (.int _) (.cons (h2.mono (tx_same s4)) .nil))⟩)) hs)
/-- zip of a text and a tuple -/
theorem sv_zipS {z : Str} {elts : List Expr} {kk : Nat} {tpos p1 : Pos} (hm : X.mg "zip" = none) (ha : DV X a σ H (.str z)) (hb : DV X b σ H (.tuple ds)) (hg : Gl X "zip" := by rfl) (hs : starEach [a, b] X.env = (false, eval a X.env) :: starEach [b] X.env := by rfl) (hs2 : starEach [b] X.env = [(false, eval b X.env)] := by rfl) (hpl : (backTo pos (starEach [b] X.env)).any (·.1) = false := by rfl) :
    SVt X (.Tuple elts kk tpos) (.Call (.Name "zip" p1) [a, b] [] pos) σ H (zipSD z ds) := fun R q => wi (pi_zp hg hm paW hs hpl) (wa_cons (ha.w fun v H2 s2 iv => wa_cons (hb H2 (tx_same s2) _ fun v' H2' s2' iv' => wa_nil (by
  cases im_str iv
  obtain ⟨p, xs, rfl, hp, hx⟩ := im_tup iv'
  refine ⟨.txt z, .tup p, signs z, xs, rfl, rfl, SqT.of hp, ?_⟩
  have hl : (zipSD z ds).length = min (signs z).length xs.length := by
    unfold zipSD signs
    rw [List.length_zipWith, List.length_map, hx.length]
  refine q _ H2' (fun H => Src.has X.K H (.txt z) (signs z) ∧ Src.has X.K H (.tup p) xs) _ (s2.trans s2') (by rw [hl]; exact walk_zp) (fun H3 t3 => ⟨rfl, SqT.of (t3 _ _ hp)⟩) fun i H3 x H4 hi t3 hy => ?_
  obtain ⟨T, u, w, rfl, s4, hT, e1, e2⟩ := ypair_same hy
  obtain ⟨d, h1, h2⟩ := (hx.mono t3).getV e2
  unfold signs at e1
  rw [List.getElem?_map] at e1
  cases ec : z.cps.toList[i]? with
  | none => rw [ec] at e1; cases e1
  | some c =>
    rw [ec] at e1
    cases e1
    refine ⟨s4, .tuple [.str ⟨#[c]⟩, d], ?_, .tup hT (.cons (.str _) (.cons (h2.mono (tx_same s4)) .nil))⟩
    unfold zipSD
    rw [List.getElem?_zipWith, ec, h1])) hs2) hs)
/-! comprehensions: in the block, whatever its frame -/
def DVb (X : Cx) (sc : Scope) (e : Expr) (σ : St) (H : Hp) (d : PyData) : Prop := ∀ (s : Shared) (H0 : Hp) (C : Addr) (cl : List (Str × Addr)) (fp : List Addr), DV (X.blk s H0 sc (compEnvC sc cl C X.env) fp) e σ H d
def TVb (X : Cx) (sc : Scope) (e : Expr) (σ : St) (H : Hp) (k : Bool) : Prop := ∀ (s : Shared) (H0 : Hp) (C : Addr) (cl : List (Str × Addr)) (fp : List Addr), TV (X.blk s H0 sc (compEnvC sc cl C X.env) fp) e σ H k
def TVbs (X : Cx) (sc : Scope) (es : List Expr) (σ : St) (H : Hp) (k : Bool) : Prop := match es with
  | [] => k = true
  | [e] => TVb X sc e σ H k
  | _ => False
theorem tvbs_w {sc : Scope} {ifs : List Expr} {B : Bool → Hp → Prop} (h : TVbs X sc ifs σ H k) (q : ∀ H', Same H H' → B k H') : BTs X sc ifs σ H B := by
  match ifs, h with
  | [], h => cases (show k = true from h); exact q H (Same.refl _)
  | [e], h => exact fun s H0 C cl fp => (h s H0 C cl fp).w q
  | _ :: _ :: _, h => exact (show False from h).elim
/-- what is kept of data, and what becomes of it -/
def comp (tst : PyData → Bool) (f : PyData → PyData) (ds : List PyData) : List PyData := (ds.filter tst).map f
theorem comp_snoc (tst : PyData → Bool) (f : PyData → PyData) {ds : List PyData} {n : Nat} {d : PyData} (h : ds[n]? = some d) : comp tst f (ds.take (n + 1)) = comp tst f (ds.take n) ++ (if tst d then [f d] else []) := by
  unfold comp
  rw [List.take_add_one, h, List.filter_append, List.map_append]
  congr 1
  cases ht : tst d <;> simp [ht]
theorem comp_len (tst : PyData → Bool) (f : PyData → PyData) (ds : List PyData) : (comp tst f ds).length ≤ ds.length := by
  unfold comp
  rw [List.length_map]
  exact List.length_filter_le _ _
/-- the reading of a comprehension over data; P d σ2: the slots behind the target's store -/
theorem lc_data {sc : Scope} {ifs : List Expr} {g : TG} {vs : List Nat} {Q : VK} (P : PyData → St → Hp → Prop) (tst : PyData → Bool) (f : PyData → PyData) (hs : SV X tg iter σ H ds) (hn : ds.length ≤ 100000)
    (hg : ∀ H3 v d, Im H3 v d → d ∈ ds → Tx H H3 → ∀ K : St → Hp → Prop, (∀ σ2, wipe σ2 vs = wipe σ vs → P d σ2 H3 → K σ2 H3) → g v (wipe σ vs) H3 K)
    (hP : ∀ d σ2 H3 H4, P d σ2 H3 → Tx H3 H4 → P d σ2 H4)
    (ht : ∀ H3 d σ2, d ∈ ds → Tx H H3 → P d σ2 H3 → TVbs X sc ifs σ2 H3 (tst d))
    (he : ∀ H3 d σ2, d ∈ ds → Tx H H3 → P d σ2 H3 → tst d = true → DVb X sc elt σ2 H3 (f d))
    (q : ∀ p ws H', H p = none → Same H H' → H' p = some (.lst ws) → ImAll H' ws (comp tst f ds) → Q (.ref p) H') :
    tLc (WI X tg iter) g (BTs X sc ifs) (BE X sc elt) vs σ H Q := by
  refine hs _ fun J H2 G YY s2 w hG hY => ?_
  intro D hD
  refine lc_it w (fun n H3 => n ≤ ds.length ∧ Same H2 H3 ∧ ∃ acc, H3 D = some (.lst acc) ∧ ImAll H3 acc (comp tst f (ds.take n))) ⟨Nat.zero_le _, same_new hD, [], upd_same, .nil⟩ (fun n H3 _ h => hG H3 h.2.1) ?_ ?_
  · intro n x H3 H4 hlt ⟨hle, s3, acc, hacc, hia⟩ hy
    obtain ⟨s4, d, hd, iv⟩ := hY n H3 x H4 hlt s3 hy
    have hmem : d ∈ ds := List.mem_of_getElem? hd
    have t4 : Tx H H4 := tx_same (s2.trans (s3.trans s4))
    refine hg H4 x d iv hmem t4 _ fun σ2 hw hp => ⟨hw, ?_⟩
    refine tvbs_w (ht H4 d σ2 hmem t4 hp) fun H5 s5 => ?_
    have t5 : Tx H H5 := t4.trans (tx_same s5)
    have e5 : Same H3 H5 := s4.trans s5
    cases htd : tst d with
    | false =>
      refine iteF ⟨hlt, s3.trans e5, acc, e5 _ _ hacc, ?_⟩
      rw [comp_snoc tst f hd, htd]
      simp only [Bool.false_eq_true, if_false, List.append_nil]
      exact hia.mono (tx_same e5)
    | true =>
      refine iteT fun s H0 C cl fp => (he H5 d σ2 hmem t5 (hP _ _ _ _ hp (tx_same s5)) htd s H0 C cl fp).w fun v H6 s6 iv6 => ?_
      have e6 : Same H3 H6 := e5.trans s6
      have hz := hia.length
      have hc := comp_len tst f (ds.take n)
      rw [List.length_take] at hc
      refine ⟨acc, e6 _ _ hacc, Nat.lt_of_le_of_lt (show acc.length ≤ 100000 by omega) (by decide), hlt, ?_, acc ++ [v], upd_same, ?_⟩
      · exact fun b o eb => by
          have nb : b ≠ D := ne_of_none eb hD
          rw [upd_ne nb]
          exact e6 _ _ (s3 _ _ eb)
      · have tm : Tx H6 (upd H6 D (.lst (acc ++ [v]))) := tx_mut (Tx.refl _) fun xs z => by
          rw [e6 _ _ hacc] at z
          cases z
        rw [comp_snoc tst f hd, htd]
        exact ((hia.mono (tx_same e6)).mono tm).append (.cons (iv6.mono tm) .nil)
  · intro H3 ⟨_, s3, acc, hacc, hia⟩
    rw [List.take_length] at hia
    exact q D acc H3 (s2.free hD) (s2.trans s3) hacc hia
/-- [elt for x in iter if ..], one name -/
theorem w_lc1 {sc : Scope} {ifs : List Expr} {n : Nat} {p1 : Pos} {Q : VK} (tst : PyData → Bool) (f : PyData → PyData) (hc : X.calm = true) (hN : X.N.Nodup) (ok : BlkOk X.N X.env.scope sc [(x, n)]) (hs : SV X (.Name x p1) iter σ H ds) (hn : ds.length ≤ 100000)
    (ht : ∀ H3 d v, d ∈ ds → Tx H H3 → Im H3 v d → TVbs X sc ifs ((σ.set n none).set n (some v)) H3 (tst d))
    (he : ∀ H3 d v, d ∈ ds → Tx H H3 → Im H3 v d → tst d = true → DVb X sc elt ((σ.set n none).set n (some v)) H3 (f d))
    (q : ∀ p ws H', H p = none → Same H H' → H' p = some (.lst ws) → ImAll H' ws (comp tst f ds) → Q (.ref p) H')
    (hi : X.N[n]? = some x := by rfl) (hx : Loc (relabel sc X.env) x := by first | exact Or.inl rfl | exact Or.inr rfl) (hf : (sc.names.lookup x == some .cell) = true ∨ (relabel sc X.env).names.lookup x = some .local := by first | exact .inr rfl | exact .inl rfl)
    (hss : ∀ x, foldedSetIterable iter X.env x = pure x := by intro _; rfl) :
    WE X (.ListComp elt [⟨.Name x p1, iter, ifs, 0⟩] sc pos) σ H Q :=
  w_lc [(x, n)] hc hN ok (fun s H0 C cl fp => pg_name (i := n) hN hi hx hf)
    (lc_data (fun d σ2 H3 => ∃ v, σ2 = (σ.set n none).set n (some v) ∧ Im H3 v d) tst f hs hn
      (fun H3 v d iv hm t K k => k _ (by show ((σ.set n none).set n (some v)).set n none = σ.set n none; rw [List.set_set, List.set_set]) ⟨v, rfl, iv⟩)
      (fun d σ2 H3 H4 ⟨v, e, iv⟩ t => ⟨v, e, iv.mono t⟩)
      (fun H3 d σ2 hm t ⟨v, e, iv⟩ => by subst e; exact ht H3 d v hm t iv)
      (fun H3 d σ2 hm t ⟨v, e, iv⟩ hd => by subst e; exact he H3 d v hm t iv hd) q) hss
/-- [elt for x, y in iter if ..] -/
theorem w_lc2 {sc : Scope} {ifs : List Expr} {n m kk : Nat} {p1 p2 p3 : Pos} {Q : VK} (tst : PyData → Bool) (f : PyData → PyData) (hc : X.calm = true) (hN : X.N.Nodup) (ok : BlkOk X.N X.env.scope sc [(x, n), (y, m)]) (hs : SV X (.Tuple [.Name x p1, .Name y p2] kk p3) iter σ H ds) (hn : ds.length ≤ 100000)
    (hd : ∀ d ∈ ds, ∃ u v, d = .tuple [u, v])
    (ht : ∀ H3 d1 d2 u v, .tuple [d1, d2] ∈ ds → Tx H H3 → Im H3 u d1 → Im H3 v d2 → TVbs X sc ifs ((((σ.set m none).set n none).set n (some u)).set m (some v)) H3 (tst (.tuple [d1, d2])))
    (he : ∀ H3 d1 d2 u v, .tuple [d1, d2] ∈ ds → Tx H H3 → Im H3 u d1 → Im H3 v d2 → tst (.tuple [d1, d2]) = true → DVb X sc elt ((((σ.set m none).set n none).set n (some u)).set m (some v)) H3 (f (.tuple [d1, d2])))
    (q : ∀ p ws H', H p = none → Same H H' → H' p = some (.lst ws) → ImAll H' ws (comp tst f ds) → Q (.ref p) H')
    (hi : X.N[n]? = some x := by rfl) (hj : X.N[m]? = some y := by rfl) (hnm : n ≠ m := by decide) (hx : Loc (relabel sc X.env) x := by first | exact Or.inl rfl | exact Or.inr rfl) (hy : Loc (relabel sc X.env) y := by first | exact Or.inl rfl | exact Or.inr rfl)
    (hf : (sc.names.lookup x == some .cell) = true ∨ (relabel sc X.env).names.lookup x = some .local := by first | exact .inr rfl | exact .inl rfl) (hf2 : (sc.names.lookup y == some .cell) = true ∨ (relabel sc X.env).names.lookup y = some .local := by first | exact .inr rfl | exact .inl rfl)
    (hss : ∀ x, foldedSetIterable iter X.env x = pure x := by intro _; rfl) :
    WE X (.ListComp elt [⟨.Tuple [.Name x p1, .Name y p2] kk p3, iter, ifs, 0⟩] sc pos) σ H Q :=
  w_lc (g := gTup X.K 2 (gCons (gName n) (gCons (gName m) gNil))) [(x, n), (y, m)] hc hN ok (fun s H0 C cl fp => pg_tup (X := X.blk s H0 sc (compEnvC sc cl C X.env) fp) hc (pgs_cons (pg_name (i := n) hN hi hx hf) (pgs_cons (pg_name (i := m) hN hj hy hf2) pgs_nil)))
    (lc_data (fun d σ2 H3 => ∃ d1 d2 u v, d = .tuple [d1, d2] ∧ σ2 = (((σ.set m none).set n none).set n (some u)).set m (some v) ∧ Im H3 u d1 ∧ Im H3 v d2) tst f hs hn
      (fun H3 v d iv hm t K k => by
        obtain ⟨d1, d2, rfl⟩ := hd d hm
        obtain ⟨p, xs, rfl, hp, hx⟩ := im_tup iv
        cases hx with
        | cons i1 h2 =>
          cases h2 with
          | cons i2 h3 =>
            cases h3
            refine ⟨p, _, rfl, SqT.of hp, rfl, _, _, rfl, _, _, rfl, rfl, k _ ?_ ⟨d1, d2, _, _, rfl, rfl, i1, i2⟩⟩
            show ((((((σ.set m none).set n none).set n (some _)).set m (some _)).set m none).set n none) = (σ.set m none).set n none
            rw [List.set_set, List.set_set, List.set_comm _ _ hnm, List.set_set, List.set_set])
      (fun d σ2 H3 H4 ⟨d1, d2, u, v, e1, e, i1, i2⟩ t => ⟨d1, d2, u, v, e1, e, i1.mono t, i2.mono t⟩)
      (fun H3 d σ2 hm t ⟨d1, d2, u, v, e1, e, i1, i2⟩ => by subst e1; subst e; exact ht H3 d1 d2 u v hm t i1 i2)
      (fun H3 d σ2 hm t ⟨d1, d2, u, v, e1, e, i1, i2⟩ hd => by subst e1; subst e; exact he H3 d1 d2 u v hm t i1 i2 hd) q) hss
end
end Tr
set_option Elab.async false
set_option linter.all false
set_option maxRecDepth 100000
set_option maxHeartbeats 4000000
/-! a def of the text, from its body to its promise -/
namespace Tr
open PySem PySem.Spec PyProof.Rows L2
abbrev Fn (K : PySem.W.Frag) (x qual : Str) (st : Stmt) (f : Addr) (fd : FuncData) : Prop := FunD K x qual (defArgs st) (defBody st) (defScope st) [] [] f fd
/-- where a def's body runs -/
abbrev Bx (P : Program) (w : World) (K : PySem.W.Frag) (mg : Str → Option Value) (base : Heap) (N : List Str) (qual : Str) (st : Stmt) (f : Addr) (cdv : Value) (A : Around) (outer : List Env) (s : Shared) (H : Hp) (E : XK) : Cx :=
  (cxOf CX0 P w K mg base N qual (defScope st) f cdv A outer s H E).nox
/-- how arguments come to parameters -/
abbrev Bnd (x qual : Str) (st : Stmt) (ps : List Str) : Prop := ∀ (kV doc pm : Value) (an : Option Addr) (cdv ct : Value) (us : List Value), us.length = ps.length → bindArgs (PySem.W.fnOf x qual (defArgs st) (defBody st) (defScope st) .none kV doc pm an cdv ct) ⟨us, []⟩ = pure (ps.zip us)
section
variable {P : Program} {w : World} {K : PySem.W.Frag} {mg : Str → Option Value} {base : Heap} {x qual m : Str} {st : Stmt} {f C : Addr} {fd : FuncData} {N ps : List Str} {k : Nat} {sp : Sp}
theorem fn_mk (F : Fn K x qual st f fd) (S : FnScope N ps (defScope st)) (len : ∀ vs H Q E, sp vs H Q E → vs.length = ps.length)
    (body : ∀ (cdv : Value) (A : Around) (outer : List Env) (s : Shared) (H : Hp) (vs : List V) (Q : VK) (E : XK), Room k (A.deeper (envOfC qual (defScope st) s.heap.objs.size f cdv)) → sp vs H Q E →
      WS (Bx P w K mg base N qual st f cdv A outer s H E) (defBody st) { nx := fun _ H' => Q .non H', rt := Q } (start N vs) H) : FnOk P w K mg base CX0 (k + 1) f fd ps sp :=
  F.ok S len fun cdv A outer s H vs Q E hr h => ⟨_, PSs.nox pssW, body cdv A outer s H vs Q E hr h⟩
theorem fc_mk (F : Fn K x x st f fd) (g : mg x = some (.ref f)) (b : Bnd x x st ps) (S : FnScope N ps (defScope st)) (len : ∀ vs H Q E, sp vs H Q E → vs.length = ps.length)
    (body : ∀ (cdv : Value) (A : Around) (outer : List Env) (s : Shared) (H : Hp) (vs : List V) (Q : VK) (E : XK), Room k (A.deeper (envOfC x (defScope st) s.heap.objs.size f cdv)) → sp vs H Q E →
      WS (Bx P w K mg base N x st f cdv A outer s H E) (defBody st) { nx := fun _ H' => Q .non H', rt := Q } (start N vs) H) : Fc P w K mg base (k + 1) x sp :=
  ⟨f, fd, ps, fn_mk F S len body, g, F.kp, F.bindsN b⟩
theorem mc_mk (c : Cls K C) (me : Meth K C m f) (F : Fn K m qual st f fd) (b : Bnd m qual st ps) (S : FnScope N ps (defScope st)) (len : ∀ vs H Q E, sp vs H Q E → vs.length = ps.length)
    (body : ∀ (cdv : Value) (A : Around) (outer : List Env) (s : Shared) (H : Hp) (vs : List V) (Q : VK) (E : XK), Room k (A.deeper (envOfC qual (defScope st) s.heap.objs.size f cdv)) → sp vs H Q E →
      WS (Bx P w K mg base N qual st f cdv A outer s H E) (defBody st) { nx := fun _ H' => Q .non H', rt := Q } (start N vs) H) : Mc P w K mg base (k + 1) C m sp :=
  ⟨f, fd, ps, c, me, fn_mk F S len body, F.bindsN b⟩
theorem kc_mk (M : Mk K C f) (g : mg x = some (.ref C)) (F : Fn K "__init__" qual st f fd) (b : Bnd "__init__" qual st ps) (S : FnScope N ps (defScope st)) (len : ∀ vs H Q E, sp vs H Q E → vs.length = ps.length)
    (body : ∀ (cdv : Value) (A : Around) (outer : List Env) (s : Shared) (H : Hp) (vs : List V) (Q : VK) (E : XK), Room k (A.deeper (envOfC qual (defScope st) s.heap.objs.size f cdv)) → sp vs H Q E →
      WS (Bx P w K mg base N qual st f cdv A outer s H E) (defBody st) { nx := fun _ H' => Q .non H', rt := Q } (start N vs) H) : Kc P w K mg base (k + 1) x C sp :=
  ⟨f, fd, ps, M, fn_mk F S len body, g, F.bindsN b⟩
theorem Fc.mono {j : Nat} (F : Fc P w K mg base k x sp) (h : k ≤ j) : Fc P w K mg base j x sp := by
  obtain ⟨f, fd, ps, h1, h2⟩ := F.ex
  exact ⟨f, fd, ps, h1.mono h, h2⟩
theorem Fc.imp {sp' : Sp} (F : Fc P w K mg base k x sp) (h : ∀ vs H Q E, sp' vs H Q E → sp vs H Q E) : Fc P w K mg base k x sp' := by
  obtain ⟨f, fd, ps, h1, h2⟩ := F.ex
  exact ⟨f, fd, ps, h1.imp h, h2⟩
/-- a def from data to data: its body with the arguments' data -/
theorem fc_data {F' : List PyData → Option PyData} (F : Fn K x x st f fd) (g : mg x = some (.ref f)) (b : Bnd x x st ps) (S : FnScope N ps (defScope st)) (len : ∀ ds d, F' ds = some d → ds.length = ps.length)
    (body : ∀ (cdv : Value) (A : Around) (outer : List Env) (s : Shared) (H : Hp) (vs : List V) (ds : List PyData) (d : PyData) (Q : VK) (E : XK), Room k (A.deeper (envOfC x (defScope st) s.heap.objs.size f cdv)) → ImAll H vs ds → F' ds = some d → (∀ v H', Same H H' → Im H' v d → Q v H') →
      WS (Bx P w K mg base N x st f cdv A outer s H E) (defBody st) { nx := fun _ H' => Q .non H', rt := Q } (start N vs) H) : Fc P w K mg base (k + 1) x (spF F') :=
  fc_mk F g b S (fun vs H Q E ⟨ds, d, h1, h2, _⟩ => by rw [h1.length]; exact len ds d h2) fun cdv A outer s H vs Q E hr ⟨ds, d, h1, h2, h3⟩ => body cdv A outer s H vs ds d Q E hr h1 h2 h3
end
/-- the answer of a whole expression, where the rest is handed it -/
theorem ret_ok {D : Ends} {Q : VK} {H : Hp} {d : PyData} (h : ∀ v H', Same H H' → Im H' v d → Q v H') {H1 : Hp} (s : Same H H1) : ∀ v H', Same H1 H' → Im H' v d → Q v H' := fun v H' s' i => h v H' (s.trans s') i
end Tr
set_option Elab.async false
set_option linter.all false
set_option maxRecDepth 100000
set_option maxHeartbeats 4000000
/-! statements over data, from a base heap on -/
namespace Tr
open PySem PySem.Spec PyProof.Rows L2
def scal1 : V → Bool
  | .non => true
  | .bl _ => true
  | .int _ => true
  | .str _ => true
  | _ => false
def dOf : V → PyData
  | .bl b => .bool b
  | .int i => .int i
  | .str x => .str x
  | _ => .none
theorem im_dOf {H : Hp} {v : V} (h : scal1 v = true) : Im H v (dOf v) := by
  cases v with
  | non => exact .non
  | bl b => exact .bl b
  | int i => exact .int i
  | str x => exact .str x
  | _ => cases h
theorem lookup_all {α : Type} {p : α → Bool} {x : Str} {v : α} : ∀ {kvs : List (Str × α)}, kvs.all (fun q => p q.2) = true → kvs.lookup x = some v → p v = true
  | [], _, h => by cases h
  | (k, u) :: r, ha, h => by
    rw [List.all_cons, Bool.and_eq_true] at ha
    by_cases e : x = k
    · subst e
      have : List.lookup x ((x, u) :: r) = some u := by simp [List.lookup]
      rw [this] at h
      cases h
      exact ha.1
    · have z : (x == k) = false := by simpa using e
      have : List.lookup x ((k, u) :: r) = r.lookup x := by simp [List.lookup, z]
      rw [this] at h
      exact lookup_all ha.2 h
section
variable {X : Cx} {e a b c o tg iter elt : Expr} {es rest : List Expr} {sts p q : List Stmt} {σ : St} {H H0 : Hp} {D : Ends} {pos : Pos} {d d1 d2 : PyData} {ds : List PyData} {k k1 k2 : Bool} {i j : Int} {x y : Str}
theorem ws_retE (s : Same H0 H) (h : DV X e σ H0 d) (q : ∀ v H', Same H0 H' → Im H' v d → D.rt v H') : WS X (.Return (some e) pos :: sts) D σ H := ws_ret ((h.mono (tx_same s)).w fun v H' s' iv => q v H' (s.trans s') iv)
theorem ws_ifE (s : Same H0 H) (h : TV X c σ H0 k) (h1 : k = true → ∀ H', Same H0 H' → WS X p { D with nx := WS X sts D } σ H') (h2 : k = false → ∀ H', Same H0 H' → WS X q { D with nx := WS X sts D } σ H') : WS X (.If c p q pos :: sts) D σ H :=
  ws_ifD (h.mono (tx_same s)) (fun e H' s' => h1 e H' (s.trans s')) (fun e H' s' => h2 e H' (s.trans s'))
/-- if c: return ..  (or another body that does not go on), nothing else -/
theorem ws_ifR (s : Same H0 H) (h : TV X c σ H0 k) (h1 : k = true → ∀ H', Same H0 H' → WS X p { D with nx := WS X sts D } σ H') (h2 : k = false → ∀ H', Same H0 H' → WS X sts D σ H') : WS X (.If c p [] pos :: sts) D σ H :=
  ws_ifE s h h1 fun e H' s' => ws_nil (h2 e H' s')
theorem ws_setE {n : Nat} {p1 : Pos} (hN : X.N.Nodup) (s : Same H0 H) (h : DV X e σ H0 d) (q : ∀ v H', Same H0 H' → Im H' v d → WS X sts D (σ.set n (some v)) H') (hi : X.N[n]? = some x := by rfl) (hx : Loc X.env.scope x := by first | exact Or.inl rfl | exact Or.inr rfl)
    (hs : swapsWith e (some (.Name x p1)) pos.line X.env = pure false := by rfl) (hf : X.fn x = true ∨ X.env.scope.names.lookup x = some .local := by first | exact .inl rfl | exact .inr rfl) : WS X (.Assign [.Name x p1] e pos :: sts) D σ H :=
  ws_set (i := n) hN ((h.mono (tx_same s)).w fun v H' s' iv => q v H' (s.trans s') iv) hi hx hs hf
/-- D.get(x, None), D a table of the top -/
theorem dv_kget {T : Addr} {n : Str} {kvs : List (Str × V)} {m : Nat} {p1 p2 apos : Pos} (hn : X.mg n = some (.ref T)) (S : STab X.K X.w T kvs) (hv : kvs.all (fun q => scal1 q.2) = true) (ha : DV X a σ H (.str x)) (hg : Gl X n := by rfl) (hd : (n == ("__debug__" : Str)) = false := by decide)
    (M : M2 X (.Name n p1) "get" apos a (.Constant .none m p2) pos := by exact ⟨rfl, rfl, rfl, rfl⟩) : DV X (.Call (.Attribute (.Name n p1) "get" apos) [a, .Constant .none m p2] [] pos) σ H (dOf ((kvs.lookup x).getD .non)) := fun H1 t Q q =>
  we (pe_kget S peW peW peW M) (w_glob (v := .ref T) hn rfl ⟨rfl, ha H1 t _ fun v H2 s2 iv => by
    cases im_str iv
    refine ⟨x, rfl, w_non (q _ H2 s2 ?_)⟩
    cases hl : kvs.lookup x with
    | none => exact .non
    | some u => exact im_dOf (lookup_all hv hl)⟩ hg hd)
/-- D[x], D a table of the top, x a key -/
theorem ix_kd {T : Addr} {kvs : List (Str × V)} (S : STab X.K X.w T kvs) : IxR X (fun x y H Q => ∃ z v, x = .ref T ∧ y = .str z ∧ kvs.lookup z = some v ∧ Q v H) := by
  intro value slice pins s σ H x y v u Q I rx ry h hs
  obtain ⟨z, v0, rfl, rfl, hl, q⟩ := h
  cases rx
  obtain ⟨t, rfl⟩ := ry
  obtain ⟨es, n, D⟩ := S.kd
  obtain ⟨u0, e1, r1⟩ := S.some_ z v0 hl
  exact subscriptTail_builtinR (x := u0) (kd_type D I) PySem.F.slot_dict_getitem.lookup
    (wpAny_getItem_of (Q := fun r s' => r = u0 ∧ EP X pins σ Q r s') (PySem.strKind_is X.prog X.w z t) (PySem.W.mapOf_K (prog := X.prog) I.kIn D.at_ D.lit) (PySem.W.find_K D.at_ e1) ⟨rfl, v0, H, I.tok _, r1, q⟩) hs
theorem dv_kix {T : Addr} {n : Str} {kvs : List (Str × V)} {v : V} {p1 : Pos} (hn : X.mg n = some (.ref T)) (S : STab X.K X.w T kvs) (ha : DV X a σ H (.str x)) (hl : kvs.lookup x = some v) (hv : scal1 v = true) (hg : Gl X n := by rfl) (hd : (n == ("__debug__" : Str)) = false := by decide) (hs : PlainIx a := by exact fun _ _ => rfl) :
    DV X (.Subscript (.Name n p1) a pos) σ H (dOf v) := fun H1 t Q q =>
  w_ix (ix_kd S) (w_glob (v := .ref T) hn rfl (ha H1 t _ fun u H2 s2 iu => ⟨x, v, rfl, im_str iu, hl, q v H2 s2 (im_dOf hv)⟩) hg hd) hs
theorem lv_lc1 {sc : Scope} {ifs : List Expr} {n : Nat} {p1 : Pos} (tst : PyData → Bool) (f : PyData → PyData) (hc : X.calm = true) (hN : X.N.Nodup) (ok : BlkOk X.N X.env.scope sc [(x, n)]) (hs : ∀ H1, Tx H H1 → SVt X (.Name x p1) iter σ H1 ds) (hn : ds.length ≤ 100000)
    (ht : ∀ H3 d v, d ∈ ds → Tx H H3 → Im H3 v d → TVbs X sc ifs ((σ.set n none).set n (some v)) H3 (tst d))
    (he : ∀ H3 d v, d ∈ ds → Tx H H3 → Im H3 v d → tst d = true → DVb X sc elt ((σ.set n none).set n (some v)) H3 (f d))
    (hi : X.N[n]? = some x := by rfl) (hx : Loc (relabel sc X.env) x := by first | exact Or.inl rfl | exact Or.inr rfl) (hf : (sc.names.lookup x == some .cell) = true ∨ (relabel sc X.env).names.lookup x = some .local := by first | exact .inr rfl | exact .inl rfl)
    (hss : ∀ x, foldedSetIterable iter X.env x = pure x := by intro _; rfl) : LV X (.ListComp elt [⟨.Name x p1, iter, ifs, 0⟩] sc pos) σ H (comp tst f ds) := fun H1 t Q q =>
  w_lc1 tst f hc hN ok (hs H1 t).sv hn (fun H3 d v hm t3 => ht H3 d v hm (t.trans t3)) (fun H3 d v hm t3 => he H3 d v hm (t.trans t3)) q hi hx hf hss
theorem lv_lc2 {sc : Scope} {ifs : List Expr} {n m kk : Nat} {p1 p2 p3 : Pos} (tst : PyData → Bool) (f : PyData → PyData) (hc : X.calm = true) (hN : X.N.Nodup) (ok : BlkOk X.N X.env.scope sc [(x, n), (y, m)]) (hs : ∀ H1, Tx H H1 → SVt X (.Tuple [.Name x p1, .Name y p2] kk p3) iter σ H1 ds) (hn : ds.length ≤ 100000)
    (hd : ∀ d ∈ ds, ∃ u v, d = .tuple [u, v])
    (ht : ∀ H3 d1 d2 u v, .tuple [d1, d2] ∈ ds → Tx H H3 → Im H3 u d1 → Im H3 v d2 → TVbs X sc ifs ((((σ.set m none).set n none).set n (some u)).set m (some v)) H3 (tst (.tuple [d1, d2])))
    (he : ∀ H3 d1 d2 u v, .tuple [d1, d2] ∈ ds → Tx H H3 → Im H3 u d1 → Im H3 v d2 → tst (.tuple [d1, d2]) = true → DVb X sc elt ((((σ.set m none).set n none).set n (some u)).set m (some v)) H3 (f (.tuple [d1, d2])))
    (hi : X.N[n]? = some x := by rfl) (hj : X.N[m]? = some y := by rfl) (hnm : n ≠ m := by decide) (hx : Loc (relabel sc X.env) x := by first | exact Or.inl rfl | exact Or.inr rfl) (hy : Loc (relabel sc X.env) y := by first | exact Or.inl rfl | exact Or.inr rfl)
    (hf : (sc.names.lookup x == some .cell) = true ∨ (relabel sc X.env).names.lookup x = some .local := by first | exact .inr rfl | exact .inl rfl) (hf2 : (sc.names.lookup y == some .cell) = true ∨ (relabel sc X.env).names.lookup y = some .local := by first | exact .inr rfl | exact .inl rfl)
    (hss : ∀ x, foldedSetIterable iter X.env x = pure x := by intro _; rfl) : LV X (.ListComp elt [⟨.Tuple [.Name x p1, .Name y p2] kk p3, iter, ifs, 0⟩] sc pos) σ H (comp tst f ds) := fun H1 t Q q =>
  w_lc2 tst f hc hN ok (hs H1 t).sv hn hd (fun H3 d1 d2 u v hm t3 => ht H3 d1 d2 u v hm (t.trans t3)) (fun H3 d1 d2 u v hm t3 => he H3 d1 d2 u v hm (t.trans t3)) q hi hj hnm hx hy hf hf2 hss
theorem eqv_nil (ds : List PyData) : PyData.eqv (.list ds) (.list []) = ds.isEmpty := by cases ds <;> rfl
theorem eqv_nilT (ds : List PyData) : PyData.eqv (.tuple ds) (.tuple []) = ds.isEmpty := by cases ds <;> rfl
/-- [..] != [] -/
theorem tv_neNil {n : Nat} {p1 : Pos} (hr : Room n X.A) (h : LV X a σ H ds) (hz : SeqAt.shaped (.list ds) = true) : TV X (.Compare a [.NotEq] [.List [] p1] pos) σ H (!ds.isEmpty) := fun H1 t B qq =>
  t_cmp (op_neD hr.units) (h H1 t _ fun p vs H2 hp s2 hv iv => w_lst (wa_nil ⟨Nat.zero_le _, fun r hr => by
    have s3 : Same H2 (upd H2 r (.lst [])) := same_new hr
    refine ⟨.list ds, .list [], .lst (SqL.of (s3 _ _ hv)) (ImAll.dp (iv.mono (tx_same s3))), .lst (SqL.of upd_same) .nil, hz, by decide, _, rfl, ?_⟩
    rw [eqv_nil]
    exact qq _ (s2.trans s3)⟩))
theorem tv_eqNil {n : Nat} {p1 : Pos} (hr : Room n X.A) (h : LV X a σ H ds) (hz : SeqAt.shaped (.list ds) = true) : TV X (.Compare a [.Eq] [.List [] p1] pos) σ H ds.isEmpty := fun H1 t B qq =>
  t_cmp (op_eqD hr.units) (h H1 t _ fun p vs H2 hp s2 hv iv => w_lst (wa_nil ⟨Nat.zero_le _, fun r hr => by
    have s3 : Same H2 (upd H2 r (.lst [])) := same_new hr
    refine ⟨.list ds, .list [], .lst (SqL.of (s3 _ _ hv)) (ImAll.dp (iv.mono (tx_same s3))), .lst (SqL.of upd_same) .nil, hz, by decide, _, rfl, ?_⟩
    rw [eqv_nil]
    exact qq _ (s2.trans s3)⟩))
end
end Tr
set_option Elab.async false
set_option linter.all false
set_option maxRecDepth 100000
set_option maxHeartbeats 4000000
/-! loops over data; what may be compared -/
namespace Tr
open PySem PySem.Spec PyProof.Rows L2
def okD (d : PyData) : Bool := d.canLay0 && decide (d.depth ≤ 60)
theorem okD_lay {d : PyData} (h : okD d = true) : d.canLay0 = true := (Bool.and_eq_true_iff.mp h).1
theorem okD_depth {d : PyData} (h : okD d = true) : d.depth ≤ 60 := of_decide_eq_true (Bool.and_eq_true_iff.mp h).2
theorem canAll {ds : List PyData} : PyData.canLayAll0 ds = true ↔ ∀ d ∈ ds, d.canLay0 = true := by
  induction ds with
  | nil => simp [PyData.canLayAll0]
  | cons x r ih => simp [PyData.canLayAll0, ih]
theorem depAll {ds : List PyData} {n : Nat} : PyData.depthAll ds ≤ n ↔ ∀ d ∈ ds, d.depth ≤ n := by
  induction ds with
  | nil => simp [PyData.depthAll]
  | cons x r ih =>
    simp only [PyData.depthAll, List.forall_mem_cons, ← ih]
    omega
theorem okD_tuple {ds : List PyData} (h : okD (.tuple ds) = true) : ∀ d ∈ ds, okD d = true := fun d hd => by
  have h1 := canAll.mp (okD_lay h) d hd
  have h2 : PyData.depthAll ds + 1 ≤ 60 := okD_depth h
  have h3 := depAll.mp (show PyData.depthAll ds ≤ 59 by omega) d hd
  unfold okD
  rw [h1, decide_eq_true (show d.depth ≤ 60 by omega)]
  rfl
theorem shaped_list {ds : List PyData} (h : ∀ d ∈ ds, okD d = true) : SeqAt.shaped (.list ds) = true := by
  unfold SeqAt.shaped
  have h1 : PyData.canLay0 (.list ds) = true := canAll.mpr fun d hd => okD_lay (h d hd)
  have h2 : PyData.depthAll ds ≤ 60 := depAll.mpr fun d hd => okD_depth (h d hd)
  have h3 : PyData.depth (.list ds) = PyData.depthAll ds + 1 := rfl
  rw [h1, decide_eq_true (show PyData.depth (.list ds) ≤ 64 by omega)]
  rfl
section
variable {X : Cx} {e a b c o tg iter elt : Expr} {es rest : List Expr} {sts p q : List Stmt} {σ : St} {H H0 : Hp} {D : Ends} {pos : Pos} {d d1 d2 : PyData} {ds : List PyData} {k k1 k2 : Bool} {i j : Int} {x y : Str}
/-- for target in data: Pv by the turn, the slots, the heap; the tuples stand -/
theorem ws_forI {g : TG} (r : PG X tg g) (hc : X.calm = true) (hs : SVt X tg iter σ H ds) (Pv : Nat → St → Hp → Prop) (h0 : ∀ H', Same H H' → Pv 0 σ H') (hE : ∀ i σ' H' H'', Pv i σ' H' → Same H' H'' → Pv i σ' H'')
    (hb : ∀ i d v σ' H', ds[i]? = some d → Pv i σ' H' → Im H' v d → g v σ' H' fun σ2 H2 => WS X p { D with nx := fun σ3 H3 => Tx H' H3 ∧ Pv (i + 1) σ3 H3, ct := fun σ3 H3 => Tx H' H3 ∧ Pv (i + 1) σ3 H3, bk := WS X sts D } σ2 H2)
    (hd : ∀ σ' H', Pv ds.length σ' H' → WS X sts D σ' H')
    (mono : ∀ v σ' H' (K K' : St → Hp → Prop), (∀ σ2 H2, K σ2 H2 → K' σ2 H2) → g v σ' H' K → g v σ' H' K') (hp : PassesOwn (model X.prog X.w) X.A X.env X.xe := by exact PassesOwn.never) (hss : ∀ x, foldedSetIterable iter X.env x = pure x := by intro _; rfl) : WS X (.For tg iter p [] pos :: sts) D σ H := by
  refine ws_for r hc (hs _ fun J H2 G YY s2 w hG hY => ?_) hp hss
  refine for_it w (fun i σ' H3 => Tx H2 H3 ∧ Pv i σ' H3) ⟨Tx.refl _, h0 H2 s2⟩ (fun i σ' H3 _ h => hG H3 h.1) ?_ (fun σ' H3 h => hd σ' H3 h.2)
  intro n v σ' H3 H4 hn ⟨t3, hP⟩ hy
  obtain ⟨s4, d, hd', iv⟩ := hY n H3 v H4 hn t3 hy
  refine mono v σ' H4 _ _ (fun σ2 H2' h => ?_) (hb n d v σ' H4 hd' (hE n σ' H3 H4 hP s4) iv)
  intro pins s I
  refine thn (h pins s I) fun f s1 hf => ?_
  cases f with
  | next =>
    obtain ⟨σ3, H5, I5, t5, p5⟩ := hf
    exact ⟨σ3, H5, I5, (t3.trans (tx_same s4)).trans t5, p5⟩
  | cont =>
    obtain ⟨σ3, H5, I5, t5, p5⟩ := hf
    exact ⟨σ3, H5, I5, (t3.trans (tx_same s4)).trans t5, p5⟩
  | brk => exact hf
  | ret u => exact hf
theorem ws_for1 {n : Nat} {p1 : Pos} (hN : X.N.Nodup) (hc : X.calm = true) (hs : SVt X (.Name x p1) iter σ H ds) (Pv : Nat → St → Hp → Prop) (h0 : ∀ H', Same H H' → Pv 0 σ H') (hE : ∀ i σ' H' H'', Pv i σ' H' → Same H' H'' → Pv i σ' H'')
    (hb : ∀ i d v σ' H', ds[i]? = some d → Pv i σ' H' → Im H' v d → WS X p { D with nx := fun σ3 H3 => Tx H' H3 ∧ Pv (i + 1) σ3 H3, ct := fun σ3 H3 => Tx H' H3 ∧ Pv (i + 1) σ3 H3, bk := WS X sts D } (σ'.set n (some v)) H')
    (hd : ∀ σ' H', Pv ds.length σ' H' → WS X sts D σ' H') (hi : X.N[n]? = some x := by rfl) (hx : Loc X.env.scope x := by first | exact Or.inl rfl | exact Or.inr rfl) (hf : X.fn x = true ∨ X.env.scope.names.lookup x = some .local := by first | exact .inl rfl | exact .inr rfl)
    (hp : PassesOwn (model X.prog X.w) X.A X.env X.xe := by exact PassesOwn.never) (hss : ∀ x, foldedSetIterable iter X.env x = pure x := by intro _; rfl) : WS X (.For (.Name x p1) iter p [] pos :: sts) D σ H :=
  ws_forI (g := gName n) (pg_name (i := n) hN hi hx hf) hc hs Pv h0 hE hb hd (fun v σ' H' K K' m h => m _ _ h) hp hss
theorem ws_for2 {n m kk : Nat} {p1 p2 p3 : Pos} (hN : X.N.Nodup) (hc : X.calm = true) (hs : SVt X (.Tuple [.Name x p1, .Name y p2] kk p3) iter σ H ds) (hd2 : ∀ d ∈ ds, ∃ u v, d = .tuple [u, v]) (Pv : Nat → St → Hp → Prop) (h0 : ∀ H', Same H H' → Pv 0 σ H') (hE : ∀ i σ' H' H'', Pv i σ' H' → Same H' H'' → Pv i σ' H'')
    (hb : ∀ i d1 d2 u v σ' H', ds[i]? = some (.tuple [d1, d2]) → Pv i σ' H' → Im H' u d1 → Im H' v d2 → WS X p { D with nx := fun σ3 H3 => Tx H' H3 ∧ Pv (i + 1) σ3 H3, ct := fun σ3 H3 => Tx H' H3 ∧ Pv (i + 1) σ3 H3, bk := WS X sts D } ((σ'.set n (some u)).set m (some v)) H')
    (hd : ∀ σ' H', Pv ds.length σ' H' → WS X sts D σ' H') (hi : X.N[n]? = some x := by rfl) (hj : X.N[m]? = some y := by rfl) (hx : Loc X.env.scope x := by first | exact Or.inl rfl | exact Or.inr rfl) (hy : Loc X.env.scope y := by first | exact Or.inl rfl | exact Or.inr rfl)
    (hf : X.fn x = true ∨ X.env.scope.names.lookup x = some .local := by first | exact .inl rfl | exact .inr rfl) (hf2 : X.fn y = true ∨ X.env.scope.names.lookup y = some .local := by first | exact .inl rfl | exact .inr rfl)
    (hp : PassesOwn (model X.prog X.w) X.A X.env X.xe := by exact PassesOwn.never) (hss : ∀ x, foldedSetIterable iter X.env x = pure x := by intro _; rfl) : WS X (.For (.Tuple [.Name x p1, .Name y p2] kk p3) iter p [] pos :: sts) D σ H :=
  ws_forI (g := gTup X.K 2 (gCons (gName n) (gCons (gName m) gNil))) (pg_tup hc (pgs_cons (pg_name (i := n) hN hi hx hf) (pgs_cons (pg_name (i := m) hN hj hy hf2) pgs_nil))) hc hs Pv h0 hE
    (fun i d v σ' H' hd' hP iv => by
      obtain ⟨d1, d2, rfl⟩ := hd2 d (List.mem_of_getElem? hd')
      obtain ⟨r, xs, rfl, hr, hxs⟩ := im_tup iv
      cases hxs with
      | cons i1 h2 =>
        cases h2 with
        | cons i2 h3 =>
          cases h3
          exact ⟨r, _, rfl, SqT.of hr, rfl, _, _, rfl, _, _, rfl, rfl, hb i d1 d2 _ _ σ' H' hd' hP i1 i2⟩)
    hd (fun v σ' H' K K' m h => by
      obtain ⟨r, xs, h1, h2, h3, u, us, h4, u', us', h5, h6, h7⟩ := h
      exact ⟨r, xs, h1, h2, h3, u, us, h4, u', us', h5, h6, m _ _ h7⟩) hp hss
/-- a, b, c = e, a tuple of data -/
theorem ws_unp3 {n m l kk : Nat} {z : Str} {p1 p2 p3 p4 : Pos} (hN : X.N.Nodup) (hc : X.calm = true) (s : Same H0 H) {d3 : PyData} (h : DV X e σ H0 (.tuple [d1, d2, d3])) (q : ∀ u v t H', Same H0 H' → Im H' u d1 → Im H' v d2 → Im H' t d3 → WS X sts D (((σ.set n (some u)).set m (some v)).set l (some t)) H')
    (hi : X.N[n]? = some x := by rfl) (hj : X.N[m]? = some y := by rfl) (hl : X.N[l]? = some z := by rfl) (hx : Loc X.env.scope x := by first | exact Or.inl rfl | exact Or.inr rfl) (hy : Loc X.env.scope y := by first | exact Or.inl rfl | exact Or.inr rfl) (hz : Loc X.env.scope z := by first | exact Or.inl rfl | exact Or.inr rfl)
    (hf : X.fn x = true ∨ X.env.scope.names.lookup x = some .local := by first | exact .inl rfl | exact .inr rfl) (hf2 : X.fn y = true ∨ X.env.scope.names.lookup y = some .local := by first | exact .inl rfl | exact .inr rfl) (hf3 : X.fn z = true ∨ X.env.scope.names.lookup z = some .local := by first | exact .inl rfl | exact .inr rfl)
    (hs : swapsWithSole [.Tuple [.Name x p1, .Name y p2, .Name z p3] kk p4] e pos.line X.env = pure false := by rfl) (hw : swappedStores [.Tuple [.Name x p1, .Name y p2, .Name z p3] kk p4] e X.env = pure none := by rfl) :
    WS X (.Assign [.Tuple [.Name x p1, .Name y p2, .Name z p3] kk p4] e pos :: sts) D σ H :=
  ws_asg (g := gTup X.K 3 (gCons (gName n) (gCons (gName m) (gCons (gName l) gNil)))) (pg_tup hc (pgs_cons (pg_name (i := n) hN hi hx hf) (pgs_cons (pg_name (i := m) hN hj hy hf2) (pgs_cons (pg_name (i := l) hN hl hz hf3) pgs_nil))))
    ((h.mono (tx_same s)).w fun v H' s' iv => by
      obtain ⟨r, xs, rfl, hr, hxs⟩ := im_tup iv
      cases hxs with
      | cons i1 h2 =>
        cases h2 with
        | cons i2 h3 =>
          cases h3 with
          | cons i3 h4 =>
            cases h4
            exact ⟨r, _, rfl, SqT.of hr, rfl, _, _, rfl, _, _, rfl, _, _, rfl, rfl, q _ _ _ H' (s.trans s') i1 i2 i3⟩) hs hw rfl
theorem ws_unp2 {n m kk : Nat} {p1 p2 p4 : Pos} (hN : X.N.Nodup) (hc : X.calm = true) (s : Same H0 H) (h : DV X e σ H0 (.tuple [d1, d2])) (q : ∀ u v H', Same H0 H' → Im H' u d1 → Im H' v d2 → WS X sts D ((σ.set n (some u)).set m (some v)) H')
    (hi : X.N[n]? = some x := by rfl) (hj : X.N[m]? = some y := by rfl) (hx : Loc X.env.scope x := by first | exact Or.inl rfl | exact Or.inr rfl) (hy : Loc X.env.scope y := by first | exact Or.inl rfl | exact Or.inr rfl)
    (hf : X.fn x = true ∨ X.env.scope.names.lookup x = some .local := by first | exact .inl rfl | exact .inr rfl) (hf2 : X.fn y = true ∨ X.env.scope.names.lookup y = some .local := by first | exact .inl rfl | exact .inr rfl)
    (hs : swapsWithSole [.Tuple [.Name x p1, .Name y p2] kk p4] e pos.line X.env = pure false := by rfl) (hw : swappedStores [.Tuple [.Name x p1, .Name y p2] kk p4] e X.env = pure none := by rfl) :
    WS X (.Assign [.Tuple [.Name x p1, .Name y p2] kk p4] e pos :: sts) D σ H :=
  ws_asg (g := gTup X.K 2 (gCons (gName n) (gCons (gName m) gNil))) (pg_tup hc (pgs_cons (pg_name (i := n) hN hi hx hf) (pgs_cons (pg_name (i := m) hN hj hy hf2) pgs_nil)))
    ((h.mono (tx_same s)).w fun v H' s' iv => by
      obtain ⟨r, xs, rfl, hr, hxs⟩ := im_tup iv
      cases hxs with
      | cons i1 h2 =>
        cases h2 with
        | cons i2 h3 =>
          cases h3
          exact ⟨r, _, rfl, SqT.of hr, rfl, _, _, rfl, _, _, rfl, rfl, q _ _ H' (s.trans s') i1 i2⟩) hs hw rfl
end
end Tr
set_option Elab.async false
set_option linter.all false
set_option maxRecDepth 100000
set_option maxHeartbeats 4000000
/-! lists of data where they stand; displays of dicts; list methods -/
namespace Tr
open PySem PySem.Spec PyProof.Rows L2
/-- a new list, at this heap -/
def LVa (X : Cx) (e : Expr) (σ : St) (H : Hp) (ds : List PyData) : Prop := ∀ Q : VK, (∀ p vs H2, H p = none → Same H H2 → H2 p = some (.lst vs) → ImAll H2 vs ds → Q (.ref p) H2) → WE X e σ H Q
section
variable {X : Cx} {e a b c o tg iter elt : Expr} {es rest : List Expr} {sts p q : List Stmt} {σ : St} {H H0 : Hp} {D : Ends} {pos : Pos} {d d1 d2 : PyData} {ds : List PyData} {k k1 k2 : Bool} {i j : Int} {x y : Str}
theorem LV.at (h : LV X e σ H ds) : LVa X e σ H ds := h H (Tx.refl H)
theorem t_neNil {n : Nat} {p1 : Pos} {B : Bool → Hp → Prop} (hr : Room n X.A) (h : LVa X a σ H ds) (hz : SeqAt.shaped (.list ds) = true) (q : ∀ H', Same H H' → B (!ds.isEmpty) H') : WT X (.Compare a [.NotEq] [.List [] p1] pos) σ H B :=
  t_cmp (op_neD hr.units) (h _ fun p vs H2 hp s2 hv iv => w_lst (wa_nil ⟨Nat.zero_le _, fun r hr => by
    have s3 : Same H2 (upd H2 r (.lst [])) := same_new hr
    refine ⟨.list ds, .list [], .lst (SqL.of (s3 _ _ hv)) (ImAll.dp (iv.mono (tx_same s3))), .lst (SqL.of upd_same) .nil, hz, by decide, _, rfl, ?_⟩
    rw [eqv_nil]
    exact q _ (s2.trans s3)⟩))
/-- a list that stands -/
theorem sv_lst {r : Addr} {vs : List V} (h : ∀ Q : VK, Q (.ref r) H → WE X iter σ H Q) (hl : SqL X.K H r vs) (hi : ImAll H vs ds) : SV X tg iter σ H ds := fun R q => wi (pi_list peW) (h _ ⟨r, rfl, ⟨vs, hl⟩, q (Itl X.K r) H (fun H => SqL X.K H r vs) (YAt vs) (Same.refl H) (by rw [← hi.length]; exact walk_list) (fun H3 s3 => s3.seq hl) fun i H3 x H4 _ s3 hy => by
  obtain ⟨rfl, hx⟩ := hy
  obtain ⟨d, h1, h2⟩ := (hi.mono (tx_same s3)).getV hx
  exact ⟨Same.refl _, d, h1, h2⟩⟩)
theorem w_lenL {r : Addr} {vs : List V} {p1 : Pos} {Q : VK} (hm : X.mg "len" = none) (h : ∀ Q : VK, Q (.ref r) H → WE X a σ H Q) (hl : SqL X.K H r vs) (q : Q (.int (vs.length : Int)) H) (hg : Gl X "len" := by rfl) (he : starEach [a] X.env = [(false, eval a X.env)] := by rfl) : WE X (.Call (.Name "len" p1) [a] [] pos) σ H Q :=
  w_callB call_len_seq hm PySem.boot_len (wa_cons (h _ (wa_nil ⟨r, vs, rfl, .inl hl, q⟩)) he) hg (he := he)
/-- a name's value -/
theorem w_vv (n : Nat) {v : V} (h : σ[n]? = some (some v)) (hN : X.N[n]? = some x := by rfl) (hv : Vis X.env.scope x := by first | exact Or.inl rfl | exact Or.inr (Or.inl rfl) | exact Or.inr (Or.inr rfl)) (hdb : (x == ("__debug__" : Str)) = false := by decide)
    (hcd : (x == ("__classdict__" : Str)) = false := by decide) : ∀ Q : VK, Q v H → WE X (.Name x pos) σ H Q := fun _ q => w_v n h q hN hv hdb hcd
/-- a display of a dict: its pairs' values -/
def DP (X : Cx) : List (Option Expr) → List Expr → St → Hp → List (V × V) → Prop
  | some ka :: ks, va :: vs, σ, H, (u, v) :: ps => (∀ Q : VK, Q u H → WE X ka σ H Q) ∧ (∀ Q : VK, Q v H → WE X va σ H Q) ∧ DP X ks vs σ H ps
  | [], [], _, _, [] => True
  | _, _, _, _, _ => False
/-- x.append(e) -/
theorem w_append {r : Addr} {vs : List V} {v : V} {apos : Pos} {Q : VK} (h : ∀ Q : VK, Q (.ref r) H → WE X o σ H Q) (hr : H r = some (.lst vs)) (he : ∀ Q : VK, Q v H → WE X e σ H Q) (hl : vs.length < 1000000) (q : Q .non (upd H r (.lst (vs ++ [v]))))
    (hbase : attributeBase o "append" X.env (eval o X.env) = eval o X.env := by rfl)
    (hfew : ((backTo pos (starEach [e] X.env)).all (fun x => !x.1) && (backToKw pos (keywordEach [] X.env)).all (fun x => x.1.isSome)
      && decide (([e] : List Expr).length + ([] : List Keyword).length + (if ([] : List Keyword).isEmpty then 0 else 1) < 30)) = true := by rfl)
    (hline : (apos.endLine == pos.line) = true := by rfl) (hs : starEach [e] X.env = (false, eval e X.env) :: starEach [] X.env := by rfl) : WE X (.Call (.Attribute o "append" apos) [e] [] pos) σ H Q :=
  w_bm PySem.F.plainAttrs_list PySem.F.slot_list_append PySem.F.type_list_append mt_append (h _ ⟨.inl ⟨rfl, _, SqL.of hr⟩, wa_cons (he _ (wa_nil ⟨r, vs, v, rfl, rfl, hr, Nat.lt_trans hl (by decide), q⟩)) hs⟩) hbase hfew hline hs rfl
end
end Tr
set_option Elab.async false
set_option linter.all false
set_option maxRecDepth 100000
set_option maxHeartbeats 4000000
/-! comprehensions whose block reads the heap where it stands -/
namespace Tr
open PySem PySem.Spec PyProof.Rows L2
section
variable {X : Cx} {e a b c o tg iter elt : Expr} {es rest : List Expr} {sts p q : List Stmt} {σ : St} {H : Hp} {D : Ends} {pos : Pos} {d d1 d2 : PyData} {ds : List PyData} {k k1 k2 : Bool} {i j : Int} {x y : Str}
def DAb (X : Cx) (sc : Scope) (e : Expr) (σ : St) (H : Hp) (d : PyData) : Prop := ∀ (s : Shared) (H0 : Hp) (C : Addr) (cl : List (Str × Addr)) (fp : List Addr) (Q : VK), (∀ v H', Same H H' → Im H' v d → Q v H') → WE (X.blk s H0 sc (compEnvC sc cl C X.env) fp) e σ H Q
def TAb (X : Cx) (sc : Scope) (e : Expr) (σ : St) (H : Hp) (k : Bool) : Prop := ∀ (s : Shared) (H0 : Hp) (C : Addr) (cl : List (Str × Addr)) (fp : List Addr) (B : Bool → Hp → Prop), (∀ H', Same H H' → B k H') → WT (X.blk s H0 sc (compEnvC sc cl C X.env) fp) e σ H B
def TAbs (X : Cx) (sc : Scope) (es : List Expr) (σ : St) (H : Hp) (k : Bool) : Prop := match es with
  | [] => k = true
  | [e] => TAb X sc e σ H k
  | _ => False
theorem tabs_w {sc : Scope} {ifs : List Expr} {B : Bool → Hp → Prop} (h : TAbs X sc ifs σ H k) (q : ∀ H', Same H H' → B k H') : BTs X sc ifs σ H B := by
  match ifs, h with
  | [], h => cases (show k = true from h); exact q H (Same.refl _)
  | [e], h => exact fun s H0 C cl fp => h s H0 C cl fp B q
  | _ :: _ :: _, h => exact (show False from h).elim
/-- the reading of a comprehension over data; P d σ2: the slots behind the target's store -/
theorem lc_at {sc : Scope} {ifs : List Expr} {g : TG} {vs : List Nat} {Q : VK} (P : PyData → St → Hp → Prop) (tst : PyData → Bool) (f : PyData → PyData) (hs : SV X tg iter σ H ds) (hn : ds.length ≤ 100000)
    (hg : ∀ H3 v d, Im H3 v d → d ∈ ds → Same H H3 → ∀ K : St → Hp → Prop, (∀ σ2, wipe σ2 vs = wipe σ vs → P d σ2 H3 → K σ2 H3) → g v (wipe σ vs) H3 K)
    (hP : ∀ d σ2 H3 H4, P d σ2 H3 → Same H3 H4 → P d σ2 H4)
    (ht : ∀ H3 d σ2, d ∈ ds → Same H H3 → P d σ2 H3 → TAbs X sc ifs σ2 H3 (tst d))
    (he : ∀ H3 d σ2, d ∈ ds → Same H H3 → P d σ2 H3 → tst d = true → DAb X sc elt σ2 H3 (f d))
    (q : ∀ p ws H', H p = none → Same H H' → H' p = some (.lst ws) → ImAll H' ws (comp tst f ds) → Q (.ref p) H') :
    tLc (WI X tg iter) g (BTs X sc ifs) (BE X sc elt) vs σ H Q := by
  refine hs _ fun J H2 G YY s2 w hG hY => ?_
  intro D hD
  refine lc_it w (fun n H3 => n ≤ ds.length ∧ Same H2 H3 ∧ ∃ acc, H3 D = some (.lst acc) ∧ ImAll H3 acc (comp tst f (ds.take n))) ⟨Nat.zero_le _, same_new hD, [], upd_same, .nil⟩ (fun n H3 _ h => hG H3 h.2.1) ?_ ?_
  · intro n x H3 H4 hlt ⟨hle, s3, acc, hacc, hia⟩ hy
    obtain ⟨s4, d, hd, iv⟩ := hY n H3 x H4 hlt s3 hy
    have hmem : d ∈ ds := List.mem_of_getElem? hd
    have t4 : Same H H4 := s2.trans (s3.trans s4)
    refine hg H4 x d iv hmem t4 _ fun σ2 hw hp => ⟨hw, ?_⟩
    refine tabs_w (ht H4 d σ2 hmem t4 hp) fun H5 s5 => ?_
    have t5 : Same H H5 := t4.trans s5
    have e5 : Same H3 H5 := s4.trans s5
    cases htd : tst d with
    | false =>
      refine iteF ⟨hlt, s3.trans e5, acc, e5 _ _ hacc, ?_⟩
      rw [comp_snoc tst f hd, htd]
      simp only [Bool.false_eq_true, if_false, List.append_nil]
      exact hia.mono (tx_same e5)
    | true =>
      refine iteT fun s H0 C cl fp => (he H5 d σ2 hmem t5 (hP _ _ _ _ hp s5) htd s H0 C cl fp) _ fun v H6 s6 iv6 => ?_
      have e6 : Same H3 H6 := e5.trans s6
      have hz := hia.length
      have hc := comp_len tst f (ds.take n)
      rw [List.length_take] at hc
      refine ⟨acc, e6 _ _ hacc, Nat.lt_of_le_of_lt (show acc.length ≤ 100000 by omega) (by decide), hlt, ?_, acc ++ [v], upd_same, ?_⟩
      · exact fun b o eb => by
          have nb : b ≠ D := ne_of_none eb hD
          rw [upd_ne nb]
          exact e6 _ _ (s3 _ _ eb)
      · have tm : Tx H6 (upd H6 D (.lst (acc ++ [v]))) := tx_mut (Tx.refl _) fun xs z => by
          rw [e6 _ _ hacc] at z
          cases z
        rw [comp_snoc tst f hd, htd]
        exact ((hia.mono (tx_same e6)).mono tm).append (.cons (iv6.mono tm) .nil)
  · intro H3 ⟨_, s3, acc, hacc, hia⟩
    rw [List.take_length] at hia
    exact q D acc H3 (s2.free hD) (s2.trans s3) hacc hia
/-- [elt for x in iter if ..], one name -/
theorem w_lcA1 {sc : Scope} {ifs : List Expr} {n : Nat} {p1 : Pos} {Q : VK} (tst : PyData → Bool) (f : PyData → PyData) (hc : X.calm = true) (hN : X.N.Nodup) (ok : BlkOk X.N X.env.scope sc [(x, n)]) (hs : SV X (.Name x p1) iter σ H ds) (hn : ds.length ≤ 100000)
    (ht : ∀ H3 d v, d ∈ ds → Same H H3 → Im H3 v d → TAbs X sc ifs ((σ.set n none).set n (some v)) H3 (tst d))
    (he : ∀ H3 d v, d ∈ ds → Same H H3 → Im H3 v d → tst d = true → DAb X sc elt ((σ.set n none).set n (some v)) H3 (f d))
    (q : ∀ p ws H', H p = none → Same H H' → H' p = some (.lst ws) → ImAll H' ws (comp tst f ds) → Q (.ref p) H')
    (hi : X.N[n]? = some x := by rfl) (hx : Loc (relabel sc X.env) x := by first | exact Or.inl rfl | exact Or.inr rfl) (hf : (sc.names.lookup x == some .cell) = true ∨ (relabel sc X.env).names.lookup x = some .local := by first | exact .inr rfl | exact .inl rfl)
    (hss : ∀ x, foldedSetIterable iter X.env x = pure x := by intro _; rfl) :
    WE X (.ListComp elt [⟨.Name x p1, iter, ifs, 0⟩] sc pos) σ H Q :=
  w_lc [(x, n)] hc hN ok (fun s H0 C cl fp => pg_name (i := n) hN hi hx hf)
    (lc_at (fun d σ2 H3 => ∃ v, σ2 = (σ.set n none).set n (some v) ∧ Im H3 v d) tst f hs hn
      (fun H3 v d iv hm t K k => k _ (by show ((σ.set n none).set n (some v)).set n none = σ.set n none; rw [List.set_set, List.set_set]) ⟨v, rfl, iv⟩)
      (fun d σ2 H3 H4 ⟨v, e, iv⟩ t => ⟨v, e, iv.mono (tx_same t)⟩)
      (fun H3 d σ2 hm t ⟨v, e, iv⟩ => by subst e; exact ht H3 d v hm t iv)
      (fun H3 d σ2 hm t ⟨v, e, iv⟩ hd => by subst e; exact he H3 d v hm t iv hd) q) hss
/-- [elt for x, y in iter if ..] -/
theorem w_lcA2 {sc : Scope} {ifs : List Expr} {n m kk : Nat} {p1 p2 p3 : Pos} {Q : VK} (tst : PyData → Bool) (f : PyData → PyData) (hc : X.calm = true) (hN : X.N.Nodup) (ok : BlkOk X.N X.env.scope sc [(x, n), (y, m)]) (hs : SV X (.Tuple [.Name x p1, .Name y p2] kk p3) iter σ H ds) (hn : ds.length ≤ 100000)
    (hd : ∀ d ∈ ds, ∃ u v, d = .tuple [u, v])
    (ht : ∀ H3 d1 d2 u v, .tuple [d1, d2] ∈ ds → Same H H3 → Im H3 u d1 → Im H3 v d2 → TAbs X sc ifs ((((σ.set m none).set n none).set n (some u)).set m (some v)) H3 (tst (.tuple [d1, d2])))
    (he : ∀ H3 d1 d2 u v, .tuple [d1, d2] ∈ ds → Same H H3 → Im H3 u d1 → Im H3 v d2 → tst (.tuple [d1, d2]) = true → DAb X sc elt ((((σ.set m none).set n none).set n (some u)).set m (some v)) H3 (f (.tuple [d1, d2])))
    (q : ∀ p ws H', H p = none → Same H H' → H' p = some (.lst ws) → ImAll H' ws (comp tst f ds) → Q (.ref p) H')
    (hi : X.N[n]? = some x := by rfl) (hj : X.N[m]? = some y := by rfl) (hnm : n ≠ m := by decide) (hx : Loc (relabel sc X.env) x := by first | exact Or.inl rfl | exact Or.inr rfl) (hy : Loc (relabel sc X.env) y := by first | exact Or.inl rfl | exact Or.inr rfl)
    (hf : (sc.names.lookup x == some .cell) = true ∨ (relabel sc X.env).names.lookup x = some .local := by first | exact .inr rfl | exact .inl rfl) (hf2 : (sc.names.lookup y == some .cell) = true ∨ (relabel sc X.env).names.lookup y = some .local := by first | exact .inr rfl | exact .inl rfl)
    (hss : ∀ x, foldedSetIterable iter X.env x = pure x := by intro _; rfl) :
    WE X (.ListComp elt [⟨.Tuple [.Name x p1, .Name y p2] kk p3, iter, ifs, 0⟩] sc pos) σ H Q :=
  w_lc (g := gTup X.K 2 (gCons (gName n) (gCons (gName m) gNil))) [(x, n), (y, m)] hc hN ok (fun s H0 C cl fp => pg_tup (X := X.blk s H0 sc (compEnvC sc cl C X.env) fp) hc (pgs_cons (pg_name (i := n) hN hi hx hf) (pgs_cons (pg_name (i := m) hN hj hy hf2) pgs_nil)))
    (lc_at (fun d σ2 H3 => ∃ d1 d2 u v, d = .tuple [d1, d2] ∧ σ2 = (((σ.set m none).set n none).set n (some u)).set m (some v) ∧ Im H3 u d1 ∧ Im H3 v d2) tst f hs hn
      (fun H3 v d iv hm t K k => by
        obtain ⟨d1, d2, rfl⟩ := hd d hm
        obtain ⟨p, xs, rfl, hp, hx⟩ := im_tup iv
        cases hx with
        | cons i1 h2 =>
          cases h2 with
          | cons i2 h3 =>
            cases h3
            refine ⟨p, _, rfl, SqT.of hp, rfl, _, _, rfl, _, _, rfl, rfl, k _ ?_ ⟨d1, d2, _, _, rfl, rfl, i1, i2⟩⟩
            show ((((((σ.set m none).set n none).set n (some _)).set m (some _)).set m none).set n none) = (σ.set m none).set n none
            rw [List.set_set, List.set_set, List.set_comm _ _ hnm, List.set_set, List.set_set])
      (fun d σ2 H3 H4 ⟨d1, d2, u, v, e1, e, i1, i2⟩ t => ⟨d1, d2, u, v, e1, e, i1.mono (tx_same t), i2.mono (tx_same t)⟩)
      (fun H3 d σ2 hm t ⟨d1, d2, u, v, e1, e, i1, i2⟩ => by subst e1; subst e; exact ht H3 d1 d2 u v hm t i1 i2)
      (fun H3 d σ2 hm t ⟨d1, d2, u, v, e1, e, i1, i2⟩ hd => by subst e1; subst e; exact he H3 d1 d2 u v hm t i1 i2 hd) q) hss
end
end Tr
set_option Elab.async false
set_option linter.all false
set_option maxRecDepth 100000
set_option maxHeartbeats 4000000
/-! loops over lists: J says what must stand -/
namespace Tr
open PySem PySem.Spec PyProof.Rows L2
def SVr (X : Cx) (tg iter : Expr) (σ : St) (H : Hp) (ds : List PyData) (J : Hp → Prop) : Prop := ∀ R : It → Hp → Prop,
  (∀ It H2 G YY, Same H H2 → Walk It ds.length G YY → (∀ H3, Tx H2 H3 → J H3 → G H3) → (∀ i H3 x H4, i < ds.length → Tx H2 H3 → J H3 → YY i H3 x H4 → Same H3 H4 ∧ ∃ d, ds[i]? = some d ∧ Im H4 x d) → R It H2) → WI X tg iter σ H R
section
variable {X : Cx} {e a b c o tg iter elt : Expr} {es rest : List Expr} {sts p q : List Stmt} {σ : St} {H H0 : Hp} {D : Ends} {pos : Pos} {d d1 d2 : PyData} {ds : List PyData} {k k1 k2 : Bool} {i j : Int} {x y : Str}
/-- enumerate of a list that stands -/
theorem sv_enL {elts : List Expr} {kk : Nat} {tpos p1 : Pos} {l : Addr} {vs : List V} (hm : X.mg "enumerate" = none) (ha : ∀ Q : VK, Q (.ref l) H → WE X a σ H Q) (hl : H l = some (.lst vs)) (hi : ImAll H vs ds) (hg : Gl X "enumerate" := by rfl) (hs : starEach [a] X.env = [(false, eval a X.env)] := by rfl) :
    SVr X (.Tuple elts kk tpos) (.Call (.Name "enumerate" p1) [a] [] pos) σ H (enumD 0 ds) (fun H' => H' l = some (.lst vs)) := fun R q => wi (pi_en hg hm paW hs) (wa_cons (ha _ (wa_nil (by
  refine ⟨.lst l, vs, rfl, SqL.of hl, ?_⟩
  refine q _ H (fun H => Src.has X.K H (.lst l) vs) _ (Same.refl H) (by rw [enumD_len, ← hi.length]; exact walk_en) (fun H3 t3 j3 => SqL.of j3) fun i H3 x H4 hi' t3 j3 hy => ?_
  obtain ⟨T, u, w, rfl, s4, hT, e1, e2⟩ := ypair_same hy
  cases e1
  obtain ⟨d, h1, h2⟩ := (hi.mono t3).getV e2
  exact ⟨s4, _, enumD_get 0 ds i d h1, .tup hT (.cons (.int _) (.cons (h2.mono (tx_same s4)) .nil))⟩))) hs)
/-- a list that stands -/
theorem sv_listL {l : Addr} {vs : List V} (ha : ∀ Q : VK, Q (.ref l) H → WE X iter σ H Q) (hl : H l = some (.lst vs)) (hi : ImAll H vs ds) : SVr X tg iter σ H ds (fun H' => H' l = some (.lst vs)) := fun R q => wi (pi_list peW) (ha _ ⟨l, rfl, ⟨vs, SqL.of hl⟩, q (Itl X.K l) H (fun H => SqL X.K H l vs) (YAt vs) (Same.refl H) (by rw [← hi.length]; exact walk_list) (fun H3 t3 j3 => SqL.of j3) fun i H3 x H4 hi' t3 j3 hy => by
  obtain ⟨rfl, hxi⟩ := hy
  obtain ⟨d, h1, h2⟩ := (hi.mono t3).getV hxi
  exact ⟨Same.refl _, d, h1, h2⟩⟩)
theorem ws_forJ {g : TG} (r : PG X tg g) (hc : X.calm = true) {J : Hp → Prop} (hs : SVr X tg iter σ H ds J) (Pv : Nat → St → Hp → Prop) (h0 : ∀ H', Same H H' → Pv 0 σ H') (hE : ∀ i σ' H' H'', Pv i σ' H' → Same H' H'' → Pv i σ' H'') (hJ : ∀ i σ' H', Pv i σ' H' → J H')
    (hb : ∀ i d v σ' H', ds[i]? = some d → Pv i σ' H' → Im H' v d → g v σ' H' fun σ2 H2 => WS X p { D with nx := fun σ3 H3 => Tx H' H3 ∧ Pv (i + 1) σ3 H3, ct := fun σ3 H3 => Tx H' H3 ∧ Pv (i + 1) σ3 H3, bk := WS X sts D } σ2 H2)
    (hd : ∀ σ' H', Pv ds.length σ' H' → WS X sts D σ' H')
    (mono : ∀ v σ' H' (K K' : St → Hp → Prop), (∀ σ2 H2, K σ2 H2 → K' σ2 H2) → g v σ' H' K → g v σ' H' K') (hp : PassesOwn (model X.prog X.w) X.A X.env X.xe := by exact PassesOwn.never) (hss : ∀ x, foldedSetIterable iter X.env x = pure x := by intro _; rfl) : WS X (.For tg iter p [] pos :: sts) D σ H := by
  refine ws_for r hc (hs _ fun J H2 G YY s2 w hG hY => ?_) hp hss
  refine for_it w (fun i σ' H3 => Tx H2 H3 ∧ Pv i σ' H3) ⟨Tx.refl _, h0 H2 s2⟩ (fun i σ' H3 _ h => hG H3 h.1 (hJ i σ' H3 h.2)) ?_ (fun σ' H3 h => hd σ' H3 h.2)
  intro n v σ' H3 H4 hn ⟨t3, hP⟩ hy
  obtain ⟨s4, d, hd', iv⟩ := hY n H3 v H4 hn t3 (hJ n σ' H3 hP) hy
  refine mono v σ' H4 _ _ (fun σ2 H2' h => ?_) (hb n d v σ' H4 hd' (hE n σ' H3 H4 hP s4) iv)
  intro pins s I
  refine thn (h pins s I) fun f s1 hf => ?_
  cases f with
  | next =>
    obtain ⟨σ3, H5, I5, t5, p5⟩ := hf
    exact ⟨σ3, H5, I5, (t3.trans (tx_same s4)).trans t5, p5⟩
  | cont =>
    obtain ⟨σ3, H5, I5, t5, p5⟩ := hf
    exact ⟨σ3, H5, I5, (t3.trans (tx_same s4)).trans t5, p5⟩
  | brk => exact hf
  | ret u => exact hf
theorem ws_forJ1 {n : Nat} {p1 : Pos} (hN : X.N.Nodup) (hc : X.calm = true) {J : Hp → Prop} (hs : SVr X (.Name x p1) iter σ H ds J) (Pv : Nat → St → Hp → Prop) (h0 : ∀ H', Same H H' → Pv 0 σ H') (hE : ∀ i σ' H' H'', Pv i σ' H' → Same H' H'' → Pv i σ' H'') (hJ : ∀ i σ' H', Pv i σ' H' → J H')
    (hb : ∀ i d v σ' H', ds[i]? = some d → Pv i σ' H' → Im H' v d → WS X p { D with nx := fun σ3 H3 => Tx H' H3 ∧ Pv (i + 1) σ3 H3, ct := fun σ3 H3 => Tx H' H3 ∧ Pv (i + 1) σ3 H3, bk := WS X sts D } (σ'.set n (some v)) H')
    (hd : ∀ σ' H', Pv ds.length σ' H' → WS X sts D σ' H') (hi : X.N[n]? = some x := by rfl) (hx : Loc X.env.scope x := by first | exact Or.inl rfl | exact Or.inr rfl) (hf : X.fn x = true ∨ X.env.scope.names.lookup x = some .local := by first | exact .inl rfl | exact .inr rfl)
    (hp : PassesOwn (model X.prog X.w) X.A X.env X.xe := by exact PassesOwn.never) (hss : ∀ x, foldedSetIterable iter X.env x = pure x := by intro _; rfl) : WS X (.For (.Name x p1) iter p [] pos :: sts) D σ H :=
  ws_forJ (g := gName n) (pg_name (i := n) hN hi hx hf) hc hs Pv h0 hE hJ hb hd (fun v σ' H' K K' m h => m _ _ h) hp hss
theorem ws_forJ2 {n m kk : Nat} {p1 p2 p3 : Pos} (hN : X.N.Nodup) (hc : X.calm = true) {J : Hp → Prop} (hs : SVr X (.Tuple [.Name x p1, .Name y p2] kk p3) iter σ H ds J) (hd2 : ∀ d ∈ ds, ∃ u v, d = .tuple [u, v]) (Pv : Nat → St → Hp → Prop) (h0 : ∀ H', Same H H' → Pv 0 σ H') (hE : ∀ i σ' H' H'', Pv i σ' H' → Same H' H'' → Pv i σ' H'') (hJ : ∀ i σ' H', Pv i σ' H' → J H')
    (hb : ∀ i d1 d2 u v σ' H', ds[i]? = some (.tuple [d1, d2]) → Pv i σ' H' → Im H' u d1 → Im H' v d2 → WS X p { D with nx := fun σ3 H3 => Tx H' H3 ∧ Pv (i + 1) σ3 H3, ct := fun σ3 H3 => Tx H' H3 ∧ Pv (i + 1) σ3 H3, bk := WS X sts D } ((σ'.set n (some u)).set m (some v)) H')
    (hd : ∀ σ' H', Pv ds.length σ' H' → WS X sts D σ' H') (hi : X.N[n]? = some x := by rfl) (hj : X.N[m]? = some y := by rfl) (hx : Loc X.env.scope x := by first | exact Or.inl rfl | exact Or.inr rfl) (hy : Loc X.env.scope y := by first | exact Or.inl rfl | exact Or.inr rfl)
    (hf : X.fn x = true ∨ X.env.scope.names.lookup x = some .local := by first | exact .inl rfl | exact .inr rfl) (hf2 : X.fn y = true ∨ X.env.scope.names.lookup y = some .local := by first | exact .inl rfl | exact .inr rfl)
    (hp : PassesOwn (model X.prog X.w) X.A X.env X.xe := by exact PassesOwn.never) (hss : ∀ x, foldedSetIterable iter X.env x = pure x := by intro _; rfl) : WS X (.For (.Tuple [.Name x p1, .Name y p2] kk p3) iter p [] pos :: sts) D σ H :=
  ws_forJ (g := gTup X.K 2 (gCons (gName n) (gCons (gName m) gNil))) (pg_tup hc (pgs_cons (pg_name (i := n) hN hi hx hf) (pgs_cons (pg_name (i := m) hN hj hy hf2) pgs_nil))) hc hs Pv h0 hE hJ
    (fun i d v σ' H' hd' hP iv => by
      obtain ⟨d1, d2, rfl⟩ := hd2 d (List.mem_of_getElem? hd')
      obtain ⟨r, xs, rfl, hr, hxs⟩ := im_tup iv
      cases hxs with
      | cons i1 h2 =>
        cases h2 with
        | cons i2 h3 =>
          cases h3
          exact ⟨r, _, rfl, SqT.of hr, rfl, _, _, rfl, _, _, rfl, rfl, hb i d1 d2 _ _ σ' H' hd' hP i1 i2⟩)
    hd (fun v σ' H' K K' m h => by
      obtain ⟨r, xs, h1, h2, h3, u, us, h4, u', us', h5, h6, h7⟩ := h
      exact ⟨r, xs, h1, h2, h3, u, us, h4, u', us', h5, h6, m _ _ h7⟩) hp hss
end
end Tr
set_option Elab.async false
set_option linter.all false
set_option maxRecDepth 100000
set_option maxHeartbeats 4000000
/-! (x, y)[::-1], dict.update, list.clear, comprehensions whose block changes the heap -/
namespace HT
open PySem PyProof.Rows
open PySem.SeqAt
open PySem.MeetsSeq PySem.MeetsSeq2 PySem.MeetsSeq3
section
variable {prog : Program} {w : World} {A : Around} {E : Value → Shared → Prop} {s : Shared}
theorem tr_applied {sl : Addr} {tk : Tok} {Q : Int × Int × Nat → Shared → Prop} (hs : s.heap.IsSliceOf sl .none .none (.int (-1) tk)) (h : Q (1, -1, 2) s) : wpAny (model prog w) A (Builtin.Slice.sliceApplied (.ref sl) (pure ((2 : Nat) : Int))) Q E s := by
  obtain ⟨os, hos, hcs, hds⟩ := id hs
  unfold Builtin.Slice.sliceApplied Builtin.Slice.sliceFields
  refine wpAny_bind (wpAny_bind (wpAny_field hos hds (x := .none) rfl (wpAny_bind (wpAny_field hos hds (x := .none) rfl (wpAny_bind (wpAny_field hos hds (x := .int (-1) tk) rfl (wpAny_pure ?_)))))))
  refine wpAny_bind (slicePart_ (.int (-1) tk) ?_)
  show wpAny _ _ (if ((-1 : Int) == 0) = true then _ else _) _ _ s
  rw [if_neg (by decide)]
  exact wpAny_bind (slicePart_none (wpAny_bind (slicePart_none (wpAny_bind (wpAny_pure (wpAny_pure h))))))
theorem tr_rev2 {t sl : Addr} {x y : Value} {tk : Tok} {Q : Value → Shared → Prop} (ht : IsTup s.heap t #[x, y]) (hs : s.heap.IsSliceOf sl .none .none (.int (-1) tk))
    (h : Q (.ref s.heap.objs.size) { s with heap := s.heap.push { cls := .type "tuple", data := .seq #[y, x] } }) : wpAny (model prog w) A (getItem (.ref t) (.ref sl)) Q E s := by
  have htake : sizeOk (.seq #[y, x]) := by
    show 2 ≤ sizeLine
    decide
  obtain ⟨os, hos, hcs, hds⟩ := id hs
  have hTs : s.TypeIs (.ref sl) "slice" := ⟨os, hos, hcs⟩
  unfold getItem
  try with_reducible refine wpAny_holding ?_
  first | refine wpAny_bind (wpAny_pure ?_) | skip
  refine wpAny_bind (wpAny_sequenceKey ht.typeIs (by decide) ?_)
  refine wpAny_bind (wpAny_callSpecial?_slot (name := Str.ofString "__getitem__") ht.typeIs PyProof.Rows.slot_tuple_getitem
    (wpAny_call_entry PyProof.Rows.slot_tuple_getitem ht.typeIs entry_tuple_getitem ?_ (args_tuple_getitem _ _)))
  show wpAny _ _ (Builtin.Tuple.tupleItemsOf (.ref t) >>= _) _ _ s
  refine wpAny_bind (tupleItemsOf_ ht ?_)
  refine wpAny_bind (wpAny_typeOf hTs ?_)
  rw [if_pos (by decide)]
  refine wpAny_bind (tr_applied hs ?_)
  show wpAny _ _ (if ((1 : Int) == 0 && (-1 : Int) == 1 && (2 : Nat) == #[x, y].size) = true then _ else _) _ _ s
  rw [if_neg (show ¬ (((1 : Int) == 0 && (-1 : Int) == 1 && (2 : Nat) == #[x, y].size) = true) from fun z => Bool.false_ne_true z)]
  have e : ((List.range 2).filterMap fun (m : Nat) => #[x, y][((1 : Int) + (m : Int) * (-1)).toNat]?).toArray = #[y, x] := rfl
  rw [e]
  first
    | exact wpAny_bind (m := Builtin.Tuple.tupleExact _) (wpAny_newObj_type (wpAny_pure ⟨_, rfl, wpAny_pure h⟩) htake)
    | exact wpAny_bind (m := Builtin.Tuple.tupleExact _) (wpAny_newObj_type (wpAny_bind (wpAny_pure (wpAny_pure ⟨_, rfl, wpAny_pure h⟩))) htake)
    | exact wpAny_bind (wpAny_bind (m := Builtin.Tuple.tupleExact _) (wpAny_newObj_type (wpAny_pure (wpAny_pure ⟨_, rfl, wpAny_pure h⟩)) htake))
    | exact wpAny_bind (wpAny_bind (m := Builtin.Tuple.tupleExact _) (wpAny_newObj_type (wpAny_pure ⟨_, rfl, wpAny_pure h⟩) htake))
end
end HT
namespace Tr
open PySem PySem.Spec PyProof.Rows L2
section
variable {X : Cx} {e a b c o tg iter elt : Expr} {es rest : List Expr} {sts p q : List Stmt} {σ : St} {H H0 : Hp} {D : Ends} {pos : Pos} {d d1 d2 : PyData} {ds : List PyData} {k k1 k2 : Bool} {i j : Int} {x y : Str}
def tRevT (K : PySem.W.Frag) (te : TE) : TE := fun σ H Q => te σ H fun x H1 => ∃ a u v, x = .ref a ∧ SqT K H1 a [u, v] ∧ ∀ p, H1 p = none → Q (.ref p) (upd H1 p (.tup [v, u]))
theorem pe_revT {te : TE} {k : Nat} {p1 p2 p3 : Pos} (he : PE X e te) : PE X (.Subscript e (.Slice none none (some (.UnaryOp .USub (.Constant (.int 1) k p1) p2)) p3) pos) (tRevT X.K te) := by
  refine ⟨fun pins s σ H Q I h => ?_⟩
  refine Subscript_ (thn (he.run pins s σ H _ I h) fun v s1 ⟨x, H1, I1, r1, q1⟩ => ?_)
  obtain ⟨a, x1, x2, ex, hx, q⟩ := q1
  subst ex
  cases r1
  have hst : PO X (some (.UnaryOp .USub (.Constant (.int 1) k p1) p2)) (tPart (tUn (rU fun i => .int (-i)) (tC (.int 1)))) := po_some (pe_un un_neg pe_int)
  refine wpAny_Slice (thn (po_none.run pins s1 σ H1 (fun o H2 => o = none ∧ H2 = H1) I1 ⟨rfl, rfl⟩) fun vl s2 ⟨l, H2, I2, pl, el, e2⟩ => ?_)
  subst el e2
  refine thn (po_none.run pins s2 σ H2 (fun o H3 => o = none ∧ H3 = H2) I2 ⟨rfl, rfl⟩) fun vu s3 ⟨u, H3, I3, pu, eu, e3⟩ => ?_
  subst eu e3
  refine thn (hst.run pins s3 σ H3 (fun o H4 => o = some (-1) ∧ H4 = H3) I3 ⟨1, rfl, -1, rfl, rfl, rfl⟩) fun vs s4 ⟨o, H4, I4, ps, eo, e4⟩ => ?_
  subst eo e4
  cases pl
  cases pu
  obtain ⟨tk, rfl⟩ : ∃ tk, vs = .int (-1) tk := by cases ps; exact ⟨_, rfl⟩
  have I5 : Inv X pins σ H4 { s4 with heap := s4.heap.push { cls := .type "slice", data := .fields #[.none, .none, .int (-1) tk] } } := I4.kept (t' := s4.toks) fun b ob q => Heap.get?_push_of_some _ q
  obtain ⟨its, r, ht, hz⟩ := I5.tuple hx
  cases r with
  | cons r1 r2 =>
  cases r2 with
  | cons r2 r3 =>
  cases r3
  show wpAny (model X.prog X.w) X.A (subscriptTail e (.Slice none none (some (.UnaryOp .USub (.Constant (.int 1) k p1) p2)) p3) (.ref a) (.ref s4.heap.objs.size)) (EP X pins σ Q) X.xe { s4 with heap := s4.heap.push { cls := .type "slice", data := .fields #[.none, .none, .int (-1) tk] } }
  refine tail_any (ops := [.ref a, .ref s4.heap.objs.size]) ht.typeIs (PyProof.Rows.slot_tuple_getitem.lookup) ?_ (by with_unfolding_all rfl)
  refine HT.tr_rev2 ht (Heap.IsSliceOf.new _ _ _ _) ?_
  refine ⟨.ref _, _, I5.laid (t' := s4.toks) (o := .tup [x2, x1]) (fun b ob q => Heap.get?_push_of_some _ q) (Nat.le_refl _) ?_, rfl, q _ (I5.hok.fresh (Nat.le_refl _))⟩
  exact ⟨(show 2 ≤ sizeLine by decide), _, .cons r2 (.cons r1 .nil), IsTup.new _ _⟩
theorem dv_rev2 {k : Nat} {p1 p2 p3 : Pos} (h : DV X e σ H (.tuple [d1, d2])) : DV X (.Subscript e (.Slice none none (some (.UnaryOp .USub (.Constant (.int 1) k p1) p2)) p3) pos) σ H (.tuple [d2, d1]) := fun H1 t Q q =>
  we (pe_revT peW) (h H1 t _ fun v H2 s2 iv => by
    obtain ⟨r, xs, rfl, hr, hxs⟩ := im_tup iv
    cases hxs with
    | cons i1 h2 =>
      cases h2 with
      | cons i2 h3 =>
        cases h3
        exact ⟨r, _, _, rfl, SqT.of hr, fun p hp => q _ _ (s2.trans (same_new hp)) (.tup upd_same (.cons (i2.mono (tx_same (same_new hp))) (.cons (i1.mono (tx_same (same_new hp))) .nil)))⟩)
/-- t + u of data, the first not empty -/
theorem dv_cat {e1 e2 : List PyData} (ha : DV X a σ H (.tuple e1)) (hb : DV X b σ H (.tuple e2)) (h1 : e1 ≠ []) (hl : e1.length + e2.length ≤ 100000) : DV X (.BinOp a .Add b pos) σ H (.tuple (e1 ++ e2)) := dv_op op_catT ha hb fun H1 u v Q iu iv q => by
  obtain ⟨p, xs, rfl, hp, hx⟩ := im_tup iu
  obtain ⟨r, ys, rfl, hr, hy⟩ := im_tup iv
  have l1 := hx.length
  have l2 := hy.length
  refine ⟨p, r, xs, ys, rfl, rfl, SqT.of hp, SqT.of hr, fun z => h1 ?_, Nat.le_trans (show xs.length + ys.length ≤ 100000 by omega) (by decide), fun z => ?_, fun _ t ht => ?_⟩
  · rw [z] at l1
    exact List.length_eq_zero_iff.mp l1.symm
  · subst z
    cases hy
    rw [List.append_nil] at q
    exact q _ _ (Same.refl _) (.tup hp hx)
  · exact q _ _ (same_new ht) (.tup upd_same ((hx.append hy).mono (tx_same (same_new ht))))
/-! dict.update -/
def rUpdate : V → List V → Hp → VK → Prop := fun x xs H Q => ∃ (a b : Addr) (kvs more : List (Key × V)), x = .ref a ∧ xs = [.ref b] ∧ a ≠ b ∧ H a = some (.dK kvs) ∧ H b = some (.dK more) ∧ kvs.length + more.length ≤ 10000000 ∧ Q .non (upd H a (.dK (mergeK kvs more)))
theorem mt_update : MtR X "dict.update" rUpdate := by
  intro pins s σ H x xs v us Q I rx rxs h
  obtain ⟨a, b, kvs, more, rfl, rfl, ne, ea, eb, hl, q⟩ := h
  cases rx
  obtain ⟨u, rfl, ru⟩ := rxs.one
  cases ru
  obtain ⟨z1, hd1, vs1, r1, dd1⟩ := dk_of I.hok ea
  obtain ⟨z2, hd2, vs2, r2, dd2⟩ := dk_of I.hok eb
  have l1 : kvs.length = vs1.length := r1.length
  have l2 : more.length = vs2.length := r2.length
  refine call_meetsIn PySem.F.slot_dict_update dd1.typeIs PySem.F.entry_dict_update (PySem.F.args_dict_update_2 _ _) (meets_dict_update (mixKind X.prog X.w) a b ne hd2)
    ⟨vs1, vs2, dd1, dd2, by rw [sizeLine_eq]; omega, fun h' hmm _ hs => ?_⟩
  refine ⟨.non, _, ?_, rfl, q⟩
  have he : ∃ q, h'.get? a = some q := let ⟨q, _, _, hq, _⟩ := hmm; ⟨q, hq⟩
  exact d_write I (by rw [ea]; exact True.intro) hs he (dk_new (by have := length_mergeK more kvs; rw [sizeLine_eq]; omega) hd1 (r2.merge r1) hmm)
end
end Tr
set_option Elab.async false
set_option linter.all false
set_option maxRecDepth 100000
set_option maxHeartbeats 4000000
/-! comprehensions whose block changes the heap -/
namespace Tr
open PySem PySem.Spec PyProof.Rows L2
section
variable {X : Cx} {e a b c o tg iter elt : Expr} {es rest : List Expr} {sts p q : List Stmt} {σ : St} {H H0 : Hp} {D : Ends} {pos : Pos} {d d1 d2 : PyData} {ds : List PyData} {k k1 k2 : Bool} {i j : Int} {x y : Str}
/-- [elt for x in iter], elt may write: Iv by the new list, the turn, the heap, the items so far -/
theorem w_lcI1 {sc : Scope} {n : Nat} {p1 : Pos} {Q : VK} (hc : X.calm = true) (hN : X.N.Nodup) (ok : BlkOk X.N X.env.scope sc [(x, n)]) (hs : SVt X (.Name x p1) iter σ H ds) (hn : ds.length ≤ 100000) (Iv : Addr → Nat → Hp → List V → Prop)
    (h0 : ∀ H2 D, Same H H2 → H2 D = none → Iv D 0 (upd H2 D (.lst [])) []) (hE : ∀ D i H3 H4 acc, Iv D i H3 acc → Same H3 H4 → Iv D i H4 acc)
    (step : ∀ D i d v H3 acc, ds[i]? = some d → Im H3 v d → H3 D = some (.lst acc) → Iv D i H3 acc → ∀ (s : Shared) (H0 : Hp) (C : Addr) (cl : List (Str × Addr)) (fp : List Addr), WE (X.blk s H0 sc (compEnvC sc cl C X.env) fp) elt ((σ.set n none).set n (some v)) H3 fun u H4 => H4 D = some (.lst acc) ∧ Tx H3 H4 ∧ Iv D (i + 1) (upd H4 D (.lst (acc ++ [u]))) (acc ++ [u]))
    (q : ∀ D H' acc, H D = none → Tx H H' → H' D = some (.lst acc) → acc.length = ds.length → Iv D ds.length H' acc → Q (.ref D) H')
    (hi : X.N[n]? = some x := by rfl) (hx : Loc (relabel sc X.env) x := by first | exact Or.inl rfl | exact Or.inr rfl) (hf : (sc.names.lookup x == some .cell) = true ∨ (relabel sc X.env).names.lookup x = some .local := by first | exact .inr rfl | exact .inl rfl)
    (hss : ∀ x, foldedSetIterable iter X.env x = pure x := by intro _; rfl) :
    WE X (.ListComp elt [⟨.Name x p1, iter, [], 0⟩] sc pos) σ H Q :=
  w_lc [(x, n)] hc hN ok (fun s H0 C cl fp => pg_name (i := n) hN hi hx hf) (by
    refine hs _ fun J H2 G YY s2 w hG hY => ?_
    intro D hD
    refine lc_it w (fun i H3 => i ≤ ds.length ∧ Tx H2 H3 ∧ ∃ acc, acc.length = i ∧ H3 D = some (.lst acc) ∧ Iv D i H3 acc) ⟨Nat.zero_le _, tx_same (same_new hD), [], rfl, upd_same, h0 H2 D s2 hD⟩ (fun i H3 _ h => hG H3 h.2.1) ?_ ?_
    · intro i v H3 H4 hlt ⟨hle, t3, acc, hl, hacc, iv⟩ hy
      obtain ⟨s4, d, hd, im⟩ := hY i H3 v H4 hlt t3 hy
      refine ⟨by show ((σ.set n none).set n (some v)).set n none = σ.set n none; rw [List.set_set, List.set_set], ?_⟩
      unfold BTs tYes
      refine iteT fun s H0 C cl fp => (step D i d v H4 acc hd im (s4 _ _ hacc) (hE _ _ _ _ _ iv s4) s H0 C cl fp).mono fun u H5 ⟨e5, t5, iv5⟩ => ?_
      refine ⟨acc, e5, Nat.lt_of_le_of_lt (show acc.length ≤ 100000 by omega) (by decide), hlt, ?_, acc ++ [u], by rw [List.length_append, hl]; rfl, upd_same, iv5⟩
      exact ((t3.trans (tx_same s4)).trans t5).trans (tx_mut (Tx.refl _) fun xs z => by rw [e5] at z; cases z)
    · intro H3 ⟨_, t3, acc, hl, hacc, iv⟩
      exact q D H3 acc (s2.free hD) ((tx_same s2).trans t3) hacc hl iv) hss
/-- l.clear() -/
theorem w_clear {r : Addr} {vs : List V} {apos : Pos} {Q : VK} (h : ∀ Q : VK, Q (.ref r) H → WE X o σ H Q) (hr : H r = some (.lst vs)) (q : Q .non (upd H r (.lst [])))
    (hbase : attributeBase o "clear" X.env (eval o X.env) = eval o X.env := by rfl) (hline : (apos.endLine == pos.line) = true := by rfl) : WE X (.Call (.Attribute o "clear" apos) [] [] pos) σ H Q :=
  w_bm0 PySem.F.plainAttrs_list PySem.F.slot_list_clear PySem.F.type_list_clear mt_clear (h _ ⟨.inl ⟨rfl, _, SqL.of hr⟩, r, vs, rfl, rfl, hr, q⟩) hbase hline
/-- d.update(e) -/
theorem w_update {r : Addr} {kvs : List (Key × V)} {apos : Pos} {Q : VK} (h : ∀ Q : VK, Q (.ref r) H → WE X o σ H Q) (hr : H r = some (.dK kvs)) (he : WE X e σ H fun v H2 => ∃ b kvs' more, v = .ref b ∧ r ≠ b ∧ H2 r = some (.dK kvs') ∧ H2 b = some (.dK more) ∧ kvs'.length + more.length ≤ 10000000 ∧ Q .non (upd H2 r (.dK (mergeK kvs' more))))
    (hbase : attributeBase o "update" X.env (eval o X.env) = eval o X.env := by rfl)
    (hfew : ((backTo pos (starEach [e] X.env)).all (fun x => !x.1) && (backToKw pos (keywordEach [] X.env)).all (fun x => x.1.isSome)
      && decide (([e] : List Expr).length + ([] : List Keyword).length + (if ([] : List Keyword).isEmpty then 0 else 1) < 30)) = true := by rfl)
    (hline : (apos.endLine == pos.line) = true := by rfl) (hs : starEach [e] X.env = (false, eval e X.env) :: starEach [] X.env := by rfl) : WE X (.Call (.Attribute o "update" apos) [e] [] pos) σ H Q :=
  w_bm (T := "dict") PySem.F.plainAttrs_dict PySem.F.slot_dict_update PySem.F.type_dict_update mt_update (h _ ⟨.inr (.inr (.inl ⟨rfl, .inl ⟨kvs, hr⟩⟩)), wa_cons (he.mono fun v H2 ⟨b, k1, k2, e1, e2, e3, e4, e5, e6⟩ => wa_nil ⟨r, b, k1, k2, rfl, by rw [e1], e2, e3, e4, e5, e6⟩) hs⟩) hbase hfew hline hs rfl
end
end Tr
set_option Elab.async false
set_option linter.all false
set_option maxRecDepth 100000
set_option maxHeartbeats 4000000
/-! name = [.. for ..] -/
namespace Tr
open PySem PySem.Spec PyProof.Rows L2
section
variable {X : Cx} {e a b c o tg iter elt : Expr} {es rest : List Expr} {sts p q : List Stmt} {σ : St} {H H0 : Hp} {D0 : Ends} {pos : Pos} {d d1 d2 : PyData} {ds : List PyData} {k k1 k2 : Bool} {i j : Int} {x y : Str}
theorem ws_lcI1 {sc : Scope} {n m : Nat} {p1 py pos2 : Pos} (hc : X.calm = true) (hN : X.N.Nodup) (ok : BlkOk X.N X.env.scope sc [(x, n)]) (hs : SVt X (.Name x p1) iter σ H ds) (hn : ds.length ≤ 100000) (Iv : Addr → Nat → Hp → List V → Prop)
    (h0 : ∀ H2 D, Same H H2 → H2 D = none → Iv D 0 (upd H2 D (.lst [])) []) (hE : ∀ D i H3 H4 acc, Iv D i H3 acc → Same H3 H4 → Iv D i H4 acc)
    (step : ∀ D i d v H3 acc, ds[i]? = some d → Im H3 v d → H3 D = some (.lst acc) → Iv D i H3 acc → ∀ (s : Shared) (H0 : Hp) (C : Addr) (cl : List (Str × Addr)) (fp : List Addr), WE (X.blk s H0 sc (compEnvC sc cl C X.env) fp) elt ((σ.set n none).set n (some v)) H3 fun u H4 => H4 D = some (.lst acc) ∧ Tx H3 H4 ∧ Iv D (i + 1) (upd H4 D (.lst (acc ++ [u]))) (acc ++ [u]))
    (q : ∀ D H' acc, H D = none → Tx H H' → H' D = some (.lst acc) → acc.length = ds.length → Iv D ds.length H' acc → WS X sts D0 (σ.set m (some (.ref D))) H')
    (hi : X.N[n]? = some x := by rfl) (hx : Loc (relabel sc X.env) x := by first | exact Or.inl rfl | exact Or.inr rfl) (hf : (sc.names.lookup x == some .cell) = true ∨ (relabel sc X.env).names.lookup x = some .local := by first | exact .inr rfl | exact .inl rfl)
    (hm : X.N[m]? = some y := by rfl) (hy : X.env.scope.names.lookup y = some .local := by rfl) (hsw : swapsWith (.ListComp elt [⟨.Name x p1, iter, [], 0⟩] sc pos2) (some (.Name y py)) pos.line X.env = pure true := by rfl)
    (hss : ∀ x, foldedSetIterable iter X.env x = pure x := by intro _; rfl) :
    WS X (.Assign [.Name y py] (.ListComp elt [⟨.Name x p1, iter, [], 0⟩] sc pos2) pos :: sts) D0 σ H :=
  ws_lc (i := m) [(x, n)] hc hN ok (fun s H0 C cl fp => pg_name (i := n) hN hi hx hf) hsw (by
    refine hs _ fun J H2 G YY s2 w hG hY => ?_
    intro D hD
    refine lc_it w (fun i H3 => i ≤ ds.length ∧ Tx H2 H3 ∧ ∃ acc, acc.length = i ∧ H3 D = some (.lst acc) ∧ Iv D i H3 acc) ⟨Nat.zero_le _, tx_same (same_new hD), [], rfl, upd_same, h0 H2 D s2 hD⟩ (fun i H3 _ h => hG H3 h.2.1) ?_ ?_
    · intro i v H3 H4 hlt ⟨hle, t3, acc, hl, hacc, iv⟩ hy
      obtain ⟨s4, d, hd, im⟩ := hY i H3 v H4 hlt t3 hy
      refine ⟨by show ((σ.set n none).set n (some v)).set n none = σ.set n none; rw [List.set_set, List.set_set], ?_⟩
      unfold BTs tYes
      refine iteT fun s H0 C cl fp => (step D i d v H4 acc hd im (s4 _ _ hacc) (hE _ _ _ _ _ iv s4) s H0 C cl fp).mono fun u H5 ⟨e5, t5, iv5⟩ => ?_
      refine ⟨acc, e5, Nat.lt_of_le_of_lt (show acc.length ≤ 100000 by omega) (by decide), hlt, ?_, acc ++ [u], by rw [List.length_append, hl]; rfl, upd_same, iv5⟩
      exact ((t3.trans (tx_same s4)).trans t5).trans (tx_mut (Tx.refl _) fun xs z => by rw [e5] at z; cases z)
    · intro H3 ⟨_, t3, acc, hl, hacc, iv⟩
      exact q D H3 acc (s2.free hD) ((tx_same s2).trans t3) hacc hl iv) hm hy hss
theorem ws_lcA1 {sc : Scope} {ifs : List Expr} {n m : Nat} {p1 py pos2 : Pos} (tst : PyData → Bool) (f : PyData → PyData) (hc : X.calm = true) (hN : X.N.Nodup) (ok : BlkOk X.N X.env.scope sc [(x, n)]) (hs : SV X (.Name x p1) iter σ H ds) (hn : ds.length ≤ 100000)
    (ht : ∀ H3 d v, d ∈ ds → Same H H3 → Im H3 v d → TAbs X sc ifs ((σ.set n none).set n (some v)) H3 (tst d))
    (he : ∀ H3 d v, d ∈ ds → Same H H3 → Im H3 v d → tst d = true → DAb X sc elt ((σ.set n none).set n (some v)) H3 (f d))
    (q : ∀ p ws H', H p = none → Same H H' → H' p = some (.lst ws) → ImAll H' ws (comp tst f ds) → WS X sts D0 (σ.set m (some (.ref p))) H')
    (hi : X.N[n]? = some x := by rfl) (hx : Loc (relabel sc X.env) x := by first | exact Or.inl rfl | exact Or.inr rfl) (hf : (sc.names.lookup x == some .cell) = true ∨ (relabel sc X.env).names.lookup x = some .local := by first | exact .inr rfl | exact .inl rfl)
    (hm : X.N[m]? = some y := by rfl) (hy : X.env.scope.names.lookup y = some .local := by rfl) (hsw : swapsWith (.ListComp elt [⟨.Name x p1, iter, ifs, 0⟩] sc pos2) (some (.Name y py)) pos.line X.env = pure true := by rfl)
    (hss : ∀ x, foldedSetIterable iter X.env x = pure x := by intro _; rfl) :
    WS X (.Assign [.Name y py] (.ListComp elt [⟨.Name x p1, iter, ifs, 0⟩] sc pos2) pos :: sts) D0 σ H :=
  ws_lc (i := m) [(x, n)] hc hN ok (fun s H0 C cl fp => pg_name (i := n) hN hi hx hf) hsw
    (lc_at (fun d σ2 H3 => ∃ v, σ2 = (σ.set n none).set n (some v) ∧ Im H3 v d) tst f hs hn
      (fun H3 v d iv hm t K k => k _ (by show ((σ.set n none).set n (some v)).set n none = σ.set n none; rw [List.set_set, List.set_set]) ⟨v, rfl, iv⟩)
      (fun d σ2 H3 H4 ⟨v, e, iv⟩ t => ⟨v, e, iv.mono (tx_same t)⟩)
      (fun H3 d σ2 hm t ⟨v, e, iv⟩ => by subst e; exact ht H3 d v hm t iv)
      (fun H3 d σ2 hm t ⟨v, e, iv⟩ hd => by subst e; exact he H3 d v hm t iv hd) q) hm hy hss
end
end Tr
set_option Elab.async false
set_option linter.all false
set_option maxRecDepth 100000
set_option maxHeartbeats 4000000
/-! data as trees: what a value stands for, with the places that may be written (its footprint) -/
namespace Dn
open PySem PySem.Spec PyProof.Rows L2 Tr
inductive D where
  | non | bl (b : Bool) | int (i : Int) | str (x : Str) | ptr (n : Nat)
  /-- a list that is never written -/
  | frz (ns : List Int)
  /-- a table of the top -/
  | tab (kvs : List (Str × V))
  /-- given away -/
  | gone
  | tup (ds : List D) | lst (ds : List D) | dic (kvs : List (Key × D)) | ins (C : Addr) (fs : List (Str × D))
/-- what is fixed: the written part, the world -/
structure Ct where
  K : PySem.W.Frag
  w : World
def SqF (K : PySem.W.Frag) (H : Hp) (a : Addr) (xs : List V) : Prop := (∃ o, H a = some (.frz o (.lst xs))) ∨ ∀ H', SqL K H' a xs
theorem SqF.sq {K : PySem.W.Frag} {H : Hp} {a : Addr} {xs : List V} (h : SqF K H a xs) : SqL K H a xs := by
  rcases h with ⟨o, h⟩ | h
  · exact .inl (.inr ⟨o, h⟩)
  · exact h H
mutual
inductive Rep (c : Ct) (m : List Addr) (H : Hp) : V → D → List Addr → Prop
  | non : Rep c m H .non .non []
  | bl (b : Bool) : Rep c m H (.bl b) (.bl b) []
  | int (i : Int) : Rep c m H (.int i) (.int i) []
  | str (x : Str) : Rep c m H (.str x) (.str x) []
  | ptr {n : Nat} {a : Addr} : m[n]? = some a → Rep c m H (.ref a) (.ptr n) []
  | frz {a : Addr} {ns : List Int} : SqF c.K H a (ns.map V.int) → Rep c m H (.ref a) (.frz ns) []
  | tab {a : Addr} {kvs : List (Str × V)} : STab c.K c.w a kvs → kvs.all (fun q => scal1 q.2) = true → Rep c m H (.ref a) (.tab kvs) []
  | gone (v : V) : Rep c m H v .gone []
  | tup {a : Addr} {xs : List V} {ds : List D} {F : List Addr} : SqT c.K H a xs → RepL c m H xs ds F → Rep c m H (.ref a) (.tup ds) F
  | lst {a : Addr} {xs : List V} {ds : List D} {F : List Addr} : H a = some (.lst xs) → RepL c m H xs ds F → Rep c m H (.ref a) (.lst ds) (a :: F)
  | dic {a : Addr} {kvs : List (Key × D)} {kx : List (Key × V)} {F : List Addr} : H a = some (.dK kx) → kx.map Prod.fst = kvs.map Prod.fst → (kvs.map Prod.fst).Nodup → RepL c m H (kx.map Prod.snd) (kvs.map Prod.snd) F → Rep c m H (.ref a) (.dic kvs) (a :: F)
  | ins {a C dx : Addr} {fs : List (Str × D)} {fx : List (Str × V)} {F : List Addr} : H a = some (.ins C dx fx) → H dx = some (.own a) → fx.map Prod.fst = fs.map Prod.fst → RepL c m H (fx.map Prod.snd) (fs.map Prod.snd) F → Rep c m H (.ref a) (.ins C fs) (a :: dx :: F)
inductive RepL (c : Ct) (m : List Addr) (H : Hp) : List V → List D → List Addr → Prop
  | nil : RepL c m H [] [] []
  | cons {v : V} {vs : List V} {d : D} {ds : List D} {F G : List Addr} : Rep c m H v d F → RepL c m H vs ds G → RepL c m H (v :: vs) (d :: ds) (F ++ G)
end
/-- what may change -/
def isMut : HO → Bool
  | .lst _ => true
  | .dK _ => true
  | .ins _ _ _ => true
  | .own _ => true
  | _ => false
def MutAt (H : Hp) (a : Addr) : Prop := ∃ o, H a = some o ∧ isMut o = true
/-- all but F stands -/
def Kp (F : List Addr) (H H' : Hp) : Prop := ∀ a o, H a = some o → a ∉ F → H' a = some o
theorem Kp.refl (F : List Addr) (H : Hp) : Kp F H H := fun _ _ h _ => h
theorem kp_same {F : List Addr} {H H' : Hp} (s : Same H H') : Kp F H H' := fun a o h _ => s a o h
theorem same_kp {H H' : Hp} (s : Kp [] H H') : Same H H' := fun a o h => s a o h (by simp)
variable {c : Ct} {m m' : List Addr} {H H' : Hp}
mutual
theorem Rep.mut : ∀ {v : V} {d : D} {F : List Addr}, Rep c m H v d F → ∀ a ∈ F, MutAt H a
  | _, _, _, .non, a, h => by simp at h
  | _, _, _, .bl _, a, h => by simp at h
  | _, _, _, .int _, a, h => by simp at h
  | _, _, _, .str _, a, h => by simp at h
  | _, _, _, .ptr _, a, h => by simp at h
  | _, _, _, .frz _, a, h => by simp at h
  | _, _, _, .tab _ _, a, h => by simp at h
  | _, _, _, .gone _, a, h => by simp at h
  | _, _, _, .tup _ r, a, h => RepL.mut r a h
  | _, _, _, .lst e r, a, h => by
    rcases List.mem_cons.mp h with z | z
    · subst z; exact ⟨_, e, rfl⟩
    · exact RepL.mut r a z
  | _, _, _, .dic e _ _ r, a, h => by
    rcases List.mem_cons.mp h with z | z
    · subst z; exact ⟨_, e, rfl⟩
    · exact RepL.mut r a z
  | _, _, _, .ins e e2 _ r, a, h => by
    rcases List.mem_cons.mp h with z | z
    · subst z; exact ⟨_, e, rfl⟩
    · rcases List.mem_cons.mp z with z | z
      · subst z; exact ⟨_, e2, rfl⟩
      · exact RepL.mut r a z
theorem RepL.mut : ∀ {vs : List V} {ds : List D} {F : List Addr}, RepL c m H vs ds F → ∀ a ∈ F, MutAt H a
  | _, _, _, .nil, a, h => by simp at h
  | _, _, _, .cons r t, a, h => by
    rcases List.mem_append.mp h with z | z
    · exact Rep.mut r a z
    · exact RepL.mut t a z
end
theorem sqT_keep {F0 : List Addr} {a : Addr} {xs : List V} (k : Kp F0 H H') (hm : ∀ a ∈ F0, MutAt H a) (h : SqT c.K H a xs) : SqT c.K H' a xs := by
  rcases h with (h | ⟨o, h⟩) | h
  · exact .inl (.inl (k a _ h fun z => by
      obtain ⟨u, e, hu⟩ := hm a z
      rw [h] at e; cases e; cases hu))
  · exact .inl (.inr ⟨o, k a _ h fun z => by
      obtain ⟨u, e, hu⟩ := hm a z
      rw [h] at e; cases e; cases hu⟩)
  · exact .inr h
theorem sqF_keep {F0 : List Addr} {a : Addr} {xs : List V} (k : Kp F0 H H') (hm : ∀ a ∈ F0, MutAt H a) (h : SqF c.K H a xs) : SqF c.K H' a xs := by
  rcases h with ⟨o, e⟩ | h
  · exact .inl ⟨o, k _ _ e fun z => by
      obtain ⟨u, e', hu⟩ := hm _ z
      rw [e] at e'; cases e'; cases hu⟩
  · exact .inr h
mutual
/-- what stands apart from the places that change stays -/
theorem Rep.keep {F0 : List Addr} (k : Kp F0 H H') (hm : ∀ a ∈ F0, MutAt H a) (pm : ∀ (n : Nat) (a : Addr), m[n]? = some a → m'[n]? = some a) : ∀ {v : V} {d : D} {F : List Addr}, Rep c m H v d F → (∀ a ∈ F, a ∉ F0) → Rep c m' H' v d F
  | _, _, _, .non, _ => .non
  | _, _, _, .bl b, _ => .bl b
  | _, _, _, .int b, _ => .int b
  | _, _, _, .str b, _ => .str b
  | _, _, _, .ptr e, _ => .ptr (pm _ _ e)
  | _, _, _, .frz e, _ => .frz (sqF_keep k hm e)
  | _, _, _, .tab e a, _ => .tab e a
  | _, _, _, .gone v, _ => .gone v
  | _, _, _, .tup e r, h => .tup (sqT_keep k hm e) (RepL.keep k hm pm r h)
  | _, _, _, .lst e r, h => .lst (k _ _ e (h _ (by simp))) (RepL.keep k hm pm r fun a z => h a (by simp [z]))
  | _, _, _, .dic e e2 e3 r, h => .dic (k _ _ e (h _ (by simp))) e2 e3 (RepL.keep k hm pm r fun a z => h a (by simp [z]))
  | _, _, _, .ins e e1 e2 r, h => .ins (k _ _ e (h _ (by simp))) (k _ _ e1 (h _ (by simp))) e2 (RepL.keep k hm pm r fun a z => h a (by simp [z]))
theorem RepL.keep {F0 : List Addr} (k : Kp F0 H H') (hm : ∀ a ∈ F0, MutAt H a) (pm : ∀ (n : Nat) (a : Addr), m[n]? = some a → m'[n]? = some a) : ∀ {vs : List V} {ds : List D} {F : List Addr}, RepL c m H vs ds F → (∀ a ∈ F, a ∉ F0) → RepL c m' H' vs ds F
  | _, _, _, .nil, _ => .nil
  | _, _, _, .cons r t, h => .cons (Rep.keep k hm pm r fun a z => h a (by simp [z])) (RepL.keep k hm pm t fun a z => h a (by simp [z]))
end
theorem Rep.same {v : V} {d : D} {F : List Addr} (r : Rep c m H v d F) (s : Same H H') : Rep c m H' v d F := r.keep (F0 := []) (kp_same s) (by simp) (fun _ _ h => h) (by simp)
theorem RepL.same {v : List V} {d : List D} {F : List Addr} (r : RepL c m H v d F) (s : Same H H') : RepL c m H' v d F := r.keep (F0 := []) (kp_same s) (by simp) (fun _ _ h => h) (by simp)
mutual
/-- data without lists, dicts, objects -/
def D.imm : D → Bool
  | .non => true
  | .bl _ => true
  | .int _ => true
  | .str _ => true
  | .ptr _ => true
  | .frz _ => true
  | .tab _ => true
  | .gone => false
  | .tup ds => immL ds
  | .lst _ => false
  | .dic _ => false
  | .ins _ _ => false
def immL : List D → Bool
  | [] => true
  | d :: r => d.imm && immL r
end
mutual
theorem Rep.imm : ∀ {v : V} {d : D} {F : List Addr}, Rep c m H v d F → d.imm = true → F = []
  | _, _, _, .non, _ => rfl
  | _, _, _, .bl _, _ => rfl
  | _, _, _, .int _, _ => rfl
  | _, _, _, .str _, _ => rfl
  | _, _, _, .ptr _, _ => rfl
  | _, _, _, .frz _, _ => rfl
  | _, _, _, .tab _ _, _ => rfl
  | _, _, _, .gone _, h => by simp [D.imm] at h
  | _, _, _, .tup _ r, h => RepL.imm r (by simpa [D.imm] using h)
  | _, _, _, .lst _ _, h => by simp [D.imm] at h
  | _, _, _, .dic _ _ _ _, h => by simp [D.imm] at h
  | _, _, _, .ins _ _ _ _, h => by simp [D.imm] at h
theorem RepL.imm : ∀ {vs : List V} {ds : List D} {F : List Addr}, RepL c m H vs ds F → immL ds = true → F = []
  | _, _, _, .nil, _ => rfl
  | _, _, _, .cons r t, h => by
    rw [immL, Bool.and_eq_true] at h
    rw [Rep.imm r h.1, RepL.imm t h.2]
    rfl
end
theorem RepL.length : ∀ {vs : List V} {ds : List D} {F : List Addr}, RepL c m H vs ds F → vs.length = ds.length
  | _, _, _, .nil => rfl
  | _, _, _, .cons _ t => by rw [List.length_cons, List.length_cons, t.length]
theorem RepL.append : ∀ {vs ws : List V} {ds es : List D} {F G : List Addr}, RepL c m H vs ds F → RepL c m H ws es G → RepL c m H (vs ++ ws) (ds ++ es) (F ++ G)
  | _, _, _, _, _, _, .nil, s => s
  | _, _, _, _, _, _, .cons r t, s => by rw [List.append_assoc]; exact .cons r (RepL.append t s)
theorem RepL.one {v : V} {d : D} {F : List Addr} (r : Rep c m H v d F) : RepL c m H [v] [d] F := by
  have := RepL.cons r .nil
  rwa [List.append_nil] at this
/-- one of them, and the rest around -/
theorem RepL.get : ∀ {vs : List V} {ds : List D} {F : List Addr} {i : Nat} {d : D}, RepL c m H vs ds F → ds[i]? = some d → ∃ v A B G, vs[i]? = some v ∧ F = A ++ (G ++ B) ∧ Rep c m H v d G ∧ RepL c m H (vs.take i) (ds.take i) A ∧ RepL c m H (vs.drop (i + 1)) (ds.drop (i + 1)) B
  | _, _, _, _, _, .nil, e => by simp at e
  | _, _, _, 0, _, .cons r t, e => by
    simp at e
    subst e
    exact ⟨_, [], _, _, rfl, rfl, r, .nil, t⟩
  | _, _, _, i + 1, d, .cons r t, e => by
    obtain ⟨v, A, B, G, h1, h2, h3, h4, h5⟩ := RepL.get (i := i) (d := d) t (by simpa using e)
    exact ⟨v, _ ++ A, B, G, by simpa using h1, by rw [h2, List.append_assoc], h3, .cons r h4, h5⟩
theorem RepL.getV : ∀ {vs : List V} {ds : List D} {F : List Addr} {i : Nat} {v : V}, RepL c m H vs ds F → vs[i]? = some v → ∃ d, ds[i]? = some d
  | _, _, _, _, _, .nil, e => by simp at e
  | _, _, _, 0, _, .cons r t, e => ⟨_, rfl⟩
  | _, _, _, i + 1, d, .cons r t, e => by
    obtain ⟨d, h⟩ := RepL.getV (i := i) t (by simpa using e)
    exact ⟨d, by simpa using h⟩
theorem RepL.drop : ∀ {vs : List V} {ds : List D} {F : List Addr} (n : Nat), RepL c m H vs ds F → ∃ G, RepL c m H (vs.drop n) (ds.drop n) G ∧ ∃ A, F = A ++ G
  | _, _, F, 0, h => ⟨F, h, [], rfl⟩
  | _, _, _, _ + 1, .nil => ⟨[], .nil, [], rfl⟩
  | _, _, _, n + 1, .cons _ t => by
    obtain ⟨G, h, A, e⟩ := RepL.drop n t
    exact ⟨G, h, _ ++ A, by rw [e, List.append_assoc]⟩
theorem RepL.take : ∀ {vs : List V} {ds : List D} {F : List Addr} (n : Nat), RepL c m H vs ds F → ∃ G, RepL c m H (vs.take n) (ds.take n) G ∧ ∃ A, F = G ++ A
  | _, _, F, 0, h => ⟨[], .nil, F, rfl⟩
  | _, _, _, _ + 1, .nil => ⟨[], .nil, [], rfl⟩
  | _, _, _, n + 1, .cons r t => by
    obtain ⟨G, h, A, e⟩ := RepL.take n t
    exact ⟨_, .cons r h, A, by rw [e, List.append_assoc]⟩
theorem RepL.mem_sub {vs : List V} {ds : List D} {F : List Addr} (r : RepL c m H vs ds F) {d : D} (h : d ∈ ds) : ∃ v G, v ∈ vs ∧ Rep c m H v d G ∧ ∀ a ∈ G, a ∈ F := by
  obtain ⟨i, hi, e⟩ := List.mem_iff_getElem.mp h
  obtain ⟨v, A, B, G, h1, h2, h3, _⟩ := r.get (i := i) (d := d) (by rw [List.getElem?_eq_getElem hi, e])
  exact ⟨v, G, List.mem_of_getElem? h1, h3, fun a z => by rw [h2]; simp [z]⟩
/-! inversions -/
theorem rep_int {v : V} {i : Int} {F : List Addr} (h : Rep c m H v (.int i) F) : v = .int i ∧ F = [] := by cases h; exact ⟨rfl, rfl⟩
theorem rep_str {v : V} {i : Str} {F : List Addr} (h : Rep c m H v (.str i) F) : v = .str i ∧ F = [] := by cases h; exact ⟨rfl, rfl⟩
theorem rep_bl {v : V} {i : Bool} {F : List Addr} (h : Rep c m H v (.bl i) F) : v = .bl i ∧ F = [] := by cases h; exact ⟨rfl, rfl⟩
theorem rep_non {v : V} {F : List Addr} (h : Rep c m H v .non F) : v = .non ∧ F = [] := by cases h; exact ⟨rfl, rfl⟩
theorem rep_tup {v : V} {ds : List D} {F : List Addr} (h : Rep c m H v (.tup ds) F) : ∃ a xs, v = .ref a ∧ SqT c.K H a xs ∧ RepL c m H xs ds F := by cases h with | tup e r => exact ⟨_, _, rfl, e, r⟩
theorem rep_lst {v : V} {ds : List D} {F : List Addr} (h : Rep c m H v (.lst ds) F) : ∃ a xs G, v = .ref a ∧ F = a :: G ∧ H a = some (.lst xs) ∧ RepL c m H xs ds G := by cases h with | lst e r => exact ⟨_, _, _, rfl, rfl, e, r⟩
theorem rep_frz {v : V} {ns : List Int} {F : List Addr} (h : Rep c m H v (.frz ns) F) : ∃ a, v = .ref a ∧ F = [] ∧ SqF c.K H a (ns.map V.int) := by cases h with | frz e => exact ⟨_, rfl, rfl, e⟩
theorem rep_tab {v : V} {kvs : List (Str × V)} {F : List Addr} (h : Rep c m H v (.tab kvs) F) : ∃ a, v = .ref a ∧ F = [] ∧ STab c.K c.w a kvs ∧ kvs.all (fun q => scal1 q.2) = true := by cases h with | tab e e2 => exact ⟨_, rfl, rfl, e, e2⟩
theorem rep_ptr {v : V} {n : Nat} {F : List Addr} (h : Rep c m H v (.ptr n) F) : ∃ a, v = .ref a ∧ F = [] ∧ m[n]? = some a := by cases h with | ptr e => exact ⟨_, rfl, rfl, e⟩
theorem rep_dic {v : V} {kvs : List (Key × D)} {F : List Addr} (h : Rep c m H v (.dic kvs) F) : ∃ a kx G, v = .ref a ∧ F = a :: G ∧ H a = some (.dK kx) ∧ kx.map Prod.fst = kvs.map Prod.fst ∧ (kvs.map Prod.fst).Nodup ∧ RepL c m H (kx.map Prod.snd) (kvs.map Prod.snd) G := by cases h with | dic e e2 e3 r => exact ⟨_, _, _, rfl, rfl, e, e2, e3, r⟩
theorem rep_ins {v : V} {C : Addr} {fs : List (Str × D)} {F : List Addr} (h : Rep c m H v (.ins C fs) F) : ∃ a dx fx G, v = .ref a ∧ F = a :: dx :: G ∧ H a = some (.ins C dx fx) ∧ H dx = some (.own a) ∧ fx.map Prod.fst = fs.map Prod.fst ∧ RepL c m H (fx.map Prod.snd) (fs.map Prod.snd) G := by cases h with | ins e e1 e2 r => exact ⟨_, _, _, _, rfl, rfl, e, e1, e2, r⟩
end Dn
set_option Elab.async false
set_option linter.all false
set_option maxRecDepth 100000
set_option maxHeartbeats 4000000
/-! slots and objects, whose they are; ways into data -/
namespace Dn
open PySem PySem.Spec PyProof.Rows L2 Tr
/-! tables by keys -/
section
variable {κ α : Type} [DecidableEq κ]
def glook : List (κ × α) → κ → Option α
  | [], _ => none
  | (k', x) :: r, k => if k' = k then some x else glook r k
def gput : List (κ × α) → κ → α → List (κ × α)
  | [], k, x => [(k, x)]
  | (k', y) :: r, k, x => if k' = k then (k', x) :: r else (k', y) :: gput r k x
theorem g_none {k : κ} : ∀ {ks : List κ}, k ∉ ks → ∀ {kx : List (κ × α)}, kx.map Prod.fst = ks → glook kx k = none ∧ ∀ v, gput kx k v = kx ++ [(k, v)]
  | [], _, [], _ => ⟨rfl, fun _ => rfl⟩
  | [], _, _ :: _, e => by cases e
  | _ :: _, _, [], e => by cases e
  | j :: ks, h, (j', y) :: r, e => by
    rw [List.map_cons] at e
    obtain ⟨e1, e2⟩ := List.cons.inj e
    have e1 : j' = j := e1
    subst e1
    have hj : ¬ j' = k := fun z => h (by simp [z])
    obtain ⟨h1, h2⟩ := g_none (fun z => h (List.mem_cons_of_mem _ z)) e2
    exact ⟨by rw [glook, if_neg hj, h1], fun v => by rw [gput, if_neg hj, h2 v]; rfl⟩
theorem g_some {k : κ} : ∀ {ks : List κ}, k ∈ ks → ∃ i : Nat, ks[i]? = some k ∧ ∀ {α : Type} {kx : List (κ × α)}, kx.map Prod.fst = ks → glook kx k = (kx.map Prod.snd)[i]? ∧ ∀ v, gput kx k v = kx.set i (k, v)
  | [], h => by simp at h
  | j :: ks, h => by
    by_cases hj : j = k
    · subst hj
      refine ⟨0, rfl, fun {α kx} e => ?_⟩
      cases kx with
      | nil => cases e
      | cons p r =>
        obtain ⟨p1, p2⟩ := p
        rw [List.map_cons] at e
        have e1 : p1 = j := (List.cons.inj e).1
        subst e1
        exact ⟨by rw [glook, if_pos rfl]; rfl, fun v => by rw [gput, if_pos rfl]; rfl⟩
    · obtain ⟨i, h1, h2⟩ := g_some (k := k) (ks := ks) (by
        rcases List.mem_cons.mp h with z | z
        · exact absurd z.symm hj
        · exact z)
      refine ⟨i + 1, by simpa using h1, fun {α kx} e => ?_⟩
      cases kx with
      | nil => cases e
      | cons p r =>
        obtain ⟨p1, p2⟩ := p
        rw [List.map_cons] at e
        have e1 : p1 = j := (List.cons.inj e).1
        subst e1
        obtain ⟨h3, h4⟩ := h2 (List.cons.inj e).2
        exact ⟨by rw [glook, if_neg hj, h3]; simp, fun v => by rw [gput, if_neg hj, h4 v]; rfl⟩
theorem g_keys {k : κ} {v : α} {kx : List (κ × α)} : (gput kx k v).map Prod.fst = if k ∈ kx.map Prod.fst then kx.map Prod.fst else kx.map Prod.fst ++ [k] := by
  by_cases h : k ∈ kx.map Prod.fst
  · obtain ⟨i, h1, h2⟩ := g_some h
    rw [if_pos h, (h2 (kx := kx) rfl).2 v, List.map_set]
    obtain ⟨hi, e⟩ := List.getElem?_eq_some_iff.mp h1
    show (kx.map Prod.fst).set i k = kx.map Prod.fst
    rw [← e]
    exact List.set_getElem_self hi
  · rw [if_neg h, (g_none h rfl).2 v, List.map_append]
    rfl
end
theorem valV_g {κ : Type} [DecidableEq κ] (k : κ) : ∀ kx : List (κ × V), valV kx k = glook kx k
  | [] => rfl
  | p :: r => by
    obtain ⟨p1, p2⟩ := p
    by_cases h : p1 = k
    · rw [valV_pos (p := (p1, p2)) h, glook, if_pos h]
    · rw [valV_neg (p := (p1, p2)) h, glook, if_neg h, valV_g k r]
theorem lookup_g (k : Str) : ∀ kx : List (Str × V), kx.lookup k = glook kx k
  | [] => rfl
  | (p1, p2) :: r => by
    by_cases h : p1 = k
    · subst h
      simp [List.lookup, glook]
    · have z : (k == p1) = false := by simpa using fun q => h q.symm
      rw [glook, if_neg h, ← lookup_g k r]
      simp [List.lookup, z]
theorem putF_g (k : Str) (v : V) : ∀ kx : List (Str × V), putF k v kx = gput kx k v
  | [] => rfl
  | (p1, p2) :: r => by rw [putF, gput, putF_g k v r]
theorem putK_g {κ : Type} [DecidableEq κ] (k : κ) (v : V) : ∀ kx : List (κ × V), (kx.map Prod.fst).Nodup → putK kx k v = gput kx k v
  | [], _ => rfl
  | (p1, p2) :: r, hn => by
    rw [List.map_cons, List.nodup_cons] at hn
    by_cases h : p1 = k
    · subst h
      have e : r.map (fun kv => if kv.1 = p1 then (kv.1, v) else kv) = r := by
        have : ∀ q ∈ r, (fun kv : κ × V => if kv.1 = p1 then (kv.1, v) else kv) q = q := fun q hq => by
          show (if q.1 = p1 then (q.1, v) else q) = q
          rw [if_neg]
          intro z
          have y := List.mem_map_of_mem (f := Prod.fst) hq
          rw [z] at y
          exact hn.1 y
        rw [List.map_congr_left this, List.map_id']
      unfold putK
      rw [if_pos (by simp), List.map_cons, e, gput, if_pos rfl]
      simp
    · rw [gput, if_neg h, ← putK_g k v r hn.2]
      unfold putK
      by_cases hr : (r.any fun kv => decide (kv.1 = k)) = true
      · rw [if_pos hr, if_pos (by rw [List.any_cons, hr, Bool.or_true]), List.map_cons]
        simp [h]
      · rw [if_neg hr, if_neg (by rw [List.any_cons, decide_eq_false h, Bool.false_or]; exact hr)]
        rfl
/-! slots -/
inductive Lc where
  /-- not known -/
  | no
  /-- read only -/
  | bor (d : D)
  /-- an argument that is changed in its place -/
  | par (d : D)
  | own (d : D)
structure S where
  loc : List Lc
  obj : List Lc
inductive LE (c : Ct) (m : List Addr) (H : Hp) (F0 : List Addr) : Lc → Option V → List Addr → Prop
  | no (ov : Option V) : LE c m H F0 .no ov []
  | bor {v : V} {d : D} {F : List Addr} : Rep c m H v d F → (∀ a ∈ F, a ∉ F0) → LE c m H F0 (.bor d) (some v) []
  | par {v : V} {d : D} {F : List Addr} : Rep c m H v d F → LE c m H F0 (.par d) (some v) F
  | own {v : V} {d : D} {F : List Addr} : Rep c m H v d F → LE c m H F0 (.own d) (some v) F
inductive LR (c : Ct) (m : List Addr) (H : Hp) (F0 : List Addr) : List Lc → List (Option V) → List Addr → Prop
  | nil : LR c m H F0 [] [] []
  | cons {l : Lc} {ls : List Lc} {o : Option V} {os : List (Option V)} {F G : List Addr} : LE c m H F0 l o F → LR c m H F0 ls os G → LR c m H F0 (l :: ls) (o :: os) (F ++ G)
def oref (m : List Addr) : List (Option V) := m.map fun a => some (V.ref a)
/-- the state is told -/
abbrev Fq := List Addr × List Addr
/-- the places of what is in hand, and of the state -/
abbrev Fq.all (F : Fq) : List Addr := F.1 ++ F.2
def Rl (c : Ct) (m : List Addr) (F0 : Fq) (σ : List (Option V)) (H : Hp) (s : S) : Prop :=
  ∃ F1 F2, F0.2 = F1 ++ F2 ∧ LR c m H F0.all s.loc σ F1 ∧ LR c m H F0.all s.obj (oref m) F2 ∧ F0.all.Nodup ∧ ∀ a ∈ F0.1, MutAt H a
/-- what may have become of owned places -/
structure Ext (F0 : List Addr) (H : Hp) (F1 : List Addr) (H' : Hp) : Prop where
  kp : Kp F0 H H'
  sub : ∀ a ∈ F1, a ∈ F0 ∨ H a = none
theorem Ext.refl (F0 : List Addr) (H : Hp) : Ext F0 H F0 H := ⟨Kp.refl _ _, fun _ h => .inl h⟩
theorem Ext.trans {F0 F1 F2 : List Addr} {H H1 H2 : Hp} (x : Ext F0 H F1 H1) (y : Ext F1 H1 F2 H2) : Ext F0 H F2 H2 :=
  ⟨fun a o e hn => y.kp a o (x.kp a o e hn) fun z => (x.sub a z).elim hn (fun q => by rw [e] at q; cases q),
    fun a h => (y.sub a h).elim (x.sub a) fun q => by
      cases e : H a with
      | none => exact .inr rfl
      | some o =>
        by_cases hz : a ∈ F0
        · exact .inl hz
        · rw [x.kp a o e hz] at q; cases q⟩
theorem Ext.mono {F0 F1 F2 : List Addr} {H H1 : Hp} (x : Ext F0 H F1 H1) (h : ∀ a ∈ F2, a ∈ F1) : Ext F0 H F2 H1 := ⟨x.kp, fun a z => x.sub a (h a z)⟩
theorem Ext.widen {F0 F1 : List Addr} {H H1 : Hp} (x : Ext F0 H F1 H1) {G : List Addr} (h : ∀ a ∈ F0, a ∈ G) : Ext G H F1 H1 := ⟨fun a o e n => x.kp a o e fun z => n (h a z), fun a z => (x.sub a z).elim (fun q => .inl (h a q)) .inr⟩
theorem Ext.same {F0 : List Addr} {H H' : Hp} (s : Same H H') : Ext F0 H F0 H' := ⟨kp_same s, fun _ h => .inl h⟩
section
variable {c : Ct} {m m' F0 F1 F : List Addr} {H H' : Hp} {ls : List Lc} {os : List (Option V)} {l : Lc} {o : Option V}
theorem LE.mut (h : LE c m H F0 l o F) : ∀ a ∈ F, MutAt H a := by
  cases h with
  | no => simp
  | bor _ _ => simp
  | par r => exact r.mut
  | own r => exact r.mut
theorem LR.mut : ∀ {ls : List Lc} {os : List (Option V)} {F : List Addr}, LR c m H F0 ls os F → ∀ a ∈ F, MutAt H a
  | _, _, _, .nil, a, h => by simp at h
  | _, _, _, .cons e t, a, h => (List.mem_append.mp h).elim (e.mut a) (LR.mut t a)
theorem LR.len : ∀ {ls : List Lc} {os : List (Option V)} {F : List Addr}, LR c m H F0 ls os F → ls.length = os.length
  | _, _, _, .nil => rfl
  | _, _, _, .cons e t => by rw [List.length_cons, List.length_cons, t.len]
theorem Rl.mut {F0 : Fq} {σ : List (Option V)} {s : S} (h : Rl c m F0 σ H s) : ∀ a ∈ F0.all, MutAt H a := by
  obtain ⟨F1, F2, e, h1, h2, _, h4⟩ := h
  intro a ha
  rcases List.mem_append.mp ha with ha | ha
  · exact h4 a ha
  · rw [e] at ha
    exact (List.mem_append.mp ha).elim (h1.mut a) (h2.mut a)
theorem Rl.nd {F0 : Fq} {σ : List (Option V)} {s : S} (h : Rl c m F0 σ H s) : F0.all.Nodup := by
  obtain ⟨F1, F2, e, h1, h2, h3, _⟩ := h
  exact h3
theorem MutAt.some {a : Addr} (h : MutAt H a) : H a ≠ none := by
  obtain ⟨o, e, _⟩ := h
  rw [e]
  exact fun z => nomatch z
/-- the places G, none of which these bear, may have changed -/
theorem LE.change {G : List Addr} (h : LE c m H F0 l o F) (k : Kp G H H') (hm : ∀ a ∈ G, MutAt H a) (hG : ∀ a ∈ G, a ∈ F0) (pm : ∀ (n : Nat) (a : Addr), m[n]? = some a → m'[n]? = some a) (hF : ∀ a ∈ F, a ∉ G) (sub : ∀ a ∈ F1, a ∈ F0 ∨ H a = none) : LE c m' H' F1 l o F := by
  cases h with
  | no => exact .no _
  | bor r n => exact .bor (r.keep k hm pm fun a z q => n a z (hG a q)) fun a z q => (sub a q).elim (n a z) fun e => (r.mut a z).some e
  | par r => exact .par (r.keep k hm pm hF)
  | own r => exact .own (r.keep k hm pm hF)
theorem LR.change {G : List Addr} (k : Kp G H H') (hm : ∀ a ∈ G, MutAt H a) (hG : ∀ a ∈ G, a ∈ F0) (pm : ∀ (n : Nat) (a : Addr), m[n]? = some a → m'[n]? = some a) (sub : ∀ a ∈ F1, a ∈ F0 ∨ H a = none) : ∀ {ls : List Lc} {os : List (Option V)} {F : List Addr}, LR c m H F0 ls os F → (∀ a ∈ F, a ∉ G) → LR c m' H' F1 ls os F
  | _, _, _, .nil, _ => .nil
  | _, _, _, .cons e t, hF => .cons (e.change k hm hG pm (fun a z => hF a (by simp [z])) sub) (LR.change k hm hG pm sub t fun a z => hF a (by simp [z]))
theorem LR.same (s : Same H H') (h : LR c m H F0 ls os F) : LR c m H' F0 ls os F := h.change (G := []) (kp_same s) (by simp) (by simp) (fun _ _ h => h) (fun _ h => .inl h) (by simp)
theorem MutAt.same {a : Addr} (x : Same H H') (h : MutAt H a) : MutAt H' a := by
  obtain ⟨o, e, i⟩ := h
  exact ⟨o, x a o e, i⟩
theorem Rl.same {F0 : Fq} {σ : List (Option V)} {s : S} (x : Same H H') (h : Rl c m F0 σ H s) : Rl c m F0 σ H' s := by
  obtain ⟨F1, F2, e, h1, h2, h3, h4⟩ := h
  exact ⟨F1, F2, e, h1.same x, h2.same x, h3, fun a z => (h4 a z).same x⟩
theorem LR.append : ∀ {ls ms : List Lc} {os ps : List (Option V)} {F G : List Addr}, LR c m H F0 ls os F → LR c m H F0 ms ps G → LR c m H F0 (ls ++ ms) (os ++ ps) (F ++ G)
  | _, _, _, _, _, _, .nil, s => s
  | _, _, _, _, _, _, .cons e t, s => by rw [List.append_assoc]; exact .cons e (LR.append t s)
/-- one slot, and the rest around -/
theorem LR.at_ : ∀ {ls : List Lc} {os : List (Option V)} {F : List Addr} {i : Nat} {l : Lc}, LR c m H F0 ls os F → ls[i]? = some l → ∃ o A B G, os[i]? = some o ∧ F = A ++ (G ++ B) ∧ LE c m H F0 l o G ∧ LR c m H F0 (ls.take i) (os.take i) A ∧ LR c m H F0 (ls.drop (i + 1)) (os.drop (i + 1)) B
  | _, _, _, _, _, .nil, e => by simp at e
  | _, _, _, 0, _, .cons r t, e => by
    simp at e
    subst e
    exact ⟨_, [], _, _, rfl, rfl, r, .nil, t⟩
  | _, _, _, i + 1, l, .cons r t, e => by
    obtain ⟨v, A, B, G, h1, h2, h3, h4, h5⟩ := LR.at_ (i := i) (l := l) t (by simpa using e)
    exact ⟨v, _ ++ A, B, G, by simpa using h1, by rw [h2, List.append_assoc], h3, .cons r h4, h5⟩
theorem LR.put {i : Nat} {A B G : List Addr} (hi : i < ls.length) (hl : ls.length = os.length) (a : LR c m H F0 (ls.take i) (os.take i) A) (e : LE c m H F0 l o G) (b : LR c m H F0 (ls.drop (i + 1)) (os.drop (i + 1)) B) : LR c m H F0 (ls.set i l) (os.set i o) (A ++ (G ++ B)) := by
  rw [List.set_eq_take_append_cons_drop, if_pos hi, List.set_eq_take_append_cons_drop, if_pos (by omega)]
  exact a.append (.cons e b)
end
/-! ways into data -/
inductive Step where
  | ix (n : Nat) | key (k : Key) | fld (f : Str)
def D.sub : D → Step → Option D
  | .tup ds, .ix n => ds[n]?
  | .lst ds, .ix n => ds[n]?
  | .dic kvs, .key k => glook kvs k
  | .ins _ fs, .fld f => glook fs f
  | _, _ => none
def D.sup : D → Step → D → D
  | .tup ds, .ix n, x => .tup (ds.set n x)
  | .lst ds, .ix n, x => .lst (ds.set n x)
  | .dic kvs, .key k, x => .dic (gput kvs k x)
  | .ins C fs, .fld f, x => .ins C (gput fs f x)
  | d, _, _ => d
def D.getP : D → List Step → Option D
  | d, [] => some d
  | d, s :: r => match d.sub s with
    | some e => e.getP r
    | none => none
def D.setP : D → List Step → D → D
  | _, [], x => x
  | d, s :: r, x => match d.sub s with
    | some e => d.sup s (e.setP r x)
    | none => d
/-- the same way among values -/
inductive Trav (c : Ct) (H : Hp) : V → List Step → V → Prop
  | nil (v : V) : Trav c H v [] v
  | tup {a : Addr} {xs : List V} {n : Nat} {u v : V} {r : List Step} : SqT c.K H a xs → xs[n]? = some u → Trav c H u r v → Trav c H (.ref a) (.ix n :: r) v
  | lst {a : Addr} {xs : List V} {n : Nat} {u v : V} {r : List Step} : H a = some (.lst xs) → xs[n]? = some u → Trav c H u r v → Trav c H (.ref a) (.ix n :: r) v
  | dic {a : Addr} {kx : List (Key × V)} {k : Key} {u v : V} {r : List Step} : H a = some (.dK kx) → glook kx k = some u → Trav c H u r v → Trav c H (.ref a) (.key k :: r) v
  | ins {a C dx : Addr} {fx : List (Str × V)} {f : Str} {u v : V} {r : List Step} : H a = some (.ins C dx fx) → glook fx f = some u → Trav c H u r v → Trav c H (.ref a) (.fld f :: r) v
/-- what a step finds, by what is there -/
def SF (c : Ct) (H : Hp) (v : V) (d : D) (st : Step) (w : V) : Prop := match d, st with
  | .lst ds, .ix n => ∃ a xs, v = .ref a ∧ H a = some (.lst xs) ∧ xs[n]? = some w ∧ xs.length = ds.length
  | .tup ds, .ix n => ∃ a xs, v = .ref a ∧ SqT c.K H a xs ∧ xs[n]? = some w ∧ xs.length = ds.length
  | .dic _, .key k => ∃ a kx, v = .ref a ∧ H a = some (.dK kx) ∧ glook kx k = some w
  | .ins C _, .fld f => ∃ a dx fx, v = .ref a ∧ H a = some (.ins C dx fx) ∧ glook fx f = some w
  | _, _ => False
/-- one step: the part, what is around it, and how it is put in again -/
theorem rep_lens1 {c : Ct} {m : List Addr} {H : Hp} {v : V} {d d' : D} {F : List Addr} {st : Step} (r : Rep c m H v d F) (e : d.sub st = some d') :
    ∃ v' F' A B, F = A ++ (F' ++ B) ∧ Rep c m H v' d' F' ∧ (∀ π u, Trav c H v' π u → Trav c H v (st :: π) u) ∧ SF c H v d st v' ∧
      (∀ H' m' d'' F'', Kp F' H H' → (∀ (n : Nat) (a : Addr), m[n]? = some a → m'[n]? = some a) → Rep c m' H' v' d'' F'' → F.Nodup → Rep c m' H' v (d.sup st d'') (A ++ (F'' ++ B))) := by
  have nd3 : ∀ {A F' B : List Addr}, (A ++ (F' ++ B)).Nodup → (∀ a ∈ A, a ∉ F') ∧ ∀ a ∈ B, a ∉ F' := fun {A F' B} h => by
    rw [List.nodup_append] at h
    obtain ⟨_, h2, h3⟩ := h
    rw [List.nodup_append] at h2
    exact ⟨fun a ha hf => h3 a ha a (by simp [hf]) rfl, fun a hb hf => h2.2.2 a hf a hb rfl⟩
  have rebuild : ∀ {xs : List V} {ds : List D} {G : List Addr} {i : Nat} {x : D}, RepL c m H xs ds G → ds[i]? = some x → ∃ u F' A B, xs[i]? = some u ∧ G = A ++ (F' ++ B) ∧ Rep c m H u x F' ∧
      ∀ H' m' y F'', Kp F' H H' → (∀ (n : Nat) (a : Addr), m[n]? = some a → m'[n]? = some a) → Rep c m' H' u y F'' → G.Nodup → RepL c m' H' xs (ds.set i y) (A ++ (F'' ++ B)) := fun {xs ds G i x} rr ei => by
    obtain ⟨u, A, B, F', h1, h2, h3, h4, h5⟩ := rr.get ei
    refine ⟨u, F', A, B, h1, h2, h3, fun H' m' y F'' k pm q nd => ?_⟩
    rw [h2] at nd
    obtain ⟨n1, n2⟩ := nd3 nd
    have hi : i < ds.length := (List.getElem?_eq_some_iff.mp ei).1
    have hx : xs = xs.take i ++ u :: xs.drop (i + 1) := by
      have hix : i < xs.length := by rw [rr.length]; exact hi
      have := List.getElem?_eq_some_iff.mp h1
      obtain ⟨_, eu⟩ := this
      rw [← eu]
      simp
    rw [hx, List.set_eq_take_append_cons_drop, if_pos hi]
    exact (h4.keep k h3.mut pm n1).append (.cons q (h5.keep k h3.mut pm n2))
  cases d with
  | tup ds =>
    cases st with
    | ix n =>
      obtain ⟨a, xs, rfl, hs, rr⟩ := rep_tup r
      obtain ⟨u, F', A, B, h1, h2, h3, h4⟩ := rebuild rr e
      refine ⟨u, F', A, B, h2, h3, fun π w t => .tup hs h1 t, ⟨a, xs, rfl, hs, h1, rr.length⟩, fun H' m' y F'' k pm q nd => .tup (sqT_keep k h3.mut hs) (h4 H' m' y F'' k pm q nd)⟩
    | key k => cases e
    | fld f => cases e
  | lst ds =>
    cases st with
    | ix n =>
      obtain ⟨a, xs, G, rfl, rfl, hs, rr⟩ := rep_lst r
      obtain ⟨u, F', A, B, h1, h2, h3, h4⟩ := rebuild rr e
      refine ⟨u, F', a :: A, B, by rw [h2]; rfl, h3, fun π w t => .lst hs h1 t, ⟨a, xs, rfl, hs, h1, rr.length⟩, fun H' m' y F'' k pm q nd => ?_⟩
      have nd' := List.nodup_cons.mp nd
      exact .lst (k a _ hs fun z => nd'.1 (by rw [h2]; simp [z])) (h4 H' m' y F'' k pm q nd'.2)
    | key k => cases e
    | fld f => cases e
  | dic kvs =>
    cases st with
    | key ky =>
      obtain ⟨a, kx, G, rfl, rfl, hs, hk, hn, rr⟩ := rep_dic r
      have e' : glook kvs ky = some d' := e
      by_cases hm : ky ∈ kvs.map Prod.fst
      · obtain ⟨i, hi, hf⟩ := g_some hm
        obtain ⟨l1, l2⟩ := hf (kx := kvs) rfl
        obtain ⟨l3, l4⟩ := hf (kx := kx) hk
        obtain ⟨u, F', A, B, h1, h2, h3, h4⟩ := rebuild rr (by rw [← l1]; exact e')
        refine ⟨u, F', a :: A, B, by rw [h2]; rfl, h3, fun π w t => .dic hs (by rw [l3]; exact h1) t, ⟨a, kx, rfl, hs, by rw [l3]; exact h1⟩, fun H' m' y F'' k pm q nd => ?_⟩
        have nd' := List.nodup_cons.mp nd
        have key : (gput kvs ky y).map Prod.fst = kvs.map Prod.fst := by rw [g_keys, if_pos hm]
        refine .dic (k a _ hs fun z => nd'.1 (by rw [h2]; simp [z])) (by rw [key]; exact hk) (by rw [key]; exact hn) ?_
        rw [l2 y, List.map_set]
        exact h4 H' m' y F'' k pm q nd'.2
      · rw [(g_none hm rfl).1] at e'
        cases e'
    | ix n => cases e
    | fld f => cases e
  | ins C fs =>
    cases st with
    | fld ky =>
      obtain ⟨a, dx, fx, G, rfl, rfl, hs, hd, hk, rr⟩ := rep_ins r
      have e' : glook fs ky = some d' := e
      by_cases hm : ky ∈ fs.map Prod.fst
      · obtain ⟨i, hi, hf⟩ := g_some hm
        obtain ⟨l1, l2⟩ := hf (kx := fs) rfl
        obtain ⟨l3, l4⟩ := hf (kx := fx) hk
        obtain ⟨u, F', A, B, h1, h2, h3, h4⟩ := rebuild rr (by rw [← l1]; exact e')
        refine ⟨u, F', a :: dx :: A, B, by rw [h2]; rfl, h3, fun π w t => .ins hs (by rw [l3]; exact h1) t, ⟨a, dx, fx, rfl, hs, by rw [l3]; exact h1⟩, fun H' m' y F'' k pm q nd => ?_⟩
        have nd' := List.nodup_cons.mp nd
        have nd2 := List.nodup_cons.mp nd'.2
        have key : (gput fs ky y).map Prod.fst = fs.map Prod.fst := by rw [g_keys, if_pos hm]
        refine .ins (k a _ hs fun z => nd'.1 (by rw [h2]; simp [z])) (k dx _ hd fun z => nd2.1 (by rw [h2]; simp [z])) (by rw [key]; exact hk) ?_
        rw [l2 y, List.map_set]
        exact h4 H' m' y F'' k pm q nd2.2
      · rw [(g_none hm rfl).1] at e'
        cases e'
    | ix n => cases e
    | key k => cases e
  | _ => cases e
theorem rep_lens {c : Ct} {m : List Addr} {H : Hp} : ∀ {π : List Step} {v : V} {d d' : D} {F : List Addr}, Rep c m H v d F → d.getP π = some d' →
    ∃ v' F' A B, F = A ++ (F' ++ B) ∧ Rep c m H v' d' F' ∧ Trav c H v π v' ∧
      (∀ H' m' d'' F'', Kp F' H H' → (∀ (n : Nat) (a : Addr), m[n]? = some a → m'[n]? = some a) → Rep c m' H' v' d'' F'' → F.Nodup → Rep c m' H' v (d.setP π d'') (A ++ (F'' ++ B)))
  | [], v, d, d', F, r, e => by
    cases e
    exact ⟨v, F, [], [], by simp, r, .nil v, fun H' m' d'' F'' _ _ q _ => by simpa [D.setP] using q⟩
  | st :: π, v, d, d', F, r, e => by
    rw [D.getP] at e
    cases hs : d.sub st with
    | none => rw [hs] at e; cases e
    | some x =>
      rw [hs] at e
      obtain ⟨u, F1, A1, B1, e1, r1, t1, _, p1⟩ := rep_lens1 r hs
      obtain ⟨w, F2, A2, B2, e2, r2, t2, p2⟩ := rep_lens (π := π) r1 e
      refine ⟨w, F2, A1 ++ A2, B2 ++ B1, by rw [e1, e2]; simp, r2, t1 π w t2, fun H' m' d'' F'' k pm q nd => ?_⟩
      have nd1 : F1.Nodup := by
        rw [e1] at nd
        exact (List.nodup_append.mp (List.nodup_append.mp nd).2.1).1
      have z := p1 H' m' (x.setP π d'') _ (fun a o ha hn => k a o ha fun y => hn (by rw [e2]; simp [y])) pm (p2 H' m' d'' F'' k pm q nd1) nd
      rw [D.setP, hs]
      simpa using z
end Dn
set_option Elab.async false
set_option linter.all false
set_option maxRecDepth 100000
set_option maxHeartbeats 4000000
/-! expressions that change nothing: what they come to -/
namespace Dn
open PySem PySem.Spec PyProof.Rows L2 Tr
abbrev St := L2.St
abbrev PV := S → Option (D × Bool)
abbrev TB := S → Option Bool
def Fresh (H : Hp) (fr : Bool) (F : List Addr) : Prop := fr = true → F.Nodup ∧ ∀ a ∈ F, H a = none
theorem fresh_nil (H : Hp) (fr : Bool) : Fresh H fr [] := fun _ => ⟨List.nodup_nil, by simp⟩
theorem fresh_no {H : Hp} {F : List Addr} : Fresh H false F := fun h => nomatch h
theorem Fresh.back {H H' : Hp} {fr : Bool} {F : List Addr} (s : Same H H') (h : Fresh H' fr F) : Fresh H fr F := fun e => ⟨(h e).1, fun a ha => s.free ((h e).2 a ha)⟩
abbrev ct (X : Cx) : Ct := ⟨X.K, X.w⟩
/-- what is had of a value -/
abbrev VOk (X : Cx) (m : List Addr) (H : Hp) (d : D) (fr : Bool) (Q : VK) : Prop := ∀ v H' F, Same H H' → Rep (ct X) m H' v d F → Fresh H fr F → Q v H'
structure JP (X : Cx) (e : Expr) (p : PV) : Prop where
  run : ∀ (m : List Addr) (F0 : Fq) (σ : St) (H : Hp) (s : S), Rl (ct X) m F0 σ H s → ∀ d fr, p s = some (d, fr) → ∀ Q : VK, VOk X m H d fr Q → WE X e σ H Q
structure JT (X : Cx) (e : Expr) (p : TB) : Prop where
  run : ∀ (m : List Addr) (F0 : Fq) (σ : St) (H : Hp) (s : S), Rl (ct X) m F0 σ H s → ∀ b, p s = some b → ∀ Q : Bool → Hp → Prop, (∀ H', Same H H' → Q b H') → WT X e σ H Q
structure JW (X : Cx) (e : Expr) (p : TB) : Prop where
  run : ∀ (m : List Addr) (F0 : Fq) (σ : St) (H : Hp) (s : S), Rl (ct X) m F0 σ H s → ∀ b, p s = some b → ∀ Q : Bool → Hp → Prop, (∀ H', Same H H' → Q b H') → WW X e σ H Q
/-! constants, names -/
def Lc.dat : Lc → Option D
  | .no => none
  | .bor d => some d
  | .par d => some d
  | .own d => some d
def pVar (i : Nat) : PV := fun s => ((s.loc[i]?).bind Lc.dat).map fun d => (d, false)
def pC (d : D) : PV := fun _ => some (d, true)
section
variable {X : Cx} {e a b c o : Expr} {es rest : List Expr} {pos : Pos} {p q pa pb pc : PV} {t u : TB} {x : Str}
theorem LE.dat {c : Ct} {m F0 F : List Addr} {H : Hp} {l : Lc} {ov : Option V} {d : D} (h : LE c m H F0 l ov F) (e : l.dat = some d) : ∃ v G, ov = some v ∧ Rep c m H v d G := by
  cases h with
  | no => cases e
  | bor r n => cases e; exact ⟨_, _, rfl, r⟩
  | par r => cases e; exact ⟨_, _, rfl, r⟩
  | own r => cases e; exact ⟨_, _, rfl, r⟩
theorem Rl.slot {c : Ct} {m : List Addr} {F0 : Fq} {H : Hp} {σ : St} {s : S} {i : Nat} {d : D} (r : Rl c m F0 σ H s) (e : (s.loc[i]?).bind Lc.dat = some d) : ∃ v G, σ[i]? = some (some v) ∧ Rep c m H v d G := by
  obtain ⟨F1, F2, _, h1, _, _⟩ := r
  cases hl : s.loc[i]? with
  | none => rw [hl] at e; cases e
  | some l =>
    rw [hl] at e
    obtain ⟨ov, A, B, G, ho, _, le, _⟩ := h1.at_ hl
    obtain ⟨v, G', e1, r'⟩ := le.dat e
    exact ⟨v, G', by rw [ho, e1], r'⟩
theorem jp_var (i : Nat) (hN : X.N[i]? = some x := by rfl) (hv : Vis X.env.scope x := by first | exact Or.inl rfl | exact Or.inr (Or.inl rfl) | exact Or.inr (Or.inr rfl)) (hd : (x == ("__debug__" : Str)) = false := by decide)
    (hcd : (x == ("__classdict__" : Str)) = false := by decide) : JP X (.Name x pos) (pVar i) := ⟨fun m F0 σ H s r d fr e Q q => by
  unfold pVar at e
  cases hl : (s.loc[i]?).bind Lc.dat with
  | none => rw [hl] at e; cases e
  | some d' =>
    rw [hl] at e
    cases e
    obtain ⟨v, G, h1, h2⟩ := r.slot hl
    exact w_v i h1 (q v H G (Same.refl _) h2 fresh_no) hN hv hd hcd⟩
theorem jp_int {i : Int} {j : Nat} : JP X (.Constant (.int i) j pos) (pC (.int i)) := ⟨fun m F0 σ H s r d fr e Q q => by cases e; exact w_int (q _ H [] (Same.refl _) (.int i) (fresh_nil _ _))⟩
theorem jp_str {i : Str} {j : Nat} : JP X (.Constant (.str i) j pos) (pC (.str i)) := ⟨fun m F0 σ H s r d fr e Q q => by cases e; exact w_str (q _ H [] (Same.refl _) (.str i) (fresh_nil _ _))⟩
theorem jp_bl {i : Bool} {j : Nat} : JP X (.Constant (.bool i) j pos) (pC (.bl i)) := ⟨fun m F0 σ H s r d fr e Q q => by cases e; exact w_bl (q _ H [] (Same.refl _) (.bl i) (fresh_nil _ _))⟩
theorem jp_non {j : Nat} : JP X (.Constant .none j pos) (pC .non) := ⟨fun m F0 σ H s r d fr e Q q => by cases e; exact w_non (q _ H [] (Same.refl _) .non (fresh_nil _ _))⟩
theorem jp_neg {i : Int} {j : Nat} {p1 : Pos} : JP X (.UnaryOp .USub (.Constant (.int i) j p1) pos) (pC (.int (-i))) := ⟨fun m F0 σ H s r d fr e Q q => by cases e; exact w_neg (q _ H [] (Same.refl _) (.int _) (fresh_nil _ _))⟩
/-- a name of the top, with what it holds -/
structure GC (X : Cx) (x : Str) (d : D) : Prop where
  ex : ∃ (v : V) (u : Value), X.mg x = some u ∧ RelV v u ∧ ∀ m H, Rep (ct X) m H v d []
theorem jp_glo {d : D} (h : GC X x d) (hg : Gl X x := by rfl) (hd : (x == ("__debug__" : Str)) = false := by decide) : JP X (.Name x pos) (pC d) := ⟨fun m F0 σ H s r d' fr e Q q => by
  cases e
  obtain ⟨v, u, h1, h2, h3⟩ := h.ex
  exact w_glob h1 h2 (q v H [] (Same.refl _) (h3 m H) (fresh_nil _ _)) hg hd⟩
/-! two operands -/
def rG (X : Cx) (g : D → D → Option (D × Bool)) : R2 := fun x y H Q => ∃ m d1 d2 F1 F2 d fr, Rep (ct X) m H x d1 F1 ∧ Rep (ct X) m H y d2 F2 ∧ g d1 d2 = some (d, fr) ∧ VOk X m H d fr Q
def OpD (X : Cx) (f : Value → Value → Sem Value) (g : D → D → Option (D × Bool)) : Prop := OpR X f (rG X g)
theorem OpD.mk {f : Value → Value → Sem Value} {g : D → D → Option (D × Bool)} {r : R2} (h : OpR X f r) (k : ∀ m H x y d1 d2 F1 F2 d fr Q, Rep (ct X) m H x d1 F1 → Rep (ct X) m H y d2 F2 → g d1 d2 = some (d, fr) → VOk X m H d fr Q → r x y H Q) : OpD X f g :=
  fun pins s σ H x y v u Q I rx ry ⟨m, d1, d2, F1, F2, d, fr, h1, h2, h3, h4⟩ => h pins s σ H x y v u Q I rx ry (k m H x y d1 d2 F1 F2 d fr Q h1 h2 h3 h4)
def pOp (g : D → D → Option (D × Bool)) (pa pb : PV) : PV := fun s => match pa s with
  | some (x, _) => match pb s with
    | some (y, _) => g x y
    | none => none
  | none => none
theorem pOp_inv {g : D → D → Option (D × Bool)} {s : S} {r : D × Bool} (e : pOp g pa pb s = some r) : ∃ x f1 y f2, pa s = some (x, f1) ∧ pb s = some (y, f2) ∧ g x y = some r := by
  unfold pOp at e
  split at e
  · rename_i x f1 h1
    split at e
    · rename_i y f2 h2
      exact ⟨x, f1, y, f2, h1, h2, e⟩
    · cases e
  · cases e
theorem two (ha : JP X a pa) (hb : JP X b pb) {m : List Addr} {F0 : Fq} {σ : St} {H : Hp} {s : S} (r : Rl (ct X) m F0 σ H s) {x y : D} {f1 f2 : Bool} (e1 : pa s = some (x, f1)) (e2 : pb s = some (y, f2)) {R : V → V → Hp → Prop}
    (k : ∀ u v H' F1 F2, Same H H' → Rep (ct X) m H' u x F1 → Rep (ct X) m H' v y F2 → Fresh H f1 F1 → Fresh H f2 F2 → (f1 = true → f2 = true → (F1 ++ F2).Nodup) → R u v H') : WE X a σ H fun u H1 => WE X b σ H1 fun v H2 => R u v H2 :=
  ha.run m F0 σ H s r x f1 e1 _ fun u H1 F1 s1 r1 n1 => hb.run m F0 σ H1 s (r.same s1) y f2 e2 _ fun v H2 F2 s2 r2 n2 => k u v H2 F1 F2 (s1.trans s2) (r1.same s2) r2 n1 (n2.back s1) fun t1 t2 => by
    rw [List.nodup_append]
    refine ⟨(n1 t1).1, (n2 t2).1, fun a ha b hb z => ?_⟩
    subst z
    exact (r1.mut a ha).some ((n2 t2).2 a hb)
theorem jp_op {op : Operator} {g : D → D → Option (D × Bool)} (ho : OpD X (binaryOp op) g) (ha : JP X a pa) (hb : JP X b pb) : JP X (.BinOp a op b pos) (pOp g pa pb) := ⟨fun m F0 σ H s r d fr e Q q => by
  obtain ⟨x, f1, y, f2, e1, e2, e3⟩ := pOp_inv e
  exact w_op ho (two ha hb r e1 e2 fun u v H' F1 F2 s1 r1 r2 _ _ _ => ⟨m, x, y, F1, F2, d, fr, r1, r2, e3, fun v' H2 F s2 r' n' => q v' H2 F (s1.trans s2) r' (n'.back s1)⟩)⟩
theorem jp_cmp {op : CmpOp} {g : D → D → Option (D × Bool)} (ho : OpD X (compareOp op) g) (ha : JP X a pa) (hb : JP X b pb) (hm : behindInMarks op b = false := by first | exact nomark _ | rfl) : JP X (.Compare a [op] [b] pos) (pOp g pa pb) := ⟨fun m F0 σ H s r d fr e Q q => by
  obtain ⟨x, f1, y, f2, e1, e2, e3⟩ := pOp_inv e
  exact w_cmp ho (two ha hb r e1 e2 fun u v H' F1 F2 s1 r1 r2 _ _ _ => ⟨m, x, y, F1, F2, d, fr, r1, r2, e3, fun v' H2 F s2 r' n' => q v' H2 F (s1.trans s2) r' (n'.back s1)⟩) hm⟩
/-- a value as a test -/
def tB' (p : PV) : TB := fun s => match p s with
  | some (.bl b, _) => some b
  | _ => none
theorem tB_inv {s : S} {b : Bool} (e : tB' p s = some b) : ∃ f, p s = some (.bl b, f) := by
  unfold tB' at e
  split at e
  · rename_i b' f h
    cases e
    exact ⟨f, h⟩
  · cases e
theorem jt_cmp {op : CmpOp} {g : D → D → Option (D × Bool)} (ho : OpD X (compareOp op) g) (ha : JP X a pa) (hb : JP X b pb) (hm : behindInMarks op b = false := by first | exact nomark _ | rfl) : JT X (.Compare a [op] [b] pos) (tB' (pOp g pa pb)) := ⟨fun m F0 σ H s r k e Q q => by
  obtain ⟨f, e0⟩ := tB_inv e
  obtain ⟨x, f1, y, f2, e1, e2, e3⟩ := pOp_inv e0
  exact t_cmp ho (two ha hb r e1 e2 fun u v H' F1 F2 s1 r1 r2 _ _ _ => ⟨m, x, y, F1, F2, _, _, r1, r2, e3, fun v' H2 F s2 r' n' => by
    obtain ⟨rfl, _⟩ := rep_bl r'
    exact ⟨k, rfl, q H2 (s1.trans s2)⟩⟩) hm⟩
theorem jt_val (h : JP X e p) (he : ∀ whole, isTrue e X.env whole = (do let v ← whole; standAt e.pos; holding [v] (truthy v)) := by intro _; rfl) : JT X e (tB' p) := ⟨fun m F0 σ H s r k e Q q => by
  obtain ⟨f, e0⟩ := tB_inv e
  exact t_val (h.run m F0 σ H s r _ f e0 _ fun v H' F s1 r1 _ => by
    obtain ⟨rfl, _⟩ := rep_bl r1
    exact ⟨k, rfl, q H' s1⟩) he⟩
def tNot' (t : TB) : TB := fun s => (t s).map (!·)
def pNot (p : PV) : PV := fun s => (tB' p s).map fun b => (.bl (!b), true)
def tAnd' (t u : TB) : TB := fun s => match t s with
  | some true => u s
  | some false => some false
  | none => none
def tOr' (t u : TB) : TB := fun s => match t s with
  | some true => some true
  | some false => u s
  | none => none
def pAnd (p q : PV) : PV := fun s => match tB' p s with
  | some true => (tB' q s).map fun b => (.bl b, true)
  | some false => some (.bl false, true)
  | none => none
def pOr (p q : PV) : PV := fun s => match tB' p s with
  | some true => some (.bl true, true)
  | some false => (tB' q s).map fun b => (.bl b, true)
  | none => none
def pIf (t : TB) (p q : PV) : PV := fun s => match t s with
  | some true => p s
  | some false => q s
  | none => none
theorem jt_not (h : JT X a t) : JT X (.UnaryOp .Not a pos) (tNot' t) := ⟨fun m F0 σ H s r k e Q q => by
  unfold tNot' at e
  cases ht : t s with
  | none => rw [ht] at e; cases e
  | some b => rw [ht] at e; cases e; exact t_not (h.run m F0 σ H s r b ht _ q)⟩
theorem jp_not (h : JP X a p) : JP X (.UnaryOp .Not a pos) (pNot p) := ⟨fun m F0 σ H s r d fr e Q q => by
  unfold pNot at e
  cases ht : tB' p s with
  | none => rw [ht] at e; cases e
  | some b =>
    rw [ht] at e; cases e
    obtain ⟨f, e0⟩ := tB_inv ht
    exact w_not (h.run m F0 σ H s r _ f e0 _ fun v H' F s1 r1 _ => by
      obtain ⟨rfl, _⟩ := rep_bl r1
      exact ⟨b, rfl, q _ H' [] s1 (.bl _) (fresh_nil _ _)⟩)⟩
theorem jw_and (h : JT X a t) (hr : JW X (.BoolOp .And (b :: rest) pos) u) : JW X (.BoolOp .And (a :: b :: rest) pos) (tAnd' t u) := ⟨fun m F0 σ H s r k e Q q => by
  unfold tAnd' at e
  cases ht : t s with
  | none => rw [ht] at e; cases e
  | some z =>
    rw [ht] at e
    refine t_and (h.run m F0 σ H s r z ht _ fun H' s1 => ?_)
    cases z with
    | true => exact iteT (hr.run m F0 σ H' s (r.same s1) k e _ fun H2 s2 => q H2 (s1.trans s2))
    | false => cases e; exact iteF (q H' s1)⟩
theorem jw_or (h : JT X a t) (hr : JW X (.BoolOp .Or (b :: rest) pos) u) : JW X (.BoolOp .Or (a :: b :: rest) pos) (tOr' t u) := ⟨fun m F0 σ H s r k e Q q => by
  unfold tOr' at e
  cases ht : t s with
  | none => rw [ht] at e; cases e
  | some z =>
    rw [ht] at e
    refine t_or (h.run m F0 σ H s r z ht _ fun H' s1 => ?_)
    cases z with
    | true => cases e; exact iteT (q H' s1)
    | false => exact iteF (hr.run m F0 σ H' s (r.same s1) k e _ fun H2 s2 => q H2 (s1.trans s2))⟩
theorem jw_and1 (h : JT X a t) : JW X (.BoolOp .And [a] pos) t := ⟨fun m F0 σ H s r k e Q q => t_and1 (h.run m F0 σ H s r k e Q q)⟩
theorem jw_or1 (h : JT X a t) : JW X (.BoolOp .Or [a] pos) t := ⟨fun m F0 σ H s r k e Q q => t_or1 (h.run m F0 σ H s r k e Q q)⟩
theorem jt_w (h : JW X e t) : JT X e t := ⟨fun m F0 σ H s r k e Q q => t_w (h.run m F0 σ H s r k e Q q)⟩
theorem jp_and (h : JP X a p) (hr : JP X (.BoolOp .And (b :: rest) pos) q) : JP X (.BoolOp .And (a :: b :: rest) pos) (pAnd p q) := ⟨fun m F0 σ H s r d fr e Q qq => by
  unfold pAnd at e
  cases ht : tB' p s with
  | none => rw [ht] at e; cases e
  | some z =>
    rw [ht] at e
    obtain ⟨f, e0⟩ := tB_inv ht
    refine w_and (h.run m F0 σ H s r _ f e0 _ fun v H' F s1 r1 _ => ?_)
    obtain ⟨rfl, _⟩ := rep_bl r1
    refine ⟨z, rfl, ?_⟩
    cases z with
    | true =>
      cases hu : tB' q s with
      | none => simp [hu] at e
      | some k =>
        simp [hu] at e
        obtain ⟨rfl, rfl⟩ := e
        obtain ⟨f2, e2⟩ := tB_inv hu
        exact iteT (hr.run m F0 σ H' s (r.same s1) _ f2 e2 _ fun v2 H2 F2 s2 r2 _ => by
          obtain ⟨rfl, _⟩ := rep_bl r2
          exact qq _ H2 [] (s1.trans s2) (.bl _) (fresh_nil _ _))
    | false => cases e; exact iteF (qq _ H' [] s1 (.bl _) (fresh_nil _ _))⟩
theorem jp_or (h : JP X a p) (hr : JP X (.BoolOp .Or (b :: rest) pos) q) : JP X (.BoolOp .Or (a :: b :: rest) pos) (pOr p q) := ⟨fun m F0 σ H s r d fr e Q qq => by
  unfold pOr at e
  cases ht : tB' p s with
  | none => rw [ht] at e; cases e
  | some z =>
    rw [ht] at e
    obtain ⟨f, e0⟩ := tB_inv ht
    refine w_or (h.run m F0 σ H s r _ f e0 _ fun v H' F s1 r1 _ => ?_)
    obtain ⟨rfl, _⟩ := rep_bl r1
    refine ⟨z, rfl, ?_⟩
    cases z with
    | false =>
      cases hu : tB' q s with
      | none => simp [hu] at e
      | some k =>
        simp [hu] at e
        obtain ⟨rfl, rfl⟩ := e
        obtain ⟨f2, e2⟩ := tB_inv hu
        exact iteF (hr.run m F0 σ H' s (r.same s1) _ f2 e2 _ fun v2 H2 F2 s2 r2 _ => by
          obtain ⟨rfl, _⟩ := rep_bl r2
          exact qq _ H2 [] (s1.trans s2) (.bl _) (fresh_nil _ _))
    | true => cases e; exact iteT (qq _ H' [] s1 (.bl _) (fresh_nil _ _))⟩
theorem jp_one {op : BoolOp} (h : JP X a p) : JP X (.BoolOp op [a] pos) p := ⟨fun m F0 σ H s r d fr e Q q => w_one (h.run m F0 σ H s r d fr e Q q)⟩
theorem jp_if (ht : JT X c t) (ha : JP X a pa) (hb : JP X b pb) : JP X (.IfExp c a b pos) (pIf t pa pb) := ⟨fun m F0 σ H s r d fr e Q q => by
  unfold pIf at e
  cases hz : t s with
  | none => rw [hz] at e; cases e
  | some z =>
    rw [hz] at e
    refine w_ifx (ht.run m F0 σ H s r z hz _ fun H' s1 => ?_)
    cases z with
    | true => exact iteT (ha.run m F0 σ H' s (r.same s1) d fr e _ fun v H2 F s2 r2 n2 => q v H2 F (s1.trans s2) r2 (n2.back s1))
    | false => exact iteF (hb.run m F0 σ H' s (r.same s1) d fr e _ fun v H2 F s2 r2 n2 => q v H2 F (s1.trans s2) r2 (n2.back s1))⟩
/-! a < b < c -/
def pChain (g g' : D → D → Option (D × Bool)) (pa pb pc : PV) : PV := fun s => match pa s, pb s with
  | some (x, _), some (y, _) => match g x y with
    | some (.bl true, _) => match pc s with
      | some (z, _) => g' y z
      | none => none
    | some (.bl false, _) => some (.bl false, true)
    | _ => none
  | _, _ => none
theorem chain_run {op op' : CmpOp} {g g' : D → D → Option (D × Bool)} (ha : JP X a pa) (hb : JP X b pb) (hc : JP X c pc) {m : List Addr} {F0 : Fq} {σ : St} {H : Hp} {s : S} (r : Rl (ct X) m F0 σ H s) {d : D} {fr : Bool} (e : pChain g g' pa pb pc s = some (d, fr)) {Q : VK} (q : VOk X m H d fr Q) :
    tChain (rG X g) (rG X g') (WE X a) (WE X b) (WE X c) σ H Q := by
  unfold pChain at e
  split at e
  · rename_i x f1 y f2 e1 e2
    refine two ha hb r e1 e2 fun u v H' F1 F2 s1 r1 r2 _ _ _ => ?_
    split at e
    · rename_i f3 e3
      refine ⟨m, x, y, F1, F2, _, _, r1, r2, e3, fun v' H2 F s2 r' n' => ?_⟩
      obtain ⟨rfl, _⟩ := rep_bl r'
      refine ⟨true, rfl, iteT ?_⟩
      split at e
      · rename_i z f4 e4
        exact hc.run m F0 σ H2 s ((r.same s1).same s2) z f4 e4 _ fun w H3 F3 s3 r3 _ => ⟨m, y, z, F2, F3, d, fr, (r2.same s2).same s3, r3, e, fun v'' H4 F4 s4 r4 n4 => q v'' H4 F4 (((s1.trans s2).trans s3).trans s4) r4 (n4.back ((s1.trans s2).trans s3))⟩
      · cases e
    · rename_i f3 e3
      refine ⟨m, x, y, F1, F2, _, _, r1, r2, e3, fun v' H2 F s2 r' n' => ?_⟩
      obtain ⟨rfl, _⟩ := rep_bl r'
      cases e
      exact ⟨false, rfl, iteF (q _ H2 [] (s1.trans s2) (.bl _) (fresh_nil _ _))⟩
    · cases e
  · cases e
theorem jp_chain {op op' : CmpOp} {g g' : D → D → Option (D × Bool)} (ho : OpD X (compareOp op) g) (ho' : OpD X (compareOp op') g') (ha : JP X a pa) (hb : JP X b pb) (hc : JP X c pc) (hm : lastMarks [op, op'] [b, c] = false := by with_unfolding_all rfl) : JP X (.Compare a [op, op'] [b, c] pos) (pChain g g' pa pb pc) :=
  ⟨fun m F0 σ H s r d fr e Q q => w_chain ho ho' (chain_run (op := op) (op' := op') ha hb hc r e q) hm⟩
theorem jt_chain {op op' : CmpOp} {g g' : D → D → Option (D × Bool)} (ho : OpD X (compareOp op) g) (ho' : OpD X (compareOp op') g') (ha : JP X a pa) (hb : JP X b pb) (hc : JP X c pc) (hm : lastMarks [op, op'] [b, c] = false := by with_unfolding_all rfl) : JT X (.Compare a [op, op'] [b, c] pos) (tB' (pChain g g' pa pb pc)) :=
  ⟨fun m F0 σ H s r k e Q q => by
    obtain ⟨f, e0⟩ := tB_inv e
    exact t_chain ho ho' (chain_run (op := op) (op' := op') ha hb hc r e0 fun v' H2 F s2 r' n' => by
      obtain ⟨rfl, _⟩ := rep_bl r'
      exact ⟨k, rfl, q H2 s2⟩) hm⟩
/-! several -/
def frs (z : D × Bool) : Bool := z.2 || z.1.imm
structure JA (X : Cx) (es : List Expr) (p : S → Option (List (D × Bool))) : Prop where
  run : ∀ (m : List Addr) (F0 : Fq) (σ : St) (H : Hp) (s : S), Rl (ct X) m F0 σ H s → ∀ ds, p s = some ds → ∀ Q : List V → Hp → Prop, (∀ vs H' F, Same H H' → RepL (ct X) m H' vs (ds.map Prod.fst) F → Fresh H (ds.all frs) F → Q vs H') → WA X es σ H Q
def aNil : S → Option (List (D × Bool)) := fun _ => some []
def aCons (p : PV) (r : S → Option (List (D × Bool))) : S → Option (List (D × Bool)) := fun s => match p s with
  | some x => match r s with
    | some xs => some (x :: xs)
    | none => none
  | none => none
theorem ja_nil : JA X [] aNil := ⟨fun m F0 σ H s r ds e Q q => by cases e; exact wa_nil (q [] H [] (Same.refl _) .nil (fresh_nil _ _))⟩
theorem ja_cons {r : S → Option (List (D × Bool))} (h : JP X e p) (hr : JA X es r) (hs : starEach (e :: es) X.env = (false, eval e X.env) :: starEach es X.env := by rfl) : JA X (e :: es) (aCons p r) := ⟨fun m F0 σ H s rl ds ee Q q => by
  unfold aCons at ee
  split at ee
  · rename_i x hx
    obtain ⟨x, f⟩ := x
    split at ee
    · rename_i xs hxs
      cases ee
      refine wa_cons (h.run m F0 σ H s rl x f hx _ fun v H1 F1 s1 r1 n1 => hr.run m F0 σ H1 s (rl.same s1) xs hxs _ fun vs H2 F2 s2 r2 n2 => q (v :: vs) H2 (F1 ++ F2) (s1.trans s2) (.cons (r1.same s2) r2) fun t => ?_) hs
      rw [List.all_cons, Bool.and_eq_true] at t
      have z1 : F1.Nodup ∧ ∀ a ∈ F1, H a = none := by
        have t1 : (f || x.imm) = true := t.1
        rw [Bool.or_eq_true] at t1
        rcases t1 with t1 | t1
        · exact n1 t1
        · rw [r1.imm t1]; exact ⟨List.nodup_nil, by simp⟩
      have z2 := n2 t.2
      refine ⟨?_, fun a ha => (List.mem_append.mp ha).elim (z1.2 a) fun z => s1.free (z2.2 a z)⟩
      rw [List.nodup_append]
      exact ⟨z1.1, z2.1, fun a ha b hb z => by subst z; exact (r1.mut a ha).some (z2.2 a hb)⟩
    · cases ee
  · cases ee⟩
def pTup (r : S → Option (List (D × Bool))) : PV := fun s => match r s with
  | some ds => if ds.length ≤ 1000 then some (.tup (ds.map Prod.fst), ds.all frs) else none
  | none => none
def pLst (r : S → Option (List (D × Bool))) : PV := fun s => match r s with
  | some ds => if ds.length ≤ 1000 then some (.lst (ds.map Prod.fst), ds.all frs) else none
  | none => none
theorem sz1000 {n : Nat} (h : n ≤ 1000) : n ≤ sizeLine := Nat.le_trans h (by decide)
theorem jp_tup {r : S → Option (List (D × Bool))} {k : Nat} (h : JA X es r) : JP X (.Tuple es k pos) (pTup r) := ⟨fun m F0 σ H s rl d fr e Q q => by
  unfold pTup at e
  split at e
  · rename_i ds hds
    split at e
    · rename_i hl
      cases e
      exact w_tup (h.run m F0 σ H s rl ds hds _ fun vs H1 F s1 r1 n1 => ⟨sz1000 (by rw [r1.length, List.length_map]; exact hl), fun p hp => q (.ref p) _ F (s1.trans (same_new hp)) (.tup (SqT.of upd_same) (r1.same (same_new hp))) n1⟩)
    · cases e
  · cases e⟩
theorem jp_lst {r : S → Option (List (D × Bool))} (h : JA X es r) : JP X (.List es pos) (pLst r) := ⟨fun m F0 σ H s rl d fr e Q q => by
  unfold pLst at e
  split at e
  · rename_i ds hds
    split at e
    · rename_i hl
      cases e
      refine w_lst (h.run m F0 σ H s rl ds hds _ fun vs H1 F s1 r1 n1 => ⟨sz1000 (by rw [r1.length, List.length_map]; exact hl), fun p hp => q (.ref p) _ (p :: F) (s1.trans (same_new hp)) (.lst upd_same (r1.same (same_new hp))) fun t => ?_⟩)
      obtain ⟨z1, z2⟩ := n1 t
      refine ⟨List.nodup_cons.mpr ⟨fun hm => (r1.mut p hm).some hp, z1⟩, fun a ha => ?_⟩
      rcases List.mem_cons.mp ha with z | z
      · subst z; exact s1.free hp
      · exact z2 a z
    · cases e
  · cases e⟩
end
end Dn
set_option Elab.async false
set_option linter.all false
set_option maxRecDepth 100000
set_option maxHeartbeats 4000000
/-! operators, places, slices, the built-in calls -/
namespace Dn
open PySem PySem.Spec PyProof.Rows L2 Tr
/-- flat data as values -/
def D.flat : D → Option V
  | .non => some .non
  | .bl b => some (.bl b)
  | .int i => some (.int i)
  | .str x => some (.str x)
  | _ => none
def flatL : List D → Option (List V)
  | [] => some []
  | d :: r => match d.flat, flatL r with
    | some v, some vs => some (v :: vs)
    | _, _ => none
mutual
def D.py : D → Option PyData
  | .non => some .none
  | .bl b => some (.bool b)
  | .int i => some (.int i)
  | .str x => some (.str x)
  | .tup ds => (pyL ds).map PyData.tuple
  | .lst ds => (pyL ds).map PyData.list
  | _ => none
def pyL : List D → Option (List PyData)
  | [] => some []
  | d :: r => match d.py, pyL r with
    | some v, some vs => some (v :: vs)
    | _, _ => none
end
section
variable {c : Ct} {m : List Addr} {H : Hp}
theorem rep_flat {v u : V} {d : D} {F : List Addr} (r : Rep c m H v d F) (e : d.flat = some u) : v = u ∧ F = [] ∧ flatV u = true := by
  cases r <;> cases e <;> exact ⟨rfl, rfl, rfl⟩
theorem repL_flat : ∀ {vs us : List V} {ds : List D} {F : List Addr}, RepL c m H vs ds F → flatL ds = some us → vs = us ∧ F = [] ∧ us.all flatV = true
  | _, _, _, _, .nil, e => by cases e; exact ⟨rfl, rfl, rfl⟩
  | _, _, _, _, .cons r t, e => by
    unfold flatL at e
    split at e
    · rename_i v vs h1 h2
      cases e
      obtain ⟨a1, a2, a3⟩ := rep_flat r h1
      obtain ⟨b1, b2, b3⟩ := repL_flat t h2
      subst a1 a2 b1 b2
      exact ⟨rfl, rfl, by rw [List.all_cons, a3, b3]; rfl⟩
    · cases e
mutual
theorem rep_dp : ∀ {v : V} {d : D} {F : List Addr} {p : PyData}, Rep c m H v d F → d.py = some p → Dp c.K H v p
  | _, _, _, _, .non, e => by cases e; exact .non
  | _, _, _, _, .bl b, e => by cases e; exact .bl b
  | _, _, _, _, .int i, e => by cases e; exact .int i
  | _, _, _, _, .str x, e => by cases e; exact .str x
  | _, _, _, _, .ptr _, e => by cases e
  | _, _, _, _, .frz _, e => by cases e
  | _, _, _, _, .tab _ _, e => by cases e
  | _, _, _, _, .gone _, e => by cases e
  | _, _, _, _, .tup h r, e => by
    unfold D.py at e
    cases hp : pyL _ with
    | none => rw [hp] at e; cases e
    | some ps => rw [hp] at e; cases e; exact .tup h (repL_dp r hp)
  | _, _, _, _, .lst h r, e => by
    unfold D.py at e
    cases hp : pyL _ with
    | none => rw [hp] at e; cases e
    | some ps => rw [hp] at e; cases e; exact .lst (SqL.of h) (repL_dp r hp)
  | _, _, _, _, .dic _ _ _ _, e => by cases e
  | _, _, _, _, .ins _ _ _ _, e => by cases e
theorem repL_dp : ∀ {vs : List V} {ds : List D} {F : List Addr} {ps : List PyData}, RepL c m H vs ds F → pyL ds = some ps → DpAll c.K H vs ps
  | _, _, _, _, .nil, e => by cases e; exact .nil
  | _, _, _, _, .cons r t, e => by
    unfold pyL at e
    split at e
    · rename_i v vs h1 h2
      cases e
      exact .cons (rep_dp r h1) (repL_dp t h2)
    · cases e
end
end
/-! what the operators come to -/
def szOk (n : Nat) : Bool := decide (n ≤ 10000000)
theorem szOk_le {n : Nat} (h : szOk n = true) : n ≤ sizeLine := Nat.le_trans (of_decide_eq_true h) (by decide)
theorem szOk_lt {n : Nat} (h : szOk n = true) : n < sizeLine := Nat.lt_of_le_of_lt (of_decide_eq_true h) (by decide)
def dAdd : D → D → Option (D × Bool)
  | .int i, .int j => some (.int (i + j), true)
  | .str i, .str j => if szOk (i.length + j.length) then some (.str (i ++ j), true) else none
  | .tup a, .tup b => if szOk (a.length + b.length) then some (.tup (a ++ b), immL a && immL b) else none
  | .lst a, .lst b => if szOk (a.length + b.length) then some (.lst (a ++ b), immL a && immL b) else none
  | _, _ => none
def dSub : D → D → Option (D × Bool)
  | .int i, .int j => some (.int (i - j), true)
  | _, _ => none
noncomputable def dMul : D → D → Option (D × Bool)
  | .int i, .int j => @ite _ ((-(2 ^ 64) < i ∧ i < 2 ^ 64) ∨ (-(2 ^ 64) < j ∧ j < 2 ^ 64)) (Classical.propDecidable _) (some (.int (i * j), true)) none
  | .lst a, .int k => if -(2 ^ 63) ≤ k ∧ k < 2 ^ 63 ∧ szOk (a.length * k.toNat) = true ∧ immL a = true then some (.lst (List.replicate k.toNat a).flatten, true) else none
  | _, _ => none
noncomputable def dDiv : D → D → Option (D × Bool)
  | .int i, .int j => @ite _ (0 < j ∧ j < 1073741824) (Classical.propDecidable _) (some (.int (i / j), true)) none
  | _, _ => none
def dMod : D → D → Option (D × Bool)
  | .int i, .int j => if 0 < j then some (.int (i % j), true) else none
  | _, _ => none
noncomputable def dPow : D → D → Option (D × Bool)
  | .int i, .int j => @ite _ (0 ≤ j ∧ j ≤ 1000000 ∧ i.natAbs < 2 ^ 64) (Classical.propDecidable _) (some (.int (i ^ j.toNat), true)) none
  | _, _ => none
def dLt : D → D → Option (D × Bool)
  | .int i, .int j => some (.bl (decide (i < j)), true)
  | _, _ => none
def dLe : D → D → Option (D × Bool)
  | .int i, .int j => some (.bl (decide (i ≤ j)), true)
  | _, _ => none
def dGt : D → D → Option (D × Bool)
  | .int i, .int j => some (.bl (decide (j < i)), true)
  | _, _ => none
def dGe : D → D → Option (D × Bool)
  | .int i, .int j => some (.bl (decide (j ≤ i)), true)
  | _, _ => none
def eqPy (a b : D) : Option Bool := match a.py, b.py with
  | some p, some q => if SeqAt.shaped p = true ∧ SeqAt.shaped q = true then some (PyData.eqv p q) else none
  | _, _ => none
def eqB : D → D → Option Bool
  | .int i, .int j => some (decide (i = j))
  | .str i, .str j => some (decide (i = j))
  | .bl i, .bl j => some (decide (i = j))
  | .non, .non => some true
  | .non, .int _ => some false
  | .non, .str _ => some false
  | .non, .bl _ => some false
  | .int _, .non => some false
  | .str _, .non => some false
  | .bl _, .non => some false
  | .int _, .str _ => some false
  | .str _, .int _ => some false
  | .bl _, .str _ => some false
  | .str _, .bl _ => some false
  | a, b => eqPy a b
def dEq (a b : D) : Option (D × Bool) := (eqB a b).map fun k => (.bl k, true)
def dNe (a b : D) : Option (D × Bool) := (eqB a b).map fun k => (.bl (!k), true)
/-- a key -/
def D.key : D → Option Key
  | .int i => some (.inl i)
  | .str x => some (.inr x)
  | _ => none
def inSeq (x : D) (ds : List D) : Option Bool := match x.flat, flatL ds with
  | some v, some vs => some (inV v vs)
  | _, _ => none
def signIn (w z : Str) : Option Bool := match w.cps.toList with
  | [ch] => some (decide (ch ∈ z.cps.toList))
  | _ => none
theorem str_one {w : Str} {ch : Nat} (h : w.cps.toList = [ch]) : w = ⟨#[ch]⟩ := by
  obtain ⟨a⟩ := w
  obtain ⟨l⟩ := a
  cases (show l = [ch] from h)
  rfl
def inB : D → D → Option Bool
  | x, .tup ds => inSeq x ds
  | x, .lst ds => inSeq x ds
  | x, .dic kvs => x.key.map fun k => (glook kvs k).isSome
  | .str z, .tab kvs => some (kvs.lookup z).isSome
  | .str w, .str z => signIn w z
  | _, _ => none
def dIn (a b : D) : Option (D × Bool) := (inB a b).map fun k => (.bl k, true)
def dNotIn (a b : D) : Option (D × Bool) := (inB a b).map fun k => (.bl (!k), true)
def D.isNon : D → Option Bool
  | .non => some true
  | .gone => none
  | _ => some false
def dIs : D → D → Option (D × Bool)
  | a, .non => a.isNon.map fun k => (.bl k, true)
  | _, _ => none
def dIsNot : D → D → Option (D × Bool)
  | a, .non => a.isNon.map fun k => (.bl (!k), true)
  | _, _ => none
section
variable {X : Cx}
theorem VOk.now {m : List Addr} {H : Hp} {d : D} {fr : Bool} {Q : VK} (q : VOk X m H d fr Q) {v : V} (r : Rep (ct X) m H v d []) : Q v H := q v H [] (Same.refl _) r (fresh_nil _ _)
theorem immL_cons {d : D} {ds : List D} : immL (d :: ds) = (d.imm && immL ds) := rfl
theorem od_add : OpD X (binaryOp .Add) dAdd := OpD.mk (op_add.or (op_add_str.or (op_catA.or op_cat))) fun m H x y d1 d2 F1 F2 d fr Q r1 r2 e q => by
  unfold dAdd at e
  split at e
  · cases e
    obtain ⟨rfl, _⟩ := rep_int r1
    obtain ⟨rfl, _⟩ := rep_int r2
    exact .inl ⟨_, _, rfl, rfl, q.now (.int _)⟩
  · split at e
    · rename_i hz
      cases e
      obtain ⟨rfl, _⟩ := rep_str r1
      obtain ⟨rfl, _⟩ := rep_str r2
      exact .inr (.inl ⟨_, _, rfl, rfl, szOk_le hz, q.now (.str _)⟩)
    · cases e
  · split at e
    · rename_i a b hz
      cases e
      obtain ⟨p, xs, rfl, hp, hx⟩ := rep_tup r1
      obtain ⟨t, ys, rfl, ht, hy⟩ := rep_tup r2
      have l1 := hx.length
      have l2 := hy.length
      have fz : Fresh H (immL a && immL b) (F1 ++ F2) := fun z => by
        rw [Bool.and_eq_true] at z
        rw [hx.imm z.1, hy.imm z.2]
        exact ⟨List.nodup_nil, by simp⟩
      refine .inr (.inr (.inl ⟨p, t, xs, ys, rfl, rfl, hp, ht, by rw [l1, l2]; exact szOk_le hz, fun z => ?_, fun _ z => ?_, fun _ _ w hw => ?_⟩))
      · subst z
        cases hx
        exact q (.ref t) H F2 (Same.refl _) (.tup ht hy) (by simpa using fz)
      · subst z
        cases hy
        rw [List.append_nil] at q fz
        exact q (.ref p) H F1 (Same.refl _) (.tup hp hx) fz
      · exact q (.ref w) _ (F1 ++ F2) (same_new hw) (.tup (SqT.of upd_same) ((hx.append hy).same (same_new hw))) fz
    · cases e
  · split at e
    · rename_i a b hz
      cases e
      obtain ⟨p, xs, G1, rfl, rfl, hp, hx⟩ := rep_lst r1
      obtain ⟨t, ys, G2, rfl, rfl, ht, hy⟩ := rep_lst r2
      have l1 := hx.length
      have l2 := hy.length
      refine .inr (.inr (.inr ⟨p, t, xs, ys, rfl, rfl, hp, ht, by rw [l1, l2]; exact szOk_le hz, fun w hw => ?_⟩))
      refine q (.ref w) _ (w :: (G1 ++ G2)) (same_new hw) (.lst upd_same ((hx.append hy).same (same_new hw))) fun z => ?_
      rw [Bool.and_eq_true] at z
      rw [hx.imm z.1, hy.imm z.2]
      exact ⟨by simp, by simpa using hw⟩
    · cases e
  · cases e
theorem od_sub : OpD X (binaryOp .Sub) dSub := OpD.mk op_sub fun m H x y d1 d2 F1 F2 d fr Q r1 r2 e q => by
  unfold dSub at e
  split at e
  · cases e
    obtain ⟨rfl, _⟩ := rep_int r1
    obtain ⟨rfl, _⟩ := rep_int r2
    exact ⟨_, _, rfl, rfl, q.now (.int _)⟩
  · cases e
theorem repL_flatten {m : List Addr} {H : Hp} {xs : List V} {ds : List D} (h : RepL (ct X) m H xs ds []) : ∀ n : Nat, RepL (ct X) m H (List.replicate n xs).flatten (List.replicate n ds).flatten []
  | 0 => .nil
  | n + 1 => by
    rw [List.replicate_succ, List.replicate_succ, List.flatten_cons, List.flatten_cons]
    exact h.append (repL_flatten h n)
theorem od_mul : OpD X (binaryOp .Mult) dMul := OpD.mk (op_mul.or op_rep) fun m H x y d1 d2 F1 F2 d fr Q r1 r2 e q => by
  unfold dMul at e
  split at e
  · split at e
    · rename_i hc
      cases e
      obtain ⟨rfl, _⟩ := rep_int r1
      obtain ⟨rfl, _⟩ := rep_int r2
      exact .inl ⟨_, _, rfl, rfl, hc, q.now (.int _)⟩
    · cases e
  · split at e
    · rename_i a k hc
      cases e
      obtain ⟨p, xs, G1, rfl, rfl, hp, hx⟩ := rep_lst r1
      obtain ⟨rfl, _⟩ := rep_int r2
      obtain ⟨h1, h2, h3, h4⟩ := hc
      have l1 := hx.length
      have g0 := hx.imm h4
      subst g0
      refine .inr ⟨p, k, xs, rfl, rfl, hp, h1, h2, by rw [l1]; exact szOk_le h3, fun w hw => ?_⟩
      exact q (.ref w) _ [w] (same_new hw) (.lst upd_same ((repL_flatten hx k.toNat).same (same_new hw))) fun _ => ⟨by simp, by simpa using hw⟩
    · cases e
  · cases e
theorem od_div : OpD X (binaryOp .FloorDiv) dDiv := OpD.mk op_fdiv fun m H x y d1 d2 F1 F2 d fr Q r1 r2 e q => by
  unfold dDiv at e
  split at e
  · split at e
    · rename_i hc
      cases e
      obtain ⟨rfl, _⟩ := rep_int r1
      obtain ⟨rfl, _⟩ := rep_int r2
      exact ⟨_, _, rfl, rfl, hc, q.now (.int _)⟩
    · cases e
  · cases e
theorem od_mod : OpD X (binaryOp .Mod) dMod := OpD.mk op_mod fun m H x y d1 d2 F1 F2 d fr Q r1 r2 e q => by
  unfold dMod at e
  split at e
  · split at e
    · rename_i hc
      cases e
      obtain ⟨rfl, _⟩ := rep_int r1
      obtain ⟨rfl, _⟩ := rep_int r2
      exact ⟨_, _, rfl, rfl, hc, q.now (.int _)⟩
    · cases e
  · cases e
theorem od_pow : OpD X (binaryOp .Pow) dPow := OpD.mk op_pow fun m H x y d1 d2 F1 F2 d fr Q r1 r2 e q => by
  unfold dPow at e
  split at e
  · split at e
    · rename_i hc
      cases e
      obtain ⟨rfl, _⟩ := rep_int r1
      obtain ⟨rfl, _⟩ := rep_int r2
      exact ⟨_, _, rfl, rfl, hc, q.now (.int _)⟩
    · cases e
  · cases e
theorem od_lt : OpD X (compareOp .Lt) dLt := OpD.mk op_lt fun m H x y d1 d2 F1 F2 d fr Q r1 r2 e q => by
  unfold dLt at e
  split at e
  · cases e
    obtain ⟨rfl, _⟩ := rep_int r1
    obtain ⟨rfl, _⟩ := rep_int r2
    exact ⟨_, _, rfl, rfl, q.now (.bl _)⟩
  · cases e
theorem od_le : OpD X (compareOp .LtE) dLe := OpD.mk op_le fun m H x y d1 d2 F1 F2 d fr Q r1 r2 e q => by
  unfold dLe at e
  split at e
  · cases e
    obtain ⟨rfl, _⟩ := rep_int r1
    obtain ⟨rfl, _⟩ := rep_int r2
    exact ⟨_, _, rfl, rfl, q.now (.bl _)⟩
  · cases e
theorem od_gt : OpD X (compareOp .Gt) dGt := OpD.mk op_gt fun m H x y d1 d2 F1 F2 d fr Q r1 r2 e q => by
  unfold dGt at e
  split at e
  · cases e
    obtain ⟨rfl, _⟩ := rep_int r1
    obtain ⟨rfl, _⟩ := rep_int r2
    exact ⟨_, _, rfl, rfl, q.now (.bl _)⟩
  · cases e
theorem od_ge : OpD X (compareOp .GtE) dGe := OpD.mk op_ge fun m H x y d1 d2 F1 F2 d fr Q r1 r2 e q => by
  unfold dGe at e
  split at e
  · cases e
    obtain ⟨rfl, _⟩ := rep_int r1
    obtain ⟨rfl, _⟩ := rep_int r2
    exact ⟨_, _, rfl, rfl, q.now (.bl _)⟩
  · cases e
theorem decB {i j : Bool} : decide (V.bl i = V.bl j) = decide (i = j) := by cases i <;> cases j <;> rfl
theorem eqB_run {m : List Addr} {H : Hp} {x y : V} {d1 d2 : D} {F1 F2 : List Addr} {k : Bool} {Q : Bool → Prop} (r1 : Rep (ct X) m H x d1 F1) (r2 : Rep (ct X) m H y d2 F2) (e : eqB d1 d2 = some k) (q : Q k) :
    (scal x y = true ∧ Q (decide (x = y))) ∨ ∃ p p', Dp X.K H x p ∧ Dp X.K H y p' ∧ SeqAt.shaped p = true ∧ SeqAt.shaped p' = true ∧ Q (PyData.eqv p p') := by
  have py : eqPy d1 d2 = some k → ∃ p p', Dp X.K H x p ∧ Dp X.K H y p' ∧ SeqAt.shaped p = true ∧ SeqAt.shaped p' = true ∧ Q (PyData.eqv p p') := fun e => by
    unfold eqPy at e
    split at e
    · rename_i p p' h1 h2
      split at e
      · rename_i hs
        cases e
        exact ⟨p, p', rep_dp r1 h1, rep_dp r2 h2, hs.1, hs.2, q⟩
      · cases e
    · cases e
  unfold eqB at e
  split at e
  case h_15 => exact .inr (py e)
  all_goals cases e
  all_goals cases r1
  all_goals cases r2
  all_goals refine .inl ⟨rfl, ?_⟩
  case h_1 => rw [decI]; exact q
  case h_2 => rw [decS]; exact q
  case h_3 => rw [decB]; exact q
  all_goals simpa using q
theorem od_eq {n : Nat} (hr : Room n X.A) : OpD X (compareOp .Eq) dEq := OpD.mk (op_eq.or (op_eqD hr.units)) fun m H x y d1 d2 F1 F2 d fr Q r1 r2 e q => by
  unfold dEq at e
  cases hk : eqB d1 d2 with
  | none => rw [hk] at e; cases e
  | some k =>
    rw [hk] at e; cases e
    rcases eqB_run (Q := fun k => Q (.bl k) H) r1 r2 hk (q.now (.bl _)) with h | ⟨p, p', h⟩
    · exact .inl h
    · exact .inr ⟨p, p', h⟩
theorem od_ne {n : Nat} (hr : Room n X.A) : OpD X (compareOp .NotEq) dNe := OpD.mk (op_ne.or (op_neD hr.units)) fun m H x y d1 d2 F1 F2 d fr Q r1 r2 e q => by
  unfold dNe at e
  cases hk : eqB d1 d2 with
  | none => rw [hk] at e; cases e
  | some k =>
    rw [hk] at e; cases e
    rcases eqB_run (Q := fun k => Q (.bl (!k)) H) r1 r2 hk (q.now (.bl _)) with h | ⟨p, p', h⟩
    · exact .inl h
    · exact .inr ⟨p, p', h⟩
theorem od_is : OpD X (compareOp .Is) dIs := OpD.mk op_isN fun m H x y d1 d2 F1 F2 d fr Q r1 r2 e q => by
  unfold dIs at e
  split at e
  · obtain ⟨rfl, _⟩ := rep_non r2
    refine ⟨rfl, ?_⟩
    cases r1 <;> cases e <;> exact q.now (.bl _)
  · cases e
theorem od_isNot : OpD X (compareOp .IsNot) dIsNot := OpD.mk op_notN fun m H x y d1 d2 F1 F2 d fr Q r1 r2 e q => by
  unfold dIsNot at e
  split at e
  · obtain ⟨rfl, _⟩ := rep_non r2
    refine ⟨rfl, ?_⟩
    cases r1 <;> cases e <;> exact q.now (.bl _)
  · cases e
/-! in -/
theorem op_inDK {n : Nat} (hr : Room n X.A) : OpR X (compareOp .In) (fun y x H Q => ∃ a o, x = .ref a ∧ DGet H a y o ∧ Q (.bl o.isSome) H) := fun pins s σ H x y v u Q I rx ry ⟨a, o, e, g, q⟩ => by
  subst e
  cases ry
  exact d_in (hu_of hr) I g rx fun s3 I3 => ⟨.bl o.isSome, H, I3, rfl, q⟩
theorem op_ninDK {n : Nat} (hr : Room n X.A) : OpR X (compareOp .NotIn) (fun y x H Q => ∃ a o, x = .ref a ∧ DGet H a y o ∧ Q (.bl (!o.isSome)) H) := fun pins s σ H x y v u Q I rx ry ⟨a, o, e, g, q⟩ => by
  subst e
  cases ry
  exact d_notIn (hu_of hr) I g rx fun s3 I3 => ⟨.bl (!o.isSome), H, I3, rfl, q⟩
def rInTab (X : Cx) (f : Bool → Bool) : R2 := fun x y H Q => ∃ (T : Addr) (kvs : List (Str × V)) (z : Str), x = .str z ∧ y = .ref T ∧ STab X.K X.w T kvs ∧ Q (.bl (f (kvs.lookup z).isSome)) H
theorem op_inTab : OpR X (compareOp .In) (rInTab X id) := fun pins s σ H x y v u Q I rx ry ⟨T, kvs, z, e1, e2, S, q⟩ => by
  subst e1 e2
  obtain ⟨es, n, D⟩ := S.kd
  cases hl : kvs.lookup z with
  | none => rw [hl] at q; exact op_in_kd D pins s σ H _ _ v u Q I rx ry ⟨z, none, rfl, rfl, S.none_ z hl, q⟩
  | some w =>
    rw [hl] at q
    obtain ⟨u', h1, _⟩ := S.some_ z w hl
    exact op_in_kd D pins s σ H _ _ v u Q I rx ry ⟨z, some u', rfl, rfl, h1, q⟩
theorem op_ninTab : OpR X (compareOp .NotIn) (rInTab X (!·)) := fun pins s σ H x y v u Q I rx ry ⟨T, kvs, z, e1, e2, S, q⟩ => by
  subst e1 e2
  obtain ⟨es, n, D⟩ := S.kd
  cases hl : kvs.lookup z with
  | none => rw [hl] at q; exact op_notIn_kd D pins s σ H _ _ v u Q I rx ry ⟨z, none, rfl, rfl, S.none_ z hl, q⟩
  | some w =>
    rw [hl] at q
    obtain ⟨u', h1, _⟩ := S.some_ z w hl
    exact op_notIn_kd D pins s σ H _ _ v u Q I rx ry ⟨z, some u', rfl, rfl, h1, q⟩
theorem key_kV {m : List Addr} {H : Hp} {x : V} {d : D} {F : List Addr} {k : Key} (r : Rep (ct X) m H x d F) (e : d.key = some k) : x = kV k := by
  cases r <;> cases e <;> rfl
theorem dic_get {m : List Addr} {H : Hp} {v : V} {kvs : List (Key × D)} {F : List Addr} (r : Rep (ct X) m H v (.dic kvs) F) (k : Key) : ∃ a o, v = .ref a ∧ DGet H a (kV k) o ∧ (∃ kx, H a = some (.dK kx)) ∧ o.isSome = (glook kvs k).isSome ∧ ∀ d, glook kvs k = some d → ∃ w G, o = some w ∧ Rep (ct X) m H w d G := by
  obtain ⟨a, kx, G, rfl, rfl, hs, hk, hn, rr⟩ := rep_dic r
  refine ⟨a, _, rfl, DGet.k hs, ⟨kx, hs⟩, ?_, fun d hd => ?_⟩
  · rw [valV_g]
    by_cases hm : k ∈ kvs.map Prod.fst
    · obtain ⟨i, hi, hf⟩ := g_some hm
      rw [(hf (kx := kvs) rfl).1, (hf (kx := kx) hk).1]
      have hl := rr.length
      have hi' : i < (kvs.map Prod.fst).length := (List.getElem?_eq_some_iff.mp hi).1
      have z1 : i < (kvs.map Prod.snd).length := by simpa using hi'
      have z2 : i < (kx.map Prod.snd).length := by rw [hl]; exact z1
      rw [List.getElem?_eq_getElem z1, List.getElem?_eq_getElem z2]
      rfl
    · rw [(g_none hm rfl).1, (g_none (by rw [← hk] at hm; exact hm) rfl).1]
      rfl
  · rw [valV_g]
    by_cases hm : k ∈ kvs.map Prod.fst
    · obtain ⟨i, hi, hf⟩ := g_some hm
      rw [(hf (kx := kvs) rfl).1] at hd
      rw [(hf (kx := kx) hk).1]
      obtain ⟨w, A, B, G', h1, _, h3, _⟩ := rr.get hd
      exact ⟨w, G', h1, h3⟩
    · rw [(g_none hm rfl).1] at hd
      cases hd
theorem inB_run {m : List Addr} {H : Hp} {x y : V} {d1 d2 : D} {F1 F2 : List Addr} {k : Bool} {Q : Bool → Prop} (r1 : Rep (ct X) m H x d1 F1) (r2 : Rep (ct X) m H y d2 F2) (e : inB d1 d2 = some k) (q : Q k) :
    (∃ p xs, y = .ref p ∧ (SqL X.K H p xs ∨ SqT X.K H p xs) ∧ flatV x = true ∧ xs.all flatV = true ∧ Q (inV x xs)) ∨ (∃ a o, y = .ref a ∧ DGet H a x o ∧ Q o.isSome) ∨
      (∃ (T : Addr) (kvs : List (Str × V)) (z : Str), x = .str z ∧ y = .ref T ∧ STab X.K X.w T kvs ∧ Q (kvs.lookup z).isSome) ∨ ∃ (ch : Nat) (z : Str), x = .str ⟨#[ch]⟩ ∧ y = .str z ∧ Q (decide (ch ∈ z.cps.toList)) := by
  unfold inB at e
  split at e
  · rename_i ds
    unfold inSeq at e
    split at e
    · rename_i v vs h1 h2
      cases e
      obtain ⟨rfl, _, f1⟩ := rep_flat r1 h1
      obtain ⟨p, xs, rfl, hp, hx⟩ := rep_tup r2
      obtain ⟨rfl, _, f2⟩ := repL_flat hx h2
      exact .inl ⟨p, _, rfl, .inr hp, f1, f2, q⟩
    · cases e
  · rename_i ds
    unfold inSeq at e
    split at e
    · rename_i v vs h1 h2
      cases e
      obtain ⟨rfl, _, f1⟩ := rep_flat r1 h1
      obtain ⟨p, xs, G, rfl, _, hp, hx⟩ := rep_lst r2
      obtain ⟨rfl, _, f2⟩ := repL_flat hx h2
      exact .inl ⟨p, _, rfl, .inl (SqL.of hp), f1, f2, q⟩
    · cases e
  · rename_i kvs
    cases hk : d1.key with
    | none => rw [hk] at e; cases e
    | some ky =>
      rw [hk] at e; cases e
      rw [key_kV r1 hk]
      obtain ⟨a, o, h1, h2, _, h3, _⟩ := dic_get r2 ky
      exact .inr (.inl ⟨a, o, h1, h2, by rw [h3]; exact q⟩)
  · cases e
    obtain ⟨rfl, _⟩ := rep_str r1
    obtain ⟨T, rfl, _, S, _⟩ := rep_tab r2
    exact .inr (.inr (.inl ⟨T, _, _, rfl, rfl, S, q⟩))
  · unfold signIn at e
    split at e
    · rename_i ch hc
      cases e
      obtain ⟨rfl, _⟩ := rep_str r1
      obtain ⟨rfl, _⟩ := rep_str r2
      exact .inr (.inr (.inr ⟨ch, _, by rw [str_one hc], rfl, q⟩))
    · cases e
  · cases e
theorem od_in {n : Nat} (hr : Room n X.A) : OpD X (compareOp .In) dIn := OpD.mk (op_in_seq.or ((op_inDK hr).or (op_inTab.or op_in_sign))) fun m H x y d1 d2 F1 F2 d fr Q r1 r2 e q => by
  unfold dIn at e
  cases hk : inB d1 d2 with
  | none => rw [hk] at e; cases e
  | some k =>
    rw [hk] at e; cases e
    rcases inB_run (Q := fun k => Q (.bl k) H) r1 r2 hk (q.now (.bl _)) with h | h | h | h
    · exact .inl h
    · exact .inr (.inl h)
    · exact .inr (.inr (.inl h))
    · exact .inr (.inr (.inr h))
theorem od_notIn {n : Nat} (hr : Room n X.A) : OpD X (compareOp .NotIn) dNotIn := OpD.mk (op_notIn_seq.or ((op_ninDK hr).or (op_ninTab.or op_notIn_sign))) fun m H x y d1 d2 F1 F2 d fr Q r1 r2 e q => by
  unfold dNotIn at e
  cases hk : inB d1 d2 with
  | none => rw [hk] at e; cases e
  | some k =>
    rw [hk] at e; cases e
    rcases inB_run (Q := fun k => Q (.bl (!k)) H) r1 r2 hk (q.now (.bl _)) with h | h | h | h
    · exact .inl h
    · exact .inr (.inl h)
    · exact .inr (.inr (.inl h))
    · exact .inr (.inr (.inr h))
end
end Dn
set_option Elab.async false
set_option linter.all false
set_option maxRecDepth 100000
set_option maxHeartbeats 4000000
/-! places, slices, attributes, built-in calls -/
namespace Dn
open PySem PySem.Spec PyProof.Rows L2 Tr
def dOfV : V → D
  | .bl b => .bl b
  | .int i => .int i
  | .str x => .str x
  | _ => .non
theorem rep_dOfV {c : Ct} {m : List Addr} {H : Hp} {v : V} (h : scal1 v = true) : Rep c m H v (dOfV v) [] := by
  cases v with
  | non => exact .non
  | bl b => exact .bl b
  | int i => exact .int i
  | str x => exact .str x
  | _ => cases h
def dIx : D → D → Option (D × Bool)
  | .lst ds, .int i => (atI ds i).map fun d => (d, false)
  | .tup ds, .int i => (atI ds i).map fun d => (d, false)
  | .frz ns, .int i => (atI ns i).map fun n => (.int n, true)
  | .str z, .int i => if szOk z.length then (atI z.cps.toList i).map fun ch => (.str ⟨#[ch]⟩, true) else none
  | .dic kvs, k => match k.key with
    | some k => (glook kvs k).map fun d => (d, false)
    | none => none
  | .tab kvs, .str x => (kvs.lookup x).map fun v => (dOfV v, true)
  | _, _ => none
def cut {α : Type} (xs : List α) (lo hi : Option Int) : List α := (xs.drop (HT.sIx xs.length 0 lo)).take (HT.sIx xs.length xs.length hi - HT.sIx xs.length 0 lo)
def dSl : D → Option Int → Option Int → Option (D × Bool)
  | .tup ds, lo, hi => some (.tup (cut ds lo hi), immL ds)
  | .lst ds, lo, hi => some (.lst (cut ds lo hi), immL ds)
  | .str z, lo, hi => if szOk z.length then some (.str (Txt.slice z lo hi), true) else none
  | _, _, _ => none
section
variable {X : Cx} {e a b o lo hi : Expr} {es : List Expr} {pos : Pos} {p pa pb pl ph : PV} {x : Str}
theorem atI_rep {c : Ct} {m : List Addr} {H : Hp} {xs : List V} {ds : List D} {F : List Addr} {i : Int} {d : D} (r : RepL c m H xs ds F) (h : atI ds i = some d) : ∃ v G, atI xs i = some v ∧ Rep c m H v d G := by
  unfold atI at h ⊢
  rw [r.length]
  cases hj : ixN ds.length i with
  | none => rw [hj] at h; cases h
  | some j =>
    rw [hj] at h
    obtain ⟨v, A, B, G, h1, _, h3, _⟩ := r.get (i := j) (d := d) h
    exact ⟨v, G, h1, h3⟩
theorem atI_map {α β : Type} (f : α → β) (xs : List α) (i : Int) : atI (xs.map f) i = (atI xs i).map f := by
  unfold atI
  rw [List.length_map]
  cases ixN xs.length i with
  | none => rfl
  | some j => simp
theorem ix_dK {n : Nat} (hr : Room n X.A) : IxR X (fun x y H Q => ∃ a v, x = .ref a ∧ DGet H a y (some v) ∧ Q v H) := by
  intro value slice pins s σ H x y v u Q I rx ry h hs
  obtain ⟨a, w, rfl, g, q⟩ := h
  cases rx
  have hT := dict_typeIs I g
  have hg := d_getItem (A := X.A) (E := X.xe) (Q := EP X pins σ Q) (hu_of hr) I g ry fun w' s3 I3 rw' => ⟨w, H, I3, rw', q⟩
  unfold subscriptTail
  refine wpAny_bind ?_
  rw [getitemInPython_of_ne hT.not_modules]
  refine wpAny_bind (wpAny_specialOf hT PySem.F.slot_dict_getitem.lookup ?_)
  have fin : wpAny (model X.prog X.w) X.A (subscripted slice false (.ref a) u) (fun r s₃ => wpAny (model X.prog X.w) X.A (letTemporaryGo value (.ref a) r >>= fun _ => pure r) (EP X pins σ Q) X.xe s₃) X.xe s := by
    rw [hs]
    exact wpAny_operating (wpAny_mono hg (fun r s₃ h₃ => wpAny_bind (wpAny_letTemporaryGo (wpAny_pure h₃))) fun _ _ x => x)
  first
    | exact wpAny_pure (wpAny_bind fin)
    | exact wpAny_bind (wpAny_pure (wpAny_bind fin))
    | exact wpAny_bind fin
theorem ix_tab : IxR X (fun x y H Q => ∃ T kvs z v, x = .ref T ∧ STab X.K X.w T kvs ∧ y = .str z ∧ kvs.lookup z = some v ∧ Q v H) := by
  intro value slice pins s σ H x y v u Q I rx ry h hs
  obtain ⟨T, kvs, z, w, h1, S, h2, h3, q⟩ := h
  subst h1
  exact ix_kd S value slice pins s σ H _ y v u Q I rx ry ⟨z, w, rfl, h2, h3, q⟩ hs
theorem jp_ix {n : Nat} (hr : Room n X.A) (ha : JP X a pa) (hb : JP X b pb) (hs : PlainIx b := by exact fun _ _ => rfl) : JP X (.Subscript a b pos) (pOp dIx pa pb) := ⟨fun m F0 σ H s r d fr e Q q => by
  obtain ⟨x, f1, y, f2, e1, e2, e3⟩ := pOp_inv e
  refine w_ix (ix_list.or (ix_tup.or (ix_str.or ((ix_dK hr).or ix_tab)))) (two ha hb r e1 e2 fun u v H' F1 F2 s1 r1 r2 _ _ _ => ?_) hs
  unfold dIx at e3
  split at e3
  · rename_i ds i
    cases hd : atI ds i with
    | none => rw [hd] at e3; cases e3
    | some d' =>
      rw [hd] at e3; cases e3
      obtain ⟨p, xs, G, rfl, _, hp, hx⟩ := rep_lst r1
      obtain ⟨rfl, _⟩ := rep_int r2
      obtain ⟨w, G', h1, h2⟩ := atI_rep hx hd
      exact .inl ⟨p, xs, i, w, rfl, rfl, SqL.of hp, h1, q w H' G' s1 h2 fresh_no⟩
  · rename_i ds i
    cases hd : atI ds i with
    | none => rw [hd] at e3; cases e3
    | some d' =>
      rw [hd] at e3; cases e3
      obtain ⟨p, xs, rfl, hp, hx⟩ := rep_tup r1
      obtain ⟨rfl, _⟩ := rep_int r2
      obtain ⟨w, G', h1, h2⟩ := atI_rep hx hd
      exact .inr (.inl ⟨p, xs, i, w, rfl, rfl, hp, h1, q w H' G' s1 h2 fresh_no⟩)
  · rename_i ns i
    cases hd : atI ns i with
    | none => rw [hd] at e3; cases e3
    | some d' =>
      rw [hd] at e3; cases e3
      obtain ⟨p, rfl, _, hp⟩ := rep_frz r1
      obtain ⟨rfl, _⟩ := rep_int r2
      exact .inl ⟨p, _, i, .int d', rfl, rfl, hp.sq, by rw [atI_map, hd]; rfl, q _ H' [] s1 (.int _) (fresh_nil _ _)⟩
  · rename_i z i
    split at e3
    · rename_i hz
      cases hd : atI z.cps.toList i with
      | none => rw [hd] at e3; cases e3
      | some d' =>
        rw [hd] at e3; cases e3
        obtain ⟨rfl, _⟩ := rep_str r1
        obtain ⟨rfl, _⟩ := rep_int r2
        exact .inr (.inr (.inl ⟨z, i, d', rfl, rfl, szOk_le hz, hd, q _ H' [] s1 (.str _) (fresh_nil _ _)⟩))
    · cases e3
  · rename_i kvs
    split at e3
    · rename_i k hk
      cases hd : glook kvs k with
      | none => rw [hd] at e3; cases e3
      | some d' =>
        rw [hd] at e3; cases e3
        obtain ⟨p, o, rfl, hg, _, _, h4⟩ := dic_get r1 k
        obtain ⟨w, G', e6, h5⟩ := h4 _ hd
        subst e6
        rw [key_kV r2 hk]
        exact .inr (.inr (.inr (.inl ⟨p, w, rfl, hg, q w H' G' s1 h5 fresh_no⟩)))
    · cases e3
  · rename_i kvs x'
    cases hd : kvs.lookup x' with
    | none => rw [hd] at e3; cases e3
    | some d' =>
      rw [hd] at e3; cases e3
      obtain ⟨T, rfl, _, S, ha⟩ := rep_tab r1
      obtain ⟨rfl, _⟩ := rep_str r2
      exact .inr (.inr (.inr (.inr ⟨T, kvs, x', d', rfl, S, rfl, hd, q _ H' [] s1 (rep_dOfV (lookup_all (p := scal1) ha hd)) (fresh_nil _ _)⟩)))
  · cases e3⟩
/-! slices -/
def WO (X : Cx) (e : Option Expr) : TO := fun σ H Q => ∀ (pins : List (Addr × Obj)) (s : Shared), Inv X pins σ H s → wpAny (model X.prog X.w) X.A (evalPart e X.env) (fun u s' => ∃ o H', Inv X pins σ H' s' ∧ IsPart u o ∧ Q o H') X.xe s
theorem poW {e : Option Expr} : PO X e (WO X e) := ⟨fun pins s _ _ _ I h => h pins s I⟩
structure JO (X : Cx) (e : Option Expr) (p : S → Option (Option Int)) : Prop where
  run : ∀ (m : List Addr) (F0 : Fq) (σ : St) (H : Hp) (s : S), Rl (ct X) m F0 σ H s → ∀ k, p s = some k → ∀ R : Option Int → Hp → Prop, (∀ H', Same H H' → R k H') → WO X e σ H R
def oNo : S → Option (Option Int) := fun _ => some none
def oE (p : PV) : S → Option (Option Int) := fun s => match p s with
  | some (.int i, _) => some (some i)
  | _ => none
theorem jo_no : JO X none oNo := ⟨fun m F0 σ H s r k e R q => by cases e; exact fun pins s I => po_none.run pins s σ H R I (q H (Same.refl _))⟩
theorem jo_e (h : JP X e p) : JO X (some e) (oE p) := ⟨fun m F0 σ H s r k ek R q => by
  unfold oE at ek
  split at ek
  · rename_i i f hi
    cases ek
    exact fun pins s' I => (po_some peW).run pins s' σ H R I (h.run m F0 σ H s r _ f hi _ fun v H' F s1 r1 _ => by
      obtain ⟨rfl, _⟩ := rep_int r1
      exact ⟨i, rfl, q H' s1⟩)
  · cases ek⟩
def pSl (p : PV) (l u : S → Option (Option Int)) : PV := fun s => match p s with
  | some (x, _) => match l s with
    | some lv => match u s with
      | some uv => dSl x lv uv
      | none => none
    | none => none
  | none => none
theorem RepL.cut {c : Ct} {m : List Addr} {H : Hp} {xs : List V} {ds : List D} {F : List Addr} (r : RepL c m H xs ds F) (lo hi : Option Int) : ∃ G, RepL c m H (cutV xs lo hi) (Dn.cut ds lo hi) G ∧ (immL ds = true → G = []) := by
  unfold Dn.cut cutV
  rw [r.length]
  obtain ⟨G, h1, A, e1⟩ := r.drop (HT.sIx ds.length 0 lo)
  obtain ⟨G', h2, A', e2⟩ := h1.take (HT.sIx ds.length ds.length hi - HT.sIx ds.length 0 lo)
  refine ⟨G', h2, fun z => ?_⟩
  rw [r.imm z, e2] at e1
  simp at e1
  exact e1.2.1
theorem cut_all {α : Type} {xs : List α} {lo hi : Option Int} (h : HT.sIx xs.length 0 lo = 0 ∧ HT.sIx xs.length xs.length hi = xs.length) : cut xs lo hi = xs := by
  unfold cut
  rw [h.1, h.2]
  simp
theorem sl_run {m : List Addr} {H H1 : Hp} {v : V} {x d : D} {F1 : List Addr} {lo hi : Option Int} {fr : Bool} {Q : VK} (s1 : Same H H1) (r1 : Rep (ct X) m H1 v x F1) (ee : dSl x lo hi = some (d, fr)) (q : VOk X m H d fr Q) :
    (rSlA X.K v lo hi H1 Q ∨ rSlL X.K v lo hi H1 Q) ∨ C8.rSlX v lo hi H1 Q := by
  unfold dSl at ee
  split at ee
  · rename_i ds
    cases ee
    obtain ⟨p, xs, rfl, hp, hx⟩ := rep_tup r1
    obtain ⟨G, h2, h3⟩ := hx.cut lo hi
    refine .inl (.inl ⟨p, xs, rfl, hp, fun hw => ?_, fun hw w hpw => ?_⟩)
    · have ee : cut ds lo hi = ds := cut_all (by rw [← hx.length]; exact hw)
      exact q (.ref p) H1 F1 s1 (.tup hp (by rw [ee]; exact hx)) fun z => by rw [hx.imm z]; exact ⟨List.nodup_nil, by simp⟩
    · exact q (.ref w) _ G (s1.trans (same_new hpw)) (.tup (SqT.of upd_same) (h2.same (same_new hpw))) fun z => by rw [h3 z]; exact ⟨List.nodup_nil, by simp⟩
  · rename_i ds
    cases ee
    obtain ⟨p, xs, G0, rfl, _, hp, hx⟩ := rep_lst r1
    obtain ⟨G, h2, h3⟩ := hx.cut lo hi
    refine .inl (.inr ⟨p, xs, rfl, SqL.of hp, fun w hpw => ?_⟩)
    refine q (.ref w) _ (w :: G) (s1.trans (same_new hpw)) (.lst upd_same (h2.same (same_new hpw))) fun z => ?_
    rw [h3 z]
    exact ⟨by simp, by simpa using s1.free hpw⟩
  · rename_i z
    split at ee
    · rename_i hz
      cases ee
      obtain ⟨rfl, _⟩ := rep_str r1
      exact .inr ⟨z, rfl, szOk_le hz, q _ H1 [] s1 (.str _) (fresh_nil _ _)⟩
    · cases ee
  · cases ee
theorem jp_sl {l u : S → Option (Option Int)} {lo hi : Option Expr} {p2 : Pos} (h : JP X e p) (hl : JO X lo l) (hu : JO X hi u) : JP X (.Subscript e (.Slice lo hi none p2) pos) (pSl p l u) := ⟨fun m F0 σ H s r d fr ee Q q => by
  unfold pSl at ee
  split at ee
  · rename_i x f hx
    split at ee
    · rename_i lv hlv
      split at ee
      · rename_i uv huv
        exact w_sl ((sl_tupA.or sl_list).or C8.sl_txt) poW poW (h.run m F0 σ H s r x f hx _ fun v H1 F1 s1 r1 _ => hl.run m F0 σ H1 s (r.same s1) lv hlv _ fun H2 s2 => hu.run m F0 σ H2 s ((r.same s1).same s2) uv huv _ fun H3 s3 => sl_run ((s1.trans s2).trans s3) ((r1.same s2).same s3) ee q)
      · cases ee
    · cases ee
  · cases ee⟩
end
end Dn
set_option Elab.async false
set_option linter.all false
set_option maxRecDepth 100000
set_option maxHeartbeats 4000000
/-! attributes, built-in calls and methods -/
namespace Dn
open PySem PySem.Spec PyProof.Rows L2 Tr
structure FA (X : Cx) (C : Addr) (f : Str) : Prop where
  cl : Cls X.K C
  na : NoAttr X.K C f
def S.at (s : S) (n : Nat) : Option D := (s.obj[n]?).bind Lc.dat
def pFld (C : Addr) (f : Str) (p : PV) : PV := fun s => match p s with
  | some (.ptr n, _) => match s.at n with
    | some (.ins C' fs) => if C' = C then (glook fs f).map fun d => (d, false) else none
    | _ => none
  | _ => none
section
variable {X : Cx} {e a b o : Expr} {es : List Expr} {pos : Pos} {p q pa pb : PV} {x : Str} {ps : S → Option (List (D × Bool))}
theorem oref_get {m : List Addr} {n : Nat} {a : Addr} (h : m[n]? = some a) : (oref m)[n]? = some (some (.ref a)) := by
  unfold oref
  rw [List.getElem?_map, h]
  rfl
theorem Rl.objAt {c : Ct} {m : List Addr} {F0 : Fq} {H : Hp} {σ : St} {s : S} {n : Nat} {d : D} {a : Addr} (r : Rl c m F0 σ H s) (e : s.at n = some d) (hn : m[n]? = some a) : ∃ G, Rep c m H (.ref a) d G := by
  obtain ⟨F1, F2, _, _, h2, _⟩ := r
  unfold S.at at e
  cases hl : s.obj[n]? with
  | none => rw [hl] at e; cases e
  | some l =>
    rw [hl] at e
    obtain ⟨ov, A, B, G, ho, _, le, _⟩ := h2.at_ hl
    rw [oref_get hn] at ho
    cases ho
    obtain ⟨v, G', e1, r'⟩ := le.dat e
    cases e1
    exact ⟨G', r'⟩
theorem ins_get {c : Ct} {m : List Addr} {H : Hp} {v : V} {C : Addr} {fs : List (Str × D)} {F : List Addr} {f : Str} {d : D} (r : Rep c m H v (.ins C fs) F) (h : glook fs f = some d) : ∃ a dx fx w G, v = .ref a ∧ H a = some (.ins C dx fx) ∧ fx.lookup f = some w ∧ Rep c m H w d G := by
  obtain ⟨a, dx, fx, G, rfl, rfl, hs, hd, hk, rr⟩ := rep_ins r
  by_cases hm : f ∈ fs.map Prod.fst
  · obtain ⟨i, hi, hf⟩ := g_some hm
    rw [(hf (kx := fs) rfl).1] at h
    obtain ⟨w, A, B, G', h1, _, h3, _⟩ := rr.get h
    exact ⟨a, dx, fx, w, G', rfl, hs, by rw [lookup_g, (hf (kx := fx) hk).1]; exact h1, h3⟩
  · rw [(g_none hm rfl).1] at h
    cases h
theorem jp_fld {C : Addr} {f : Str} (A : FA X C f) (h : JP X e p) (hb : attributeBase e f X.env (eval e X.env) = eval e X.env := by rfl) : JP X (.Attribute e f pos) (pFld C f p) := ⟨fun m F0 σ H s r d fr ee Q q => by
  unfold pFld at ee
  split at ee
  · rename_i n fl hn
    split at ee
    · rename_i C' fs hs
      split at ee
      · rename_i hC
        subst hC
        cases hd : glook fs f with
        | none => rw [hd] at ee; cases ee
        | some d' =>
          rw [hd] at ee; cases ee
          refine w_fld (h.run m F0 σ H s r _ fl hn _ fun v H1 F1 s1 r1 _ => ?_) hb
          obtain ⟨a, rfl, _, hm⟩ := rep_ptr r1
          obtain ⟨G, rr⟩ := (r.same s1).objAt hs hm
          obtain ⟨a', dx, fx, w, G', e1, h2, h3, h4⟩ := ins_get rr hd
          cases e1
          exact ⟨a, C', dx, fx, w, rfl, h2, A.cl, A.na, h3, q w H1 G' s1 h4 fresh_no⟩
      · cases ee
    · cases ee
  · cases ee⟩
/-! calls -/
def rC (X : Cx) (g : List D → Option (D × Bool)) : List V → Hp → VK → Prop := fun xs H Q => ∃ m ds F d fr, RepL (ct X) m H xs ds F ∧ g ds = some (d, fr) ∧ VOk X m H d fr Q
def CallD (X : Cx) (f : Value) (g : List D → Option (D × Bool)) : Prop := CallR X f (rC X g)
theorem CallD.mk {f : Value} {g : List D → Option (D × Bool)} {r : List V → Hp → VK → Prop} (h : CallR X f r) (k : ∀ m H xs ds F d fr Q, RepL (ct X) m H xs ds F → g ds = some (d, fr) → VOk X m H d fr Q → r xs H Q) : CallD X f g :=
  fun pins s σ H xs us Q I rx ⟨m, ds, F, d, fr, h1, h2, h3⟩ => h pins s σ H xs us Q I rx (k m H xs ds F d fr Q h1 h2 h3)
def pCall (g : List D → Option (D × Bool)) (ps : S → Option (List (D × Bool))) : PV := fun s => match ps s with
  | some ds => g (ds.map Prod.fst)
  | none => none
theorem jp_callB {g : List D → Option (D × Bool)} {id : String} {p1 : Pos} (hc : CallD X (.builtin id) g) (hm : X.mg x = none) (hv : bootBuiltins x = some (.builtin id)) (h : JA X (e :: es) ps) (hg : Gl X x := by rfl)
    (hdb : (x == ("__debug__" : Str)) = false := by decide) (hn : x ≠ "__name__" := by decide) (he : starEach (e :: es) X.env = (false, eval e X.env) :: starEach es X.env := by rfl) (hpl : (backTo pos (starEach es X.env)).any (·.1) = false := by rfl) :
    JP X (.Call (.Name x p1) (e :: es) [] pos) (pCall g ps) := ⟨fun m F0 σ H s r d fr ee Q q => by
  unfold pCall at ee
  split at ee
  · rename_i ds hds
    exact w_callB hc hm hv (h.run m F0 σ H s r ds hds _ fun vs H1 F s1 r1 _ => ⟨m, _, F, d, fr, r1, ee, fun v H2 F2 s2 r2 n2 => q v H2 F2 (s1.trans s2) r2 (n2.back s1)⟩) hg hdb hn he hpl
  · cases ee⟩
theorem jp_callT {g : List D → Option (D × Bool)} {id : String} {p1 : Pos} (hc : CallD X (.type id) g) (hm : X.mg x = none) (hv : bootBuiltins x = some (.type id)) (h : JA X (e :: es) ps) (hg : Gl X x := by rfl)
    (hdb : (x == ("__debug__" : Str)) = false := by decide) (hn : x ≠ "__name__" := by decide) (he : starEach (e :: es) X.env = (false, eval e X.env) :: starEach es X.env := by rfl) (hpl : (backTo pos (starEach es X.env)).any (·.1) = false := by rfl) :
    JP X (.Call (.Name x p1) (e :: es) [] pos) (pCall g ps) := ⟨fun m F0 σ H s r d fr ee Q q => by
  unfold pCall at ee
  split at ee
  · rename_i ds hds
    exact w_callT hc hm hv (h.run m F0 σ H s r ds hds _ fun vs H1 F s1 r1 _ => ⟨m, _, F, d, fr, r1, ee, fun v H2 F2 s2 r2 n2 => q v H2 F2 (s1.trans s2) r2 (n2.back s1)⟩) hg hdb hn he hpl
  · cases ee⟩
def dLen : List D → Option (D × Bool)
  | [.lst ds] => some (.int ds.length, true)
  | [.tup ds] => some (.int ds.length, true)
  | [.frz ns] => some (.int ns.length, true)
  | [.str z] => if szOk z.length then some (.int z.length, true) else none
  | _ => none
theorem repL1 {c : Ct} {m : List Addr} {H : Hp} {xs : List V} {d : D} {F : List Addr} (r : RepL c m H xs [d] F) : ∃ v, xs = [v] ∧ Rep c m H v d F := by
  cases r with
  | cons r t =>
    cases t
    rw [List.append_nil]
    exact ⟨_, rfl, r⟩
theorem repL2 {c : Ct} {m : List Addr} {H : Hp} {xs : List V} {d d2 : D} {F : List Addr} (r : RepL c m H xs [d, d2] F) : ∃ v w F1 F2, xs = [v, w] ∧ F = F1 ++ F2 ∧ Rep c m H v d F1 ∧ Rep c m H w d2 F2 := by
  cases r with
  | cons r t =>
    obtain ⟨w, rfl, r2⟩ := repL1 t
    exact ⟨_, w, _, _, rfl, rfl, r, r2⟩
theorem cd_len : CallD X (.builtin "len") dLen := CallD.mk call_len fun m H xs ds F d fr Q r e q => by
  unfold dLen at e
  split at e
  · cases e
    obtain ⟨v, rfl, r1⟩ := repL1 r
    obtain ⟨p, ys, G, rfl, _, hp, hx⟩ := rep_lst r1
    exact ⟨_, _, rfl, .inl ⟨ys, SqL.of hp, rfl⟩, by rw [hx.length]; exact q.now (.int _)⟩
  · cases e
    obtain ⟨v, rfl, r1⟩ := repL1 r
    obtain ⟨p, ys, rfl, hp, hx⟩ := rep_tup r1
    exact ⟨_, _, rfl, .inr ⟨ys, hp, rfl⟩, by rw [hx.length]; exact q.now (.int _)⟩
  · cases e
    obtain ⟨v, rfl, r1⟩ := repL1 r
    obtain ⟨p, rfl, _, hp⟩ := rep_frz r1
    exact ⟨_, _, rfl, .inl ⟨_, hp.sq, rfl⟩, by rw [List.length_map]; exact q.now (.int _)⟩
  · split at e
    · rename_i hz
      cases e
      obtain ⟨v, rfl, r1⟩ := repL1 r
      obtain ⟨rfl, _⟩ := rep_str r1
      exact ⟨_, _, rfl, ⟨szOk_le hz, rfl⟩, q.now (.int _)⟩
    · cases e
  · cases e
def dInt : List D → Option (D × Bool)
  | [.int i] => some (.int i, true)
  | [.bl b] => some (.int (if b then 1 else 0), true)
  | [.str z] => match PySem.intText? z with
    | some n => if z.length ≤ 640 then some (.int n, true) else none
    | none => none
  | _ => none
theorem cd_int : CallD X (.type "int") dInt := CallD.mk (call_int1.or call_int_str) fun m H xs ds F d fr Q r e q => by
  unfold dInt at e
  split at e
  · cases e
    obtain ⟨v, rfl, r1⟩ := repL1 r
    obtain ⟨rfl, _⟩ := rep_int r1
    exact .inl (.inl ⟨_, rfl, q.now (.int _)⟩)
  · cases e
    obtain ⟨v, rfl, r1⟩ := repL1 r
    obtain ⟨rfl, _⟩ := rep_bl r1
    exact .inl (.inr ⟨_, rfl, q.now (.int _)⟩)
  · split at e
    · rename_i n hn
      split at e
      · rename_i hz
        cases e
        obtain ⟨v, rfl, r1⟩ := repL1 r
        obtain ⟨rfl, _⟩ := rep_str r1
        exact .inr ⟨_, n, rfl, hn, hz, q.now (.int _)⟩
      · cases e
    · cases e
  · cases e
def dStr : List D → Option (D × Bool)
  | [.int i] => if i.natAbs.log2 < 1920 then some (.str (toString i), true) else none
  | _ => none
theorem cd_str : CallD X (.type "str") dStr := CallD.mk call_str_int fun m H xs ds F d fr Q r e q => by
  unfold dStr at e
  split at e
  · split at e
    · rename_i hz
      cases e
      obtain ⟨v, rfl, r1⟩ := repL1 r
      obtain ⟨rfl, _⟩ := rep_int r1
      exact ⟨_, rfl, hz, q.now (.str _)⟩
    · cases e
  · cases e
def dList : List D → Option (D × Bool)
  | [.lst ds] => some (.lst ds, immL ds)
  | [.tup ds] => some (.lst ds, immL ds)
  | [.frz ns] => some (.lst (ns.map .int), true)
  | _ => none
theorem repL_ints {c : Ct} {m : List Addr} {H : Hp} : ∀ ns : List Int, RepL c m H (ns.map V.int) (ns.map D.int) []
  | [] => .nil
  | n :: r => .cons (.int n) (repL_ints r)
theorem fresh_new {H H1 : Hp} {w : Addr} {G : List Addr} {fr : Bool} (s1 : Same H H1) (hw : H1 w = none) (h : fr = true → G = []) : Fresh H fr (w :: G) := fun z => by
  rw [h z]
  exact ⟨by simp, by simpa using s1.free hw⟩
theorem cd_list : CallD X (.type "list") dList := CallD.mk call_list_of fun m H xs ds F d fr Q r e q => by
  unfold dList at e
  split at e
  · cases e
    obtain ⟨v, rfl, r1⟩ := repL1 r
    obtain ⟨p, ys, G, rfl, _, hp, hx⟩ := rep_lst r1
    exact ⟨_, _, rfl, .inl (SqL.of hp), fun w hw => q (.ref w) _ (w :: G) (same_new hw) (.lst upd_same (hx.same (same_new hw))) (fresh_new (Same.refl _) hw hx.imm)⟩
  · cases e
    obtain ⟨v, rfl, r1⟩ := repL1 r
    obtain ⟨p, ys, rfl, hp, hx⟩ := rep_tup r1
    exact ⟨_, _, rfl, .inr hp, fun w hw => q (.ref w) _ (w :: F) (same_new hw) (.lst upd_same (hx.same (same_new hw))) (fresh_new (Same.refl _) hw hx.imm)⟩
  · cases e
    obtain ⟨v, rfl, r1⟩ := repL1 r
    obtain ⟨p, rfl, _, hp⟩ := rep_frz r1
    exact ⟨_, _, rfl, .inl hp.sq, fun w hw => q (.ref w) _ [w] (same_new hw) (.lst upd_same (repL_ints _)) (fresh_new (Same.refl _) hw fun _ => rfl)⟩
  · cases e
def dTuple : List D → Option (D × Bool)
  | [.lst ds] => some (.tup ds, immL ds)
  | [.tup ds] => some (.tup ds, immL ds)
  | [.frz ns] => some (.tup (ns.map .int), true)
  | _ => none
theorem fresh_imm {H : Hp} {G : List Addr} {fr : Bool} (h : fr = true → G = []) : Fresh H fr G := fun z => by
  rw [h z]
  exact ⟨List.nodup_nil, by simp⟩
theorem cd_tuple : CallD X (.type "tuple") dTuple := CallD.mk call_tuple_of fun m H xs ds F d fr Q r e q => by
  unfold dTuple at e
  split at e
  · cases e
    obtain ⟨v, rfl, r1⟩ := repL1 r
    obtain ⟨p, ys, G, rfl, _, hp, hx⟩ := rep_lst r1
    exact ⟨_, _, rfl, .inl ⟨SqL.of hp, fun w hw => q (.ref w) _ G (same_new hw) (.tup (SqT.of upd_same) (hx.same (same_new hw))) (fresh_imm hx.imm)⟩⟩
  · cases e
    obtain ⟨v, rfl, r1⟩ := repL1 r
    obtain ⟨p, ys, rfl, hp, hx⟩ := rep_tup r1
    exact ⟨_, _, rfl, .inr ⟨hp, q (.ref p) H F (Same.refl _) (.tup hp hx) (fresh_imm hx.imm)⟩⟩
  · cases e
    obtain ⟨v, rfl, r1⟩ := repL1 r
    obtain ⟨p, rfl, _, hp⟩ := rep_frz r1
    exact ⟨_, _, rfl, .inl ⟨hp.sq, fun w hw => q (.ref w) _ [] (same_new hw) (.tup (SqT.of upd_same) (repL_ints _)) (fresh_nil _ _)⟩⟩
  · cases e
def dMax : List D → Option (D × Bool)
  | [.int i, .int j] => some (.int (if j > i then j else i), true)
  | _ => none
def dMin : List D → Option (D × Bool)
  | [.int i, .int j] => some (.int (if j < i then j else i), true)
  | _ => none
theorem cd_max (hc : X.calm = true) : CallD X (.builtin "max") dMax := CallD.mk (call_max2 hc) fun m H xs ds F d fr Q r e q => by
  unfold dMax at e
  split at e
  · cases e
    obtain ⟨v, w, F1, F2, rfl, _, r1, r2⟩ := repL2 r
    obtain ⟨rfl, _⟩ := rep_int r1
    obtain ⟨rfl, _⟩ := rep_int r2
    exact ⟨_, _, rfl, q.now (.int _)⟩
  · cases e
theorem cd_min (hc : X.calm = true) : CallD X (.builtin "min") dMin := CallD.mk (call_min2 hc) fun m H xs ds F d fr Q r e q => by
  unfold dMin at e
  split at e
  · cases e
    obtain ⟨v, w, F1, F2, rfl, _, r1, r2⟩ := repL2 r
    obtain ⟨rfl, _⟩ := rep_int r1
    obtain ⟨rfl, _⟩ := rep_int r2
    exact ⟨_, _, rfl, q.now (.int _)⟩
  · cases e
/-! isinstance -/
def isD (T : String) (d : D) : Option Bool := match d with
  | .non => some false
  | .bl _ => some (T == "bool" || T == "int")
  | .int _ => some (T == "int")
  | .str _ => some (T == "str")
  | .tup _ => some (T == "tuple")
  | .lst _ => some (T == "list")
  | .frz _ => some (T == "list")
  | .dic _ => some (T == "dict")
  | _ => none
def tyS : D → String
  | .bl _ => "bool"
  | .int _ => "int"
  | .str _ => "str"
  | .tup _ => "tuple"
  | .lst _ => "list"
  | .frz _ => "list"
  | .dic _ => "dict"
  | _ => "NoneType"
def isOk (T : String) : Bool := T == "bool" || T == "int" || T == "str" || T == "tuple" || T == "list" || T == "dict"
theorem kit_all : (["bool", "int", "str", "tuple", "list", "dict"].all fun T => ["NoneType", "bool", "int", "str", "tuple", "list", "dict"].all fun t => decide (kitB t T = some (t == T || (t == "bool" && T == "int")))) = true := by decide +kernel
theorem kit_is {T : String} (h : isOk T = true) {d : D} {b : Bool} (e : isD T d = some b) : kitB (tyS d) T = some b := by
  have hT : T ∈ ["bool", "int", "str", "tuple", "list", "dict"] := by
    unfold isOk at h
    simp only [Bool.or_eq_true, beq_iff_eq] at h
    simp only [List.mem_cons, List.not_mem_nil, or_false]
    rcases h with ((((h | h) | h) | h) | h) | h <;> simp [h]
  have ht : tyS d ∈ ["NoneType", "bool", "int", "str", "tuple", "list", "dict"] := by cases d <;> simp [tyS]
  have k := of_decide_eq_true (List.all_eq_true.mp (List.all_eq_true.mp kit_all T hT) (tyS d) ht)
  rw [k]
  simp only [List.mem_cons, List.not_mem_nil, or_false] at hT
  cases d <;> cases e <;> rcases hT with h | h | h | h | h | h <;> subst h <;> rfl
theorem rep_ty {m : List Addr} {H : Hp} {v : V} {d : D} {F : List Addr} {T : String} {b : Bool} (r : Rep (ct X) m H v d F) (e : isD T d = some b) : TyX X.K H v (.type (tyS d)) := by
  cases r with
  | non => exact .base .non
  | bl b => exact .base (.bl b)
  | int i => exact .base (.int i)
  | str x => exact .base (.str x)
  | tup h _ =>
    rcases h with (h | ⟨o, h⟩) | ⟨o, its, n, h1, h2, _⟩
    · exact .base (.tup h)
    · exact .fTuple h
    · exact .kTuple h1 h2
  | lst h _ => exact .base (.lst h)
  | dic h _ _ _ => exact .base (.dK h)
  | frz h =>
    rcases h with ⟨o, h⟩ | h
    · exact .base (.frz h)
    · rcases h (fun _ => none) with (h | ⟨o, h⟩) | ⟨o, its, n, h1, h2, _⟩
      · cases h
      · cases h
      · exact .kList h1 h2
  | _ => cases e
def pIsi (T : String) (p : PV) : PV := fun s => match p s with
  | some (d, _) => (isD T d).map fun b => (.bl b, true)
  | none => none
theorem jp_isi {T : String} {n : Str} {p1 p2 : Pos} (hT : bootBuiltins n = some (.type T)) (hm : X.mg "isinstance" = none) (hn : X.mg n = none) (h : JP X a p) (hk : isOk T = true := by rfl)
    (hg : Gl X "isinstance" := by rfl) (hg2 : Gl X n := by rfl) (h1 : n ≠ "__name__" := by decide) (h2 : (n == ("__debug__" : Str)) = false := by decide)
    (he : starEach [a, .Name n p2] X.env = (false, eval a X.env) :: starEach [.Name n p2] X.env := by rfl) (he2 : starEach [.Name n p2] X.env = [(false, eval (.Name n p2) X.env)] := by rfl) (hpl : (backTo pos (starEach [.Name n p2] X.env)).any (·.1) = false := by rfl) :
    JP X (.Call (.Name "isinstance" p1) [a, .Name n p2] [] pos) (pIsi T p) := ⟨fun m F0 σ H s r d fr ee Q q => by
  unfold pIsi at ee
  split at ee
  · rename_i x f hx
    cases hb : isD T x with
    | none => rw [hb] at ee; cases ee
    | some b =>
      rw [hb] at ee; cases ee
      exact w_callB call_isi hm bt_isinstance (wa_cons (h.run m F0 σ H s r x f hx _ fun v H1 F s1 r1 _ => wa_cons (w_blt (v := .ty T) hn hT rfl (wa_nil ⟨v, .ty T, _, _, b, rfl, .ty T, rep_ty r1 hb, kit_ty (kit_is hk hb), q _ H1 [] s1 (.bl _) (fresh_nil _ _)⟩) hg2 h1 h2) he2) he) hg (he := he) (hpl := hpl)
  · cases ee⟩
end
end Dn
set_option Elab.async false
set_option linter.all false
set_option maxRecDepth 100000
set_option maxHeartbeats 4000000
/-! expressions that may change what is owned -/
namespace Dn
open PySem PySem.Spec PyProof.Rows L2 Tr
/-- an exception: its class, its fields -/
structure Exn where
  C : Addr
  fs : List (Str × D)
inductive Res (α : Type) where
  | ok (a : α) (s : S)
  | ex (x : Exn) (s : S)
abbrev EV := S → Option (Res D)
abbrev ET := S → Option (Res Bool)
abbrev EA := S → Option (Res (List D))
def Mx (m m' : List Addr) : Prop := ∀ (n : Nat) (a : Addr), m[n]? = some a → m'[n]? = some a
theorem Mx.refl (m : List Addr) : Mx m m := fun _ _ h => h
theorem Mx.trans {a b c : List Addr} (x : Mx a b) (y : Mx b c) : Mx a c := fun n z h => y n z (x n z h)
def PX (s s' : S) : Prop := ∀ (i : Nat) d', s'.loc[i]? = some (.par d') → ∃ d, s.loc[i]? = some (.par d)
theorem PX.refl (s : S) : PX s s := fun _ d h => ⟨d, h⟩
theorem PX.trans {a b c : S} (x : PX a b) (y : PX b c) : PX a c := fun i d h => let ⟨d', h'⟩ := y i d h; x i d' h'
/-- the state behind something that has left a value whose places are F -/
structure Af (c : Ct) (m : List Addr) (F0 : Fq) (H : Hp) (s : S) (σ : St) (F : List Addr) (m' F1 : List Addr) (H' : Hp) (s' : S) : Prop where
  mx : Mx m m'
  rl : Rl c m' (F ++ F0.1, F1) σ H' s'
  ex : Ext F0.2 H (F ++ F1) H'
  px : PX s s'
/-- what is wanted of an exception (none is let out so far) -/
def XOk (X : Cx) (x : Exn) (s' : S) : Prop := False
def EPost (X : Cx) (m : List Addr) (F0 : Fq) (σ : St) (H : Hp) (s : S) (Q : VK) : Option (Res D) → Prop
  | some (.ok d s') => ∀ v H' m' F F1, Af (ct X) m F0 H s σ F m' F1 H' s' → Rep (ct X) m' H' v d F → Q v H'
  | some (.ex x s') => XOk X x s'
  | none => False
def TPost (X : Cx) (m : List Addr) (F0 : Fq) (σ : St) (H : Hp) (s : S) (Q : Bool → Hp → Prop) : Option (Res Bool) → Prop
  | some (.ok b s') => ∀ H' m' F1, Af (ct X) m F0 H s σ [] m' F1 H' s' → Q b H'
  | some (.ex x s') => XOk X x s'
  | none => False
def APost (X : Cx) (m : List Addr) (F0 : Fq) (σ : St) (H : Hp) (s : S) (Q : List V → Hp → Prop) : Option (Res (List D)) → Prop
  | some (.ok ds s') => ∀ vs H' m' F F1, Af (ct X) m F0 H s σ F m' F1 H' s' → RepL (ct X) m' H' vs ds F → Q vs H'
  | some (.ex x s') => XOk X x s'
  | none => False
structure JE (X : Cx) (e : Expr) (p : EV) : Prop where
  run : ∀ (m : List Addr) (F0 : Fq) (σ : St) (H : Hp) (s : S), Rl (ct X) m F0 σ H s → ∀ Q : VK, EPost X m F0 σ H s Q (p s) → WE X e σ H Q
structure JTE (X : Cx) (e : Expr) (p : ET) : Prop where
  run : ∀ (m : List Addr) (F0 : Fq) (σ : St) (H : Hp) (s : S), Rl (ct X) m F0 σ H s → ∀ Q : Bool → Hp → Prop, TPost X m F0 σ H s Q (p s) → WT X e σ H Q
structure JWE (X : Cx) (e : Expr) (p : ET) : Prop where
  run : ∀ (m : List Addr) (F0 : Fq) (σ : St) (H : Hp) (s : S), Rl (ct X) m F0 σ H s → ∀ Q : Bool → Hp → Prop, TPost X m F0 σ H s Q (p s) → WW X e σ H Q
structure JEA (X : Cx) (es : List Expr) (p : EA) : Prop where
  run : ∀ (m : List Addr) (F0 : Fq) (σ : St) (H : Hp) (s : S), Rl (ct X) m F0 σ H s → ∀ Q : List V → Hp → Prop, APost X m F0 σ H s Q (p s) → WA X es σ H Q
def eB {α β : Type} (p : S → Option (Res α)) (f : α → S → Option (Res β)) : S → Option (Res β) := fun s => match p s with
  | some (.ok a s1) => f a s1
  | some (.ex x s1) => some (.ex x s1)
  | none => none
section
variable {c : Ct} {m m' : List Addr} {H H' : Hp} {s s' : S} {σ : St} {F0 : Fq}
/-- other things in hand -/
theorem Rl.hand {P P2 F : List Addr} (r : Rl c m (P, F) σ H s) (x : Same H H') (nd : (P2 ++ F).Nodup) (h : ∀ a ∈ P2, (a ∈ P ∨ H a = none) ∧ MutAt H' a) : Rl c m (P2, F) σ H' s := by
  obtain ⟨F1, F2, e, h1, h2, h3, h4⟩ := r
  have sub : ∀ a ∈ P2 ++ F, a ∈ P ++ F ∨ H a = none := fun a ha => (List.mem_append.mp ha).elim (fun z => (h a z).1.elim (fun q => .inl (by simp [q])) .inr) fun z => .inl (by simp [z])
  exact ⟨F1, F2, e, h1.change (G := []) (kp_same x) (by simp) (by simp) (fun _ _ h => h) sub (by simp), h2.change (G := []) (kp_same x) (by simp) (by simp) (fun _ _ h => h) sub (by simp), nd, fun a z => (h a z).2⟩
/-- a value that was just made -/
theorem Rl.push {F : List Addr} {v : V} {d : D} {fr : Bool} (r : Rl c m F0 σ H s) (x : Same H H') (q : Rep c m H' v d F) (n : Fresh H fr F) (hf : fr = true ∨ d.imm = true) : Rl c m (F ++ F0.1, F0.2) σ H' s := by
  have z : F.Nodup ∧ ∀ a ∈ F, H a = none := by
    rcases hf with hf | hf
    · exact n hf
    · rw [q.imm hf]; exact ⟨List.nodup_nil, by simp⟩
  refine Rl.hand (P := F0.1) (F := F0.2) r x ?_ fun a ha => ?_
  · rw [List.append_assoc, List.nodup_append]
    exact ⟨z.1, r.nd, fun a ha b hb e => by subst e; exact (r.mut a hb).some (z.2 a ha)⟩
  · rcases List.mem_append.mp ha with h | h
    · exact ⟨.inr (z.2 a h), q.mut a h⟩
    · exact ⟨.inl h, (r.mut a (by simp [h])).same x⟩
theorem Af.push {F : List Addr} {v : V} {d : D} {fr : Bool} (r : Rl c m F0 σ H s) (x : Same H H') (q : Rep c m H' v d F) (n : Fresh H fr F) (hf : fr = true ∨ d.imm = true) : Af c m F0 H s σ F m F0.2 H' s := by
  refine ⟨Mx.refl m, r.push x q n hf, ⟨kp_same x, fun a ha => ?_⟩, PX.refl s⟩
  rcases List.mem_append.mp ha with h | h
  · rcases hf with hf | hf
    · exact .inr ((n hf).2 a h)
    · rw [q.imm hf] at h; simp at h
  · exact .inl h
theorem Af.same {c : Ct} {m : List Addr} {F0 : Fq} {σ : St} {H H' : Hp} {s : S} (r : Rl c m F0 σ H s) (x : Same H H') : Af c m F0 H s σ [] m F0.2 H' s :=
  ⟨Mx.refl m, r.same x, Ext.same x, PX.refl s⟩
/-- one behind the other -/
theorem Af.trans {F G m1 F1 F2 m2 : List Addr} {H1 H2 : Hp} {s1 s2 : S} (a : Af c m F0 H s σ F m1 F1 H1 s1) (b : Af c m1 (F ++ F0.1, F1) H1 s1 σ G m2 F2 H2 s2) : Af c m F0 H s σ (G ++ F) m2 F2 H2 s2 := by
  refine ⟨a.mx.trans b.mx, by have := b.rl; simpa using this, ?_, a.px.trans b.px⟩
  refine ⟨fun p o e hn => b.ex.kp p o (a.ex.kp p o e hn) fun z => ?_, fun p hp => ?_⟩
  · exact (a.ex.sub p (by simp [z])).elim hn fun q => by rw [e] at q; cases q
  · have case1 : p ∈ F1 ∨ H1 p = none → p ∈ F0.2 ∨ H p = none := fun h => h.elim (fun z => a.ex.sub p (by simp [z])) fun z => by
      cases e : H p with
      | none => exact .inr rfl
      | some o =>
        by_cases hz : p ∈ F0.2
        · exact .inl hz
        · rw [a.ex.kp p o e hz] at z; cases z
    rcases List.mem_append.mp hp with h | h
    · rcases List.mem_append.mp h with h | h
      · exact case1 (b.ex.sub p (by simp [h]))
      · exact a.ex.sub p (by simp [h])
    · exact case1 (b.ex.sub p (by simp [h]))
/-- what was in hand is as it was -/
theorem Af.rep {F G m1 F1 F2 m2 : List Addr} {P : List Addr} {H1 H2 : Hp} {s1 s2 : S} (b : Af c m1 (P, F1) H1 s1 σ G m2 F2 H2 s2) (r : Rl c m1 (P, F1) σ H1 s1) {v : V} {d : D} (q : Rep c m1 H1 v d F) (hF : ∀ a ∈ F, a ∈ P) : Rep c m2 H2 v d F :=
  q.keep b.ex.kp (fun a ha => r.mut a (by simp [ha])) b.mx fun a ha z => by
    have nd := r.nd
    rw [List.nodup_append] at nd
    exact nd.2.2 a (hF a ha) a z rfl
theorem Af.repL {F G m1 F1 F2 m2 : List Addr} {P : List Addr} {H1 H2 : Hp} {s1 s2 : S} (b : Af c m1 (P, F1) H1 s1 σ G m2 F2 H2 s2) (r : Rl c m1 (P, F1) σ H1 s1) {v : List V} {d : List D} (q : RepL c m1 H1 v d F) (hF : ∀ a ∈ F, a ∈ P) : RepL c m2 H2 v d F :=
  q.keep b.ex.kp (fun a ha => r.mut a (by simp [ha])) b.mx fun a ha z => by
    have nd := r.nd
    rw [List.nodup_append] at nd
    exact nd.2.2 a (hF a ha) a z rfl
/-- in the place of what is in hand another value, part of it or new -/
theorem Af.swap {F G m1 F1 : List Addr} {H1 H2 : Hp} {s1 : S} (a : Af c m F0 H s σ F m1 F1 H1 s1) (x : Same H1 H2) {v : V} {d : D} (q : Rep c m1 H2 v d G) (nd : G.Nodup) (h : ∀ b ∈ G, b ∈ F ∨ H1 b = none) : Af c m F0 H s σ G m1 F1 H2 s1 := by
  have nd0 := a.rl.nd
  have hb : ∀ b, b ∈ F ∨ H1 b = none → b ∈ F0.2 ∨ H b = none := fun b z => z.elim (fun z => a.ex.sub b (by simp [z])) fun z => by
    cases e : H b with
    | none => exact .inr rfl
    | some o =>
      by_cases hz : b ∈ F0.2
      · exact .inl hz
      · rw [a.ex.kp b o e hz] at z; cases z
  refine ⟨a.mx, Rl.hand a.rl x ?_ fun b hb => ?_, ⟨fun b o e hn => x b o (a.ex.kp b o e hn), fun b hbm => ?_⟩, a.px⟩
  · have e1 : ((F ++ F0.1) ++ F1).Nodup := nd0
    rw [List.append_assoc, List.nodup_append] at e1
    rw [List.append_assoc, List.nodup_append]
    refine ⟨nd, e1.2.1, fun p hp z hz e => ?_⟩
    subst e
    rcases h p hp with h1 | h1
    · exact e1.2.2 p h1 p hz rfl
    · exact (a.rl.mut p (by show p ∈ (F ++ F0.1) ++ F1; rw [List.append_assoc]; exact List.mem_append_right _ hz)).some h1
  · rcases List.mem_append.mp hb with h1 | h1
    · exact ⟨(h b h1).elim (fun z => .inl (by simp [z])) .inr, q.mut b h1⟩
    · exact ⟨.inl (by simp [h1]), (a.rl.mut b (by simp [h1])).same x⟩
  · rcases List.mem_append.mp hbm with h1 | h1
    · exact hb b (h b h1)
    · exact a.ex.sub b (by simp [h1])
theorem Af.swapN {F m1 F1 : List Addr} {H1 H2 : Hp} {s1 : S} (a : Af c m F0 H s σ F m1 F1 H1 s1) (x : Same H1 H2) : Af c m F0 H s σ [] m1 F1 H2 s1 :=
  a.swap x (v := .non) (d := .non) .non List.nodup_nil (by simp)
theorem Af.swapV {F G m1 F1 : List Addr} {H1 H2 : Hp} {s1 : S} {fr : Bool} (a : Af c m F0 H s σ F m1 F1 H1 s1) (x : Same H1 H2) {v : V} {d : D} (q : Rep c m1 H2 v d G) (n : Fresh H1 fr G) (hf : fr = true ∨ d.imm = true) : Af c m F0 H s σ G m1 F1 H2 s1 := by
  rcases hf with hf | hf
  · exact a.swap x q (n hf).1 fun b hb => .inr ((n hf).2 b hb)
  · have := q.imm hf
    subst this
    exact a.swap x q List.nodup_nil (by simp)
end
/-! pure ones -/
def okV (s : S) : Option (D × Bool) → Option (Res D)
  | some (d, fr) => if fr = true ∨ d.imm = true then some (.ok d s) else none
  | none => none
def eP (p : PV) : EV := fun s => okV s (p s)
def tP' (t : TB) : ET := fun s => (t s).map fun b => .ok b s
section
variable {X : Cx} {e a b c o : Expr} {es rest : List Expr} {pos : Pos} {p q pa pb pc : PV} {t u : TB} {x : Str} {ea eb ec : EV} {ta tb tc : ET} {as : EA}
theorem je_p (h : JP X e p) : JE X e (eP p) := ⟨fun m F0 σ H s r Q q => by
  unfold eP okV at q
  cases hp : p s with
  | none => rw [hp] at q; exact (show False from q).elim
  | some z =>
    obtain ⟨d, fr⟩ := z
    rw [hp] at q
    by_cases hf : fr = true ∨ d.imm = true
    · simp only [if_pos hf] at q
      exact h.run m F0 σ H s r d fr hp _ fun v H' F s1 r1 n1 => q v H' m F F0.2 (Af.push r s1 r1 n1 hf) r1
    · simp only [if_neg hf] at q
      exact (show False from q).elim⟩
theorem jte_p (h : JT X e t) : JTE X e (tP' t) := ⟨fun m F0 σ H s r Q q => by
  unfold tP' at q
  cases hp : t s with
  | none => rw [hp] at q; exact (show False from q).elim
  | some z =>
    rw [hp] at q
    exact h.run m F0 σ H s r z hp _ fun H' s1 => q H' m F0.2 (Af.same r s1)⟩
/-- two operands -/
theorem twoE (ha : JE X a ea) (hb : JE X b eb) {m : List Addr} {F0 : Fq} {σ : St} {H : Hp} {s : S} (r : Rl (ct X) m F0 σ H s) {β : Type} {f : D → D → S → Option (Res β)} {P : Option (Res β) → Prop} {R : V → V → Hp → Prop}
    (hx : ∀ x s', P (some (.ex x s')) → XOk X x s') (hn : ¬ P none)
    (k : ∀ x y s2 u v H2 m2 F1 F2 F', Af (ct X) m F0 H s σ (F2 ++ F1) m2 F' H2 s2 → Rep (ct X) m2 H2 u x F1 → Rep (ct X) m2 H2 v y F2 → P (f x y s2) → R u v H2)
    (q : P (eB ea (fun x => eB eb (fun y => f x y)) s)) : WE X a σ H fun u H1 => WE X b σ H1 fun v H2 => R u v H2 := by
  refine ha.run m F0 σ H s r _ ?_
  unfold eB at q
  cases he : ea s with
  | none => rw [he] at q; exact (hn q).elim
  | some z =>
    rw [he] at q
    cases z with
    | ex x s' => exact hx x s' q
    | ok x s1 =>
      intro u H1 m1 F1 F1' A r1
      refine hb.run m1 _ σ H1 s1 A.rl _ ?_
      cases he2 : eb s1 with
      | none => simp [he2] at q; exact (hn q).elim
      | some z =>
        simp only [he2] at q
        cases z with
        | ex x' s' => exact hx x' s' q
        | ok y s2 =>
          intro v H2 m2 F2 F2' B r2
          exact k x y s2 u v H2 m2 F1 F2 F2' (A.trans B) (B.rep A.rl r1 (by intro a ha; simp [ha])) r2 q
def eOp (g : D → D → Option (D × Bool)) (ea eb : EV) : EV := eB ea fun x => eB eb fun y s => okV s (g x y)
theorem okV_inv {s : S} {z : Option (D × Bool)} {P : Option (Res D) → Prop} (hn : ¬ P none) (h : P (okV s z)) : ∃ d fr, z = some (d, fr) ∧ (fr = true ∨ d.imm = true) ∧ P (some (.ok d s)) := by
  unfold okV at h
  cases z with
  | none => exact (hn h).elim
  | some z =>
    obtain ⟨d, fr⟩ := z
    by_cases hf : fr = true ∨ d.imm = true
    · simp only [if_pos hf] at h
      exact ⟨d, fr, rfl, hf, h⟩
    · simp only [if_neg hf] at h
      exact (hn h).elim
theorem opRun {f : Value → Value → Sem Value} {g : D → D → Option (D × Bool)} (ha : JE X a ea) (hb : JE X b eb) {m : List Addr} {F0 : Fq} {σ : St} {H : Hp} {s : S} (r : Rl (ct X) m F0 σ H s) {Q : VK} (q : EPost X m F0 σ H s Q (eOp g ea eb s)) :
    WE X a σ H fun u H1 => WE X b σ H1 fun v H2 => rG X g u v H2 Q :=
  twoE (P := EPost X m F0 σ H s Q) (f := fun x y s => okV s (g x y)) ha hb r (fun _ _ h => h) (fun h => h) (fun x y s2 u v H2 m2 F1 F2 F' A r1 r2 z => by
    obtain ⟨d, fr, e, hf, z⟩ := okV_inv (P := EPost X m F0 σ H s Q) (fun h => h) z
    exact ⟨m2, x, y, F1, F2, d, fr, r1, r2, e, fun v' H3 G s3 r3 n3 => z v' H3 m2 G F' (A.swapV s3 r3 n3 hf) r3⟩) q
theorem je_op {op : Operator} {g : D → D → Option (D × Bool)} (ho : OpD X (binaryOp op) g) (ha : JE X a ea) (hb : JE X b eb) : JE X (.BinOp a op b pos) (eOp g ea eb) := ⟨fun m F0 σ H s r Q q => w_op ho (opRun (f := binaryOp op) ha hb r q)⟩
theorem je_cmp {op : CmpOp} {g : D → D → Option (D × Bool)} (ho : OpD X (compareOp op) g) (ha : JE X a ea) (hb : JE X b eb) (hm : behindInMarks op b = false := by first | exact nomark _ | rfl) : JE X (.Compare a [op] [b] pos) (eOp g ea eb) := ⟨fun m F0 σ H s r Q q => w_cmp ho (opRun (f := compareOp op) ha hb r q) hm⟩
/-- a value as a test -/
def tV (p : EV) : ET := eB p fun d s => match d with
  | .bl b => some (.ok b s)
  | _ => none
theorem tV_post {m : List Addr} {F0 : Fq} {σ : St} {H : Hp} {s : S} {Q : Bool → Hp → Prop} (q : TPost X m F0 σ H s Q (tV ea s)) : EPost X m F0 σ H s (fun v H' => ∃ k, v = .bl k ∧ Q k H') (ea s) := by
  unfold tV eB at q
  cases he : ea s with
  | none => rw [he] at q; exact q
  | some z =>
    rw [he] at q
    cases z with
    | ex x s' => exact q
    | ok d s1 =>
      cases d with
      | bl k =>
        intro v H' m' F F1 A r
        obtain ⟨rfl, rfl⟩ := rep_bl r
        exact ⟨k, rfl, q H' m' F1 A⟩
      | _ => exact (show False from q).elim
theorem jte_cmp {op : CmpOp} {g : D → D → Option (D × Bool)} (ho : OpD X (compareOp op) g) (ha : JE X a ea) (hb : JE X b eb) (hm : behindInMarks op b = false := by first | exact nomark _ | rfl) : JTE X (.Compare a [op] [b] pos) (tV (eOp g ea eb)) := ⟨fun m F0 σ H s r Q q => t_cmp ho (opRun (f := compareOp op) ha hb r (tV_post q)) hm⟩
theorem jte_val (h : JE X e ea) (he : ∀ whole, isTrue e X.env whole = (do let v ← whole; standAt e.pos; holding [v] (truthy v)) := by intro _; rfl) : JTE X e (tV ea) := ⟨fun m F0 σ H s r Q q => t_val (h.run m F0 σ H s r _ (tV_post q)) he⟩
/-- the rest behind a test -/
theorem TPost.then {m : List Addr} {F0 : Fq} {σ : St} {H : Hp} {s : S} {β : Type} {f : Bool → S → Option (Res β)} {P : Option (Res β) → Prop} {Q : Bool → Hp → Prop} (hx : ∀ x s', P (some (.ex x s')) → XOk X x s') (hn : ¬ P none)
    (q : P (eB ta f s)) (k : ∀ b s1 H1 m1 F1, Af (ct X) m F0 H s σ [] m1 F1 H1 s1 → P (f b s1) → Q b H1) : TPost X m F0 σ H s Q (ta s) := by
  unfold eB at q
  cases he : ta s with
  | none => rw [he] at q; exact (hn q).elim
  | some z =>
    rw [he] at q
    cases z with
    | ex x s' => exact hx x s' q
    | ok b s1 => exact fun H1 m1 F1 A => k b s1 H1 m1 F1 A q
theorem EPost.then {m : List Addr} {F0 : Fq} {σ : St} {H : Hp} {s : S} {β : Type} {f : D → S → Option (Res β)} {P : Option (Res β) → Prop} {Q : VK} (hx : ∀ x s', P (some (.ex x s')) → XOk X x s') (hn : ¬ P none)
    (q : P (eB ea f s)) (k : ∀ d s1 v H1 m1 F F1, Af (ct X) m F0 H s σ F m1 F1 H1 s1 → Rep (ct X) m1 H1 v d F → P (f d s1) → Q v H1) : EPost X m F0 σ H s Q (ea s) := by
  unfold eB at q
  cases he : ea s with
  | none => rw [he] at q; exact (hn q).elim
  | some z =>
    rw [he] at q
    cases z with
    | ex x s' => exact hx x s' q
    | ok b s1 => exact fun v H1 m1 F F1 A r => k b s1 v H1 m1 F F1 A r q
theorem APost.then {m : List Addr} {F0 : Fq} {σ : St} {H : Hp} {s : S} {β : Type} {f : List D → S → Option (Res β)} {P : Option (Res β) → Prop} {Q : List V → Hp → Prop} (hx : ∀ x s', P (some (.ex x s')) → XOk X x s') (hn : ¬ P none)
    (q : P (eB as f s)) (k : ∀ ds s1 vs H1 m1 F F1, Af (ct X) m F0 H s σ F m1 F1 H1 s1 → RepL (ct X) m1 H1 vs ds F → P (f ds s1) → Q vs H1) : APost X m F0 σ H s Q (as s) := by
  unfold eB at q
  cases he : as s with
  | none => rw [he] at q; exact (hn q).elim
  | some z =>
    rw [he] at q
    cases z with
    | ex x s' => exact hx x s' q
    | ok b s1 => exact fun v H1 m1 F F1 A r => k b s1 v H1 m1 F F1 A r q
/-- the posts behind a first step without a value -/
theorem EPost.up {m m1 : List Addr} {F0 : Fq} {F1 : List Addr} {σ : St} {H H1 : Hp} {s s1 : S} {Q : VK} {z : Option (Res D)} (A : Af (ct X) m F0 H s σ [] m1 F1 H1 s1) (q : EPost X m F0 σ H s Q z) : EPost X m1 (F0.1, F1) σ H1 s1 Q z := by
  cases z with
  | none => exact q
  | some z =>
    cases z with
    | ex x s' => exact q
    | ok d s' => exact fun v H' m' F F2 B r => q v H' m' F F2 (by have := A.trans (by simpa using B); simpa using this) r
theorem TPost.up {m m1 : List Addr} {F0 : Fq} {F1 : List Addr} {σ : St} {H H1 : Hp} {s s1 : S} {Q : Bool → Hp → Prop} {z : Option (Res Bool)} (A : Af (ct X) m F0 H s σ [] m1 F1 H1 s1) (q : TPost X m F0 σ H s Q z) : TPost X m1 (F0.1, F1) σ H1 s1 Q z := by
  cases z with
  | none => exact q
  | some z =>
    cases z with
    | ex x s' => exact q
    | ok d s' => exact fun H' m' F2 B => q H' m' F2 (by have := A.trans (by simpa using B); simpa using this)
def tNotE (t : ET) : ET := eB t fun b s => some (.ok (!b) s)
theorem jte_not (h : JTE X a ta) : JTE X (.UnaryOp .Not a pos) (tNotE ta) := ⟨fun m F0 σ H s r Q q => t_not (h.run m F0 σ H s r _ (TPost.then (P := TPost X m F0 σ H s Q) (fun _ _ h => h) (fun h => h) q fun b s1 H1 m1 F1 A z => z H1 m1 F1 A))⟩
def tAndE (t u : ET) : ET := eB t fun b s => if b then u s else some (.ok false s)
def tOrE (t u : ET) : ET := eB t fun b s => if b then some (.ok true s) else u s
theorem jwe_and (h : JTE X a ta) (hr : JWE X (.BoolOp .And (b :: rest) pos) tb) : JWE X (.BoolOp .And (a :: b :: rest) pos) (tAndE ta tb) := ⟨fun m F0 σ H s r Q q => t_and (h.run m F0 σ H s r _ (TPost.then (P := TPost X m F0 σ H s Q) (fun _ _ h => h) (fun h => h) q fun b s1 H1 m1 F1 A z => by
  cases b with
  | true => exact iteT (hr.run m1 _ σ H1 s1 A.rl _ (by simpa using TPost.up A z))
  | false => exact iteF (z H1 m1 F1 A)))⟩
theorem jwe_or (h : JTE X a ta) (hr : JWE X (.BoolOp .Or (b :: rest) pos) tb) : JWE X (.BoolOp .Or (a :: b :: rest) pos) (tOrE ta tb) := ⟨fun m F0 σ H s r Q q => t_or (h.run m F0 σ H s r _ (TPost.then (P := TPost X m F0 σ H s Q) (fun _ _ h => h) (fun h => h) q fun b s1 H1 m1 F1 A z => by
  cases b with
  | true => exact iteT (z H1 m1 F1 A)
  | false => exact iteF (hr.run m1 _ σ H1 s1 A.rl _ (by simpa using TPost.up A z))))⟩
theorem jwe_and1 (h : JTE X a ta) : JWE X (.BoolOp .And [a] pos) ta := ⟨fun m F0 σ H s r Q q => t_and1 (h.run m F0 σ H s r Q q)⟩
theorem jwe_or1 (h : JTE X a ta) : JWE X (.BoolOp .Or [a] pos) ta := ⟨fun m F0 σ H s r Q q => t_or1 (h.run m F0 σ H s r Q q)⟩
theorem jte_w (h : JWE X e ta) : JTE X e ta := ⟨fun m F0 σ H s r Q q => t_w (h.run m F0 σ H s r Q q)⟩
def eNot (p : EV) : EV := eB (tV p) fun b s => some (.ok (.bl (!b)) s)
theorem je_not (h : JE X a ea) : JE X (.UnaryOp .Not a pos) (eNot ea) := ⟨fun m F0 σ H s r Q q => w_not (h.run m F0 σ H s r _ (by
  have z := tV_post (X := X) (Q := fun b H' => Q (.bl (!b)) H') (TPost.then (X := X) (P := EPost X m F0 σ H s Q) (fun _ _ h => h) (fun h => h) q fun b s1 H1 m1 F1 A z => z _ H1 m1 [] F1 A (.bl _))
  exact z))⟩
def eIf (t : ET) (p q : EV) : EV := eB t fun b s => if b then p s else q s
theorem je_if (ht : JTE X c ta) (ha : JE X a ea) (hb : JE X b eb) : JE X (.IfExp c a b pos) (eIf ta ea eb) := ⟨fun m F0 σ H s r Q q => w_ifx (ht.run m F0 σ H s r _ (TPost.then (P := EPost X m F0 σ H s Q) (fun _ _ h => h) (fun h => h) q fun b s1 H1 m1 F1 A z => by
  cases b with
  | true => exact iteT (ha.run m1 _ σ H1 s1 A.rl _ (by simpa using EPost.up A z))
  | false => exact iteF (hb.run m1 _ σ H1 s1 A.rl _ (by simpa using EPost.up A z))))⟩
/-! several -/
def eaNil : EA := fun s => some (.ok [] s)
def eaCons (p : EV) (r : EA) : EA := eB p fun d => eB r fun ds s => some (.ok (d :: ds) s)
theorem jea_nil : JEA X [] eaNil := ⟨fun m F0 σ H s r Q q => wa_nil (q [] H m [] F0.2 (Af.same r (Same.refl _)) .nil)⟩
theorem Rl.flip {c : Ct} {m P Q R F : List Addr} {σ : St} {H : Hp} {s : S} (r : Rl c m (P ++ Q ++ R, F) σ H s) : Rl c m (Q ++ P ++ R, F) σ H s := by
  refine Rl.hand r (Same.refl _) ?_ fun a ha => ⟨.inl ?_, r.mut a ?_⟩
  · have nd : ((P ++ Q ++ R) ++ F).Nodup := r.nd
    rw [List.append_assoc] at nd ⊢
    exact (List.Perm.append_right _ List.perm_append_comm).nodup_iff.mp nd
  · simp only [List.mem_append] at ha ⊢
    rcases ha with (h | h) | h <;> simp [h]
  · simp only [List.mem_append] at ha ⊢
    rcases ha with (h | h) | h <;> simp [h]
theorem Af.flip {c : Ct} {m : List Addr} {F0 : Fq} {H : Hp} {s : S} {σ : St} {F G m' F1 : List Addr} {H' : Hp} {s' : S} (a : Af c m F0 H s σ (G ++ F) m' F1 H' s') : Af c m F0 H s σ (F ++ G) m' F1 H' s' :=
  ⟨a.mx, a.rl.flip, ⟨a.ex.kp, fun b hb => a.ex.sub b (by
    simp only [List.mem_append] at hb ⊢
    rcases hb with (h | h) | h <;> simp [h])⟩, a.px⟩
theorem jea_cons (h : JE X e ea) (hr : JEA X es as) (hs : starEach (e :: es) X.env = (false, eval e X.env) :: starEach es X.env := by rfl) : JEA X (e :: es) (eaCons ea as) := ⟨fun m F0 σ H s r Q q =>
  wa_cons (h.run m F0 σ H s r _ (EPost.then (P := APost X m F0 σ H s Q) (fun _ _ h => h) (fun h => h) q fun d s1 v H1 m1 F F1 A r1 z =>
    hr.run m1 _ σ H1 s1 A.rl _ (APost.then (P := APost X m F0 σ H s Q) (fun _ _ h => h) (fun h => h) z fun ds s2 vs H2 m2 G F2 B r2 z2 =>
      z2 (v :: vs) H2 m2 (F ++ G) F2 (A.trans B).flip (.cons (B.rep A.rl r1 (by intro a ha; simp [ha])) r2)))) hs⟩
def eTup (r : EA) : EV := eB r fun ds s => if ds.length ≤ 1000 then some (.ok (.tup ds) s) else none
def eLst (r : EA) : EV := eB r fun ds s => if ds.length ≤ 1000 then some (.ok (.lst ds) s) else none
theorem je_tup {k : Nat} (h : JEA X es as) : JE X (.Tuple es k pos) (eTup as) := ⟨fun m F0 σ H s r Q q => w_tup (h.run m F0 σ H s r _ (APost.then (P := EPost X m F0 σ H s Q) (fun _ _ h => h) (fun h => h) q fun ds s1 vs H1 m1 F F1 A r1 z => by
  by_cases hl : ds.length ≤ 1000
  · rw [if_pos hl] at z
    refine ⟨sz1000 (by rw [r1.length]; exact hl), fun p hp => ?_⟩
    have r2 : Rep (ct X) m1 (upd H1 p (.tup vs)) (.ref p) (.tup ds) F := .tup (SqT.of upd_same) (r1.same (same_new hp))
    have nd : ((F ++ F0.1) ++ F1).Nodup := A.rl.nd
    rw [List.append_assoc, List.nodup_append] at nd
    exact z _ _ m1 F F1 (A.swap (same_new hp) r2 nd.1 fun b hb => .inl hb) r2
  · rw [if_neg hl] at z; exact (show False from z).elim))⟩
theorem je_lst (h : JEA X es as) : JE X (.List es pos) (eLst as) := ⟨fun m F0 σ H s r Q q => w_lst (h.run m F0 σ H s r _ (APost.then (P := EPost X m F0 σ H s Q) (fun _ _ h => h) (fun h => h) q fun ds s1 vs H1 m1 F F1 A r1 z => by
  by_cases hl : ds.length ≤ 1000
  · rw [if_pos hl] at z
    refine ⟨sz1000 (by rw [r1.length]; exact hl), fun p hp => ?_⟩
    have r2 : Rep (ct X) m1 (upd H1 p (.lst vs)) (.ref p) (.lst ds) (p :: F) := .lst upd_same (r1.same (same_new hp))
    have nd : ((F ++ F0.1) ++ F1).Nodup := A.rl.nd
    rw [List.append_assoc, List.nodup_append] at nd
    exact z _ _ m1 (p :: F) F1 (A.swap (same_new hp) r2 (List.nodup_cons.mpr ⟨fun hm => (r1.mut p hm).some hp, nd.1⟩) fun b hb => by
      rcases List.mem_cons.mp hb with h | h
      · subst h; exact .inr hp
      · exact .inl h) r2
  · rw [if_neg hl] at z; exact (show False from z).elim))⟩
/-- built-in calls -/
def eCall (g : List D → Option (D × Bool)) (r : EA) : EV := eB r fun ds s => okV s (g ds)
theorem call_post {g : List D → Option (D × Bool)} {m : List Addr} {F0 : Fq} {σ : St} {H : Hp} {s : S} {Q : VK} (q : EPost X m F0 σ H s Q (eCall g as s)) : APost X m F0 σ H s (fun vs H1 => rC X g vs H1 Q) (as s) :=
  APost.then (P := EPost X m F0 σ H s Q) (fun _ _ h => h) (fun h => h) q fun ds s1 vs H1 m1 F F1 A r1 z => by
    obtain ⟨d, fr, e, hf, z⟩ := okV_inv (P := EPost X m F0 σ H s Q) (fun h => h) z
    exact ⟨m1, ds, F, d, fr, r1, e, fun v' H3 G s3 r3 n3 => z v' H3 m1 G F1 (A.swapV s3 r3 n3 hf) r3⟩
theorem je_callB {g : List D → Option (D × Bool)} {id : String} {p1 : Pos} (hc : CallD X (.builtin id) g) (hm : X.mg x = none) (hv : bootBuiltins x = some (.builtin id)) (h : JEA X (e :: es) as) (hg : Gl X x := by rfl)
    (hdb : (x == ("__debug__" : Str)) = false := by decide) (hn : x ≠ "__name__" := by decide) (he : starEach (e :: es) X.env = (false, eval e X.env) :: starEach es X.env := by rfl) (hpl : (backTo pos (starEach es X.env)).any (·.1) = false := by rfl) :
    JE X (.Call (.Name x p1) (e :: es) [] pos) (eCall g as) := ⟨fun m F0 σ H s r Q q => w_callB hc hm hv (h.run m F0 σ H s r _ (call_post q)) hg hdb hn he hpl⟩
theorem je_callT {g : List D → Option (D × Bool)} {id : String} {p1 : Pos} (hc : CallD X (.type id) g) (hm : X.mg x = none) (hv : bootBuiltins x = some (.type id)) (h : JEA X (e :: es) as) (hg : Gl X x := by rfl)
    (hdb : (x == ("__debug__" : Str)) = false := by decide) (hn : x ≠ "__name__" := by decide) (he : starEach (e :: es) X.env = (false, eval e X.env) :: starEach es X.env := by rfl) (hpl : (backTo pos (starEach es X.env)).any (·.1) = false := by rfl) :
    JE X (.Call (.Name x p1) (e :: es) [] pos) (eCall g as) := ⟨fun m F0 σ H s r Q q => w_callT hc hm hv (h.run m F0 σ H s r _ (call_post q)) hg hdb hn he hpl⟩
end
end Dn
set_option Elab.async false
set_option linter.all false
set_option maxRecDepth 100000
set_option maxHeartbeats 4000000
/-! statements -/
namespace Dn
open PySem PySem.Spec PyProof.Rows L2 Tr
inductive Fl where
  | nx (s : S) | rt (d : D) (s : S) | bk (s : S) | ct (s : S) | ex (x : Exn) (s : S)
abbrev SV := S → Option Fl
def SX (σ : St) (s : S) (σ' : St) (s' : S) : Prop := σ'.length = σ.length ∧ ∀ (i : Nat) d', s'.loc[i]? = some (.par d') → (∃ d, s.loc[i]? = some (.par d)) ∧ σ'[i]? = σ[i]?
theorem SX.refl (σ : St) (s : S) : SX σ s σ s := ⟨rfl, fun _ d h => ⟨⟨d, h⟩, rfl⟩⟩
theorem SX.trans {σ σ1 σ2 : St} {s s1 s2 : S} (a : SX σ s σ1 s1) (b : SX σ1 s1 σ2 s2) : SX σ s σ2 s2 := ⟨b.1.trans a.1, fun i d h => by
  obtain ⟨⟨d1, h1⟩, e1⟩ := b.2 i d h
  obtain ⟨h2, e2⟩ := a.2 i d1 h1
  exact ⟨h2, e1.trans e2⟩⟩
structure AfS (c : Ct) (m : List Addr) (F0 : Fq) (H : Hp) (s : S) (σ : St) (F : List Addr) (m' F1 : List Addr) (H' : Hp) (s' : S) (σ' : St) : Prop where
  mx : Mx m m'
  rl : Rl c m' (F ++ F0.1, F1) σ' H' s'
  ex : Ext F0.2 H (F ++ F1) H'
  sx : SX σ s σ' s'
def SPost (X : Cx) (m : List Addr) (F0 : Fq) (σ : St) (H : Hp) (s : S) (D : Ends) : Option Fl → Prop
  | some (.nx s') => ∀ σ' H' m' F1, AfS (ct X) m F0 H s σ [] m' F1 H' s' σ' → D.nx σ' H'
  | some (.bk s') => ∀ σ' H' m' F1, AfS (ct X) m F0 H s σ [] m' F1 H' s' σ' → D.bk σ' H'
  | some (.ct s') => ∀ σ' H' m' F1, AfS (ct X) m F0 H s σ [] m' F1 H' s' σ' → D.ct σ' H'
  | some (.rt d s') => ∀ v σ' H' m' F F1, AfS (ct X) m F0 H s σ F m' F1 H' s' σ' → Rep (ct X) m' H' v d F → D.rt v H'
  | some (.ex x s') => XOk X x s'
  | none => False
structure JS (X : Cx) (sts : List Stmt) (p : SV) : Prop where
  run : ∀ (m : List Addr) (F0 : Fq) (σ : St) (H : Hp) (s : S), Rl (ct X) m F0 σ H s → ∀ D : Ends, SPost X m F0 σ H s D (p s) → WS X sts D σ H
structure J1 (X : Cx) (st : Stmt) (p : SV) : Prop where
  run : ∀ (sts : List Stmt) (m : List Addr) (F0 : Fq) (σ : St) (H : Hp) (s : S), Rl (ct X) m F0 σ H s → ∀ D : Ends, SPost X m F0 σ H s { D with nx := WS X sts D } (p s) → WS X (st :: sts) D σ H
theorem AfS.trans {c : Ct} {m : List Addr} {F0 : Fq} {H : Hp} {s : S} {σ σ1 σ2 : St} {G m1 F1 F2 m2 : List Addr} {H1 H2 : Hp} {s1 s2 : S} (a : AfS c m F0 H s σ [] m1 F1 H1 s1 σ1) (b : AfS c m1 (F0.1, F1) H1 s1 σ1 G m2 F2 H2 s2 σ2) : AfS c m F0 H s σ G m2 F2 H2 s2 σ2 := by
  refine ⟨a.mx.trans b.mx, b.rl, ?_, a.sx.trans b.sx⟩
  have e := a.ex
  simp at e
  exact e.trans b.ex
theorem Af.s {c : Ct} {m : List Addr} {F0 : Fq} {H : Hp} {s : S} {σ : St} {F m' F1 : List Addr} {H' : Hp} {s' : S} (a : Af c m F0 H s σ F m' F1 H' s') : AfS c m F0 H s σ F m' F1 H' s' σ :=
  ⟨a.mx, a.rl, a.ex, rfl, fun i d h => ⟨a.px i d h, rfl⟩⟩
theorem SPost.up {X : Cx} {m m1 : List Addr} {F0 : Fq} {F1 : List Addr} {σ σ1 : St} {H H1 : Hp} {s s1 : S} {D : Ends} {z : Option Fl} (A : AfS (ct X) m F0 H s σ [] m1 F1 H1 s1 σ1) (q : SPost X m F0 σ H s D z) : SPost X m1 (F0.1, F1) σ1 H1 s1 D z := by
  cases z with
  | none => exact q
  | some z =>
    cases z with
    | ex x s' => exact q
    | nx s' => exact fun σ' H' m' F2 B => q σ' H' m' F2 (A.trans B)
    | bk s' => exact fun σ' H' m' F2 B => q σ' H' m' F2 (A.trans B)
    | ct s' => exact fun σ' H' m' F2 B => q σ' H' m' F2 (A.trans B)
    | rt d s' => exact fun v σ' H' m' F F2 B r => q v σ' H' m' F F2 (A.trans B) r
def sNil : SV := fun s => some (.nx s)
def sSeq (p r : SV) : SV := fun s => match p s with
  | some (.nx s1) => r s1
  | z => z
section
variable {X : Cx} {e a b c o : Expr} {es rest : List Expr} {sts ps qs : List Stmt} {st : Stmt} {pos : Pos} {ea eb : EV} {ta : ET} {p q r : SV} {x : Str}
theorem js_nil : JS X [] sNil := ⟨fun m F0 σ H s r D q => ws_nil (q σ H m F0.2 ⟨Mx.refl _, r, Ext.refl _ _, SX.refl _ _⟩)⟩
theorem js_cons (h : J1 X st p) (hr : JS X sts r) : JS X (st :: sts) (sSeq p r) := ⟨fun m F0 σ H s rl D q => h.run sts m F0 σ H s rl D (by
  unfold sSeq at q
  cases hp : p s with
  | none => rw [hp] at q; exact q
  | some z =>
    rw [hp] at q
    cases z with
    | nx s1 => exact fun σ' H' m' F1 A => hr.run m' (F0.1, F1) σ' H' s1 A.rl D (SPost.up A q)
    | rt d s' => exact q
    | bk s' => exact q
    | ct s' => exact q
    | ex x s' => exact q)⟩
def sB {α : Type} (p : S → Option (Res α)) (f : α → SV) : SV := fun s => match p s with
  | some (.ok a s1) => f a s1
  | some (.ex x s1) => some (.ex x s1)
  | none => none
theorem EPost.thenS {m : List Addr} {F0 : Fq} {σ : St} {H : Hp} {s : S} {f : D → SV} {D : Ends} {Q : VK} (q : SPost X m F0 σ H s D (sB ea f s))
    (k : ∀ d s1 v H1 m1 F F1, Af (ct X) m F0 H s σ F m1 F1 H1 s1 → Rep (ct X) m1 H1 v d F → SPost X m F0 σ H s D (f d s1) → Q v H1) : EPost X m F0 σ H s Q (ea s) := by
  unfold sB at q
  cases he : ea s with
  | none => rw [he] at q; exact q
  | some z =>
    rw [he] at q
    cases z with
    | ex x s' => exact q
    | ok b s1 => exact fun v H1 m1 F F1 A r => k b s1 v H1 m1 F F1 A r q
theorem TPost.thenS {m : List Addr} {F0 : Fq} {σ : St} {H : Hp} {s : S} {f : Bool → SV} {D : Ends} {Q : Bool → Hp → Prop} (q : SPost X m F0 σ H s D (sB ta f s))
    (k : ∀ b s1 H1 m1 F1, Af (ct X) m F0 H s σ [] m1 F1 H1 s1 → SPost X m F0 σ H s D (f b s1) → Q b H1) : TPost X m F0 σ H s Q (ta s) := by
  unfold sB at q
  cases he : ta s with
  | none => rw [he] at q; exact q
  | some z =>
    rw [he] at q
    cases z with
    | ex x s' => exact q
    | ok b s1 => exact fun H1 m1 F1 A => k b s1 H1 m1 F1 A q
def sRet (p : EV) : SV := sB p fun d s => some (.rt d s)
theorem j1_ret (h : JE X e ea) : J1 X (.Return (some e) pos) (sRet ea) := ⟨fun sts m F0 σ H s r D q => ws_ret (h.run m F0 σ H s r _ (EPost.thenS q fun d s1 v H1 m1 F F1 A r1 z => z v σ H1 m1 F F1 A.s r1))⟩
def sRetN : SV := fun s => some (.rt .non s)
theorem j1_retN : J1 X (.Return none pos) sRetN := ⟨fun sts m F0 σ H s r D q => ws_cons ps_retN (q .non σ H m [] F0.2 ⟨Mx.refl _, r, Ext.refl _ _, SX.refl _ _⟩ .non)⟩
def sBk : SV := fun s => some (.bk s)
theorem j1_pass : J1 X (.Pass pos) sNil := ⟨fun sts m F0 σ H s r D q => ws_cons ps_pass (q σ H m F0.2 ⟨Mx.refl _, r, Ext.refl _ _, SX.refl _ _⟩)⟩
def sExpr (p : EV) : SV := sB p fun _ s => some (.nx s)
theorem j1_expr (h : JE X e ea) (hs : swapsWith e none pos.line X.env = pure false := by rfl) : J1 X (.Expr e pos) (sExpr ea) := ⟨fun sts m F0 σ H s r D q => ws_expr (h.run m F0 σ H s r _ (EPost.thenS q fun d s1 v H1 m1 F F1 A r1 z => z σ H1 m1 F1 (A.swapN (Same.refl _)).s)) hs⟩
def sIf (t : ET) (p q : SV) : SV := sB t fun b => if b then p else q
theorem j1_if (ht : JTE X c ta) (hp : JS X ps p) (hq : JS X qs q) : J1 X (.If c ps qs pos) (sIf ta p q) := ⟨fun sts m F0 σ H s r D z => ws_if (ht.run m F0 σ H s r _ (TPost.thenS z fun b s1 H1 m1 F1 A z => by
  cases b with
  | true => exact iteT (hp.run m1 _ σ H1 s1 A.rl _ (by simpa using SPost.up A.s z))
  | false => exact iteF (hq.run m1 _ σ H1 s1 A.rl _ (by simpa using SPost.up A.s z))))⟩
end
/-! putting into slots -/
def lcOf (d : D) : Lc := if d.imm then .bor d else .own d
/-- a new thing in a slot; what stood there is let go -/
def S.put (s : S) (i : Nat) (d : D) : Option S := match s.loc[i]? with
  | some (.par _) => none
  | some _ => some { s with loc := s.loc.set i (lcOf d) }
  | none => none
section
variable {c : Ct} {m : List Addr} {H : Hp} {s s' : S} {σ : St}
theorem le_lcOf {F0 F : List Addr} {v : V} {d : D} (r : Rep c m H v d F) (hF : d.imm = false ∨ True) : LE c m H F0 (lcOf d) (some v) F := by
  unfold lcOf
  cases h : d.imm with
  | true => rw [r.imm h]; exact .bor (F := []) (by have := r.imm h; subst this; exact r) (by simp)
  | false => exact .own r
theorem set_par {ls : List Lc} {i j : Nat} {l : Lc} {d' : D} (h : (ls.set i l)[j]? = some (.par d')) (hl : ∀ d, l ≠ .par d) : j ≠ i ∧ ls[j]? = some (.par d') := by
  by_cases hj : i = j
  · subst hj
    by_cases hi : i < ls.length
    · rw [List.getElem?_set_self hi] at h
      cases h
      exact absurd rfl (hl d')
    · rw [List.getElem?_eq_none (by simpa using hi)] at h
      cases h
  · rw [List.getElem?_set_ne hj] at h
    exact ⟨fun z => hj z.symm, h⟩
theorem lcOf_par (d d' : D) : lcOf d ≠ .par d' := by
  unfold lcOf
  split <;> exact fun z => nomatch z
theorem nodup_mid {A G B F2 P F : List Addr} (h : ((F ++ P) ++ ((A ++ (G ++ B)) ++ F2)).Nodup) : (P ++ ((A ++ (F ++ B)) ++ F2)).Nodup := by
  have p : ((F ++ P) ++ ((A ++ (G ++ B)) ++ F2)).Perm (G ++ (P ++ ((A ++ (F ++ B)) ++ F2))) := by
    simp only [List.append_assoc]
    rw [List.perm_iff_count]
    intro x
    simp only [List.count_append]
    omega
  have := p.nodup_iff.mp h
  rw [List.nodup_append] at this
  exact this.2.1
/-- the value in hand goes into a slot -/
theorem Rl.put {F P F1 : List Addr} {i : Nat} {v : V} {d : D} (r : Rl c m (F ++ P, F1) σ H s) (q : Rep c m H v d F) (e : s.put i d = some s') : ∃ F1', Rl c m (P, F1') (σ.set i (some v)) H s' ∧ (∀ a ∈ F1', a ∈ F ++ F1) ∧ SX σ s (σ.set i (some v)) s' := by
  obtain ⟨A1, F2, e1, h1, h2, h3, h4⟩ := r
  have e1 : F1 = A1 ++ F2 := e1
  unfold S.put at e
  have main : ∀ l, s.loc[i]? = some l → (∀ d, l ≠ .par d) → s' = { s with loc := s.loc.set i (lcOf d) } → ∃ F1', Rl c m (P, F1') (σ.set i (some v)) H s' ∧ (∀ a ∈ F1', a ∈ F ++ F1) ∧ SX σ s (σ.set i (some v)) s' := fun l hl np es => by
    subst es
    obtain ⟨o, A, B, G, ho, hA, le, ha, hb⟩ := h1.at_ hl
    have hi : i < s.loc.length := (List.getElem?_eq_some_iff.mp hl).1
    have nd : ((F ++ P) ++ ((A ++ (G ++ B)) ++ F2)).Nodup := by
      have z : ((F ++ P) ++ F1).Nodup := h3
      rw [e1, hA] at z
      exact z
    have sub : ∀ a ∈ P ++ ((A ++ (F ++ B)) ++ F2), a ∈ (F ++ P) ++ F1 ∨ H a = none := fun a ha => .inl (by
      rw [e1, hA]
      simp only [List.mem_append] at ha ⊢
      rcases ha with h | ((h | h | h) | h) <;> simp [h])
    have ch : ∀ {ls : List Lc} {os : List (Option V)} {G : List Addr}, LR c m H ((F ++ P) ++ F1) ls os G → LR c m H (P ++ ((A ++ (F ++ B)) ++ F2)) ls os G := fun h => h.change (G := []) (kp_same (Same.refl H)) (by simp) (by simp) (fun _ _ h => h) sub (by simp)
    refine ⟨(A ++ (F ++ B)) ++ F2, ⟨A ++ (F ++ B), F2, rfl, LR.put hi h1.len (ch ha) (le_lcOf q (.inr trivial)) (ch hb), ch h2, nodup_mid nd, fun a z => h4 a (by simp [z])⟩, fun a z => ?_, by simp, fun j d' hd => ?_⟩
    · rw [e1, hA]
      simp only [List.mem_append] at z ⊢
      rcases z with (h | h | h) | h <;> simp [h]
    · obtain ⟨hj, h⟩ := set_par hd (lcOf_par d)
      exact ⟨⟨d', h⟩, by rw [List.getElem?_set_ne (fun z => hj z.symm)]⟩
  split at e
  · cases e
  · rename_i l hnp hl
    cases e
    exact main l hl (fun d z => hnp d z) rfl
  · cases e
end
section
variable {X : Cx} {e a b c o : Expr} {es rest : List Expr} {sts ps qs : List Stmt} {st : Stmt} {pos : Pos} {ea eb : EV} {ta : ET} {p q r : SV} {x : Str}
def sSet (i : Nat) (p : EV) : SV := sB p fun d s => (s.put i d).map .nx
theorem AfS.put {m : List Addr} {F0 : Fq} {H : Hp} {s s1 s2 : S} {σ : St} {F m1 F1 : List Addr} {H1 : Hp} {i : Nat} {v : V} {d : D} (A : AfS (ct X) m F0 H s σ F m1 F1 H1 s1 σ) (q : Rep (ct X) m1 H1 v d F) (e : s1.put i d = some s2) : ∃ F2, AfS (ct X) m F0 H s σ [] m1 F2 H1 s2 (σ.set i (some v)) := by
  obtain ⟨F2, h1, h2, h3⟩ := A.rl.put q e
  exact ⟨F2, A.mx, h1, ⟨A.ex.kp, fun a ha => A.ex.sub a (h2 a (by simpa using ha))⟩, A.sx.trans h3⟩
theorem set_post {m : List Addr} {F0 : Fq} {σ : St} {H : Hp} {s : S} {D : Ends} {i : Nat} (z : SPost X m F0 σ H s D (sSet i ea s)) : EPost X m F0 σ H s (fun v H' => D.nx (σ.set i (some v)) H') (ea s) :=
  EPost.thenS z fun d s1 v H1 m1 F F1 A r1 z => by
    cases hs : s1.put i d with
    | none => rw [hs] at z; exact (show False from z).elim
    | some s2 =>
      rw [hs] at z
      obtain ⟨F2, B⟩ := AfS.put A.s r1 hs
      exact z _ H1 m1 F2 B
theorem j1_set {i : Nat} {pos' : Pos} (hN : X.N.Nodup) (h : JE X e ea) (hi : X.N[i]? = some x := by rfl) (hx : Loc X.env.scope x := by first | exact Or.inl rfl | exact Or.inr rfl)
    (hs : swapsWith e (some (.Name x pos')) pos.line X.env = pure false := by rfl) (hf : X.fn x = true ∨ X.env.scope.names.lookup x = some .local := by first | exact .inl rfl | exact .inr rfl) : J1 X (.Assign [.Name x pos'] e pos) (sSet i ea) :=
  ⟨fun sts m F0 σ H s r D z => ws_set (i := i) hN (h.run m F0 σ H s r _ (set_post z)) hi hx hs hf⟩
/-- a name whose thing is taken along, if it may be written -/
def eNm (i : Nat) : EV := fun s => match s.loc[i]? with
  | some (.bor d) => if d.imm then some (.ok d s) else none
  | some (.par d) => if d.imm then some (.ok d s) else none
  | some (.own d) => if d.imm then some (.ok d s) else some (.ok d { s with loc := s.loc.set i .no })
  | _ => none
theorem Rl.take {c : Ct} {m P F1 : List Addr} {σ : St} {H : Hp} {s : S} {i : Nat} {d : D} (r : Rl c m (P, F1) σ H s) (e : s.loc[i]? = some (.own d)) : ∃ v F F1', σ[i]? = some (some v) ∧ Rep c m H v d F ∧ Rl c m (F ++ P, F1') σ H { s with loc := s.loc.set i .no } ∧ ∀ a ∈ F ++ F1', a ∈ F1 := by
  obtain ⟨A1, F2, e1, h1, h2, h3, h4⟩ := r
  have e1 : F1 = A1 ++ F2 := e1
  obtain ⟨o, A, B, G, ho, hA, le, ha, hb⟩ := h1.at_ e
  have hi : i < s.loc.length := (List.getElem?_eq_some_iff.mp e).1
  cases le with
  | own q =>
    rename_i v
    have sub : ∀ a ∈ (G ++ P) ++ ((A ++ B) ++ F2), a ∈ P ++ F1 ∨ H a = none := fun a ha => .inl (by
      rw [e1, hA]
      simp only [List.mem_append] at ha ⊢
      rcases ha with (h | h) | ((h | h) | h) <;> simp [h])
    have ch : ∀ {ls : List Lc} {os : List (Option V)} {Z : List Addr}, LR c m H (P ++ F1) ls os Z → LR c m H ((G ++ P) ++ ((A ++ B) ++ F2)) ls os Z := fun h => h.change (G := []) (kp_same (Same.refl H)) (by simp) (by simp) (fun _ _ h => h) sub (by simp)
    have nd : (P ++ ((A ++ (G ++ B)) ++ F2)).Nodup := by
      have z : (P ++ F1).Nodup := h3
      rw [e1, hA] at z
      exact z
    have nd2 : ((G ++ P) ++ ((A ++ B) ++ F2)).Nodup := by
      have p : (P ++ ((A ++ (G ++ B)) ++ F2)).Perm ((G ++ P) ++ ((A ++ B) ++ F2)) := by
        rw [List.perm_iff_count]
        intro x
        simp only [List.count_append]
        omega
      exact p.nodup_iff.mp nd
    have hσ : σ.set i (some v) = σ := by
      obtain ⟨h5, h6⟩ := List.getElem?_eq_some_iff.mp ho
      rw [← h6]
      exact List.set_getElem_self h5
    have put := LR.put (l := .no) (o := some v) (G := []) hi h1.len (ch ha) (.no _) (ch hb)
    rw [hσ, List.nil_append] at put
    refine ⟨v, G, (A ++ B) ++ F2, ho, q, ⟨A ++ B, F2, rfl, put, ch h2, nd2, fun a z => ?_⟩, fun a z => ?_⟩
    · rcases List.mem_append.mp z with z | z
      · exact q.mut a z
      · exact h4 a z
    · rw [e1, hA]
      simp only [List.mem_append] at z ⊢
      rcases z with h | ((h | h) | h) <;> simp [h]
theorem PX.no {s : S} {i : Nat} : PX s { s with loc := s.loc.set i .no } := fun j d h => by
  obtain ⟨_, h⟩ := set_par h (fun d z => nomatch z)
  exact ⟨d, h⟩
theorem je_nm (i : Nat) (hN : X.N[i]? = some x := by rfl) (hv : Vis X.env.scope x := by first | exact Or.inl rfl | exact Or.inr (Or.inl rfl) | exact Or.inr (Or.inr rfl)) (hd : (x == ("__debug__" : Str)) = false := by decide)
    (hcd : (x == ("__classdict__" : Str)) = false := by decide) : JE X (.Name x pos) (eNm i) := ⟨fun m F0 σ H s r Q q => by
  unfold eNm at q
  have imm : ∀ l d, s.loc[i]? = some l → l.dat = some d → d.imm = true → EPost X m F0 σ H s Q (some (.ok d s)) → WE X (.Name x pos) σ H Q := fun l d hl hd' hi q => by
    obtain ⟨v, G, h1, h2⟩ := r.slot (i := i) (d := d) (by rw [hl]; exact hd')
    have := h2.imm hi
    subst this
    exact w_v i h1 (q v H m [] F0.2 (Af.same r (Same.refl _)) h2) hN hv hd hcd
  split at q
  · rename_i d hl
    by_cases hi : d.imm = true
    · rw [if_pos hi] at q; exact imm _ d hl rfl hi q
    · rw [if_neg hi] at q; exact (show False from q).elim
  · rename_i d hl
    by_cases hi : d.imm = true
    · rw [if_pos hi] at q; exact imm _ d hl rfl hi q
    · rw [if_neg hi] at q; exact (show False from q).elim
  · rename_i d hl
    by_cases hi : d.imm = true
    · rw [if_pos hi] at q; exact imm _ d hl rfl hi q
    · rw [if_neg hi] at q
      obtain ⟨v, F, F1', h1, h2, h3, h4⟩ := Rl.take (P := F0.1) (F1 := F0.2) r hl
      exact w_v i h1 (q v H m F F1' ⟨Mx.refl _, h3, ⟨Kp.refl _ _, fun a z => .inl (h4 a z)⟩, PX.no⟩ h2) hN hv hd hcd
  · exact (show False from q).elim⟩
end
end Dn
set_option Elab.async false
set_option linter.all false
set_option maxRecDepth 100000
set_option maxHeartbeats 4000000
/-! ways into what is owned, and what is written there -/
namespace Dn
open PySem PySem.Spec PyProof.Rows L2 Tr
/-- a way: of an object or a slot, its number, the steps -/
structure Pth where
  b : Bool
  i : Nat
  st : List Step
abbrev PP := S → Option Pth
def S.root (s : S) (b : Bool) (i : Nat) : Option Lc := if b then s.obj[i]? else s.loc[i]?
def S.setRoot (s : S) (b : Bool) (i : Nat) (l : Lc) : S := if b then { s with obj := s.obj.set i l } else { s with loc := s.loc.set i l }
def S.get (s : S) (π : Pth) : Option D := match s.root π.b π.i with
  | some (.own d) => d.getP π.st
  | some (.par d) => d.getP π.st
  | _ => none
def S.upd (s : S) (π : Pth) (x : D) : S := match s.root π.b π.i with
  | some (.own d) => s.setRoot π.b π.i (.own (d.setP π.st x))
  | some (.par d) => s.setRoot π.b π.i (.par (d.setP π.st x))
  | _ => s
def LensAt (c : Ct) (m : List Addr) (F0 : Fq) (σ : St) (H : Hp) (s : S) (π : Pth) (v : V) (d : D) : Prop :=
  ∃ F', Rep c m H v d F' ∧ F'.Nodup ∧ (∀ a ∈ F', a ∈ F0.2 ∧ a ∉ F0.1) ∧ ∀ Fe P Z, F0.1 = Fe ++ P → ∀ H' d'' F'', Kp F' H H' → Rep c m H' v d'' F'' → (Z ++ F'').Nodup → (∀ a ∈ F'', a ∈ F' ∨ a ∈ Fe ∨ H a = none) → (∀ a ∈ Z, a ∈ F' ∧ MutAt H' a) →
    ∃ F1', Rl c m (Z ++ P, F1') σ H' (s.upd π d'') ∧ ∀ a ∈ F1', a ∈ F0.2 ∨ a ∈ F''
def Lc.mapD (f : D → D) : Lc → Lc
  | .own d => .own (f d)
  | .par d => .par (f d)
  | l => l
section
variable {c : Ct} {m : List Addr} {H H' : Hp} {s s' : S} {σ : St} {F0 : Fq} {π : Pth} {v : V} {d : D}
theorem LensAt.same (x : Same H H') (h : LensAt c m F0 σ H s π v d) : LensAt c m F0 σ H' s π v d := by
  obtain ⟨F', r, nd, sub, k⟩ := h
  exact ⟨F', r.same x, nd, sub, fun Fe P Z e H2 d'' F'' kp r2 nd2 hs hZ => k Fe P Z e H2 d'' F'' (fun a o ha hn => kp a o (x a o ha) hn) r2 nd2 (fun a ha => (hs a ha).elim .inl fun z => z.elim (fun q => .inr (.inl q)) fun q => .inr (.inr (x.free q))) hZ⟩
/-- a way in a list of slots -/
theorem LR.lens {Av : List Addr} {ls : List Lc} {os : List (Option V)} {i : Nat} {l : Lc} {d0 : D} {st : List Step} {F1 : List Addr} (h : LR c m H Av ls os F1) (hl : ls[i]? = some l) (hd : l = .own d0 ∨ l = .par d0) (hg : d0.getP st = some d) :
    ∃ v0 v F' A B, os[i]? = some (some v0) ∧ Trav c H v0 st v ∧ Rep c m H v d F' ∧ F1 = A ++ (F' ++ B) ∧
      ∀ H' Av' d'' F'', Kp F' H H' → (∀ a ∈ Av', a ∈ Av ∨ H a = none) → Rep c m H' v d'' F'' → F1.Nodup → (∀ a ∈ F1, a ∈ Av) → LR c m H' Av' (ls.set i (l.mapD fun d => d.setP st d'')) os (A ++ (F'' ++ B)) := by
  obtain ⟨o, A1, B1, G, ho, hF, le, ha, hb⟩ := h.at_ hl
  have leInv : ∃ v0, o = some v0 ∧ Rep c m H v0 d0 G := by rcases hd with z | z <;> subst z <;> cases le <;> exact ⟨_, rfl, by assumption⟩
  obtain ⟨v0, rfl, r0⟩ := leInv
  obtain ⟨v, F', A, B, eG, rv, tv, reb⟩ := rep_lens r0 hg
  refine ⟨v0, v, F', A1 ++ A, B ++ B1, ho, tv, rv, by rw [hF, eG]; simp, fun H' Av' d'' F'' k sub r'' nd hin => ?_⟩
  have hi : i < ls.length := (List.getElem?_eq_some_iff.mp hl).1
  have hσ : os.set i (some v0) = os := by
    obtain ⟨h5, h6⟩ := List.getElem?_eq_some_iff.mp ho
    rw [← h6]
    exact List.set_getElem_self h5
  rw [hF] at nd
  have nd2 := List.nodup_append.mp nd
  have nd3 := List.nodup_append.mp nd2.2.1
  have F'in : ∀ a ∈ F', a ∈ Av := fun a ha => hin a (by rw [hF, eG]; simp [ha])
  have r1 := reb H' m d'' F'' k (fun _ _ h => h) r'' nd3.1
  have le' : LE c m H' Av' (l.mapD fun d => d.setP st d'') (some v0) (A ++ (F'' ++ B)) := by
    rcases hd with z | z <;> subst z
    · exact .own r1
    · exact .par r1
  have put := LR.put (l := l.mapD fun d => d.setP st d'') (o := some v0) hi h.len
    (ha.change k rv.mut F'in (fun _ _ h => h) sub fun a z q => nd2.2.2 a z a (by rw [eG]; simp [q]) rfl) le'
    (hb.change k rv.mut F'in (fun _ _ h => h) sub fun a z q => nd3.2.2 a (by rw [eG]; simp [q]) a z rfl)
  rw [hσ] at put
  simpa using put
theorem nodup_rep {A F' F'' B P Fe X Y : List Addr} (h : ((Fe ++ P) ++ (X ++ ((A ++ (F' ++ B)) ++ Y))).Nodup) (n : F''.Nodup) (k : ∀ a ∈ F'', a ∈ F' ∨ a ∈ Fe ∨ a ∉ P ++ (X ++ ((A ++ B) ++ Y))) : (P ++ (X ++ ((A ++ (F'' ++ B)) ++ Y))).Nodup := by
  have p1 : ((Fe ++ P) ++ (X ++ ((A ++ (F' ++ B)) ++ Y))).Perm ((F' ++ Fe) ++ (P ++ (X ++ ((A ++ B) ++ Y)))) := by
    rw [List.perm_iff_count]; intro x; simp only [List.count_append]; omega
  have p2 : (P ++ (X ++ ((A ++ (F'' ++ B)) ++ Y))).Perm (F'' ++ (P ++ (X ++ ((A ++ B) ++ Y)))) := by
    rw [List.perm_iff_count]; intro x; simp only [List.count_append]; omega
  have h1 := p1.nodup_iff.mp h
  refine p2.nodup_iff.mpr ?_
  rw [List.nodup_append] at h1 ⊢
  refine ⟨n, h1.2.1, fun a ha b hb e => ?_⟩
  subst e
  rcases k a ha with q | q | q
  · exact h1.2.2 a (by simp [q]) a hb rfl
  · exact h1.2.2 a (by simp [q]) a hb rfl
  · exact q hb
/-- the numbers that the two cases share -/
theorem mid_facts {A F' F'' B Fe P X Y : List Addr} (nd0 : ((Fe ++ P) ++ (X ++ ((A ++ (F' ++ B)) ++ Y))).Nodup) (mu : ∀ a ∈ (Fe ++ P) ++ (X ++ ((A ++ (F' ++ B)) ++ Y)), MutAt H a) (nd'' : F''.Nodup) (hs : ∀ a ∈ F'', a ∈ F' ∨ a ∈ Fe ∨ H a = none) :
    (P ++ (X ++ ((A ++ (F'' ++ B)) ++ Y))).Nodup ∧ (∀ a ∈ P ++ (X ++ ((A ++ (F'' ++ B)) ++ Y)), a ∈ (Fe ++ P) ++ (X ++ ((A ++ (F' ++ B)) ++ Y)) ∨ H a = none) ∧ (∀ a ∈ X, a ∉ F') ∧ (∀ a ∈ Y, a ∉ F') ∧ (∀ a ∈ P, a ∉ F') ∧ (A ++ (F' ++ B)).Nodup := by
  have n1 := List.nodup_append.mp nd0
  have n2 := List.nodup_append.mp n1.2.1
  have n3 := List.nodup_append.mp n2.2.1
  refine ⟨nodup_rep nd0 nd'' fun a ha => (hs a ha).elim .inl fun q => q.elim (fun q => .inr (.inl q)) fun q => .inr (.inr fun hy => (mu a (by
      simp only [List.mem_append] at hy ⊢
      rcases hy with h | h | (h | h) | h <;> simp [h])).some q), fun a ha => ?_, fun a ha hf => n2.2.2 a ha a (by simp [hf]) rfl, fun a ha hf => n3.2.2 a (by simp [hf]) a ha rfl, fun a ha hf => n1.2.2 a (by simp [ha]) a (by simp [hf]) rfl, n3.1⟩
  simp only [List.mem_append] at ha ⊢
  rcases ha with h | h | (h | h | h) | h
  · simp [h]
  · simp [h]
  · simp [h]
  · rcases hs a h with q | q | q
    · simp [q]
    · simp [q]
    · exact .inr q
  · simp [h]
  · simp [h]
theorem upd_eq {b : Bool} {i : Nat} {st : List Step} {l : Lc} {d0 x : D} (hl : s.root b i = some l) (hd : l = .own d0 ∨ l = .par d0) : s.upd ⟨b, i, st⟩ x = s.setRoot b i (l.mapD fun d => d.setP st x) := by
  unfold S.upd
  show (match s.root b i with
    | some (.own d) => s.setRoot b i (.own (d.setP st x))
    | some (.par d) => s.setRoot b i (.par (d.setP st x))
    | _ => s) = _
  rw [hl]
  rcases hd with e | e <;> subst e <;> rfl
/-- a way among the slots, or the objects -/
theorem Rl.lens (r : Rl c m F0 σ H s) (e : s.get π = some d) : ∃ v0 v, (if π.b then ∃ a, m[π.i]? = some a ∧ v0 = .ref a else σ[π.i]? = some (some v0)) ∧ Trav c H v0 π.st v ∧ LensAt c m F0 σ H s π v d := by
  obtain ⟨P0, F00⟩ := F0
  obtain ⟨F1, F2, e1, h1, h2, h3, h4⟩ := id r
  have e1 : F00 = F1 ++ F2 := e1
  subst e1
  obtain ⟨bb, i, st⟩ := π
  have mu := r.mut
  have key : ∀ l d0, s.root bb i = some l → (l = .own d0 ∨ l = .par d0) → d0.getP st = some d → ∃ v0 v, (if bb then ∃ a, m[i]? = some a ∧ v0 = .ref a else σ[i]? = some (some v0)) ∧ Trav c H v0 st v ∧ LensAt c m (P0, F1 ++ F2) σ H s ⟨bb, i, st⟩ v d := fun l d0 hl hd0 hg => by
    cases bb with
    | false =>
      obtain ⟨v0, v, F', A, B, ho, tv, rv, hF, mk⟩ := h1.lens (show s.loc[i]? = some l from hl) hd0 hg
      subst hF
      refine ⟨v0, v, ho, tv, F', rv, ?_, fun a ha => ⟨by show a ∈ _; simp [ha], fun z => (List.nodup_append.mp h3).2.2 a z a (by simp [ha]) rfl⟩, fun Fe P Z eP H' d'' F'' kp r'' nd'' hs hZ => ?_⟩
      · exact (List.nodup_append.mp (List.nodup_append.mp (List.nodup_append.mp (List.nodup_append.mp h3).2.1).1).2.1).1
      · have eP : P0 = Fe ++ P := eP
        subst eP
        obtain ⟨g1, g2, g3, g4, g5, g6⟩ := mid_facts (A := A) (B := B) (Fe := Fe) (P := P) (F' := F') (X := []) (Y := F2) (F'' := Z ++ F'') h3 mu nd'' (fun a ha => (List.mem_append.mp ha).elim (fun q => .inl (hZ a q).1) (hs a))
        rw [List.nil_append] at g1 g2
        have g1 : ((Z ++ P) ++ ((A ++ (F'' ++ B)) ++ F2)).Nodup := by
          have p : (P ++ ((A ++ ((Z ++ F'') ++ B)) ++ F2)).Perm ((Z ++ P) ++ ((A ++ (F'' ++ B)) ++ F2)) := by
            rw [List.perm_iff_count]; intro x; simp only [List.count_append]; omega
          exact p.nodup_iff.mp g1
        have g2 : ∀ a ∈ (Z ++ P) ++ ((A ++ (F'' ++ B)) ++ F2), a ∈ (Fe ++ P) ++ ((A ++ (F' ++ B)) ++ F2) ∨ H a = none := fun a ha => g2 a (by
          simp only [List.mem_append] at ha ⊢
          rcases ha with (h | h) | (h | h | h) | h <;> simp [h])
        refine ⟨(A ++ (F'' ++ B)) ++ F2, ?_, fun a ha => ?_⟩
        · rw [upd_eq hl hd0]
          exact ⟨A ++ (F'' ++ B), F2, rfl, mk H' _ d'' F'' kp g2 r'' g6 (fun a ha => by show a ∈ (Fe ++ P) ++ ((A ++ (F' ++ B)) ++ F2); exact List.mem_append_right _ (List.mem_append_left _ ha)),
            h2.change kp rv.mut (fun a ha => by show a ∈ (Fe ++ P) ++ ((A ++ (F' ++ B)) ++ F2); simp [ha]) (fun _ _ h => h) g2 g4, g1, fun a ha => by
              rcases List.mem_append.mp (show a ∈ Z ++ P from ha) with ha | ha
              · exact (hZ a ha).2
              · obtain ⟨ob, e5, e6⟩ := h4 a (by show a ∈ Fe ++ P; simp [ha])
                exact ⟨ob, kp a ob e5 (g5 a ha), e6⟩⟩
        · show a ∈ (A ++ (F' ++ B)) ++ F2 ∨ a ∈ F''
          simp only [List.mem_append] at ha ⊢
          rcases ha with (h | h | h) | h <;> simp [h]
    | true =>
      obtain ⟨v0, v, F', A, B, ho, tv, rv, hF, mk⟩ := h2.lens (show s.obj[i]? = some l from hl) hd0 hg
      subst hF
      have hv0 : ∃ a, m[i]? = some a ∧ v0 = .ref a := by
        unfold oref at ho
        rw [List.getElem?_map] at ho
        cases hm : m[i]? with
        | none => rw [hm] at ho; cases ho
        | some a => rw [hm] at ho; cases ho; exact ⟨a, rfl, rfl⟩
      refine ⟨v0, v, hv0, tv, F', rv, ?_, fun a ha => ⟨by show a ∈ _; simp [ha], fun z => (List.nodup_append.mp h3).2.2 a z a (by simp [ha]) rfl⟩, fun Fe P Z eP H' d'' F'' kp r'' nd'' hs hZ => ?_⟩
      · exact (List.nodup_append.mp (List.nodup_append.mp (List.nodup_append.mp (List.nodup_append.mp h3).2.1).2.1).2.1).1
      · have eP : P0 = Fe ++ P := eP
        subst eP
        obtain ⟨g1, g2, g3, g4, g5, g6⟩ := mid_facts (A := A) (B := B) (Fe := Fe) (P := P) (F' := F') (X := F1) (Y := []) (F'' := Z ++ F'') (by rw [List.append_nil]; exact h3) (by rw [List.append_nil]; exact mu) nd'' (fun a ha => (List.mem_append.mp ha).elim (fun q => .inl (hZ a q).1) (hs a))
        rw [List.append_nil] at g1 g2
        rw [List.append_nil] at g2
        have g1 : ((Z ++ P) ++ (F1 ++ (A ++ (F'' ++ B)))).Nodup := by
          have p : (P ++ (F1 ++ (A ++ ((Z ++ F'') ++ B)))).Perm ((Z ++ P) ++ (F1 ++ (A ++ (F'' ++ B)))) := by
            rw [List.perm_iff_count]; intro x; simp only [List.count_append]; omega
          exact p.nodup_iff.mp g1
        have g2 : ∀ a ∈ (Z ++ P) ++ (F1 ++ (A ++ (F'' ++ B))), a ∈ (Fe ++ P) ++ (F1 ++ (A ++ (F' ++ B))) ∨ H a = none := fun a ha => g2 a (by
          simp only [List.mem_append] at ha ⊢
          rcases ha with (h | h) | h | h | h | h <;> simp [h])
        refine ⟨F1 ++ (A ++ (F'' ++ B)), ?_, fun a ha => ?_⟩
        · rw [upd_eq hl hd0]
          exact ⟨F1, A ++ (F'' ++ B), rfl, h1.change kp rv.mut (fun a ha => by show a ∈ (Fe ++ P) ++ (F1 ++ (A ++ (F' ++ B))); simp [ha]) (fun _ _ h => h) g2 g3,
            mk H' _ d'' F'' kp g2 r'' g6 (fun a ha => by show a ∈ (Fe ++ P) ++ (F1 ++ (A ++ (F' ++ B))); exact List.mem_append_right _ (List.mem_append_right _ ha)), g1, fun a ha => by
              rcases List.mem_append.mp (show a ∈ Z ++ P from ha) with ha | ha
              · exact (hZ a ha).2
              · obtain ⟨ob, e5, e6⟩ := h4 a (by show a ∈ Fe ++ P; simp [ha])
                exact ⟨ob, kp a ob e5 (g5 a ha), e6⟩⟩
        · show a ∈ F1 ++ (A ++ (F' ++ B)) ∨ a ∈ F''
          simp only [List.mem_append] at ha ⊢
          rcases ha with h | h | h | h <;> simp [h]
  unfold S.get at e
  split at e
  · rename_i d0 hr
    exact key _ d0 hr (.inl rfl) e
  · rename_i d0 hr
    exact key _ d0 hr (.inr rfl) e
  · cases e
end
end Dn
set_option Elab.async false
set_option linter.all false
set_option maxRecDepth 100000
set_option maxHeartbeats 4000000
/-! what is written -/
namespace Dn
open PySem PySem.Spec PyProof.Rows L2 Tr
theorem getP_snoc {st : Step} : ∀ {π : List Step} {d x : D}, d.getP π = some x → d.getP (π ++ [st]) = x.sub st
  | [], d, x, h => by
    cases h
    show (match d.sub st with
      | some e => e.getP []
      | none => none) = d.sub st
    cases d.sub st <;> rfl
  | s :: π, d, x, h => by
    rw [List.cons_append, D.getP]
    rw [D.getP] at h
    cases hs : d.sub s with
    | none => rw [hs] at h; cases h
    | some e => rw [hs] at h; exact getP_snoc (π := π) h
theorem setP_snoc {st : Step} {y z : D} : ∀ {π : List Step} {d x : D}, d.getP π = some x → x.sub st = some z → d.setP (π ++ [st]) y = d.setP π (x.sup st y)
  | [], d, x, h, hz => by
    cases h
    show (match d.sub st with
      | some e => d.sup st (e.setP [] y)
      | none => d) = d.sup st y
    rw [hz]
    try rfl
  | s :: π, d, x, h, hz => by
    rw [List.cons_append, D.setP, D.setP]
    rw [D.getP] at h
    cases hs : d.sub s with
    | none => simp [hs] at h
    | some e =>
      rw [hs] at h
      show d.sup s (e.setP (π ++ [st]) y) = d.sup s (e.setP π (x.sup st y))
      rw [setP_snoc (π := π) h hz]
section
variable {c : Ct} {m : List Addr} {H H' : Hp} {s s' : S} {σ : St} {F0 : Fq} {π : Pth} {v : V} {d : D}
theorem get_snoc {st : Step} {x : D} (h : s.get π = some x) : s.get ⟨π.b, π.i, π.st ++ [st]⟩ = x.sub st := by
  unfold S.get at h ⊢
  show (match s.root π.b π.i with
    | some (.own d) => d.getP (π.st ++ [st])
    | some (.par d) => d.getP (π.st ++ [st])
    | _ => none) = _
  split at h
  · rename_i e; (try rw [e]); exact getP_snoc h
  · rename_i e; (try rw [e]); exact getP_snoc h
  · cases h
theorem upd_snoc {st : Step} {x y z : D} (h : s.get π = some x) (hz : x.sub st = some z) : s.upd ⟨π.b, π.i, π.st ++ [st]⟩ y = s.upd π (x.sup st y) := by
  unfold S.get at h
  unfold S.upd
  show (match s.root π.b π.i with
    | some (.own d) => s.setRoot π.b π.i (.own (d.setP (π.st ++ [st]) y))
    | some (.par d) => s.setRoot π.b π.i (.par (d.setP (π.st ++ [st]) y))
    | _ => s) = _
  split at h
  · rename_i e; (try rw [e]); show s.setRoot π.b π.i _ = s.setRoot π.b π.i _; rw [setP_snoc h hz]
  · rename_i e; (try rw [e]); show s.setRoot π.b π.i _ = s.setRoot π.b π.i _; rw [setP_snoc h hz]
  · cases h
/-- a step further -/
theorem LensAt.step {st : Step} {x : D} (h : LensAt c m F0 σ H s π v x) (hx : s.get π = some x) (e : x.sub st = some d) : ∃ w, SF c H v x st w ∧ LensAt c m F0 σ H s ⟨π.b, π.i, π.st ++ [st]⟩ w d := by
  obtain ⟨F', r, nd, sub, k⟩ := h
  obtain ⟨w, F1, A, B, eF, rw', tr, sf, reb⟩ := rep_lens1 r e
  have nd1 : F1.Nodup := by
    rw [eF] at nd
    exact (List.nodup_append.mp (List.nodup_append.mp nd).2.1).1
  refine ⟨w, sf, F1, rw', nd1, fun a ha => sub a (by rw [eF]; simp [ha]), fun Fe P Z eP H2 d'' F'' kp r2 nd2' hs hZ => ?_⟩
  have nd2 : F''.Nodup := (List.nodup_append.mp nd2').2.1
  have z := reb H2 m d'' F'' kp (fun _ _ h => h) r2 nd
  have ndz : (A ++ (F'' ++ B)).Nodup := by
    rw [eF] at nd
    have p1 : (A ++ (F1 ++ B)).Perm (F1 ++ (A ++ B)) := by
      rw [List.perm_iff_count]; intro x; simp only [List.count_append]; omega
    have p2 : (A ++ (F'' ++ B)).Perm (F'' ++ (A ++ B)) := by
      rw [List.perm_iff_count]; intro x; simp only [List.count_append]; omega
    have n1 := p1.nodup_iff.mp nd
    rw [List.nodup_append] at n1
    refine p2.nodup_iff.mpr ?_
    rw [List.nodup_append]
    refine ⟨nd2, n1.2.1, fun a ha b hb e => ?_⟩
    subst e
    have hab : a ∈ F' := by
      rw [eF]
      simp only [List.mem_append] at hb ⊢
      rcases hb with h | h <;> simp [h]
    rcases hs a ha with q | q | q
    · exact n1.2.2 a q a hb rfl
    · exact absurd (show a ∈ F0.1 by rw [eP]; simp [q]) (sub a hab).2
    · exact (r.mut a hab).some q
  have hsub : ∀ a ∈ A ++ (F'' ++ B), a ∈ F' ∨ a ∈ Fe ∨ H a = none := fun a ha => by
    rw [eF]
    simp only [List.mem_append] at ha ⊢
    rcases ha with h | h | h
    · simp [h]
    · rcases hs a h with q | q | q
      · simp [q]
      · simp [q]
      · exact .inr (.inr q)
    · simp [h]
  obtain ⟨F1', g1, g2⟩ := k Fe P Z eP H2 (x.sup st d'') _ (fun a o ha hn => kp a o ha fun q => hn (by rw [eF]; simp [q])) z (by
    rw [List.nodup_append]
    refine ⟨(List.nodup_append.mp nd2').1, ndz, fun a ha b hb e => ?_⟩
    subst e
    rw [eF] at nd
    have n1 := List.nodup_append.mp nd
    have n2 := List.nodup_append.mp n1.2.1
    rcases List.mem_append.mp hb with h | h
    · exact n1.2.2 a h a (by simp [(hZ a ha).1]) rfl
    · rcases List.mem_append.mp h with h | h
      · exact (List.nodup_append.mp nd2').2.2 a ha a h rfl
      · exact n2.2.2 a (hZ a ha).1 a h rfl) hsub fun a ha => ⟨by rw [eF]; simp [(hZ a ha).1], (hZ a ha).2⟩
  rw [upd_snoc hx e]
  refine ⟨F1', g1, fun a ha => ?_⟩
  rcases g2 a ha with q | q
  · exact .inl q
  · simp only [List.mem_append] at q
    rcases q with h | h | h
    · exact .inl (sub a (by rw [eF]; simp [h])).1
    · exact .inr h
    · exact .inl (sub a (by rw [eF]; simp [h])).1
end
end Dn
set_option Elab.async false
set_option linter.all false
set_option maxRecDepth 100000
set_option maxHeartbeats 4000000
/-! writes to lists, dicts, objects -/
namespace Dn
open PySem PySem.Spec PyProof.Rows L2 Tr
section
variable {c : Ct} {m : List Addr} {H H' H1 : Hp} {s s' : S} {σ : St} {F0 : Fq} {π : Pth} {v : V} {d : D}
theorem setRoot_par {b : Bool} {i j : Nat} {l l' : Lc} {d' : D} (hl : s.root b i = some l) (hp : ∀ d, l' = .par d → ∃ d, l = .par d) (h : (s.setRoot b i l').loc[j]? = some (.par d')) : ∃ d, s.loc[j]? = some (.par d) := by
  cases b with
  | true => exact ⟨d', h⟩
  | false =>
    have h : (s.loc.set i l')[j]? = some (.par d') := h
    by_cases hj : i = j
    · subst hj
      by_cases hi : i < s.loc.length
      · rw [List.getElem?_set_self hi] at h
        cases h
        obtain ⟨d, e⟩ := hp d' rfl
        subst e
        exact ⟨d, hl⟩
      · rw [List.getElem?_eq_none (by simpa using hi)] at h; cases h
    · rw [List.getElem?_set_ne hj] at h
      exact ⟨d', h⟩
theorem PX.upd {x : D} : PX s (s.upd π x) := fun j d' h => by
  unfold S.upd at h
  split at h
  · rename_i d0 hr
    exact setRoot_par hr (fun d z => by cases z) h
  · rename_i d0 hr
    exact setRoot_par hr (fun d z => ⟨d0, rfl⟩) h
  · exact ⟨d', h⟩
theorem kp_upd {F : List Addr} {a : Addr} {o : HO} {H2 : Hp} (x : Same H1 H2) (h : a ∈ F) : Kp F H1 (upd H2 a o) := fun b u e hn => by
  rw [upd_ne (fun z => hn (by rw [z]; exact h))]
  exact x b u e
theorem LensAt.wlst {ds : List D} (h : LensAt c m F0 σ H1 s π v (.lst ds)) : ∃ a xs G, v = .ref a ∧ H1 a = some (.lst xs) ∧ RepL c m H1 xs ds G ∧ (a :: G).Nodup ∧ (∀ b ∈ a :: G, b ∈ F0.2 ∧ b ∉ F0.1) ∧
    ∀ Fe P, F0.1 = Fe ++ P → ∀ H2 xs' ds' G', Same H1 H2 → RepL c m H2 xs' ds' G' → (a :: G').Nodup → (∀ b ∈ G', b ∈ G ∨ b ∈ Fe ∨ H1 b = none) →
      ∃ F1', Rl c m (P, F1') σ (upd H2 a (.lst xs')) (s.upd π (.lst ds')) ∧ (∀ b ∈ F1', b ∈ F0.2 ∨ b ∈ G') ∧ Kp F0.2 H1 (upd H2 a (.lst xs')) := by
  obtain ⟨F', r, nd, sub, k⟩ := h
  have k' := fun Fe P eP H' d'' F'' kp r nd hs => k Fe P [] eP H' d'' F'' kp r nd hs (by simp)
  obtain ⟨a, xs, G, rfl, rfl, ha, rr⟩ := rep_lst r
  refine ⟨a, xs, G, rfl, ha, rr, nd, sub, fun Fe P eP H2 xs' ds' G' x r' nd' hs => ?_⟩
  have na := List.nodup_cons.mp nd'
  have r2 : Rep c m (L2.upd H2 a (.lst xs')) (.ref a) (.lst ds') (a :: G') := .lst upd_same (r'.keep (F0 := [a]) (kp_upd (Same.refl _) (by simp)) (fun b hb => by
    have hb : b = a := by simpa using hb
    subst hb
    exact ⟨_, x _ _ ha, rfl⟩) (fun _ _ h => h) fun b hb z => na.1 (by
    have z : b = a := by simpa using z
    rw [← z]; exact hb))
  obtain ⟨F1', g1, g2⟩ := k' Fe P eP (L2.upd H2 a (.lst xs')) (.lst ds') (a :: G') (kp_upd x (by simp)) r2 nd' fun b hb => by
    rcases List.mem_cons.mp hb with z | z
    · exact .inl (by simp [z])
    · rcases hs b z with q | q | q
      · exact .inl (by simp [q])
      · exact .inr (.inl q)
      · exact .inr (.inr q)
  refine ⟨F1', g1, fun b hb => ?_, kp_upd x (sub a (by simp)).1⟩
  rcases g2 b hb with q | q
  · exact .inl q
  · rcases List.mem_cons.mp q with z | z
    · exact .inl (by rw [z]; exact (sub a (by simp)).1)
    · exact .inr z
theorem LensAt.wdic {kvs : List (Key × D)} (h : LensAt c m F0 σ H1 s π v (.dic kvs)) : ∃ a kx G, v = .ref a ∧ H1 a = some (.dK kx) ∧ kx.map Prod.fst = kvs.map Prod.fst ∧ (kvs.map Prod.fst).Nodup ∧ RepL c m H1 (kx.map Prod.snd) (kvs.map Prod.snd) G ∧ (a :: G).Nodup ∧ (∀ b ∈ a :: G, b ∈ F0.2 ∧ b ∉ F0.1) ∧
    ∀ Fe P, F0.1 = Fe ++ P → ∀ H2 kx' kvs' G', Same H1 H2 → kx'.map Prod.fst = kvs'.map Prod.fst → (kvs'.map Prod.fst).Nodup → RepL c m H2 (kx'.map Prod.snd) (kvs'.map Prod.snd) G' → (a :: G').Nodup → (∀ b ∈ G', b ∈ G ∨ b ∈ Fe ∨ H1 b = none) →
      ∃ F1', Rl c m (P, F1') σ (upd H2 a (.dK kx')) (s.upd π (.dic kvs')) ∧ (∀ b ∈ F1', b ∈ F0.2 ∨ b ∈ G') ∧ Kp F0.2 H1 (upd H2 a (.dK kx')) := by
  obtain ⟨F', r, nd, sub, k⟩ := h
  have k' := fun Fe P eP H' d'' F'' kp r nd hs => k Fe P [] eP H' d'' F'' kp r nd hs (by simp)
  obtain ⟨a, kx, G, rfl, rfl, ha, hk, hkn, rr⟩ := rep_dic r
  refine ⟨a, kx, G, rfl, ha, hk, hkn, rr, nd, sub, fun Fe P eP H2 xs' ds' G' x ek en r' nd' hs => ?_⟩
  have na := List.nodup_cons.mp nd'
  have r2 : Rep c m (L2.upd H2 a (.dK xs')) (.ref a) (.dic ds') (a :: G') := .dic upd_same ek en (r'.keep (F0 := [a]) (kp_upd (Same.refl _) (by simp)) (fun b hb => by
    have hb : b = a := by simpa using hb
    subst hb
    exact ⟨_, x _ _ ha, rfl⟩) (fun _ _ h => h) fun b hb z => na.1 (by
    have z : b = a := by simpa using z
    rw [← z]; exact hb))
  obtain ⟨F1', g1, g2⟩ := k' Fe P eP (L2.upd H2 a (.dK xs')) (.dic ds') (a :: G') (kp_upd x (by simp)) r2 nd' fun b hb => by
    rcases List.mem_cons.mp hb with z | z
    · exact .inl (by simp [z])
    · rcases hs b z with q | q | q
      · exact .inl (by simp [q])
      · exact .inr (.inl q)
      · exact .inr (.inr q)
  refine ⟨F1', g1, fun b hb => ?_, kp_upd x (sub a (by simp)).1⟩
  rcases g2 b hb with q | q
  · exact .inl q
  · rcases List.mem_cons.mp q with z | z
    · exact .inl (by rw [z]; exact (sub a (by simp)).1)
    · exact .inr z
theorem LensAt.wins {C : Addr} {fs : List (Str × D)} (h : LensAt c m F0 σ H1 s π v (.ins C fs)) : ∃ a dx fx G, v = .ref a ∧ H1 a = some (.ins C dx fx) ∧ fx.map Prod.fst = fs.map Prod.fst ∧ RepL c m H1 (fx.map Prod.snd) (fs.map Prod.snd) G ∧ (a :: dx :: G).Nodup ∧ (∀ b ∈ a :: dx :: G, b ∈ F0.2 ∧ b ∉ F0.1) ∧
    ∀ Fe P, F0.1 = Fe ++ P → ∀ H2 fx' fs' G', Same H1 H2 → fx'.map Prod.fst = fs'.map Prod.fst → RepL c m H2 (fx'.map Prod.snd) (fs'.map Prod.snd) G' → (a :: dx :: G').Nodup → (∀ b ∈ G', b ∈ G ∨ b ∈ Fe ∨ H1 b = none) →
      ∃ F1', Rl c m (P, F1') σ (upd H2 a (.ins C dx fx')) (s.upd π (.ins C fs')) ∧ (∀ b ∈ F1', b ∈ F0.2 ∨ b ∈ G') ∧ Kp F0.2 H1 (upd H2 a (.ins C dx fx')) := by
  obtain ⟨F', r, nd, sub, k⟩ := h
  have k' := fun Fe P eP H' d'' F'' kp r nd hs => k Fe P [] eP H' d'' F'' kp r nd hs (by simp)
  obtain ⟨a, dx, fx, G, rfl, rfl, ha, hd, hk, rr⟩ := rep_ins r
  refine ⟨a, dx, fx, G, rfl, ha, hk, rr, nd, sub, fun Fe P eP H2 xs' ds' G' x ek r' nd' hs => ?_⟩
  have na := List.nodup_cons.mp nd'
  have nda : dx ≠ a := fun z => na.1 (by simp [z])
  have r2 : Rep c m (L2.upd H2 a (.ins C dx xs')) (.ref a) (.ins C ds') (a :: dx :: G') := .ins upd_same (by rw [upd_ne nda]; exact x _ _ hd) ek (r'.keep (F0 := [a]) (kp_upd (Same.refl _) (by simp)) (fun b hb => by
    have hb : b = a := by simpa using hb
    subst hb
    exact ⟨_, x _ _ ha, rfl⟩) (fun _ _ h => h) fun b hb z => na.1 (by
    have z : b = a := by simpa using z
    rw [← z]; simp [hb]))
  obtain ⟨F1', g1, g2⟩ := k' Fe P eP (L2.upd H2 a (.ins C dx xs')) (.ins C ds') (a :: dx :: G') (kp_upd x (by simp)) r2 nd' fun b hb => by
    rcases List.mem_cons.mp hb with z | z
    · exact .inl (by simp [z])
    · rcases List.mem_cons.mp z with z | z
      · exact .inl (by simp [z])
      · rcases hs b z with q | q | q
        · exact .inl (by simp [q])
        · exact .inr (.inl q)
        · exact .inr (.inr q)
  refine ⟨F1', g1, fun b hb => ?_, kp_upd x (sub a (by simp)).1⟩
  rcases g2 b hb with q | q
  · exact .inl q
  · rcases List.mem_cons.mp q with z | z
    · exact .inl (by rw [z]; exact (sub a (by simp)).1)
    · rcases List.mem_cons.mp z with z | z
      · exact .inl (by rw [z]; exact (sub dx (by simp)).1)
      · exact .inr z
end
/-! ways as expressions -/
structure JH (X : Cx) (e : Expr) (q : PP) : Prop where
  run : ∀ (m : List Addr) (F0 : Fq) (σ : St) (H : Hp) (s : S), Rl (ct X) m F0 σ H s → ∀ π d, q s = some π → s.get π = some d → ∀ Q : VK, (∀ v H', Same H H' → LensAt (ct X) m F0 σ H' s π v d → Q v H') → WE X e σ H Q
def hV (i : Nat) : PP := fun _ => some ⟨false, i, []⟩
def hF (C : Addr) (f : Str) (p : PV) : PP := fun s => match p s with
  | some (.ptr n, _) => match s.at n with
    | some (.ins C' _) => if C' = C then some ⟨true, n, [.fld f]⟩ else none
    | _ => none
  | _ => none
def D.stepOf : D → D → Option Step
  | .lst ds, .int i => (ixN ds.length i).map .ix
  | .tup ds, .int i => (ixN ds.length i).map .ix
  | .dic _, k => k.key.map .key
  | _, _ => none
def hI (q : PP) (p : PV) : PP := fun s => match q s with
  | some π => match s.get π with
    | some d => match p s with
      | some (k, _) => (d.stepOf k).map fun st => ⟨π.b, π.i, π.st ++ [st]⟩
      | none => none
    | none => none
  | none => none
section
variable {X : Cx} {e a b o i : Expr} {es rest : List Expr} {pos : Pos} {p : PV} {q : PP} {x : Str} {ea : EV}
theorem jh_var (i : Nat) (hN : X.N[i]? = some x := by rfl) (hv : Vis X.env.scope x := by first | exact Or.inl rfl | exact Or.inr (Or.inl rfl) | exact Or.inr (Or.inr rfl)) (hd : (x == ("__debug__" : Str)) = false := by decide)
    (hcd : (x == ("__classdict__" : Str)) = false := by decide) : JH X (.Name x pos) (hV i) := ⟨fun m F0 σ H s r π d e g Q k => by
  cases e
  obtain ⟨v0, v, h1, t, l⟩ := r.lens g
  cases t
  exact w_v i h1 (k v0 H (Same.refl _) l) hN hv hd hcd⟩
theorem jh_fld {C : Addr} {f : Str} (A : FA X C f) (h : JP X e p) (hb : attributeBase e f X.env (eval e X.env) = eval e X.env := by rfl) : JH X (.Attribute e f pos) (hF C f p) := ⟨fun m F0 σ H s r π d ee g Q k => by
  unfold hF at ee
  split at ee
  · rename_i n fl hn
    split at ee
    · rename_i C' fs hs
      split at ee
      · rename_i hC
        subst hC
        cases ee
        refine w_fld (h.run m F0 σ H s r _ fl hn _ fun v H1 F1 s1 r1 _ => ?_) hb
        obtain ⟨a, rfl, _, hm⟩ := rep_ptr r1
        obtain ⟨v0, v, ⟨a', e1, e2⟩, t, l⟩ := (r.same s1).lens g
        have e1 : m[n]? = some a' := e1
        rw [hm] at e1
        cases e1
        subst e2
        have t : Trav (ct X) H1 (.ref a) [.fld f] v := t
        cases t with
        | ins h1 h2 h3 =>
          rename_i C2 dx fx u
          cases h3
          have : C2 = C' := by
            obtain ⟨G, rr⟩ := (r.same s1).objAt hs hm
            obtain ⟨a2, dx2, fx2, G2, e3, _, h4, _⟩ := rep_ins rr
            cases e3
            rw [h1] at h4
            cases h4
            rfl
          subst this
          exact ⟨a, C2, dx, fx, v, rfl, h1, A.cl, A.na, by rw [lookup_g]; exact h2, k v H1 s1 l⟩
      · cases ee
    · cases ee
  · cases ee⟩
theorem jh_ix {n : Nat} (hr : Room n X.A) (h : JH X o q) (hp : JP X i p) (hs : PlainIx i := by exact fun _ _ => rfl) : JH X (.Subscript o i pos) (hI q p) := ⟨fun m F0 σ H s r π d ee g Q k => by
  unfold hI at ee
  split at ee
  · rename_i π0 hq
    split at ee
    · rename_i d0 hd0
      split at ee
      · rename_i ki fl hk
        cases hst : d0.stepOf ki with
        | none => rw [hst] at ee; cases ee
        | some st =>
          rw [hst] at ee
          cases ee
          have hsub : d0.sub st = some d := by rw [← get_snoc hd0]; exact g
          refine w_ix (ix_list.or (ix_tup.or ((ix_dK hr)))) (h.run m F0 σ H s r π0 d0 hq hd0 _ fun v H1 s1 l1 => hp.run m F0 σ H1 s (r.same s1) ki fl hk _ fun u H2 F2 s2 r2 _ => ?_) hs
          obtain ⟨w, t, l⟩ := (l1.same s2).step hd0 hsub
          have at_ : ∀ {xs : List V} {n' : Nat} {j : Int} {k : Nat} {y : V}, xs.length = k → ixN k j = some n' → xs[n']? = some y → atI xs j = some y := fun e1 e2 e3 => by unfold atI; rw [e1, e2]; exact e3
          unfold D.stepOf at hst
          split at hst
          · rename_i ds j
            obtain ⟨rfl, _⟩ := rep_int r2
            cases hx : ixN ds.length j with
            | none => rw [hx] at hst; cases hst
            | some n' =>
              rw [hx] at hst; cases hst
              obtain ⟨a, xs, rfl, h1, h2, h3⟩ := (show SF (ct X) H2 v (.lst ds) (.ix n') w from t)
              exact .inl ⟨a, xs, j, w, rfl, rfl, SqL.of h1, at_ h3 hx h2, k w H2 (s1.trans s2) l⟩
          · rename_i ds j
            obtain ⟨rfl, _⟩ := rep_int r2
            cases hx : ixN ds.length j with
            | none => rw [hx] at hst; cases hst
            | some n' =>
              rw [hx] at hst; cases hst
              obtain ⟨a, xs, rfl, h1, h2, h3⟩ := (show SF (ct X) H2 v (.tup ds) (.ix n') w from t)
              exact .inr (.inl ⟨a, xs, j, w, rfl, rfl, h1, at_ h3 hx h2, k w H2 (s1.trans s2) l⟩)
          · rename_i kvs
            cases hx : ki.key with
            | none => rw [hx] at hst; cases hst
            | some ky =>
              rw [hx] at hst; cases hst
              obtain ⟨a, kx, rfl, h1, h2⟩ := (show SF (ct X) H2 v (.dic kvs) (.key ky) w from t)
              rw [key_kV r2 hx]
              exact .inr (.inr ⟨a, w, rfl, by rw [← h2, ← valV_g]; exact DGet.k h1, k w H2 (s1.trans s2) l⟩)
          · cases hst
      · cases ee
    · cases ee
  · cases ee⟩
end
end Dn
set_option Elab.async false
set_option linter.all false
set_option maxRecDepth 100000
set_option maxHeartbeats 4000000
/-! append, extend, o[i] = e, o.f = e, parts taken along -/
namespace Dn
open PySem PySem.Spec PyProof.Rows L2 Tr
section
variable {c : Ct} {m : List Addr} {H H' H1 : Hp} {s s' : S} {σ : St} {F0 : Fq} {π : Pth} {v : V} {d : D}
theorem nd_app {a : Addr} {G Fe : List Addr} (h : (a :: G).Nodup) (hf : Fe.Nodup) (hd : ∀ b ∈ Fe, b ∉ a :: G) : (a :: (G ++ Fe)).Nodup := by
  have n := List.nodup_cons.mp h
  refine List.nodup_cons.mpr ⟨fun z => (List.mem_append.mp z).elim n.1 fun q => hd a q (by simp), ?_⟩
  rw [List.nodup_append]
  exact ⟨n.2, hf, fun p hp q hq e => by subst e; exact hd p hq (by simp [hp])⟩
end
section
variable {X : Cx} {e a b o i value : Expr} {es rest : List Expr} {pos : Pos} {p pv : PV} {q : PP} {x : Str} {ea : EV}
/-- behind a write: nothing is in hand -/
theorem Af.write {m : List Addr} {F0 : Fq} {H : Hp} {s s1 : S} {σ : St} {F m1 F1 F1' : List Addr} {H1 H2 : Hp} {π : Pth} {y : D} (A : Af (ct X) m F0 H s σ F m1 F1 H1 s1) (r : Rl (ct X) m1 (F0.1, F1') σ H2 (s1.upd π y)) (sub : ∀ b ∈ F1', b ∈ F1 ∨ b ∈ F ∨ H1 b = none) (kp : Kp F1 H1 H2) : Af (ct X) m F0 H s σ [] m1 F1' H2 (s1.upd π y) := by
  refine ⟨A.mx, r, ⟨fun b o e hn => kp b o (A.ex.kp b o e hn) fun z => ?_, fun b hb => ?_⟩, A.px.trans PX.upd⟩
  · exact (A.ex.sub b (by simp [z])).elim hn fun q => by rw [e] at q; cases q
  · rcases sub b (by simpa using hb) with q | q | q
    · exact A.ex.sub b (by simp [q])
    · exact A.ex.sub b (by simp [q])
    · cases e : H b with
      | none => exact .inr rfl
      | some ob =>
        by_cases hz : b ∈ F0.2
        · exact .inl hz
        · rw [A.ex.kp b ob e hz] at q; cases q
def eApp (π : Pth) (d : D) : S → Option (Res D) := fun s => match s.get π with
  | some (.lst ds) => if szOk ds.length then some (.ok .non (s.upd π (.lst (ds ++ [d])))) else none
  | _ => none
/-- x.append(e), x a slot; e may change things -/
def eAppN (i : Nat) (ea : EV) : EV := fun s => match s.get ⟨false, i, []⟩ with
  | some (.lst _) => eB ea (fun d => eApp ⟨false, i, []⟩ d) s
  | _ => none
theorem je_appN (i : Nat) {n : Nat} {p1 apos : Pos} (h : JE X e ea) (hN : X.N[i]? = some x := by rfl) (hv : Vis X.env.scope x := by first | exact Or.inl rfl | exact Or.inr (Or.inl rfl) | exact Or.inr (Or.inr rfl)) (hd : (x == ("__debug__" : Str)) = false := by decide)
    (hcd : (x == ("__classdict__" : Str)) = false := by decide)
    (hbase : attributeBase (.Name x p1) "append" X.env (eval (.Name x p1) X.env) = eval (.Name x p1) X.env := by rfl)
    (hfew : ((backTo pos (starEach [e] X.env)).all (fun x => !x.1) && (backToKw pos (keywordEach [] X.env)).all (fun x => x.1.isSome)
      && decide (([e] : List Expr).length + ([] : List Keyword).length + (if ([] : List Keyword).isEmpty then 0 else 1) < 30)) = true := by rfl)
    (hline : (apos.endLine == pos.line) = true := by rfl) (hs : starEach [e] X.env = (false, eval e X.env) :: starEach [] X.env := by rfl) : JE X (.Call (.Attribute (.Name x p1) "append" apos) [e] [] pos) (eAppN i ea) := ⟨fun m F0 σ H s r Q z => by
  unfold eAppN at z
  split at z
  · rename_i ds0 hg
    obtain ⟨v0, v, h1, t, l⟩ := r.lens hg
    have t : Trav (ct X) H v0 [] v := t
    have h1 : σ[i]? = some (some v0) := h1
    cases t
    obtain ⟨a0, xs0, G0, rfl, ha0, _⟩ := l.wlst
    refine w_bm PySem.F.plainAttrs_list PySem.F.slot_list_append PySem.F.type_list_append mt_append (w_v i h1 ⟨.inl ⟨rfl, _, SqL.of ha0⟩, wa_cons (h.run m F0 σ H s r _ (EPost.then (P := EPost X m F0 σ H s Q) (fun _ _ h => h) (fun h => h) z fun d s1 ve H1 m1 Fe F1 A r1 z => wa_nil ?_)) hs⟩ hN hv hd hcd) hbase hfew hline hs rfl
    unfold eApp at z
    split at z
    · rename_i ds hg1
      by_cases hz : szOk ds.length = true
      · rw [if_pos hz] at z
        obtain ⟨v0', v', h1', t', l'⟩ := A.rl.lens hg1
        have t' : Trav (ct X) H1 v0' [] v' := t'
        have h1' : σ[i]? = some (some v0') := h1'
        cases t'
        rw [h1] at h1'
        cases h1'
        obtain ⟨a, xs, G, e1, ha, rr, nd, sub, k⟩ := l'.wlst
        cases e1
        refine ⟨a0, xs, ve, rfl, rfl, ha, szOk_lt (by rw [rr.length]; exact hz), ?_⟩
        have ndF : ((Fe ++ F0.1) ++ F1).Nodup := A.rl.nd
        have ndFe : Fe.Nodup := (List.nodup_append.mp (List.nodup_append.mp ndF).1).1
        have nd' := nd_app nd ndFe fun b hb z => (sub b z).2 (by simp [hb])
        obtain ⟨F1', g1, g2, g3⟩ := k Fe F0.1 rfl H1 (xs ++ [ve]) (ds ++ [d]) (G ++ Fe) (Same.refl _) (rr.append (RepL.one r1)) nd' fun b hb => (List.mem_append.mp hb).elim .inl fun q => .inr (.inl q)
        refine z .non _ m1 [] F1' (A.write g1 (fun b hb => ?_) g3) .non
        rcases g2 b hb with q | q
        · exact .inl q
        · rcases List.mem_append.mp q with q | q
          · exact .inl (sub b (by simp [q])).1
          · exact .inr (.inl q)
      · rw [if_neg hz] at z; exact (show False from z).elim
    · exact (show False from z).elim
  · exact (show False from z).elim⟩
/-- o.append(e), o a way; e changes nothing -/
def eAppP (q : PP) (p : PV) : EV := fun s => match q s with
  | some π => match p s with
    | some (d, fr) => if fr = true ∨ d.imm = true then eApp π d s else none
    | none => none
  | none => none
theorem je_appP {apos : Pos} (hq : JH X o q) (h : JP X e p)
    (hbase : attributeBase o "append" X.env (eval o X.env) = eval o X.env := by rfl)
    (hfew : ((backTo pos (starEach [e] X.env)).all (fun x => !x.1) && (backToKw pos (keywordEach [] X.env)).all (fun x => x.1.isSome)
      && decide (([e] : List Expr).length + ([] : List Keyword).length + (if ([] : List Keyword).isEmpty then 0 else 1) < 30)) = true := by rfl)
    (hline : (apos.endLine == pos.line) = true := by rfl) (hs : starEach [e] X.env = (false, eval e X.env) :: starEach [] X.env := by rfl) : JE X (.Call (.Attribute o "append" apos) [e] [] pos) (eAppP q p) := ⟨fun m F0 σ H s r Q z => by
  unfold eAppP at z
  split at z
  · rename_i π hπ
    split at z
    · rename_i d fr hp
      by_cases hf : fr = true ∨ d.imm = true
      · rw [if_pos hf] at z
        unfold eApp at z
        split at z
        · rename_i ds hg
          by_cases hz : szOk ds.length = true
          · rw [if_pos hz] at z
            refine w_bm PySem.F.plainAttrs_list PySem.F.slot_list_append PySem.F.type_list_append mt_append (hq.run m F0 σ H s r π _ hπ hg _ fun v H1 s1 l => ?_) hbase hfew hline hs rfl
            obtain ⟨a, xs, G, rfl, ha, rr, nd, sub, k⟩ := l.wlst
            refine ⟨.inl ⟨rfl, _, SqL.of ha⟩, wa_cons (h.run m F0 σ H1 s (r.same s1) d fr hp _ fun ve H2 Fe s2 r2 n2 => wa_nil ?_) hs⟩
            have nn : Fe.Nodup ∧ ∀ b ∈ Fe, H1 b = none := by
              rcases hf with hf | hf
              · exact n2 hf
              · rw [r2.imm hf]; exact ⟨List.nodup_nil, by simp⟩
            refine ⟨a, xs, ve, rfl, rfl, s2 _ _ ha, szOk_lt (by rw [rr.length]; exact hz), ?_⟩
            have nd' := nd_app nd nn.1 fun b hb z => by
              have := ((r.same s1).mut b (by simp [(sub b z).1])).some
              exact this (nn.2 b hb)
            obtain ⟨F1', g1, g2, g3⟩ := k [] F0.1 rfl H2 (xs ++ [ve]) (ds ++ [d]) (G ++ Fe) s2 ((rr.same s2).append (RepL.one r2)) nd' fun b hb => (List.mem_append.mp hb).elim .inl fun q => .inr (.inr (nn.2 b q))
            have A0 : Af (ct X) m F0 H s σ [] m F0.2 H1 s := Af.same r s1
            refine z .non _ m [] F1' (A0.write g1 (fun b hb => ?_) g3) .non
            rcases g2 b hb with q | q
            · exact .inl q
            · rcases List.mem_append.mp q with q | q
              · exact .inl (sub b (by simp [q])).1
              · exact .inr (.inr (nn.2 b q))
          · rw [if_neg hz] at z; exact (show False from z).elim
        · exact (show False from z).elim
      · rw [if_neg hf] at z; exact (show False from z).elim
    · exact (show False from z).elim
  · exact (show False from z).elim⟩
/-! o[i] = value -/
theorem pset_or {t u : TSet} (h : PSet X t) (h' : PSet X u) : PSet X (fun o i v H Q => t o i v H Q ∨ u o i v H Q) := fun pins s σ H o i v ov iv w Q I r1 r2 r3 q => q.elim (fun q => h pins s σ H o i v ov iv w Q I r1 r2 r3 q) fun q => h' pins s σ H o i v ov iv w Q I r1 r2 r3 q
def D.putAt : D → D → D → Option D
  | .lst ds, .int i, x => (ixN ds.length i).map fun n => .lst (ds.set n x)
  | .dic kvs, k, x => match k.key with
    | some k => if szOk kvs.length then some (.dic (gput kvs k x)) else none
    | none => none
  | _, _, _ => none
def sPut (q : PP) (p : PV) (ea : EV) : SV := sB ea fun d s => match q s with
  | some π => match s.get π with
    | some x => match p s with
      | some (k, _) => match x.putAt k d with
        | some y => some (.nx (s.upd π y))
        | none => none
      | none => none
    | none => none
  | none => none
theorem RepL.setAt {c : Ct} {m : List Addr} {H : Hp} {xs : List V} {ds : List D} {G Fe : List Addr} {n : Nat} {v : V} {d : D} (r : RepL c m H xs ds G) (hn : n < ds.length) (q : Rep c m H v d Fe) : ∃ G', RepL c m H (xs.set n v) (ds.set n d) G' ∧ (∀ b ∈ G', b ∈ G ∨ b ∈ Fe) ∧ (G.Nodup → Fe.Nodup → (∀ b ∈ Fe, b ∉ G) → G'.Nodup) := by
  obtain ⟨w, A, B, G0, h1, h2, h3, h4, h5⟩ := r.get (i := n) (d := ds[n]) (List.getElem?_eq_getElem hn)
  refine ⟨A ++ (Fe ++ B), ?_, fun b hb => ?_, fun n1 n2 n3 => ?_⟩
  · rw [List.set_eq_take_append_cons_drop, if_pos (by rw [r.length]; exact hn), List.set_eq_take_append_cons_drop, if_pos hn]
    exact h4.append (.cons q h5)
  · rw [h2]
    simp only [List.mem_append] at hb ⊢
    rcases hb with h | h | h <;> simp [h]
  · rw [h2] at n1 n3
    have p1 : (A ++ (G0 ++ B)).Perm (G0 ++ (A ++ B)) := by
      rw [List.perm_iff_count]; intro x; simp only [List.count_append]; omega
    have p2 : (A ++ (Fe ++ B)).Perm (Fe ++ (A ++ B)) := by
      rw [List.perm_iff_count]; intro x; simp only [List.count_append]; omega
    refine p2.nodup_iff.mpr ?_
    rw [List.nodup_append]
    refine ⟨n2, (List.nodup_append.mp (p1.nodup_iff.mp n1)).2.1, fun a ha b hb e => ?_⟩
    subst e
    exact n3 a ha (by
      simp only [List.mem_append] at hb ⊢
      rcases hb with h | h <;> simp [h])
theorem RepL.gput {κ : Type} [DecidableEq κ] {c : Ct} {m : List Addr} {H : Hp} {kx : List (κ × V)} {kvs : List (κ × D)} {G Fe : List Addr} {k : κ} {v : V} {d : D} (r : RepL c m H (kx.map Prod.snd) (kvs.map Prod.snd) G) (hk : kx.map Prod.fst = kvs.map Prod.fst) (q : Rep c m H v d Fe) :
    ∃ G', RepL c m H ((Dn.gput kx k v).map Prod.snd) ((Dn.gput kvs k d).map Prod.snd) G' ∧ (Dn.gput kx k v).map Prod.fst = (Dn.gput kvs k d).map Prod.fst ∧ (∀ b ∈ G', b ∈ G ∨ b ∈ Fe) ∧ (G.Nodup → Fe.Nodup → (∀ b ∈ Fe, b ∉ G) → G'.Nodup) := by
  have keys : (Dn.gput kx k v).map Prod.fst = (Dn.gput kvs k d).map Prod.fst := by rw [g_keys, g_keys, hk]
  by_cases hm : k ∈ kvs.map Prod.fst
  · obtain ⟨i, hi, hf⟩ := g_some hm
    rw [(hf (kx := kvs) rfl).2 d, (hf (kx := kx) hk).2 v, List.map_set, List.map_set]
    have hil : i < (kvs.map Prod.snd).length := by
      have := (List.getElem?_eq_some_iff.mp hi).1
      simpa using this
    obtain ⟨G', h1, h2, h3⟩ := r.setAt hil q
    refine ⟨G', h1, ?_, h2, h3⟩
    rw [List.map_set, List.map_set, hk]
  · rw [(g_none hm rfl).2 d, (g_none (by rw [← hk] at hm; exact hm) rfl).2 v, List.map_append, List.map_append]
    refine ⟨G ++ Fe, r.append (RepL.one q), ?_, fun b hb => List.mem_append.mp hb, fun n1 n2 n3 => ?_⟩
    · rw [List.map_append, List.map_append, hk]
      rfl
    · rw [List.nodup_append]
      exact ⟨n1, n2, fun a ha b hb e => by subst e; exact n3 a hb ha⟩
theorem gput_nodup {κ α : Type} [DecidableEq κ] {kvs : List (κ × α)} {k : κ} {d : α} (h : (kvs.map Prod.fst).Nodup) : ((Dn.gput kvs k d).map Prod.fst).Nodup := by
  rw [g_keys]
  split
  · exact h
  · rename_i hm
    rw [List.nodup_append]
    exact ⟨h, by simp, fun a ha b hb e => by
      have hb : b = k := by simpa using hb
      subst e; subst hb; exact hm ha⟩
theorem AfS.write {m : List Addr} {F0 : Fq} {H : Hp} {s s1 : S} {σ : St} {F m1 F1 F1' : List Addr} {H1 H2 : Hp} {π : Pth} {y : D} (A : Af (ct X) m F0 H s σ F m1 F1 H1 s1) (r : Rl (ct X) m1 (F0.1, F1') σ H2 (s1.upd π y)) (sub : ∀ b ∈ F1', b ∈ F1 ∨ b ∈ F ∨ H1 b = none) (kp : Kp F1 H1 H2) : AfS (ct X) m F0 H s σ [] m1 F1' H2 (s1.upd π y) σ := (A.write r sub kp).s
theorem j1_put {n : Nat} {pos' : Pos} (hr : Room n X.A) (hv : JE X value ea) (hq : JH X o q) (hp : JP X i p) (hs : swapsWithSole [.Subscript o i pos'] value pos.line X.env = pure false := by rfl) (hw : swappedStores [.Subscript o i pos'] value X.env = pure none := by rfl)
    (h1 : (assignEach [.Subscript o i pos'] X.env).map (·.2) = [assign (.Subscript o i pos') X.env] := by rfl)
    (ha : ∀ v, assign (.Subscript o i pos') X.env v = (do
      let ov ← holding [v] (eval o X.env)
      let iv ← holding [v, ov] (eval i X.env)
      standAt pos'
      holding [v, ov, iv] (setItem ov iv v)
      release [v, ov, iv] []) := by intro _; rfl) : J1 X (.Assign [.Subscript o i pos'] value pos) (sPut q p ea) := ⟨fun sts m F0 σ H s r D z => by
  refine ws_asg (pg_sub peW peW (pset_or set_list (set_dict (hu_of hr))) ha) (hv.run m F0 σ H s r _ (EPost.thenS z fun d s1 ve H1 m1 Fe F1 A r1 z => ?_)) hs hw h1
  split at z
  · rename_i π hπ
    split at z
    · rename_i x hx
      split at z
      · rename_i k fl hk
        split at z
        · rename_i y hy
          refine hq.run m1 _ σ H1 s1 A.rl π x hπ hx _ fun v H2 s2 l => hp.run m1 _ σ H2 s1 (A.rl.same s2) k fl hk _ fun u H3 Fu s3 r3 _ => ?_
          have r1' : Rep (ct X) m1 H3 ve d Fe := (r1.same s2).same s3
          have ndF : ((Fe ++ F0.1) ++ F1).Nodup := A.rl.nd
          have ndFe : Fe.Nodup := (List.nodup_append.mp (List.nodup_append.mp ndF).1).1
          have l3 := l.same s3
          have A3 : Af (ct X) m F0 H s σ Fe m1 F1 H3 s1 := ⟨A.mx, A.rl.same (s2.trans s3), ⟨fun b ob e hn => (s2.trans s3) b ob (A.ex.kp b ob e hn), A.ex.sub⟩, A.px⟩
          unfold Dn.D.putAt at hy
          split at hy
          · rename_i ds j
            cases hj : ixN ds.length j with
            | none => rw [hj] at hy; cases hy
            | some n' =>
              rw [hj] at hy; cases hy
              obtain ⟨a, xs, G, rfl, ha', rr, nd, sub, kk⟩ := l3.wlst
              obtain ⟨rfl, _⟩ := rep_int r3
              have hn' : n' < ds.length := (ixN_seq hj).2.1
              obtain ⟨G', g1, g2, g3⟩ := rr.setAt hn' r1'
              have nn := List.nodup_cons.mp nd
              have G'n : (a :: G').Nodup := List.nodup_cons.mpr ⟨fun z => (g2 a z).elim nn.1 fun q => (sub a (by simp)).2 (by simp [q]), g3 nn.2 ndFe fun b hb z => (sub b (by simp [z])).2 (by simp [hb])⟩
              obtain ⟨F1', k1, k2, k3⟩ := kk Fe F0.1 rfl H3 (xs.set n' ve) (ds.set n' d) G' (Same.refl _) g1 G'n fun b hb => (g2 b hb).elim .inl fun q => .inr (.inl q)
              refine .inl ⟨a, xs, j, n', rfl, rfl, ha', by rw [rr.length]; exact hj, z σ _ m1 F1' (AfS.write A3 k1 (fun b hb => ?_) k3)⟩
              rcases k2 b hb with q | q
              · exact .inl q
              · rcases g2 b q with q | q
                · exact .inl (sub b (by simp [q])).1
                · exact .inr (.inl q)
          · rename_i kvs
            split at hy
            · rename_i ky hky
              by_cases hz : szOk kvs.length = true
              · rw [if_pos hz] at hy
                cases hy
                obtain ⟨a, kx, G, rfl, ha', ek, kn, rr, nd, sub, kk⟩ := l3.wdic
                obtain ⟨G', g1, g1k, g2, g3⟩ := rr.gput (k := ky) ek r1'
                have nn := List.nodup_cons.mp nd
                have G'n : (a :: G').Nodup := List.nodup_cons.mpr ⟨fun z => (g2 a z).elim nn.1 fun q => (sub a (by simp)).2 (by simp [q]), g3 nn.2 ndFe fun b hb z => (sub b (by simp [z])).2 (by simp [hb])⟩
                obtain ⟨F1', k1, k2, k3⟩ := kk Fe F0.1 rfl H3 (Dn.gput kx ky ve) (Dn.gput kvs ky d) G' (Same.refl _) g1k (gput_nodup kn) g1 G'n fun b hb => (g2 b hb).elim .inl fun q => .inr (.inl q)
                have kxl : kx.length < sizeLine := szOk_lt (by
                  have := congrArg List.length ek
                  rw [List.length_map, List.length_map] at this
                  rw [this]; exact hz)
                refine .inr ⟨a, _, rfl, ?_, z σ _ m1 F1' (AfS.write A3 k1 (fun b hb => ?_) k3)⟩
                · rw [key_kV r3 hky]
                  have := DPut.k (k := ky) (v := ve) ha' kxl
                  rw [putK_g ky ve kx (by rw [ek]; exact kn)] at this
                  exact this
                · rcases k2 b hb with q | q
                  · exact .inl q
                  · rcases g2 b q with q | q
                    · exact .inl (sub b (by simp [q])).1
                    · exact .inr (.inl q)
              · rw [if_neg hz] at hy; cases hy
            · cases hy
          · cases hy
        · exact (show False from z).elim
      · exact (show False from z).elim
    · exact (show False from z).elim
  · exact (show False from z).elim⟩
/-! o.f = value -/
def sFl (C : Addr) (f : Str) (p : PV) (ea : EV) : SV := sB ea fun d s => match p s with
  | some (.ptr n, _) => match s.get ⟨true, n, []⟩ with
    | some (.ins C' fs) => if C' = C ∧ fs.length < 1000 then some (.nx (s.upd ⟨true, n, []⟩ (.ins C' (gput fs f d)))) else none
    | _ => none
  | _ => none
theorem j1_fld {C : Addr} {f : Str} {pos' : Pos} (A0 : FA X C f) (hv : JE X value ea) (hp : JP X o p) (hs : swapsWith value (some (.Attribute o f pos')) pos.line X.env = pure false := by rfl) : J1 X (.Assign [.Attribute o f pos'] value pos) (sFl C f p ea) := ⟨fun sts m F0 σ H s r D z0 => by
  refine ws_fld (hv.run m F0 σ H s r _ (EPost.thenS z0 fun d s1 ve H1 m1 Fe F1 A r1 z => ?_)) hs
  split at z
  · rename_i n fl hn
    split at z
    · rename_i C' fs hg
      by_cases hC : C' = C ∧ fs.length < 1000
      · rw [if_pos hC] at z
        obtain ⟨hC1, hl⟩ := hC
        subst hC1
        refine hp.run m1 _ σ H1 s1 A.rl _ fl hn _ fun v H2 F2 s2 r2 _ => ?_
        obtain ⟨a, rfl, _, hm⟩ := rep_ptr r2
        have A3 : Af (ct X) m F0 H s σ Fe m1 F1 H2 s1 := ⟨A.mx, A.rl.same s2, ⟨fun b ob e hn => s2 b ob (A.ex.kp b ob e hn), A.ex.sub⟩, A.px⟩
        obtain ⟨v0, v, ⟨a', e1, e2⟩, t, l⟩ := (A.rl.same s2).lens hg
        have e1 : m1[n]? = some a' := e1
        rw [hm] at e1
        cases e1
        subst e2
        have t : Trav (ct X) H2 (.ref a) [] v := t
        cases t
        obtain ⟨a2, dx, fx, G, e3, ha', ek, rr, nd, sub, kk⟩ := l.wins
        cases e3
        have r1' : Rep (ct X) m1 H2 ve d Fe := r1.same s2
        have ndF : ((Fe ++ F0.1) ++ F1).Nodup := A.rl.nd
        have ndFe : Fe.Nodup := (List.nodup_append.mp (List.nodup_append.mp ndF).1).1
        obtain ⟨G', g1, g1k, g2, g3⟩ := rr.gput (k := f) ek r1'
        have nn := List.nodup_cons.mp nd
        have nn2 := List.nodup_cons.mp nn.2
        have G'n : (a :: dx :: G').Nodup := by
          refine List.nodup_cons.mpr ⟨fun z => ?_, List.nodup_cons.mpr ⟨fun z => (g2 dx z).elim nn2.1 fun q => (sub dx (by simp)).2 (by simp [q]), g3 nn2.2 ndFe fun b hb z => (sub b (by simp [z])).2 (by simp [hb])⟩⟩
          rcases List.mem_cons.mp z with z | z
          · exact nn.1 (by simp [z])
          · exact (g2 a z).elim (fun q => nn.1 (by simp [q])) fun q => (sub a (by simp)).2 (by simp [q])
        obtain ⟨F1', k1, k2, k3⟩ := kk Fe F0.1 rfl H2 (Dn.gput fx f ve) (Dn.gput fs f d) G' (Same.refl _) g1k g1 G'n fun b hb => (g2 b hb).elim .inl fun q => .inr (.inl q)
        have fxl : fx.length < 1000 := by
          have := congrArg List.length ek
          rw [List.length_map, List.length_map] at this
          omega
        refine ⟨a, C', dx, fx, rfl, ha', A0.cl, A0.na, fxl, ?_⟩
        rw [putF_g]
        refine z σ _ m1 F1' (AfS.write A3 k1 (fun b hb => ?_) k3)
        rcases k2 b hb with q | q
        · exact .inl q
        · rcases g2 b q with q | q
          · exact .inl (sub b (by simp [q])).1
          · exact .inr (.inl q)
      · rw [if_neg hC] at z; exact (show False from z).elim
    · exact (show False from z).elim
  · exact (show False from z).elim⟩
/-! a part that is taken along, if it may be written -/
def eMv (q : PP) (p : PV) : EV := fun s => match p s with
  | some (d, _) => if d.imm then some (.ok d s) else match q s with
    | some π => match s.get π with
      | some x => some (.ok x (s.upd π .gone))
      | none => none
    | none => none
  | none => none
theorem je_mv (hq : JH X e q) (hp : JP X e p) : JE X e (eMv q p) := ⟨fun m F0 σ H s r Q z => by
  unfold eMv at z
  split at z
  · rename_i d fl hd
    by_cases hi : d.imm = true
    · rw [if_pos hi] at z
      exact hp.run m F0 σ H s r d fl hd _ fun v H' F s1 r1 n1 => z v H' m F F0.2 (Af.push r s1 r1 (fr := fl) n1 (.inr hi)) r1
    · rw [if_neg hi] at z
      split at z
      · rename_i π hπ
        split at z
        · rename_i x hx
          refine hq.run m F0 σ H s r π x hπ hx _ fun v H1 s1 l => ?_
          obtain ⟨F', rr, nd, sub, k⟩ := l
          obtain ⟨F1', g1, g2⟩ := k [] F0.1 F' rfl H1 .gone [] (Kp.refl _ _) (.gone v) (by simpa using nd) (by simp) fun a ha => ⟨ha, rr.mut a ha⟩
          refine z v H1 m F' F1' ⟨Mx.refl _, g1, ⟨kp_same s1, fun a ha => ?_⟩, PX.upd⟩ rr
          rcases List.mem_append.mp ha with h | h
          · exact .inl (sub a h).1
          · exact (g2 a h).elim .inl fun q => by simp at q
        · exact (show False from z).elim
      · exact (show False from z).elim
  · exact (show False from z).elim⟩
end
end Dn
set_option Elab.async false
set_option linter.all false
set_option maxRecDepth 100000
set_option maxHeartbeats 4000000
/-! defs: from the body to the promise, and calls -/
namespace Dn
open PySem PySem.Spec PyProof.Rows L2 Tr
inductive DOut where
  | ret (d : D) (ps os : List Lc)
abbrev Den := List Lc → List Lc → Option DOut
def Lc.par1 : Lc → Lc
  | .par d => .par d
  | _ => .no
/-- the promise of a def, by what it denotes -/
def spD (c : Ct) (den : Den) : Sp := fun vs H Q _ => ∃ m P F0 ls os d ps os', ls.length = vs.length ∧ Rl c m (P, F0) (vs.map some) H ⟨ls, os⟩ ∧ den ls os = some (.ret d ps os') ∧
  ∀ v H' m' F F1, Mx m m' → Rl c m' (F ++ P, F1) (vs.map some) H' ⟨ps, os'⟩ → Rep c m' H' v d F → Ext F0 H (F ++ F1) H' → Q v H'
/-- a body with n names more than parameters -/
def mkDen (n : Nat) (body : SV) : Den := fun ls os => match body ⟨ls ++ List.replicate n .no, os⟩ with
  | some (.rt d s') => some (.ret d ((s'.loc.take ls.length).map Lc.par1) s'.obj)
  | some (.nx s') => some (.ret .non ((s'.loc.take ls.length).map Lc.par1) s'.obj)
  | _ => none
section
variable {c : Ct} {m m' : List Addr} {H H' : Hp} {s s' : S} {σ σ' : St} {F0 : Fq}
theorem LR.nos {Av : List Addr} : ∀ n : Nat, LR c m H Av (List.replicate n .no) (List.replicate n none) []
  | 0 => .nil
  | n + 1 => by
    rw [List.replicate_succ, List.replicate_succ]
    exact .cons (F := []) (G := []) (.no _) (LR.nos n)
theorem Rl.pad {vs : List V} {ls os : List Lc} {n : Nat} (r : Rl c m F0 (vs.map some) H ⟨ls, os⟩) : Rl c m F0 (vs.map some ++ List.replicate n none) H ⟨ls ++ List.replicate n .no, os⟩ := by
  obtain ⟨F1, F2, e, h1, h2, h3, h4⟩ := r
  exact ⟨F1, F2, e, by simpa using h1.append (LR.nos n), h2, h3, h4⟩
/-- less is known -/
theorem LR.par1 {Av : List Addr} : ∀ {ls : List Lc} {os : List (Option V)} {F : List Addr}, LR c m H Av ls os F → ∃ G, LR c m H Av (ls.map Lc.par1) os G ∧ List.Sublist G F
  | _, _, _, .nil => ⟨[], .nil, List.Sublist.refl _⟩
  | _, _, _, .cons e t => by
    obtain ⟨G, h1, h2⟩ := LR.par1 t
    rw [List.map_cons]
    cases e with
    | par r => exact ⟨_, .cons (.par r) h1, List.Sublist.append (List.Sublist.refl _) h2⟩
    | no o => exact ⟨[] ++ G, .cons (.no _) h1, by simpa using h2⟩
    | bor r n => exact ⟨[] ++ G, .cons (.no _) h1, by simpa using h2⟩
    | own r => exact ⟨[] ++ G, .cons (.no _) h1, by simpa using h2.trans (List.sublist_append_right _ _)⟩
theorem LR.take {Av : List Addr} : ∀ {ls : List Lc} {os : List (Option V)} {F : List Addr} (n : Nat), LR c m H Av ls os F → ∃ G, LR c m H Av (ls.take n) (os.take n) G ∧ List.Sublist G F
  | _, _, _, 0, _ => ⟨[], .nil, List.nil_sublist _⟩
  | _, _, _, n + 1, .nil => ⟨[], .nil, List.Sublist.refl _⟩
  | _, _, _, n + 1, .cons e t => by
    obtain ⟨G, h1, h2⟩ := LR.take n t
    exact ⟨_, .cons e h1, List.Sublist.append (List.Sublist.refl _) h2⟩
/-- slots of which nothing is known may hold anything -/
theorem LR.anyNo {Av : List Addr} : ∀ {ls : List Lc} {os os' : List (Option V)} {F : List Addr}, LR c m H Av ls os F → os.length = os'.length → (∀ (i : Nat) l, ls[i]? = some l → (∃ d, l = .par d) → os'[i]? = os[i]?) → (∀ l ∈ ls, l = .no ∨ ∃ d, l = .par d) → LR c m H Av ls os' F
  | _, _, [], _, .nil, _, _, _ => .nil
  | _, _, _ :: _, _, .nil, h, _, _ => by cases h
  | _, _, [], _, .cons _ _, h, _, _ => by cases h
  | l :: ls, o :: os, o' :: os', _, .cons e t, hl, hp, hk => by
    have t' := LR.anyNo (os' := os') t (by simpa using hl) (fun i l h1 h2 => by simpa using hp (i + 1) l (by simpa using h1) h2) (fun l h => hk l (by simp [h]))
    rcases hk l (by simp) with z | ⟨d, z⟩
    · subst z
      cases e
      exact .cons (.no _) t'
    · subst z
      have : o' = o := by simpa using hp 0 (.par d) rfl ⟨d, rfl⟩
      subst this
      exact .cons e t'
theorem Ext.perm {F1 F2 G1 G2 : List Addr} (x : Ext F1 H G1 H') (h1 : ∀ a ∈ F1, a ∈ F2) (h2 : ∀ a ∈ G2, a ∈ G1) : Ext F2 H G2 H' := ⟨fun a o e hn => x.kp a o e fun z => hn (h1 a z), fun a ha => (x.sub a (h2 a ha)).elim (fun q => .inl (h1 a q)) .inr⟩
/-- what is left of the parameters at the end -/
theorem Rl.out {vs : List V} {P F F1 : List Addr} {ls : List Lc} {n : Nat} (hl : ls.length = vs.length) (r : Rl c m (F ++ P, F1) σ' H s') (sx : SX (vs.map some ++ List.replicate n none) s σ' s') :
    ∃ F1', Rl c m (F ++ P, F1') (vs.map some) H ⟨(s'.loc.take ls.length).map Lc.par1, s'.obj⟩ ∧ ∀ a ∈ F1', a ∈ F1 := by
  obtain ⟨A1, F2, e, h1, h2, h3, h4⟩ := r
  have e : F1 = A1 ++ F2 := e
  obtain ⟨G, g1, g2⟩ := h1.take ls.length
  obtain ⟨G', g3, g4⟩ := g1.par1
  have hs := g4.trans g2
  have hlen := sx.1
  rw [List.length_append, List.length_map, List.length_replicate] at hlen
  have g5 := g3.anyNo (os' := vs.map some) (by rw [List.length_take, List.length_map]; omega) (fun i l hi hp => by
    obtain ⟨d, rfl⟩ := hp
    rw [List.getElem?_map] at hi
    have hik : i < ls.length := by
      cases hx : (s'.loc.take ls.length)[i]? with
      | none => rw [hx] at hi; cases hi
      | some y =>
        have := (List.getElem?_eq_some_iff.mp hx).1
        rw [List.length_take] at this
        omega
    rw [List.getElem?_take_of_lt hik] at hi ⊢
    have hpar : s'.loc[i]? = some (.par d) := by
      cases hx : s'.loc[i]? with
      | none => rw [hx] at hi; cases hi
      | some y =>
        rw [hx] at hi
        cases y <;> cases hi
        rfl
    rw [(sx.2 i d hpar).2, List.getElem?_append_left (by rw [List.length_map]; omega)]) (fun l h => by
    obtain ⟨y, _, rfl⟩ := List.mem_map.mp h
    cases y <;> simp [Lc.par1])
  have sub : ∀ a ∈ (F ++ P) ++ (G' ++ F2), a ∈ (F ++ P) ++ F1 ∨ H a = none := fun a ha => .inl (by
    rw [e]
    simp only [List.mem_append] at ha ⊢
    rcases ha with (h | h) | h | h
    · simp [h]
    · simp [h]
    · simp [hs.subset h]
    · simp [h])
  have ch : ∀ {ls : List Lc} {os : List (Option V)} {Z : List Addr}, LR c m H ((F ++ P) ++ F1) ls os Z → LR c m H ((F ++ P) ++ (G' ++ F2)) ls os Z := fun h => h.change (G := []) (kp_same (Same.refl H)) (by simp) (by simp) (fun _ _ h => h) sub (by simp)
  refine ⟨G' ++ F2, ⟨G', F2, rfl, ch g5, ch h2, ?_, h4⟩, fun a ha => ?_⟩
  · have h3 : ((F ++ P) ++ F1).Nodup := h3
    rw [e] at h3
    exact (List.Sublist.append (List.Sublist.refl _) (List.Sublist.append hs (List.Sublist.refl _))).nodup h3
  · rw [e]
    simp only [List.mem_append] at ha ⊢
    exact ha.elim (fun h => .inl (hs.subset h)) .inr
end
section
variable {P : Program} {w : World} {K : PySem.W.Frag} {mg : Str → Option Value} {base : Heap} {x qual mm : Str} {st : Stmt} {f C : Addr} {fd : FuncData} {N ps : List Str} {k n : Nat} {p : SV}
/-- what a body must be -/
abbrev BodyOk (P : Program) (w : World) (K : PySem.W.Frag) (mg : Str → Option Value) (base : Heap) (N : List Str) (qual : Str) (st : Stmt) (f : Addr) (k : Nat) (p : SV) : Prop :=
  ∀ (cdv : Value) (A : Around) (outer : List Env) (s : Shared) (H : Hp) (E : XK), Room k (A.deeper (envOfC qual (defScope st) s.heap.objs.size f cdv)) → JS (Bx P w K mg base N qual st f cdv A outer s H E) (defBody st) p
theorem spD_len (c : Ct) (den : Den) (hd : ∀ ls os z, den ls os = some z → ls.length = ps.length) : ∀ vs H Q E, spD c den vs H Q E → vs.length = ps.length := fun vs H Q E ⟨m, P, F0, ls, os, d, ps', os', h1, _, h3, _⟩ => by rw [← h1]; exact hd _ _ _ h3
/-- with so many arguments -/
def Den.arity (k : Nat) (den : Den) : Den := fun ls os => if ls.length = k then den ls os else none
theorem body_run (hN : N.length = ps.length + n) (body : BodyOk P w K mg base N qual st f k p) (cdv : Value) (A : Around) (outer : List Env) (s : Shared) (H : Hp) (vs : List V) (Q : VK) (E : XK) (hr : Room k (A.deeper (envOfC qual (defScope st) s.heap.objs.size f cdv))) (h : spD ⟨K, w⟩ ((mkDen n p).arity ps.length) vs H Q E) :
    WS (Bx P w K mg base N qual st f cdv A outer s H E) (defBody st) { nx := fun _ H' => Q .non H', rt := Q } (start N vs) H := by
  obtain ⟨m, P0, F0, ls, os, d, ps', os', hl, rl, hd, q⟩ := h
  unfold Den.arity at hd
  split at hd
  · rename_i hlp
    have hst : start N vs = vs.map some ++ List.replicate n none := by
      unfold L2.start
      rw [hN, ← hl, hlp, Nat.add_sub_cancel_left]
    rw [hst]
    refine (body cdv A outer s H E hr).run m (P0, F0) (vs.map some ++ List.replicate n none) H ⟨ls ++ List.replicate n Lc.no, os⟩ (rl.pad (n := n)) _ ?_
    unfold mkDen at hd
    split at hd
    · rename_i d' s' hb
      cases hd
      rw [hb]
      intro v σ' H' m' F F1 B r
      obtain ⟨F1', g1, g2⟩ := Rl.out (F := F) (P := P0) hl B.rl B.sx
      exact q v H' m' F F1' B.mx g1 r ⟨B.ex.kp, fun a ha => B.ex.sub a ((List.mem_append.mp ha).elim (fun z => by simp [z]) fun z => by simp [g2 a z])⟩
    · rename_i s' hb
      cases hd
      rw [hb]
      intro σ' H' m' F1 B
      obtain ⟨F1', g1, g2⟩ := Rl.out (F := []) (P := P0) hl B.rl B.sx
      exact q .non H' m' [] F1' B.mx g1 .non ⟨B.ex.kp, fun a ha => B.ex.sub a ((List.mem_append.mp ha).elim (fun z => by simp at z) fun z => by simp [g2 a z])⟩
    · cases hd
  · cases hd
theorem arity_len {den : Den} : ∀ ls os z, den.arity k ls os = some z → ls.length = k := fun ls os z h => by
  unfold Den.arity at h
  split at h
  · assumption
  · cases h
theorem fcD (F : Fn K x x st f fd) (g : mg x = some (.ref f)) (b : Bnd x x st ps) (S : FnScope N ps (defScope st)) (body : BodyOk P w K mg base N x st f k p) (hN : N.length = ps.length + n := by rfl) : Fc P w K mg base (k + 1) x (spD ⟨K, w⟩ ((mkDen n p).arity ps.length)) :=
  fc_mk F g b S (spD_len _ _ arity_len) (body_run hN body)
theorem mcD (cl : Cls K C) (me : Meth K C mm f) (F : Fn K mm qual st f fd) (b : Bnd mm qual st ps) (S : FnScope N ps (defScope st)) (body : BodyOk P w K mg base N qual st f k p) (hN : N.length = ps.length + n := by rfl) : Mc P w K mg base (k + 1) C mm (spD ⟨K, w⟩ ((mkDen n p).arity ps.length)) :=
  mc_mk cl me F b S (spD_len _ _ arity_len) (body_run hN body)
theorem kcD (M : Mk K C f) (g : mg x = some (.ref C)) (F : Fn K "__init__" qual st f fd) (b : Bnd "__init__" qual st ps) (S : FnScope N ps (defScope st)) (body : BodyOk P w K mg base N qual st f k p) (hN : N.length = ps.length + n := by rfl) : Kc P w K mg base (k + 1) x C (spD ⟨K, w⟩ ((mkDen n p).arity ps.length)) :=
  kc_mk M g F b S (spD_len _ _ arity_len) (body_run hN body)
end
end Dn
set_option Elab.async false
set_option linter.all false
set_option maxRecDepth 100000
set_option maxHeartbeats 4000000
/-! calls of defs, methods, classes -/
namespace Dn
open PySem PySem.Spec PyProof.Rows L2 Tr
def Lc.bo : Lc → Lc
  | .own d => .bor d
  | .par d => .bor d
  | l => l
section
variable {c : Ct} {m m' : List Addr} {H H' : Hp} {s s' : S} {σ σ' : St} {F0 : Fq}
theorem LR.bo {Av : List Addr} : ∀ {ls : List Lc} {os : List (Option V)} {F : List Addr}, LR c m H Av ls os F → LR c m H [] (ls.map Lc.bo) os []
  | _, _, _, .nil => .nil
  | _, _, _, .cons e t => by
    rw [List.map_cons]
    have t' := LR.bo t
    cases e with
    | no o => exact .cons (F := []) (.no _) t'
    | bor r n => exact .cons (F := []) (.bor r (by simp)) t'
    | par r => exact .cons (F := []) (.bor r (by simp)) t'
    | own r => exact .cons (F := []) (.bor r (by simp)) t'
theorem LR.bors : ∀ {vs : List V} {ds : List D} {F : List Addr}, RepL c m H vs ds F → LR c m H [] (ds.map Lc.bor) (vs.map some) []
  | _, _, _, .nil => .nil
  | _, _, _, .cons r t => .cons (F := []) (.bor r (by simp)) (LR.bors t)
theorem mx_eq (h : Mx m m') (hl : m'.length = m.length) : m' = m := by
  refine List.ext_getElem? fun i => ?_
  cases hi : m[i]? with
  | some a => exact h i a hi
  | none =>
    rw [List.getElem?_eq_none_iff] at hi ⊢
    omega
/-- nothing is lent but to be read -/
theorem pure_pre {vs : List V} {ds : List D} {F : List Addr} (r : Rl c m F0 σ H s) (q : RepL c m H vs ds F) : Rl c m ([], []) (vs.map some) H ⟨ds.map Lc.bor, s.obj.map Lc.bo⟩ := by
  obtain ⟨F1, F2, e, h1, h2, h3, h4⟩ := r
  exact ⟨[], [], rfl, LR.bors q, h2.bo, List.nodup_nil, by simp⟩
theorem pure_post {vs : List V} {ps os' : List Lc} {v : V} {d : D} {F F1 : List Addr} (r : Rl c m F0 σ H s) (hx : Mx m m') (r1 : Rl c m' (F ++ [], F1) (vs.map some) H' ⟨ps, os'⟩) (r2 : Rep c m' H' v d F) (ex : Ext [] H (F ++ F1) H') (hl : os'.length = s.obj.length) :
    Same H H' ∧ Rep c m H' v d F ∧ Fresh H true F := by
  obtain ⟨_, F2, _, _, h2, _, _⟩ := r
  obtain ⟨_, G2, _, _, g2, g3, _⟩ := r1
  have e1 := h2.len
  have e2 := g2.len
  unfold oref at e1 e2
  rw [List.length_map] at e1 e2
  have : m' = m := mx_eq hx (by rw [← e2, ← e1]; exact hl)
  subst this
  refine ⟨same_kp ex.kp, r2, fun _ => ⟨?_, fun a ha => ?_⟩⟩
  · exact (List.nodup_append.mp (List.nodup_append.mp g3).1).1
  · exact (ex.sub a (by simp [ha])).elim (fun z => by simp at z) id
end
def pFn (den : Den) (ps : S → Option (List (D × Bool))) : PV := fun s => match ps s with
  | some ds => match den ((ds.map Prod.fst).map Lc.bor) (s.obj.map Lc.bo) with
    | some (.ret d _ os') => if os'.length = s.obj.length then some (d, true) else none
    | none => none
  | none => none
section
variable {X : Cx} {e a b o : Expr} {es rest : List Expr} {pos : Pos} {p : PV} {q : PP} {x : Str} {ea : EV} {ps : S → Option (List (D × Bool))} {den : Den} {k j : Nat}
theorem pFn_inv {s : S} {d : D} {fr : Bool} (h : pFn den ps s = some (d, fr)) : ∃ ds ps' os', ps s = some ds ∧ den ((ds.map Prod.fst).map Lc.bor) (s.obj.map Lc.bo) = some (.ret d ps' os') ∧ os'.length = s.obj.length ∧ fr = true := by
  unfold pFn at h
  split at h
  · rename_i ds hds
    split at h
    · rename_i d' ps' os' hd
      split at h
      · rename_i hl
        cases h
        exact ⟨ds, ps', os', hds, hd, hl, rfl⟩
      · cases h
    · cases h
  · cases h
theorem jp_fn {p1 : Pos} (c : Fc X.prog X.w X.K X.mg X.base k x (spD (ct X) den)) (hr : Room j X.A) (hk : k ≤ j) (h : JA X (e :: es) ps) (hg : Gl X x := by rfl)
    (hdb : (x == ("__debug__" : Str)) = false := by decide) (he : starEach (e :: es) X.env = (false, eval e X.env) :: starEach es X.env := by rfl) (hpl : (backTo pos (starEach es X.env)).any (·.1) = false := by rfl) :
    JP X (.Call (.Name x p1) (e :: es) [] pos) (pFn den ps) := ⟨fun m F0 σ H s r d fr ee Q q => by
  obtain ⟨ds, ps', os', h1, h2, h3, rfl⟩ := pFn_inv ee
  exact w_c c hr hk (h.run m F0 σ H s r ds h1 _ fun vs H1 F s1 r1 _ => ⟨m, [], [], _, _, d, ps', os', by rw [List.length_map, ← r1.length], pure_pre (r.same s1) r1, h2, fun v H' m' F' F1 hx g1 g2 g3 => by
    obtain ⟨g4, g5, g6⟩ := pure_post (r.same s1) hx g1 g2 g3 h3
    exact q v H' F' (s1.trans g4) g5 (g6.back s1)⟩) hg hdb he hpl⟩
/-! methods, nothing changes -/
def pMt (C : Addr) (mn : Str) (den : Den) (p : PV) (ps : S → Option (List (D × Bool))) : PV := fun s => match p s with
  | some (.ptr n, f) => match s.at n with
    | some (.ins C' fs) => if C' = C ∧ glook fs mn = none then pFn den (fun s => (ps s).map fun ds => (.ptr n, f) :: ds) s else none
    | _ => none
  | _ => none
theorem pMt_inv {C : Addr} {mn : Str} {s : S} {z : D × Bool} (h : pMt C mn den p ps s = some z) : ∃ n f fs, p s = some (.ptr n, f) ∧ s.at n = some (.ins C fs) ∧ glook fs mn = none ∧ pFn den (fun s => (ps s).map fun ds => (.ptr n, f) :: ds) s = some z := by
  unfold pMt at h
  split at h
  · rename_i n f hn
    split at h
    · rename_i C' fs hs
      split at h
      · rename_i hc
        obtain ⟨rfl, hc⟩ := hc
        exact ⟨n, f, fs, hn, hs, hc, h⟩
      · cases h
    · cases h
  · cases h
theorem ins_none {c : Ct} {m : List Addr} {H : Hp} {v : V} {C : Addr} {fs : List (Str × D)} {F : List Addr} {f : Str} (r : Rep c m H v (.ins C fs) F) (h : glook fs f = none) : ∃ a dx fx, v = .ref a ∧ H a = some (.ins C dx fx) ∧ fx.lookup f = none := by
  obtain ⟨a, dx, fx, G, rfl, rfl, hs, hd, hk, rr⟩ := rep_ins r
  refine ⟨a, dx, fx, rfl, hs, ?_⟩
  rw [lookup_g]
  by_cases hm : f ∈ fs.map Prod.fst
  · obtain ⟨i, hi, hf⟩ := g_some hm
    rw [(hf (kx := fs) rfl).1] at h
    rw [(hf (kx := fx) hk).1]
    have := rr.length
    rw [List.getElem?_eq_none_iff] at h ⊢
    omega
  · exact (g_none (by rw [← hk] at hm; exact hm) rfl).1
theorem jp_mt {C : Addr} {mn : Str} {apos : Pos} {pl : Sem Bool} (c : Mc X.prog X.w X.K X.mg X.base k C mn (spD (ct X) den)) (hr : Room j X.A) (hk : k ≤ j) (ho : JP X o p) (h : JA X (e :: es) ps)
    (hst : starEach (e :: es) X.env = (false, eval e X.env) :: starEach es X.env := by rfl) (hpl : (backTo pos (starEach es X.env)).any (·.1) = false := by rfl)
    (ht : eval (.Call (.Attribute o mn apos) (e :: es) [] pos) X.env = (do
      let ov ← eval o X.env
      standAt apos.atName
      let (f, first) ← holding [ov] (getMethod ov mn pl)
      callWith pos f first (backTo pos (starEach (e :: es) X.env)) (backToKw pos (keywordEach [] X.env))) := by rfl) :
    JP X (.Call (.Attribute o mn apos) (e :: es) [] pos) (pMt C mn den p ps) := ⟨fun m F0 σ H s r d fr ee Q q => by
  obtain ⟨n, f, fs, hn, hs, hc, ee⟩ := pMt_inv ee
  obtain ⟨ds, ps', os', h1, h2, h3, rfl⟩ := pFn_inv ee
  cases hps : ps s with
  | none => rw [hps] at h1; cases h1
  | some ds' =>
    rw [hps] at h1
    cases h1
    refine w_mt c hr hk (ho.run m F0 σ H s r _ f hn _ fun v H0 F s0 r0 _ => ?_) hst hpl ht
    obtain ⟨a, rfl, rfl, hm⟩ := rep_ptr r0
    obtain ⟨G, rr⟩ := (r.same s0).objAt hs hm
    obtain ⟨a', dx, fx, e1, g1, g2⟩ := ins_none rr hc
    cases e1
    exact ⟨a, dx, fx, rfl, g1, g2, h.run m F0 σ H0 s (r.same s0) ds' hps _ fun vs H1 F s1 r1 _ => ⟨m, [], [], _, _, d, ps', os', by simp [r1.length], pure_pre (vs := .ref a :: vs) (ds := .ptr n :: ds'.map Prod.fst) ((r.same s0).same s1) (.cons (.ptr hm) r1), h2, fun v H' m' F' F1 hx g1 g2 g3 => by
      obtain ⟨g4, g5, g6⟩ := pure_post ((r.same s0).same s1) hx g1 g2 g3 h3
      exact q v H' F' ((s0.trans s1).trans g4) g5 (g6.back (s0.trans s1))⟩⟩⟩
theorem jp_mt0 {C : Addr} {mn : Str} {apos : Pos} {pl : Sem Bool} (c : Mc X.prog X.w X.K X.mg X.base k C mn (spD (ct X) den)) (hr : Room j X.A) (hk : k ≤ j) (ho : JP X o p)
    (ht : eval (.Call (.Attribute o mn apos) [] [] pos) X.env = (do
      let ov ← eval o X.env
      standAt apos.atName
      let (f, first) ← holding [ov] (getMethod ov mn pl)
      callWith pos f first (backTo pos (starEach [] X.env)) (backToKw pos (keywordEach [] X.env))) := by rfl) :
    JP X (.Call (.Attribute o mn apos) [] [] pos) (pMt C mn den p aNil) := ⟨fun m F0 σ H s r d fr ee Q q => by
  obtain ⟨n, f, fs, hn, hs, hc, ee⟩ := pMt_inv ee
  obtain ⟨ds, ps', os', h1, h2, h3, rfl⟩ := pFn_inv ee
  cases h1
  refine w_mt0 c hr hk (ho.run m F0 σ H s r _ f hn _ fun v H0 F s0 r0 _ => ?_) ht
  obtain ⟨a, rfl, rfl, hm⟩ := rep_ptr r0
  obtain ⟨G, rr⟩ := (r.same s0).objAt hs hm
  obtain ⟨a', dx, fx, e1, g1, g2⟩ := ins_none rr hc
  cases e1
  exact ⟨a, dx, fx, rfl, g1, g2, m, [], [], _, _, d, ps', os', by simp, pure_pre (vs := [.ref a]) (ds := [.ptr n]) (r.same s0) (.cons (.ptr hm) .nil), h2, fun v H' m' F' F1 hx g1 g2 g3 => by
    obtain ⟨g4, g5, g6⟩ := pure_post (r.same s0) hx g1 g2 g3 h3
    exact q v H' F' (s0.trans g4) g5 (g6.back s0)⟩⟩
end
end Dn
set_option Elab.async false
set_option linter.all false
set_option maxRecDepth 100000
set_option maxHeartbeats 4000000
/-! calls that may change things: arguments are lent -/
namespace Dn
open PySem PySem.Spec PyProof.Rows L2 Tr
/-- an argument: a value in hand, or a slot -/
inductive AV where
  | val (d : D) | slot (i : Nat)
inductive ArgR (c : Ct) (m : List Addr) (H : Hp) (σ : St) : List V → List AV → List Addr → Prop
  | nil : ArgR c m H σ [] [] []
  | val {v : V} {vs : List V} {d : D} {as : List AV} {F G : List Addr} : Rep c m H v d F → ArgR c m H σ vs as G → ArgR c m H σ (v :: vs) (.val d :: as) (F ++ G)
  | slot {v : V} {vs : List V} {i : Nat} {as : List AV} {G : List Addr} : σ[i]? = some (some v) → ArgR c m H σ vs as G → ArgR c m H σ (v :: vs) (.slot i :: as) G
def lend : List AV → S → Option (List Lc × S)
  | [], s => some ([], s)
  | .val d :: r, s => (lend r s).map fun z => (lcOf d :: z.1, z.2)
  | .slot i :: r, s => match s.loc[i]? with
    | some (.own d) => (lend r { s with loc := s.loc.set i .no }).map fun z => (.par d :: z.1, z.2)
    | some (.par d) => (lend r { s with loc := s.loc.set i .no }).map fun z => (.par d :: z.1, z.2)
    | some (.bor d) => (lend r s).map fun z => (.bor d :: z.1, z.2)
    | _ => none
/-- back into the slots, of the kind that they had (s0) -/
def give (s0 : S) : List AV → List Lc → S → Option S
  | [], [], s => some s
  | .val _ :: r, _ :: ps, s => give s0 r ps s
  | .slot i :: r, p :: ps, s => match s0.loc[i]?, p, s.loc[i]? with
    | some (.own _), .par d, some .no => give s0 r ps { s with loc := s.loc.set i (.own d) }
    | some (.par _), .par d, some .no => give s0 r ps { s with loc := s.loc.set i (.par d) }
    | some (.bor _), _, _ => give s0 r ps s
    | _, _, _ => none
  | _, _, _ => none
section
variable {c : Ct} {m m' : List Addr} {H H' : Hp} {s s' s0 : S} {σ σ' : St}
theorem Rl.permP {P P2 F : List Addr} (r : Rl c m (P, F) σ H s) (h : P.Perm P2) : Rl c m (P2, F) σ H s :=
  Rl.hand r (Same.refl _) ((h.append_right F).nodup_iff.mp r.nd) fun a ha => ⟨.inl (h.mem_iff.mpr ha), r.mut a (by simp [h.mem_iff.mpr ha])⟩
/-- a slot's thing is taken in hand -/
theorem Rl.takeS {P F1 : List Addr} {i : Nat} {l : Lc} {d : D} (r : Rl c m (P, F1) σ H s) (e : s.loc[i]? = some l) (hl : l = .own d ∨ l = .par d) : ∃ v F F1', σ[i]? = some (some v) ∧ Rep c m H v d F ∧ Rl c m (F ++ P, F1') σ H { s with loc := s.loc.set i .no } ∧ ∀ a ∈ F ++ F1', a ∈ F1 := by
  obtain ⟨A1, F2, e1, h1, h2, h3, h4⟩ := r
  have e1 : F1 = A1 ++ F2 := e1
  obtain ⟨o, A, B, G, ho, hA, le, ha, hb⟩ := h1.at_ e
  have hi : i < s.loc.length := (List.getElem?_eq_some_iff.mp e).1
  have leInv : ∃ v, o = some v ∧ Rep c m H v d G := by rcases hl with z | z <;> subst z <;> cases le <;> exact ⟨_, rfl, by assumption⟩
  obtain ⟨v, rfl, q⟩ := leInv
  have sub : ∀ a ∈ (G ++ P) ++ ((A ++ B) ++ F2), a ∈ P ++ F1 ∨ H a = none := fun a ha => .inl (by
    rw [e1, hA]
    simp only [List.mem_append] at ha ⊢
    rcases ha with (h | h) | ((h | h) | h) <;> simp [h])
  have ch : ∀ {ls : List Lc} {os : List (Option V)} {Z : List Addr}, LR c m H (P ++ F1) ls os Z → LR c m H ((G ++ P) ++ ((A ++ B) ++ F2)) ls os Z := fun h => h.change (G := []) (kp_same (Same.refl H)) (by simp) (by simp) (fun _ _ h => h) sub (by simp)
  have nd : (P ++ ((A ++ (G ++ B)) ++ F2)).Nodup := by
    have z : (P ++ F1).Nodup := h3
    rw [e1, hA] at z
    exact z
  have nd2 : ((G ++ P) ++ ((A ++ B) ++ F2)).Nodup := by
    have p : (P ++ ((A ++ (G ++ B)) ++ F2)).Perm ((G ++ P) ++ ((A ++ B) ++ F2)) := by
      rw [List.perm_iff_count]; intro x; simp only [List.count_append]; omega
    exact p.nodup_iff.mp nd
  have hσ : σ.set i (some v) = σ := by
    obtain ⟨h5, h6⟩ := List.getElem?_eq_some_iff.mp ho
    rw [← h6]
    exact List.set_getElem_self h5
  have put := LR.put (l := .no) (o := some v) (G := []) hi h1.len (ch ha) (.no _) (ch hb)
  rw [hσ, List.nil_append] at put
  refine ⟨v, G, (A ++ B) ++ F2, ho, q, ⟨A ++ B, F2, rfl, put, ch h2, nd2, fun a z => ?_⟩, fun a z => ?_⟩
  · rcases List.mem_append.mp z with z | z
    · exact q.mut a z
    · exact h4 a z
  · rw [e1, hA]
    simp only [List.mem_append] at z ⊢
    rcases z with h | ((h | h) | h) <;> simp [h]
/-- .. and put back -/
theorem Rl.giveS {P G F1 : List Addr} {i : Nat} {l : Lc} {d : D} {v : V} (r : Rl c m (G ++ P, F1) σ H s) (e : s.loc[i]? = some .no) (hv : σ[i]? = some (some v)) (q : Rep c m H v d G) (hl : l = .own d ∨ l = .par d) : ∃ F1', Rl c m (P, F1') σ H { s with loc := s.loc.set i l } ∧ ∀ a ∈ F1', a ∈ G ++ F1 := by
  obtain ⟨A1, F2, e1, h1, h2, h3, h4⟩ := r
  have e1 : F1 = A1 ++ F2 := e1
  obtain ⟨o, A, B, G0, ho, hA, le, ha, hb⟩ := h1.at_ e
  have hi : i < s.loc.length := (List.getElem?_eq_some_iff.mp e).1
  rw [hv] at ho
  cases ho
  cases le
  have sub : ∀ a ∈ P ++ ((A ++ (G ++ B)) ++ F2), a ∈ (G ++ P) ++ F1 ∨ H a = none := fun a ha => .inl (by
    rw [e1, hA]
    simp only [List.mem_append] at ha ⊢
    rcases ha with h | ((h | h | h) | h) <;> simp [h])
  have ch : ∀ {ls : List Lc} {os : List (Option V)} {Z : List Addr}, LR c m H ((G ++ P) ++ F1) ls os Z → LR c m H (P ++ ((A ++ (G ++ B)) ++ F2)) ls os Z := fun h => h.change (G := []) (kp_same (Same.refl H)) (by simp) (by simp) (fun _ _ h => h) sub (by simp)
  have nd2 : (P ++ ((A ++ (G ++ B)) ++ F2)).Nodup := by
    have nd : ((G ++ P) ++ F1).Nodup := h3
    rw [e1, hA] at nd
    have p : ((G ++ P) ++ ((A ++ ([] ++ B)) ++ F2)).Perm (P ++ ((A ++ (G ++ B)) ++ F2)) := by
      rw [List.perm_iff_count]; intro x; simp only [List.count_append, List.count_nil]; omega
    exact p.nodup_iff.mp nd
  have hσ : σ.set i (some v) = σ := by
    obtain ⟨h5, h6⟩ := List.getElem?_eq_some_iff.mp hv
    rw [← h6]
    exact List.set_getElem_self h5
  have le' : LE c m H (P ++ ((A ++ (G ++ B)) ++ F2)) l (some v) G := by
    rcases hl with z | z <;> subst z
    · exact .own q
    · exact .par q
  have put := LR.put (l := l) (o := some v) hi h1.len (ch ha) le' (ch hb)
  rw [hσ] at put
  refine ⟨(A ++ (G ++ B)) ++ F2, ⟨A ++ (G ++ B), F2, rfl, put, ch h2, nd2, fun a z => h4 a (by simp [show a ∈ P from z])⟩, fun a z => ?_⟩
  rw [e1, hA]
  simp only [List.mem_append] at z ⊢
  rcases z with (h | h | h) | h <;> simp [h]
/-- arguments are lent: their places A; what is left -/
theorem lend_ok : ∀ {as : List AV} {vs : List V} {F F1 P : List Addr} {s : S} {ls : List Lc} {s2 : S}, ArgR c m H σ vs as F → Rl c m (F ++ P, F1) σ H s → lend as s = some (ls, s2) →
    ∃ A F1', Rl c m (A ++ P, F1') σ H s2 ∧ LR c m H ((A ++ P) ++ F1') ls (vs.map some) A ∧ (∀ a ∈ A ++ F1', a ∈ F ++ F1) ∧ s2.obj = s.obj ∧ s2.loc.length = s.loc.length
  | [], _, _, F1, P, s, ls, s2, .nil, r, e => by
    cases e
    exact ⟨[], F1, r, .nil, fun a h => h, rfl, rfl⟩
  | .val d :: as, _, _, F1, P, s, ls, s2, .val (F := F) (G := G) q t, r, e => by
    unfold lend at e
    cases hl : lend as s with
    | none => rw [hl] at e; cases e
    | some z =>
      rw [hl] at e
      cases e
      have r' : Rl c m (G ++ (F ++ P), F1) σ H s := r.permP (by
        rw [List.perm_iff_count]; intro x; simp only [List.count_append]; omega)
      obtain ⟨A, F1', h1, h2, h3, h4, h5⟩ := lend_ok (P := F ++ P) t r' hl
      have h1' : Rl c m ((F ++ A) ++ P, F1') σ H z.2 := h1.permP (by
        rw [List.perm_iff_count]; intro x; simp only [List.count_append]; omega)
      refine ⟨F ++ A, F1', h1', .cons (le_lcOf q (.inr trivial)) (h2.change (G := []) (kp_same (Same.refl H)) (by simp) (by simp) (fun _ _ h => h) (fun a ha => .inl ?_) (by simp)), fun a ha => ?_, h4, h5⟩
      · simp only [List.mem_append] at ha ⊢
        rcases ha with ((h | h) | h) | h <;> simp [h]
      · simp only [List.mem_append] at ha ⊢
        rcases ha with (h | h) | h
        · simp [h]
        · have := h3 a (by simp [h])
          simp only [List.mem_append] at this
          rcases this with q | q <;> simp [q]
        · have := h3 a (by simp [h])
          simp only [List.mem_append] at this
          rcases this with q | q <;> simp [q]
  | .slot i :: as, _, _, F1, P, s, ls, s2, .slot (v := v) (G := G) hv t, r, e => by
    have taken : ∀ l d, s.loc[i]? = some l → (l = .own d ∨ l = .par d) → (lend as { s with loc := s.loc.set i .no }).map (fun z => (Lc.par d :: z.1, z.2)) = some (ls, s2) → ∃ A F1', Rl c m (A ++ P, F1') σ H s2 ∧ LR c m H ((A ++ P) ++ F1') ls ((v :: _).map some) A ∧ (∀ a ∈ A ++ F1', a ∈ G ++ F1) ∧ s2.obj = s.obj ∧ s2.loc.length = s.loc.length := fun l d hs hld e => by
      cases hl : lend as { s with loc := s.loc.set i .no } with
      | none => rw [hl] at e; cases e
      | some z =>
        rw [hl] at e
        cases e
        obtain ⟨v', Fi, F1a, hv', qi, ri, hsub⟩ := r.takeS hs hld
        rw [hv] at hv'
        cases hv'
        have r' : Rl c m (G ++ (Fi ++ P), F1a) σ H { s with loc := s.loc.set i .no } := ri.permP (by
          rw [List.perm_iff_count]; intro x; simp only [List.count_append]; omega)
        obtain ⟨A, F1', h1, h2, h3, h4, h5⟩ := lend_ok (P := Fi ++ P) t r' hl
        have h1' : Rl c m ((Fi ++ A) ++ P, F1') σ H z.2 := h1.permP (by
          rw [List.perm_iff_count]; intro x; simp only [List.count_append]; omega)
        refine ⟨Fi ++ A, F1', h1', .cons (.par qi) (h2.change (G := []) (kp_same (Same.refl H)) (by simp) (by simp) (fun _ _ h => h) (fun a ha => .inl ?_) (by simp)), fun a ha => ?_, h4, by rw [h5]; simp⟩
        · simp only [List.mem_append] at ha ⊢
          rcases ha with ((h | h) | h) | h <;> simp [h]
        · have up : ∀ b, b ∈ G ++ F1a → b ∈ G ++ F1 := fun b hb => by
            simp only [List.mem_append] at hb ⊢
            exact hb.elim .inl fun q => .inr (hsub b (by simp [q]))
          simp only [List.mem_append] at ha
          rcases ha with (h | h) | h
          · exact List.mem_append_right _ (hsub a (by simp [h]))
          · exact up a (h3 a (by simp [h]))
          · exact up a (h3 a (by simp [h]))
    unfold lend at e
    split at e
    · rename_i d hs
      exact taken _ d hs (.inl rfl) e
    · rename_i d hs
      exact taken _ d hs (.inr rfl) e
    · rename_i d hs
      cases hl : lend as s with
      | none => rw [hl] at e; cases e
      | some z =>
        rw [hl] at e
        cases e
        obtain ⟨A, F1', h1, h2, h3, h4, h5⟩ := lend_ok (P := P) t r hl
        obtain ⟨B1, B2, _, g1, _⟩ := id r
        obtain ⟨o, A0, B0, G0, ho, _, le, _⟩ := g1.at_ hs
        rw [hv] at ho
        cases ho
        cases le with
        | bor q n =>
          refine ⟨A, F1', h1, ?_, h3, h4, h5⟩
          have := LR.cons (F := []) (LE.bor q fun a ha hz => ?_) h2
          · exact this
          · refine n a ha ?_
            show a ∈ (G ++ P) ++ F1
            simp only [List.mem_append] at hz ⊢
            rcases hz with (h | h) | h
            · have := h3 a (by simp [h])
              simp only [List.mem_append] at this
              rcases this with w | w <;> simp [w]
            · simp [h]
            · have := h3 a (by simp [h])
              simp only [List.mem_append] at this
              rcases this with w | w <;> simp [w]
    · cases e
/-- what was lent comes back -/
theorem give_ok {s0 : S} {Av : List Addr} : ∀ {as : List AV} {vs : List V} {F A F1 P : List Addr} {s s3 : S} {ps : List Lc} {mm : List Addr} {H0 : Hp}, ArgR c mm H0 σ vs as F → LR c m H Av ps (vs.map some) A → Rl c m (A ++ P, F1) σ H s → give s0 as ps s = some s3 →
    ∃ F1', Rl c m (P, F1') σ H s3 ∧ (∀ a ∈ F1', a ∈ A ++ F1) ∧ s3.obj = s.obj ∧ ∀ (i : Nat) d', s3.loc[i]? = some (.par d') → (∃ d, s.loc[i]? = some (.par d)) ∨ ∃ d, s0.loc[i]? = some (.par d)
  | [], _, _, _, F1, P, s, s3, ps, _, _, .nil, l, r, e => by
    cases l
    cases e
    exact ⟨F1, r, fun a h => h, rfl, fun i d h => .inl ⟨d, h⟩⟩
  | .val d :: as, _, _, _, F1, P, s, s3, _, _, _, .val q t, .cons (F := Fi) (G := G) le l, r, e => by
    unfold give at e
    have r' : Rl c m (G ++ P, F1) σ H s := by
      refine Rl.hand r (Same.refl _) ?_ fun a ha => ⟨.inl ?_, r.mut a ?_⟩
      · have z : ((Fi ++ G) ++ P ++ F1).Nodup := r.nd
        rw [List.append_assoc, List.append_assoc] at z
        have := (List.nodup_append.mp z).2.1
        rw [List.append_assoc]; exact this
      · simp only [List.mem_append] at ha ⊢
        rcases ha with h | h <;> simp [h]
      · simp only [List.mem_append] at ha ⊢
        rcases ha with h | h <;> simp [h]
    obtain ⟨F1', h1, h2, h3, h4⟩ := give_ok (P := P) t l r' e
    exact ⟨F1', h1, fun a ha => by have := h2 a ha; simp only [List.mem_append] at this ⊢; rcases this with h | h <;> simp [h], h3, h4⟩
  | .slot i :: as, _, _, _, F1, P, s, s3, p :: ps, _, _, .slot hv t, .cons (F := Fi) (G := G) le l, r, e => by
    unfold give at e
    have put : ∀ d l', p = .par d → s.loc[i]? = some .no → (l' = .own d ∨ l' = .par d) → give s0 as ps { s with loc := s.loc.set i l' } = some s3 → (∀ d, l' = .par d → ∃ d, s0.loc[i]? = some (.par d)) →
        ∃ F1', Rl c m (P, F1') σ H s3 ∧ (∀ a ∈ F1', a ∈ (Fi ++ G) ++ F1) ∧ s3.obj = s.obj ∧ ∀ (i : Nat) d', s3.loc[i]? = some (.par d') → (∃ d, s.loc[i]? = some (.par d)) ∨ ∃ d, s0.loc[i]? = some (.par d)   := fun d l' hp hs hl' e' hk => by
      subst hp
      cases le with
      | par q =>
        have r' : Rl c m (Fi ++ (G ++ P), F1) σ H s := by rw [← List.append_assoc]; exact r
        obtain ⟨F1a, g1, g2⟩ := r'.giveS hs hv q hl'
        obtain ⟨F1', h1, h2, h3, h4⟩ := give_ok (P := P) t l g1 e'
        refine ⟨F1', h1, fun a ha => ?_, h3, fun j d' hj => ?_⟩
        · have := h2 a ha
          simp only [List.mem_append] at this ⊢
          rcases this with h | h
          · simp [h]
          · have := g2 a h
            simp only [List.mem_append] at this
            rcases this with h | h <;> simp [h]
        · rcases h4 j d' hj with ⟨d2, h⟩ | h
          · have h : (s.loc.set i l')[j]? = some (.par d2) := h
            by_cases hij : i = j
            · subst hij
              have hi : i < s.loc.length := (List.getElem?_eq_some_iff.mp hs).1
              rw [List.getElem?_set_self hi] at h
              cases h
              exact .inr (hk d2 rfl)
            · rw [List.getElem?_set_ne hij] at h
              exact .inl ⟨d2, h⟩
          · exact .inr h
    split at e
    · exact put _ _ rfl (by assumption) (.inl rfl) e fun d z => by cases z
    · exact put _ _ rfl (by assumption) (.inr rfl) e fun d z => ⟨_, by assumption⟩
    · have r' : Rl c m (G ++ P, F1) σ H s := by
        refine Rl.hand r (Same.refl _) ?_ fun a ha => ⟨.inl ?_, r.mut a ?_⟩
        · have z : ((Fi ++ G) ++ P ++ F1).Nodup := r.nd
          rw [List.append_assoc, List.append_assoc] at z
          have := (List.nodup_append.mp z).2.1
          rw [List.append_assoc]; exact this
        · simp only [List.mem_append] at ha ⊢
          rcases ha with h | h <;> simp [h]
        · simp only [List.mem_append] at ha ⊢
          rcases ha with h | h <;> simp [h]
      obtain ⟨F1', h1, h2, h3, h4⟩ := give_ok (P := P) t l r' e
      exact ⟨F1', h1, fun a ha => by have := h2 a ha; simp only [List.mem_append] at this ⊢; rcases this with h | h <;> simp [h], h3, h4⟩
    · cases e
end
end Dn
set_option Elab.async false
set_option linter.all false
set_option maxRecDepth 100000
set_option maxHeartbeats 4000000
/-! calls that may change things: the rules -/
namespace Dn
open PySem PySem.Spec PyProof.Rows L2 Tr
section
variable {c : Ct} {m m' : List Addr} {H H' : Hp} {s s' s0 : S} {σ σ' : St}
theorem call_core {A P F1 : List Addr} {s2 : S} {ls : List Lc} {vs : List V} (r : Rl c m (A ++ P, F1) σ H s2) (l : LR c m H ((A ++ P) ++ F1) ls (vs.map some) A) :
    ∃ L1 F2, F1 = L1 ++ F2 ∧ Rl c m (P ++ L1, A ++ F2) (vs.map some) H ⟨ls, s2.obj⟩ ∧
      ∀ m' H' F G os' ps, Mx m m' → Rl c m' (F ++ (P ++ L1), G) (vs.map some) H' ⟨ps, os'⟩ → Ext (A ++ F2) H (F ++ G) H' →
        ∃ A' F2' Av, G = A' ++ F2' ∧ LR c m' H' Av ps (vs.map some) A' ∧ Rl c m' (A' ++ (F ++ P), L1 ++ F2') σ H' ⟨s2.loc, os'⟩ := by
  obtain ⟨L1, F2, e, h1, h2, h3, h4⟩ := id r
  have e : F1 = L1 ++ F2 := e
  subst e
  have nd : ((A ++ P) ++ (L1 ++ F2)).Nodup := h3
  have sub : ∀ a ∈ (P ++ L1) ++ (A ++ F2), a ∈ (A ++ P) ++ (L1 ++ F2) ∨ H a = none := fun a ha => .inl (by
    simp only [List.mem_append] at ha ⊢
    rcases ha with (h | h) | h | h <;> simp [h])
  have ch : ∀ {ls : List Lc} {os : List (Option V)} {Z : List Addr}, LR c m H ((A ++ P) ++ (L1 ++ F2)) ls os Z → LR c m H ((P ++ L1) ++ (A ++ F2)) ls os Z := fun h => h.change (G := []) (kp_same (Same.refl H)) (by simp) (by simp) (fun _ _ h => h) sub (by simp)
  have nd2 : ((P ++ L1) ++ (A ++ F2)).Nodup := by
    have p : ((A ++ P) ++ (L1 ++ F2)).Perm ((P ++ L1) ++ (A ++ F2)) := by
      rw [List.perm_iff_count]; intro x; simp only [List.count_append]; omega
    exact p.nodup_iff.mp nd
  refine ⟨L1, F2, rfl, ⟨A, F2, rfl, ch l, ch h2, nd2, fun a ha => ?_⟩, fun m' H' F G os' ps hx rc ex => ?_⟩
  · rcases List.mem_append.mp (show a ∈ P ++ L1 from ha) with h | h
    · exact h4 a (by simp [h])
    · exact h1.mut a h
  · obtain ⟨A', F2', e2, g1, g2, g3, g4⟩ := rc
    have e2 : G = A' ++ F2' := e2
    subst e2
    have hAF : ∀ a ∈ A ++ F2, MutAt H a := fun a ha => r.mut a (by
      simp only [List.mem_append] at ha ⊢
      rcases ha with h | h <;> simp [h])
    have hin : ∀ a ∈ A ++ F2, a ∈ (A ++ P) ++ (L1 ++ F2) := fun a ha => by
      simp only [List.mem_append] at ha ⊢
      rcases ha with h | h <;> simp [h]
    have sub2 : ∀ a ∈ (A' ++ (F ++ P)) ++ (L1 ++ F2'), a ∈ (A ++ P) ++ (L1 ++ F2) ∨ H a = none := fun a ha => by
      have via : a ∈ F ++ (A' ++ F2') → a ∈ (A ++ P) ++ (L1 ++ F2) ∨ H a = none := fun z => (ex.sub a z).elim (fun q => .inl (hin a q)) .inr
      simp only [List.mem_append] at ha
      rcases ha with (h | h | h) | h | h
      · exact via (by simp [h])
      · exact via (by simp [h])
      · exact .inl (by simp [h])
      · exact .inl (by simp [h])
      · exact via (by simp [h])
    have sub3 : ∀ a ∈ (A' ++ (F ++ P)) ++ (L1 ++ F2'), a ∈ (F ++ (P ++ L1)) ++ (A' ++ F2') ∨ H' a = none := fun a ha => .inl (by
      simp only [List.mem_append] at ha ⊢
      rcases ha with (h | h | h) | h | h <;> simp [h])
    have nL : ∀ a ∈ L1, a ∉ A ++ F2 := fun a ha hb => by
      have n1 := List.nodup_append.mp nd2
      exact n1.2.2 a (by simp [ha]) a hb rfl
    have nd3 : ((A' ++ (F ++ P)) ++ (L1 ++ F2')).Nodup := by
      have g3 : ((F ++ (P ++ L1)) ++ (A' ++ F2')).Nodup := g3
      have p : ((F ++ (P ++ L1)) ++ (A' ++ F2')).Perm ((A' ++ (F ++ P)) ++ (L1 ++ F2')) := by
        rw [List.perm_iff_count]; intro x; simp only [List.count_append]; omega
      exact p.nodup_iff.mp g3
    refine ⟨A', F2', _, rfl, g1, L1, F2', rfl, h1.change ex.kp hAF hin hx sub2 nL, g2.change (G := []) (kp_same (Same.refl H')) (by simp) (by simp) (fun _ _ h => h) sub3 (by simp), nd3, fun a ha => ?_⟩
    rcases List.mem_append.mp (show a ∈ A' ++ (F ++ P) from ha) with h | h
    · exact g1.mut a h
    · rcases List.mem_append.mp h with h | h
      · exact g4 a (by simp [h])
      · exact g4 a (by simp [h])
end
/-! arguments -/
abbrev EG := S → Option (Res (List AV))
def GPost (X : Cx) (m : List Addr) (F0 : Fq) (σ : St) (H : Hp) (s : S) (Q : List V → Hp → Prop) : Option (Res (List AV)) → Prop
  | some (.ok as s') => ∀ vs H' m' F F1, Af (ct X) m F0 H s σ F m' F1 H' s' → ArgR (ct X) m' H' σ vs as F → Q vs H'
  | some (.ex x s') => XOk X x s'
  | none => False
structure JG (X : Cx) (es : List Expr) (p : EG) : Prop where
  run : ∀ (m : List Addr) (F0 : Fq) (σ : St) (H : Hp) (s : S), Rl (ct X) m F0 σ H s → ∀ Q : List V → Hp → Prop, GPost X m F0 σ H s Q (p s) → WA X es σ H Q
def gNil' : EG := fun s => some (.ok [] s)
def gE (p : EV) (r : EG) : EG := eB p fun d => eB r fun as s => some (.ok (.val d :: as) s)
def gN (i : Nat) (r : EG) : EG := fun s => match (s.loc[i]?).bind Lc.dat with
  | some _ => eB r (fun as s => some (.ok (.slot i :: as) s)) s
  | none => none
section
variable {X : Cx} {e a b o : Expr} {es rest : List Expr} {pos : Pos} {p : PV} {q : PP} {x : Str} {ea : EV} {g r : EG} {den : Den} {k j : Nat}
theorem GPost.then {m : List Addr} {F0 : Fq} {σ : St} {H : Hp} {s : S} {β : Type} {f : List AV → S → Option (Res β)} {P : Option (Res β) → Prop} {Q : List V → Hp → Prop} (hx : ∀ x s', P (some (.ex x s')) → XOk X x s') (hn : ¬ P none)
    (q : P (eB g f s)) (k : ∀ ds s1 vs H1 m1 F F1, Af (ct X) m F0 H s σ F m1 F1 H1 s1 → ArgR (ct X) m1 H1 σ vs ds F → P (f ds s1) → Q vs H1) : GPost X m F0 σ H s Q (g s) := by
  unfold eB at q
  cases he : g s with
  | none => rw [he] at q; exact (hn q).elim
  | some z =>
    rw [he] at q
    cases z with
    | ex x s' => exact hx x s' q
    | ok b s1 => exact fun v H1 m1 F F1 A r => k b s1 v H1 m1 F F1 A r q
theorem jg_nil : JG X [] gNil' := ⟨fun m F0 σ H s r Q q => wa_nil (q [] H m [] F0.2 (Af.same r (Same.refl _)) .nil)⟩
theorem ArgR.keep {c : Ct} {m m2 : List Addr} {H H2 : Hp} {σ : St} {Fz : List Addr} (k : Kp Fz H H2) (hm : ∀ a ∈ Fz, MutAt H a) (pm : Mx m m2) : ∀ {vs : List V} {as : List AV} {F : List Addr}, ArgR c m H σ vs as F → (∀ a ∈ F, a ∉ Fz) → ArgR c m2 H2 σ vs as F
  | _, _, _, .nil, _ => .nil
  | _, _, _, .val r t, h => .val (r.keep k hm pm fun a z => h a (by simp [z])) (ArgR.keep k hm pm t fun a z => h a (by simp [z]))
  | _, _, _, .slot e t, h => .slot e (ArgR.keep k hm pm t h)
theorem jg_e (h : JE X e ea) (hr : JG X es r) (hs : starEach (e :: es) X.env = (false, eval e X.env) :: starEach es X.env := by rfl) : JG X (e :: es) (gE ea r) := ⟨fun m F0 σ H s rl Q q =>
  wa_cons (h.run m F0 σ H s rl _ (EPost.then (P := GPost X m F0 σ H s Q) (fun _ _ h => h) (fun h => h) q fun d s1 v H1 m1 F F1 A r1 z =>
    hr.run m1 _ σ H1 s1 A.rl _ (GPost.then (P := GPost X m F0 σ H s Q) (fun _ _ h => h) (fun h => h) z fun ds s2 vs H2 m2 G F2 B r2 z2 =>
      z2 (v :: vs) H2 m2 (F ++ G) F2 (A.trans B).flip (.val (B.rep A.rl r1 (by intro a ha; simp [ha])) r2)))) hs⟩
theorem jg_n (i : Nat) {p1 : Pos} (hr : JG X es r) (hN : X.N[i]? = some x := by rfl) (hv : Vis X.env.scope x := by first | exact Or.inl rfl | exact Or.inr (Or.inl rfl) | exact Or.inr (Or.inr rfl)) (hd : (x == ("__debug__" : Str)) = false := by decide)
    (hcd : (x == ("__classdict__" : Str)) = false := by decide) (hs : starEach (.Name x p1 :: es) X.env = (false, eval (.Name x p1) X.env) :: starEach es X.env := by rfl) : JG X (.Name x p1 :: es) (gN i r) := ⟨fun m F0 σ H s rl Q q => by
  unfold gN at q
  split at q
  · rename_i d hd'
    obtain ⟨v, G, h1, h2⟩ := rl.slot hd'
    exact wa_cons (w_v i h1 (hr.run m F0 σ H s rl _ (GPost.then (P := GPost X m F0 σ H s Q) (fun _ _ h => h) (fun h => h) q fun ds s2 vs H2 m2 G F2 B r2 z2 => z2 (v :: vs) H2 m2 G F2 B (.slot h1 r2))) hN hv hd hcd) hs
  · exact (show False from q).elim⟩
/-- the def at work: arguments lent, the answer in hand, what was lent back -/
def doCall (den : Den) (as : List AV) : S → Option (Res D) := fun s => match lend as s with
  | some (ls, s2) => match den ls s2.obj with
    | some (.ret d ps os) => match give s as ps ⟨s2.loc, os⟩ with
      | some s3 => some (.ok d s3)
      | none => none
    | none => none
  | none => none
theorem lend_len : ∀ {as : List AV} {s : S} {ls : List Lc} {s2 : S}, lend as s = some (ls, s2) → ls.length = as.length
  | [], _, _, _, e => by cases e; rfl
  | .val d :: as, s, ls, s2, e => by
    unfold lend at e
    cases hl : lend as s with
    | none => rw [hl] at e; cases e
    | some z => rw [hl] at e; cases e; rw [List.length_cons, List.length_cons, lend_len hl]
  | .slot i :: as, s, ls, s2, e => by
    unfold lend at e
    split at e
    · cases hl : lend as _ with
      | none => rw [hl] at e; cases e
      | some z => rw [hl] at e; cases e; rw [List.length_cons, List.length_cons, lend_len hl]
    · cases hl : lend as _ with
      | none => rw [hl] at e; cases e
      | some z => rw [hl] at e; cases e; rw [List.length_cons, List.length_cons, lend_len hl]
    · cases hl : lend as s with
      | none => rw [hl] at e; cases e
      | some z => rw [hl] at e; cases e; rw [List.length_cons, List.length_cons, lend_len hl]
    · cases e
theorem ArgR.len {c : Ct} {m : List Addr} {H : Hp} {σ : St} : ∀ {vs : List V} {as : List AV} {F : List Addr}, ArgR c m H σ vs as F → vs.length = as.length
  | _, _, _, .nil => rfl
  | _, _, _, .val _ t => by rw [List.length_cons, List.length_cons, t.len]
  | _, _, _, .slot _ t => by rw [List.length_cons, List.length_cons, t.len]
theorem lend_par : ∀ {as : List AV} {s : S} {ls : List Lc} {s2 : S}, lend as s = some (ls, s2) → ∀ (i : Nat) d', s2.loc[i]? = some (.par d') → s.loc[i]? = some (.par d')
  | [], _, _, _, e, i, d', h => by cases e; exact h
  | .val d :: as, s, ls, s2, e, i, d', h => by
    unfold lend at e
    cases hl : lend as s with
    | none => rw [hl] at e; cases e
    | some z => rw [hl] at e; cases e; exact lend_par hl i d' h
  | .slot n :: as, s, ls, s2, e, i, d', h => by
    have no : ∀ {t : S}, lend as { s with loc := s.loc.set n .no } = some (ls.tail, t) → t.loc[i]? = some (.par d') → s.loc[i]? = some (.par d') := fun hl ht => (set_par (lend_par hl i d' ht) (fun d z => nomatch z)).2
    unfold lend at e
    split at e
    · cases hl : lend as _ with
      | none => rw [hl] at e; cases e
      | some z => rw [hl] at e; cases e; exact no hl h
    · cases hl : lend as _ with
      | none => rw [hl] at e; cases e
      | some z => rw [hl] at e; cases e; exact no hl h
    · cases hl : lend as s with
      | none => rw [hl] at e; cases e
      | some z => rw [hl] at e; cases e; exact lend_par hl i d' h
    · cases e
/-- the promise is met -/
theorem doCall_sp {m : List Addr} {F0 : Fq} {σ : St} {H : Hp} {s : S} {Q : VK} {as : List AV} {s1 : S} {vs : List V} {H1 : Hp} {m1 Fa F1 : List Addr} {E : XK} (A : Af (ct X) m F0 H s σ Fa m1 F1 H1 s1) (ar : ArgR (ct X) m1 H1 σ vs as Fa) (z : EPost X m F0 σ H s Q (doCall den as s1)) : spD (ct X) den vs H1 Q E := by
  unfold doCall at z
  split at z
  · rename_i ls s2 hl
    split at z
    · rename_i d ps os hd
      split at z
      · rename_i s3 hg
        obtain ⟨Aa, F1', h1, h2, h3, h4, h5⟩ := lend_ok ar A.rl hl
        obtain ⟨L1, F2, rfl, g1, g2⟩ := call_core h1 h2
        refine ⟨m1, _, _, ls, s2.obj, d, ps, os, by rw [lend_len hl, ar.len], g1, hd, fun v H' m' F G hx rc rv ex => ?_⟩
        obtain ⟨A', F2', Av, rfl, k1, k2⟩ := g2 m' H' F G os ps hx rc ex
        obtain ⟨F3, k3, k4, k5, k6⟩ := give_ok ar k1 k2 hg
        have inF0 : ∀ a, a ∈ Aa ++ (L1 ++ F2) → a ∈ F0.2 ∨ H a = none := fun a ha => A.ex.sub a (h3 a ha)
        have back : ∀ a, H1 a = none → a ∈ F0.2 ∨ H a = none := fun a ha => by
          cases e : H a with
          | none => exact .inr rfl
          | some ob =>
            by_cases hz : a ∈ F0.2
            · exact .inl hz
            · rw [A.ex.kp a ob e hz] at ha; cases ha
        have cal : ∀ a, a ∈ F ++ (A' ++ F2') → a ∈ F0.2 ∨ H a = none := fun a ha => (ex.sub a ha).elim (fun q => inF0 a (by
          simp only [List.mem_append] at q ⊢
          rcases q with h | h <;> simp [h])) (back a)
        refine z v H' m' F F3 ⟨A.mx.trans hx, k3, ⟨fun a ob e hn => ex.kp a ob (A.ex.kp a ob e hn) fun q => ?_, fun a ha => ?_⟩, fun i d' hi => ?_⟩ rv
        · refine (inF0 a ?_).elim hn fun w => by rw [e] at w; cases w
          simp only [List.mem_append] at q ⊢
          rcases q with h | h <;> simp [h]
        · rcases List.mem_append.mp ha with h | h
          · exact cal a (by simp [h])
          · have := k4 a h
            simp only [List.mem_append] at this
            rcases this with h | h | h
            · exact cal a (by simp [h])
            · exact inF0 a (by simp [h])
            · exact cal a (by simp [h])
        · rcases k6 i d' hi with ⟨d2, h⟩ | ⟨d2, h⟩
          · exact A.px i d2 (lend_par hl i d2 h)
          · exact A.px i d2 h
      · exact (show False from z).elim
    · exact (show False from z).elim
  · exact (show False from z).elim
def eFn (den : Den) (g : EG) : EV := eB g fun as => doCall den as
theorem je_fn {p1 : Pos} (c : Fc X.prog X.w X.K X.mg X.base k x (spD (ct X) den)) (hr : Room j X.A) (hk : k ≤ j) (h : JG X (e :: es) g) (hg : Gl X x := by rfl)
    (hdb : (x == ("__debug__" : Str)) = false := by decide) (he : starEach (e :: es) X.env = (false, eval e X.env) :: starEach es X.env := by rfl) (hpl : (backTo pos (starEach es X.env)).any (·.1) = false := by rfl) :
    JE X (.Call (.Name x p1) (e :: es) [] pos) (eFn den g) := ⟨fun m F0 σ H s r Q q => w_c c hr hk (h.run m F0 σ H s r _ (GPost.then (P := EPost X m F0 σ H s Q) (fun _ _ h => h) (fun h => h) q fun as s1 vs H1 m1 F F1 A ar z => doCall_sp A ar z)) hg hdb he hpl⟩
/-! methods: the object is a number -/
def eMt (C : Addr) (mn : Str) (den : Den) (p : PV) (g : EG) : EV := fun s => match p s with
  | some (.ptr n, _) => match s.at n with
    | some (.ins C' fs) => if C' = C ∧ glook fs mn = none then eB g (fun as => doCall den (.val (.ptr n) :: as)) s else none
    | _ => none
  | _ => none
theorem eMt_inv {C : Addr} {mn : Str} {s : S} {P : Option (Res D) → Prop} (hn : ¬ P none) (h : P (eMt C mn den p g s)) : ∃ n f fs, p s = some (.ptr n, f) ∧ s.at n = some (.ins C fs) ∧ glook fs mn = none ∧ P (eB g (fun as => doCall den (.val (.ptr n) :: as)) s) := by
  unfold eMt at h
  split at h
  · rename_i n f hpn
    split at h
    · rename_i C' fs hs
      by_cases hc : C' = C ∧ glook fs mn = none
      · rw [if_pos hc] at h
        obtain ⟨rfl, hc⟩ := hc
        exact ⟨n, f, fs, hpn, hs, hc, h⟩
      · rw [if_neg hc] at h; exact (hn h).elim
    · exact (hn h).elim
  · exact (hn h).elim
theorem je_mt {C : Addr} {mn : Str} {apos : Pos} {pl : Sem Bool} (c : Mc X.prog X.w X.K X.mg X.base k C mn (spD (ct X) den)) (hr : Room j X.A) (hk : k ≤ j) (ho : JP X o p) (h : JG X (e :: es) g)
    (hst : starEach (e :: es) X.env = (false, eval e X.env) :: starEach es X.env := by rfl) (hpl : (backTo pos (starEach es X.env)).any (·.1) = false := by rfl)
    (ht : eval (.Call (.Attribute o mn apos) (e :: es) [] pos) X.env = (do
      let ov ← eval o X.env
      standAt apos.atName
      let (f, first) ← holding [ov] (getMethod ov mn pl)
      callWith pos f first (backTo pos (starEach (e :: es) X.env)) (backToKw pos (keywordEach [] X.env))) := by rfl) :
    JE X (.Call (.Attribute o mn apos) (e :: es) [] pos) (eMt C mn den p g) := ⟨fun m F0 σ H s r Q q => by
  obtain ⟨n, f, fs, hn, hs, hc, z⟩ := eMt_inv (P := EPost X m F0 σ H s Q) (fun h => h) q
  refine w_mt c hr hk (ho.run m F0 σ H s r _ f hn _ fun v H0 F s0 r0 _ => ?_) hst hpl ht
  obtain ⟨a, rfl, rfl, hm⟩ := rep_ptr r0
  obtain ⟨G, rr⟩ := (r.same s0).objAt hs hm
  obtain ⟨a', dx, fx, e1, g1, g2⟩ := ins_none rr hc
  cases e1
  have A0 : Af (ct X) m F0 H s σ [] m F0.2 H0 s := Af.same r s0
  refine ⟨a, dx, fx, rfl, g1, g2, h.run m F0 σ H0 s (r.same s0) _ (GPost.then (P := EPost X m F0 σ H s Q) (fun _ _ h => h) (fun h => h) z fun as s1 vs H1 m1 F F1 A ar z => ?_)⟩
  have A' : Af (ct X) m F0 H s σ F m1 F1 H1 s1 := by have := A0.trans (by simpa using A); simpa using this
  exact doCall_sp A' (.val (F := []) (.ptr (A.mx _ _ hm)) ar) z⟩
theorem je_mt0 {C : Addr} {mn : Str} {apos : Pos} {pl : Sem Bool} (c : Mc X.prog X.w X.K X.mg X.base k C mn (spD (ct X) den)) (hr : Room j X.A) (hk : k ≤ j) (ho : JP X o p)
    (ht : eval (.Call (.Attribute o mn apos) [] [] pos) X.env = (do
      let ov ← eval o X.env
      standAt apos.atName
      let (f, first) ← holding [ov] (getMethod ov mn pl)
      callWith pos f first (backTo pos (starEach [] X.env)) (backToKw pos (keywordEach [] X.env))) := by rfl) :
    JE X (.Call (.Attribute o mn apos) [] [] pos) (eMt C mn den p gNil') := ⟨fun m F0 σ H s r Q q => by
  obtain ⟨n, f, fs, hn, hs, hc, z⟩ := eMt_inv (P := EPost X m F0 σ H s Q) (fun h => h) q
  refine w_mt0 c hr hk (ho.run m F0 σ H s r _ f hn _ fun v H0 F s0 r0 _ => ?_) ht
  obtain ⟨a, rfl, rfl, hm⟩ := rep_ptr r0
  obtain ⟨G, rr⟩ := (r.same s0).objAt hs hm
  obtain ⟨a', dx, fx, e1, g1, g2⟩ := ins_none rr hc
  cases e1
  have A0 : Af (ct X) m F0 H s σ [] m F0.2 H0 s := Af.same r s0
  exact ⟨a, dx, fx, rfl, g1, g2, doCall_sp A0 (.val (F := []) (.ptr hm) .nil) z⟩⟩
end
end Dn
set_option Elab.async false
set_option linter.all false
set_option maxRecDepth 100000
set_option maxHeartbeats 4000000
/-! loops -/
namespace Dn
open PySem PySem.Spec PyProof.Rows L2 Tr
/-- the turns of a walk give these data, while Fi stands -/
structure WalkOk (c : Ct) (m : List Addr) (H2 : Hp) (ds : List D) (G : Hp → Prop) (YY : Nat → Hp → V → Hp → Prop) (Fi : List Addr) : Prop where
  mu : ∀ a ∈ Fi, MutAt H2 a
  go : ∀ Fx, (∀ a ∈ Fx, MutAt H2 a) → (∀ a ∈ Fi, a ∉ Fx) → ∀ H3, Kp Fx H2 H3 → G H3
  item : ∀ Fx, (∀ a ∈ Fx, MutAt H2 a) → (∀ a ∈ Fi, a ∉ Fx) → ∀ i H3 x H4, i < ds.length → Kp Fx H2 H3 → YY i H3 x H4 → Same H3 H4 ∧ ∃ d F, ds[i]? = some d ∧ Rep c m H4 x d F ∧ ∀ a ∈ F, a ∈ Fi
abbrev IV := S → Option (Res (List D × Bool))
def IPost (X : Cx) (m : List Addr) (F0 : Fq) (σ : St) (H : Hp) (s : S) (R : It → Hp → Prop) : Option (Res (List D × Bool)) → Prop
  | some (.ok ds s') => ∀ J H2 G YY Fi m' F1, Af (ct X) m F0 H s σ [] m' F1 H2 s' → Walk J ds.1.length G YY → WalkOk (ct X) m' H2 ds.1 G YY Fi → (ds.2 = true → ∀ a ∈ Fi, a ∉ F0.1 ++ F1) → R J H2
  | some (.ex x s') => XOk X x s'
  | none => False
structure JI (X : Cx) (tg iter : Expr) (p : IV) : Prop where
  run : ∀ (m : List Addr) (F0 : Fq) (σ : St) (H : Hp) (s : S), Rl (ct X) m F0 σ H s → ∀ R : It → Hp → Prop, IPost X m F0 σ H s R (p s) → WI X tg iter σ H R
/-- what a walk over data gives -/
def D.items : D → Option (List D)
  | .lst ds => some ds
  | .tup ds => some ds
  | .frz ns => some (ns.map .int)
  | .str z => some (z.cps.toList.map fun ch => .str ⟨#[ch]⟩)
  | _ => none
section
variable {c : Ct} {m m' : List Addr} {H H' : Hp} {s s' s0 : S} {σ σ' : St}
theorem yat_ok {xs : List V} {ds : List D} {F Fi : List Addr} (rr : RepL c m H xs ds F) (hF : ∀ a ∈ F, a ∈ Fi) (mu : ∀ a ∈ Fi, MutAt H a) {G : Hp → Prop} (hG : ∀ Fx, (∀ a ∈ Fx, MutAt H a) → (∀ a ∈ Fi, a ∉ Fx) → ∀ H3, Kp Fx H H3 → G H3) : WalkOk c m H ds G (YAt xs) Fi :=
  ⟨mu, hG, fun Fx hm ha i H3 x H4 hi k hy => by
    obtain ⟨rfl, hx⟩ := hy
    obtain ⟨d, hd⟩ := rr.getV hx
    obtain ⟨v, A, B, Z, h1, h2, h3, _⟩ := rr.get hd
    rw [hx] at h1
    cases h1
    have sub : ∀ a ∈ Z, a ∈ Fi := fun a hz => hF a (by rw [h2]; simp [hz])
    exact ⟨Same.refl _, d, Z, hd, h3.keep k hm (fun _ _ h => h) fun a hz => ha a (sub a hz), sub⟩⟩
theorem str_items {z : Str} {i : Nat} {ch : Nat} (h : z.cps[i]? = some ch) : (z.cps.toList.map fun ch => D.str ⟨#[ch]⟩)[i]? = some (.str ⟨#[ch]⟩) := by
  rw [List.getElem?_map]
  have : z.cps.toList[i]? = some ch := by simpa using h
  rw [this]
  rfl
end
section
variable {X : Cx} {e a b o tg iter : Expr} {es rest : List Expr} {pos : Pos} {p pa pb : PV} {x y : Str} {ea : EV} {as : EA}
/-- the rule of the walk, by what is walked -/
theorem wi_items {m : List Addr} {H : Hp} {σ : St} {d : D} {ds : List D} {R : It → Hp → Prop} (hi : d.items = some ds)
    (h : WE X iter σ H fun v H1 => ∃ m' F, Rep (ct X) m' H1 v d F ∧ ∀ J G YY, Walk J ds.length G YY → WalkOk (ct X) m' H1 ds G YY F → R J H1) : WI X tg iter σ H R := by
  unfold D.items at hi
  split at hi
  · cases hi
    refine wi (pi_list peW) (h.mono fun v H1 ⟨m', F, r, k⟩ => ?_)
    obtain ⟨a, xs, G, rfl, rfl, ha, rr⟩ := rep_lst r
    refine ⟨a, rfl, ⟨xs, SqL.of ha⟩, k _ _ _ (by rw [← rr.length]; exact walk_list) (yat_ok rr (fun b hb => by simp [hb]) r.mut fun Fx hm hd H3 kp => SqL.of (kp a _ ha (hd a (by simp))))⟩
  · cases hi
    refine wi (pi_tup peW) (h.mono fun v H1 ⟨m', F, r, k⟩ => ?_)
    obtain ⟨a, xs, rfl, ha, rr⟩ := rep_tup r
    exact ⟨a, rfl, ⟨xs, ha⟩, k _ _ _ (by rw [← rr.length]; exact walk_tup) (yat_ok rr (fun b hb => hb) r.mut fun Fx hm hd H3 kp => sqT_keep (c := ct X) kp hm ha)⟩
  · rename_i ns
    cases hi
    refine wi (pi_list peW) (h.mono fun v H1 ⟨m', F, r, k⟩ => ?_)
    obtain ⟨a, rfl, rfl, ha⟩ := rep_frz r
    refine ⟨a, rfl, ⟨_, ha.sq⟩, k _ _ _ (by rw [List.length_map, ← List.length_map (f := V.int)]; exact walk_list) (yat_ok (xs := ns.map V.int) (F := []) (repL_ints ns) (by simp) (by simp) (G := fun H => SqL X.K H a (ns.map V.int)) fun Fx hm hd H3 kp => (sqF_keep (c := ct X) kp hm ha).sq)⟩
  · rename_i z
    cases hi
    refine wi (pi_str peW) (h.mono fun v H1 ⟨m', F, r, k⟩ => ?_)
    obtain ⟨rfl, rfl⟩ := rep_str r
    refine ⟨z, rfl, k _ _ _ (by rw [List.length_map, Array.length_toList]; exact walk_str) ⟨by simp, fun _ _ _ _ _ => trivial, fun Fx hm hd i H3 x H4 hlt kp hy => ?_⟩⟩
    obtain ⟨rfl, ch, h1, rfl⟩ := hy
    exact ⟨Same.refl _, _, [], str_items h1, .str _, by simp⟩
  · cases hi
def iE (ea : EV) : IV := eB ea fun d s => match d.items with
  | some ds => some (.ok (ds, true) s)
  | none => none
theorem ji_e (h : JE X iter ea) : JI X tg iter (iE ea) := ⟨fun m F0 σ H s r R q => by
  unfold iE eB at q
  cases he : ea s with
  | none => rw [he] at q; exact (show False from q).elim
  | some z =>
    rw [he] at q
    cases z with
    | ex x s1 =>
      have hx : XOk X x s1 := q
      exact hx.elim
    | ok d s1 =>
      simp only at q
      cases hd : d.items with
      | none => rw [hd] at q; exact (show False from q).elim
      | some ds =>
        rw [hd] at q
        refine wi_items (m := m) hd (h.run m F0 σ H s r _ ?_)
        rw [he]
        intro v H1 m1 F F1 A r1
        refine ⟨m1, F, r1, fun J G YY w ok => q J H1 G YY F m1 F1 (A.swapN (Same.refl _)) w ok fun _ a ha hz => ?_⟩
        have nd : ((F ++ F0.1) ++ F1).Nodup := A.rl.nd
        rw [List.append_assoc, List.nodup_append] at nd
        exact nd.2.2 a ha a hz rfl⟩
/-- a slot that is only read, or data that never change -/
def iV (i : Nat) : IV := fun s => match s.loc[i]? with
  | some (.bor d) => d.items.map fun ds => .ok (ds, true) s
  | some (.par d) => d.items.map fun ds => .ok (ds, d.imm) s
  | some (.own d) => d.items.map fun ds => .ok (ds, d.imm) s
  | _ => none
theorem ji_v (i : Nat) {p1 : Pos} (hN : X.N[i]? = some x := by rfl) (hv : Vis X.env.scope x := by first | exact Or.inl rfl | exact Or.inr (Or.inl rfl) | exact Or.inr (Or.inr rfl)) (hd : (x == ("__debug__" : Str)) = false := by decide)
    (hcd : (x == ("__classdict__" : Str)) = false := by decide) : JI X tg (.Name x p1) (iV i) := ⟨fun m F0 σ H s r R q => by
  unfold iV at q
  have key : ∀ l d fl, s.loc[i]? = some l → l.dat = some d → (fl = true → ∃ v F, σ[i]? = some (some v) ∧ Rep (ct X) m H v d F ∧ ∀ a ∈ F, a ∉ F0.all) → IPost X m F0 σ H s R (d.items.map fun ds => .ok (ds, fl) s) → WI X tg (.Name x p1) σ H R := fun l d fl hl hld hfl q => by
    cases hd' : d.items with
    | none => rw [hd'] at q; exact (show False from q).elim
    | some ds =>
      rw [hd'] at q
      have ex : ∃ v F, σ[i]? = some (some v) ∧ Rep (ct X) m H v d F ∧ (fl = true → ∀ a ∈ F, a ∉ F0.all) := by
        cases fl with
        | true => obtain ⟨v, F, h1, h2, h3⟩ := hfl rfl; exact ⟨v, F, h1, h2, fun _ => h3⟩
        | false => obtain ⟨v, F, h1, h2⟩ := r.slot (i := i) (d := d) (by rw [hl]; exact hld); exact ⟨v, F, h1, h2, fun z => nomatch z⟩
      obtain ⟨v, F, h1, h2, h3⟩ := ex
      exact wi_items (m := m) hd' (w_v i h1 ⟨m, F, h2, fun J G YY w ok => q J H G YY F m F0.2 (Af.same r (Same.refl _)) w ok h3⟩ hN hv hd hcd)
  have imm : ∀ l d, s.loc[i]? = some l → l.dat = some d → d.imm = true → ∃ v F, σ[i]? = some (some v) ∧ Rep (ct X) m H v d F ∧ ∀ a ∈ F, a ∉ F0.all := fun l d hl hld hi => by
    obtain ⟨v, F, h1, h2⟩ := r.slot (i := i) (d := d) (by rw [hl]; exact hld)
    refine ⟨v, F, h1, h2, ?_⟩
    rw [h2.imm hi]
    simp
  split at q
  · rename_i d hl
    refine key _ d true hl rfl (fun _ => ?_) q
    obtain ⟨F1, F2, e, g1, g2, g3, g4⟩ := r
    obtain ⟨o, A, B, G, ho, hA, le, _⟩ := g1.at_ hl
    cases le with
    | bor rr n => exact ⟨_, _, ho, rr, n⟩
  · rename_i d hl
    exact key _ d d.imm hl rfl (imm _ d hl rfl) q
  · rename_i d hl
    exact key _ d d.imm hl rfl (imm _ d hl rfl) q
  · exact (show False from q).elim⟩
/-- any expression that changes nothing -/
def iP (p : PV) : IV := fun s => match p s with
  | some (d, fr) => d.items.map fun ds => .ok (ds, fr || d.imm) s
  | none => none
theorem ji_p (h : JP X iter p) : JI X tg iter (iP p) := ⟨fun m F0 σ H s r R q => by
  unfold iP at q
  cases hp : p s with
  | none => rw [hp] at q; exact (show False from q).elim
  | some z =>
    obtain ⟨d, fr⟩ := z
    rw [hp] at q
    simp only at q
    cases hd : d.items with
    | none => rw [hd] at q; exact (show False from q).elim
    | some ds =>
      rw [hd] at q
      refine wi_items (m := m) hd (h.run m F0 σ H s r d fr hp _ fun v H1 F s1 r1 n1 => ⟨m, F, r1, fun J G YY w ok => q J H1 G YY F m F0.2 (Af.same r s1) w ok fun hf a ha hz => ?_⟩)
      have hf : (fr || d.imm) = true := hf
      rw [Bool.or_eq_true] at hf
      rcases hf with hf | hf
      · exact (r.mut a hz).some ((n1 hf).2 a ha)
      · rw [r1.imm hf] at ha; simp at ha⟩
/-! ranges -/
def rng (lo : Int) (n : Nat) : List D := (List.range n).map fun (k : Nat) => D.int (lo + (k : Int))
noncomputable def iR1 (as : EA) : IV := eB as fun ds s => match ds with
  | [.int j] => @ite _ (-(2 ^ 62) ≤ j ∧ j < 2 ^ 62) (Classical.propDecidable _) (some (.ok (rng 0 j.toNat, true) s)) none
  | _ => none
noncomputable def iR2 (as : EA) : IV := eB as fun ds s => match ds with
  | [.int i, .int j] => @ite _ (-(2 ^ 62) ≤ i ∧ i < 2 ^ 62 ∧ -(2 ^ 62) ≤ j ∧ j < 2 ^ 62) (Classical.propDecidable _) (some (.ok (rng i (j - i).toNat, true) s)) none
  | _ => none
theorem rng_ok {m : List Addr} {H : Hp} {lo : Int} {n : Nat} : WalkOk (ct X) m H (rng lo n) (fun _ => True) (YFn fun i => .int (lo + i)) [] := by
  refine ⟨by simp, fun _ _ _ _ _ => trivial, fun Fx hm hd i H3 x H4 hi kp hy => ?_⟩
  obtain ⟨rfl, rfl⟩ := hy
  unfold rng at hi ⊢
  rw [List.length_map, List.length_range] at hi
  exact ⟨Same.refl _, .int (lo + (i : Int)), [], by simp [hi], .int _, by simp⟩
theorem ji_r1 {p1 : Pos} (hm : X.mg "range" = none) (h : JEA X [a] as) (hg : Gl X "range" := by rfl) (hs : starEach [a] X.env = [(false, eval a X.env)] := by rfl) : JI X tg (.Call (.Name "range" p1) [a] [] pos) (iR1 as) := ⟨fun m F0 σ H s r R q => wi (pi_range1 hg hm paW hs) (h.run m F0 σ H s r _ (APost.then (P := IPost X m F0 σ H s R) (fun _ _ h => h) (fun h => h) q fun ds s1 vs H1 m1 F F1 A r1 z => by
  split at z
  · rename_i j
    by_cases hj : -(2 ^ 62) ≤ j ∧ j < 2 ^ 62
    · rw [if_pos hj] at z
      obtain ⟨v, rfl, r2⟩ := repL1 r1
      obtain ⟨rfl, rfl⟩ := rep_int r2
      exact ⟨j, rfl, hj.1, hj.2, z _ H1 _ _ [] m1 F1 A (by unfold rng; rw [List.length_map, List.length_range]; exact walk_range) rng_ok (by simp)⟩
    · rw [if_neg hj] at z; exact (show False from z).elim
  · exact (show False from z).elim))⟩
theorem ji_r2 {p1 : Pos} (hm : X.mg "range" = none) (h : JEA X [a, b] as) (hg : Gl X "range" := by rfl) (hs : starEach [a, b] X.env = [(false, eval a X.env), (false, eval b X.env)] := by rfl) (hs2 : starEach [b] X.env = [(false, eval b X.env)] := by rfl) : JI X tg (.Call (.Name "range" p1) [a, b] [] pos) (iR2 as) := ⟨fun m F0 σ H s r R q => wi (pi_range2 hg hm paW hs hs2) (h.run m F0 σ H s r _ (APost.then (P := IPost X m F0 σ H s R) (fun _ _ h => h) (fun h => h) q fun ds s1 vs H1 m1 F F1 A r1 z => by
  split at z
  · rename_i i j
    by_cases hj : -(2 ^ 62) ≤ i ∧ i < 2 ^ 62 ∧ -(2 ^ 62) ≤ j ∧ j < 2 ^ 62
    · rw [if_pos hj] at z
      obtain ⟨v, w, Fa, Fb, rfl, rfl, r2, r3⟩ := repL2 r1
      obtain ⟨rfl, rfl⟩ := rep_int r2
      obtain ⟨rfl, rfl⟩ := rep_int r3
      exact ⟨i, j, rfl, hj, z _ H1 _ _ [] m1 F1 A (by unfold rng; rw [List.length_map, List.length_range]; exact walk_range) rng_ok (by simp)⟩
    · rw [if_neg hj] at z; exact (show False from z).elim
  · exact (show False from z).elim))⟩
end
end Dn
set_option Elab.async false
set_option linter.all false
set_option maxRecDepth 100000
set_option maxHeartbeats 4000000
/-! for, while -/
namespace Dn
open PySem PySem.Spec PyProof.Rows L2 Tr
/-- the target of a loop: one name, or several -/
inductive Ts where
  | one (i : Nat) | tup (is : List Nat)
def gAll : List Nat → TGs
  | [] => gNil
  | i :: r => gCons (gName i) (gAll r)
def gOf (K : PySem.W.Frag) : Ts → TG
  | .one i => gName i
  | .tup is => gTup K is.length (gAll is)
/-- read only, in a slot -/
def S.setB (s : S) (i : Nat) (d : D) : Option S := match s.loc[i]? with
  | some (.par _) => none
  | some _ => some { s with loc := s.loc.set i (.bor d) }
  | none => none
def S.setBs : List Nat → List D → S → Option S
  | [], [], s => some s
  | i :: is, d :: ds, s => (s.setB i d).bind (S.setBs is ds)
  | _, _, _ => none
def bindT : Ts → D → S → Option S
  | .one i, d, s => s.setB i d
  | .tup is, .tup ds, s => S.setBs is ds s
  | _, _, _ => none
section
variable {c : Ct} {m : List Addr} {H : Hp} {s s' : S} {σ : St}
theorem Rl.setB {P F1 F : List Addr} {i : Nat} {v : V} {d : D} (r : Rl c m (P, F1) σ H s) (q : Rep c m H v d F) (hF : ∀ a ∈ F, a ∉ P ++ F1) (e : s.setB i d = some s') : ∃ F1', Rl c m (P, F1') (σ.set i (some v)) H s' ∧ (∀ a ∈ F1', a ∈ F1) ∧ SX σ s (σ.set i (some v)) s' := by
  obtain ⟨A1, F2, e1, h1, h2, h3, h4⟩ := r
  have e1 : F1 = A1 ++ F2 := e1
  unfold S.setB at e
  have main : ∀ l, s.loc[i]? = some l → (∀ d, l ≠ .par d) → s' = { s with loc := s.loc.set i (.bor d) } → ∃ F1', Rl c m (P, F1') (σ.set i (some v)) H s' ∧ (∀ a ∈ F1', a ∈ F1) ∧ SX σ s (σ.set i (some v)) s' := fun l hl np es => by
    subst es
    obtain ⟨o, A, B, G, ho, hA, le, ha, hb⟩ := h1.at_ hl
    have hi : i < s.loc.length := (List.getElem?_eq_some_iff.mp hl).1
    have sub0 : ∀ a ∈ P ++ ((A ++ B) ++ F2), a ∈ P ++ F1 := fun a ha => by
      rw [e1, hA]
      simp only [List.mem_append] at ha ⊢
      rcases ha with h | ((h | h) | h) <;> simp [h]
    have ch : ∀ {ls : List Lc} {os : List (Option V)} {G : List Addr}, LR c m H (P ++ F1) ls os G → LR c m H (P ++ ((A ++ B) ++ F2)) ls os G := fun h => h.change (G := []) (kp_same (Same.refl H)) (by simp) (by simp) (fun _ _ h => h) (fun a ha => .inl (sub0 a ha)) (by simp)
    have nd : (P ++ ((A ++ B) ++ F2)).Nodup := by
      have z : (P ++ F1).Nodup := h3
      rw [e1, hA] at z
      have p : (P ++ ((A ++ (G ++ B)) ++ F2)).Perm (G ++ (P ++ ((A ++ B) ++ F2))) := by
        rw [List.perm_iff_count]; intro x; simp only [List.count_append]; omega
      exact (List.nodup_append.mp (p.nodup_iff.mp z)).2.1
    have put := LR.put (l := .bor d) (o := some v) (G := []) hi h1.len (ch ha) (.bor q fun a ha hz => hF a ha (sub0 a hz)) (ch hb)
    rw [List.nil_append] at put
    refine ⟨(A ++ B) ++ F2, ⟨A ++ B, F2, rfl, put, ch h2, nd, h4⟩, fun a z => ?_, by simp, fun j d' hd => ?_⟩
    · rw [e1, hA]
      simp only [List.mem_append] at z ⊢
      rcases z with (h | h) | h <;> simp [h]
    · obtain ⟨hj, h⟩ := set_par hd (fun d z => nomatch z)
      exact ⟨⟨d', h⟩, by rw [List.getElem?_set_ne (fun z => hj z.symm)]⟩
  split at e
  · cases e
  · rename_i l hnp hl
    cases e
    exact main l hl (fun d z => hnp d z) rfl
  · cases e
theorem gAll_run : ∀ {is : List Nat} {vs : List V} {ds : List D} {P F1 F : List Addr} {σ : St} {s s' : S} {K : St → Hp → Prop}, RepL c m H vs ds F → (∀ a ∈ F, a ∉ P ++ F1) → Rl c m (P, F1) σ H s → S.setBs is ds s = some s' → (∀ σ' F1', Rl c m (P, F1') σ' H s' → (∀ a ∈ F1', a ∈ F1) → SX σ s σ' s' → K σ' H) → gAll is vs σ H K
  | [], _, _, _, F1, _, σ, s, s', K, .nil, _, r, e, k => by
    cases e
    exact ⟨rfl, k σ F1 r (fun _ h => h) (SX.refl _ _)⟩
  | [], _, _, _, _, _, _, _, _, _, .cons _ _, _, _, e, _ => by cases e
  | _ :: _, _, _, _, _, _, _, _, _, _, .nil, _, _, e, _ => by cases e
  | i :: is, _, _, P, F1, _, σ, s, s', K, .cons (v := v) (vs := vs) (d := d) q t, hF, r, e, k => by
    rw [S.setBs] at e
    cases h1 : s.setB i d with
    | none => rw [h1] at e; cases e
    | some s1 =>
      rw [h1] at e
      obtain ⟨F1a, g1, g2, g3⟩ := r.setB q (fun a ha => hF a (by simp [ha])) h1
      refine ⟨v, vs, rfl, gAll_run (P := P) (F1 := F1a) t (fun a ha hz => hF a (by simp [ha]) ?_) g1 e fun σ' F1' h2 h3 h4 => k σ' F1' h2 (fun a ha => g2 a (h3 a ha)) (g3.trans h4)⟩
      simp only [List.mem_append] at hz ⊢
      exact hz.elim .inl fun w => .inr (g2 a w)
theorem gOf_run {T : Ts} {v : V} {d : D} {P F1 F : List Addr} {K : St → Hp → Prop} (q : Rep c m H v d F) (hF : ∀ a ∈ F, a ∉ P ++ F1) (r : Rl c m (P, F1) σ H s) (e : bindT T d s = some s') (k : ∀ σ' F1', Rl c m (P, F1') σ' H s' → (∀ a ∈ F1', a ∈ F1) → SX σ s σ' s' → K σ' H) : gOf c.K T v σ H K := by
  cases T with
  | one i =>
    obtain ⟨F1', h1, h2, h3⟩ := r.setB q hF e
    exact k _ F1' h1 h2 h3
  | tup is =>
    unfold bindT at e
    split at e
    · rename_i h; cases h
    · rename_i is' ds h
      cases h
      obtain ⟨a, xs, rfl, ha, rr⟩ := rep_tup q
      have hlen : ∀ {is : List Nat} {ds : List D} {s s' : S}, S.setBs is ds s = some s' → ds.length = is.length := by
        intro is
        induction is with
        | nil => intro ds s s' h; cases ds with
          | nil => rfl
          | cons => cases h
        | cons i is ih => intro ds s s' h; cases ds with
          | nil => cases h
          | cons d ds =>
            rw [S.setBs] at h
            cases h1 : s.setB i d with
            | none => rw [h1] at h; cases h
            | some s1 => rw [h1] at h; rw [List.length_cons, List.length_cons, ih h]
      exact ⟨a, xs, rfl, ha, by rw [rr.length]; exact hlen e, gAll_run rr hF r e k⟩
    · cases e
theorem gOf_mono {K : PySem.W.Frag} {T : Ts} {v : V} {A B : St → Hp → Prop} (h : ∀ σ H, A σ H → B σ H) : gOf K T v σ H A → gOf K T v σ H B := by
  have all : ∀ {is : List Nat} {vs : List V} {σ : St}, gAll is vs σ H A → gAll is vs σ H B := by
    intro is
    induction is with
    | nil => intro vs σ ⟨e, q⟩; exact ⟨e, h _ _ q⟩
    | cons i is ih => intro vs σ ⟨v, r, e, q⟩; exact ⟨v, r, e, ih q⟩
  cases T with
  | one i => exact h _ _
  | tup is => exact fun ⟨a, xs, e1, e2, e3, q⟩ => ⟨a, xs, e1, e2, e3, all q⟩
end
def forGo (T : Ts) (body : SV) : List D → SV
  | [], s => some (.nx s)
  | d :: r, s => match bindT T d s with
    | none => none
    | some s1 => match body s1 with
      | some (.nx s2) => forGo T body r s2
      | some (.ct s2) => forGo T body r s2
      | some (.bk s2) => some (.nx s2)
      | z => z
def sFor (T : Ts) (it : IV) (body : SV) : SV := sB it fun ds s => if ds.2 then forGo T body ds.1 s else none
section
variable {X : Cx} {e a b c o tg iter : Expr} {es rest : List Expr} {sts ps qs : List Stmt} {st : Stmt} {pos : Pos} {ea eb : EV} {ta : ET} {p q r : SV} {x : Str} {it : IV} {T : Ts}
theorem IPost.thenS {m : List Addr} {F0 : Fq} {σ : St} {H : Hp} {s : S} {f : List D × Bool → SV} {D : Ends} {R : It → Hp → Prop} (q : SPost X m F0 σ H s D (sB it f s))
    (k : ∀ ds s1 J H2 G YY Fi m1 F1, Af (ct X) m F0 H s σ [] m1 F1 H2 s1 → Walk J ds.1.length G YY → WalkOk (ct X) m1 H2 ds.1 G YY Fi → (ds.2 = true → ∀ a ∈ Fi, a ∉ F0.1 ++ F1) → SPost X m F0 σ H s D (f ds s1) → R J H2) : IPost X m F0 σ H s R (it s) := by
  unfold sB at q
  cases he : it s with
  | none => rw [he] at q; exact q
  | some z =>
    rw [he] at q
    cases z with
    | ex x s' => exact q
    | ok ds s1 => exact fun J H2 G YY Fi m1 F1 A w ok fl => k ds s1 J H2 G YY Fi m1 F1 A w ok fl q
theorem j1_for (hg : PG X tg (gOf X.K T)) (hc : X.calm = true) (hi : JI X tg iter it) (hb : JS X ps p) (hp : PassesOwn (model X.prog X.w) X.A X.env X.xe := by exact PassesOwn.never) (hs : ∀ x, foldedSetIterable iter X.env x = pure x := by intro _; rfl) : J1 X (.For tg iter ps [] pos) (sFor T it p) := ⟨fun sts m F0 σ H s rl D z => by
  refine ws_for hg hc (hi.run m F0 σ H s rl _ (IPost.thenS z fun ds s1 J H2 G YY Fi m1 F1 A w ok fl z => ?_)) hp hs
  by_cases hf : ds.2 = true
  · rw [if_pos hf] at z
    have av := fl hf
    refine for_it w (fun i σ' H' => ∃ m' F1' s', AfS (ct X) m1 (F0.1, F1) H2 s1 σ [] m' F1' H' s' σ' ∧ SPost X m1 (F0.1, F1) σ H2 s1 { D with nx := WS X sts D } (forGo T p (ds.1.drop i) s')) ⟨m1, F1, s1, ⟨Mx.refl _, by simpa using A.rl, Ext.refl _ _, SX.refl _ _⟩, by simpa using SPost.up A.s z⟩ ?_ ?_ ?_
    · rintro i σ' H' _ ⟨m', F1', s', B, _⟩
      exact ok.go F1 (fun a ha => A.rl.mut a (by simp [ha])) (fun a ha hz => av a ha (by simp [hz])) H' B.ex.kp
    · rintro i v σ' H' H'' hi' ⟨m', F1', s', B, zz⟩ hy
      obtain ⟨s4, d, F, hd, rd, hF⟩ := ok.item F1 (fun a ha => A.rl.mut a (by simp [ha])) (fun a ha hz => av a ha (by simp [hz])) i H' v H'' hi' B.ex.kp hy
      have hdrop : ds.1.drop i = d :: ds.1.drop (i + 1) := by
        have hlt : i < ds.1.length := hi'
        rw [List.drop_eq_getElem_cons hlt]
        congr 1
        rw [List.getElem?_eq_getElem hlt] at hd
        exact Option.some.inj hd
      rw [hdrop] at zz
      rw [forGo] at zz
      split at zz
      · exact (show False from zz).elim
      · rename_i s2 hbind
        have rd' : Rep (ct X) m' H'' v d F := rd.keep (F0 := []) (kp_same (Same.refl _)) (by simp) B.mx (by simp)
        have rlB : Rl (ct X) m' (F0.1, F1') σ' H'' s' := (show Rl (ct X) m' ([] ++ F0.1, F1') σ' H' s' from B.rl).same s4
        refine gOf_run rd' (fun a ha hz => ?_) rlB hbind fun σ2 F2 h1 h2 h3 => ?_
        · rcases List.mem_append.mp hz with hz | hz
          · exact av a (hF a ha) (by simp [hz])
          · rcases B.ex.sub a (by simpa using hz) with q | q
            · exact av a (hF a ha) (by simp [show a ∈ F1 from q])
            · exact (ok.mu a (hF a ha)).some q
        · have B2 : AfS (ct X) m1 (F0.1, F1) H2 s1 σ [] m' F2 H'' s2 σ2 := ⟨B.mx, h1, ⟨fun a ob e hn => s4 a ob (B.ex.kp a ob e hn), fun a ha => B.ex.sub a (by simpa using h2 a (by simpa using ha))⟩, B.sx.trans h3⟩
          refine hb.run m' (F0.1, F2) σ2 H'' s2 h1 _ ?_
          cases hbody : p s2 with
          | none => rw [hbody] at zz; exact (show False from zz).elim
          | some y =>
            rw [hbody] at zz
            cases y with
            | nx s3 => exact fun σ3 H3 m3 F3 C => ⟨m3, F3, s3, B2.trans C, zz⟩
            | ct s3 => exact fun σ3 H3 m3 F3 C => ⟨m3, F3, s3, B2.trans C, zz⟩
            | bk s3 => exact fun σ3 H3 m3 F3 C => zz σ3 H3 m3 F3 (B2.trans C)
            | rt d3 s3 => exact fun v3 σ3 H3 m3 F F3 C r3 => zz v3 σ3 H3 m3 F F3 (B2.trans C) r3
            | ex x3 s3 => exact zz
    · rintro σ' H' ⟨m', F1', s', B, zz⟩
      rw [List.drop_length, forGo] at zz
      exact zz σ' H' m' F1' B
  · rw [if_neg hf] at z; exact (show False from z).elim⟩
/-! while -/
def whGo (t : ET) (body : SV) : Nat → SV
  | 0, _ => none
  | n + 1, s => match t s with
    | some (.ok true s1) => match body s1 with
      | some (.nx s2) => whGo t body n s2
      | some (.ct s2) => whGo t body n s2
      | some (.bk s2) => some (.nx s2)
      | z => z
    | some (.ok false s1) => some (.nx s1)
    | some (.ex x s1) => some (.ex x s1)
    | none => none
theorem whGo_mono {t : ET} {body : SV} : ∀ {n m : Nat} {s : S} {z : Fl}, whGo t body n s = some z → n ≤ m → whGo t body m s = some z
  | 0, _, _, _, h, _ => by cases h
  | n + 1, 0, _, _, _, h => by omega
  | n + 1, m + 1, s, z, h, hm => by
    rw [whGo] at h ⊢
    split at h
    · split at h
      · exact whGo_mono h (by omega)
      · exact whGo_mono h (by omega)
      · exact h
      · exact h
    · exact h
    · exact h
    · cases h
open Classical in
noncomputable def sWhile (t : ET) (body : SV) : SV := fun s => if h : ∃ n z, whGo t body n s = some z then some (Classical.choose (Classical.choose_spec h)) else none
theorem sWhile_of {t : ET} {body : SV} {n : Nat} {s : S} {z : Fl} (h : whGo t body n s = some z) : sWhile t body s = some z := by
  have hx : ∃ n z, whGo t body n s = some z := ⟨n, z, h⟩
  unfold sWhile
  rw [dif_pos hx]
  have hs := Classical.choose_spec (Classical.choose_spec hx)
  have h1 := whGo_mono h (Nat.le_max_left n (Classical.choose hx))
  have h2 := whGo_mono hs (Nat.le_max_right n (Classical.choose hx))
  rw [h1] at h2
  rw [Option.some.inj h2]
theorem sWhile_inv {t : ET} {body : SV} {s : S} {z : Fl} (h : sWhile t body s = some z) : ∃ n, whGo t body n s = some z := by
  unfold sWhile at h
  split at h
  · rename_i hx
    exact ⟨_, (Classical.choose_spec (Classical.choose_spec hx)).trans h⟩
  · cases h
theorem j1_while (ht : JTE X c ta) (hb : JS X ps p) (hp : PassesOwn (model X.prog X.w) X.A X.env X.xe := by exact PassesOwn.never) : J1 X (.While c ps [] pos) (sWhile ta p) := ⟨fun sts m F0 σ H s rl D z => by
  refine ws_while ?_ hp
  cases hz : sWhile ta p s with
  | none => rw [hz] at z; exact (show False from z).elim
  | some y =>
    rw [hz] at z
    obtain ⟨n, hn⟩ := sWhile_inv hz
    refine ⟨fun k σ' H' => ∃ m' F1' s', AfS (ct X) m F0 H s σ [] m' F1' H' s' σ' ∧ whGo ta p k s' = some y, ⟨n, m, F0.2, s, ⟨Mx.refl _, rl, Ext.refl _ _, SX.refl _ _⟩, hn⟩, ?_⟩
    rintro k σ' H' ⟨m', F1', s', B, hk⟩
    cases k with
    | zero => cases hk
    | succ k =>
      rw [whGo] at hk
      refine ht.run m' (F0.1, F1') σ' H' s' B.rl _ ?_
      cases hts : ta s' with
      | none => rw [hts] at hk; cases hk
      | some w =>
        rw [hts] at hk
        cases w with
        | ex x2 s2 =>
          simp only at hk
          have : y = .ex x2 s2 := (Option.some.inj hk).symm
          subst this
          exact z
        | ok bb s1 =>
          intro H1 m1 F2 A
          have B1 := B.trans A.s
          cases bb with
          | false =>
            have : y = .nx s1 := (Option.some.inj hk).symm
            subst this
            exact iteF (z σ' H1 m1 F2 B1)
          | true =>
            simp only at hk
            refine iteT ⟨fun σ3 H3 => ∃ m3 F3 s3, AfS (ct X) m F0 H s σ [] m3 F3 H3 s3 σ3 ∧ whGo ta p k s3 = some y, fun σ3 H3 h => ⟨k, by omega, h⟩, hb.run m1 _ σ' H1 s1 A.rl _ ?_⟩
            cases hbody : p s1 with
            | none => rw [hbody] at hk; cases hk
            | some u =>
              rw [hbody] at hk
              cases u with
              | nx s3 => exact fun σ3 H3 m3 F3 C => ⟨m3, F3, s3, B1.trans C, hk⟩
              | ct s3 => exact fun σ3 H3 m3 F3 C => ⟨m3, F3, s3, B1.trans C, hk⟩
              | bk s3 =>
                have : y = .nx s3 := (Option.some.inj hk).symm
                subst this
                exact fun σ3 H3 m3 F3 C => z σ3 H3 m3 F3 (B1.trans C)
              | rt d3 s3 =>
                have : y = .rt d3 s3 := (Option.some.inj hk).symm
                subst this
                exact fun v3 σ3 H3 m3 F F3 C r3 => z v3 σ3 H3 m3 F F3 (B1.trans C) r3
              | ex x3 s3 =>
                have : y = .ex x3 s3 := (Option.some.inj hk).symm
                subst this
                exact z⟩
end
end Dn
set_option Elab.async false
set_option linter.all false
set_option maxRecDepth 100000
set_option maxHeartbeats 4000000
/-! comprehensions -/
namespace Dn
open PySem PySem.Spec PyProof.Rows L2 Tr
/-- the block's own slots forgotten -/
def S.unb : List Nat → S → Option S
  | [], s => some s
  | i :: r, s => match s.unb r with
    | some s1 => match s1.loc[i]? with
      | some (.bor _) => some { s1 with loc := s1.loc.set i .no }
      | some .no => some { s1 with loc := s1.loc.set i .no }
      | _ => none
    | none => none
def lcGo (vs : List Nat) (T : Ts) (cond : ET) (elt : EV) : List D → List D → S → Option (Res (List D))
  | [], acc, s => some (.ok acc s)
  | d :: r, acc, s => match bindT T d s with
    | none => none
    | some s1 => match cond s1 with
      | some (.ok true s2) => match elt s2 with
        | some (.ok x s3) => match s3.unb vs with
          | some s4 => if szOk acc.length then lcGo vs T cond elt r (acc ++ [x]) s4 else none
          | none => none
        | _ => none
      | some (.ok false s2) => match s2.unb vs with
        | some s4 => lcGo vs T cond elt r acc s4
        | none => none
      | _ => none
def eLc (vs : List Nat) (T : Ts) (it : IV) (cond : ET) (elt : EV) : EV := eB it fun ds s => if ds.2 then match s.unb vs with
    | some s1 => match lcGo vs T cond elt ds.1 [] s1 with
      | some (.ok acc s2) => some (.ok (.lst acc) s2)
      | _ => none
    | none => none
  else none
def tYes' : ET := fun s => some (.ok true s)
section
variable {c : Ct} {m : List Addr} {H : Hp} {s s' : S} {σ : St}
theorem Rl.setNo {P F1 : List Addr} {i : Nat} {o : Option V} (r : Rl c m (P, F1) σ H s) (e : (∃ d, s.loc[i]? = some (.bor d)) ∨ s.loc[i]? = some .no) : Rl c m (P, F1) (σ.set i o) H { s with loc := s.loc.set i .no } := by
  obtain ⟨A1, F2, e1, h1, h2, h3, h4⟩ := r
  have main : ∀ l, s.loc[i]? = some l → (∀ {ov G}, LE c m H (P ++ F1) l ov G → G = []) → LR c m H (P ++ F1) (s.loc.set i .no) (σ.set i o) A1 := fun l hl hG => by
    obtain ⟨ov, A, B, G, ho, hA, le, ha, hb⟩ := h1.at_ hl
    have g0 := hG le
    subst g0
    subst hA
    exact LR.put (G := []) (List.getElem?_eq_some_iff.mp hl).1 h1.len ha (.no o) hb
  refine ⟨A1, F2, e1, ?_, h2, h3, h4⟩
  rcases e with ⟨d, e⟩ | e
  · exact main _ e fun le => by cases le; rfl
  · exact main _ e fun le => by cases le; rfl
theorem Rl.unb {P F1 : List Addr} : ∀ {vs : List Nat} {s s' : S}, Rl c m (P, F1) σ H s → s.unb vs = some s' → Rl c m (P, F1) (wipe σ vs) H s'
  | [], s, s', r, e => by cases e; exact r
  | i :: vs, s, s', r, e => by
    unfold S.unb at e
    split at e
    · rename_i s1 h1
      have r1 := Rl.unb r h1
      split at e
      · rename_i d hd
        cases e
        exact r1.setNo (.inl ⟨d, hd⟩)
      · rename_i hd
        cases e
        exact r1.setNo (.inr hd)
      · cases e
    · cases e
theorem unb_no : ∀ {vs : List Nat} {s s' : S}, s.unb vs = some s' → ∀ i ∈ vs, s'.loc[i]? = some .no
  | [], _, _, _, i, h => by simp at h
  | j :: vs, s, s', e, i, h => by
    unfold S.unb at e
    split at e
    · rename_i s1 h1
      have ih := unb_no h1
      have fin : ∀ l, s1.loc[j]? = some l → s' = { s1 with loc := s1.loc.set j .no } → s'.loc[i]? = some .no := fun l hl es => by
        subst es
        show (s1.loc.set j .no)[i]? = some .no
        have hj : j < s1.loc.length := (List.getElem?_eq_some_iff.mp hl).1
        by_cases hij : j = i
        · subst hij; rw [List.getElem?_set_self hj]
        · rw [List.getElem?_set_ne hij]
          exact ih i ((List.mem_cons.mp h).resolve_left fun z => hij z.symm)
      split at e
      · rename_i d hd; cases e; exact fin _ hd rfl
      · rename_i hd; cases e; exact fin _ hd rfl
      · cases e
    · cases e
theorem unb_px : ∀ {vs : List Nat} {s s' : S}, s.unb vs = some s' → PX s s'
  | [], _, _, e => by cases e; exact PX.refl _
  | j :: vs, s, s', e => by
    unfold S.unb at e
    split at e
    · rename_i s1 h1
      have ih := unb_px h1
      split at e
      · cases e; exact ih.trans PX.no
      · cases e; exact ih.trans PX.no
      · cases e
    · cases e
theorem wipe_get {vs : List Nat} {i : Nat} (h : i ∉ vs) : (wipe σ vs)[i]? = σ[i]? := by
  induction vs with
  | nil => rfl
  | cons j vs ih =>
    show ((wipe σ vs).set j none)[i]? = _
    rw [List.getElem?_set_ne (fun z => h (by simp [z])), ih (fun z => h (by simp [z]))]
theorem wipe_in : ∀ {vs : List Nat} {i : Nat}, i ∈ vs → i < σ.length → (wipe σ vs)[i]? = some none
  | [], i, h, _ => by simp at h
  | j :: vs, i, h, hl => by
    show ((wipe σ vs).set j none)[i]? = _
    by_cases hij : j = i
    · subst hij; rw [List.getElem?_set_self (by rw [wipe_length]; exact hl)]
    · rw [List.getElem?_set_ne hij]
      exact wipe_in ((List.mem_cons.mp h).resolve_left fun z => hij z.symm) hl
theorem wipe_ext {σ1 σ2 : St} {vs : List Nat} (hl : σ1.length = σ2.length) (h : ∀ i : Nat, i ∉ vs → σ1[i]? = σ2[i]?) : wipe σ1 vs = wipe σ2 vs := by
  refine List.ext_getElem? fun i => ?_
  by_cases hi : i ∈ vs
  · by_cases hlt : i < σ1.length
    · rw [wipe_in hi hlt, wipe_in hi (by omega)]
    · rw [List.getElem?_eq_none (by rw [wipe_length]; omega), List.getElem?_eq_none (by rw [wipe_length]; omega)]
  · rw [wipe_get hi, wipe_get hi, h i hi]
/-- the block's slots are not known: the def's own are as they were -/
theorem LR.unwipe {Av : List Addr} : ∀ {ls : List Lc} {os os' : List (Option V)} {F : List Addr}, LR c m H Av ls os F → os.length = os'.length → (∀ (i : Nat) l, ls[i]? = some l → l ≠ .no → os'[i]? = os[i]?) → LR c m H Av ls os' F
  | _, _, [], _, .nil, _, _ => .nil
  | _, _, _ :: _, _, .nil, h, _ => by cases h
  | _, _, [], _, .cons _ _, h, _ => by cases h
  | l :: ls, o :: os, o' :: os', _, .cons e t, hl, hp => by
    have t' := LR.unwipe (os' := os') t (by simpa using hl) (fun i l h1 h2 => by simpa using hp (i + 1) l (by simpa using h1) h2)
    by_cases hn : l = .no
    · subst hn
      cases e
      exact .cons (.no _) t'
    · have : o' = o := by simpa using hp 0 l rfl hn
      subst this
      exact .cons e t'
theorem Rl.unwipe {P F1 : List Addr} {vs : List Nat} (r : Rl c m (P, F1) (wipe σ vs) H s) (h : ∀ i ∈ vs, s.loc[i]? = some .no) : Rl c m (P, F1) σ H s := by
  obtain ⟨A1, F2, e1, h1, h2, h3, h4⟩ := r
  refine ⟨A1, F2, e1, h1.unwipe (by rw [wipe_length]) (fun i l hl hn => ?_), h2, h3, h4⟩
  rw [wipe_get]
  intro hi
  rw [h i hi] at hl
  cases hl
  exact hn rfl
/-- targets among the block's own slots -/
def Ts.inn : Ts → List Nat → Bool
  | .one i, vs => decide (i ∈ vs)
  | .tup is, vs => is.all fun i => decide (i ∈ vs)
theorem gOf_wipe {K : PySem.W.Frag} {T : Ts} {vs : List Nat} {v : V} {A : St → Hp → Prop} (hT : T.inn vs = true) : gOf K T v σ H A → gOf K T v σ H fun σ2 H2 => wipe σ2 vs = wipe σ vs ∧ A σ2 H2 := by
  have one : ∀ {σ : St} {i : Nat} {o : Option V}, i ∈ vs → wipe (σ.set i o) vs = wipe σ vs := fun hi => wipe_ext (by simp) fun j hj => List.getElem?_set_ne fun z => hj (by rw [← z]; exact hi)
  have all : ∀ {is : List Nat} {us : List V} {σ : St}, (is.all fun i => decide (i ∈ vs)) = true → gAll is us σ H A → gAll is us σ H fun σ2 H2 => wipe σ2 vs = wipe σ vs ∧ A σ2 H2 := by
    intro is
    induction is with
    | nil => intro us σ _ ⟨e, q⟩; exact ⟨e, rfl, q⟩
    | cons i is ih =>
      intro us σ h ⟨v, r, e, q⟩
      rw [List.all_cons, Bool.and_eq_true] at h
      have hi : i ∈ vs := of_decide_eq_true h.1
      have := ih h.2 q
      rw [one hi] at this
      exact ⟨v, r, e, this⟩
  cases T with
  | one i => exact fun q => ⟨one (of_decide_eq_true hT), q⟩
  | tup is => exact fun ⟨a, xs, e1, e2, e3, q⟩ => ⟨a, xs, e1, e2, e3, all hT q⟩
theorem gOf_wipe2 {K : PySem.W.Frag} {T : Ts} {vs : List Nat} {v : V} {A : St → Hp → Prop} {W : St} (hT : T.inn vs = true) (ww : wipe σ vs = W) (h : gOf K T v σ H fun σ2 H2 => wipe σ2 vs = W → A σ2 H2) : gOf K T v σ H fun σ2 H2 => wipe σ2 vs = W ∧ A σ2 H2 :=
  gOf_mono (fun σ2 H5 h => ⟨h.1.trans ww, h.2 (h.1.trans ww)⟩) (gOf_wipe hT h)
end
/-- in a comprehension's block, whatever its frame -/
def JEb (X : Cx) (sc : Scope) (e : Expr) (p : EV) : Prop := ∀ (s : Shared) (H0 : Hp) (C : Addr) (cl : List (Str × Addr)) (fp : List Addr), JE (X.blk s H0 sc (compEnvC sc cl C X.env) fp) e p
def JTb (X : Cx) (sc : Scope) (es : List Expr) (p : ET) : Prop := match es with
  | [] => p = tYes'
  | [e] => ∀ (s : Shared) (H0 : Hp) (C : Addr) (cl : List (Str × Addr)) (fp : List Addr), JTE (X.blk s H0 sc (compEnvC sc cl C X.env) fp) e p
  | _ => False
section
variable {X : Cx} {e a b o tg iter elt : Expr} {es rest ifs : List Expr} {pos : Pos} {x y : Str} {ee : EV} {it : IV} {tc : ET} {T : Ts} {sc : Scope} {vs : List Nat}
theorem jtb_run {m : List Addr} {F0 : Fq} {σ : St} {H : Hp} {s : S} (h : JTb X sc ifs tc) (r : Rl (ct X) m F0 σ H s) {Q : Bool → Hp → Prop} (q : match tc s with
    | some (.ok b s') => ∀ H' m' F1, Af (ct X) m F0 H s σ [] m' F1 H' s' → Q b H'
    | _ => False) : BTs X sc ifs σ H Q := by
  match ifs, h with
  | [], h =>
    have h : tc = tYes' := h
    subst h
    exact q H m F0.2 (Af.same r (Same.refl _))
  | [e], h =>
    refine fun s' H0 C cl fp => (h s' H0 C cl fp).run m F0 σ H s r Q ?_
    cases ht : tc s with
    | none => rw [ht] at q; exact q.elim
    | some z =>
      rw [ht] at q
      cases z with
      | ok b s1 => exact q
      | ex x s1 => exact q.elim
  | _ :: _ :: _, h => exact (show False from h).elim
theorem write_hand {c : Ct} {m : List Addr} {H : Hp} {s : S} {σ : St} {L : Addr} {acc : List V} {ds : List D} {x : D} {y : V} {Fa Fy P F1 : List Addr} (r : Rl c m (Fy ++ ((L :: Fa) ++ P), F1) σ H s) (hL : H L = some (.lst acc)) (ra : RepL c m H acc ds Fa) (ry : Rep c m H y x Fy) :
    Rl c m ((L :: (Fa ++ Fy)) ++ P, F1) σ (upd H L (.lst (acc ++ [y]))) s ∧ RepL c m (upd H L (.lst (acc ++ [y]))) (acc ++ [y]) (ds ++ [x]) (Fa ++ Fy) := by
  have nd : ((Fy ++ ((L :: Fa) ++ P)) ++ F1).Nodup := r.nd
  have perm : ((Fy ++ ((L :: Fa) ++ P)) ++ F1).Perm (((L :: (Fa ++ Fy)) ++ P) ++ F1) := by
    rw [List.perm_iff_count]; intro x; simp only [List.count_append, List.count_cons]; omega
  have nd2 := perm.nodup_iff.mp nd
  have hLn : L ∉ Fa ++ Fy ++ P ++ F1 := by
    have := List.nodup_cons.mp (show (L :: ((Fa ++ Fy) ++ P ++ F1)).Nodup by simpa using nd2)
    simpa using this.1
  have kp : Kp [L] H (upd H L (.lst (acc ++ [y]))) := kp_upd (Same.refl _) (by simp)
  have mu : ∀ a ∈ [L], MutAt H a := fun a ha => by
    have : a = L := by simpa using ha
    subst this
    exact ⟨_, hL, rfl⟩
  have nL : ∀ {G : List Addr}, (∀ a ∈ G, a ∈ Fa ++ Fy ++ P ++ F1) → ∀ a ∈ G, a ∉ [L] := fun h a ha hz => by
    have : a = L := by simpa using hz
    subst this
    exact hLn (h a ha)
  obtain ⟨B1, B2, e1, h1, h2, h3, h4⟩ := r
  have e1 : F1 = B1 ++ B2 := e1
  have sub : ∀ a ∈ ((L :: (Fa ++ Fy)) ++ P) ++ F1, a ∈ (Fy ++ ((L :: Fa) ++ P)) ++ F1 ∨ H a = none := fun a ha => .inl (perm.mem_iff.mpr ha)
  have hin : ∀ a ∈ [L], a ∈ (Fy ++ ((L :: Fa) ++ P)) ++ F1 := fun a ha => by
    have : a = L := by simpa using ha
    subst this
    simp
  refine ⟨⟨B1, B2, e1, h1.change kp mu hin (fun _ _ h => h) sub (nL fun a ha => by simp [e1, ha]), h2.change kp mu hin (fun _ _ h => h) sub (nL fun a ha => by simp [e1, ha]), nd2, fun a ha => ?_⟩, ?_⟩
  · by_cases haL : a = L
    · subst haL; exact ⟨_, upd_same, rfl⟩
    · obtain ⟨ob, e5, e6⟩ := h4 a (by
        have ha : a ∈ (L :: (Fa ++ Fy)) ++ P := ha
        show a ∈ Fy ++ ((L :: Fa) ++ P)
        simp only [List.mem_append, List.mem_cons] at ha ⊢
        rcases ha with (h | h | h) | h <;> simp [h])
      exact ⟨ob, by rw [upd_ne haL]; exact e5, e6⟩
  · exact (ra.append (RepL.one ry)).keep kp mu (fun _ _ h => h) (nL fun a ha => by
      simp only [List.mem_append] at ha ⊢
      rcases ha with h | h <;> simp [h])
/-- the reading of a comprehension -/
theorem lc_run (hi : JI X tg iter it) (hT : T.inn vs = true) (ht : JTb X sc ifs tc) (he : JEb X sc elt ee) {m : List Addr} {F0 : Fq} {σ : St} {H : Hp} {s : S} (r : Rl (ct X) m F0 σ H s) {Q : VK} (q : EPost X m F0 σ H s Q (eLc vs T it tc ee s)) :
    tLc (WI X tg iter) (gOf X.K T) (BTs X sc ifs) (BE X sc elt) vs σ H Q := by
  refine hi.run m F0 σ H s r _ ?_
  unfold eLc eB at q
  cases hit : it s with
  | none => rw [hit] at q; exact (show False from q).elim
  | some z =>
    rw [hit] at q
    cases z with
    | ex x s1 => exact q
    | ok ds s1 =>
      intro J H2 G YY Fi m1 F1 A w ok fl
      simp only at q
      by_cases hf : ds.2 = true
      · rw [if_pos hf] at q
        have av := fl hf
        cases hu : s1.unb vs with
        | none => rw [hu] at q; exact (show False from q).elim
        | some s2 =>
          rw [hu] at q
          simp only at q
          have rA : Rl (ct X) m1 (F0.1, F1) σ H2 s1 := A.rl
          intro L hL
          have hLav : ∀ a ∈ F0.1 ++ F1, a ≠ L := fun a ha z => by subst z; exact (rA.mut a ha).some hL
          -- the invariant
          refine lc_it w (fun i H3 => ∃ m' F1' s' acc vals Fa, Mx m1 m' ∧ Rl (ct X) m' ((L :: Fa) ++ F0.1, F1') (wipe σ vs) H3 s' ∧ Ext F1 H2 ((L :: Fa) ++ F1') H3 ∧ PX s1 s' ∧ (∀ j ∈ vs, s'.loc[j]? = some .no) ∧ H3 L = some (.lst vals) ∧ RepL (ct X) m' H3 vals acc Fa ∧
              EPost X m F0 σ H s Q (match lcGo vs T tc ee (ds.1.drop i) acc s' with
                | some (.ok acc s2) => some (.ok (.lst acc) s2)
                | _ => none)) ?_ ?_ ?_ ?_
          · refine ⟨m1, F1, s2, [], [], [], Mx.refl _, ?_, ⟨kp_same (same_new hL), fun a ha => ?_⟩, unb_px hu, unb_no hu, upd_same, .nil, by simpa using q⟩
            · refine Rl.hand (rA.unb hu) (same_new hL) ?_ fun a ha => ?_
              · show (L :: (F0.1 ++ F1)).Nodup
                exact List.nodup_cons.mpr ⟨fun z => hLav L z rfl, rA.nd⟩
              · rcases List.mem_append.mp ha with h | h
                · have : a = L := by simpa using h
                  subst this; exact ⟨.inr hL, _, upd_same, rfl⟩
                · exact ⟨.inl h, (rA.mut a (by simp [h])).same (same_new hL)⟩
            · rcases List.mem_append.mp ha with h | h
              · have : a = L := by simpa using h
                subst this; exact .inr hL
              · exact .inl h
          · rintro i H3 _ ⟨m', F1', s', acc, vals, Fa, hm, rl, ex, px, hno, hl, ra, z⟩
            exact ok.go F1 (fun a ha => rA.mut a (by simp [ha])) (fun a ha hz => av a ha (by simp [hz])) H3 ex.kp
          · rintro i v H3 H4 hi' ⟨m', F1', s', acc, vals, Fa, hm, rl, ex, px, hno, hl, ra, z⟩ hy
            obtain ⟨s4, d, F, hd, rd, hF⟩ := ok.item F1 (fun a ha => rA.mut a (by simp [ha])) (fun a ha hz => av a ha (by simp [hz])) i H3 v H4 hi' ex.kp hy
            have hdrop : ds.1.drop i = d :: ds.1.drop (i + 1) := by
              have hlt : i < ds.1.length := hi'
              rw [List.drop_eq_getElem_cons hlt]
              congr 1
              rw [List.getElem?_eq_getElem hlt] at hd
              exact Option.some.inj hd
            rw [hdrop, lcGo] at z
            have rd' : Rep (ct X) m' H4 v d F := rd.keep (F0 := []) (kp_same (Same.refl _)) (by simp) hm (by simp)
            cases hb : bindT T d s' with
            | none => rw [hb] at z; exact (show False from z).elim
            | some s5 =>
              rw [hb] at z
              simp only at z
              have hFav : ∀ a ∈ F, a ∉ ((L :: Fa) ++ F0.1) ++ F1' := fun a ha hz => by
                have old : ∀ b, b ∈ (L :: Fa) ++ F1' → b ∈ Fi → False := fun b hb hbi => (ex.sub b hb).elim (fun q => av b hbi (by simp [q])) fun q => (ok.mu b hbi).some q
                simp only [List.mem_append] at hz
                rcases hz with (h | h) | h
                · exact old a (by simp only [List.mem_append]; exact .inl h) (hF a ha)
                · exact av a (hF a ha) (by simp [h])
                · exact old a (by simp [h]) (hF a ha)
              have ww : wipe (wipe σ vs) vs = wipe σ vs := wipe_ext (wipe_length _ _) fun j hj => wipe_get hj
              refine gOf_wipe2 hT ww (gOf_run (c := ct X) (T := T) rd' hFav (rl.same s4) hb fun σ2 F2 g1 g2 g3 hw => ?_)
              · refine jtb_run ht g1 ?_
                have keepEx : ∀ {Fz Hz}, Ext F2 H4 Fz Hz → (∀ a ∈ Fz, a ∈ F2 ∨ H4 a = none) → True := fun _ _ => trivial
                have kpAll : Kp F1 H2 H4 := fun a ob e hn => s4 a ob (ex.kp a ob e hn)
                have sub2 : ∀ a ∈ (L :: Fa) ++ F2, a ∈ F1 ∨ H2 a = none := fun a ha => by
                  rcases List.mem_append.mp ha with h | h
                  · exact ex.sub a (by simp only [List.mem_append]; exact .inl h)
                  · exact ex.sub a (by simp [g2 a h])
                have fresh4 : ∀ a, H4 a = none → a ∈ F1 ∨ H2 a = none := fun a ha => by
                  cases e : H2 a with
                  | none => exact .inr rfl
                  | some ob =>
                    by_cases hz : a ∈ F1
                    · exact .inl hz
                    · rw [kpAll a ob e hz] at ha; cases ha
                have kp2 : ∀ {Hz}, Kp F2 H4 Hz → Kp F1 H2 Hz := fun k a ob e hn => k a ob (kpAll a ob e hn) fun hz => (ex.sub a (by simp [g2 a hz])).elim hn fun q => by rw [e] at q; cases q
                have px2 : PX s1 s5 := fun j d' hj => by obtain ⟨⟨d2, h2⟩, _⟩ := g3.2 j d' hj; exact px j d2 h2
                cases hc : tc s5 with
                | none => rw [hc] at z; exact (show False from z).elim
                | some zc =>
                  rw [hc] at z
                  cases zc with
                  | ex x6 s6 => exact (show False from z).elim
                  | ok bb s6 =>
                    intro H5 m5 F5 A5
                    have A5r : Rl (ct X) m5 ((L :: Fa) ++ F0.1, F5) σ2 H5 s6 := A5.rl
                    have ra5 : RepL (ct X) m5 H5 vals acc Fa := A5.repL g1 (ra.same s4) (fun a ha => by simp [ha])
                    have hl5 : H5 L = some (.lst vals) := A5.ex.kp L _ (s4 _ _ hl) fun hz => by
                      have nd : (((L :: Fa) ++ F0.1) ++ F2).Nodup := g1.nd
                      exact (List.nodup_append.mp nd).2.2 L (by simp) L hz rfl
                    have sub5 : ∀ a ∈ F5, a ∈ F1 ∨ H2 a = none := fun a ha => (A5.ex.sub a (by simp [ha])).elim (fun q => sub2 a (by simp [q])) (fresh4 a)
                    cases bb with
                    | false =>
                      simp only at z
                      refine iteF ?_
                      cases hu6 : s6.unb vs with
                      | none => rw [hu6] at z; exact (show False from z).elim
                      | some s7 =>
                        rw [hu6] at z
                        have rl7 := A5r.unb hu6
                        rw [hw] at rl7
                        refine ⟨m5, F5, s7, acc, vals, Fa, hm.trans A5.mx, rl7, ⟨kp2 A5.ex.kp, fun a ha => ?_⟩, (px2.trans A5.px).trans (unb_px hu6), unb_no hu6, hl5, ra5, z⟩
                        rcases List.mem_append.mp ha with h | h
                        · exact sub2 a (by simp only [List.mem_append]; exact .inl h)
                        · exact sub5 a h
                    | true =>
                      simp only at z
                      refine iteT fun sh H0 C cl fp => (he sh H0 C cl fp).run m5 _ σ2 H5 s6 A5r _ ?_
                      cases hee : ee s6 with
                      | none => rw [hee] at z; exact (show False from z).elim
                      | some ze =>
                        rw [hee] at z
                        cases ze with
                        | ex x7 s7 => exact (show False from z).elim
                        | ok x7 s7 =>
                          intro y H6 m6 Fy F6 A6 ry
                          simp only at z
                          cases hu7 : s7.unb vs with
                          | none => rw [hu7] at z; exact (show False from z).elim
                          | some s8 =>
                            rw [hu7] at z
                            simp only at z
                            by_cases hz : szOk acc.length = true
                            · rw [if_pos hz] at z
                              have ra6 : RepL (ct X) m6 H6 vals acc Fa := A6.repL A5r ra5 (fun a ha => by simp [ha])
                              have hl6 : H6 L = some (.lst vals) := A6.ex.kp L _ hl5 fun hz => by
                                have nd : (((L :: Fa) ++ F0.1) ++ F5).Nodup := A5r.nd
                                exact (List.nodup_append.mp nd).2.2 L (by simp) L hz rfl
                              have A6r : Rl (ct X) m6 (Fy ++ ((L :: Fa) ++ F0.1), F6) (wipe σ2 vs) H6 s8 := A6.rl.unb hu7
                              rw [hw] at A6r
                              obtain ⟨w1, w2⟩ := write_hand A6r hl6 ra6 ry
                              have fresh5 : ∀ a, H5 a = none → a ∈ F1 ∨ H2 a = none := fun a ha => by
                                cases e : H4 a with
                                | none => exact fresh4 a e
                                | some ob =>
                                  by_cases hz : a ∈ F2
                                  · exact sub2 a (by simp [hz])
                                  · rw [A5.ex.kp a ob e hz] at ha; cases ha
                              have sub6 : ∀ a ∈ Fy ++ F6, a ∈ F1 ∨ H2 a = none := fun a ha => (A6.ex.sub a ha).elim (sub5 a) (fresh5 a)
                              refine ⟨vals, hl6, szOk_lt (by rw [ra6.length]; exact hz), m6, F6, s8, acc ++ [x7], vals ++ [y], Fa ++ Fy, (hm.trans A5.mx).trans A6.mx, w1, ⟨fun a ob e hn => ?_, fun a ha => ?_⟩, ((px2.trans A5.px).trans A6.px).trans (unb_px hu7), unb_no hu7, upd_same, w2, z⟩
                              · have haL : a ≠ L := fun q => by subst q; rw [e] at hL; cases hL
                                rw [upd_ne haL]
                                refine A6.ex.kp a ob (kp2 A5.ex.kp a ob e hn) fun hz => ?_
                                exact (sub5 a hz).elim hn fun q => by rw [e] at q; cases q
                              · have ha : a ∈ (L :: (Fa ++ Fy)) ++ F6 := ha
                                simp only [List.mem_append, List.mem_cons] at ha
                                rcases ha with (h | h | h) | h
                                · exact sub2 a (by simp [h])
                                · exact sub2 a (by simp [h])
                                · exact sub6 a (by simp [h])
                                · exact sub6 a (by simp [h])
                            · rw [if_neg hz] at z; exact (show False from z).elim
          · rintro H3 ⟨m', F1', s', acc, vals, Fa, hm, rl, ex, px, hno, hl, ra, z⟩
            rw [List.drop_length, lcGo] at z
            refine z (.ref L) H3 m' (L :: Fa) F1' ?_ (.lst hl ra)
            have := A.trans (F := []) (G := L :: Fa) (H2 := H3) (m2 := m') (F2 := F1') (s2 := s') ⟨hm, by simpa using rl.unwipe hno, ex, px⟩
            simpa using this
      · rw [if_neg hf] at q; exact (show False from q).elim
theorem je_lc (own : List (Str × Nat)) (hc : X.calm = true) (hN : X.N.Nodup) (ok : BlkOk X.N X.env.scope sc own) (hg : ∀ (s : Shared) (H : Hp) (C : Addr) (cl : List (Str × Addr)) (fp : List Addr), PG (X.blk s H sc (compEnvC sc cl C X.env) fp) tg (gOf X.K T))
    (hi : JI X tg iter it) (ht : JTb X sc ifs tc) (he : JEb X sc elt ee) (hT : T.inn (own.map (·.2)) = true := by rfl) (hs : ∀ x, foldedSetIterable iter X.env x = pure x := by intro _; rfl) : JE X (.ListComp elt [⟨tg, iter, ifs, 0⟩] sc pos) (eLc (own.map (·.2)) T it tc ee) :=
  ⟨fun m F0 σ H s r Q q => w_lc own hc hN ok hg (lc_run hi hT ht he r q) hs⟩
/-- y = [.. for ..] -/
theorem j1_setLc {i : Nat} {py pos2 : Pos} (own : List (Str × Nat)) (hc : X.calm = true) (hN : X.N.Nodup) (ok : BlkOk X.N X.env.scope sc own) (hg : ∀ (s : Shared) (H : Hp) (C : Addr) (cl : List (Str × Addr)) (fp : List Addr), PG (X.blk s H sc (compEnvC sc cl C X.env) fp) tg (gOf X.K T))
    (hi : JI X tg iter it) (ht : JTb X sc ifs tc) (he : JEb X sc elt ee) (hT : T.inn (own.map (·.2)) = true := by rfl) (hsw : swapsWith (.ListComp elt [⟨tg, iter, ifs, 0⟩] sc pos2) (some (.Name y py)) pos.line X.env = pure true := by rfl)
    (hni : X.N[i]? = some y := by rfl) (hy : X.env.scope.names.lookup y = some .local := by rfl) (hs : ∀ x, foldedSetIterable iter X.env x = pure x := by intro _; rfl) :
    J1 X (.Assign [.Name y py] (.ListComp elt [⟨tg, iter, ifs, 0⟩] sc pos2) pos) (sSet i (eLc (own.map (·.2)) T it tc ee)) :=
  ⟨fun sts m F0 σ H s r D z => ws_lc (i := i) own hc hN ok hg hsw (lc_run hi hT ht he r (set_post z)) hni hy hs⟩
end
end Dn
set_option Elab.async false
set_option linter.all false
set_option maxRecDepth 100000
set_option maxHeartbeats 4000000
/-! enumerate, zip, unpacking, tables -/
namespace Dn
open PySem PySem.Spec PyProof.Rows L2 Tr
section
variable {X : Cx} {e a b o tg iter elt : Expr} {es rest ifs : List Expr} {sts ps qs : List Stmt} {pos : Pos} {x y z : Str} {ea eb : EV} {p pa pb : PV}
/-- what can be walked beside others -/
theorem src_of {m : List Addr} {H : Hp} {v : V} {d : D} {ds : List D} {F : List Addr} (r : Rep (ct X) m H v d F) (hi : d.items = some ds) :
    ∃ (c : Src) (xs : List V) (G : List Addr), c.v = v ∧ c.has X.K H xs ∧ RepL (ct X) m H xs ds G ∧ (∀ a ∈ G, a ∈ F) ∧ ∀ Fx, (∀ a ∈ Fx, MutAt H a) → (∀ a ∈ F, a ∉ Fx) → ∀ H3, Kp Fx H H3 → c.has X.K H3 xs := by
  unfold D.items at hi
  split at hi
  · cases hi
    obtain ⟨a, xs, G, rfl, rfl, ha, rr⟩ := rep_lst r
    exact ⟨.lst a, xs, G, rfl, SqL.of ha, rr, fun b hb => by simp [hb], fun Fx hm hd H3 kp => SqL.of (kp a _ ha (hd a (by simp)))⟩
  · cases hi
    obtain ⟨a, xs, rfl, ha, rr⟩ := rep_tup r
    exact ⟨.tup a, xs, F, rfl, ha, rr, fun b hb => hb, fun Fx hm hd H3 kp => sqT_keep (c := ct X) kp hm ha⟩
  · rename_i ns
    cases hi
    obtain ⟨a, rfl, rfl, ha⟩ := rep_frz r
    exact ⟨.lst a, ns.map V.int, [], rfl, ha.sq, repL_ints ns, by simp, fun Fx hm hd H3 kp => (sqF_keep (c := ct X) kp hm ha).sq⟩
  · rename_i z
    cases hi
    obtain ⟨rfl, rfl⟩ := rep_str r
    have allS : ∀ cs : List Nat, RepL (ct X) m H (cs.map fun ch => V.str ⟨#[ch]⟩) (cs.map fun ch => D.str ⟨#[ch]⟩) [] := fun cs => by
      induction cs with
      | nil => exact .nil
      | cons ch r ih => exact .cons (F := []) (.str _) ih
    exact ⟨.txt z, signs z, [], rfl, rfl, allS _, by simp, fun _ _ _ _ _ => rfl⟩
  · cases hi
def enumL : Int → List D → List D
  | _, [] => []
  | k, d :: r => .tup [.int k, d] :: enumL (k + 1) r
theorem enumL_len : ∀ (k : Int) (ds : List D), (enumL k ds).length = ds.length
  | _, [] => rfl
  | k, d :: r => by rw [enumL, List.length_cons, List.length_cons, enumL_len]
theorem enumL_get : ∀ (k : Int) (ds : List D) (i : Nat) (d : D), ds[i]? = some d → (enumL k ds)[i]? = some (.tup [.int (k + i), d])
  | _, [], _, _, h => by simp at h
  | k, d :: r, 0, _, h => by simp at h; subst h; simp [enumL]
  | k, d :: r, i + 1, x, h => by
    have e := enumL_get (k + 1) r i x (by simpa using h)
    simp only [enumL, List.getElem?_cons_succ]
    rw [e]
    congr 4
    rw [show k + 1 + (i : Int) = k + ((i + 1 : Nat) : Int) by omega]
theorem en_ok {m : List Addr} {H : Hp} {xs : List V} {ds : List D} {G F : List Addr} {k0 : Int} {c : Src} (rr : RepL (ct X) m H xs ds G) (hG : ∀ a ∈ G, a ∈ F) (mu : ∀ a ∈ F, MutAt H a) (st : ∀ Fx, (∀ a ∈ Fx, MutAt H a) → (∀ a ∈ F, a ∉ Fx) → ∀ H3, Kp Fx H H3 → c.has X.K H3 xs) :
    WalkOk (ct X) m H (enumL k0 ds) (fun H => c.has X.K H xs) (YPair (fun i => some (.int (k0 + (i : Nat)))) (fun i => xs[i]?)) F :=
  ⟨mu, st, fun Fx hm ha i H3 x H4 hi kp hy => by
    obtain ⟨T, u, w, rfl, s4, hT, e1, e2⟩ := ypair_same hy
    cases e1
    obtain ⟨d, hd⟩ := rr.getV e2
    obtain ⟨v, A, B, Z, h1, h2, h3, _⟩ := rr.get hd
    rw [e2] at h1
    have h1 := Option.some.inj h1
    subst h1
    have sub : ∀ a ∈ Z, a ∈ F := fun a hz => hG a (by rw [h2]; simp [hz])
    have r3 : Rep (ct X) m H3 w d Z := h3.keep kp hm (fun _ _ h => h) fun a hz => ha a (sub a hz)
    exact ⟨s4, _, Z, enumL_get k0 ds i d hd, .tup (SqT.of hT) (.cons (F := []) (.int _) (RepL.one (r3.same s4))), sub⟩⟩
/-- enumerate(e), e changes nothing -/
def iEn (p : PV) : IV := fun s => match p s with
  | some (d, fr) => d.items.map fun ds => .ok (enumL 0 ds, fr || d.imm) s
  | none => none
theorem ji_en {elts : List Expr} {kk : Nat} {tpos p1 : Pos} (hm : X.mg "enumerate" = none) (h : JP X a p) (hg : Gl X "enumerate" := by rfl) (hs : starEach [a] X.env = [(false, eval a X.env)] := by rfl) :
    JI X (.Tuple elts kk tpos) (.Call (.Name "enumerate" p1) [a] [] pos) (iEn p) := ⟨fun m F0 σ H s r R q => by
  unfold iEn at q
  cases hp : p s with
  | none => rw [hp] at q; exact (show False from q).elim
  | some z =>
    obtain ⟨d, fr⟩ := z
    rw [hp] at q
    simp only at q
    cases hd : d.items with
    | none => rw [hd] at q; exact (show False from q).elim
    | some ds =>
      rw [hd] at q
      refine wi (pi_en hg hm paW hs) (wa_cons (h.run m F0 σ H s r d fr hp _ fun v H1 F s1 r1 n1 => wa_nil ?_) hs)
      obtain ⟨c, xs, G, rfl, hh, rr, hG, st⟩ := src_of r1 hd
      refine ⟨c, xs, rfl, hh, q _ H1 _ _ F m F0.2 (Af.same r s1) (by rw [enumL_len, ← rr.length]; exact walk_en) (en_ok rr hG r1.mut st) fun hf a ha hz => ?_⟩
      have hf : (fr || d.imm) = true := hf
      rw [Bool.or_eq_true] at hf
      rcases hf with hf | hf
      · exact (r.mut a hz).some ((n1 hf).2 a ha)
      · rw [r1.imm hf] at ha; simp at ha⟩
/-- .. a slot that is only read -/
def iEnV (i : Nat) : IV := fun s => match s.loc[i]? with
  | some (.bor d) => d.items.map fun ds => .ok (enumL 0 ds, true) s
  | _ => none
theorem ji_enV (i : Nat) {elts : List Expr} {kk : Nat} {tpos p1 p2 : Pos} (hm : X.mg "enumerate" = none) (hN : X.N[i]? = some x := by rfl) (hv : Vis X.env.scope x := by first | exact Or.inl rfl | exact Or.inr (Or.inl rfl) | exact Or.inr (Or.inr rfl)) (hd : (x == ("__debug__" : Str)) = false := by decide)
    (hcd : (x == ("__classdict__" : Str)) = false := by decide) (hg : Gl X "enumerate" := by rfl) (hs : starEach [.Name x p2] X.env = [(false, eval (.Name x p2) X.env)] := by rfl) :
    JI X (.Tuple elts kk tpos) (.Call (.Name "enumerate" p1) [.Name x p2] [] pos) (iEnV i) := ⟨fun m F0 σ H s r R q => by
  unfold iEnV at q
  split at q
  · rename_i d hl
    cases hd' : d.items with
    | none => rw [hd'] at q; exact (show False from q).elim
    | some ds =>
      rw [hd'] at q
      obtain ⟨F1, F2, e, g1, g2, g3, g4⟩ := id r
      obtain ⟨o, A, B, G, ho, hA, le, _⟩ := g1.at_ hl
      cases le with
      | bor rr n =>
        rename_i v F
        refine wi (pi_en hg hm paW hs) (wa_cons (w_v i ho (wa_nil ?_) hN hv hd hcd) hs)
        obtain ⟨c, xs, G, rfl, hh, rr', hG, st⟩ := src_of rr hd'
        exact ⟨c, xs, rfl, hh, q _ H _ _ F m F0.2 (Af.same r (Same.refl _)) (by rw [enumL_len, ← rr'.length]; exact walk_en) (en_ok rr' hG rr.mut st) fun _ => n⟩
  · exact (show False from q).elim⟩
def zipL : List D → List D → List D
  | d :: r, e :: t => .tup [d, e] :: zipL r t
  | _, _ => []
theorem zipL_len : ∀ (ds es : List D), (zipL ds es).length = min ds.length es.length
  | [], _ => by simp [zipL]
  | _ :: _, [] => by simp [zipL]
  | d :: r, e :: t => by rw [zipL, List.length_cons, zipL_len, List.length_cons, List.length_cons]; omega
theorem zipL_get : ∀ (ds es : List D) (i : Nat) (d e : D), ds[i]? = some d → es[i]? = some e → (zipL ds es)[i]? = some (.tup [d, e])
  | [], _, _, _, _, h, _ => by simp at h
  | _ :: _, [], _, _, _, _, h => by simp at h
  | d :: r, e :: t, 0, _, _, h, h' => by simp at h h'; subst h h'; simp [zipL]
  | d :: r, e :: t, i + 1, _, _, h, h' => by
    have := zipL_get r t i _ _ (by simpa using h) (by simpa using h')
    simpa [zipL] using this
def iZp (p q : PV) : IV := fun s => match p s with
  | some (d, f) => match q s with
    | some (e, g) => match d.items with
      | some ds => match e.items with
        | some es => some (.ok (zipL ds es, (f || d.imm) && (g || e.imm)) s)
        | none => none
      | none => none
    | none => none
  | none => none
theorem ji_zp {elts : List Expr} {kk : Nat} {tpos p1 : Pos} (hm : X.mg "zip" = none) (ha : JP X a pa) (hb : JP X b pb) (hg : Gl X "zip" := by rfl) (hs : starEach [a, b] X.env = (false, eval a X.env) :: starEach [b] X.env := by rfl) (hs2 : starEach [b] X.env = [(false, eval b X.env)] := by rfl) (hpl : (backTo pos (starEach [b] X.env)).any (·.1) = false := by rfl) :
    JI X (.Tuple elts kk tpos) (.Call (.Name "zip" p1) [a, b] [] pos) (iZp pa pb) := ⟨fun m F0 σ H s r R q => by
  unfold iZp at q
  split at q
  · rename_i d f hd
    split at q
    · rename_i e g he
      split at q
      · rename_i ds hds
        split at q
        · rename_i es hes
          refine wi (pi_zp hg hm paW hs hpl) (wa_cons (ha.run m F0 σ H s r d f hd _ fun v H1 F s1 r1 n1 => wa_cons (hb.run m F0 σ H1 s (r.same s1) e g he _ fun v' H2 F' s2 r2 n2 => wa_nil ?_) hs2) hs)
          obtain ⟨c, xs, G, rfl, hh, rr, hG, st⟩ := src_of (r1.same s2) hds
          obtain ⟨c', xs', G', rfl, hh', rr', hG', st'⟩ := src_of r2 hes
          refine ⟨c, c', xs, xs', rfl, hh, hh', q _ H2 (fun H => c.has X.K H xs ∧ c'.has X.K H xs') _ (F ++ F') m F0.2 (Af.same r (s1.trans s2)) (by rw [zipL_len, ← rr.length, ← rr'.length]; exact walk_zp) ⟨fun a ha => ?_, fun Fx hm ha H3 kp => ⟨st Fx hm (fun a h => ha a (by simp [h])) H3 kp, st' Fx hm (fun a h => ha a (by simp [h])) H3 kp⟩, fun Fx hm ha i H3 x H4 hi kp hy => ?_⟩ fun hf a ha hz => ?_⟩
          · exact (List.mem_append.mp ha).elim ((r1.same s2).mut a) (r2.mut a)
          · obtain ⟨T, u, w, rfl, s4, hT, e1, e2⟩ := ypair_same hy
            obtain ⟨d1, hd1⟩ := rr.getV e1
            obtain ⟨v1, A, B, Z, h1, h2, h3, _⟩ := rr.get hd1
            rw [e1] at h1
            cases h1
            obtain ⟨d2, hd2⟩ := rr'.getV e2
            obtain ⟨v2, A', B', Z', h1', h2', h3', _⟩ := rr'.get hd2
            rw [e2] at h1'
            cases h1'
            have sub : ∀ a ∈ Z, a ∈ F := fun a hz => hG a (by rw [h2]; simp [hz])
            have sub' : ∀ a ∈ Z', a ∈ F' := fun a hz => hG' a (by rw [h2']; simp [hz])
            have q1 := (h3.keep kp hm (fun _ _ h => h) fun a hz => ha a (by simp [sub a hz])).same s4
            have q2 := (h3'.keep kp hm (fun _ _ h => h) fun a hz => ha a (by simp [sub' a hz])).same s4
            exact ⟨s4, _, Z ++ Z', zipL_get ds es i d1 d2 hd1 hd2, .tup (SqT.of hT) (.cons q1 (RepL.one q2)), fun a hz => by
              simp only [List.mem_append] at hz ⊢
              exact hz.elim (fun h => .inl (sub a h)) fun h => .inr (sub' a h)⟩
          · have hf : ((f || d.imm) && (g || e.imm)) = true := hf
            rw [Bool.and_eq_true, Bool.or_eq_true, Bool.or_eq_true] at hf
            rcases List.mem_append.mp ha with h | h
            · rcases hf.1 with h1 | h1
              · exact (r.mut a hz).some ((n1 h1).2 a h)
              · rw [r1.imm h1] at h; simp at h
            · rcases hf.2 with h1 | h1
              · exact ((r.same s1).mut a hz).some ((n2 h1).2 a h)
              · rw [r2.imm h1] at h; simp at h
        · exact (show False from q).elim
      · exact (show False from q).elim
    · exact (show False from q).elim
  · exact (show False from q).elim⟩
/-! several names at once -/
def S.puts : List Nat → List D → S → Option S
  | [], [], s => some s
  | i :: is, d :: ds, s => (s.put i d).bind (S.puts is ds)
  | _, _, _ => none
def sUnp (is : List Nat) (ea : EV) : SV := sB ea fun d s => match d with
  | .tup ds => (S.puts is ds s).map .nx
  | _ => none
theorem puts_len : ∀ {is : List Nat} {ds : List D} {s s' : S}, S.puts is ds s = some s' → ds.length = is.length := by
  intro is
  induction is with
  | nil => intro ds s s' h; cases ds with
    | nil => rfl
    | cons => cases h
  | cons i is ih => intro ds s s' h; cases ds with
    | nil => cases h
    | cons d ds =>
      rw [S.puts] at h
      cases h1 : s.put i d with
      | none => rw [h1] at h; cases h
      | some s1 => rw [h1] at h; rw [List.length_cons, List.length_cons, ih h]
theorem gAll_puts {m m1 : List Addr} {F0 : Fq} {H H1 : Hp} {s : S} : ∀ {is : List Nat} {vs : List V} {ds : List D} {F F1 : List Addr} {σ0 σ : St} {s1 s2 : S} {K : St → Hp → Prop}, RepL (ct X) m1 H1 vs ds F → AfS (ct X) m F0 H s σ0 F m1 F1 H1 s1 σ → S.puts is ds s1 = some s2 →
    (∀ σ' F2, AfS (ct X) m F0 H s σ0 [] m1 F2 H1 s2 σ' → K σ' H1) → gAll is vs σ H1 K
  | [], _, _, _, F1, _, σ, s1, s2, K, .nil, A, e, k => by
    cases e
    exact ⟨rfl, k σ F1 A⟩
  | [], _, _, _, _, _, _, _, _, _, .cons _ _, _, e, _ => by cases e
  | _ :: _, _, _, _, _, _, _, _, _, _, .nil, _, e, _ => by cases e
  | i :: is, _, _, _, F1, σ0, σ, s1, s2, K, .cons (v := v) (vs := vs) (d := d) (F := Fa) (G := G) q t, A, e, k => by
    rw [S.puts] at e
    cases h1 : s1.put i d with
    | none => rw [h1] at e; cases e
    | some s3 =>
      rw [h1] at e
      have r' : Rl (ct X) m1 (Fa ++ (G ++ F0.1), F1) σ H1 s1 := by have := A.rl; rw [List.append_assoc] at this; exact this
      obtain ⟨F2, h2, h3, h4⟩ := r'.put q h1
      refine ⟨v, vs, rfl, gAll_puts t ⟨A.mx, h2, ⟨A.ex.kp, fun a ha => A.ex.sub a ?_⟩, A.sx.trans h4⟩ e k⟩
      simp only [List.mem_append] at ha ⊢
      rcases ha with h | h
      · simp [h]
      · have := h3 a h
        simp only [List.mem_append] at this
        rcases this with h | h <;> simp [h]
theorem j1_unp {is : List Nat} (hg : PG X tg (gTup X.K is.length (gAll is))) (h : JE X e ea) (hs : swapsWithSole [tg] e pos.line X.env = pure false := by rfl) (hw : swappedStores [tg] e X.env = pure none := by rfl) (h1 : (assignEach [tg] X.env).map (·.2) = [assign tg X.env] := by rfl) : J1 X (.Assign [tg] e pos) (sUnp is ea) := ⟨fun sts m F0 σ H s r D z => by
  refine ws_asg hg (h.run m F0 σ H s r _ (EPost.thenS z fun d s1 v H1 m1 F F1 A r1 z => ?_)) hs hw h1
  split at z
  · rename_i ds
    cases hp : S.puts is ds s1 with
    | none => rw [hp] at z; exact (show False from z).elim
    | some s2 =>
      rw [hp] at z
      obtain ⟨a, xs, rfl, ha, rr⟩ := rep_tup r1
      exact ⟨a, xs, rfl, ha, by rw [rr.length]; exact puts_len hp, gAll_puts rr A.s hp fun σ' F2 B => z σ' H1 m1 F2 B⟩
  · exact (show False from z).elim⟩
/-- a, b = e, f: no tuple is made -/
def sPar (i j : Nat) (as : EA) : SV := sB as fun ds s => match ds with
  | [d, e] => ((s.put i d).bind fun s => s.put j e).map .nx
  | _ => none
theorem APost.thenS {as : EA} {m : List Addr} {F0 : Fq} {σ : St} {H : Hp} {s : S} {f : List D → SV} {D : Ends} {Q : List V → Hp → Prop} (q : SPost X m F0 σ H s D (sB as f s))
    (k : ∀ ds s1 vs H1 m1 F F1, Af (ct X) m F0 H s σ F m1 F1 H1 s1 → RepL (ct X) m1 H1 vs ds F → SPost X m F0 σ H s D (f ds s1) → Q vs H1) : APost X m F0 σ H s Q (as s) := by
  unfold sB at q
  cases he : as s with
  | none => rw [he] at q; exact q
  | some z =>
    rw [he] at q
    cases z with
    | ex x s' => exact q
    | ok b s1 => exact fun v H1 m1 F F1 A r => k b s1 v H1 m1 F F1 A r q
theorem j1_par {i j : Nat} {px py pt pt2 : Pos} {kt k2 : Nat} {as : EA} (hc : X.calm = true) (hN : X.N.Nodup) (h : JEA X [a, b] as) (hi : X.N[i]? = some x := by rfl) (hj : X.N[j]? = some y := by rfl) (hij : i ≠ j := by decide)
    (hx : X.env.scope.names.lookup x = some .local := by rfl) (hy : X.env.scope.names.lookup y = some .local := by rfl) (hw : swappedStores [.Tuple [.Name x px, .Name y py] kt pt] (.Tuple [a, b] k2 pt2) X.env = pure (some [x, y]) := by rfl)
    (hs : swapsWithSole [.Tuple [.Name x px, .Name y py] kt pt] (.Tuple [a, b] k2 pt2) pos.line X.env = pure false := by rfl) :
    J1 X (.Assign [.Tuple [.Name x px, .Name y py] kt pt] (.Tuple [a, b] k2 pt2) pos) (sPar i j as) := ⟨fun sts m F0 σ H s r D z => by
  refine ws_par (i := i) (j := j) hc hN (h.run m F0 σ H s r _ (APost.thenS z fun ds s1 vs H1 m1 F F1 A r1 z => ?_)) hi hj hij hx hy hw hs
  split at z
  · rename_i d e
    obtain ⟨v, w, Fa, Fb, rfl, rfl, r2, r3⟩ := repL2 r1
    cases h1 : s1.put i d with
    | none => rw [h1] at z; exact (show False from z).elim
    | some s2 =>
      rw [h1] at z
      cases h2 : s2.put j e with
      | none => simp [h2] at z; exact (show False from z).elim
      | some s3 =>
        simp [h2] at z
        have A1 : Rl (ct X) m1 (Fa ++ (Fb ++ F0.1), F1) σ H1 s1 := by have := A.rl; rw [List.append_assoc] at this; exact this
        obtain ⟨F2, g1, g2, g3⟩ := A1.put r2 h1
        obtain ⟨F3, k1, k2, k3⟩ := g1.put r3 h2
        refine ⟨v, w, rfl, z _ H1 m1 F3 ⟨A.mx, k1, ⟨A.ex.kp, fun a ha => A.ex.sub a ?_⟩, (A.s.sx.trans g3).trans k3⟩⟩
        have ha : a ∈ F3 := by simpa using ha
        have := k2 a ha
        simp only [List.mem_append] at this ⊢
        rcases this with h | h
        · simp [h]
        · have := g2 a h
          simp only [List.mem_append] at this
          rcases this with h | h <;> simp [h]
  · exact (show False from z).elim⟩
end
end Dn
set_option Elab.async false
set_option linter.all false
set_option maxRecDepth 100000
set_option maxHeartbeats 4000000
/-! dicts; classes made -/
namespace Dn
open PySem PySem.Spec PyProof.Rows L2 Tr
section
variable {X : Cx} {e a b o i k v : Expr} {es rest : List Expr} {pos : Pos} {x : Str} {ea eb : EV} {p q pa pb pk : PV} {h' : PP}
/-! {} -/
theorem jp_dnew : JP X (.Dict [] [] pos) (pC (.dic [])) := ⟨fun m F0 σ H s r d fr e Q q => by
  cases e
  exact we pe_dnewK fun p hp => q (.ref p) _ [p] (same_new hp) (.dic upd_same rfl List.nodup_nil .nil) fun _ => ⟨by simp, by simpa using hp⟩⟩
/-! {k: v, ..} -/
abbrev ED := S → Option (Res (List (Key × D)))
/-- pairs, from the left -/
inductive PairR (c : Ct) (m : List Addr) (H : Hp) : List (V × V) → List (Key × D) → List Addr → Prop
  | nil : PairR c m H [] [] []
  | cons {v : V} {ps : List (V × V)} {k : Key} {d : D} {kvs : List (Key × D)} {F G : List Addr} : Rep c m H v d F → PairR c m H ps kvs G → PairR c m H ((kV k, v) :: ps) ((k, d) :: kvs) (F ++ G)
def DPost (X : Cx) (m : List Addr) (F0 : Fq) (σ : St) (H : Hp) (s : S) (Q : List (V × V) → Hp → Prop) : Option (Res (List (Key × D))) → Prop
  | some (.ok ds s') => ∀ ps H' m' F F1, Af (ct X) m F0 H s σ F m' F1 H' s' → PairR (ct X) m' H' ps ds F → Q ps H'
  | some (.ex x s') => XOk X x s'
  | none => False
structure JD (X : Cx) (pos : Pos) (ks : List (Option Expr)) (vs : List Expr) (n : Nat) (p : ED) : Prop where
  run : ∃ trs, PPs X pos ks vs trs ∧ ∀ (m : List Addr) (F0 : Fq) (σ : St) (H : Hp) (s : S), Rl (ct X) m F0 σ H s → ∀ Q : List (V × V) → Hp → Prop, DPost X m F0 σ H s Q (p s) → tPairs trs σ H Q
  ok : ks.all (·.isSome) = true ∧ ks.length = n ∧ vs.length = n
  len : ∀ s kvs s', p s = some (.ok kvs s') → kvs.length = n
def edNil : ED := fun s => some (.ok [] s)
def edCons (k : PV) (v : EV) (r : ED) : ED := fun s => match k s with
  | some (kd, _) => match kd.key with
    | some key => eB v (fun d => eB r fun kvs s => some (.ok ((key, d) :: kvs) s)) s
    | none => none
  | none => none
theorem jd_nil : JD X pos [] [] 0 edNil := ⟨⟨[], pps_nil, fun m F0 σ H s r Q q => q [] H m [] F0.2 (Af.same r (Same.refl _)) .nil⟩, ⟨rfl, rfl, rfl⟩, fun s kvs s' h => by cases h; rfl⟩
theorem PairR.keep {c : Ct} {m m2 : List Addr} {H H2 : Hp} {Fz : List Addr} (k : Kp Fz H H2) (hm : ∀ a ∈ Fz, MutAt H a) (pm : Mx m m2) : ∀ {vs : List (V × V)} {as : List (Key × D)} {F : List Addr}, PairR c m H vs as F → (∀ a ∈ F, a ∉ Fz) → PairR c m2 H2 vs as F
  | _, _, _, .nil, _ => .nil
  | _, _, _, .cons r t, h => .cons (r.keep k hm pm fun a z => h a (by simp [z])) (PairR.keep k hm pm t fun a z => h a (by simp [z]))
theorem DPost.then {g : ED} {m : List Addr} {F0 : Fq} {σ : St} {H : Hp} {s : S} {β : Type} {f : List (Key × D) → S → Option (Res β)} {P : Option (Res β) → Prop} {Q : List (V × V) → Hp → Prop} (hx : ∀ x s', P (some (.ex x s')) → XOk X x s') (hn : ¬ P none)
    (q : P (eB g f s)) (k : ∀ ds s1 vs H1 m1 F F1, Af (ct X) m F0 H s σ F m1 F1 H1 s1 → PairR (ct X) m1 H1 vs ds F → g s = some (.ok ds s1) → P (f ds s1) → Q vs H1) : DPost X m F0 σ H s Q (g s) := by
  unfold eB at q
  cases he : g s with
  | none => rw [he] at q; exact (hn q).elim
  | some z =>
    rw [he] at q
    cases z with
    | ex x s' => exact hx x s' q
    | ok b s1 => exact fun v H1 m1 F F1 A r => k b s1 v H1 m1 F F1 A r he q
theorem jd_cons {n : Nat} {ks : List (Option Expr)} {vs : List Expr} {r : ED} (hk : JP X k pk) (hv : JE X v ea) (hr : JD X pos ks vs n r) : JD X pos (some k :: ks) (v :: vs) (n + 1) (edCons pk ea r) := by
  obtain ⟨trs, ht, hrun⟩ := hr.run
  refine ⟨⟨_, pps_cons peW peW ht, fun m F0 σ H s rl Q q => ?_⟩, ⟨by rw [List.all_cons, hr.ok.1]; rfl, by rw [List.length_cons, hr.ok.2.1], by rw [List.length_cons, hr.ok.2.2]⟩, fun s kvs s' h => ?_⟩
  · unfold edCons at q
    split at q
    · rename_i kd fl hkd
      split at q
      · rename_i key hkey
        refine hk.run m F0 σ H s rl kd fl hkd _ fun u H1 Fu s1 ru _ => ?_
        rw [key_kV ru hkey]
        have A0 : Af (ct X) m F0 H s σ [] m F0.2 H1 s := Af.same rl s1
        refine hv.run m F0 σ H1 s (rl.same s1) _ (EPost.then (P := DPost X m F0 σ H s Q) (fun _ _ h => h) (fun h => h) q fun d s2 w H2 m2 F F1 A r1 z => ?_)
        have A' : Af (ct X) m F0 H s σ F m2 F1 H2 s2 := by have := A0.trans (by simpa using A); simpa using this
        refine hrun m2 _ σ H2 s2 A.rl _ (DPost.then (P := DPost X m F0 σ H s Q) (fun _ _ h => h) (fun h => h) z fun kvs s3 ps H3 m3 G F2 B r2 _ z2 => ?_)
        exact z2 ((kV key, w) :: ps) H3 m3 (F ++ G) F2 (A'.trans B).flip (.cons (B.rep A.rl r1 (by intro a ha; simp [ha])) r2)
      · exact (show False from q).elim
    · exact (show False from q).elim
  · unfold edCons at h
    split at h
    · split at h
      · unfold eB at h
        split at h
        · simp only at h
          split at h
          · rename_i kvs' s2 h2
            cases h
            rw [List.length_cons, hr.len _ _ _ h2]
          · cases h
          · cases h
        · cases h
        · cases h
      · cases h
    · cases h
/-- the pairs one by one -/
def mergeD (kvs more : List (Key × D)) : List (Key × D) := more.foldl (fun acc kv => gput acc kv.1 kv.2) kvs
def eDict (r : ED) : EV := eB r fun kvs s => some (.ok (.dic (mergeD [] kvs)) s)
theorem PairR.kvs {c : Ct} {m : List Addr} {H : Hp} : ∀ {ps : List (V × V)} {ds : List (Key × D)} {F : List Addr}, PairR c m H ps ds F → ∃ kx : List (Key × V), ps = kx.map (fun kv => (kV kv.1, kv.2)) ∧ kx.length = ds.length ∧ kx.map Prod.fst = ds.map Prod.fst ∧ RepL c m H (kx.map Prod.snd) (ds.map Prod.snd) F
  | _, _, _, .nil => ⟨[], rfl, rfl, rfl, .nil⟩
  | _, _, _, .cons (v := v) (k := k) r t => by
    obtain ⟨kx, h1, h2, h3, h4⟩ := PairR.kvs t
    exact ⟨(k, v) :: kx, by rw [h1]; rfl, by rw [List.length_cons, List.length_cons, h2], by rw [List.map_cons, List.map_cons, h3], .cons r h4⟩
theorem merge_rep {c : Ct} {m : List Addr} {H : Hp} : ∀ {more : List (Key × V)} {md : List (Key × D)} {kx : List (Key × V)} {kvs : List (Key × D)} {G Fe : List Addr}, more.map Prod.fst = md.map Prod.fst → RepL c m H (more.map Prod.snd) (md.map Prod.snd) Fe → kx.map Prod.fst = kvs.map Prod.fst → (kvs.map Prod.fst).Nodup → RepL c m H (kx.map Prod.snd) (kvs.map Prod.snd) G →
    (mergeK kx more).map Prod.fst = (mergeD kvs md).map Prod.fst ∧ ((mergeD kvs md).map Prod.fst).Nodup ∧ ∃ G', RepL c m H ((mergeK kx more).map Prod.snd) ((mergeD kvs md).map Prod.snd) G' ∧ (∀ b ∈ G', b ∈ G ∨ b ∈ Fe) ∧ (G.Nodup → Fe.Nodup → (∀ b ∈ Fe, b ∉ G) → G'.Nodup)
  | [], [], kx, kvs, G, Fe, _, r, hk, hn, rr => by
    cases r
    exact ⟨hk, hn, G, rr, fun b hb => .inl hb, fun h _ _ => h⟩
  | [], _ :: _, _, _, _, _, h, _, _, _, _ => by cases h
  | _ :: _, [], _, _, _, _, h, _, _, _, _ => by cases h
  | (k1, v1) :: more, (k2, d2) :: md, kx, kvs, G, Fe, h, r, hk, hn, rr => by
    rw [List.map_cons, List.map_cons] at h
    have h1 : k1 = k2 := (List.cons.inj h).1
    subst h1
    cases r with
    | cons q t =>
      rename_i Fa Fb
      obtain ⟨G1, g1, g2, g3, g4⟩ := rr.gput (k := k1) hk q
      have ih := merge_rep (List.cons.inj h).2 t g2 (gput_nodup hn) g1
      obtain ⟨i1, i2, G', i3, i4, i5⟩ := ih
      have e : mergeK kx ((k1, v1) :: more) = mergeK (Dn.gput kx k1 v1) more := by
        show mergeK (putK kx k1 v1) more = _
        rw [putK_g k1 v1 kx (by rw [hk]; exact hn)]
      rw [e]
      refine ⟨i1, i2, G', i3, fun b hb => ?_, fun n1 n2 n3 => ?_⟩
      · rcases i4 b hb with h | h
        · rcases g3 b h with h | h
          · exact .inl h
          · exact .inr (by simp [h])
        · exact .inr (by simp [h])
      · rw [List.nodup_append] at n2
        exact i5 (g4 n1 n2.1 fun b hb => n3 b (by simp [hb])) n2.2.1 fun b hb hz => (g3 b hz).elim (fun w => n3 b (by simp [hb]) w) fun w => n2.2.2 b w b hb rfl
/-- a new dict: it stands empty while its pairs are made -/
theorem je_dict {ks : List (Option Expr)} {vs : List Expr} {n : Nat} {r : ED} (h : JD X pos ks vs (n + 1) r) (h15 : n + 1 ≤ 15 := by decide) : JE X (.Dict ks vs pos) (eDict r) := by
  obtain ⟨trs, ht, hrun⟩ := h.run
  obtain ⟨k1, k2, k3⟩ := h.ok
  refine ⟨fun m F0 σ H s rl Q q => we (pe_disp ht k1 (by rw [k2, k3]) (fun z => by rw [z] at k2; cases k2) (by rw [k2]; exact h15)) fun p hp => ?_⟩
  have rp : Rep (ct X) m (upd H p (.dK [])) (.ref p) (.dic []) [p] := .dic upd_same rfl List.nodup_nil .nil
  have fr : Fresh H true [p] := fun _ => ⟨by simp, by simpa using hp⟩
  have A0 : Af (ct X) m F0 H s σ [p] m F0.2 (upd H p (.dK [])) s := Af.push rl (same_new hp) rp fr (.inl rfl)
  refine hrun m _ σ _ s A0.rl _ (DPost.then (P := EPost X m F0 σ H s Q) (fun _ _ h => h) (fun h => h) q fun kvs s1 ps H1 m1 F F1 A r1 hr z => ?_)
  obtain ⟨kx, rfl, hl, hk, rr⟩ := r1.kvs
  have nd0 : (([p] ++ F0.1) ++ F0.2).Nodup := A0.rl.nd
  have hpH : H1 p = some (.dK []) := A.ex.kp p _ upd_same fun hz => (List.nodup_append.mp nd0).2.2 p (by simp) p hz rfl
  refine ⟨hpH, kx, rfl, by rw [hl, h.len _ _ _ hr]; exact h15, ?_⟩
  have AT := A0.trans A
  have ndT : ((F ++ [p]) ++ F0.1 ++ F1).Nodup := AT.rl.nd
  obtain ⟨i1, i2, G', i3, i4, i5⟩ := merge_rep (kx := []) (kvs := []) (G := []) hk rr rfl List.nodup_nil .nil
  have Fnd : F.Nodup := (List.nodup_append.mp (List.nodup_append.mp (List.nodup_append.mp ndT).1).1).1
  have G'nd : G'.Nodup := i5 List.nodup_nil Fnd (by simp)
  have G'F : ∀ b ∈ G', b ∈ F := fun b hb => (i4 b hb).elim (fun z => by simp at z) id
  have pG : p ∉ G' := fun hz => (List.nodup_append.mp (List.nodup_append.mp (List.nodup_append.mp ndT).1).1).2.2 p (G'F p hz) p (by simp) rfl
  -- the write at p
  have kp : Kp [p] H1 (upd H1 p (.dK (mergeK [] kx))) := kp_upd (Same.refl _) (by simp)
  have mu : ∀ a ∈ [p], MutAt H1 a := fun a ha => by
    have : a = p := by simpa using ha
    subst this; exact ⟨_, hpH, rfl⟩
  have r2 : Rep (ct X) m1 (upd H1 p (.dK (mergeK [] kx))) (.ref p) (.dic (mergeD [] kvs)) (p :: G') := .dic upd_same i1 i2 (i3.keep kp mu (fun _ _ h => h) fun b hb hz => by
    have : b = p := by simpa using hz
    subst this; exact pG hb)
  refine z (.ref p) _ m1 (p :: G') F1 ?_ r2
  have all : ∀ a ∈ (p :: G') ++ F0.1 ++ F1, a ∈ (F ++ [p]) ++ F0.1 ++ F1 := fun a ha => by
    simp only [List.mem_append, List.mem_cons] at ha ⊢
    rcases ha with ((h | h) | h) | h
    · simp [h]
    · simp [G'F a h]
    · simp [h]
    · simp [h]
  obtain ⟨B1, B2, e1, b1, b2, b3, b4⟩ := AT.rl
  have e1 : F1 = B1 ++ B2 := e1
  have hin : ∀ a ∈ [p], a ∈ ((F ++ [p]) ++ F0.1) ++ F1 := fun a ha => by
    have : a = p := by simpa using ha
    subst this; simp
  have npF1 : ∀ a ∈ F1, a ∉ [p] := fun a ha hz => by
    have : a = p := by simpa using hz
    subst this
    exact (List.nodup_append.mp ndT).2.2 a (by simp) a ha rfl
  have npF0 : ∀ a ∈ F0.1, a ≠ p := fun a ha hz => by
    subst hz
    exact (List.nodup_append.mp (List.nodup_append.mp ndT).1).2.2 a (by simp) a ha rfl
  have ndN : ((p :: G') ++ F0.1 ++ F1).Nodup := by
    have n1 := List.nodup_append.mp ndT
    have n2 := List.nodup_append.mp n1.1
    rw [List.append_assoc, List.nodup_append]
    refine ⟨List.nodup_cons.mpr ⟨pG, G'nd⟩, ?_, fun a ha b hb e => ?_⟩
    · rw [List.nodup_append]
      exact ⟨n2.2.1, n1.2.1, fun a ha b hb e => n1.2.2 a (by simp [ha]) b hb e⟩
    · subst e
      have ha' : a ∈ F ++ [p] := by
        rcases List.mem_cons.mp ha with h | h
        · simp [h]
        · simp [G'F a h]
      rcases List.mem_append.mp hb with h | h
      · exact n2.2.2 a ha' a h rfl
      · exact n1.2.2 a (by simp only [List.mem_append]; exact .inl (List.mem_append.mp ha')) a h rfl
  refine ⟨AT.mx, ⟨B1, B2, e1, b1.change kp mu hin (fun _ _ h => h) (fun a ha => .inl (all a ha)) fun a ha => npF1 a (by rw [e1]; simp [ha]), b2.change kp mu hin (fun _ _ h => h) (fun a ha => .inl (all a ha)) fun a ha => npF1 a (by rw [e1]; simp [ha]), ndN, fun a ha => ?_⟩, ⟨fun a ob e hn => ?_, fun a ha => ?_⟩, AT.px⟩
  · have ha : a ∈ (p :: G') ++ F0.1 := ha
    rcases List.mem_append.mp ha with h | h
    · exact r2.mut a h
    · obtain ⟨ob, e5, e6⟩ := b4 a (by simp [h])
      exact ⟨ob, by rw [upd_ne (npF0 a h)]; exact e5, e6⟩
  · have : a ≠ p := fun q => by subst q; rw [e] at hp; cases hp
    rw [upd_ne this]
    exact AT.ex.kp a ob e hn
  · refine AT.ex.sub a ?_
    have ha : a ∈ (p :: G') ++ F1 := ha
    simp only [List.mem_append, List.mem_cons] at ha ⊢
    rcases ha with (h | h) | h
    · simp [h]
    · simp [G'F a h]
    · simp [h]
/-! d.get(k, x) -/
def dGet2 : D → D → D → Option (D × Bool)
  | .dic kvs, k, x => match k.key with
    | some k => match glook kvs k with
      | some d => some (d, false)
      | none => some (x, false)
    | none => none
  | _, _, _ => none
def pGet (po pk px : PV) : PV := fun s => match po s with
  | some (d, _) => match pk s with
    | some (k, _) => match px s with
      | some (x, _) => dGet2 d k x
      | none => none
    | none => none
  | none => none
theorem jp_get {n : Nat} {apos : Pos} {px : PV} (hr : Room n X.A) (ho : JP X o p) (hk : JP X a pa) (hx : JP X b px) (mm : M2 X o "get" apos a b pos := by exact ⟨rfl, rfl, rfl, rfl⟩) : JP X (.Call (.Attribute o "get" apos) [a, b] [] pos) (pGet p pa px) := ⟨fun m F0 σ H s r d fr ee Q q => by
  unfold pGet at ee
  split at ee
  · rename_i x0 f0 h0
    split at ee
    · rename_i x1 f1 h1
      split at ee
      · rename_i x2 f2 h2
        unfold dGet2 at ee
        split at ee
        · rename_i kvs
          split at ee
          · rename_i ky hky
            refine w_dget2 (hu_of hr) (ho.run m F0 σ H s r _ f0 h0 _ fun v H1 F s1 r1 _ => ?_) mm
            obtain ⟨a', kx, G, rfl, rfl, hs, _⟩ := rep_dic r1
            refine ⟨a', rfl, .inl ⟨kx, .inl hs⟩, hk.run m F0 σ H1 s (r.same s1) _ f1 h1 _ fun u H2 F2 s2 r2 _ => hx.run m F0 σ H2 s ((r.same s1).same s2) _ f2 h2 _ fun w H3 F3 s3 r3 n3 => ?_⟩
            rw [key_kV r2 hky]
            obtain ⟨a2, ov, e1, g1, _, g2, g3⟩ := dic_get ((r1.same s2).same s3) ky
            cases e1
            refine ⟨ov, g1, ?_⟩
            cases hgl : glook kvs ky with
            | none =>
              rw [hgl] at ee g2
              cases ee
              have : ov = none := by cases ov with
                | none => rfl
                | some _ => cases g2
              subst this
              exact q w H3 F3 ((s1.trans s2).trans s3) r3 fresh_no
            | some dd =>
              rw [hgl] at ee
              cases ee
              obtain ⟨w', G', rfl, g4⟩ := g3 _ hgl
              exact q w' H3 G' ((s1.trans s2).trans s3) g4 fresh_no
          · cases ee
        · cases ee
      · cases ee
    · cases ee
  · cases ee⟩
/-- T.get(k, None), T a table of the top -/
def pKget (kvs : List (Str × V)) (pk : PV) : PV := fun s => match pk s with
  | some (.str x, _) => some (dOfV ((kvs.lookup x).getD .non), true)
  | _ => none
structure GT (X : Cx) (n : Str) (kvs : List (Str × V)) : Prop where
  ex : ∃ T, X.mg n = some (.ref T) ∧ STab X.K X.w T kvs
  sc : kvs.all (fun q => scal1 q.2) = true
theorem jp_kget {n : Str} {kvs : List (Str × V)} {mk : Nat} {p1 p2 apos : Pos} (g : GT X n kvs) (h : JP X a pa) (hg : Gl X n := by rfl) (hd : (n == ("__debug__" : Str)) = false := by decide)
    (mm : M2 X (.Name n p1) "get" apos a (.Constant .none mk p2) pos := by exact ⟨rfl, rfl, rfl, rfl⟩) : JP X (.Call (.Attribute (.Name n p1) "get" apos) [a, .Constant .none mk p2] [] pos) (pKget kvs pa) := ⟨fun m F0 σ H s r d fr ee Q q => by
  unfold pKget at ee
  split at ee
  · rename_i y f hy
    cases ee
    obtain ⟨T, hT, S⟩ := g.ex
    refine we (pe_kget S peW peW peW mm) (w_glob (v := .ref T) hT rfl ⟨rfl, h.run m F0 σ H s r _ f hy _ fun v H1 F s1 r1 _ => ?_⟩ hg hd)
    obtain ⟨rfl, _⟩ := rep_str r1
    refine ⟨y, rfl, w_non (q _ H1 [] s1 (rep_dOfV ?_) (fresh_nil _ _))⟩
    cases hl : kvs.lookup y with
    | none => rfl
    | some u => exact lookup_all (p := scal1) g.sc hl
  · cases ee⟩
theorem gc_tab {n : Str} {kvs : List (Str × V)} (g : GT X n kvs) : GC X n (.tab kvs) := by
  obtain ⟨T, hT, S⟩ := g.ex
  exact ⟨⟨.ref T, .ref T, hT, rfl, fun m H => .tab S g.sc⟩⟩
end
end Dn
set_option Elab.async false
set_option linter.all false
set_option maxRecDepth 100000
set_option maxHeartbeats 4000000
/-! update, clear, extend; classes made; objects dropped -/
namespace Dn
open PySem PySem.Spec PyProof.Rows L2 Tr
section
variable {X : Cx} {e a b o i k v : Expr} {es rest : List Expr} {pos : Pos} {x : Str} {ea eb : EV} {p pa pb pk : PV} {q : PP} {g : EG} {den : Den} {kk j : Nat}
/-! x.update(e) -/
def eUpdN (i : Nat) (ea : EV) : EV := fun s => match s.get ⟨false, i, []⟩ with
  | some (.dic _) => eB ea (fun d s => match d, s.get ⟨false, i, []⟩ with
    | .dic more, some (.dic kvs) => if szOk (kvs.length + more.length) then some (.ok .non (s.upd ⟨false, i, []⟩ (.dic (mergeD kvs more)))) else none
    | _, _ => none) s
  | _ => none
theorem je_updN (i : Nat) {p1 apos : Pos} (h : JE X e ea) (hN : X.N[i]? = some x := by rfl) (hv : Vis X.env.scope x := by first | exact Or.inl rfl | exact Or.inr (Or.inl rfl) | exact Or.inr (Or.inr rfl)) (hd : (x == ("__debug__" : Str)) = false := by decide)
    (hcd : (x == ("__classdict__" : Str)) = false := by decide)
    (hbase : attributeBase (.Name x p1) "update" X.env (eval (.Name x p1) X.env) = eval (.Name x p1) X.env := by rfl)
    (hfew : ((backTo pos (starEach [e] X.env)).all (fun x => !x.1) && (backToKw pos (keywordEach [] X.env)).all (fun x => x.1.isSome)
      && decide (([e] : List Expr).length + ([] : List Keyword).length + (if ([] : List Keyword).isEmpty then 0 else 1) < 30)) = true := by rfl)
    (hline : (apos.endLine == pos.line) = true := by rfl) (hs : starEach [e] X.env = (false, eval e X.env) :: starEach [] X.env := by rfl) : JE X (.Call (.Attribute (.Name x p1) "update" apos) [e] [] pos) (eUpdN i ea) := ⟨fun m F0 σ H s r Q z => by
  unfold eUpdN at z
  split at z
  · rename_i kvs0 hg
    obtain ⟨v0, v, h1, t, l⟩ := r.lens hg
    have t : Trav (ct X) H v0 [] v := t
    have h1 : σ[i]? = some (some v0) := h1
    cases t
    obtain ⟨a0, kx0, G0, rfl, ha0, _⟩ := l.wdic
    refine w_update (r := a0) (kvs := kx0) (fun Q' q' => w_v i h1 q' hN hv hd hcd) ha0 (h.run m F0 σ H s r _ (EPost.then (P := EPost X m F0 σ H s Q) (fun _ _ h => h) (fun h => h) z fun d s1 ve H1 m1 Fe F1 A r1 z => ?_)) hbase hfew hline hs
    split at z
    · rename_i more kvs hg1
      by_cases hz : szOk (kvs.length + more.length) = true
      · rw [if_pos hz] at z
        obtain ⟨v0', v', h1', t', l'⟩ := A.rl.lens hg1
        have t' : Trav (ct X) H1 v0' [] v' := t'
        have h1' : σ[i]? = some (some v0') := h1'
        cases t'
        rw [h1] at h1'
        cases h1'
        obtain ⟨a1, kx, G, e1, ha, ek, kn, rr, nd, sub, k⟩ := l'.wdic
        cases e1
        obtain ⟨b1, mx, Gm, rfl, rfl, hb, ekm, knm, rrm⟩ := rep_dic r1
        have ndF : (((b1 :: Gm) ++ F0.1) ++ F1).Nodup := A.rl.nd
        have ndFe : (b1 :: Gm).Nodup := (List.nodup_append.mp (List.nodup_append.mp ndF).1).1
        obtain ⟨i1, i2, G', i3, i4, i5⟩ := merge_rep ekm rrm ek kn rr
        have nn := List.nodup_cons.mp nd
        have nm := List.nodup_cons.mp ndFe
        have disj : ∀ b ∈ Gm, b ∉ G := fun b hb hz => (sub b (by simp [hz])).2 (by simp [hb])
        have G'n : (a0 :: G').Nodup := List.nodup_cons.mpr ⟨fun z => (i4 a0 z).elim nn.1 fun q => (sub a0 (by simp)).2 (by simp [q]), i5 nn.2 nm.2 disj⟩
        obtain ⟨F1', k1, k2, k3⟩ := k (b1 :: Gm) F0.1 rfl H1 (mergeK kx mx) (mergeD kvs more) G' (Same.refl _) i1 i2 i3 G'n fun b hb => (i4 b hb).elim .inl fun q => .inr (.inl (by simp [q]))
        have lens : kx.length + mx.length ≤ 10000000 := by
          have e1 := congrArg List.length ek
          have e2 := congrArg List.length ekm
          rw [List.length_map, List.length_map] at e1 e2
          rw [e1, e2]
          exact of_decide_eq_true hz
        refine ⟨b1, kx, mx, rfl, fun z => (sub a0 (by simp)).2 (by rw [z]; simp), ha, hb, lens, z .non _ m1 [] F1' (A.write k1 (fun b hb => ?_) k3) .non⟩
        rcases k2 b hb with q | q
        · exact .inl q
        · rcases i4 b q with q | q
          · exact .inl (sub b (by simp [q])).1
          · exact .inr (.inl (by simp [q]))
      · rw [if_neg hz] at z; exact (show False from z).elim
    · exact (show False from z).elim
  · exact (show False from z).elim⟩
/-! o.clear() -/
def eClr (q : PP) : EV := fun s => match q s with
  | some π => match s.get π with
    | some (.lst _) => some (.ok .non (s.upd π (.lst [])))
    | _ => none
  | none => none
theorem je_clr {apos : Pos} (hq : JH X o q) (hbase : attributeBase o "clear" X.env (eval o X.env) = eval o X.env := by rfl) (hline : (apos.endLine == pos.line) = true := by rfl) : JE X (.Call (.Attribute o "clear" apos) [] [] pos) (eClr q) := ⟨fun m F0 σ H s r Q z => by
  unfold eClr at z
  split at z
  · rename_i π hπ
    split at z
    · rename_i ds hg
      refine w_bm0 PySem.F.plainAttrs_list PySem.F.slot_list_clear PySem.F.type_list_clear mt_clear (hq.run m F0 σ H s r π _ hπ hg _ fun v H1 s1 l => ?_) hbase hline
      obtain ⟨a, xs, G, rfl, ha, rr, nd, sub, k⟩ := l.wlst
      obtain ⟨F1', g1, g2, g3⟩ := k [] F0.1 rfl H1 [] [] [] (Same.refl _) .nil (by simp) (by simp)
      have A0 : Af (ct X) m F0 H s σ [] m F0.2 H1 s := Af.same r s1
      exact ⟨.inl ⟨rfl, _, SqL.of ha⟩, a, xs, rfl, rfl, ha, z .non _ m [] F1' (A0.write g1 (fun b hb => (g2 b hb).elim .inl fun q => by simp at q) g3) .non⟩
    · exact (show False from z).elim
  · exact (show False from z).elim⟩
/-! x.extend(e) -/
def eExtN (i : Nat) (ea : EV) : EV := fun s => match s.get ⟨false, i, []⟩ with
  | some (.lst _) => eB ea (fun d s => match d, s.get ⟨false, i, []⟩ with
    | .lst es, some (.lst ds) => if szOk (ds.length + es.length) then some (.ok .non (s.upd ⟨false, i, []⟩ (.lst (ds ++ es)))) else none
    | _, _ => none) s
  | _ => none
theorem je_extN (i : Nat) {p1 apos : Pos} (h : JE X e ea) (hN : X.N[i]? = some x := by rfl) (hv : Vis X.env.scope x := by first | exact Or.inl rfl | exact Or.inr (Or.inl rfl) | exact Or.inr (Or.inr rfl)) (hd : (x == ("__debug__" : Str)) = false := by decide)
    (hcd : (x == ("__classdict__" : Str)) = false := by decide)
    (hbase : attributeBase (.Name x p1) "extend" X.env (eval (.Name x p1) X.env) = eval (.Name x p1) X.env := by rfl)
    (hfew : ((backTo pos (starEach [e] X.env)).all (fun x => !x.1) && (backToKw pos (keywordEach [] X.env)).all (fun x => x.1.isSome)
      && decide (([e] : List Expr).length + ([] : List Keyword).length + (if ([] : List Keyword).isEmpty then 0 else 1) < 30)) = true := by rfl)
    (hline : (apos.endLine == pos.line) = true := by rfl) (hs : starEach [e] X.env = (false, eval e X.env) :: starEach [] X.env := by rfl) : JE X (.Call (.Attribute (.Name x p1) "extend" apos) [e] [] pos) (eExtN i ea) := ⟨fun m F0 σ H s r Q z => by
  unfold eExtN at z
  split at z
  · rename_i ds0 hg
    obtain ⟨v0, v, h1, t, l⟩ := r.lens hg
    have t : Trav (ct X) H v0 [] v := t
    have h1 : σ[i]? = some (some v0) := h1
    cases t
    obtain ⟨a0, xs0, G0, rfl, ha0, _⟩ := l.wlst
    refine w_bm PySem.F.plainAttrs_list PySem.F.slot_list_extend PySem.F.type_list_extend mt_extend (w_v i h1 ⟨.inl ⟨rfl, _, SqL.of ha0⟩, wa_cons (h.run m F0 σ H s r _ (EPost.then (P := EPost X m F0 σ H s Q) (fun _ _ h => h) (fun h => h) z fun d s1 ve H1 m1 Fe F1 A r1 z => wa_nil ?_)) hs⟩ hN hv hd hcd) hbase hfew hline hs rfl
    split at z
    · rename_i es ds hg1
      by_cases hz : szOk (ds.length + es.length) = true
      · rw [if_pos hz] at z
        obtain ⟨v0', v', h1', t', l'⟩ := A.rl.lens hg1
        have t' : Trav (ct X) H1 v0' [] v' := t'
        have h1' : σ[i]? = some (some v0') := h1'
        cases t'
        rw [h1] at h1'
        cases h1'
        obtain ⟨a, xs, G, e1, ha, rr, nd, sub, k⟩ := l'.wlst
        cases e1
        obtain ⟨b1, ys, Gm, rfl, rfl, hb, rrm⟩ := rep_lst r1
        have ndF : (((b1 :: Gm) ++ F0.1) ++ F1).Nodup := A.rl.nd
        have ndFe : (b1 :: Gm).Nodup := (List.nodup_append.mp (List.nodup_append.mp ndF).1).1
        have nd' := nd_app nd (List.nodup_cons.mp ndFe).2 fun b hb z => (sub b z).2 (by simp [hb])
        obtain ⟨F1', g1, g2, g3⟩ := k (b1 :: Gm) F0.1 rfl H1 (xs ++ ys) (ds ++ es) (G ++ Gm) (Same.refl _) (rr.append rrm) nd' fun b hb => (List.mem_append.mp hb).elim .inl fun q => .inr (.inl (by simp [q]))
        refine ⟨a0, b1, xs, ys, rfl, rfl, ha, hb, by rw [rr.length, rrm.length]; exact szOk_le hz, z .non _ m1 [] F1' (A.write g1 (fun b hb => ?_) g3) .non⟩
        rcases g2 b hb with q | q
        · exact .inl q
        · rcases List.mem_append.mp q with q | q
          · exact .inl (sub b (by simp [q])).1
          · exact .inr (.inl (by simp [q]))
      · rw [if_neg hz] at z; exact (show False from z).elim
    · exact (show False from z).elim
  · exact (show False from z).elim⟩
/-! t[::-1] of a pair -/
def pRev (p : PV) : PV := fun s => match p s with
  | some (.tup [a, b], _) => if a.imm = true ∧ b.imm = true then some (.tup [b, a], true) else none
  | _ => none
theorem jp_rev {kn : Nat} {p1 p2 p3 : Pos} (h : JP X e p) : JP X (.Subscript e (.Slice none none (some (.UnaryOp .USub (.Constant (.int 1) kn p1) p2)) p3) pos) (pRev p) := ⟨fun m F0 σ H s r d fr ee Q q => by
  unfold pRev at ee
  split at ee
  · rename_i d1 d2 f hp
    split at ee
    · rename_i hi
      cases ee
      refine we (pe_revT peW) (h.run m F0 σ H s r _ f hp _ fun v H1 F s1 r1 _ => ?_)
      obtain ⟨a, xs, rfl, ha, rr⟩ := rep_tup r1
      obtain ⟨v1, v2, F1, F2, rfl, rfl, q1, q2⟩ := repL2 rr
      have e1 := q1.imm hi.1
      have e2 := q2.imm hi.2
      subst e1 e2
      exact ⟨a, v1, v2, rfl, ha, fun p hp => q (.ref p) _ [] (s1.trans (same_new hp)) (.tup (F := []) (SqT.of upd_same) (.cons (F := []) (q2.same (same_new hp)) (RepL.one (q1.same (same_new hp))))) (fresh_nil _ _)⟩
    · cases ee
  · cases ee⟩
/-! a class made -/
def eMk (C : Addr) (den : Den) (g : EG) : EV := eB g fun as s => match doCall den (.val (.ptr s.obj.length) :: as) { s with obj := s.obj ++ [.own (.ins C [])] } with
  | some (.ok .non s3) => some (.ok (.ptr s.obj.length) s3)
  | _ => none
theorem Rl.olen {c : Ct} {m : List Addr} {F0 : Fq} {σ : St} {H : Hp} {s : S} (r : Rl c m F0 σ H s) : m.length = s.obj.length := by
  obtain ⟨_, _, _, _, h2, _⟩ := r
  have := h2.len
  unfold oref at this
  rw [List.length_map] at this
  exact this.symm
theorem Rl.alloc {c : Ct} {m P F1 : List Addr} {σ : St} {H : Hp} {s : S} {C x dx : Addr} (r : Rl c m (P, F1) σ H s) (hx : H x = none) (hd : H dx = none) (ne : dx ≠ x) :
    Rl c (m ++ [x]) (P, F1 ++ [x, dx]) σ (upd (upd H dx (.own x)) x (.ins C dx [])) { s with obj := s.obj ++ [.own (.ins C [])] } := by
  have hx' : (upd H dx (.own x)) x = none := by rw [upd_ne (fun z => ne z.symm)]; exact hx
  have sm : Same H (upd (upd H dx (.own x)) x (.ins C dx [])) := (same_new hd).trans (same_new hx')
  obtain ⟨A1, F2, e1, h1, h2, h3, h4⟩ := id r
  have e1 : F1 = A1 ++ F2 := e1
  subst e1
  have sub : ∀ a ∈ P ++ ((A1 ++ F2) ++ [x, dx]), a ∈ P ++ (A1 ++ F2) ∨ H a = none := fun a ha => by
    simp only [List.mem_append, List.mem_cons, List.not_mem_nil, or_false] at ha ⊢
    rcases ha with h | (h | h) | h | h
    · simp [h]
    · simp [h]
    · simp [h]
    · subst h; exact .inr hx
    · subst h; exact .inr hd
  have pm : ∀ (n : Nat) (a : Addr), m[n]? = some a → (m ++ [x])[n]? = some a := fun n a h => by
    rw [List.getElem?_append_left (List.getElem?_eq_some_iff.mp h).1]; exact h
  have ch : ∀ {ls : List Lc} {os : List (Option V)} {Z : List Addr}, LR c m H (P ++ (A1 ++ F2)) ls os Z → LR c (m ++ [x]) (upd (upd H dx (.own x)) x (.ins C dx [])) (P ++ ((A1 ++ F2) ++ [x, dx])) ls os Z := fun h => h.change (G := []) (kp_same sm) (by simp) (by simp) pm sub (by simp)
  have new : LE c (m ++ [x]) (upd (upd H dx (.own x)) x (.ins C dx [])) (P ++ ((A1 ++ F2) ++ [x, dx])) (.own (.ins C [])) (some (.ref x)) [x, dx] := .own (.ins upd_same (by rw [upd_ne ne]; exact upd_same) rfl .nil)
  have h2' : LR c (m ++ [x]) (upd (upd H dx (.own x)) x (.ins C dx [])) (P ++ ((A1 ++ F2) ++ [x, dx])) (s.obj ++ [.own (.ins C [])]) (oref (m ++ [x])) (F2 ++ [x, dx]) := by
    have := (ch h2).append (.cons new .nil)
    unfold oref at this ⊢
    rw [List.map_append]
    simpa using this
  refine ⟨A1, F2 ++ [x, dx], by simp, ch h1, h2', ?_, fun a ha => (h4 a ha).same sm⟩
  show (P ++ ((A1 ++ F2) ++ [x, dx])).Nodup
  rw [← List.append_assoc, List.nodup_append]
  refine ⟨h3, by simp only [List.nodup_cons, List.mem_cons, List.not_mem_nil, or_false, not_false_eq_true, List.nodup_nil, and_true]; exact fun z => ne z.symm, fun a ha b hb e => ?_⟩
  subst e
  have := (r.mut a ha).some
  simp only [List.mem_cons, List.not_mem_nil, or_false] at hb
  rcases hb with h | h
  · subst h; exact this hx
  · subst h; exact this hd
theorem je_mk {C : Addr} {p1 : Pos} (c : Kc X.prog X.w X.K X.mg X.base kk x C (spD (ct X) den)) (hr : Room j X.A) (hk : kk + 1 ≤ j) (h : JG X (e :: es) g) (hg : Gl X x := by rfl)
    (hdb : (x == ("__debug__" : Str)) = false := by decide) (he : starEach (e :: es) X.env = (false, eval e X.env) :: starEach es X.env := by rfl) (hpl : (backTo pos (starEach es X.env)).any (·.1) = false := by rfl) :
    JE X (.Call (.Name x p1) (e :: es) [] pos) (eMk C den g) := ⟨fun m F0 σ H s r Q q => w_mk c hr hk (h.run m F0 σ H s r _ (GPost.then (P := EPost X m F0 σ H s Q) (fun _ _ h => h) (fun h => h) q fun as s1 vs H1 m1 Fa F1 A ar z => by
  intro xa dx nx ndx ne
  have ra := Rl.alloc (C := C) A.rl nx ndx ne
  have hx' : (upd H1 dx (.own xa)) xa = none := by rw [upd_ne (fun z => ne z.symm)]; exact nx
  have sm : Same H1 (upd (upd H1 dx (.own xa)) xa (.ins C dx [])) := (same_new ndx).trans (same_new hx')
  have mxa : Mx m1 (m1 ++ [xa]) := fun n a h => by rw [List.getElem?_append_left (List.getElem?_eq_some_iff.mp h).1]; exact h
  have hn : (m1 ++ [xa])[s1.obj.length]? = some xa := by rw [← A.rl.olen]; simp
  have A0 : Af (ct X) (m1 ++ [xa]) (F0.1, Fa ++ (F1 ++ [xa, dx])) (upd (upd H1 dx (.own xa)) xa (.ins C dx [])) { s1 with obj := s1.obj ++ [.own (.ins C [])] } σ Fa (m1 ++ [xa]) (F1 ++ [xa, dx]) (upd (upd H1 dx (.own xa)) xa (.ins C dx [])) { s1 with obj := s1.obj ++ [.own (.ins C [])] } :=
    ⟨Mx.refl _, ra, Ext.refl _ _, PX.refl _⟩
  have ar' : ArgR (ct X) (m1 ++ [xa]) (upd (upd H1 dx (.own xa)) xa (.ins C dx [])) σ vs as Fa := ar.keep (Fz := []) (kp_same sm) (by simp) mxa (by simp)
  refine doCall_sp A0 (.val (F := []) (.ptr hn) ar') ?_
  cases hdo : doCall den (.val (.ptr s1.obj.length) :: as) { s1 with obj := s1.obj ++ [.own (.ins C [])] } with
  | none => simp only [hdo] at z; exact (show False from z).elim
  | some w =>
    simp only [hdo] at z
    cases w with
    | ex x2 s2 => exact (show False from z).elim
    | ok d s3 =>
      cases d with
      | non =>
        intro v H2 m2 F F2 B r2
        obtain ⟨rfl, rfl⟩ := rep_non r2
        refine ⟨rfl, z (.ref xa) H2 m2 [] F2 ⟨(A.mx.trans mxa).trans B.mx, B.rl, ⟨fun a ob e hn' => ?_, fun a ha => ?_⟩, A.px.trans B.px⟩ (.ptr (B.mx _ _ hn))⟩
        · refine B.ex.kp a ob (sm a ob (A.ex.kp a ob e hn')) fun hz => ?_
          have hz : a ∈ Fa ++ (F1 ++ [xa, dx]) := hz
          have old : a ∈ Fa ++ F1 → False := fun w => (A.ex.sub a w).elim hn' fun q => by rw [e] at q; cases q
          have e1 := A.ex.kp a ob e hn'
          simp only [List.mem_append, List.mem_cons, List.not_mem_nil, or_false] at hz
          rcases hz with h | h | h | h
          · exact old (by simp [h])
          · exact old (by simp [h])
          · subst h; rw [e1] at nx; cases nx
          · subst h; rw [e1] at ndx; cases ndx
        · have back : ∀ a, H1 a = none → a ∈ F0.2 ∨ H a = none := fun a ha => by
            cases e : H a with
            | none => exact .inr rfl
            | some ob =>
              by_cases hz : a ∈ F0.2
              · exact .inl hz
              · rw [A.ex.kp a ob e hz] at ha; cases ha
          rcases B.ex.sub a ha with h | h
          · have h : a ∈ Fa ++ (F1 ++ [xa, dx]) := h
            simp only [List.mem_append, List.mem_cons, List.not_mem_nil, or_false] at h
            rcases h with h | h | h | h
            · exact A.ex.sub a (by simp [h])
            · exact A.ex.sub a (by simp [h])
            · subst h; exact back _ nx
            · subst h; exact back _ ndx
          · exact back a (sm.free h)
      | _ => exact (show False from z).elim)) hg hdb he hpl⟩
end
/-! objects that nobody knows any more -/
mutual
def D.lo (k : Nat) : D → Bool
  | .ptr n => decide (n < k)
  | .tup ds => loL k ds
  | .lst ds => loL k ds
  | .dic kvs => loK k kvs
  | .ins _ fs => loF k fs
  | _ => true
def loL (k : Nat) : List D → Bool
  | [] => true
  | d :: r => d.lo k && loL k r
def loK (k : Nat) : List (Key × D) → Bool
  | [] => true
  | (_, d) :: r => d.lo k && loK k r
def loF (k : Nat) : List (Str × D) → Bool
  | [] => true
  | (_, d) :: r => d.lo k && loF k r
end
theorem loK_map (k : Nat) : ∀ kvs : List (Key × D), loK k kvs = loL k (kvs.map Prod.snd)
  | [] => rfl
  | (_, d) :: r => by rw [loK, List.map_cons, loL, loK_map k r]
theorem loF_map (k : Nat) : ∀ kvs : List (Str × D), loF k kvs = loL k (kvs.map Prod.snd)
  | [] => rfl
  | (_, d) :: r => by rw [loF, List.map_cons, loL, loF_map k r]
section
variable {c : Ct} {m : List Addr} {H : Hp} {k : Nat}
mutual
theorem Rep.low : ∀ {v : V} {d : D} {F : List Addr}, Rep c m H v d F → d.lo k = true → Rep c (m.take k) H v d F
  | _, _, _, .non, _ => .non
  | _, _, _, .bl b, _ => .bl b
  | _, _, _, .int i, _ => .int i
  | _, _, _, .str x, _ => .str x
  | _, _, _, .ptr e, h => .ptr (by rw [List.getElem?_take_of_lt (of_decide_eq_true (by simpa [D.lo] using h))]; exact e)
  | _, _, _, .frz e, _ => .frz e
  | _, _, _, .tab e a, _ => .tab e a
  | _, _, _, .gone v, _ => .gone v
  | _, _, _, .tup e r, h => .tup e (RepL.low r (by simpa [D.lo] using h))
  | _, _, _, .lst e r, h => .lst e (RepL.low r (by simpa [D.lo] using h))
  | _, _, _, .dic e e2 e3 r, h => .dic e e2 e3 (RepL.low r (by rw [← loK_map]; simpa [D.lo] using h))
  | _, _, _, .ins e e1 e2 r, h => .ins e e1 e2 (RepL.low r (by rw [← loF_map]; simpa [D.lo] using h))
theorem RepL.low : ∀ {vs : List V} {ds : List D} {F : List Addr}, RepL c m H vs ds F → loL k ds = true → RepL c (m.take k) H vs ds F
  | _, _, _, .nil, _ => .nil
  | _, _, _, .cons r t, h => by
    rw [loL, Bool.and_eq_true] at h
    exact .cons (Rep.low r h.1) (RepL.low t h.2)
end
def Lc.lo (k : Nat) : Lc → Bool
  | .no => true
  | .bor d => d.lo k
  | .par d => d.lo k
  | .own d => d.lo k
theorem LR.low {Av : List Addr} : ∀ {ls : List Lc} {os : List (Option V)} {F : List Addr}, LR c m H Av ls os F → ls.all (Lc.lo k) = true → LR c (m.take k) H Av ls os F
  | _, _, _, .nil, _ => .nil
  | _, _, _, .cons e t, h => by
    rw [List.all_cons, Bool.and_eq_true] at h
    refine .cons ?_ (LR.low t h.2)
    cases e with
    | no => exact .no _
    | bor r n => exact .bor (r.low h.1) n
    | par r => exact .par (r.low h.1)
    | own r => exact .own (r.low h.1)
end
def Den.trunc (den : Den) : Den := fun ls os => match den ls os with
  | some (.ret d ps os') => if d.lo os.length = true ∧ ps.all (Lc.lo os.length) = true ∧ (os'.take os.length).all (Lc.lo os.length) = true then some (.ret d ps (os'.take os.length)) else none
  | none => none
theorem spD_trunc {c : Ct} {den : Den} : ∀ vs H Q E, spD c den.trunc vs H Q E → spD c den vs H Q E := fun vs H Q E ⟨m, P, F0, ls, os, d, ps, os', h1, r, hd, q⟩ => by
  unfold Den.trunc at hd
  split at hd
  · rename_i d1 ps1 os1 hden
    split at hd
    · rename_i hlo
      cases hd
      refine ⟨m, P, F0, ls, os, d, ps, os1, h1, r, hden, fun v H' m' F F1 hx rl rv ex => ?_⟩
      have hm : m.length = os.length := r.olen
      have hm' : m'.length = os1.length := rl.olen
      have hmt : m'.take os.length = m := by
        refine List.ext_getElem? fun i => ?_
        by_cases hi : i < os.length
        · rw [List.getElem?_take_of_lt hi]
          rw [← hm] at hi
          rw [hx i m[i] (List.getElem?_eq_getElem hi), List.getElem?_eq_getElem hi]
        · rw [List.getElem?_eq_none (by rw [List.length_take]; omega), List.getElem?_eq_none (by omega)]
      obtain ⟨A1, F2, e1, g1, g2, g3, g4⟩ := rl
      have e1 : F1 = A1 ++ F2 := e1
      subst e1
      obtain ⟨G, k1, k2⟩ := g2.take os.length
      have k3 := k1.low (k := os.length) hlo.2.2
      have eo : (oref m').take os.length = oref m := by unfold oref; rw [← List.map_take, hmt]
      rw [eo, hmt] at k3
      have g1' := g1.low (k := os.length) hlo.2.1
      rw [hmt] at g1'
      have rv' := rv.low (k := os.length) hlo.1
      rw [hmt] at rv'
      have sub : ∀ a ∈ (F ++ P) ++ (A1 ++ G), a ∈ (F ++ P) ++ (A1 ++ F2) ∨ H' a = none := fun a ha => .inl (by
        simp only [List.mem_append] at ha ⊢
        rcases ha with (h | h) | h | h
        · simp [h]
        · simp [h]
        · simp [h]
        · simp [k2.subset h])
      refine q v H' m F (A1 ++ G) (Mx.refl _) ⟨A1, G, rfl, g1'.change (G := []) (kp_same (Same.refl _)) (by simp) (by simp) (fun _ _ h => h) sub (by simp), k3.change (G := []) (kp_same (Same.refl _)) (by simp) (by simp) (fun _ _ h => h) sub (by simp), ?_, g4⟩ rv' ⟨ex.kp, fun a ha => ex.sub a ?_⟩
      · have g3 : ((F ++ P) ++ (A1 ++ F2)).Nodup := g3
        exact (List.Sublist.append (List.Sublist.refl _) (List.Sublist.append (List.Sublist.refl _) k2)).nodup g3
      · simp only [List.mem_append] at ha ⊢
        rcases ha with h | h | h
        · simp [h]
        · simp [h]
        · simp [k2.subset h]
    · cases hd
  · cases hd
theorem fc_trunc {P : Program} {w : World} {K : PySem.W.Frag} {mg : Str → Option Value} {base : Heap} {k : Nat} {x : Str} {c : Ct} {den : Den} (h : Fc P w K mg base k x (spD c den)) : Fc P w K mg base k x (spD c den.trunc) := h.imp spD_trunc
end Dn
set_option Elab.async false
set_option linter.all false
set_option maxRecDepth 100000
set_option maxHeartbeats 4000000
/-! for the printed derivations -/
namespace Dn
open PySem PySem.Spec PyProof.Rows L2 Tr
theorem bt_max : bootBuiltins "max" = some (.builtin "max") := by decide +kernel
theorem bt_min : bootBuiltins "min" = some (.builtin "min") := by decide +kernel
section
variable {X : Cx} {x : Str} {e a b : Expr} {pos : Pos} {ea eb : EV}
theorem gc_int {n : Int} (h : ∃ t, X.mg x = some (.int n t)) : GC X x (.int n) := by
  obtain ⟨t, h⟩ := h
  exact ⟨⟨.int n, _, h, ⟨t, rfl⟩, fun m H => .int n⟩⟩
theorem gc_str {n : Str} (h : ∃ t, X.mg x = some (.str n t)) : GC X x (.str n) := by
  obtain ⟨t, h⟩ := h
  exact ⟨⟨.str n, _, h, ⟨t, rfl⟩, fun m H => .str n⟩⟩
theorem repL_strs {c : Ct} {m : List Addr} {H : Hp} : ∀ ns : List Str, RepL c m H (ns.map V.str) (ns.map D.str) []
  | [] => .nil
  | n :: r => .cons (F := []) (.str n) (repL_strs r)
theorem gc_tups {ss : List Str} (h : ∃ T, X.mg x = some (.ref T) ∧ ∀ H, SqT X.K H T (ss.map V.str)) : GC X x (.tup (ss.map D.str)) := by
  obtain ⟨T, h1, h2⟩ := h
  exact ⟨⟨.ref T, _, h1, rfl, fun m H => .tup (h2 H) (repL_strs ss)⟩⟩
theorem je_ix {n : Nat} (hr : Room n X.A) (ha : JE X a ea) (hb : JE X b eb) (hs : PlainIx b := by exact fun _ _ => rfl) : JE X (.Subscript a b pos) (eOp dIx ea eb) := ⟨fun m F0 σ H s r Q q => by
  refine w_ix (ix_list.or (ix_tup.or (ix_str.or ((ix_dK hr).or ix_tab)))) (WE.mono (opRun (f := fun _ _ => pure .none) ha hb r q) fun u H1 h => WE.mono h fun v H2 ⟨m, d1, d2, F1, F2, d, fr, r1, r2, e3, q⟩ => ?_) hs
  unfold dIx at e3
  split at e3
  · rename_i ds i
    cases hd : atI ds i with
    | none => rw [hd] at e3; cases e3
    | some d' =>
      rw [hd] at e3; cases e3
      obtain ⟨p, xs, G, rfl, _, hp, hx⟩ := rep_lst r1
      obtain ⟨rfl, _⟩ := rep_int r2
      obtain ⟨w, G', h1, h2⟩ := atI_rep hx hd
      exact .inl ⟨p, xs, i, w, rfl, rfl, SqL.of hp, h1, q w H2 G' (Same.refl _) h2 fresh_no⟩
  · rename_i ds i
    cases hd : atI ds i with
    | none => rw [hd] at e3; cases e3
    | some d' =>
      rw [hd] at e3; cases e3
      obtain ⟨p, xs, rfl, hp, hx⟩ := rep_tup r1
      obtain ⟨rfl, _⟩ := rep_int r2
      obtain ⟨w, G', h1, h2⟩ := atI_rep hx hd
      exact .inr (.inl ⟨p, xs, i, w, rfl, rfl, hp, h1, q w H2 G' (Same.refl _) h2 fresh_no⟩)
  · rename_i ns i
    cases hd : atI ns i with
    | none => rw [hd] at e3; cases e3
    | some d' =>
      rw [hd] at e3; cases e3
      obtain ⟨p, rfl, _, hp⟩ := rep_frz r1
      obtain ⟨rfl, _⟩ := rep_int r2
      exact .inl ⟨p, _, i, .int d', rfl, rfl, hp.sq, by rw [atI_map, hd]; rfl, q _ H2 [] (Same.refl _) (.int _) (fresh_nil _ _)⟩
  · rename_i z i
    split at e3
    · rename_i hz
      cases hd : atI z.cps.toList i with
      | none => rw [hd] at e3; cases e3
      | some d' =>
        rw [hd] at e3; cases e3
        obtain ⟨rfl, _⟩ := rep_str r1
        obtain ⟨rfl, _⟩ := rep_int r2
        exact .inr (.inr (.inl ⟨z, i, d', rfl, rfl, szOk_le hz, hd, q _ H2 [] (Same.refl _) (.str _) (fresh_nil _ _)⟩))
    · cases e3
  · rename_i kvs
    split at e3
    · rename_i k hk
      cases hd : glook kvs k with
      | none => rw [hd] at e3; cases e3
      | some d' =>
        rw [hd] at e3; cases e3
        obtain ⟨p, o, rfl, hg, _, _, h4⟩ := dic_get r1 k
        obtain ⟨w, G', e6, h5⟩ := h4 _ hd
        subst e6
        rw [key_kV r2 hk]
        exact .inr (.inr (.inr (.inl ⟨p, w, rfl, hg, q w H2 G' (Same.refl _) h5 fresh_no⟩)))
    · cases e3
  · rename_i kvs x'
    cases hd : kvs.lookup x' with
    | none => rw [hd] at e3; cases e3
    | some d' =>
      rw [hd] at e3; cases e3
      obtain ⟨T, rfl, _, S, ha⟩ := rep_tab r1
      obtain ⟨rfl, _⟩ := rep_str r2
      exact .inr (.inr (.inr (.inr ⟨T, kvs, x', d', rfl, S, rfl, hd, q _ H2 [] (Same.refl _) (rep_dOfV (lookup_all (p := scal1) ha hd)) (fresh_nil _ _)⟩)))
  · cases e3⟩
/-- xs[e], xs a slot, e may change things -/
def eIxV (i : Nat) (eb : EV) : EV := fun s => match (s.loc[i]?).bind Lc.dat with
  | some _ => eB eb (fun k s => match (s.loc[i]?).bind Lc.dat with
    | some d => okV s (dIx d k)
    | none => none) s
  | none => none
end
section
variable {P : Program} {w : World} {K : PySem.W.Frag} {mg : Str → Option Value} {base : Heap} {x : Str} {st : Stmt} {N ps : List Str}
/-- nothing is promised -/
theorem fc_none {c : Ct} {k : Nat} (h : ∃ f fd, Fn K x x st f fd ∧ mg x = some (.ref f)) (b : Bnd x x st ps) (S : FnScope N ps (defScope st)) : Fc P w K mg base (k + 1) x (spD c fun _ _ => none) := by
  obtain ⟨f, fd, F, g⟩ := h
  exact fc_mk F g b S (fun vs H Q E ⟨m, P, F0, ls, os, d, ps', os', _, _, h3, _⟩ => by cases h3) fun cdv A outer s H vs Q E hr ⟨m, P, F0, ls, os, d, ps', os', _, _, h3, _⟩ => by cases h3
end
end Dn
set_option Elab.async false
set_option linter.all false
set_option maxRecDepth 100000
set_option maxHeartbeats 4000000
/-! methods of lists and texts that change nothing; what is not reached -/
namespace Dn
open PySem PySem.Spec PyProof.Rows L2 Tr
section
variable {X : Cx} {x : Str} {e a b o : Expr} {es : List Expr} {pos : Pos} {p : PV} {ps : S → Option (List (D × Bool))} {st : Stmt}
theorem j1_none : J1 X st (fun _ => none) := ⟨fun _ _ _ _ _ _ _ _ z => (show False from z).elim⟩
/-- a method by values -/
def rM (X : Cx) (T : String) (g : D → List D → Option (D × Bool)) : V → List V → Hp → VK → Prop := fun x xs H Q => ∃ m d ds F G d' fr, Rep (ct X) m H x d F ∧ RepL (ct X) m H xs ds G ∧ g d ds = some (d', fr) ∧ VOk X m H d' fr Q
def pBM (g : D → List D → Option (D × Bool)) (p : PV) (ps : S → Option (List (D × Bool))) : PV := fun s => match p s with
  | some (d, _) => match ps s with
    | some ds => g d (ds.map Prod.fst)
    | none => none
  | none => none
/-- the receiver is of the type -/
def tyOk (T : String) : D → Bool
  | .lst _ => T == "list"
  | .frz _ => T == "list"
  | .str _ => T == "str"
  | .dic _ => T == "dict"
  | _ => false
theorem tyOk_v {m : List Addr} {H : Hp} {v : V} {d : D} {F : List Addr} {T : String} (r : Rep (ct X) m H v d F) (h : tyOk T d = true) : tyV X.K T v H := by
  cases r with
  | lst e _ => exact .inl ⟨by simpa [tyOk] using h, _, SqL.of e⟩
  | frz e => exact .inl ⟨by simpa [tyOk] using h, _, e.sq⟩
  | str x => simpa [tyOk, tyV] using h
  | dic e _ _ _ => exact .inr (.inr (.inl ⟨by simpa [tyOk] using h, .inl ⟨_, e⟩⟩))
  | _ => cases h
theorem jp_bm {T id : String} {name : Str} {g : D → List D → Option (D × Bool)} {apos : Pos} (pa : PlainAttrs T) (slot : Slot T name id) (hty : typeOf (.builtin id) = pure (.type "method_descriptor")) (hm : MtR X id (rM X T g)) (hg : ∀ d ds z, g d ds = some z → tyOk T d = true)
    (ho : JP X o p) (h : JA X (e :: es) ps)
    (hbase : attributeBase o name X.env (eval o X.env) = eval o X.env := by rfl)
    (hfew : ((backTo pos (starEach (e :: es) X.env)).all (fun x => !x.1) && (backToKw pos (keywordEach [] X.env)).all (fun x => x.1.isSome)
      && decide ((e :: es).length + ([] : List Keyword).length + (if ([] : List Keyword).isEmpty then 0 else 1) < 30)) = true := by rfl)
    (hline : (apos.endLine == pos.line) = true := by rfl) (hs : starEach (e :: es) X.env = (false, eval e X.env) :: starEach es X.env := by rfl) (hplain : (backTo pos (starEach es X.env)).any (·.1) = false := by rfl) :
    JP X (.Call (.Attribute o name apos) (e :: es) [] pos) (pBM g p ps) := ⟨fun m F0 σ H s r d fr ee Q q => by
  unfold pBM at ee
  split at ee
  · rename_i d0 f0 h0
    split at ee
    · rename_i ds hds
      exact w_bm pa slot hty hm (ho.run m F0 σ H s r d0 f0 h0 _ fun v H1 F s1 r1 _ => ⟨tyOk_v r1 (hg _ _ _ ee), h.run m F0 σ H1 s (r.same s1) ds hds _ fun vs H2 G s2 r2 _ => ⟨m, d0, _, F, G, d, fr, r1.same s2, r2, ee, fun v' H3 F3 s3 r3 n3 => q v' H3 F3 ((s1.trans s2).trans s3) r3 (n3.back (s1.trans s2))⟩⟩) hbase hfew hline hs hplain
    · cases ee
  · cases ee⟩
def dIndex : D → List D → Option (D × Bool)
  | .lst ds, [x] => match flatL ds, x.flat with
    | some vs, some v => (vs.findIdx? fun z => eqV z v).map fun j => (.int (j : Nat), true)
    | _, _ => none
  | _, _ => none
theorem mi_index : MtR X "list.index" (rM X "list" dIndex) := fun pins s σ H x xs v us Q I rx rxs ⟨m, d, ds, F, G, d', fr, r1, r2, e, q⟩ => by
  refine mt_index pins s σ H x xs v us Q I rx rxs ?_
  unfold dIndex at e
  split at e
  · rename_i es x'
    split at e
    · rename_i vs w h1 h2
      cases hf : vs.findIdx? (fun z => eqV z w) with
      | none => rw [hf] at e; cases e
      | some j =>
        rw [hf] at e
        cases e
        obtain ⟨a, ys, G', rfl, _, ha, hy⟩ := rep_lst r1
        obtain ⟨rfl, _, f1⟩ := repL_flat hy h1
        obtain ⟨y, rfl, r3⟩ := repL1 r2
        obtain ⟨rfl, _, f2⟩ := rep_flat r3 h2
        rw [List.findIdx?_eq_some_iff_getElem] at hf
        obtain ⟨hj, h3, h4⟩ := hf
        refine ⟨a, _, _, j, _, rfl, rfl, SqL.of ha, f2, f1, List.getElem?_eq_getElem hj, h3, fun m' z' hm hz => ?_, q.now (.int _)⟩
        have := h4 m' hm
        rw [List.getElem?_eq_getElem (by omega)] at hz
        cases hz
        simpa using this
    · cases e
  · cases e
theorem dIndex_ty : ∀ d ds z, dIndex d ds = some z → tyOk "list" d = true := fun d ds z h => by
  unfold dIndex at h
  split at h
  · rfl
  · cases h
end
section
variable {X : Cx} {x y : Str} {c tg iter elt : Expr} {pos : Pos} {ee : EV} {it : IV} {tc : ET} {T : Ts} {sc : Scope}
theorem je_lc0 (own : List (Str × Nat)) (hc : X.calm = true) (hN : X.N.Nodup) (ok : BlkOk X.N X.env.scope sc own) (hg : ∀ (s : Shared) (H : Hp) (C : Addr) (cl : List (Str × Addr)) (fp : List Addr), PG (X.blk s H sc (compEnvC sc cl C X.env) fp) tg (gOf X.K T))
    (hi : JI X tg iter it) (he : ∀ (s : Shared) (H0 : Hp) (C : Addr) (cl : List (Str × Addr)) (fp : List Addr), JE (X.blk s H0 sc (compEnvC sc cl C X.env) fp) elt ee) (hT : T.inn (own.map (·.2)) = true := by rfl) (hs : ∀ x, foldedSetIterable iter X.env x = pure x := by intro _; rfl) : JE X (.ListComp elt [⟨tg, iter, [], 0⟩] sc pos) (eLc (own.map (·.2)) T it tYes' ee) :=
  je_lc own hc hN ok hg hi (show JTb X sc [] tYes' from rfl) he hT hs
theorem je_lc1 (own : List (Str × Nat)) (hc : X.calm = true) (hN : X.N.Nodup) (ok : BlkOk X.N X.env.scope sc own) (hg : ∀ (s : Shared) (H : Hp) (C : Addr) (cl : List (Str × Addr)) (fp : List Addr), PG (X.blk s H sc (compEnvC sc cl C X.env) fp) tg (gOf X.K T))
    (hi : JI X tg iter it) (ht : ∀ (s : Shared) (H0 : Hp) (C : Addr) (cl : List (Str × Addr)) (fp : List Addr), JTE (X.blk s H0 sc (compEnvC sc cl C X.env) fp) c tc) (he : ∀ (s : Shared) (H0 : Hp) (C : Addr) (cl : List (Str × Addr)) (fp : List Addr), JE (X.blk s H0 sc (compEnvC sc cl C X.env) fp) elt ee) (hT : T.inn (own.map (·.2)) = true := by rfl) (hs : ∀ x, foldedSetIterable iter X.env x = pure x := by intro _; rfl) : JE X (.ListComp elt [⟨tg, iter, [c], 0⟩] sc pos) (eLc (own.map (·.2)) T it tc ee) :=
  je_lc own hc hN ok hg hi (show JTb X sc [c] tc from ht) he hT hs
theorem j1_setLc0 {i : Nat} {py pos2 : Pos} (own : List (Str × Nat)) (hc : X.calm = true) (hN : X.N.Nodup) (ok : BlkOk X.N X.env.scope sc own) (hg : ∀ (s : Shared) (H : Hp) (C : Addr) (cl : List (Str × Addr)) (fp : List Addr), PG (X.blk s H sc (compEnvC sc cl C X.env) fp) tg (gOf X.K T))
    (hi : JI X tg iter it) (he : ∀ (s : Shared) (H0 : Hp) (C : Addr) (cl : List (Str × Addr)) (fp : List Addr), JE (X.blk s H0 sc (compEnvC sc cl C X.env) fp) elt ee) (hT : T.inn (own.map (·.2)) = true := by rfl) (hsw : swapsWith (.ListComp elt [⟨tg, iter, [], 0⟩] sc pos2) (some (.Name y py)) pos.line X.env = pure true := by rfl)
    (hni : X.N[i]? = some y := by rfl) (hy : X.env.scope.names.lookup y = some .local := by rfl) (hs : ∀ x, foldedSetIterable iter X.env x = pure x := by intro _; rfl) :
    J1 X (.Assign [.Name y py] (.ListComp elt [⟨tg, iter, [], 0⟩] sc pos2) pos) (sSet i (eLc (own.map (·.2)) T it tYes' ee)) :=
  j1_setLc own hc hN ok hg hi (show JTb X sc [] tYes' from rfl) he hT hsw hni hy hs
theorem j1_setLc1 {i : Nat} {py pos2 : Pos} (own : List (Str × Nat)) (hc : X.calm = true) (hN : X.N.Nodup) (ok : BlkOk X.N X.env.scope sc own) (hg : ∀ (s : Shared) (H : Hp) (C : Addr) (cl : List (Str × Addr)) (fp : List Addr), PG (X.blk s H sc (compEnvC sc cl C X.env) fp) tg (gOf X.K T))
    (hi : JI X tg iter it) (ht : ∀ (s : Shared) (H0 : Hp) (C : Addr) (cl : List (Str × Addr)) (fp : List Addr), JTE (X.blk s H0 sc (compEnvC sc cl C X.env) fp) c tc) (he : ∀ (s : Shared) (H0 : Hp) (C : Addr) (cl : List (Str × Addr)) (fp : List Addr), JE (X.blk s H0 sc (compEnvC sc cl C X.env) fp) elt ee) (hT : T.inn (own.map (·.2)) = true := by rfl) (hsw : swapsWith (.ListComp elt [⟨tg, iter, [c], 0⟩] sc pos2) (some (.Name y py)) pos.line X.env = pure true := by rfl)
    (hni : X.N[i]? = some y := by rfl) (hy : X.env.scope.names.lookup y = some .local := by rfl) (hs : ∀ x, foldedSetIterable iter X.env x = pure x := by intro _; rfl) :
    J1 X (.Assign [.Name y py] (.ListComp elt [⟨tg, iter, [c], 0⟩] sc pos2) pos) (sSet i (eLc (own.map (·.2)) T it tc ee)) :=
  j1_setLc own hc hN ok hg hi (show JTb X sc [c] tc from ht) he hT hsw hni hy hs
end
end Dn
set_option Elab.async false
set_option linter.all false
set_option maxRecDepth 100000
set_option maxHeartbeats 4000000
/-! what the words come to, at a state that is written out -/
namespace Dn
open PySem PySem.Spec PyProof.Rows L2 Tr
theorem ite_cl {α : Type} {p : Prop} [Decidable p] {a b : α} : @ite α p (Classical.propDecidable p) a b = ite p a b := by
  by_cases h : p <;> simp [h]
section
variable {l o : List Lc} {i j n : Nat} {d x y k : D} {f fr : Bool} {p q pa pb pc : PV} {t u : TB} {ea eb : EV} {ta tb : ET} {s : S} {g g' : D → D → Option (D × Bool)}
@[simp] theorem dat_no : Lc.dat .no = none := rfl
@[simp] theorem dat_bor : Lc.dat (.bor d) = some d := rfl
@[simp] theorem dat_par : Lc.dat (.par d) = some d := rfl
@[simp] theorem dat_own : Lc.dat (.own d) = some d := rfl
@[simp] theorem pVar_ev : pVar i ⟨l, o⟩ = ((l[i]?).bind Lc.dat).map fun d => (d, false) := rfl
@[simp] theorem pC_ev : pC d ⟨l, o⟩ = some (d, true) := rfl
def p2 (g : D → D → Option (D × Bool)) : Option (D × Bool) → Option (D × Bool) → Option (D × Bool)
  | some (x, _), some (y, _) => g x y
  | _, _ => none
@[simp] theorem p2_ev : p2 g (some (x, f)) (some (y, fr)) = g x y := rfl
@[simp] theorem pOp_ev : pOp g pa pb ⟨l, o⟩ = p2 g (pa ⟨l, o⟩) (pb ⟨l, o⟩) := by
  unfold pOp p2
  cases pa ⟨l, o⟩ with
  | none => rfl
  | some z => obtain ⟨a, b⟩ := z; cases pb ⟨l, o⟩ with
    | none => rfl
    | some z => rfl
def toB : Option (D × Bool) → Option Bool
  | some (.bl b, _) => some b
  | _ => none
@[simp] theorem toB_ev {b : Bool} : toB (some (.bl b, f)) = some b := rfl
@[simp] theorem tB_ev : tB' p ⟨l, o⟩ = toB (p ⟨l, o⟩) := rfl
@[simp] theorem tNot_ev : tNot' t ⟨l, o⟩ = (t ⟨l, o⟩).map (!·) := rfl
def andO : Option Bool → Option Bool → Option Bool
  | some true, z => z
  | some false, _ => some false
  | none, _ => none
def orO : Option Bool → Option Bool → Option Bool
  | some true, _ => some true
  | some false, z => z
  | none, _ => none
@[simp] theorem andO_t {z : Option Bool} : andO (some true) z = z := rfl
@[simp] theorem andO_f {z : Option Bool} : andO (some false) z = some false := rfl
@[simp] theorem orO_t {z : Option Bool} : orO (some true) z = some true := rfl
@[simp] theorem orO_f {z : Option Bool} : orO (some false) z = z := rfl
theorem andO_b {a b : Bool} : andO (some a) (some b) = some (a && b) := by cases a <;> rfl
theorem orO_b {a b : Bool} : orO (some a) (some b) = some (a || b) := by cases a <;> rfl
@[simp] theorem tAnd_ev : tAnd' t u ⟨l, o⟩ = andO (t ⟨l, o⟩) (u ⟨l, o⟩) := by
  unfold tAnd' andO
  cases t ⟨l, o⟩ with
  | none => rfl
  | some b => cases b <;> rfl
@[simp] theorem tOr_ev : tOr' t u ⟨l, o⟩ = orO (t ⟨l, o⟩) (u ⟨l, o⟩) := by
  unfold tOr' orO
  cases t ⟨l, o⟩ with
  | none => rfl
  | some b => cases b <;> rfl
def blO (z : Option Bool) : Option (D × Bool) := z.map fun b => (.bl b, true)
@[simp] theorem blO_ev {b : Bool} : blO (some b) = some (.bl b, true) := rfl
@[simp] theorem pNot_ev : pNot p ⟨l, o⟩ = blO ((toB (p ⟨l, o⟩)).map (!·)) := by
  show (tB' p ⟨l, o⟩).map _ = _
  rw [tB_ev]
  cases toB (p ⟨l, o⟩) <;> rfl
@[simp] theorem pAnd_ev : pAnd p q ⟨l, o⟩ = blO (andO (toB (p ⟨l, o⟩)) (toB (q ⟨l, o⟩))) := by
  unfold pAnd
  rw [tB_ev, tB_ev]
  cases toB (p ⟨l, o⟩) with
  | none => rfl
  | some b => cases b <;> rfl
@[simp] theorem pOr_ev : pOr p q ⟨l, o⟩ = blO (orO (toB (p ⟨l, o⟩)) (toB (q ⟨l, o⟩))) := by
  unfold pOr
  rw [tB_ev, tB_ev]
  cases toB (p ⟨l, o⟩) with
  | none => rfl
  | some b => cases b <;> rfl
def ifO {α : Type} : Option Bool → Option α → Option α → Option α
  | some true, a, _ => a
  | some false, _, b => b
  | none, _, _ => none
@[simp] theorem ifO_ev {α : Type} {b : Bool} {x y : Option α} : ifO (some b) x y = if b then x else y := by cases b <;> rfl
@[simp] theorem pIf_ev : pIf t p q ⟨l, o⟩ = ifO (t ⟨l, o⟩) (p ⟨l, o⟩) (q ⟨l, o⟩) := by
  unfold pIf ifO
  cases t ⟨l, o⟩ with
  | none => rfl
  | some b => cases b <;> rfl
def ch2 (g g' : D → D → Option (D × Bool)) : Option (D × Bool) → Option (D × Bool) → Option (D × Bool) → Option (D × Bool)
  | some (x, _), some (y, _), z => ifO (toB (g x y)) (p2 g' (some (y, true)) z) (some (.bl false, true))
  | _, _, _ => none
@[simp] theorem ch2_ev {f2 : Bool} {z : Option (D × Bool)} : ch2 g g' (some (x, f)) (some (y, f2)) z = ifO (toB (g x y)) (p2 g' (some (y, true)) z) (some (.bl false, true)) := rfl
@[simp] theorem pChain_ev : pChain g g' pa pb pc ⟨l, o⟩ = ch2 g g' (pa ⟨l, o⟩) (pb ⟨l, o⟩) (pc ⟨l, o⟩) := by
  unfold pChain ch2
  cases pa ⟨l, o⟩ with
  | none => rfl
  | some a =>
    obtain ⟨a, fa⟩ := a
    cases pb ⟨l, o⟩ with
    | none => rfl
    | some b =>
      obtain ⟨b, fb⟩ := b
      simp only
      cases hg : g a b with
      | none => rfl
      | some z =>
        obtain ⟨z, fz⟩ := z
        cases z with
        | bl bb => cases bb with
          | false => rfl
          | true => cases pc ⟨l, o⟩ with
            | none => rfl
            | some c => rfl
        | _ => rfl
/-! several -/
@[simp] theorem aNil_ev : aNil ⟨l, o⟩ = some [] := rfl
def consO {α : Type} : Option α → Option (List α) → Option (List α)
  | some x, some r => some (x :: r)
  | _, _ => none
@[simp] theorem consO_ev {α : Type} {x : α} {r : List α} : consO (some x) (some r) = some (x :: r) := rfl
@[simp] theorem aCons_ev {r : S → Option (List (D × Bool))} : aCons p r ⟨l, o⟩ = consO (p ⟨l, o⟩) (r ⟨l, o⟩) := by
  unfold aCons consO
  cases p ⟨l, o⟩ with
  | none => rfl
  | some z => cases r ⟨l, o⟩ <;> rfl
def tupO : Option (List (D × Bool)) → Option (D × Bool)
  | some ds => if ds.length ≤ 1000 then some (.tup (ds.map Prod.fst), ds.all frs) else none
  | none => none
def lstO : Option (List (D × Bool)) → Option (D × Bool)
  | some ds => if ds.length ≤ 1000 then some (.lst (ds.map Prod.fst), ds.all frs) else none
  | none => none
@[simp] theorem frs_ev : frs (d, f) = (f || d.imm) := rfl
@[simp] theorem pTup_ev {r : S → Option (List (D × Bool))} : pTup r ⟨l, o⟩ = tupO (r ⟨l, o⟩) := rfl
@[simp] theorem pLst_ev {r : S → Option (List (D × Bool))} : pLst r ⟨l, o⟩ = lstO (r ⟨l, o⟩) := rfl
@[simp] theorem tupO_ev {ds : List (D × Bool)} : tupO (some ds) = if ds.length ≤ 1000 then some (.tup (ds.map Prod.fst), ds.all frs) else none := rfl
@[simp] theorem lstO_ev {ds : List (D × Bool)} : lstO (some ds) = if ds.length ≤ 1000 then some (.lst (ds.map Prod.fst), ds.all frs) else none := rfl
def callO (g : List D → Option (D × Bool)) : Option (List (D × Bool)) → Option (D × Bool)
  | some ds => g (ds.map Prod.fst)
  | none => none
@[simp] theorem callO_ev {g : List D → Option (D × Bool)} {ds : List (D × Bool)} : callO g (some ds) = g (ds.map Prod.fst) := rfl
@[simp] theorem pCall_ev {g : List D → Option (D × Bool)} {r : S → Option (List (D × Bool))} : pCall g r ⟨l, o⟩ = callO g (r ⟨l, o⟩) := rfl
def fnO (den : Den) (o : List Lc) : Option (List (D × Bool)) → Option (D × Bool)
  | some ds => match den ((ds.map Prod.fst).map Lc.bor) (o.map Lc.bo) with
    | some (.ret d _ os') => if os'.length = o.length then some (d, true) else none
    | none => none
  | none => none
def retO (n : Nat) : Option DOut → Option (D × Bool)
  | some (.ret d _ os') => if os'.length = n then some (d, true) else none
  | none => none
@[simp] theorem retO_ev {ps os : List Lc} : retO n (some (.ret d ps os)) = if os.length = n then some (d, true) else none := rfl
@[simp] theorem pFn_ev {den : Den} {r : S → Option (List (D × Bool))} : pFn den r ⟨l, o⟩ = fnO den o (r ⟨l, o⟩) := rfl
@[simp] theorem fnO_ev {den : Den} {ds : List (D × Bool)} : fnO den o (some ds) = retO o.length (den ((ds.map Prod.fst).map Lc.bor) (o.map Lc.bo)) := by
  show (match den ((ds.map Prod.fst).map Lc.bor) (o.map Lc.bo) with
    | some (.ret d _ os') => if os'.length = o.length then some (d, true) else none
    | none => none) = _
  cases den ((ds.map Prod.fst).map Lc.bor) (o.map Lc.bo) with
  | none => rfl
  | some z => cases z; rfl
def slO : Option (D × Bool) → Option (Option Int) → Option (Option Int) → Option (D × Bool)
  | some (x, _), some a, some b => dSl x a b
  | _, _, _ => none
@[simp] theorem slO_ev {a b : Option Int} : slO (some (x, f)) (some a) (some b) = dSl x a b := rfl
@[simp] theorem pSl_ev {u v : S → Option (Option Int)} : pSl p u v ⟨l, o⟩ = slO (p ⟨l, o⟩) (u ⟨l, o⟩) (v ⟨l, o⟩) := by
  unfold pSl slO
  cases p ⟨l, o⟩ with
  | none => rfl
  | some z => cases u ⟨l, o⟩ with
    | none => rfl
    | some a => cases v ⟨l, o⟩ <;> rfl
@[simp] theorem oNo_ev : oNo ⟨l, o⟩ = some none := rfl
def intO : Option (D × Bool) → Option (Option Int)
  | some (.int i, _) => some (some i)
  | _ => none
@[simp] theorem intO_ev {i : Int} : intO (some (.int i, f)) = some (some i) := rfl
@[simp] theorem oE_ev : oE p ⟨l, o⟩ = intO (p ⟨l, o⟩) := rfl
def isiO (T : String) : Option (D × Bool) → Option (D × Bool)
  | some (d, _) => (isD T d).map fun b => (.bl b, true)
  | none => none
@[simp] theorem isiO_ev {T : String} : isiO T (some (d, f)) = (isD T d).map fun b => (.bl b, true) := rfl
@[simp] theorem pIsi_ev {T : String} : pIsi T p ⟨l, o⟩ = isiO T (p ⟨l, o⟩) := rfl
def get3 : Option (D × Bool) → Option (D × Bool) → Option (D × Bool) → Option (D × Bool)
  | some (d, _), some (k, _), some (x, _) => dGet2 d k x
  | _, _, _ => none
@[simp] theorem get3_ev {f1 f2 f3 : Bool} : get3 (some (d, f1)) (some (k, f2)) (some (x, f3)) = dGet2 d k x := rfl
@[simp] theorem pGet_ev : pGet pa pb pc ⟨l, o⟩ = get3 (pa ⟨l, o⟩) (pb ⟨l, o⟩) (pc ⟨l, o⟩) := by
  unfold pGet get3
  cases pa ⟨l, o⟩ with
  | none => rfl
  | some z => cases pb ⟨l, o⟩ with
    | none => rfl
    | some a => cases pc ⟨l, o⟩ <;> rfl
def kgO (kvs : List (Str × V)) : Option (D × Bool) → Option (D × Bool)
  | some (.str x, _) => some (dOfV ((kvs.lookup x).getD .non), true)
  | _ => none
@[simp] theorem kgO_ev {kvs : List (Str × V)} {x : Str} : kgO kvs (some (.str x, f)) = some (dOfV ((kvs.lookup x).getD .non), true) := rfl
@[simp] theorem pKget_ev {kvs : List (Str × V)} : pKget kvs p ⟨l, o⟩ = kgO kvs (p ⟨l, o⟩) := rfl
def bmO (g : D → List D → Option (D × Bool)) : Option (D × Bool) → Option (List (D × Bool)) → Option (D × Bool)
  | some (d, _), some ds => g d (ds.map Prod.fst)
  | _, _ => none
@[simp] theorem bmO_ev {g : D → List D → Option (D × Bool)} {ds : List (D × Bool)} : bmO g (some (d, f)) (some ds) = g d (ds.map Prod.fst) := rfl
@[simp] theorem pBM_ev {g : D → List D → Option (D × Bool)} {r : S → Option (List (D × Bool))} : pBM g p r ⟨l, o⟩ = bmO g (p ⟨l, o⟩) (r ⟨l, o⟩) := by
  unfold pBM bmO
  cases p ⟨l, o⟩ with
  | none => rfl
  | some z => cases r ⟨l, o⟩ <;> rfl
def revO : Option (D × Bool) → Option (D × Bool)
  | some (.tup [a, b], _) => if a.imm = true ∧ b.imm = true then some (.tup [b, a], true) else none
  | _ => none
@[simp] theorem revO_ev : revO (some (.tup [x, y], f)) = if x.imm = true ∧ y.imm = true then some (.tup [y, x], true) else none := rfl
@[simp] theorem pRev_ev : pRev p ⟨l, o⟩ = revO (p ⟨l, o⟩) := rfl
def fldO (C : Addr) (f : Str) : Option D → Option (D × Bool)
  | some (.ins C' fs) => if C' = C then (glook fs f).map fun d => (d, false) else none
  | _ => none
@[simp] theorem fldO_ev {C C' : Addr} {f : Str} {fs : List (Str × D)} : fldO C f (some (.ins C' fs)) = if C' = C then (glook fs f).map fun d => (d, false) else none := rfl
def ptO {α : Type} (g : Nat → Option α) : Option (D × Bool) → Option α
  | some (.ptr n, _) => g n
  | _ => none
@[simp] theorem ptO_ev {α : Type} {g : Nat → Option α} : ptO g (some (.ptr n, f)) = g n := rfl
@[simp] theorem at_ev : S.at ⟨l, o⟩ n = (o[n]?).bind Lc.dat := rfl
@[simp] theorem pFld_ev {C : Addr} {f : Str} : pFld C f p ⟨l, o⟩ = ptO (fun n => fldO C f ((o[n]?).bind Lc.dat)) (p ⟨l, o⟩) := by
  unfold pFld ptO fldO
  rfl
def mtO (C : Addr) (mn : Str) (den : Den) (o : List Lc) (n : Nat) (f : Bool) (r : Option (List (D × Bool))) : Option D → Option (D × Bool)
  | some (.ins C' fs) => if C' = C ∧ glook fs mn = none then fnO den o (r.map fun ds => (.ptr n, f) :: ds) else none
  | _ => none
@[simp] theorem mtO_ev {C C' : Addr} {mn : Str} {den : Den} {fs : List (Str × D)} {r : List (D × Bool)} : mtO C mn den o n f (some r) (some (.ins C' fs)) = if C' = C ∧ glook fs mn = none then fnO den o (some ((.ptr n, f) :: r)) else none := rfl
def ptO2 {α : Type} (g : Nat → Bool → Option α) : Option (D × Bool) → Option α
  | some (.ptr n, f) => g n f
  | _ => none
@[simp] theorem ptO2_ev {α : Type} {g : Nat → Bool → Option α} : ptO2 g (some (.ptr n, f)) = g n f := rfl
@[simp] theorem pMt_ev {C : Addr} {mn : Str} {den : Den} {r : S → Option (List (D × Bool))} : pMt C mn den p r ⟨l, o⟩ = ptO2 (fun n f => mtO C mn den o n f (r ⟨l, o⟩) ((o[n]?).bind Lc.dat)) (p ⟨l, o⟩) := by
  unfold pMt ptO2 mtO
  rfl
/-! effects -/
@[simp] theorem okV_ev : okV s (some (d, fr)) = if fr = true ∨ d.imm = true then some (.ok d s) else none := rfl
@[simp] theorem eP_ev : eP p ⟨l, o⟩ = okV ⟨l, o⟩ (p ⟨l, o⟩) := rfl
def okT (s : S) (z : Option Bool) : Option (Res Bool) := z.map fun b => .ok b s
@[simp] theorem okT_ev {b : Bool} : okT s (some b) = some (.ok b s) := rfl
@[simp] theorem tP_ev : tP' t ⟨l, o⟩ = okT ⟨l, o⟩ (t ⟨l, o⟩) := rfl
def bO {α β : Type} (z : Option (Res α)) (f : α → S → Option (Res β)) : Option (Res β) := match z with
  | some (.ok a s1) => f a s1
  | some (.ex x s1) => some (.ex x s1)
  | none => none
@[simp] theorem bO_ev {α β : Type} {a : α} {f : α → S → Option (Res β)} : bO (some (.ok a s)) f = f a s := rfl
@[simp] theorem eB_ev {α β : Type} {p : S → Option (Res α)} {f : α → S → Option (Res β)} : eB p f ⟨l, o⟩ = bO (p ⟨l, o⟩) f := rfl
@[simp] theorem eOp_ev : eOp g ea eb ⟨l, o⟩ = bO (ea ⟨l, o⟩) (fun x => eB eb fun y s => okV s (g x y)) := rfl
@[simp] theorem tV_ev : tV ea ⟨l, o⟩ = bO (ea ⟨l, o⟩) (fun d s => match d with
  | .bl b => some (.ok b s)
  | _ => none) := rfl
@[simp] theorem tNotE_ev : tNotE ta ⟨l, o⟩ = bO (ta ⟨l, o⟩) (fun b s => some (.ok (!b) s)) := rfl
@[simp] theorem tAndE_ev : tAndE ta tb ⟨l, o⟩ = bO (ta ⟨l, o⟩) (fun b s => if b then tb s else some (.ok false s)) := rfl
@[simp] theorem tOrE_ev : tOrE ta tb ⟨l, o⟩ = bO (ta ⟨l, o⟩) (fun b s => if b then some (.ok true s) else tb s) := rfl
@[simp] theorem eNot_ev : eNot ea ⟨l, o⟩ = bO (tV ea ⟨l, o⟩) (fun b s => some (.ok (.bl (!b)) s)) := rfl
@[simp] theorem eIf_ev : eIf ta ea eb ⟨l, o⟩ = bO (ta ⟨l, o⟩) (fun b s => if b then ea s else eb s) := rfl
@[simp] theorem eaNil_ev : eaNil ⟨l, o⟩ = some (.ok [] ⟨l, o⟩) := rfl
@[simp] theorem eaCons_ev {r : EA} : eaCons ea r ⟨l, o⟩ = bO (ea ⟨l, o⟩) (fun d => eB r fun ds s => some (.ok (d :: ds) s)) := rfl
@[simp] theorem eTup_ev {r : EA} : eTup r ⟨l, o⟩ = bO (r ⟨l, o⟩) (fun ds s => if ds.length ≤ 1000 then some (.ok (.tup ds) s) else none) := rfl
@[simp] theorem eLst_ev {r : EA} : eLst r ⟨l, o⟩ = bO (r ⟨l, o⟩) (fun ds s => if ds.length ≤ 1000 then some (.ok (.lst ds) s) else none) := rfl
@[simp] theorem eCall_ev {g : List D → Option (D × Bool)} {r : EA} : eCall g r ⟨l, o⟩ = bO (r ⟨l, o⟩) (fun ds s => okV s (g ds)) := rfl
@[simp] theorem gNil_ev : gNil' ⟨l, o⟩ = some (.ok [] ⟨l, o⟩) := rfl
@[simp] theorem gE_ev {r : EG} : gE ea r ⟨l, o⟩ = bO (ea ⟨l, o⟩) (fun d => eB r fun as s => some (.ok (.val d :: as) s)) := rfl
def hasO (z : Option D) (y : Option (Res (List AV))) : Option (Res (List AV)) := match z with
  | some _ => y
  | none => none
@[simp] theorem hasO_ev {y : Option (Res (List AV))} : hasO (some d) y = y := rfl
@[simp] theorem gN_ev {r : EG} : gN i r ⟨l, o⟩ = hasO ((l[i]?).bind Lc.dat) (bO (r ⟨l, o⟩) (fun as s => some (.ok (.slot i :: as) s))) := by
  unfold gN hasO
  rfl
@[simp] theorem eFn_ev {den : Den} {r : EG} : eFn den r ⟨l, o⟩ = bO (r ⟨l, o⟩) (fun as => doCall den as) := rfl
def lendO (z : Option (List Lc × S)) (x : Lc) : Option (List Lc × S) := z.map fun z => (x :: z.1, z.2)
@[simp] theorem lendO_ev {ls : List Lc} {z : Lc} : lendO (some (ls, s)) z = some (z :: ls, s) := rfl
@[simp] theorem lend_nil : lend [] s = some ([], s) := rfl
@[simp] theorem lend_val {r : List AV} : lend (.val d :: r) ⟨l, o⟩ = lendO (lend r ⟨l, o⟩) (lcOf d) := rfl
def slotO (l : List Lc) (o : List Lc) (i : Nat) (r : List AV) : Option Lc → Option (List Lc × S)
  | some (.own d) => lendO (lend r ⟨l.set i .no, o⟩) (.par d)
  | some (.par d) => lendO (lend r ⟨l.set i .no, o⟩) (.par d)
  | some (.bor d) => lendO (lend r ⟨l, o⟩) (.bor d)
  | _ => none
@[simp] theorem slotO_own {r : List AV} : slotO l o i r (some (.own d)) = lendO (lend r ⟨l.set i .no, o⟩) (.par d) := rfl
@[simp] theorem slotO_par {r : List AV} : slotO l o i r (some (.par d)) = lendO (lend r ⟨l.set i .no, o⟩) (.par d) := rfl
@[simp] theorem slotO_bor {r : List AV} : slotO l o i r (some (.bor d)) = lendO (lend r ⟨l, o⟩) (.bor d) := rfl
@[simp] theorem lend_slot {r : List AV} : lend (.slot i :: r) ⟨l, o⟩ = slotO l o i r l[i]? := rfl
@[simp] theorem give_nil {s0 : S} : give s0 [] [] s = some s := rfl
@[simp] theorem give_val {s0 : S} {r : List AV} {z : Lc} {ps : List Lc} : give s0 (.val d :: r) (z :: ps) s = give s0 r ps s := rfl
def giveO (s0 : S) (i : Nat) (r : List AV) (ps l o : List Lc) : Option Lc → Lc → Option Lc → Option S
  | some (.own _), .par d, some .no => give s0 r ps ⟨l.set i (.own d), o⟩
  | some (.par _), .par d, some .no => give s0 r ps ⟨l.set i (.par d), o⟩
  | some (.bor _), _, _ => give s0 r ps ⟨l, o⟩
  | _, _, _ => none
@[simp] theorem giveO_own {s0 : S} {r : List AV} {ps : List Lc} : giveO s0 i r ps l o (some (.own x)) (.par d) (some .no) = give s0 r ps ⟨l.set i (.own d), o⟩ := rfl
@[simp] theorem giveO_par {s0 : S} {r : List AV} {ps : List Lc} : giveO s0 i r ps l o (some (.par x)) (.par d) (some .no) = give s0 r ps ⟨l.set i (.par d), o⟩ := rfl
@[simp] theorem giveO_bor {s0 : S} {r : List AV} {ps : List Lc} {z : Lc} {w : Option Lc} : giveO s0 i r ps l o (some (.bor x)) z w = give s0 r ps ⟨l, o⟩ := rfl
@[simp] theorem give_slot {l0 o0 : List Lc} {r : List AV} {z : Lc} {ps : List Lc} : give ⟨l0, o0⟩ (.slot i :: r) (z :: ps) ⟨l, o⟩ = giveO ⟨l0, o0⟩ i r ps l o l0[i]? z l[i]? := rfl
def outO (s : S) (as : List AV) (l2 : List Lc) : Option DOut → Option (Res D)
  | some (.ret d ps os) => (give s as ps ⟨l2, os⟩).map fun s3 => .ok d s3
  | none => none
@[simp] theorem outO_ev {as : List AV} {l2 ps os : List Lc} : outO s as l2 (some (.ret d ps os)) = (give s as ps ⟨l2, os⟩).map fun s3 => .ok d s3 := rfl
def lent (den : Den) (as : List AV) (s : S) : Option (List Lc × S) → Option (Res D)
  | some (ls, s2) => outO s as s2.loc (den ls s2.obj)
  | none => none
@[simp] theorem lent_ev {den : Den} {as : List AV} {ls l2 o2 : List Lc} : lent den as s (some (ls, ⟨l2, o2⟩)) = outO s as l2 (den ls o2) := rfl
@[simp] theorem doCall_ev {den : Den} {as : List AV} : doCall den as ⟨l, o⟩ = lent den as ⟨l, o⟩ (lend as ⟨l, o⟩) := by
  unfold doCall lent outO
  cases lend as ⟨l, o⟩ with
  | none => rfl
  | some z =>
    obtain ⟨ls, s2⟩ := z
    simp only
    cases den ls s2.obj with
    | none => rfl
    | some z =>
      cases z with
      | ret d ps os =>
        simp only
        cases give ⟨l, o⟩ as ps ⟨s2.loc, os⟩ <;> rfl
def mtE (C : Addr) (mn : Str) (den : Den) (g : Option (Res (List AV))) (n : Nat) : Option D → Option (Res D)
  | some (.ins C' fs) => if C' = C ∧ glook fs mn = none then bO g (fun as => doCall den (.val (.ptr n) :: as)) else none
  | _ => none
@[simp] theorem mtE_ev {C C' : Addr} {mn : Str} {den : Den} {z : Option (Res (List AV))} {fs : List (Str × D)} : mtE C mn den z n (some (.ins C' fs)) = if C' = C ∧ glook fs mn = none then bO z (fun as => doCall den (.val (.ptr n) :: as)) else none := rfl
@[simp] theorem eMt_ev {C : Addr} {mn : Str} {den : Den} {r : EG} : eMt C mn den p r ⟨l, o⟩ = ptO (fun n => mtE C mn den (r ⟨l, o⟩) n ((o[n]?).bind Lc.dat)) (p ⟨l, o⟩) := by
  unfold eMt ptO mtE
  rfl
def mkO (n : Nat) : Option (Res D) → Option (Res D)
  | some (.ok .non s3) => some (.ok (.ptr n) s3)
  | _ => none
@[simp] theorem mkO_ev : mkO n (some (.ok .non s)) = some (.ok (.ptr n) s) := rfl
@[simp] theorem eMk_ev {C : Addr} {den : Den} {r : EG} : eMk C den r ⟨l, o⟩ = bO (r ⟨l, o⟩) (fun as s => mkO s.obj.length (doCall den (.val (.ptr s.obj.length) :: as) ⟨s.loc, s.obj ++ [.own (.ins C [])]⟩)) := by
  unfold eMk eB bO mkO
  rfl
end
section
variable {l o : List Lc} {i j n : Nat} {d x y k : D} {f fr : Bool} {p q pa pb pc : PV} {t u : TB} {ea eb : EV} {ta tb : ET} {s : S} {r : SV} {z : Option Fl}
/-! slots -/
@[simp] theorem lcOf_ev : lcOf d = if d.imm then .bor d else .own d := rfl
def putO (l o : List Lc) (i : Nat) (d : D) : Option Lc → Option S
  | some (.par _) => none
  | some _ => some ⟨l.set i (lcOf d), o⟩
  | none => none
@[simp] theorem putO_no : putO l o i d (some .no) = some ⟨l.set i (lcOf d), o⟩ := rfl
@[simp] theorem putO_bor : putO l o i d (some (.bor x)) = some ⟨l.set i (lcOf d), o⟩ := rfl
@[simp] theorem putO_own : putO l o i d (some (.own x)) = some ⟨l.set i (lcOf d), o⟩ := rfl
@[simp] theorem put_ev : S.put ⟨l, o⟩ i d = putO l o i d l[i]? := by
  unfold S.put putO
  rfl
def setBO (l o : List Lc) (i : Nat) (d : D) : Option Lc → Option S
  | some (.par _) => none
  | some _ => some ⟨l.set i (.bor d), o⟩
  | none => none
@[simp] theorem setBO_no : setBO l o i d (some .no) = some ⟨l.set i (.bor d), o⟩ := rfl
@[simp] theorem setBO_bor : setBO l o i d (some (.bor x)) = some ⟨l.set i (.bor d), o⟩ := rfl
@[simp] theorem setBO_own : setBO l o i d (some (.own x)) = some ⟨l.set i (.bor d), o⟩ := rfl
@[simp] theorem setB_ev : S.setB ⟨l, o⟩ i d = setBO l o i d l[i]? := by
  unfold S.setB setBO
  rfl
@[simp] theorem setBs_nil : S.setBs [] [] s = some s := rfl
@[simp] theorem setBs_cons {is : List Nat} {ds : List D} : S.setBs (i :: is) (d :: ds) ⟨l, o⟩ = (S.setB ⟨l, o⟩ i d).bind (S.setBs is ds) := rfl
@[simp] theorem bindT_one : bindT (.one i) d ⟨l, o⟩ = S.setB ⟨l, o⟩ i d := rfl
@[simp] theorem bindT_tup {is : List Nat} {ds : List D} : bindT (.tup is) (.tup ds) ⟨l, o⟩ = S.setBs is ds ⟨l, o⟩ := rfl
@[simp] theorem puts_nil : S.puts [] [] s = some s := rfl
@[simp] theorem puts_cons {is : List Nat} {ds : List D} : S.puts (i :: is) (d :: ds) ⟨l, o⟩ = (S.put ⟨l, o⟩ i d).bind (S.puts is ds) := rfl
def unbO (i : Nat) (z : Option S) : Option S := match z with
  | some s1 => match s1.loc[i]? with
    | some (.bor _) => some { s1 with loc := s1.loc.set i .no }
    | some .no => some { s1 with loc := s1.loc.set i .no }
    | _ => none
  | none => none
def unbP (l o : List Lc) (i : Nat) : Option Lc → Option S
  | some (.bor _) => some ⟨l.set i .no, o⟩
  | some .no => some ⟨l.set i .no, o⟩
  | _ => none
@[simp] theorem unbP_bor : unbP l o i (some (.bor x)) = some ⟨l.set i .no, o⟩ := rfl
@[simp] theorem unbP_no : unbP l o i (some .no) = some ⟨l.set i .no, o⟩ := rfl
@[simp] theorem unb_nil : S.unb [] s = some s := rfl
@[simp] theorem unbO_ev : unbO i (some ⟨l, o⟩) = unbP l o i l[i]? := by
  unfold unbO unbP
  rfl
@[simp] theorem unb_cons {is : List Nat} : S.unb (i :: is) ⟨l, o⟩ = unbO i (S.unb is ⟨l, o⟩) := rfl
def getO (st : List Step) : Option Lc → Option D
  | some (.own d) => d.getP st
  | some (.par d) => d.getP st
  | _ => none
@[simp] theorem getO_own {st : List Step} : getO st (some (.own d)) = d.getP st := rfl
@[simp] theorem getO_par {st : List Step} : getO st (some (.par d)) = d.getP st := rfl
@[simp] theorem get_loc {st : List Step} : S.get ⟨l, o⟩ ⟨false, i, st⟩ = getO st l[i]? := by
  unfold S.get getO
  rfl
@[simp] theorem get_obj {st : List Step} : S.get ⟨l, o⟩ ⟨true, i, st⟩ = getO st o[i]? := by
  unfold S.get getO
  rfl
@[simp] theorem getP_nil : D.getP d [] = some d := by cases d <;> rfl
@[simp] theorem getP_cons {a : Step} {st : List Step} : D.getP d (a :: st) = (d.sub a).bind fun e => e.getP st := by
  rw [D.getP]
  cases d.sub a <;> rfl
@[simp] theorem setP_nil : D.setP d [] x = x := by cases d <;> rfl
def setO (d : D) (a : Step) (st : List Step) (x : D) : Option D → D
  | some e => d.sup a (e.setP st x)
  | none => d
@[simp] theorem setO_ev {a : Step} {st : List Step} : setO d a st x (some y) = d.sup a (y.setP st x) := rfl
@[simp] theorem setP_cons {a : Step} {st : List Step} : D.setP d (a :: st) x = setO d a st x (d.sub a) := by
  rw [D.setP]
  cases d.sub a <;> rfl
@[simp] theorem sub_lst {ds : List D} : D.sub (.lst ds) (.ix n) = ds[n]? := rfl
@[simp] theorem sub_tup {ds : List D} : D.sub (.tup ds) (.ix n) = ds[n]? := rfl
@[simp] theorem sub_dic {kvs : List (Key × D)} {k : Key} : D.sub (.dic kvs) (.key k) = glook kvs k := rfl
@[simp] theorem sub_ins {C : Addr} {fs : List (Str × D)} {f : Str} : D.sub (.ins C fs) (.fld f) = glook fs f := rfl
@[simp] theorem sup_lst {ds : List D} : D.sup (.lst ds) (.ix n) x = .lst (ds.set n x) := rfl
@[simp] theorem sup_tup {ds : List D} : D.sup (.tup ds) (.ix n) x = .tup (ds.set n x) := rfl
@[simp] theorem sup_dic {kvs : List (Key × D)} {k : Key} : D.sup (.dic kvs) (.key k) x = .dic (gput kvs k x) := rfl
@[simp] theorem sup_ins {C : Addr} {fs : List (Str × D)} {f : Str} : D.sup (.ins C fs) (.fld f) x = .ins C (gput fs f x) := rfl
def updO (l o : List Lc) (i : Nat) (st : List Step) (x : D) : Option Lc → S
  | some (.own d) => ⟨l.set i (.own (d.setP st x)), o⟩
  | some (.par d) => ⟨l.set i (.par (d.setP st x)), o⟩
  | _ => ⟨l, o⟩
def updQ (l o : List Lc) (i : Nat) (st : List Step) (x : D) : Option Lc → S
  | some (.own d) => ⟨l, o.set i (.own (d.setP st x))⟩
  | some (.par d) => ⟨l, o.set i (.par (d.setP st x))⟩
  | _ => ⟨l, o⟩
@[simp] theorem updO_own {st : List Step} : updO l o i st x (some (.own d)) = ⟨l.set i (.own (d.setP st x)), o⟩ := rfl
@[simp] theorem updO_par {st : List Step} : updO l o i st x (some (.par d)) = ⟨l.set i (.par (d.setP st x)), o⟩ := rfl
@[simp] theorem updQ_own {st : List Step} : updQ l o i st x (some (.own d)) = ⟨l, o.set i (.own (d.setP st x))⟩ := rfl
@[simp] theorem updQ_par {st : List Step} : updQ l o i st x (some (.par d)) = ⟨l, o.set i (.par (d.setP st x))⟩ := rfl
@[simp] theorem upd_loc {st : List Step} : S.upd ⟨l, o⟩ ⟨false, i, st⟩ x = updO l o i st x l[i]? := by
  unfold S.upd updO
  rfl
@[simp] theorem upd_obj {st : List Step} : S.upd ⟨l, o⟩ ⟨true, i, st⟩ x = updQ l o i st x o[i]? := by
  unfold S.upd updQ
  rfl
@[simp] theorem imm_non : D.imm .non = true := rfl
@[simp] theorem imm_bl {b : Bool} : D.imm (.bl b) = true := rfl
@[simp] theorem imm_int {i : Int} : D.imm (.int i) = true := rfl
@[simp] theorem imm_str {i : Str} : D.imm (.str i) = true := rfl
@[simp] theorem imm_ptr : D.imm (.ptr n) = true := rfl
@[simp] theorem imm_frz {ns : List Int} : D.imm (.frz ns) = true := rfl
@[simp] theorem imm_lst {ds : List D} : D.imm (.lst ds) = false := rfl
@[simp] theorem imm_dic {kvs : List (Key × D)} : D.imm (.dic kvs) = false := rfl
@[simp] theorem imm_tup {ds : List D} : D.imm (.tup ds) = immL ds := rfl
@[simp] theorem immL_nil : immL [] = true := rfl
@[simp] theorem immL_cons' {ds : List D} : immL (d :: ds) = (d.imm && immL ds) := rfl
@[simp] theorem immL_append {a b : List D} : immL (a ++ b) = (immL a && immL b) := by
  induction a with
  | nil => rfl
  | cons d r ih => rw [List.cons_append, immL_cons', ih, immL_cons', Bool.and_assoc]
theorem immL_iff {ds : List D} : immL ds = true ↔ ∀ d ∈ ds, d.imm = true := by
  induction ds with
  | nil => simp
  | cons d r ih => simp [ih]
def nmO (l o : List Lc) (i : Nat) : Option Lc → Option (Res D)
  | some (.bor d) => if d.imm then some (.ok d ⟨l, o⟩) else none
  | some (.par d) => if d.imm then some (.ok d ⟨l, o⟩) else none
  | some (.own d) => if d.imm then some (.ok d ⟨l, o⟩) else some (.ok d ⟨l.set i .no, o⟩)
  | _ => none
@[simp] theorem nmO_bor : nmO l o i (some (.bor d)) = if d.imm then some (.ok d ⟨l, o⟩) else none := rfl
@[simp] theorem nmO_par : nmO l o i (some (.par d)) = if d.imm then some (.ok d ⟨l, o⟩) else none := rfl
@[simp] theorem nmO_own : nmO l o i (some (.own d)) = if d.imm then some (.ok d ⟨l, o⟩) else some (.ok d ⟨l.set i .no, o⟩) := rfl
@[simp] theorem eNm_ev : eNm i ⟨l, o⟩ = nmO l o i l[i]? := by
  unfold eNm nmO
  rfl
@[simp] theorem hV_ev : hV i ⟨l, o⟩ = some ⟨false, i, []⟩ := rfl
def hfO (C : Addr) (f : Str) (n : Nat) : Option D → Option Pth
  | some (.ins C' _) => if C' = C then some ⟨true, n, [.fld f]⟩ else none
  | _ => none
@[simp] theorem hfO_ev {C C' : Addr} {f : Str} {fs : List (Str × D)} : hfO C f n (some (.ins C' fs)) = if C' = C then some ⟨true, n, [.fld f]⟩ else none := rfl
@[simp] theorem hF_ev {C : Addr} {f : Str} : hF C f p ⟨l, o⟩ = ptO (fun n => hfO C f n ((o[n]?).bind Lc.dat)) (p ⟨l, o⟩) := by
  unfold hF ptO hfO
  rfl
def hiO (s : S) (k : Option (D × Bool)) : Option Pth → Option Pth
  | some π => match s.get π with
    | some d => match k with
      | some (k, _) => (d.stepOf k).map fun st => ⟨π.b, π.i, π.st ++ [st]⟩
      | none => none
    | none => none
  | none => none
def hi2 (b : Bool) (i : Nat) (st : List Step) (k : Option (D × Bool)) : Option D → Option Pth
  | some d => match k with
    | some (k, _) => (d.stepOf k).map fun a => ⟨b, i, st ++ [a]⟩
    | none => none
  | none => none
@[simp] theorem hi2_ev {b : Bool} {st : List Step} : hi2 b i st (some (k, f)) (some d) = (d.stepOf k).map fun a => ⟨b, i, st ++ [a]⟩ := rfl
@[simp] theorem hiO_ev {b : Bool} {st : List Step} {z : Option (D × Bool)} : hiO s z (some ⟨b, i, st⟩) = hi2 b i st z (s.get ⟨b, i, st⟩) := by
  unfold hiO hi2
  rfl
@[simp] theorem hI_ev {q : PP} : hI q p ⟨l, o⟩ = hiO ⟨l, o⟩ (p ⟨l, o⟩) (q ⟨l, o⟩) := rfl
@[simp] theorem stepOf_lst {ds : List D} {i : Int} : D.stepOf (.lst ds) (.int i) = (ixN ds.length i).map .ix := rfl
@[simp] theorem stepOf_tup {ds : List D} {i : Int} : D.stepOf (.tup ds) (.int i) = (ixN ds.length i).map .ix := rfl
@[simp] theorem stepOf_dicS {kvs : List (Key × D)} {x : Str} : D.stepOf (.dic kvs) (.str x) = some (.key (.inr x)) := rfl
@[simp] theorem stepOf_dicI {kvs : List (Key × D)} {x : Int} : D.stepOf (.dic kvs) (.int x) = some (.key (.inl x)) := rfl
@[simp] theorem key_int {x : Int} : D.key (.int x) = some (.inl x) := rfl
@[simp] theorem key_str {x : Str} : D.key (.str x) = some (.inr x) := rfl
@[simp] theorem putAt_lst {ds : List D} {i : Int} : D.putAt (.lst ds) (.int i) x = (ixN ds.length i).map fun n => .lst (ds.set n x) := rfl
def putK2 (kvs : List (Key × D)) (x : D) : Option Key → Option D
  | some k => if szOk kvs.length then some (.dic (gput kvs k x)) else none
  | none => none
@[simp] theorem putK2_ev {kvs : List (Key × D)} {k : Key} : putK2 kvs x (some k) = if szOk kvs.length then some (.dic (gput kvs k x)) else none := rfl
@[simp] theorem putAt_dic {kvs : List (Key × D)} : D.putAt (.dic kvs) k x = putK2 kvs x k.key := by
  unfold D.putAt putK2
  rfl
/-! statements -/
def sO (z : Option Fl) (r : SV) : Option Fl := match z with
  | some (.nx s1) => r s1
  | z => z
@[simp] theorem sO_nx : sO (some (.nx s)) r = r s := rfl
@[simp] theorem sO_rt : sO (some (.rt d s)) r = some (.rt d s) := rfl
@[simp] theorem sO_bk : sO (some (.bk s)) r = some (.bk s) := rfl
@[simp] theorem sO_ct : sO (some (.ct s)) r = some (.ct s) := rfl
@[simp] theorem sO_none : sO none r = none := rfl
@[simp] theorem sO_ite {c : Prop} [Decidable c] {a b : Option Fl} : sO (if c then a else b) r = if c then sO a r else sO b r := by split <;> rfl
@[simp] theorem sSeq_ev {p : SV} : sSeq p r ⟨l, o⟩ = sO (p ⟨l, o⟩) r := rfl
@[simp] theorem sNil_ev : sNil s = some (.nx s) := rfl
def fO {α : Type} (z : Option (Res α)) (f : α → SV) : Option Fl := match z with
  | some (.ok a s1) => f a s1
  | some (.ex x s1) => some (.ex x s1)
  | none => none
@[simp] theorem fO_ev {α : Type} {a : α} {f : α → SV} : fO (some (.ok a s)) f = f a s := rfl
@[simp] theorem sB_ev {α : Type} {p : S → Option (Res α)} {f : α → SV} : sB p f ⟨l, o⟩ = fO (p ⟨l, o⟩) f := rfl
@[simp] theorem sRet_ev : sRet ea ⟨l, o⟩ = fO (ea ⟨l, o⟩) (fun d s => some (.rt d s)) := rfl
@[simp] theorem sRetN_ev : sRetN s = some (.rt .non s) := rfl
@[simp] theorem sExpr_ev : sExpr ea ⟨l, o⟩ = fO (ea ⟨l, o⟩) (fun _ s => some (.nx s)) := rfl
@[simp] theorem sIf_ev {p q : SV} : sIf ta p q ⟨l, o⟩ = fO (ta ⟨l, o⟩) (fun b s => if b then p s else q s) := by
  unfold sIf sB fO
  cases ta ⟨l, o⟩ with
  | none => rfl
  | some z => cases z with
    | ok b s1 => cases b <;> rfl
    | ex x s1 => rfl
@[simp] theorem sSet_ev : sSet i ea ⟨l, o⟩ = fO (ea ⟨l, o⟩) (fun d s => (s.put i d).map .nx) := rfl
def putS (s : S) (π : Pth) : Option D → Option Fl
  | some y => some (.nx (s.upd π y))
  | none => none
@[simp] theorem putS_ev {π : Pth} : putS s π (some y) = some (.nx (s.upd π y)) := rfl
def put3 (s : S) (π : Pth) (d : D) : Option D → Option (D × Bool) → Option Fl
  | some x, some (k, _) => putS s π (x.putAt k d)
  | _, _ => none
@[simp] theorem put3_ev {π : Pth} : put3 s π d (some x) (some (k, f)) = putS s π (x.putAt k d) := rfl
def put4 (s : S) (d : D) (k : Option (D × Bool)) : Option Pth → Option Fl
  | some π => put3 s π d (s.get π) k
  | none => none
@[simp] theorem put4_ev {π : Pth} {w : Option (D × Bool)} : put4 s d w (some π) = put3 s π d (s.get π) w := rfl
@[simp] theorem sPut_ev {q : PP} : sPut q p ea ⟨l, o⟩ = fO (ea ⟨l, o⟩) (fun d s => put4 s d (p s) (q s)) := by
  unfold sPut sB fO put4 put3 putS
  cases ea ⟨l, o⟩ with
  | none => rfl
  | some z => cases z with
    | ex x s1 => rfl
    | ok d s1 =>
      simp only
      cases q s1 with
      | none => rfl
      | some π =>
        simp only
        cases s1.get π with
        | none => rfl
        | some x => cases p s1 with
          | none => rfl
          | some k => rfl
def flO (s : S) (C : Addr) (f : Str) (n : Nat) (d : D) : Option D → Option Fl
  | some (.ins C' fs) => if C' = C ∧ fs.length < 1000 then some (.nx (s.upd ⟨true, n, []⟩ (.ins C' (gput fs f d)))) else none
  | _ => none
@[simp] theorem flO_ev {C C' : Addr} {f : Str} {fs : List (Str × D)} : flO s C f n d (some (.ins C' fs)) = if C' = C ∧ fs.length < 1000 then some (.nx (s.upd ⟨true, n, []⟩ (.ins C' (gput fs f d)))) else none := rfl
@[simp] theorem sFl_ev {C : Addr} {f : Str} : sFl C f p ea ⟨l, o⟩ = fO (ea ⟨l, o⟩) (fun d s => ptO (fun n => flO s C f n d (s.get ⟨true, n, []⟩)) (p s)) := by
  unfold sFl sB fO ptO flO
  rfl
@[simp] theorem sUnp_ev {is : List Nat} : sUnp is ea ⟨l, o⟩ = fO (ea ⟨l, o⟩) (fun d s => match d with
  | .tup ds => (S.puts is ds s).map .nx
  | _ => none) := rfl
@[simp] theorem sPar_ev {as : EA} : sPar i j as ⟨l, o⟩ = fO (as ⟨l, o⟩) (fun ds s => match ds with
  | [d, e] => ((s.put i d).bind fun s => s.put j e).map .nx
  | _ => none) := rfl
def appO (s : S) (π : Pth) (d : D) : Option D → Option (Res D)
  | some (.lst ds) => if szOk ds.length then some (.ok .non (s.upd π (.lst (ds ++ [d])))) else none
  | _ => none
@[simp] theorem appO_ev {π : Pth} {ds : List D} : appO s π d (some (.lst ds)) = if szOk ds.length then some (.ok .non (s.upd π (.lst (ds ++ [d])))) else none := rfl
@[simp] theorem eApp_ev {π : Pth} : eApp π d ⟨l, o⟩ = appO ⟨l, o⟩ π d (S.get ⟨l, o⟩ π) := by
  unfold eApp appO
  rfl
def isL {α : Type} (y : Option α) : Option D → Option α
  | some (.lst _) => y
  | _ => none
@[simp] theorem isL_ev {α : Type} {y : Option α} {ds : List D} : isL y (some (.lst ds)) = y := rfl
@[simp] theorem eAppN_ev : eAppN i ea ⟨l, o⟩ = isL (bO (ea ⟨l, o⟩) (fun d => eApp ⟨false, i, []⟩ d)) (S.get ⟨l, o⟩ ⟨false, i, []⟩) := by
  unfold eAppN isL
  rfl
def appP (s : S) : Option Pth → Option (D × Bool) → Option (Res D)
  | some π, some (d, fr) => if fr = true ∨ d.imm = true then eApp π d s else none
  | _, _ => none
@[simp] theorem appP_ev {π : Pth} : appP s (some π) (some (d, fr)) = if fr = true ∨ d.imm = true then eApp π d s else none := rfl
@[simp] theorem eAppP_ev {q : PP} : eAppP q p ⟨l, o⟩ = appP ⟨l, o⟩ (q ⟨l, o⟩) (p ⟨l, o⟩) := by
  unfold eAppP appP
  cases q ⟨l, o⟩ with
  | none => rfl
  | some π => cases p ⟨l, o⟩ <;> rfl
def extO (s : S) (i : Nat) : D → Option D → Option (Res D)
  | .lst es, some (.lst ds) => if szOk (ds.length + es.length) then some (.ok .non (s.upd ⟨false, i, []⟩ (.lst (ds ++ es)))) else none
  | _, _ => none
@[simp] theorem extO_ev {es ds : List D} : extO s i (.lst es) (some (.lst ds)) = if szOk (ds.length + es.length) then some (.ok .non (s.upd ⟨false, i, []⟩ (.lst (ds ++ es)))) else none := rfl
@[simp] theorem eExtN_ev : eExtN i ea ⟨l, o⟩ = isL (bO (ea ⟨l, o⟩) (fun d s => extO s i d (s.get ⟨false, i, []⟩))) (S.get ⟨l, o⟩ ⟨false, i, []⟩) := by
  unfold eExtN isL extO
  rfl
def isDc {α : Type} (y : Option α) : Option D → Option α
  | some (.dic _) => y
  | _ => none
@[simp] theorem isDc_ev {α : Type} {y : Option α} {ds : List (Key × D)} : isDc y (some (.dic ds)) = y := rfl
def updD (s : S) (i : Nat) : D → Option D → Option (Res D)
  | .dic more, some (.dic kvs) => if szOk (kvs.length + more.length) then some (.ok .non (s.upd ⟨false, i, []⟩ (.dic (mergeD kvs more)))) else none
  | _, _ => none
@[simp] theorem updD_ev {more kvs : List (Key × D)} : updD s i (.dic more) (some (.dic kvs)) = if szOk (kvs.length + more.length) then some (.ok .non (s.upd ⟨false, i, []⟩ (.dic (mergeD kvs more)))) else none := rfl
@[simp] theorem eUpdN_ev : eUpdN i ea ⟨l, o⟩ = isDc (bO (ea ⟨l, o⟩) (fun d s => updD s i d (s.get ⟨false, i, []⟩))) (S.get ⟨l, o⟩ ⟨false, i, []⟩) := by
  unfold eUpdN isDc updD
  rfl
def clrO (s : S) : Option Pth → Option (Res D)
  | some π => isL (some (.ok .non (s.upd π (.lst [])))) (s.get π)
  | none => none
@[simp] theorem clrO_ev {π : Pth} : clrO s (some π) = isL (some (.ok .non (s.upd π (.lst [])))) (s.get π) := rfl
@[simp] theorem eClr_ev {q : PP} : eClr q ⟨l, o⟩ = clrO ⟨l, o⟩ (q ⟨l, o⟩) := by
  unfold eClr clrO isL
  rfl
def mvO (s : S) (q : Option Pth) : Option (D × Bool) → Option (Res D)
  | some (d, _) => if d.imm then some (.ok d s) else match q with
    | some π => (s.get π).map fun x => .ok x (s.upd π .gone)
    | none => none
  | none => none
@[simp] theorem mvO_ev {π : Pth} : mvO s (some π) (some (d, f)) = if d.imm then some (.ok d s) else (s.get π).map fun x => .ok x (s.upd π .gone) := rfl
@[simp] theorem eMv_ev {q : PP} : eMv q p ⟨l, o⟩ = mvO ⟨l, o⟩ (q ⟨l, o⟩) (p ⟨l, o⟩) := by
  unfold eMv mvO
  cases p ⟨l, o⟩ with
  | none => rfl
  | some z =>
    obtain ⟨d, f⟩ := z
    simp only
    split
    · rfl
    · cases q ⟨l, o⟩ with
      | none => rfl
      | some π =>
        simp only
        cases S.get ⟨l, o⟩ π <;> rfl
@[simp] theorem edNil_ev : edNil ⟨l, o⟩ = some (.ok [] ⟨l, o⟩) := rfl
def edO (y : Key → Option (Res (List (Key × D)))) : Option (D × Bool) → Option (Res (List (Key × D)))
  | some (k, _) => match k.key with
    | some key => y key
    | none => none
  | none => none
@[simp] theorem edO_str {y : Key → Option (Res (List (Key × D)))} {x : Str} : edO y (some (.str x, f)) = y (.inr x) := rfl
@[simp] theorem edO_int {y : Key → Option (Res (List (Key × D)))} {x : Int} : edO y (some (.int x, f)) = y (.inl x) := rfl
@[simp] theorem edCons_ev {e : ED} : edCons p ea e ⟨l, o⟩ = edO (fun key => bO (ea ⟨l, o⟩) (fun d => eB e fun kvs s => some (.ok ((key, d) :: kvs) s))) (p ⟨l, o⟩) := by
  unfold edCons edO
  rfl
@[simp] theorem eDict_ev {e : ED} : eDict e ⟨l, o⟩ = bO (e ⟨l, o⟩) (fun kvs s => some (.ok (.dic (mergeD [] kvs)) s)) := rfl
@[simp] theorem mergeD_nil {kvs : List (Key × D)} : mergeD kvs [] = kvs := rfl
@[simp] theorem mergeD_cons {kvs more : List (Key × D)} {k : Key} : mergeD kvs ((k, d) :: more) = mergeD (gput kvs k d) more := rfl
/-! defs -/
def finO (k : Nat) : Option Fl → Option DOut
  | some (.rt d s') => some (.ret d ((s'.loc.take k).map Lc.par1) s'.obj)
  | some (.nx s') => some (.ret .non ((s'.loc.take k).map Lc.par1) s'.obj)
  | _ => none
@[simp] theorem finO_rt {k : Nat} : finO k (some (.rt d ⟨l, o⟩)) = some (.ret d ((l.take k).map Lc.par1) o) := rfl
@[simp] theorem finO_nx {k : Nat} : finO k (some (.nx ⟨l, o⟩)) = some (.ret .non ((l.take k).map Lc.par1) o) := rfl
@[simp] theorem finO_ite {k : Nat} {c : Prop} [Decidable c] {a b : Option Fl} : finO k (if c then a else b) = if c then finO k a else finO k b := by split <;> rfl
theorem den_ev {body : SV} {k : Nat} (h : l.length = k) : ((mkDen n body).arity k) l o = finO k (body ⟨l ++ List.replicate n .no, o⟩) := by
  unfold Den.arity mkDen finO
  rw [if_pos h]
  subst h
  rfl
@[simp] theorem par1_no : Lc.par1 .no = .no := rfl
@[simp] theorem par1_bor : Lc.par1 (.bor d) = .no := rfl
@[simp] theorem par1_own : Lc.par1 (.own d) = .no := rfl
@[simp] theorem par1_par : Lc.par1 (.par d) = .par d := rfl
@[simp] theorem bo_no : Lc.bo .no = .no := rfl
@[simp] theorem bo_bor : Lc.bo (.bor d) = .bor d := rfl
@[simp] theorem bo_par : Lc.bo (.par d) = .bor d := rfl
@[simp] theorem bo_own : Lc.bo (.own d) = .bor d := rfl
/-! data -/
@[simp] theorem dIx_lst {ds : List D} {i : Int} : dIx (.lst ds) (.int i) = (atI ds i).map fun d => (d, false) := rfl
@[simp] theorem dIx_tup {ds : List D} {i : Int} : dIx (.tup ds) (.int i) = (atI ds i).map fun d => (d, false) := rfl
@[simp] theorem dIx_frz {ns : List Int} {i : Int} : dIx (.frz ns) (.int i) = (atI ns i).map fun n => (.int n, true) := rfl
@[simp] theorem dIx_dicS {kvs : List (Key × D)} {x : Str} : dIx (.dic kvs) (.str x) = (glook kvs (.inr x)).map fun d => (d, false) := rfl
@[simp] theorem dIx_dicI {kvs : List (Key × D)} {x : Int} : dIx (.dic kvs) (.int x) = (glook kvs (.inl x)).map fun d => (d, false) := rfl
@[simp] theorem dIx_tab {kvs : List (Str × V)} {x : Str} : dIx (.tab kvs) (.str x) = (kvs.lookup x).map fun v => (dOfV v, true) := rfl
@[simp] theorem dAdd_int {i j : Int} : dAdd (.int i) (.int j) = some (.int (i + j), true) := rfl
@[simp] theorem dAdd_tup {a b : List D} : dAdd (.tup a) (.tup b) = if szOk (a.length + b.length) then some (.tup (a ++ b), immL a && immL b) else none := rfl
@[simp] theorem dAdd_lst {a b : List D} : dAdd (.lst a) (.lst b) = if szOk (a.length + b.length) then some (.lst (a ++ b), immL a && immL b) else none := rfl
@[simp] theorem dAdd_str {i j : Str} : dAdd (.str i) (.str j) = if szOk (i.length + j.length) then some (.str (i ++ j), true) else none := rfl
@[simp] theorem dSub_int {i j : Int} : dSub (.int i) (.int j) = some (.int (i - j), true) := rfl
@[simp] theorem dMul_int {i j : Int} : dMul (.int i) (.int j) = if (-(2 ^ 64) < i ∧ i < 2 ^ 64) ∨ (-(2 ^ 64) < j ∧ j < 2 ^ 64) then some (.int (i * j), true) else none := ite_cl
@[simp] theorem dDiv_int {i j : Int} : dDiv (.int i) (.int j) = if 0 < j ∧ j < 1073741824 then some (.int (i / j), true) else none := ite_cl
@[simp] theorem dMod_int {i j : Int} : dMod (.int i) (.int j) = if 0 < j then some (.int (i % j), true) else none := rfl
@[simp] theorem dPow_int {i j : Int} : dPow (.int i) (.int j) = if 0 ≤ j ∧ j ≤ 1000000 ∧ i.natAbs < 2 ^ 64 then some (.int (i ^ j.toNat), true) else none := ite_cl
@[simp] theorem dLt_int {i j : Int} : dLt (.int i) (.int j) = some (.bl (decide (i < j)), true) := rfl
@[simp] theorem dLe_int {i j : Int} : dLe (.int i) (.int j) = some (.bl (decide (i ≤ j)), true) := rfl
@[simp] theorem dGt_int {i j : Int} : dGt (.int i) (.int j) = some (.bl (decide (j < i)), true) := rfl
@[simp] theorem dGe_int {i j : Int} : dGe (.int i) (.int j) = some (.bl (decide (j ≤ i)), true) := rfl
@[simp] theorem dEq_ev : dEq x y = blO (eqB x y) := rfl
def nblO (z : Option Bool) : Option (D × Bool) := z.map fun k => (.bl (!k), true)
@[simp] theorem nblO_ev {b : Bool} : nblO (some b) = some (.bl (!b), true) := rfl
@[simp] theorem dNe_ev : dNe x y = nblO (eqB x y) := rfl
@[simp] theorem eqB_int {i j : Int} : eqB (.int i) (.int j) = some (decide (i = j)) := rfl
@[simp] theorem eqB_str {i j : Str} : eqB (.str i) (.str j) = some (decide (i = j)) := rfl
@[simp] theorem eqB_bl {i j : Bool} : eqB (.bl i) (.bl j) = some (decide (i = j)) := rfl
@[simp] theorem dIn_ev : dIn x y = blO (inB x y) := rfl
@[simp] theorem dNotIn_ev : dNotIn x y = nblO (inB x y) := rfl
@[simp] theorem dIs_ev : dIs x .non = blO x.isNon := rfl
@[simp] theorem dIsNot_ev : dIsNot x .non = nblO x.isNon := rfl
@[simp] theorem isNon_non : D.isNon .non = some true := rfl
@[simp] theorem isNon_int {i : Int} : D.isNon (.int i) = some false := rfl
@[simp] theorem isNon_str {i : Str} : D.isNon (.str i) = some false := rfl
@[simp] theorem isNon_bl {i : Bool} : D.isNon (.bl i) = some false := rfl
@[simp] theorem isNon_tup {i : List D} : D.isNon (.tup i) = some false := rfl
@[simp] theorem isNon_lst {i : List D} : D.isNon (.lst i) = some false := rfl
@[simp] theorem dLen_lst {ds : List D} : dLen [.lst ds] = some (.int ds.length, true) := rfl
@[simp] theorem dLen_tup {ds : List D} : dLen [.tup ds] = some (.int ds.length, true) := rfl
@[simp] theorem dLen_frz {ns : List Int} : dLen [.frz ns] = some (.int ns.length, true) := rfl
@[simp] theorem dLen_str {z : Str} : dLen [.str z] = if szOk z.length then some (.int z.length, true) else none := rfl
@[simp] theorem dInt_int {i : Int} : dInt [.int i] = some (.int i, true) := rfl
@[simp] theorem dInt_bl {b : Bool} : dInt [.bl b] = some (.int (if b then 1 else 0), true) := rfl
@[simp] theorem dList_lst {ds : List D} : dList [.lst ds] = some (.lst ds, immL ds) := rfl
@[simp] theorem dList_tup {ds : List D} : dList [.tup ds] = some (.lst ds, immL ds) := rfl
@[simp] theorem dTuple_lst {ds : List D} : dTuple [.lst ds] = some (.tup ds, immL ds) := rfl
@[simp] theorem dTuple_tup {ds : List D} : dTuple [.tup ds] = some (.tup ds, immL ds) := rfl
@[simp] theorem dMax_ev {i j : Int} : dMax [.int i, .int j] = some (.int (if j > i then j else i), true) := rfl
@[simp] theorem dMin_ev {i j : Int} : dMin [.int i, .int j] = some (.int (if j < i then j else i), true) := rfl
@[simp] theorem glook_nil {α : Type} {k : Key} : glook ([] : List (Key × α)) k = none := rfl
@[simp] theorem glook_cons {κ α : Type} [DecidableEq κ] {k k' : κ} {x : α} {r : List (κ × α)} : glook ((k', x) :: r) k = if k' = k then some x else glook r k := rfl
@[simp] theorem gput_nil {κ α : Type} [DecidableEq κ] {k : κ} {x : α} : gput ([] : List (κ × α)) k x = [(k, x)] := rfl
@[simp] theorem gput_cons {κ α : Type} [DecidableEq κ] {k k' : κ} {x y : α} {r : List (κ × α)} : gput ((k', y) :: r) k x = if k' = k then (k', x) :: r else (k', y) :: gput r k x := rfl
theorem ixN_lit {n : Nat} {i : Nat} (h : i < n) : ixN n (i : Int) = some i := by
  unfold ixN
  rw [if_pos (by omega), if_pos (by omega)]
  simp
theorem atI_lit {α : Type} {xs : List α} {i : Nat} : atI xs (i : Int) = xs[i]? := by
  unfold atI
  by_cases h : i < xs.length
  · rw [ixN_lit h]; rfl
  · rw [List.getElem?_eq_none (by omega)]
    unfold ixN
    rw [if_pos (by omega), if_neg (by omega)]
    rfl
@[simp] theorem atI_zero {α : Type} {xs : List α} : atI xs 0 = xs[0]? := atI_lit (i := 0)
@[simp] theorem atI_one {α : Type} {xs : List α} : atI xs 1 = xs[1]? := atI_lit (i := 1)
@[simp] theorem atI_ofNat {α : Type} {xs : List α} {n : Nat} : atI xs (no_index (OfNat.ofNat n : Int)) = xs[n]? := atI_lit (i := n)
@[simp] theorem ixN_zero {n : Nat} : ixN n 0 = if 0 < n then some 0 else none := by
  unfold ixN
  by_cases h : 0 < n
  · rw [if_pos (by omega), if_pos (by omega), if_pos h]; rfl
  · rw [if_pos (by omega), if_neg (by omega), if_neg h]
@[simp] theorem ixN_one {n : Nat} : ixN n 1 = if 1 < n then some 1 else none := by
  unfold ixN
  by_cases h : 1 < n
  · rw [if_pos (by omega), if_pos (by omega), if_pos h]; rfl
  · rw [if_pos (by omega), if_neg (by omega), if_neg h]
@[simp] theorem ixN_ofNat {n k : Nat} : ixN n (no_index (OfNat.ofNat k : Int)) = if k < n then some k else none := by
  show ixN n ((k : Nat) : Int) = _
  by_cases h : k < n
  · rw [if_pos h]; exact ixN_lit h
  · rw [if_neg h]
    unfold ixN
    rw [if_pos (by omega), if_neg (by omega)]
@[simp] theorem szOk_ev : szOk n = decide (n ≤ 10000000) := rfl
end
end Dn
set_option Elab.async false
set_option linter.all false
set_option maxRecDepth 100000
set_option maxHeartbeats 4000000
/-! texts, slices, more of evaluation -/
namespace Dn
open PySem PySem.Spec PyProof.Rows L2 Tr
@[simp] theorem ofS_inj {a b : String} : Str.ofString a = Str.ofString b ↔ a = b := by
  constructor
  · intro h
    rw [Str.ofString_eq_toList, Str.ofString_eq_toList] at h
    have h1 : a.toList.map Char.toNat = b.toList.map Char.toNat := by
      have := congrArg (fun s : Str => s.cps.toList) h
      simpa using this
    have h2 : a.toList = b.toList := List.map_inj_right (fun x y e => Char.ext (UInt32.toNat_inj.1 e)) |>.1 h1
    exact String.toList_inj.1 h2
  · rintro rfl; rfl
@[simp] theorem glook_nilG {κ α : Type} [DecidableEq κ] {k : κ} : glook ([] : List (κ × α)) k = none := rfl
@[simp] theorem inSeq_nil {x : Str} : inSeq (.str x) [] = some false := rfl
@[simp] theorem inSeq_cons {x y : Str} {r : List D} : inSeq (.str x) (.str y :: r) = (inSeq (.str x) r).map (decide (x = y) || ·) := by
  unfold inSeq
  rw [flatL]
  cases h : flatL r with
  | none => rfl
  | some vs =>
    show some _ = some _
    congr 1
    have e : eqV (V.str y) (V.str x) = decide (x = y) := by
      by_cases h : x = y
      · subst h; simp [eqV]
      · have h' : ¬ y = x := fun e => h e.symm
        simp [eqV, h, h']
    simp [inV, D.flat, e]
@[simp] theorem inB_tup {x : D} {ds : List D} : inB x (.tup ds) = inSeq x ds := by cases x <;> rfl
@[simp] theorem inB_lst {x : D} {ds : List D} : inB x (.lst ds) = inSeq x ds := by cases x <;> rfl
@[simp] theorem dSl_tup {ds : List D} {a b : Option Int} : dSl (.tup ds) a b = some (.tup (cut ds a b), immL ds) := rfl
@[simp] theorem dSl_lst {ds : List D} {a b : Option Int} : dSl (.lst ds) a b = some (.lst (cut ds a b), immL ds) := rfl
theorem cut_lit {α : Type} {xs : List α} {n : Nat} : cut xs (some (n : Int)) none = xs.drop n := by
  unfold cut
  rw [HT.sIx_nat, HT.sIx_none, List.take_of_length_le (by simp)]
  by_cases h : n ≤ xs.length
  · rw [Nat.min_eq_left h]
  · rw [Nat.min_eq_right (by omega), List.drop_eq_nil_of_le (Nat.le_refl _), List.drop_eq_nil_of_le (by omega)]
@[simp] theorem cut_ofNat {α : Type} {xs : List α} {n : Nat} : cut xs (some (no_index (OfNat.ofNat n : Int))) none = xs.drop n := cut_lit
@[simp] theorem cut_one {α : Type} {xs : List α} : cut xs (some 1) none = xs.drop 1 := cut_lit (n := 1)
/-! comprehensions -/
section
variable {vs : List Nat} {T : Ts} {cond : ET} {elt : EV} {it : IV} {s : S}
def lcOne (vs : List Nat) (T : Ts) (cond : ET) (elt : EV) (d : D) (s : S) : Option (Option D × S) := match bindT T d s with
  | none => none
  | some s1 => match cond s1 with
    | some (.ok true s2) => match elt s2 with
      | some (.ok x s3) => (s3.unb vs).map fun s4 => (some x, s4)
      | _ => none
    | some (.ok false s2) => (s2.unb vs).map fun s4 => (none, s4)
    | _ => none
def lcNext (go : List D → S → Option (Res (List D))) (acc : List D) : Option (Option D × S) → Option (Res (List D))
  | some (some x, s4) => if szOk acc.length then go (acc ++ [x]) s4 else none
  | some (none, s4) => go acc s4
  | none => none
theorem lcGo_cons {d : D} {r acc : List D} {z : Option (Option D × S)} (h : lcOne vs T cond elt d s = z) (hz : z ≠ none) : lcGo vs T cond elt (d :: r) acc s = lcNext (fun a s => lcGo vs T cond elt r a s) acc z := by
  subst h
  unfold lcOne at hz ⊢
  rw [lcGo]
  cases h1 : bindT T d s with
  | none => rfl
  | some s1 =>
    rw [h1] at hz
    simp only at hz ⊢
    cases h2 : cond s1 with
    | none => rfl
    | some z => cases z with
      | ex x s' => rw [h2] at hz; exact absurd rfl hz
      | ok b s2 => cases b with
        | true =>
          rw [h2] at hz
          simp only at hz ⊢
          cases h3 : elt s2 with
          | none => rfl
          | some z => cases z with
            | ex x s' => rw [h3] at hz; exact absurd rfl hz
            | ok x s3 =>
              simp only
              cases s3.unb vs <;> rfl
        | false =>
          simp only
          cases s2.unb vs <;> rfl
theorem lcGo_pure {f : D → Option D} : ∀ {ds acc : List D}, (∀ d ∈ ds, lcOne vs T cond elt d s = some (f d, s)) → acc.length + ds.length ≤ 10000000 → lcGo vs T cond elt ds acc s = some (.ok (acc ++ ds.filterMap f) s)
  | [], acc, _, _ => by simp [lcGo]
  | d :: r, acc, h, hl => by
    rw [lcGo_cons (h d List.mem_cons_self) (by simp)]
    simp only [List.length_cons] at hl
    cases hf : f d with
    | none =>
      show lcGo vs T cond elt r acc s = _
      rw [lcGo_pure (fun d hd => h d (List.mem_cons_of_mem _ hd)) (by omega), List.filterMap_cons, hf]
    | some x =>
      show (if szOk acc.length then lcGo vs T cond elt r (acc ++ [x]) s else none) = _
      rw [if_pos (by simp; omega), lcGo_pure (fun d hd => h d (List.mem_cons_of_mem _ hd)) (by simp; omega), List.filterMap_cons, hf]
      simp
theorem eLc_pure {f : D → Option D} {ds : List D} (hi : it s = some (.ok (ds, true) s)) (hu : s.unb vs = some s) (h : ∀ d ∈ ds, lcOne vs T cond elt d s = some (f d, s)) (hl : ds.length ≤ 10000000) : eLc vs T it cond elt s = some (.ok (.lst (ds.filterMap f)) s) := by
  unfold eLc eB
  rw [hi]
  simp only
  rw [if_pos trivial, hu]
  simp only
  rw [lcGo_pure h (by simpa using hl)]
  simp
/-- a comprehension whose state goes on: each step by a rule -/
theorem lcGo_st {st : Nat → S} {f : Nat → Option D} {ds : List D} : ∀ {k : Nat} {acc : List D}, (∀ i d, ds[i]? = some d → lcOne vs T cond elt d (st (k + i)) = some (f (k + i), st (k + i + 1))) → acc.length + ds.length ≤ 10000000 → lcGo vs T cond elt ds acc (st k) = some (.ok (acc ++ ((List.range' k ds.length).filterMap f)) (st (k + ds.length))) := by
  induction ds with
  | nil => intro k acc _ _; simp [lcGo]
  | cons d r ih =>
    intro k acc h hl
    simp only [List.length_cons] at hl
    have h0 : lcOne vs T cond elt d (st k) = some (f k, st (k + 1)) := h 0 d rfl
    rw [lcGo_cons h0 (by simp)]
    have hr : ∀ i d, r[i]? = some d → lcOne vs T cond elt d (st (k + 1 + i)) = some (f (k + 1 + i), st (k + 1 + i + 1)) := fun i d hd => by
      have := h (i + 1) d (by simpa using hd)
      rw [show k + (i + 1) = k + 1 + i by omega] at this
      exact this
    have e : List.range' k (d :: r).length = k :: List.range' (k + 1) r.length := by simp [List.range'_succ]
    rw [e, List.filterMap_cons]
    have e2 : k + (d :: r).length = k + 1 + r.length := by simp; omega
    rw [e2]
    cases hf : f k with
    | none =>
      show lcGo vs T cond elt r acc (st (k + 1)) = _
      rw [ih hr (by omega)]
    | some x =>
      show (if szOk acc.length then lcGo vs T cond elt r (acc ++ [x]) (st (k + 1)) else none) = _
      rw [if_pos (by simp; omega), ih hr (by simp; omega)]
      simp
end
end Dn
set_option Elab.async false
set_option linter.all false
set_option maxRecDepth 100000
set_option maxHeartbeats 4000000
/-! loops and comprehensions by invariants -/
namespace Dn
open PySem PySem.Spec PyProof.Rows L2 Tr
def isFree (c : Lc) : Prop := (∃ z, c = .bor z) ∨ c = .no
theorem isFree_bor {d : D} : isFree (.bor d) := .inl ⟨_, rfl⟩
theorem isFree_no : isFree .no := .inr rfl
/-- a walk that folds -/
theorem for_fold {α σ φ : Type} {T : Ts} {body : SV} {enc : α → D} (St : σ → φ → S) (Fr : φ → Prop) (I : σ → Prop) (step : σ → α → σ) : ∀ {xs : List α} {st : σ} {f : φ}, I st → Fr f →
    (∀ x ∈ xs, ∀ st f, I st → Fr f → ∃ s1 f', bindT T (enc x) (St st f) = some s1 ∧ body s1 = some (.nx (St (step st x) f')) ∧ Fr f' ∧ I (step st x)) →
    ∃ f', Fr f' ∧ forGo T body (xs.map enc) (St st f) = some (.nx (St (xs.foldl step st) f')) ∧ I (xs.foldl step st)
  | [], st, f, hi, hf, _ => ⟨f, hf, rfl, hi⟩
  | x :: r, st, f, hi, hf, h => by
    obtain ⟨s1, f1, h1, h2, h3, h4⟩ := h x List.mem_cons_self st f hi hf
    obtain ⟨f', h5, h6, h7⟩ := for_fold St Fr I step (xs := r) h4 h3 (fun y hy => h y (List.mem_cons_of_mem _ hy))
    refine ⟨f', h5, ?_, h7⟩
    rw [List.map_cons, forGo, h1]
    simp only
    rw [h2]
    exact h6
/-- a walk that keeps something -/
theorem for_inv {T : Ts} {body : SV} {ok : Nat → S → Prop} : ∀ {ds : List D} {k : Nat} {s : S}, ok k s → (∀ i d, ds[i]? = some d → ∀ s, ok (k + i) s → ∃ s1 s2, bindT T d s = some s1 ∧ body s1 = some (.nx s2) ∧ ok (k + i + 1) s2) → ∃ s', ok (k + ds.length) s' ∧ forGo T body ds s = some (.nx s')
  | [], k, s, h, _ => ⟨s, h, rfl⟩
  | d :: r, k, s, h, hb => by
    obtain ⟨s1, s2, h1, h2, h3⟩ := hb 0 d rfl s h
    obtain ⟨s', h4, h5⟩ := for_inv (T := T) (body := body) (ok := ok) (ds := r) (k := k + 1) h3 (fun i d hd s hs => by
      have e : k + 1 + i = k + (i + 1) := by omega
      rw [e] at hs ⊢
      exact hb (i + 1) d (by simpa using hd) s hs)
    refine ⟨s', by rw [List.length_cons, show k + (r.length + 1) = k + 1 + r.length by omega]; exact h4, ?_⟩
    rw [forGo, h1]
    simp only
    rw [h2]
    exact h5
section
variable {vs : List Nat} {T : Ts} {cond : ET} {elt : EV} {it : IV} {s : S}
/-- a comprehension that keeps something and takes all -/
theorem lcGo_inv {ok : Nat → S → Prop} {Q : Nat → D → Prop} : ∀ {ds acc : List D} {k : Nat} {s : S}, ok k s → acc.length + ds.length ≤ 10000000 → (∀ i d, ds[i]? = some d → ∀ s, ok (k + i) s → ∃ y s', lcOne vs T cond elt d s = some (some y, s') ∧ Q (k + i) y ∧ ok (k + i + 1) s') →
    ∃ ys s', ok (k + ds.length) s' ∧ ys.length = ds.length ∧ (∀ i y, ys[i]? = some y → Q (k + i) y) ∧ lcGo vs T cond elt ds acc s = some (.ok (acc ++ ys) s')
  | [], acc, k, s, h, _, _ => ⟨[], s, h, rfl, by simp, by simp [lcGo]⟩
  | d :: r, acc, k, s, h, hl, hb => by
    simp only [List.length_cons] at hl
    obtain ⟨y, s1, h1, h2, h3⟩ := hb 0 d rfl s h
    obtain ⟨ys, s', h4, h5, h6, h7⟩ := lcGo_inv (ok := ok) (Q := Q) (ds := r) (acc := acc ++ [y]) (k := k + 1) h3 (by simp; omega) (fun i d hd s hs => by
      have e : k + 1 + i = k + (i + 1) := by omega
      rw [e] at hs ⊢
      exact hb (i + 1) d (by simpa using hd) s hs)
    refine ⟨y :: ys, s', by rw [List.length_cons, show k + (r.length + 1) = k + 1 + r.length by omega]; exact h4, by simp [h5], fun i z hz => ?_, ?_⟩
    · cases i with
      | zero => simp at hz; subst hz; exact h2
      | succ i =>
        have := h6 i z (by simpa using hz)
        rw [show k + (i + 1) = k + 1 + i by omega]
        exact this
    · rw [lcGo_cons h1 (by simp)]
      show (if szOk acc.length then lcGo vs T cond elt r (acc ++ [y]) s1 else none) = _
      rw [if_pos (by simp; omega), h7]
      simp
theorem eLc_inv {ok : Nat → S → Prop} {Q : Nat → D → Prop} {ds : List D} {s1 s2 : S} (hi : it s = some (.ok (ds, true) s1)) (hu : s1.unb vs = some s2) (h : ok 0 s2) (hl : ds.length ≤ 10000000) (hb : ∀ i d, ds[i]? = some d → ∀ s, ok i s → ∃ y s', lcOne vs T cond elt d s = some (some y, s') ∧ Q i y ∧ ok (i + 1) s') :
    ∃ ys s', ok ds.length s' ∧ ys.length = ds.length ∧ (∀ i y, ys[i]? = some y → Q i y) ∧ eLc vs T it cond elt s = some (.ok (.lst ys) s') := by
  obtain ⟨ys, s', h1, h2, h3, h4⟩ := lcGo_inv (vs := vs) (T := T) (cond := cond) (elt := elt) (ok := ok) (Q := Q) (ds := ds) (acc := []) (k := 0) h (by simpa using hl) (fun i d hd s hs => by simpa using hb i d hd s (by simpa using hs))
  refine ⟨ys, s', by simpa using h1, h2, fun i y hy => by simpa using h3 i y hy, ?_⟩
  unfold eLc eB
  rw [hi]
  simp only
  rw [if_pos trivial, hu]
  simp only
  rw [h4]
  simp
end
theorem iR1_of {as : EA} {s s1 : S} {j : Int} (h : as s = some (.ok [.int j] s1)) (h1 : j ≤ 10000000) (h0 : -10000000 ≤ j) : iR1 as s = some (.ok (rng 0 j.toNat, true) s1) := by
  unfold iR1 eB
  rw [h]
  show @ite _ (-(2 ^ 62) ≤ j ∧ j < 2 ^ 62) (Classical.propDecidable _) _ none = _
  rw [if_pos ⟨by omega, by omega⟩]
theorem rng_succ {k : Int} {n : Nat} : rng k (n + 1) = .int k :: rng (k + 1) n := by
  unfold rng
  rw [List.range_succ_eq_map]
  simp
  intro a _
  omega
@[simp] theorem rng_len {k : Int} {n : Nat} : (rng k n).length = n := by simp [rng]
theorem rng_get {k : Int} {n i : Nat} {d : D} (h : (rng k n)[i]? = some d) : i < n ∧ d = .int (k + i) := by
  unfold rng at h
  rw [List.getElem?_map] at h
  have hi : i < n := by
    cases e : (List.range n)[i]? with
    | none => rw [e] at h; cases h
    | some x =>
      have := (List.getElem?_eq_some_iff.mp e).1
      simpa using this
  rw [List.getElem?_range hi] at h
  simp at h
  exact ⟨hi, h.symm⟩
end Dn
set_option Elab.async false
set_option linter.all false
set_option maxRecDepth 100000
set_option maxHeartbeats 4000000
/-! a walk over a list of one's own: it is read only from then on -/
namespace Dn
open PySem PySem.Spec PyProof.Rows L2 Tr
/-- a slot of one's own is lent to all -/
theorem Rl.freeze {c : Ct} {m P F1 : List Addr} {σ : St} {H : Hp} {s : S} {i : Nat} {d : D} (r : Rl c m (P, F1) σ H s) (e : s.loc[i]? = some (.own d)) :
    ∃ v F F1', σ[i]? = some (some v) ∧ Rep c m H v d F ∧ Rl c m (P, F1') σ H { s with loc := s.loc.set i (.bor d) } ∧ (∀ a ∈ F1', a ∈ F1) ∧ ∀ a ∈ F, a ∉ P ++ F1' := by
  obtain ⟨v, F, F1', h1, h2, h3, h4⟩ := r.take e
  have nd : ((F ++ P) ++ F1').Nodup := h3.nd
  have nd2 : (F ++ (P ++ F1')).Nodup := by rwa [List.append_assoc] at nd
  have dj : ∀ a ∈ F, a ∉ P ++ F1' := fun a ha hz => (List.nodup_append.mp nd2).2.2 a ha a hz rfl
  have r1 : Rl c m (P, F1') σ H { s with loc := s.loc.set i .no } := h3.hand (Same.refl H) (List.nodup_append.mp nd2).2.1 (fun a ha => ⟨.inl (by simp [ha]), r.mut a (by simp [Fq.all, ha])⟩)
  have hi : i < s.loc.length := (List.getElem?_eq_some_iff.mp e).1
  have es : S.setB { s with loc := s.loc.set i .no } i d = some { s with loc := s.loc.set i (.bor d) } := by
    unfold S.setB
    simp [hi]
  obtain ⟨F2, g1, g2, g3⟩ := r1.setB h2 dj es
  have eσ : σ.set i (some v) = σ := by
    apply List.ext_getElem?
    intro n
    rw [List.getElem?_set]
    split
    · rename_i hn
      subst hn
      split
      · exact h1.symm
      · rename_i hlt
        rw [List.getElem?_eq_none (by omega)]
    · rfl
  rw [eσ] at g1
  exact ⟨v, F, F2, h1, h2, g1, fun a ha => h4 a (by simp [g2 a ha]), fun a ha hz => dj a ha (by
    simp only [List.mem_append] at hz ⊢
    exact hz.elim .inl fun z => .inr (g2 a z))⟩
/-- the same as a change of the state -/
theorem Af.freeze {c : Ct} {m : List Addr} {F0 : Fq} {σ : St} {H : Hp} {s : S} {i : Nat} {d : D} (r : Rl c m F0 σ H s) (e : s.loc[i]? = some (.own d)) :
    ∃ v F F1', σ[i]? = some (some v) ∧ Rep c m H v d F ∧ Af c m F0 H s σ [] m F1' H { s with loc := s.loc.set i (.bor d) } ∧ ∀ a ∈ F, a ∉ F0.1 ++ F1' := by
  obtain ⟨P, F1⟩ := F0
  obtain ⟨v, F, F1', h1, h2, h3, h4, h5⟩ := r.freeze e
  refine ⟨v, F, F1', h1, h2, ⟨Mx.refl m, h3, ⟨Kp.refl _ _, fun a ha => .inl (h4 a (by simpa using ha))⟩, ?_⟩, h5⟩
  unfold PX
  intro j d' hj
  rw [List.getElem?_set] at hj
  split at hj
  · split at hj <;> cases hj
  · exact ⟨d', hj⟩
def iW (i : Nat) : IV := fun s => match s.loc[i]? with
  | some (.own d) => if d.imm then iV i s else d.items.map fun ds => .ok (ds, true) { s with loc := s.loc.set i (.bor d) }
  | _ => iV i s
section
variable {X : Cx} {e a b o tg iter : Expr} {es rest : List Expr} {pos : Pos} {p pa pb : PV} {x y : Str} {ea : EV} {as : EA}
theorem ji_w (i : Nat) {p1 : Pos} (hN : X.N[i]? = some x := by rfl) (hv : Vis X.env.scope x := by first | exact Or.inl rfl | exact Or.inr (Or.inl rfl) | exact Or.inr (Or.inr rfl)) (hd : (x == ("__debug__" : Str)) = false := by decide)
    (hcd : (x == ("__classdict__" : Str)) = false := by decide) : JI X tg (.Name x p1) (iW i) := ⟨fun m F0 σ H s r R q => by
  unfold iW at q
  split at q
  · rename_i d hl
    split at q
    · exact (ji_v i hN hv hd hcd).run m F0 σ H s r R q
    · cases hd' : d.items with
      | none => rw [hd'] at q; exact (show False from q).elim
      | some ds =>
        rw [hd'] at q
        obtain ⟨v, F, F1', h1, h2, h3, h4⟩ := Af.freeze r hl
        exact wi_items (m := m) hd' (w_v i h1 ⟨m, F, h2, fun J G YY w ok => q J H G YY F m F1' h3 w ok fun _ => h4⟩ hN hv hd hcd)
  · exact (ji_v i hN hv hd hcd).run m F0 σ H s r R q⟩
end
section
variable {l o : List Lc} {i : Nat} {d : D}
def iwO (l o : List Lc) (i : Nat) : Option Lc → Option (Res (List D × Bool))
  | some (.bor d) => d.items.map fun ds => .ok (ds, true) ⟨l, o⟩
  | some (.par d) => d.items.map fun ds => .ok (ds, d.imm) ⟨l, o⟩
  | some (.own d) => if d.imm then d.items.map fun ds => .ok (ds, d.imm) ⟨l, o⟩ else d.items.map fun ds => .ok (ds, true) ⟨l.set i (.bor d), o⟩
  | _ => none
@[simp] theorem iwO_bor : iwO l o i (some (.bor d)) = d.items.map fun ds => .ok (ds, true) ⟨l, o⟩ := rfl
@[simp] theorem iwO_par : iwO l o i (some (.par d)) = d.items.map fun ds => .ok (ds, d.imm) ⟨l, o⟩ := rfl
@[simp] theorem iwO_own : iwO l o i (some (.own d)) = if d.imm then d.items.map fun ds => .ok (ds, d.imm) ⟨l, o⟩ else d.items.map fun ds => .ok (ds, true) ⟨l.set i (.bor d), o⟩ := rfl
@[simp] theorem iW_ev : iW i ⟨l, o⟩ = iwO l o i l[i]? := by
  unfold iW iV iwO
  simp only
  cases l[i]? with
  | none => rfl
  | some z => cases z <;> rfl
theorem putO_free {x : Lc} (h : isFree x) : putO l o i d (some x) = some ⟨l.set i (lcOf d), o⟩ := by rcases h with ⟨z, rfl⟩ | rfl <;> rfl
theorem setBO_free {x : Lc} (h : isFree x) : setBO l o i d (some x) = some ⟨l.set i (.bor d), o⟩ := by rcases h with ⟨z, rfl⟩ | rfl <;> rfl
theorem unbP_free {x : Lc} (h : isFree x) : unbP l o i (some x) = some ⟨l.set i .no, o⟩ := by rcases h with ⟨z, rfl⟩ | rfl <;> rfl
@[simp] theorem items_lst {ds : List D} : D.items (.lst ds) = some ds := rfl
@[simp] theorem items_tup {ds : List D} : D.items (.tup ds) = some ds := rfl
end
theorem eLc_pure' {vs : List Nat} {T : Ts} {cond : ET} {elt : EV} {it : IV} {s s1 s2 : S} {f : D → Option D} {ds : List D} (hi : it s = some (.ok (ds, true) s1)) (hu : s1.unb vs = some s2) (h : ∀ d ∈ ds, lcOne vs T cond elt d s2 = some (f d, s2)) (hl : ds.length ≤ 10000000) : eLc vs T it cond elt s = some (.ok (.lst (ds.filterMap f)) s2) := by
  unfold eLc eB
  rw [hi]
  simp only
  rw [if_pos trivial, hu]
  simp only
  rw [lcGo_pure h (by simpa using hl)]
  simp
/-- data told by a list of things -/
theorem lst_of {α : Type} {f : α → D} {P : α → Prop} : ∀ {ys : List D}, (∀ (i : Nat) (y : D), ys[i]? = some y → ∃ x, y = f x ∧ P x) → ∃ xs : List α, ys = xs.map f ∧ ∀ x ∈ xs, P x
  | [], _ => ⟨[], rfl, by simp⟩
  | y :: r, h => by
    obtain ⟨x, rfl, hx⟩ := h 0 y rfl
    obtain ⟨xs, rfl, hxs⟩ := lst_of (f := f) (P := P) (ys := r) (fun i y hy => h (i + 1) y (by simpa using hy))
    exact ⟨x :: xs, rfl, fun z hz => by
      rcases List.mem_cons.1 hz with rfl | hz
      · exact hx
      · exact hxs z hz⟩
theorem iR1_lit {s : S} {n : Nat} (h : n ≤ 1000000) : iR1 (eaCons (eP (pC (.int n))) (eaNil)) s = some (.ok (rng 0 n, true) s) := by
  rw [iR1_of (j := n) (s1 := s) (by simp [eaCons, eP, pC, eaNil, eB, okV]) (by omega) (by omega)]
  simp
def noPar (c : Lc) : Prop := ∀ d, c ≠ .par d
theorem noPar_bor {d : D} : noPar (.bor d) := fun _ h => nomatch h
theorem noPar_own {d : D} : noPar (.own d) := fun _ h => nomatch h
theorem noPar_no : noPar .no := fun _ h => nomatch h
theorem putO_any {l o : List Lc} {i : Nat} {d : D} {x : Lc} (h : noPar x) : putO l o i d (some x) = some ⟨l.set i (lcOf d), o⟩ := by
  cases x with
  | par z => exact absurd rfl (h z)
  | _ => rfl
theorem setBO_any {l o : List Lc} {i : Nat} {d : D} {x : Lc} (h : noPar x) : setBO l o i d (some x) = some ⟨l.set i (.bor d), o⟩ := by
  cases x with
  | par z => exact absurd rfl (h z)
  | _ => rfl
/-! lists of numbers are compared -/
theorem pyL_ints {xs : List Int} : pyL (xs.map D.int) = some (xs.map PyData.int) := by
  induction xs with
  | nil => rfl
  | cons x r ih => rw [List.map_cons, pyL, ih]; rfl
theorem lay_ints {xs : List Int} : PyData.canLayAll0 (xs.map PyData.int) = true ∧ PyData.depthAll (xs.map PyData.int) = 0 := by
  induction xs with
  | nil => exact ⟨rfl, rfl⟩
  | cons x r ih =>
    rw [List.map_cons]
    exact ⟨by rw [PyData.canLayAll0, ih.1]; rfl, by rw [PyData.depthAll, ih.2]; rfl⟩
theorem eqv_ints : ∀ {xs ys : List Int}, PyData.eqvAll (xs.map PyData.int) (ys.map PyData.int) = decide (xs = ys)
  | [], [] => rfl
  | [], _ :: _ => rfl
  | _ :: _, [] => rfl
  | x :: r, y :: t => by
    rw [List.map_cons, List.map_cons, PyData.eqvAll, eqv_ints, PyData.eqv]
    by_cases h : x = y
    · subst h; simp
    · simp [h]
theorem eqB_ints {xs ys : List Int} : eqB (.lst (xs.map D.int)) (.lst (ys.map D.int)) = some (decide (xs = ys)) := by
  have h : ∀ xs : List Int, SeqAt.shaped (.list (xs.map PyData.int)) = true := fun xs => by
    unfold SeqAt.shaped
    rw [PyData.canLay0, PyData.depth, lay_ints.1, lay_ints.2]
    rfl
  show eqPy _ _ = _
  unfold eqPy
  rw [D.py, D.py, pyL_ints, pyL_ints]
  simp only [Option.map_some]
  rw [if_pos ⟨h xs, h ys⟩, PyData.eqv, eqv_ints]
end Dn
set_option Elab.async false
set_option linter.all false
set_option maxRecDepth 100000
set_option maxHeartbeats 4000000
/-! from the law's denotation to its end -/
namespace Dn
open PySem PySem.Spec PyProof.Rows L2 Tr
section
variable {P : Program} {w : World} {K : PySem.W.Frag} {mg : Str → Option Value} {base : Heap} {x qual mm : Str} {st : Stmt} {f C : Addr} {fd : FuncData} {N ps : List Str} {k n : Nat} {p : SV}
theorem fnD (F : Fn K x qual st f fd) (S : FnScope N ps (defScope st)) (body : BodyOk P w K mg base N qual st f k p) (hN : N.length = ps.length + n := by rfl) : FnOk P w K mg base CX0 (k + 1) f fd ps (spD ⟨K, w⟩ ((mkDen n p).arity ps.length)) :=
  fn_mk F S (spD_len _ _ arity_len) (body_run hN body)
theorem sqF_of {H : Hp} {a : Addr} {xs : List V} (hO : Only H) (h : SqL K H a xs) : SqF K H a xs := by
  rcases h with (h | ⟨o, h⟩) | h
  · rcases hO a with e | ⟨o, xs, e⟩
    · rw [e] at h; cases h
    · rw [e] at h; cases h
  · exact .inl ⟨o, h⟩
  · exact .inr fun _ => .inr h
theorem law_sp {den : Den} (h : ∀ ns : List Int, ∃ ps os, den [.bor (.frz ns)] [] = some (.ret (.bl true) ps os)) (H : Hp) (a : Addr) (ns : List Int) (hO : Only H) (hS : SqL K H a (ns.map V.int)) : spD ⟨K, w⟩ den [.ref a] H (fun v _ => v = .bl true) fun _ _ _ => False := by
  obtain ⟨ps, os, e⟩ := h ns
  refine ⟨[], [], [], [.bor (.frz ns)], [], .bl true, ps, os, rfl, ⟨[], [], rfl, ?_, .nil, List.nodup_nil, by simp⟩, e, fun v H' m' F F1 _ _ r _ => (rep_bl r).1⟩
  exact .cons (F := []) (G := []) (.bor (.frz (sqF_of hO hS)) (by simp)) .nil
end
end Dn
set_option Elab.async false
set_option linter.all false
set_option maxRecDepth 100000
set_option maxHeartbeats 4000000
/-! more words: insert, pop, and/or of values, slices, get, all of whose parts may change things -/
namespace Dn
open PySem PySem.Spec PyProof.Rows L2 Tr
theorem RepL.split {c : Ct} {m : List Addr} {H : Hp} : ∀ {xs : List V} {ds : List D} {G : List Addr} (n : Nat), RepL c m H xs ds G → ∃ A B, RepL c m H (xs.take n) (ds.take n) A ∧ RepL c m H (xs.drop n) (ds.drop n) B ∧ G = A ++ B
  | _, _, G, 0, h => ⟨[], G, .nil, h, rfl⟩
  | _, _, _, _ + 1, .nil => ⟨[], [], .nil, .nil, rfl⟩
  | _, _, _, n + 1, .cons r t => by
    obtain ⟨A, B, h1, h2, h3⟩ := RepL.split n t
    exact ⟨_ ++ A, B, .cons r h1, h2, by rw [h3, List.append_assoc]⟩
/-- what a method makes of a list and of what it is handed: what it tells (never a list or a dict), and the list behind it -/
abbrev MutG := List D → List D → Option (D × List D)
/-- the rule of a method that changes its list -/
def MutD (X : Cx) (id : String) (g : MutG) : Prop := ∃ r, MtR X id r ∧ ∀ (m : List Addr) (H : Hp) (l : Addr) (xs : List V) (ds : List D) (G : List Addr) (vs : List V) (as : List D) (Fe : List Addr) (d : D) (ys : List D) (Q : VK),
  H l = some (.lst xs) → RepL (ct X) m H xs ds G → RepL (ct X) m H vs as Fe → g ds as = some (d, ys) →
  (∀ y xs' G', RepL (ct X) m H xs' ys G' → ((G ++ Fe).Nodup → G'.Nodup) → (∀ a ∈ G', a ∈ G ++ Fe) → (∃ F, Rep (ct X) m H y d F) → Q y (upd H l (.lst xs'))) → r (.ref l) vs H Q
def mutGo (i : Nat) (g : MutG) (as : List D) : S → Option (Res D) := fun s => match s.get ⟨false, i, []⟩ with
  | some (.lst ds) => match g ds as with
    | some (d, ys) => if d.imm then some (.ok d (s.upd ⟨false, i, []⟩ (.lst ys))) else none
    | none => none
  | _ => none
def eMutN (i : Nat) (g : MutG) (ea : EA) : EV := fun s => match s.get ⟨false, i, []⟩ with
  | some (.lst _) => eB ea (fun as => mutGo i g as) s
  | _ => none
section
variable {X : Cx} {e a b o value : Expr} {es rest : List Expr} {pos : Pos} {p pv : PV} {q : PP} {x : Str} {ea eb ec : EV} {as : EA} {id : String} {g : MutG}
theorem mut_run {i : Nat} {m : List Addr} {F0 : Fq} {σ : St} {H H1 : Hp} {s s1 : S} {Q : VK} {r : V → List V → Hp → VK → Prop} {l : Addr} {vs : List V} {ads : List D} {m1 Fe F1 : List Addr}
    (hr : ∀ (m : List Addr) (H : Hp) (l : Addr) (xs : List V) (ds : List D) (G : List Addr) (vs : List V) (as : List D) (Fe : List Addr) (d : D) (ys : List D) (Q : VK),
      H l = some (.lst xs) → RepL (ct X) m H xs ds G → RepL (ct X) m H vs as Fe → g ds as = some (d, ys) →
      (∀ y xs' G', RepL (ct X) m H xs' ys G' → ((G ++ Fe).Nodup → G'.Nodup) → (∀ a ∈ G', a ∈ G ++ Fe) → (∃ F, Rep (ct X) m H y d F) → Q y (upd H l (.lst xs'))) → r (.ref l) vs H Q)
    (h1 : σ[i]? = some (some (.ref l))) (A : Af (ct X) m F0 H s σ Fe m1 F1 H1 s1) (r1 : RepL (ct X) m1 H1 vs ads Fe) (z : EPost X m F0 σ H s Q (mutGo i g ads s1)) : r (.ref l) vs H1 Q := by
  unfold mutGo at z
  split at z
  · rename_i ds hg1
    split at z
    · rename_i d ys hgg
      by_cases hi : d.imm = true
      · rw [if_pos hi] at z
        obtain ⟨v0', v', h1', t', l'⟩ := A.rl.lens hg1
        have t' : Trav (ct X) H1 v0' [] v' := t'
        have h1' : σ[i]? = some (some v0') := h1'
        cases t'
        rw [h1] at h1'
        cases h1'
        obtain ⟨a, xs, G, e1, ha, rr, nd, sub, k⟩ := l'.wlst
        cases e1
        refine hr m1 H1 l xs ds G vs ads Fe d ys Q ha rr r1 hgg fun y xs' G' rr' ndk sb ⟨Fy, ry⟩ => ?_
        have ndF : ((Fe ++ F0.1) ++ F1).Nodup := A.rl.nd
        have ndFe : Fe.Nodup := (List.nodup_append.mp (List.nodup_append.mp ndF).1).1
        have ndA := nd_app nd ndFe fun b hb z => (sub b z).2 (by simp [hb])
        have ndA' := List.nodup_cons.mp ndA
        have nd' : (l :: G').Nodup := List.nodup_cons.mpr ⟨fun z => ndA'.1 (sb l z), ndk ndA'.2⟩
        obtain ⟨F1', g1, g2, g3⟩ := k Fe F0.1 rfl H1 xs' ys G' (Same.refl _) rr' nd' fun b hb => (List.mem_append.mp (sb b hb)).elim .inl fun q => .inr (.inl q)
        have ry0 := ry.imm hi
        subst ry0
        have W := A.write g1 (fun b hb => ?_) g3
        · refine z y _ m1 [] F1' W ?_
          exact ry.keep (F0 := [l]) (kp_upd (Same.refl _) (by simp)) (fun b hb => by
            have hb : b = l := by simpa using hb
            subst hb
            exact ⟨_, ha, rfl⟩) (fun _ _ h => h) (by simp)
        · rcases g2 b hb with q | q
          · exact .inl q
          · rcases List.mem_append.mp (sb b q) with q | q
            · exact .inl (sub b (by simp [q])).1
            · exact .inr (.inl q)
      · rw [if_neg hi] at z; exact (show False from z).elim
    · exact (show False from z).elim
  · exact (show False from z).elim
/-- x.name(e, ..), x a slot -/
theorem je_mutN (i : Nat) {name : Str} {p1 apos : Pos} (hM : MutD X id g) (slot : Slot "list" name id) (hty : typeOf (.builtin id) = pure (.type "method_descriptor")) (h : JEA X (e :: es) as) (hN : X.N[i]? = some x := by rfl) (hv : Vis X.env.scope x := by first | exact Or.inl rfl | exact Or.inr (Or.inl rfl) | exact Or.inr (Or.inr rfl)) (hd : (x == ("__debug__" : Str)) = false := by decide)
    (hcd : (x == ("__classdict__" : Str)) = false := by decide)
    (hbase : attributeBase (.Name x p1) name X.env (eval (.Name x p1) X.env) = eval (.Name x p1) X.env := by rfl)
    (hfew : ((backTo pos (starEach (e :: es) X.env)).all (fun x => !x.1) && (backToKw pos (keywordEach [] X.env)).all (fun x => x.1.isSome)
      && decide ((e :: es).length + ([] : List Keyword).length + (if ([] : List Keyword).isEmpty then 0 else 1) < 30)) = true := by rfl)
    (hline : (apos.endLine == pos.line) = true := by rfl) (hs : starEach (e :: es) X.env = (false, eval e X.env) :: starEach es X.env := by rfl) (hplain : (backTo pos (starEach es X.env)).any (·.1) = false := by rfl) :
    JE X (.Call (.Attribute (.Name x p1) name apos) (e :: es) [] pos) (eMutN i g as) := ⟨fun m F0 σ H s r Q z => by
  obtain ⟨rr, hm, hr⟩ := hM
  unfold eMutN at z
  split at z
  · rename_i ds0 hg
    obtain ⟨v0, v, h1, t, l⟩ := r.lens hg
    have t : Trav (ct X) H v0 [] v := t
    have h1 : σ[i]? = some (some v0) := h1
    cases t
    obtain ⟨a0, xs0, G0, rfl, ha0, _⟩ := l.wlst
    exact w_bm PySem.F.plainAttrs_list slot hty hm (w_v i h1 ⟨.inl ⟨rfl, _, SqL.of ha0⟩, h.run m F0 σ H s r _ (APost.then (P := EPost X m F0 σ H s Q) (fun _ _ h => h) (fun h => h) z fun ds s1 vs H1 m1 Fe F1 A r1 z => mut_run hr h1 A r1 z)⟩ hN hv hd hcd) hbase hfew hline hs hplain
  · exact (show False from z).elim⟩
/-- x.name() -/
theorem je_mutN0 (i : Nat) {name : Str} {p1 apos : Pos} (hM : MutD X id g) (slot : Slot "list" name id) (hty : typeOf (.builtin id) = pure (.type "method_descriptor")) (hN : X.N[i]? = some x := by rfl) (hv : Vis X.env.scope x := by first | exact Or.inl rfl | exact Or.inr (Or.inl rfl) | exact Or.inr (Or.inr rfl)) (hd : (x == ("__debug__" : Str)) = false := by decide)
    (hcd : (x == ("__classdict__" : Str)) = false := by decide)
    (hbase : attributeBase (.Name x p1) name X.env (eval (.Name x p1) X.env) = eval (.Name x p1) X.env := by rfl)
    (hline : (apos.endLine == pos.line) = true := by rfl) :
    JE X (.Call (.Attribute (.Name x p1) name apos) [] [] pos) (eMutN i g eaNil) := ⟨fun m F0 σ H s r Q z => by
  obtain ⟨rr, hm, hr⟩ := hM
  unfold eMutN at z
  split at z
  · rename_i ds0 hg
    obtain ⟨v0, v, h1, t, l⟩ := r.lens hg
    have t : Trav (ct X) H v0 [] v := t
    have h1 : σ[i]? = some (some v0) := h1
    cases t
    obtain ⟨a0, xs0, G0, rfl, ha0, _⟩ := l.wlst
    exact w_bm0 PySem.F.plainAttrs_list slot hty hm (w_v i h1 ⟨.inl ⟨rfl, _, SqL.of ha0⟩, mut_run (Fe := []) hr h1 (Af.same r (Same.refl _)) .nil z⟩ hN hv hd hcd) hbase hline
  · exact (show False from z).elim⟩
noncomputable def gIns : MutG := fun ds as => match as with
  | [.int i, d] => @ite _ (szOk ds.length = true ∧ 0 ≤ i ∧ i < 2 ^ 62) (Classical.propDecidable _) (some (.non, ds.take i.toNat ++ [d] ++ ds.drop i.toNat)) none
  | _ => none
theorem md_insert : MutD X "list.insert" gIns := ⟨_, mt_insert, fun m H l xs ds G vs as Fe d ys Q hl rr ra hg q => by
  unfold gIns at hg
  split at hg
  · rename_i i d0
    split at hg
    · rename_i hc
      obtain ⟨hz, i0, i1⟩ := hc
      cases hg
      cases ra with
      | cons r1 t1 =>
        obtain ⟨rfl, rfl⟩ := rep_int r1
        cases t1 with
        | @cons v2 _ _ _ F2 _ r2 t2 =>
          cases t2
          have hsplit : ∃ A B, RepL (ct X) m H (xs.take i.toNat) (ds.take i.toNat) A ∧ RepL (ct X) m H (xs.drop i.toNat) (ds.drop i.toNat) B ∧ G = A ++ B := RepL.split i.toNat rr
          obtain ⟨A, B, ha, hb, hG⟩ := hsplit
          refine ⟨l, xs, i, v2, rfl, rfl, hl, szOk_lt (by rw [rr.length]; exact hz), i0, by omega, q .non _ ((A ++ F2) ++ B) ((ha.append (RepL.one r2)).append hb) (fun nd => ?_) (fun a ha => ?_) ⟨[], .non⟩⟩
          · subst hG
            simp only [List.append_nil, List.nil_append] at nd
            have : ((A ++ F2) ++ B).Perm ((A ++ B) ++ F2) := by
              rw [List.append_assoc, List.append_assoc]
              exact List.Perm.append_left A List.perm_append_comm
            exact (this.nodup_iff).mpr nd
          · subst hG
            simp only [List.mem_append, List.append_nil, List.nil_append] at ha ⊢
            rcases ha with (h | h) | h
            · exact .inl (.inl h)
            · exact .inr h
            · exact .inl (.inr h)
    · cases hg
  · cases hg⟩
def gPopL : MutG := fun ds as => match as with
  | [] => (ds[ds.length - 1]?).map fun d => (d, ds.dropLast)
  | _ => none
theorem repL_take {m : List Addr} {H : Hp} {xs : List V} {ds : List D} {G : List Addr} {k : Nat} {d : D} (rr : RepL (ct X) m H xs ds G) (hd : ds[k]? = some d) : ∃ v A B Z, xs[k]? = some v ∧ Rep (ct X) m H v d Z ∧ RepL (ct X) m H (xs.eraseIdx k) (ds.eraseIdx k) (A ++ B) ∧ G = A ++ (Z ++ B) := by
  obtain ⟨v, A, B, Z, h1, h2, h3, h4, h5⟩ := rr.get hd
  refine ⟨v, A, B, Z, h1, h3, ?_, h2⟩
  rw [List.eraseIdx_eq_take_drop_succ, List.eraseIdx_eq_take_drop_succ]
  exact h4.append h5
theorem nd_mid {A Z B Fe : List Addr} (h : (A ++ (Z ++ B) ++ Fe).Nodup) : (A ++ B).Nodup := by
  have h1 := (List.nodup_append.mp h).1
  have hs : List.Sublist (A ++ B) (A ++ (Z ++ B)) := List.Sublist.append (List.Sublist.refl _) (List.sublist_append_right _ _)
  exact hs.nodup h1
theorem md_pop0 : MutD X "list.pop" gPopL := ⟨_, mt_pop, fun m H l xs ds G vs as Fe d ys Q hl rr ra hg q => by
  unfold gPopL at hg
  split at hg
  · cases hd : ds[ds.length - 1]? with
    | none => rw [hd] at hg; cases hg
    | some d0 =>
      rw [hd] at hg
      cases hg
      cases ra
      obtain ⟨v, A, B, Z, h1, h2, h3, h4⟩ := repL_take rr hd
      have e1 : xs.dropLast = xs.eraseIdx (ds.length - 1) := by rw [← rr.length]; exact (PyProof.Rows.Copied.eraseIdx_last xs).symm
      have e2 : ds.dropLast = ds.eraseIdx (ds.length - 1) := (PyProof.Rows.Copied.eraseIdx_last ds).symm
      refine ⟨l, xs, v, rfl, rfl, hl, by rw [rr.length]; exact h1, ?_⟩
      rw [e1]
      refine q v _ (A ++ B) (by rw [e2]; exact h3) (fun nd => nd_mid (Fe := []) (by rw [h4] at nd; exact nd)) (fun a ha => ?_) ⟨Z, h2⟩
      rw [h4]
      simp only [List.mem_append] at ha ⊢
      rcases ha with h | h
      · exact .inl (.inl h)
      · exact .inl (.inr (.inr h))
  · cases hg⟩
def gPopI : MutG := fun ds as => match as with
  | [.int i] => (ixN ds.length i).bind fun k => (ds[k]?).map fun d => (d, ds.eraseIdx k)
  | _ => none
end
section
variable {l o : List Lc} {i : Nat} {d x y : D} {s : S} {g : MutG} {ea eb : EV} {as : EA}
def mut1 (s : S) (i : Nat) : Option (D × List D) → Option (Res D)
  | some (d, ys) => if d.imm then some (.ok d (s.upd ⟨false, i, []⟩ (.lst ys))) else none
  | none => none
@[simp] theorem mut1_ev {ys : List D} : mut1 s i (some (d, ys)) = if d.imm then some (.ok d (s.upd ⟨false, i, []⟩ (.lst ys))) else none := rfl
def mut2 (s : S) (i : Nat) (g : MutG) (as : List D) : Option D → Option (Res D)
  | some (.lst ds) => mut1 s i (g ds as)
  | _ => none
@[simp] theorem mut2_ev {ads ds : List D} : mut2 s i g ads (some (.lst ds)) = mut1 s i (g ds ads) := rfl
@[simp] theorem mutGo_ev {ads : List D} : mutGo i g ads ⟨l, o⟩ = mut2 ⟨l, o⟩ i g ads (S.get ⟨l, o⟩ ⟨false, i, []⟩) := by
  unfold mutGo mut2 mut1
  rfl
@[simp] theorem eMutN_ev : eMutN i g as ⟨l, o⟩ = isL (bO (as ⟨l, o⟩) (fun ads => mutGo i g ads)) (S.get ⟨l, o⟩ ⟨false, i, []⟩) := by
  unfold eMutN isL
  rfl
theorem gIns_ev {ds : List D} {i : Int} (h : ds.length ≤ 10000000) (h0 : 0 ≤ i) (h1 : i < 1000000000) : gIns ds [.int i, d] = some (.non, ds.take i.toNat ++ [d] ++ ds.drop i.toNat) := by
  unfold gIns
  simp only
  rw [if_pos ⟨by simpa using h, h0, by omega⟩]
end
end Dn
set_option Elab.async false
set_option linter.all false
set_option maxRecDepth 100000
set_option maxHeartbeats 4000000
/-! more words: dict(pairs), get of a dict that is made there, and/or of values -/
namespace Dn
open PySem PySem.Spec PyProof.Rows L2 Tr
def pairOf : D → Option (Key × D)
  | .tup [k, v] => if v.imm then k.key.map fun key => (key, v) else none
  | _ => none
def pairsOf : List D → Option (List (Key × D))
  | [] => some []
  | d :: r => match pairOf d, pairsOf r with
    | some p, some t => some (p :: t)
    | _, _ => none
def dDict : List D → Option (D × Bool)
  | [.lst ds] => (pairsOf ds).map fun kvs => (.dic (mergeD [] kvs), true)
  | _ => none
section
variable {X : Cx} {e a b o value : Expr} {es rest : List Expr} {pos : Pos} {p pk px : PV} {x : Str} {ea eb eo : EV} {as : EA}
theorem pairs_rep {m : List Addr} {H : Hp} : ∀ {ys : List V} {ds : List D} {G : List Addr} {kvs : List (Key × D)}, RepL (ct X) m H ys ds G → pairsOf ds = some kvs →
    ∃ (ps : List Addr) (kx : List (Key × V)), ys = ps.map V.ref ∧ Paired (fun p kv => SqT X.K H p [kV kv.1, kv.2]) ps kx ∧ kx.map Prod.fst = kvs.map Prod.fst ∧ RepL (ct X) m H (kx.map Prod.snd) (kvs.map Prod.snd) []
  | _, _, _, kvs, .nil, e => by
    cases e
    exact ⟨[], [], rfl, .nil, rfl, .nil⟩
  | _, _, _, kvs, .cons (v := v) (d := d) r t, e => by
    unfold pairsOf at e
    split at e
    · rename_i p t' h1 h2
      cases e
      obtain ⟨ps, kx, g1, g2, g3, g4⟩ := pairs_rep t h2
      unfold pairOf at h1
      split at h1
      · rename_i k w
        split at h1
        · rename_i hi
          cases hk : k.key with
          | none => rw [hk] at h1; cases h1
          | some key =>
            rw [hk] at h1
            cases h1
            obtain ⟨a, xs, rfl, hs, rr⟩ := rep_tup r
            cases rr with
            | cons r1 t1 =>
              cases t1 with
              | cons r2 t2 =>
                cases t2
                have e1 := key_kV r1 hk
                subst e1
                have e2 := r2.imm hi
                subst e2
                exact ⟨a :: ps, (key, _) :: kx, by rw [g1]; rfl, .cons hs g2, by rw [List.map_cons, List.map_cons, g3], .cons (F := []) (G := []) r2 g4⟩
        · cases h1
      · cases h1
    · cases e
theorem cd_dict (hc : X.calm = true) : CallD X (.type "dict") dDict := CallD.mk (call_dictP hc) fun m H xs ds F d fr Q r e q => by
  unfold dDict at e
  split at e
  · rename_i ds
    cases hp : pairsOf ds with
    | none => rw [hp] at e; cases e
    | some kvs =>
      rw [hp] at e
      cases e
      obtain ⟨v, rfl, r1⟩ := repL1 r
      obtain ⟨a, ys, G, rfl, rfl, ha, rr⟩ := rep_lst r1
      obtain ⟨ps, kx, g1, g2, g3, g4⟩ := pairs_rep rr hp
      subst g1
      refine ⟨a, ps, kx, rfl, SqL.of ha, g2, fun p hn => ?_⟩
      obtain ⟨i1, i2, G', i3, i4, i5⟩ := merge_rep (kx := []) (kvs := []) (G := []) g3 g4 rfl List.nodup_nil .nil
      have hG : G' = [] := by
        cases G' with
        | nil => rfl
        | cons b _ => exact ((i4 b (by simp)).elim (fun z => by simp at z) (fun z => by simp at z))
      subst hG
      exact q (.ref p) _ [p] (same_new hn) (.dic upd_same i1 i2 (i3.same (same_new hn))) (fresh_new (Same.refl _) hn fun _ => rfl)
  · cases e
/-- o.get(k, x), o may be made there -/
def eGetP (eo : EV) (pk px : PV) : EV := eB eo fun o s => match pk s with
  | some (k, _) => match px s with
    | some (x, _) => match dGet2 o k x with
      | some (d, _) => if d.imm then some (.ok d s) else none
      | none => none
    | none => none
  | none => none
theorem je_getP {n : Nat} {apos : Pos} (hr : Room n X.A) (ho : JE X o eo) (hk : JP X a pk) (hx : JP X b px) (mm : M2 X o "get" apos a b pos := by exact ⟨rfl, rfl, rfl, rfl⟩) : JE X (.Call (.Attribute o "get" apos) [a, b] [] pos) (eGetP eo pk px) := ⟨fun m F0 σ H s r Q q => by
  refine w_dget2 (hu_of hr) (ho.run m F0 σ H s r _ (EPost.then (P := EPost X m F0 σ H s Q) (fun _ _ h => h) (fun h => h) q fun d s1 v H1 m1 F F1 A r1 z => ?_)) mm
  split at z
  · rename_i k f1 h1
    split at z
    · rename_i x f2 h2
      split at z
      · rename_i d' f3 h3
        by_cases hi : d'.imm = true
        · rw [if_pos hi] at z
          unfold dGet2 at h3
          split at h3
          · rename_i kvs
            split at h3
            · rename_i ky hky
              obtain ⟨a', kx, G, rfl, rfl, hs, _⟩ := rep_dic r1
              refine ⟨a', rfl, .inl ⟨kx, .inl hs⟩, hk.run m1 _ σ H1 s1 A.rl k f1 h1 _ fun u H2 F2 s2 r2 _ => hx.run m1 _ σ H2 s1 (A.rl.same s2) x f2 h2 _ fun w H3 F3 s3 r3 n3 => ?_⟩
              rw [key_kV r2 hky]
              obtain ⟨a2, ov, e1, g1, _, g2, g3⟩ := dic_get ((r1.same s2).same s3) ky
              cases e1
              refine ⟨ov, g1, ?_⟩
              cases hgl : glook kvs ky with
              | none =>
                rw [hgl] at h3 g2
                cases h3
                have : ov = none := by cases ov with
                  | none => rfl
                  | some _ => cases g2
                subst this
                have e2 := r3.imm hi
                subst e2
                exact z w H3 m1 [] F1 (A.swapN (s2.trans s3)) r3
              | some dd =>
                rw [hgl] at h3
                cases h3
                obtain ⟨w', G', rfl, g4⟩ := g3 _ hgl
                have e2 := g4.imm hi
                subst e2
                exact z w' H3 m1 [] F1 (A.swapN (s2.trans s3)) g4
            · cases h3
          · cases h3
        · rw [if_neg hi] at z; exact (show False from z).elim
      · exact (show False from z).elim
    · exact (show False from z).elim
  · exact (show False from z).elim⟩
/-! and, or of values whose parts may change things -/
def eAnd (ea eb : EV) : EV := eB ea fun d s => match d with
  | .bl true => eb s
  | .bl false => some (.ok (.bl false) s)
  | _ => none
def eOr (ea eb : EV) : EV := eB ea fun d s => match d with
  | .bl true => some (.ok (.bl true) s)
  | .bl false => eb s
  | _ => none
theorem je_one {op : BoolOp} (h : JE X a ea) : JE X (.BoolOp op [a] pos) ea := ⟨fun m F0 σ H s r Q q => w_one (h.run m F0 σ H s r Q q)⟩
theorem je_andE (ha : JE X a ea) (hb : JE X (.BoolOp .And (b :: rest) pos) eb) : JE X (.BoolOp .And (a :: b :: rest) pos) (eAnd ea eb) := ⟨fun m F0 σ H s r Q q =>
  w_and (ha.run m F0 σ H s r _ (EPost.then (P := EPost X m F0 σ H s Q) (fun _ _ h => h) (fun h => h) q fun d s1 v H1 m1 F F1 A r1 z => by
    split at z
    · obtain ⟨rfl, rfl⟩ := rep_bl r1
      refine ⟨true, rfl, ?_⟩
      rw [if_pos rfl]
      exact hb.run m1 _ σ H1 s1 A.rl Q (by simpa using EPost.up A z)
    · obtain ⟨rfl, rfl⟩ := rep_bl r1
      refine ⟨false, rfl, ?_⟩
      rw [if_neg (by decide)]
      exact z _ H1 m1 [] F1 A (.bl false)
    · exact (show False from z).elim))⟩
theorem je_orE (ha : JE X a ea) (hb : JE X (.BoolOp .Or (b :: rest) pos) eb) : JE X (.BoolOp .Or (a :: b :: rest) pos) (eOr ea eb) := ⟨fun m F0 σ H s r Q q =>
  w_or (ha.run m F0 σ H s r _ (EPost.then (P := EPost X m F0 σ H s Q) (fun _ _ h => h) (fun h => h) q fun d s1 v H1 m1 F F1 A r1 z => by
    split at z
    · obtain ⟨rfl, rfl⟩ := rep_bl r1
      refine ⟨true, rfl, ?_⟩
      rw [if_pos rfl]
      exact z _ H1 m1 [] F1 A (.bl true)
    · obtain ⟨rfl, rfl⟩ := rep_bl r1
      refine ⟨false, rfl, ?_⟩
      rw [if_neg (by decide)]
      exact hb.run m1 _ σ H1 s1 A.rl Q (by simpa using EPost.up A z)
    · exact (show False from z).elim))⟩
end
theorem bt_dict : bootBuiltins "dict" = some (.type "dict") := by decide +kernel
section
variable {l o : List Lc} {d k x : D} {f : Bool} {pk px : PV} {ea eb eo : EV} {s : S}
def get4 (s : S) : Option (D × Bool) → Option (Res D)
  | some (d, _) => if d.imm then some (.ok d s) else none
  | none => none
@[simp] theorem get4_ev : get4 s (some (d, f)) = if d.imm then some (.ok d s) else none := rfl
def get5 (s : S) (o : D) : Option (D × Bool) → Option (D × Bool) → Option (Res D)
  | some (k, _), some (x, _) => get4 s (dGet2 o k x)
  | _, _ => none
@[simp] theorem get5_ev {f2 : Bool} {o : D} : get5 s o (some (k, f)) (some (x, f2)) = get4 s (dGet2 o k x) := rfl
@[simp] theorem eGetP_ev : eGetP eo pk px ⟨l, o⟩ = bO (eo ⟨l, o⟩) (fun d s => get5 s d (pk s) (px s)) := by
  unfold eGetP eB bO get5 get4
  cases eo ⟨l, o⟩ with
  | none => rfl
  | some z => cases z with
    | ex x s => rfl
    | ok d s =>
      simp only
      cases pk s with
      | none => rfl
      | some k =>
        simp only
        cases px s with
        | none => rfl
        | some x =>
          simp only
@[simp] theorem eAnd_ev : eAnd ea eb ⟨l, o⟩ = bO (ea ⟨l, o⟩) (fun d s => match d with
  | .bl true => eb s
  | .bl false => some (.ok (.bl false) s)
  | _ => none) := rfl
@[simp] theorem eOr_ev : eOr ea eb ⟨l, o⟩ = bO (ea ⟨l, o⟩) (fun d s => match d with
  | .bl true => some (.ok (.bl true) s)
  | .bl false => eb s
  | _ => none) := rfl
@[simp] theorem dGet2_dicI {kvs : List (Key × D)} {i : Int} : dGet2 (.dic kvs) (.int i) x = some ((glook kvs (.inl i)).getD x, false) := by
  unfold dGet2
  simp only [key_int]
  cases glook kvs (.inl i) <;> rfl
@[simp] theorem dGet2_dicS {kvs : List (Key × D)} {i : Str} : dGet2 (.dic kvs) (.str i) x = some ((glook kvs (.inr i)).getD x, false) := by
  unfold dGet2
  simp only [key_str]
  cases glook kvs (.inr i) <;> rfl
end
end Dn
set_option Elab.async false
set_option linter.all false
set_option maxRecDepth 100000
set_option maxHeartbeats 4000000
namespace Kt
open PySem PySem.Spec PyProof.Rows L2 Tr
abbrev St := L2.St
def top (i : Nat) : Stmt := PySem.Challenge.pw_testedrows_k11_whole_nobody_reads_them.main.body.getD i (.Pass ⟨0, 0, 0, 0⟩)
abbrev s_BadTested_init : Stmt := inClass (top 2) 0
abbrev N_BadTested_init : List Str := ["self", "piece", "row"]
theorem sc_BadTested_init : FnScope N_BadTested_init ["self", "piece", "row"] (defScope s_BadTested_init) := ⟨rfl, rfl, rfl, by decide +kernel, rfl, by decide +kernel, by decide +kernel⟩
theorem bd_BadTested_init : Bnd "__init__" "BadTested.__init__" s_BadTested_init ["self", "piece", "row"] := fun _ _ _ _ _ _ us hl => match us, hl with | [_, _, _], _ => rfl
abbrev s_is_number : Stmt := top 7
abbrev N_is_number : List Str := ["part", "low", "high"]
theorem sc_is_number : FnScope N_is_number ["part", "low", "high"] (defScope s_is_number) := ⟨rfl, rfl, rfl, by decide +kernel, rfl, by decide +kernel, by decide +kernel⟩
theorem bd_is_number : Bnd "is_number" "is_number" s_is_number ["part", "low", "high"] := fun _ _ _ _ _ _ us hl => match us, hl with | [_, _, _], _ => rfl
abbrev s_shape_of : Stmt := top 18
abbrev N_shape_of : List Str := ["word"]
theorem sc_shape_of : FnScope N_shape_of ["word"] (defScope s_shape_of) := ⟨rfl, rfl, rfl, by decide +kernel, rfl, by decide +kernel, by decide +kernel⟩
theorem bd_shape_of : Bnd "shape_of" "shape_of" s_shape_of ["word"] := fun _ _ _ _ _ _ us hl => match us, hl with | [_], _ => rfl
abbrev s_is_row : Stmt := top 19
abbrev N_is_row : List Str := ["row", "shape", "kind", "part"]
theorem sc_is_row : FnScope N_is_row ["row"] (defScope s_is_row) := ⟨rfl, rfl, rfl, by decide +kernel, rfl, by decide +kernel, by decide +kernel⟩
theorem bd_is_row : Bnd "is_row" "is_row" s_is_row ["row"] := fun _ _ _ _ _ _ us hl => match us, hl with | [_], _ => rfl
abbrev s_are_goes : Stmt := top 20
abbrev N_are_goes : List Str := ["goes", "many", "pair"]
theorem sc_are_goes : FnScope N_are_goes ["goes", "many"] (defScope s_are_goes) := ⟨rfl, rfl, rfl, by decide +kernel, rfl, by decide +kernel, by decide +kernel⟩
theorem bd_are_goes : Bnd "are_goes" "are_goes" s_are_goes ["goes", "many"] := fun _ _ _ _ _ _ us hl => match us, hl with | [_, _], _ => rfl
abbrev s_need_tested : Stmt := top 21
abbrev N_need_tested : List Str := ["tested", "ins", "names", "pieces", "number", "piece"]
theorem sc_need_tested : FnScope N_need_tested ["tested"] (defScope s_need_tested) := ⟨rfl, rfl, rfl, by decide +kernel, rfl, by decide +kernel, by decide +kernel⟩
theorem bd_need_tested : Bnd "need_tested" "need_tested" s_need_tested ["tested"] := fun _ _ _ _ _ _ us hl => match us, hl with | [_], _ => rfl
abbrev s_need_piece : Stmt := top 22
abbrev N_need_piece : List Str := ["number", "piece", "many", "at", "row"]
theorem sc_need_piece : FnScope N_need_piece ["number", "piece", "many"] (defScope s_need_piece) := ⟨rfl, rfl, rfl, by decide +kernel, rfl, by decide +kernel, by decide +kernel⟩
theorem bd_need_piece : Bnd "need_piece" "need_piece" s_need_piece ["number", "piece", "many"] := fun _ _ _ _ _ _ us hl => match us, hl with | [_, _, _], _ => rfl
abbrev s_reads : Stmt := top 23
abbrev N_reads : List Str := ["row", "kind", "part"]
theorem sc_reads : FnScope N_reads ["row"] (defScope s_reads) := ⟨rfl, rfl, rfl, by decide +kernel, rfl, by decide +kernel, by decide +kernel⟩
theorem bd_reads : Bnd "reads" "reads" s_reads ["row"] := fun _ _ _ _ _ _ us hl => match us, hl with | [_], _ => rfl
abbrev s_makes : Stmt := top 24
abbrev N_makes : List Str := ["row", "kind", "part"]
theorem sc_makes : FnScope N_makes ["row"] (defScope s_makes) := ⟨rfl, rfl, rfl, by decide +kernel, rfl, by decide +kernel, by decide +kernel⟩
theorem bd_makes : Bnd "makes" "makes" s_makes ["row"] := fun _ _ _ _ _ _ us hl => match us, hl with | [_], _ => rfl
abbrev s_all_rows : Stmt := top 26
abbrev N_all_rows : List Str := ["pieces", "found", "number", "piece", "place", "row"]
theorem sc_all_rows : FnScope N_all_rows ["pieces"] (defScope s_all_rows) := ⟨rfl, rfl, rfl, by decide +kernel, rfl, by decide +kernel, by decide +kernel⟩
theorem bd_all_rows : Bnd "all_rows" "all_rows" s_all_rows ["pieces"] := fun _ _ _ _ _ _ us hl => match us, hl with | [_], _ => rfl
abbrev s_is_idle : Stmt := top 27
abbrev N_is_idle : List Str := ["row", "piece", "read", "used", "one", "pair", "test"]
theorem sc_is_idle : FnScope N_is_idle ["row", "piece", "read"] (defScope s_is_idle) := ⟨rfl, rfl, rfl, by decide +kernel, rfl, by decide +kernel, by decide +kernel⟩
theorem bd_is_idle : Bnd "is_idle" "is_idle" s_is_idle ["row", "piece", "read"] := fun _ _ _ _ _ _ us hl => match us, hl with | [_, _, _], _ => rfl
abbrev s_lean : Stmt := top 28
abbrev N_lean : List Str := ["tested", "pieces", "read", "number", "place", "row", "one", "left", "piece"]
theorem sc_lean : FnScope N_lean ["tested"] (defScope s_lean) := ⟨rfl, rfl, rfl, by decide +kernel, rfl, by decide +kernel, by decide +kernel⟩
theorem bd_lean : Bnd "lean" "lean" s_lean ["tested"] := fun _ _ _ _ _ _ us hl => match us, hl with | [_], _ => rfl
abbrev s__law_dice : Stmt := top 30
abbrev N__law_dice : List Str := ["_law_script", "_law_mixed", "_law_cell"]
theorem sc__law_dice : FnScope N__law_dice ["_law_script"] (defScope s__law_dice) := ⟨rfl, rfl, rfl, by decide +kernel, rfl, by decide +kernel, by decide +kernel⟩
theorem bd__law_dice : Bnd "_law_dice" "_law_dice" s__law_dice ["_law_script"] := fun _ _ _ _ _ _ us hl => match us, hl with | [_], _ => rfl
abbrev s__law_next : Stmt := top 31
abbrev N__law_next : List Str := ["_law_dice_here", "_law_many", "_law_found", "_law_cell"]
theorem sc__law_next : FnScope N__law_next ["_law_dice_here", "_law_many"] (defScope s__law_next) := ⟨rfl, rfl, rfl, by decide +kernel, rfl, by decide +kernel, by decide +kernel⟩
theorem bd__law_next : Bnd "_law_next" "_law_next" s__law_next ["_law_dice_here", "_law_many"] := fun _ _ _ _ _ _ us hl => match us, hl with | [_, _], _ => rfl
abbrev s__law_any_handed : Stmt := top 32
abbrev N__law_any_handed : List Str := ["_law_d", "_law_ins", "_law_k"]
theorem sc__law_any_handed : FnScope N__law_any_handed ["_law_d", "_law_ins"] (defScope s__law_any_handed) := ⟨rfl, rfl, rfl, by decide +kernel, rfl, by decide +kernel, by decide +kernel⟩
theorem bd__law_any_handed : Bnd "_law_any_handed" "_law_any_handed" s__law_any_handed ["_law_d", "_law_ins"] := fun _ _ _ _ _ _ us hl => match us, hl with | [_, _], _ => rfl
abbrev s__law_reckoned : Stmt := top 33
abbrev N__law_reckoned : List Str := ["_law_s", "_law_word", "_law_one", "_law_other"]
theorem sc__law_reckoned : FnScope N__law_reckoned ["_law_s", "_law_word", "_law_one", "_law_other"] (defScope s__law_reckoned) := ⟨rfl, rfl, rfl, by decide +kernel, rfl, by decide +kernel, by decide +kernel⟩
theorem bd__law_reckoned : Bnd "_law_reckoned" "_law_reckoned" s__law_reckoned ["_law_s", "_law_word", "_law_one", "_law_other"] := fun _ _ _ _ _ _ us hl => match us, hl with | [_, _, _, _], _ => rfl
abbrev s__law_cell_of : Stmt := top 34
abbrev N__law_cell_of : List Str := ["_law_s", "_law_place"]
theorem sc__law_cell_of : FnScope N__law_cell_of ["_law_s", "_law_place"] (defScope s__law_cell_of) := ⟨rfl, rfl, rfl, by decide +kernel, rfl, by decide +kernel, by decide +kernel⟩
theorem bd__law_cell_of : Bnd "_law_cell_of" "_law_cell_of" s__law_cell_of ["_law_s", "_law_place"] := fun _ _ _ _ _ _ us hl => match us, hl with | [_, _], _ => rfl
abbrev s__law_some_row : Stmt := top 35
abbrev N__law_some_row : List Str := ["_law_d", "_law_w", "_law_way", "_law_place", "_law_k", "_law_one", "_law_made", "_law_test", "_law_pair", "_law_word"]
theorem sc__law_some_row : FnScope N__law_some_row ["_law_d", "_law_w"] (defScope s__law_some_row) := ⟨rfl, rfl, rfl, by decide +kernel, rfl, by decide +kernel, by decide +kernel⟩
theorem bd__law_some_row : Bnd "_law_some_row" "_law_some_row" s__law_some_row ["_law_d", "_law_w"] := fun _ _ _ _ _ _ us hl => match us, hl with | [_, _], _ => rfl
abbrev s__law_some_rows : Stmt := top 36
abbrev N__law_some_rows : List Str := ["_law_d", "_law_names", "_law_most", "_law_wide", "_law_w", "_law_rows", "_law_k"]
theorem sc__law_some_rows : FnScope N__law_some_rows ["_law_d", "_law_names", "_law_most"] (defScope s__law_some_rows) := ⟨rfl, rfl, rfl, by decide +kernel, rfl, by decide +kernel, by decide +kernel⟩
theorem bd__law_some_rows : Bnd "_law_some_rows" "_law_some_rows" s__law_some_rows ["_law_d", "_law_names", "_law_most"] := fun _ _ _ _ _ _ us hl => match us, hl with | [_, _, _], _ => rfl
abbrev s__law_some_goes : Stmt := top 37
abbrev N__law_some_goes : List Str := ["_law_d", "_law_made", "_law_off", "_law_many", "_law_found", "_law_k", "_law_test"]
theorem sc__law_some_goes : FnScope N__law_some_goes ["_law_d", "_law_made", "_law_off", "_law_many"] (defScope s__law_some_goes) := ⟨rfl, rfl, rfl, by decide +kernel, rfl, by decide +kernel, by decide +kernel⟩
theorem bd__law_some_goes : Bnd "_law_some_goes" "_law_some_goes" s__law_some_goes ["_law_d", "_law_made", "_law_off", "_law_many"] := fun _ _ _ _ _ _ us hl => match us, hl with | [_, _, _, _], _ => rfl
abbrev s__law_some_tested : Stmt := top 38
abbrev N__law_some_tested : List Str := ["_law_d", "_law_most", "_law_ins", "_law_names", "_law_many", "_law_pieces", "_law_k", "_law_rows", "_law_made", "_law_off"]
theorem sc__law_some_tested : FnScope N__law_some_tested ["_law_d", "_law_most"] (defScope s__law_some_tested) := ⟨rfl, rfl, rfl, by decide +kernel, rfl, by decide +kernel, by decide +kernel⟩
theorem bd__law_some_tested : Bnd "_law_some_tested" "_law_some_tested" s__law_some_tested ["_law_d", "_law_most"] := fun _ _ _ _ _ _ us hl => match us, hl with | [_, _], _ => rfl
abbrev s__law_reads_of : Stmt := top 39
abbrev N__law_reads_of : List Str := ["_law_row"]
theorem sc__law_reads_of : FnScope N__law_reads_of ["_law_row"] (defScope s__law_reads_of) := ⟨rfl, rfl, rfl, by decide +kernel, rfl, by decide +kernel, by decide +kernel⟩
theorem bd__law_reads_of : Bnd "_law_reads_of" "_law_reads_of" s__law_reads_of ["_law_row"] := fun _ _ _ _ _ _ us hl => match us, hl with | [_], _ => rfl
abbrev s__law_do_row : Stmt := top 40
abbrev N__law_do_row : List Str := ["_law_s", "_law_row", "_law_holds", "_law_some", "_law_word", "_law_found"]
theorem sc__law_do_row : FnScope N__law_do_row ["_law_s", "_law_row", "_law_holds", "_law_some"] (defScope s__law_do_row) := ⟨rfl, rfl, rfl, by decide +kernel, rfl, by decide +kernel, by decide +kernel⟩
theorem bd__law_do_row : Bnd "_law_do_row" "_law_do_row" s__law_do_row ["_law_s", "_law_row", "_law_holds", "_law_some"] := fun _ _ _ _ _ _ us hl => match us, hl with | [_, _, _, _], _ => rfl
abbrev s__law_start : Stmt := top 41
abbrev N__law_start : List Str := ["_law_handed", "_law_fuel", "_law_s", "_law_k"]
theorem sc__law_start : FnScope N__law_start ["_law_handed", "_law_fuel"] (defScope s__law_start) := ⟨rfl, rfl, rfl, by decide +kernel, rfl, by decide +kernel, by decide +kernel⟩
theorem bd__law_start : Bnd "_law_start" "_law_start" s__law_start ["_law_handed", "_law_fuel"] := fun _ _ _ _ _ _ us hl => match us, hl with | [_, _], _ => rfl
abbrev s__law_machine : Stmt := top 42
abbrev N__law_machine : List Str := ["_law_tested", "_law_handed", "_law_fuel", "_law_s", "_law_number", "_law_row", "_law_holds", "_law_place", "_law_goal", "_law_test"]
theorem sc__law_machine : FnScope N__law_machine ["_law_tested", "_law_handed", "_law_fuel"] (defScope s__law_machine) := ⟨rfl, rfl, rfl, by decide +kernel, rfl, by decide +kernel, by decide +kernel⟩
theorem bd__law_machine : Bnd "_law_machine" "_law_machine" s__law_machine ["_law_tested", "_law_handed", "_law_fuel"] := fun _ _ _ _ _ _ us hl => match us, hl with | [_, _, _], _ => rfl
abbrev s__law_is_part : Stmt := top 43
abbrev N__law_is_part : List Str := ["_law_part", "_law_many"]
theorem sc__law_is_part : FnScope N__law_is_part ["_law_part", "_law_many"] (defScope s__law_is_part) := ⟨rfl, rfl, rfl, by decide +kernel, rfl, by decide +kernel, by decide +kernel⟩
theorem bd__law_is_part : Bnd "_law_is_part" "_law_is_part" s__law_is_part ["_law_part", "_law_many"] := fun _ _ _ _ _ _ us hl => match us, hl with | [_, _], _ => rfl
abbrev s__law_is_row : Stmt := top 44
abbrev N__law_is_row : List Str := ["_law_row", "_law_many", "_law_part"]
theorem sc__law_is_row : FnScope N__law_is_row ["_law_row"] (defScope s__law_is_row) := ⟨rfl, rfl, rfl, by decide +kernel, rfl, by decide +kernel, by decide +kernel⟩
theorem bd__law_is_row : Bnd "_law_is_row" "_law_is_row" s__law_is_row ["_law_row"] := fun _ _ _ _ _ _ us hl => match us, hl with | [_], _ => rfl
abbrev s__law_bad_piece : Stmt := top 45
abbrev N__law_bad_piece : List Str := ["_law_piece", "_law_many", "_law_bad", "_law_k", "_law_goes", "_law_pair"]
theorem sc__law_bad_piece : FnScope N__law_bad_piece ["_law_piece", "_law_many"] (defScope s__law_bad_piece) := ⟨rfl, rfl, rfl, by decide +kernel, rfl, by decide +kernel, by decide +kernel⟩
theorem bd__law_bad_piece : Bnd "_law_bad_piece" "_law_bad_piece" s__law_bad_piece ["_law_piece", "_law_many"] := fun _ _ _ _ _ _ us hl => match us, hl with | [_, _], _ => rfl
abbrev s__law_bad_tested : Stmt := top 46
abbrev N__law_bad_tested : List Str := ["_law_tested", "_law_k", "_law_bad"]
theorem sc__law_bad_tested : FnScope N__law_bad_tested ["_law_tested"] (defScope s__law_bad_tested) := ⟨rfl, rfl, rfl, by decide +kernel, rfl, by decide +kernel, by decide +kernel⟩
theorem bd__law_bad_tested : Bnd "_law_bad_tested" "_law_bad_tested" s__law_bad_tested ["_law_tested"] := fun _ _ _ _ _ _ us hl => match us, hl with | [_], _ => rfl
abbrev s_law : Stmt := top 47
abbrev N_law : List Str := ["_law_script", "_law_d", "_law_turn", "_law_tested", "_law_other", "_law_k", "_law_rows", "_law_goes", "_law_at", "_law_idle", "_law_piece", "_law_more", "_law_again", "_law_handed", "_law_fuel", "_law_due", "_law_found"]
theorem sc_law : FnScope N_law ["_law_script"] (defScope s_law) := ⟨rfl, rfl, rfl, by decide +kernel, rfl, by decide +kernel, by decide +kernel⟩
theorem bd_law : Bnd "law" "law" s_law ["_law_script"] := fun _ _ _ _ _ _ us hl => match us, hl with | [_], _ => rfl
def tab_SHAPES : List (Str × V) := [("num", .str "wn"), ("copy", .str "wr"), ("not", .str "wr"), ("get", .str "wr"), ("put", .str "rr"), ("say", .str "r"), ("stop", .str "r"), ("test", .str "ppr")]
def tab_MOSTS : List (Str × V) := [("w", .int 1999), ("r", .int 1999), ("n", .int 10006), ("p", .int 1999)]
structure Cs where
  none_ : Unit
structure Txt (w : World) (K : PySem.W.Frag) (mg : Str → Option Value) (cs : Cs) : Prop where
  b_bool : mg "bool" = none
  b_dict : mg "dict" = none
  b_enumerate : mg "enumerate" = none
  b_int : mg "int" = none
  b_isinstance : mg "isinstance" = none
  b_len : mg "len" = none
  b_max : mg "max" = none
  b_range : mg "range" = none
  b_str : mg "str" = none
  b_tuple : mg "tuple" = none
  b_zip : mg "zip" = none
  c_REST : ∃ t, mg "REST" = some (.int 10007 t)
  c_MOST_INS : ∃ t, mg "MOST_INS" = some (.int 3 t)
  c_MOST_NAMES : ∃ t, mg "MOST_NAMES" = some (.int 99 t)
  c_MOST_REGISTER : ∃ t, mg "MOST_REGISTER" = some (.int 1999 t)
  c_MOST_TEST : ∃ t, mg "MOST_TEST" = some (.int 1999 t)
  c_MOST_PIECES : ∃ t, mg "MOST_PIECES" = some (.int 999 t)
  c_MOST_ROWS : ∃ t, mg "MOST_ROWS" = some (.int 1500 t)
  c_MOST_GOES : ∃ t, mg "MOST_GOES" = some (.int 8 t)
  c_SHAPES : ∃ T, mg "SHAPES" = some (.ref T) ∧ STab K w T tab_SHAPES
  c_PAIRS : ∃ T, mg "PAIRS" = some (.ref T) ∧ ∀ H, SqT K H T ((["add", "take", "times", "over", "rest", "less", "same"] : List Str).map V.str)
  c_MOSTS : ∃ T, mg "MOSTS" = some (.ref T) ∧ STab K w T tab_MOSTS
  c_QUIET : ∃ T, mg "QUIET" = some (.ref T) ∧ ∀ H, SqT K H T ((["num", "copy", "add", "take", "times", "less", "same", "not"] : List Str).map V.str)
  f_is_number : ∃ f fd, Fn K "is_number" "is_number" s_is_number f fd ∧ mg "is_number" = some (.ref f)
  f_shape_of : ∃ f fd, Fn K "shape_of" "shape_of" s_shape_of f fd ∧ mg "shape_of" = some (.ref f)
  f_is_row : ∃ f fd, Fn K "is_row" "is_row" s_is_row f fd ∧ mg "is_row" = some (.ref f)
  f_are_goes : ∃ f fd, Fn K "are_goes" "are_goes" s_are_goes f fd ∧ mg "are_goes" = some (.ref f)
  f_need_tested : ∃ f fd, Fn K "need_tested" "need_tested" s_need_tested f fd ∧ mg "need_tested" = some (.ref f)
  f_need_piece : ∃ f fd, Fn K "need_piece" "need_piece" s_need_piece f fd ∧ mg "need_piece" = some (.ref f)
  f_reads : ∃ f fd, Fn K "reads" "reads" s_reads f fd ∧ mg "reads" = some (.ref f)
  f_makes : ∃ f fd, Fn K "makes" "makes" s_makes f fd ∧ mg "makes" = some (.ref f)
  f_all_rows : ∃ f fd, Fn K "all_rows" "all_rows" s_all_rows f fd ∧ mg "all_rows" = some (.ref f)
  f_is_idle : ∃ f fd, Fn K "is_idle" "is_idle" s_is_idle f fd ∧ mg "is_idle" = some (.ref f)
  f_lean : ∃ f fd, Fn K "lean" "lean" s_lean f fd ∧ mg "lean" = some (.ref f)
  f__law_dice : ∃ f fd, Fn K "_law_dice" "_law_dice" s__law_dice f fd ∧ mg "_law_dice" = some (.ref f)
  f__law_next : ∃ f fd, Fn K "_law_next" "_law_next" s__law_next f fd ∧ mg "_law_next" = some (.ref f)
  f__law_any_handed : ∃ f fd, Fn K "_law_any_handed" "_law_any_handed" s__law_any_handed f fd ∧ mg "_law_any_handed" = some (.ref f)
  f__law_reckoned : ∃ f fd, Fn K "_law_reckoned" "_law_reckoned" s__law_reckoned f fd ∧ mg "_law_reckoned" = some (.ref f)
  f__law_cell_of : ∃ f fd, Fn K "_law_cell_of" "_law_cell_of" s__law_cell_of f fd ∧ mg "_law_cell_of" = some (.ref f)
  f__law_some_row : ∃ f fd, Fn K "_law_some_row" "_law_some_row" s__law_some_row f fd ∧ mg "_law_some_row" = some (.ref f)
  f__law_some_rows : ∃ f fd, Fn K "_law_some_rows" "_law_some_rows" s__law_some_rows f fd ∧ mg "_law_some_rows" = some (.ref f)
  f__law_some_goes : ∃ f fd, Fn K "_law_some_goes" "_law_some_goes" s__law_some_goes f fd ∧ mg "_law_some_goes" = some (.ref f)
  f__law_some_tested : ∃ f fd, Fn K "_law_some_tested" "_law_some_tested" s__law_some_tested f fd ∧ mg "_law_some_tested" = some (.ref f)
  f__law_reads_of : ∃ f fd, Fn K "_law_reads_of" "_law_reads_of" s__law_reads_of f fd ∧ mg "_law_reads_of" = some (.ref f)
  f__law_do_row : ∃ f fd, Fn K "_law_do_row" "_law_do_row" s__law_do_row f fd ∧ mg "_law_do_row" = some (.ref f)
  f__law_start : ∃ f fd, Fn K "_law_start" "_law_start" s__law_start f fd ∧ mg "_law_start" = some (.ref f)
  f__law_machine : ∃ f fd, Fn K "_law_machine" "_law_machine" s__law_machine f fd ∧ mg "_law_machine" = some (.ref f)
  f__law_is_part : ∃ f fd, Fn K "_law_is_part" "_law_is_part" s__law_is_part f fd ∧ mg "_law_is_part" = some (.ref f)
  f__law_is_row : ∃ f fd, Fn K "_law_is_row" "_law_is_row" s__law_is_row f fd ∧ mg "_law_is_row" = some (.ref f)
  f__law_bad_piece : ∃ f fd, Fn K "_law_bad_piece" "_law_bad_piece" s__law_bad_piece f fd ∧ mg "_law_bad_piece" = some (.ref f)
  f__law_bad_tested : ∃ f fd, Fn K "_law_bad_tested" "_law_bad_tested" s__law_bad_tested f fd ∧ mg "_law_bad_tested" = some (.ref f)
  f_law : ∃ f fd, Fn K "law" "law" s_law f fd ∧ mg "law" = some (.ref f)
end Kt
set_option Elab.async false
set_option linter.all false
set_option maxRecDepth 100000
set_option maxHeartbeats 4000000
namespace Kt
open PySem PySem.Spec PyProof.Rows L2 Tr Dn
section
variable {P : Program} {w : World} {K : PySem.W.Frag} {mg : Str → Option Value} {base : Heap} {cs : Cs}
theorem gc_REST {X : Cx} (T : Txt X.w X.K X.mg cs) : GC X "REST" (.int 10007) := gc_int T.c_REST
theorem gc_MOST_INS {X : Cx} (T : Txt X.w X.K X.mg cs) : GC X "MOST_INS" (.int 3) := gc_int T.c_MOST_INS
theorem gc_MOST_NAMES {X : Cx} (T : Txt X.w X.K X.mg cs) : GC X "MOST_NAMES" (.int 99) := gc_int T.c_MOST_NAMES
theorem gc_MOST_REGISTER {X : Cx} (T : Txt X.w X.K X.mg cs) : GC X "MOST_REGISTER" (.int 1999) := gc_int T.c_MOST_REGISTER
theorem gc_MOST_TEST {X : Cx} (T : Txt X.w X.K X.mg cs) : GC X "MOST_TEST" (.int 1999) := gc_int T.c_MOST_TEST
theorem gc_MOST_PIECES {X : Cx} (T : Txt X.w X.K X.mg cs) : GC X "MOST_PIECES" (.int 999) := gc_int T.c_MOST_PIECES
theorem gc_MOST_ROWS {X : Cx} (T : Txt X.w X.K X.mg cs) : GC X "MOST_ROWS" (.int 1500) := gc_int T.c_MOST_ROWS
theorem gc_MOST_GOES {X : Cx} (T : Txt X.w X.K X.mg cs) : GC X "MOST_GOES" (.int 8) := gc_int T.c_MOST_GOES
theorem gt_SHAPES {X : Cx} (T : Txt X.w X.K X.mg cs) : GT X "SHAPES" tab_SHAPES := ⟨T.c_SHAPES, by decide +kernel⟩
theorem gc_SHAPES {X : Cx} (T : Txt X.w X.K X.mg cs) : GC X "SHAPES" (.tab tab_SHAPES) := gc_tab (gt_SHAPES T)
theorem gc_PAIRS {X : Cx} (T : Txt X.w X.K X.mg cs) : GC X "PAIRS" (.tup ([("add" : Str), ("take" : Str), ("times" : Str), ("over" : Str), ("rest" : Str), ("less" : Str), ("same" : Str)].map D.str)) := gc_tups T.c_PAIRS
theorem gt_MOSTS {X : Cx} (T : Txt X.w X.K X.mg cs) : GT X "MOSTS" tab_MOSTS := ⟨T.c_MOSTS, by decide +kernel⟩
theorem gc_MOSTS {X : Cx} (T : Txt X.w X.K X.mg cs) : GC X "MOSTS" (.tab tab_MOSTS) := gc_tab (gt_MOSTS T)
theorem gc_QUIET {X : Cx} (T : Txt X.w X.K X.mg cs) : GC X "QUIET" (.tup ([("num" : Str), ("copy" : Str), ("add" : Str), ("take" : Str), ("times" : Str), ("less" : Str), ("same" : Str), ("not" : Str)].map D.str)) := gc_tups T.c_QUIET
/-! _law_next -/
noncomputable def b__law_next (cs : Cs) : SV := sSeq (sIf (tP' (tB' (pOp dGt (pOp dIx (pVar 0) (pC (.int 3))) (pC (.int 0))))) (sSeq (sSet 2 (eP (pOp dMod (pOp dIx (pVar 0) (pC (.int 3))) (pVar 1))))
 (sSeq (sPut (hV 0) (pC (.int 3)) (eP (pOp dDiv (pOp dIx (pVar 0) (pC (.int 3))) (pVar 1))))
 (sSeq (sRet (eNm 2))
 (sNil)))) (sNil))
 (sSeq (sPut (hV 0) (pC (.int 1)) (eP (pOp dAdd (pOp dIx (pVar 0) (pC (.int 1))) (pC (.int 1)))))
 (sSeq (sIf (tP' (tB' (pOp dLe (pOp dIx (pVar 0) (pC (.int 1))) (pCall dLen (aCons (pOp dIx (pVar 0) (pC (.int 0))) (aNil)))))) (sSeq (sSet 3 (eP (pOp dIx (pOp dIx (pVar 0) (pC (.int 0))) (pOp dSub (pOp dIx (pVar 0) (pC (.int 1))) (pC (.int 1))))))
 (sSeq (sPut (hV 0) (pC (.int 3)) (eP (pIf (tB' (pOp dGe (pVar 3) (pOp dPow (pC (.int 10)) (pC (.int 18))))) (pOp dDiv (pVar 3) (pVar 1)) (pC (.int 0)))))
 (sSeq (sRet (eP (pOp dMod (pVar 3) (pVar 1))))
 (sNil)))) (sNil))
 (sSeq (sPut (hV 0) (pC (.int 2)) (eP (pOp dMod (pOp dMul (pOp dIx (pVar 0) (pC (.int 2))) (pC (.int 48271))) (pC (.int 2147483647)))))
 (sSeq (sRet (eP (pOp dMod (pOp dDiv (pOp dIx (pVar 0) (pC (.int 2))) (pC (.int 7))) (pVar 1))))
 (sNil)))))
noncomputable def d__law_next (cs : Cs) : Den := ((mkDen 2 (b__law_next cs)).arity 2)
theorem fc__law_next (T : Txt w K mg cs) : Fc P w K mg base 1 "_law_next" (spD ⟨K, w⟩ (d__law_next cs)) := by
  obtain ⟨f, fd, F, g⟩ := T.f__law_next
  exact (fcD F g bd__law_next sc__law_next (p := b__law_next cs) fun cdv A outer s H E hr => (js_cons (j1_if (jte_p (jt_cmp od_gt (jp_ix hr (jp_var 0) (jp_int)) (jp_int))) (js_cons (j1_set (i := 2) sc__law_next.nd (je_p (jp_op od_mod (jp_ix hr (jp_var 0) (jp_int)) (jp_var 1))))
 (js_cons (j1_put hr (je_p (jp_op od_div (jp_ix hr (jp_var 0) (jp_int)) (jp_var 1))) (jh_var 0) (jp_int))
 (js_cons (j1_ret (je_nm 2))
 (js_nil)))) (js_nil))
 (js_cons (j1_put hr (je_p (jp_op od_add (jp_ix hr (jp_var 0) (jp_int)) (jp_int))) (jh_var 0) (jp_int))
 (js_cons (j1_if (jte_p (jt_cmp od_le (jp_ix hr (jp_var 0) (jp_int)) (jp_callB cd_len T.b_len PySem.boot_len (ja_cons (jp_ix hr (jp_var 0) (jp_int)) (ja_nil))))) (js_cons (j1_set (i := 3) sc__law_next.nd (je_p (jp_ix hr (jp_ix hr (jp_var 0) (jp_int)) (jp_op od_sub (jp_ix hr (jp_var 0) (jp_int)) (jp_int)))))
 (js_cons (j1_put hr (je_p (jp_if (jt_cmp od_ge (jp_var 3) (jp_op od_pow (jp_int) (jp_int))) (jp_op od_div (jp_var 3) (jp_var 1)) (jp_int))) (jh_var 0) (jp_int))
 (js_cons (j1_ret (je_p (jp_op od_mod (jp_var 3) (jp_var 1))))
 (js_nil)))) (js_nil))
 (js_cons (j1_put hr (je_p (jp_op od_mod (jp_op od_mul (jp_ix hr (jp_var 0) (jp_int)) (jp_int)) (jp_int))) (jh_var 0) (jp_int))
 (js_cons (j1_ret (je_p (jp_op od_mod (jp_op od_div (jp_ix hr (jp_var 0) (jp_int)) (jp_int)) (jp_var 1))))
 (js_nil))))) : JS _ _ (b__law_next cs)))
/-! _law_any_handed -/
noncomputable def b__law_any_handed_E1 (cs : Cs) : EV := eOp dIx (eLst (eaCons (eFn (d__law_next cs) (gN 0 (gE (eP (pC (.int 4))) (gNil')))) (eaCons (eFn (d__law_next cs) (gN 0 (gE (eP (pC (.int 10007))) (gNil')))) (eaCons (eP (pC (.int 10006))) (eaNil))))) (eFn (d__law_next cs) (gN 0 (gE (eP (pC (.int 3))) (gNil'))))
noncomputable def b__law_any_handed (cs : Cs) : SV := sSeq (sRet (eLc (List.map (·.2) [("_law_k", 2)]) (.one 2) (iR1 (eaCons (eNm 1) (eaNil))) (tYes') (b__law_any_handed_E1 cs)))
 (sNil)
noncomputable def d__law_any_handed (cs : Cs) : Den := ((mkDen 1 (b__law_any_handed cs)).arity 2)
theorem fc__law_any_handed (T : Txt w K mg cs) : Fc P w K mg base 2 "_law_any_handed" (spD ⟨K, w⟩ (d__law_any_handed cs)) := by
  obtain ⟨f, fd, F, g⟩ := T.f__law_any_handed
  exact (fcD F g bd__law_any_handed sc__law_any_handed (p := b__law_any_handed cs) fun cdv A outer s H E hr => (js_cons (j1_ret (je_lc0 [("_law_k", 2)] rfl sc__law_any_handed.nd (blkOk_by (N := N__law_any_handed) (sc := defScope s__law_any_handed) (by decide +kernel)) (fun _ _ _ _ _ => pg_name (i := 2) sc__law_any_handed.nd rfl (by first | exact Or.inl rfl | exact Or.inr rfl) (by first | exact .inr rfl | exact .inl rfl)) (ji_r1 T.b_range (jea_cons (je_nm 1) (jea_nil))) (fun _ _ _ _ _ => je_ix hr (je_lst (jea_cons (je_fn (fc__law_next T) hr (by first | omega | decide) (jg_n 0 (jg_e (je_p (jp_int)) (jg_nil)))) (jea_cons (je_fn (fc__law_next T) hr (by first | omega | decide) (jg_n 0 (jg_e (je_p (jp_int)) (jg_nil)))) (jea_cons (je_p (jp_int)) (jea_nil))))) (je_fn (fc__law_next T) hr (by first | omega | decide) (jg_n 0 (jg_e (je_p (jp_int)) (jg_nil)))))))
 (js_nil) : JS _ _ (b__law_any_handed cs)))
/-! _law_is_part -/
noncomputable def b__law_is_part (cs : Cs) : SV := sSeq (sRet (eP (pAnd (pIsi "int" (pVar 0)) (pAnd (pNot (pIsi "bool" (pVar 0))) (pChain dLe dLt (pC (.int 0)) (pVar 0) (pVar 1))))))
 (sNil)
noncomputable def d__law_is_part (cs : Cs) : Den := ((mkDen 0 (b__law_is_part cs)).arity 2)
theorem fc__law_is_part (T : Txt w K mg cs) : Fc P w K mg base 1 "_law_is_part" (spD ⟨K, w⟩ (d__law_is_part cs)) := by
  obtain ⟨f, fd, F, g⟩ := T.f__law_is_part
  exact (fcD F g bd__law_is_part sc__law_is_part (p := b__law_is_part cs) fun cdv A outer s H E hr => (js_cons (j1_ret (je_p (jp_and (jp_isi bt_int T.b_isinstance T.b_int (jp_var 0)) (jp_and (jp_not (jp_isi bt_bool T.b_isinstance T.b_bool (jp_var 0))) (jp_one (jp_chain od_le od_lt (jp_int) (jp_var 0) (jp_var 1)))))))
 (js_nil) : JS _ _ (b__law_is_part cs)))
/-! _law_is_row -/
noncomputable def b__law_is_row_C1 (cs : Cs) : ET := tP' (tNot' (tB' (pFn (d__law_is_part cs) (aCons (pVar 2) (aCons (pC (.int 2000)) (aNil))))))
noncomputable def b__law_is_row_E1 (cs : Cs) : EV := eNm 2
noncomputable def b__law_is_row (cs : Cs) : SV := sSeq (sIf (tP' (tOr' (tNot' (tB' (pIsi "tuple" (pVar 0)))) (tOr' (tB' (pOp dLt (pCall dLen (aCons (pVar 0) (aNil))) (pC (.int 2)))) (tOr' (tNot' (tB' (pFn (d__law_is_part cs) (aCons (pOp dIx (pVar 0) (pC (.int 0))) (aCons (pC (.int 2000)) (aNil)))))) (tNot' (tB' (pIsi "str" (pOp dIx (pVar 0) (pC (.int 1)))))))))) (sSeq (sRet (eP (pC (.bl false))))
 (sNil)) (sNil))
 (sSeq (sSet 1 (eGetP (eDict (edCons (pC (.str "num")) (eP (pC (.int 2))) (edCons (pC (.str "copy")) (eP (pC (.int 2))) (edCons (pC (.str "not")) (eP (pC (.int 2))) (edCons (pC (.str "get")) (eP (pC (.int 2))) (edCons (pC (.str "put")) (eP (pC (.int 2))) (edCons (pC (.str "say")) (eP (pC (.int 1))) (edCons (pC (.str "stop")) (eP (pC (.int 1))) (edCons (pC (.str "test")) (eP (pC (.int 3))) (edNil)))))))))) (pOp dIx (pVar 0) (pC (.int 1))) (pC (.int 0))))
 (sSeq (sSet 1 (eP (pIf (tB' (pOp dIn (pOp dIx (pVar 0) (pC (.int 1))) (pTup (aCons (pC (.str "add")) (aCons (pC (.str "take")) (aCons (pC (.str "times")) (aCons (pC (.str "over")) (aCons (pC (.str "rest")) (aCons (pC (.str "less")) (aCons (pC (.str "same")) (aNil))))))))))) (pC (.int 3)) (pVar 1))))
 (sSeq (sIf (tP' (tOr' (tB' (pOp dEq (pVar 1) (pC (.int 0)))) (tB' (pOp dNe (pCall dLen (aCons (pVar 0) (aNil))) (pOp dAdd (pVar 1) (pC (.int 2))))))) (sSeq (sRet (eP (pC (.bl false))))
 (sNil)) (sNil))
 (sSeq (sIf (tP' (tB' (pOp dEq (pOp dIx (pVar 0) (pC (.int 1))) (pC (.str "num"))))) (sSeq (sRet (eP (pAnd (pFn (d__law_is_part cs) (aCons (pOp dIx (pVar 0) (pC (.int 2))) (aCons (pC (.int 2000)) (aNil)))) (pFn (d__law_is_part cs) (aCons (pOp dIx (pVar 0) (pC (.int 3))) (aCons (pC (.int 10007)) (aNil)))))))
 (sNil)) (sNil))
 (sSeq (sIf (tV (eOp dNe (eLc (List.map (·.2) [("_law_part", 2)]) (.one 2) (iP (pSl (pVar 0) (oE (pC (.int 2))) (oNo))) (b__law_is_row_C1 cs) (b__law_is_row_E1 cs)) (eP (pLst (aNil))))) (sSeq (sRet (eP (pC (.bl false))))
 (sNil)) (sNil))
 (sSeq (sRet (eP (pOr (pOp dNe (pOp dIx (pVar 0) (pC (.int 1))) (pC (.str "test"))) (pAnd (pOp dNe (pOp dIx (pVar 0) (pC (.int 2))) (pOp dIx (pVar 0) (pC (.int 3)))) (pOp dNotIn (pC (.int 0)) (pSl (pVar 0) (oE (pC (.int 2))) (oE (pC (.int 4)))))))))
 (sNil)))))))
noncomputable def d__law_is_row (cs : Cs) : Den := ((mkDen 2 (b__law_is_row cs)).arity 1)
theorem fc__law_is_row (T : Txt w K mg cs) : Fc P w K mg base 2 "_law_is_row" (spD ⟨K, w⟩ (d__law_is_row cs)) := by
  obtain ⟨f, fd, F, g⟩ := T.f__law_is_row
  exact (fcD F g bd__law_is_row sc__law_is_row (p := b__law_is_row cs) fun cdv A outer s H E hr => (js_cons (j1_if (jte_p (jt_w (jw_or (jt_not (jt_val (jp_isi bt_tuple T.b_isinstance T.b_tuple (jp_var 0)))) (jw_or (jt_cmp od_lt (jp_callB cd_len T.b_len PySem.boot_len (ja_cons (jp_var 0) (ja_nil))) (jp_int)) (jw_or (jt_not (jt_val (jp_fn (fc__law_is_part T) hr (by first | omega | decide) (ja_cons (jp_ix hr (jp_var 0) (jp_int)) (ja_cons (jp_int) (ja_nil)))))) (jw_or1 (jt_not (jt_val (jp_isi bt_str T.b_isinstance T.b_str (jp_ix hr (jp_var 0) (jp_int))))))))))) (js_cons (j1_ret (je_p (jp_bl)))
 (js_nil)) (js_nil))
 (js_cons (j1_set (i := 1) sc__law_is_row.nd (je_getP hr (je_dict (jd_cons (jp_str) (je_p (jp_int)) (jd_cons (jp_str) (je_p (jp_int)) (jd_cons (jp_str) (je_p (jp_int)) (jd_cons (jp_str) (je_p (jp_int)) (jd_cons (jp_str) (je_p (jp_int)) (jd_cons (jp_str) (je_p (jp_int)) (jd_cons (jp_str) (je_p (jp_int)) (jd_cons (jp_str) (je_p (jp_int)) (jd_nil)))))))))) (jp_ix hr (jp_var 0) (jp_int)) (jp_int)))
 (js_cons (j1_set (i := 1) sc__law_is_row.nd (je_p (jp_if (jt_cmp (od_in hr) (jp_ix hr (jp_var 0) (jp_int)) (jp_tup (ja_cons (jp_str) (ja_cons (jp_str) (ja_cons (jp_str) (ja_cons (jp_str) (ja_cons (jp_str) (ja_cons (jp_str) (ja_cons (jp_str) (ja_nil)))))))))) (jp_int) (jp_var 1))))
 (js_cons (j1_if (jte_p (jt_w (jw_or (jt_cmp (od_eq hr) (jp_var 1) (jp_int)) (jw_or1 (jt_cmp (od_ne hr) (jp_callB cd_len T.b_len PySem.boot_len (ja_cons (jp_var 0) (ja_nil))) (jp_op od_add (jp_var 1) (jp_int))))))) (js_cons (j1_ret (je_p (jp_bl)))
 (js_nil)) (js_nil))
 (js_cons (j1_if (jte_p (jt_cmp (od_eq hr) (jp_ix hr (jp_var 0) (jp_int)) (jp_str))) (js_cons (j1_ret (je_p (jp_and (jp_fn (fc__law_is_part T) hr (by first | omega | decide) (ja_cons (jp_ix hr (jp_var 0) (jp_int)) (ja_cons (jp_int) (ja_nil)))) (jp_one (jp_fn (fc__law_is_part T) hr (by first | omega | decide) (ja_cons (jp_ix hr (jp_var 0) (jp_int)) (ja_cons (jp_int) (ja_nil))))))))
 (js_nil)) (js_nil))
 (js_cons (j1_if (jte_cmp (od_ne hr) (je_lc1 [("_law_part", 2)] rfl sc__law_is_row.nd (blkOk_by (N := N__law_is_row) (sc := defScope s__law_is_row) (by decide +kernel)) (fun _ _ _ _ _ => pg_name (i := 2) sc__law_is_row.nd rfl (by first | exact Or.inl rfl | exact Or.inr rfl) (by first | exact .inr rfl | exact .inl rfl)) (ji_p (jp_sl (jp_var 0) (jo_e (jp_int)) (jo_no))) (fun _ _ _ _ _ => jte_p (jt_not (jt_val (jp_fn (fc__law_is_part T) hr (by first | omega | decide) (ja_cons (jp_var 2) (ja_cons (jp_int) (ja_nil))))))) (fun _ _ _ _ _ => je_nm 2)) (je_p (jp_lst (ja_nil)))) (js_cons (j1_ret (je_p (jp_bl)))
 (js_nil)) (js_nil))
 (js_cons (j1_ret (je_p (jp_or (jp_cmp (od_ne hr) (jp_ix hr (jp_var 0) (jp_int)) (jp_str)) (jp_one (jp_and (jp_cmp (od_ne hr) (jp_ix hr (jp_var 0) (jp_int)) (jp_ix hr (jp_var 0) (jp_int))) (jp_one (jp_cmp (od_notIn hr) (jp_int) (jp_sl (jp_var 0) (jo_e (jp_int)) (jo_e (jp_int))))))))))
 (js_nil))))))) : JS _ _ (b__law_is_row cs)))
/-! _law_bad_piece -/
noncomputable def b__law_bad_piece_L1 (cs : Cs) : SV := sSeq (sIf (tP' (tOr' (tNot' (tB' (pIsi "tuple" (pVar 5)))) (tOr' (tB' (pOp dNe (pCall dLen (aCons (pVar 5) (aNil))) (pC (.int 2)))) (tNot' (tB' (pFn (d__law_is_part cs) (aCons (pOp dIx (pVar 5) (pC (.int 0))) (aCons (pC (.int 2000)) (aNil))))))))) (sSeq (sRet (eP (pCall dLen (aCons (pOp dIx (pVar 0) (pC (.int 0))) (aNil)))))
 (sNil)) (sNil))
 (sSeq (sIf (tP' (tAnd' (tNot' (tB' (pFn (d__law_is_part cs) (aCons (pOp dIx (pVar 5) (pC (.int 1))) (aCons (pVar 1) (aNil)))))) (tOr' (tB' (pIsi "bool" (pOp dIx (pVar 5) (pC (.int 1))))) (tB' (pOp dNe (pOp dIx (pVar 5) (pC (.int 1))) (pC (.int (-1)))))))) (sSeq (sRet (eP (pCall dLen (aCons (pOp dIx (pVar 0) (pC (.int 0))) (aNil)))))
 (sNil)) (sNil))
 (sNil))
noncomputable def b__law_bad_piece_C1 (cs : Cs) : ET := tP' (tNot' (tB' (pFn (d__law_is_row cs) (aCons (pOp dIx (pOp dIx (pVar 0) (pC (.int 0))) (pVar 3)) (aNil)))))
noncomputable def b__law_bad_piece_E1 (cs : Cs) : EV := eNm 3
noncomputable def b__law_bad_piece (cs : Cs) : SV := sSeq (sIf (tP' (tOr' (tNot' (tB' (pIsi "tuple" (pVar 0)))) (tOr' (tB' (pOp dNe (pCall dLen (aCons (pVar 0) (aNil))) (pC (.int 2)))) (tOr' (tNot' (tB' (pIsi "tuple" (pOp dIx (pVar 0) (pC (.int 0)))))) (tB' (pOp dGt (pCall dLen (aCons (pOp dIx (pVar 0) (pC (.int 0))) (aNil))) (pC (.int 1500)))))))) (sSeq (sRet (eP (pC (.int (-1)))))
 (sNil)) (sNil))
 (sSeq (sSet 2 (eLc (List.map (·.2) [("_law_k", 3)]) (.one 3) (iR1 (eaCons (eP (pCall dLen (aCons (pOp dIx (pVar 0) (pC (.int 0))) (aNil)))) (eaNil))) (b__law_bad_piece_C1 cs) (b__law_bad_piece_E1 cs)))
 (sSeq (sIf (tP' (tB' (pOp dNe (pVar 2) (pLst (aNil))))) (sSeq (sRet (eP (pOp dIx (pVar 2) (pC (.int 0)))))
 (sNil)) (sNil))
 (sSeq (sSet 4 (eP (pOp dIx (pVar 0) (pC (.int 1)))))
 (sSeq (sIf (tP' (tOr' (tNot' (tB' (pIsi "tuple" (pVar 4)))) (tNot' (tB' (pChain dLe dLe (pC (.int 1)) (pCall dLen (aCons (pVar 4) (aNil))) (pC (.int 8))))))) (sSeq (sRet (eP (pCall dLen (aCons (pOp dIx (pVar 0) (pC (.int 0))) (aNil)))))
 (sNil)) (sNil))
 (sSeq (sFor (.one 5) (iW 4) (b__law_bad_piece_L1 cs))
 (sSeq (sRet (eP (pIf (tB' (pOp dEq (pOp dIx (pOp dIx (pVar 4) (pC (.int (-1)))) (pC (.int 0))) (pC (.int 0)))) (pC .non) (pCall dLen (aCons (pOp dIx (pVar 0) (pC (.int 0))) (aNil))))))
 (sNil)))))))
noncomputable def d__law_bad_piece (cs : Cs) : Den := ((mkDen 4 (b__law_bad_piece cs)).arity 2)
theorem fc__law_bad_piece (T : Txt w K mg cs) : Fc P w K mg base 3 "_law_bad_piece" (spD ⟨K, w⟩ (d__law_bad_piece cs)) := by
  obtain ⟨f, fd, F, g⟩ := T.f__law_bad_piece
  exact (fcD F g bd__law_bad_piece sc__law_bad_piece (p := b__law_bad_piece cs) fun cdv A outer s H E hr => (js_cons (j1_if (jte_p (jt_w (jw_or (jt_not (jt_val (jp_isi bt_tuple T.b_isinstance T.b_tuple (jp_var 0)))) (jw_or (jt_cmp (od_ne hr) (jp_callB cd_len T.b_len PySem.boot_len (ja_cons (jp_var 0) (ja_nil))) (jp_int)) (jw_or (jt_not (jt_val (jp_isi bt_tuple T.b_isinstance T.b_tuple (jp_ix hr (jp_var 0) (jp_int))))) (jw_or1 (jt_cmp od_gt (jp_callB cd_len T.b_len PySem.boot_len (ja_cons (jp_ix hr (jp_var 0) (jp_int)) (ja_nil))) (jp_int)))))))) (js_cons (j1_ret (je_p (jp_neg)))
 (js_nil)) (js_nil))
 (js_cons (by first | exact j1_setLc1 (i := 2) [("_law_k", 3)] rfl sc__law_bad_piece.nd (blkOk_by (N := N__law_bad_piece) (sc := defScope s__law_bad_piece) (by decide +kernel)) (fun _ _ _ _ _ => pg_name (i := 3) sc__law_bad_piece.nd rfl (by first | exact Or.inl rfl | exact Or.inr rfl) (by first | exact .inr rfl | exact .inl rfl)) (ji_r1 T.b_range (jea_cons (je_p (jp_callB cd_len T.b_len PySem.boot_len (ja_cons (jp_ix hr (jp_var 0) (jp_int)) (ja_nil)))) (jea_nil))) (fun _ _ _ _ _ => jte_p (jt_not (jt_val (jp_fn (fc__law_is_row T) hr (by first | omega | decide) (ja_cons (jp_ix hr (jp_ix hr (jp_var 0) (jp_int)) (jp_var 3)) (ja_nil)))))) (fun _ _ _ _ _ => je_nm 3) | exact j1_set (i := 2) sc__law_bad_piece.nd (je_lc1 [("_law_k", 3)] rfl sc__law_bad_piece.nd (blkOk_by (N := N__law_bad_piece) (sc := defScope s__law_bad_piece) (by decide +kernel)) (fun _ _ _ _ _ => pg_name (i := 3) sc__law_bad_piece.nd rfl (by first | exact Or.inl rfl | exact Or.inr rfl) (by first | exact .inr rfl | exact .inl rfl)) (ji_r1 T.b_range (jea_cons (je_p (jp_callB cd_len T.b_len PySem.boot_len (ja_cons (jp_ix hr (jp_var 0) (jp_int)) (ja_nil)))) (jea_nil))) (fun _ _ _ _ _ => jte_p (jt_not (jt_val (jp_fn (fc__law_is_row T) hr (by first | omega | decide) (ja_cons (jp_ix hr (jp_ix hr (jp_var 0) (jp_int)) (jp_var 3)) (ja_nil)))))) (fun _ _ _ _ _ => je_nm 3)))
 (js_cons (j1_if (jte_p (jt_cmp (od_ne hr) (jp_var 2) (jp_lst (ja_nil)))) (js_cons (j1_ret (je_p (jp_ix hr (jp_var 2) (jp_int))))
 (js_nil)) (js_nil))
 (js_cons (j1_set (i := 4) sc__law_bad_piece.nd (je_p (jp_ix hr (jp_var 0) (jp_int))))
 (js_cons (j1_if (jte_p (jt_w (jw_or (jt_not (jt_val (jp_isi bt_tuple T.b_isinstance T.b_tuple (jp_var 4)))) (jw_or1 (jt_not (jt_chain od_le od_le (jp_int) (jp_callB cd_len T.b_len PySem.boot_len (ja_cons (jp_var 4) (ja_nil))) (jp_int))))))) (js_cons (j1_ret (je_p (jp_callB cd_len T.b_len PySem.boot_len (ja_cons (jp_ix hr (jp_var 0) (jp_int)) (ja_nil)))))
 (js_nil)) (js_nil))
 (js_cons (j1_for (T := .one 5) (pg_name (i := 5) sc__law_bad_piece.nd rfl (by first | exact Or.inl rfl | exact Or.inr rfl)) rfl (ji_w 4) (js_cons (j1_if (jte_p (jt_w (jw_or (jt_not (jt_val (jp_isi bt_tuple T.b_isinstance T.b_tuple (jp_var 5)))) (jw_or (jt_cmp (od_ne hr) (jp_callB cd_len T.b_len PySem.boot_len (ja_cons (jp_var 5) (ja_nil))) (jp_int)) (jw_or1 (jt_not (jt_val (jp_fn (fc__law_is_part T) hr (by first | omega | decide) (ja_cons (jp_ix hr (jp_var 5) (jp_int)) (ja_cons (jp_int) (ja_nil))))))))))) (js_cons (j1_ret (je_p (jp_callB cd_len T.b_len PySem.boot_len (ja_cons (jp_ix hr (jp_var 0) (jp_int)) (ja_nil)))))
 (js_nil)) (js_nil))
 (js_cons (j1_if (jte_p (jt_w (jw_and (jt_not (jt_val (jp_fn (fc__law_is_part T) hr (by first | omega | decide) (ja_cons (jp_ix hr (jp_var 5) (jp_int)) (ja_cons (jp_var 1) (ja_nil)))))) (jw_and1 (jt_w (jw_or (jt_val (jp_isi bt_bool T.b_isinstance T.b_bool (jp_ix hr (jp_var 5) (jp_int)))) (jw_or1 (jt_cmp (od_ne hr) (jp_ix hr (jp_var 5) (jp_int)) (jp_neg))))))))) (js_cons (j1_ret (je_p (jp_callB cd_len T.b_len PySem.boot_len (ja_cons (jp_ix hr (jp_var 0) (jp_int)) (ja_nil)))))
 (js_nil)) (js_nil))
 (js_nil))))
 (js_cons (j1_ret (je_p (jp_if (jt_cmp (od_eq hr) (jp_ix hr (jp_ix hr (jp_var 4) (jp_neg)) (jp_int)) (jp_int)) (jp_non) (jp_callB cd_len T.b_len PySem.boot_len (ja_cons (jp_ix hr (jp_var 0) (jp_int)) (ja_nil))))))
 (js_nil))))))) : JS _ _ (b__law_bad_piece cs)))
/-! _law_bad_tested -/
noncomputable def b__law_bad_tested_L1 (cs : Cs) : SV := sSeq (sSet 2 (eP (pFn (d__law_bad_piece cs) (aCons (pOp dIx (pOp dIx (pVar 0) (pC (.int 2))) (pVar 1)) (aCons (pCall dLen (aCons (pOp dIx (pVar 0) (pC (.int 2))) (aNil))) (aNil))))))
 (sSeq (sIf (tP' (tB' (pOp dIsNot (pVar 2) (pC .non)))) (sSeq (sRet (eP (pTup (aCons (pVar 1) (aCons (pVar 2) (aNil))))))
 (sNil)) (sNil))
 (sNil))
noncomputable def b__law_bad_tested (cs : Cs) : SV := sSeq (sIf (tP' (tOr' (tNot' (tB' (pIsi "tuple" (pVar 0)))) (tOr' (tB' (pOp dNe (pCall dLen (aCons (pVar 0) (aNil))) (pC (.int 3)))) (tNot' (tB' (pFn (d__law_is_part cs) (aCons (pOp dIx (pVar 0) (pC (.int 0))) (aCons (pC (.int 4)) (aNil))))))))) (sSeq (sRet (eP (pTup (aCons (pC (.int (-1))) (aCons (pC (.int (-1))) (aNil))))))
 (sNil)) (sNil))
 (sSeq (sIf (tP' (tOr' (tNot' (tB' (pFn (d__law_is_part cs) (aCons (pOp dIx (pVar 0) (pC (.int 1))) (aCons (pC (.int 100)) (aNil)))))) (tB' (pOp dLt (pOp dIx (pVar 0) (pC (.int 1))) (pOp dIx (pVar 0) (pC (.int 0))))))) (sSeq (sRet (eP (pTup (aCons (pC (.int (-1))) (aCons (pC (.int (-1))) (aNil))))))
 (sNil)) (sNil))
 (sSeq (sIf (tP' (tOr' (tNot' (tB' (pIsi "tuple" (pOp dIx (pVar 0) (pC (.int 2)))))) (tNot' (tB' (pChain dLe dLe (pC (.int 1)) (pCall dLen (aCons (pOp dIx (pVar 0) (pC (.int 2))) (aNil))) (pC (.int 999))))))) (sSeq (sRet (eP (pTup (aCons (pC (.int (-1))) (aCons (pC (.int (-1))) (aNil))))))
 (sNil)) (sNil))
 (sSeq (sFor (.one 1) (iR1 (eaCons (eP (pCall dLen (aCons (pOp dIx (pVar 0) (pC (.int 2))) (aNil)))) (eaNil))) (b__law_bad_tested_L1 cs))
 (sSeq (sRet (eP (pC .non)))
 (sNil)))))
noncomputable def d__law_bad_tested (cs : Cs) : Den := ((mkDen 2 (b__law_bad_tested cs)).arity 1)
theorem fc__law_bad_tested (T : Txt w K mg cs) : Fc P w K mg base 4 "_law_bad_tested" (spD ⟨K, w⟩ (d__law_bad_tested cs)) := by
  obtain ⟨f, fd, F, g⟩ := T.f__law_bad_tested
  exact (fcD F g bd__law_bad_tested sc__law_bad_tested (p := b__law_bad_tested cs) fun cdv A outer s H E hr => (js_cons (j1_if (jte_p (jt_w (jw_or (jt_not (jt_val (jp_isi bt_tuple T.b_isinstance T.b_tuple (jp_var 0)))) (jw_or (jt_cmp (od_ne hr) (jp_callB cd_len T.b_len PySem.boot_len (ja_cons (jp_var 0) (ja_nil))) (jp_int)) (jw_or1 (jt_not (jt_val (jp_fn (fc__law_is_part T) hr (by first | omega | decide) (ja_cons (jp_ix hr (jp_var 0) (jp_int)) (ja_cons (jp_int) (ja_nil))))))))))) (js_cons (j1_ret (je_p (jp_tup (ja_cons (jp_neg) (ja_cons (jp_neg) (ja_nil))))))
 (js_nil)) (js_nil))
 (js_cons (j1_if (jte_p (jt_w (jw_or (jt_not (jt_val (jp_fn (fc__law_is_part T) hr (by first | omega | decide) (ja_cons (jp_ix hr (jp_var 0) (jp_int)) (ja_cons (jp_int) (ja_nil)))))) (jw_or1 (jt_cmp od_lt (jp_ix hr (jp_var 0) (jp_int)) (jp_ix hr (jp_var 0) (jp_int))))))) (js_cons (j1_ret (je_p (jp_tup (ja_cons (jp_neg) (ja_cons (jp_neg) (ja_nil))))))
 (js_nil)) (js_nil))
 (js_cons (j1_if (jte_p (jt_w (jw_or (jt_not (jt_val (jp_isi bt_tuple T.b_isinstance T.b_tuple (jp_ix hr (jp_var 0) (jp_int))))) (jw_or1 (jt_not (jt_chain od_le od_le (jp_int) (jp_callB cd_len T.b_len PySem.boot_len (ja_cons (jp_ix hr (jp_var 0) (jp_int)) (ja_nil))) (jp_int))))))) (js_cons (j1_ret (je_p (jp_tup (ja_cons (jp_neg) (ja_cons (jp_neg) (ja_nil))))))
 (js_nil)) (js_nil))
 (js_cons (j1_for (T := .one 1) (pg_name (i := 1) sc__law_bad_tested.nd rfl (by first | exact Or.inl rfl | exact Or.inr rfl)) rfl (ji_r1 T.b_range (jea_cons (je_p (jp_callB cd_len T.b_len PySem.boot_len (ja_cons (jp_ix hr (jp_var 0) (jp_int)) (ja_nil)))) (jea_nil))) (js_cons (j1_set (i := 2) sc__law_bad_tested.nd (je_p (jp_fn (fc__law_bad_piece T) hr (by first | omega | decide) (ja_cons (jp_ix hr (jp_ix hr (jp_var 0) (jp_int)) (jp_var 1)) (ja_cons (jp_callB cd_len T.b_len PySem.boot_len (ja_cons (jp_ix hr (jp_var 0) (jp_int)) (ja_nil))) (ja_nil))))))
 (js_cons (j1_if (jte_p (jt_cmp od_isNot (jp_var 2) (jp_non))) (js_cons (j1_ret (je_p (jp_tup (ja_cons (jp_var 1) (ja_cons (jp_var 2) (ja_nil))))))
 (js_nil)) (js_nil))
 (js_nil))))
 (js_cons (j1_ret (je_p (jp_non)))
 (js_nil))))) : JS _ _ (b__law_bad_tested cs)))
/-! _law_dice -/
noncomputable def b__law_dice (cs : Cs) : SV := sSeq (sSet 1 (eP (pC (.int 0))))
 (sSeq (sFor (.one 2) (iV 0) (sSeq (sSet 1 (eP (pOp dMod (pOp dAdd (pOp dAdd (pOp dMul (pVar 1) (pC (.int 48271))) (pOp dMul (pOp dMod (pVar 2) (pC (.int 2147483647))) (pC (.int 69621)))) (pC (.int 11))) (pC (.int 2147483647)))))
 (sNil)))
 (sSeq (sRet (eP (pLst (aCons (pVar 0) (aCons (pC (.int 0)) (aCons (pOp dMul (pVar 1) (pCall dInt (aCons (pOp dGt (pCall dLen (aCons (pVar 0) (aNil))) (pC (.int 2))) (aNil)))) (aCons (pC (.int 0)) (aNil))))))))
 (sNil)))
noncomputable def d__law_dice (cs : Cs) : Den := ((mkDen 2 (b__law_dice cs)).arity 1)
theorem fc__law_dice (T : Txt w K mg cs) : Fc P w K mg base 1 "_law_dice" (spD ⟨K, w⟩ (d__law_dice cs)) := by
  obtain ⟨f, fd, F, g⟩ := T.f__law_dice
  exact (fcD F g bd__law_dice sc__law_dice (p := b__law_dice cs) fun cdv A outer s H E hr => (js_cons (j1_set (i := 1) sc__law_dice.nd (je_p (jp_int)))
 (js_cons (j1_for (T := .one 2) (pg_name (i := 2) sc__law_dice.nd rfl (by first | exact Or.inl rfl | exact Or.inr rfl)) rfl (ji_v 0) (js_cons (j1_set (i := 1) sc__law_dice.nd (je_p (jp_op od_mod (jp_op od_add (jp_op od_add (jp_op od_mul (jp_var 1) (jp_int)) (jp_op od_mul (jp_op od_mod (jp_var 2) (jp_int)) (jp_int))) (jp_int)) (jp_int))))
 (js_nil)))
 (js_cons (j1_ret (je_p (jp_lst (ja_cons (jp_var 0) (ja_cons (jp_int) (ja_cons (jp_op od_mul (jp_var 1) (jp_callT cd_int T.b_int bt_int (ja_cons (jp_cmp od_gt (jp_callB cd_len T.b_len PySem.boot_len (ja_cons (jp_var 0) (ja_nil))) (jp_int)) (ja_nil)))) (ja_cons (jp_int) (ja_nil))))))))
 (js_nil))) : JS _ _ (b__law_dice cs)))
/-! _law_cell_of -/
noncomputable def b__law_cell_of (cs : Cs) : SV := sSeq (sIf (tP' (tB' (pOp dGt (pVar 1) (pC (.int 15))))) (sSeq (sPut (hV 0) (pC (.str "end")) (eP (pTup (aCons (pC (.str "fault")) (aCons (pC (.str "cell")) (aNil))))))
 (sSeq (sRet (eP (pC .non)))
 (sNil))) (sNil))
 (sSeq (sRet (eP (pOp dIx (pOp dIx (pVar 0) (pC (.str "cells"))) (pVar 1))))
 (sNil))
noncomputable def d__law_cell_of (cs : Cs) : Den := ((mkDen 0 (b__law_cell_of cs)).arity 2)
theorem fc__law_cell_of (T : Txt w K mg cs) : Fc P w K mg base 1 "_law_cell_of" (spD ⟨K, w⟩ (d__law_cell_of cs)) := by
  obtain ⟨f, fd, F, g⟩ := T.f__law_cell_of
  exact (fcD F g bd__law_cell_of sc__law_cell_of (p := b__law_cell_of cs) fun cdv A outer s H E hr => (js_cons (j1_if (jte_p (jt_cmp od_gt (jp_var 1) (jp_int))) (js_cons (j1_put hr (je_p (jp_tup (ja_cons (jp_str) (ja_cons (jp_str) (ja_nil))))) (jh_var 0) (jp_str))
 (js_cons (j1_ret (je_p (jp_non)))
 (js_nil))) (js_nil))
 (js_cons (j1_ret (je_p (jp_ix hr (jp_ix hr (jp_var 0) (jp_str)) (jp_var 1))))
 (js_nil)) : JS _ _ (b__law_cell_of cs)))
/-! _law_reckoned -/
noncomputable def b__law_reckoned (cs : Cs) : SV := sSeq (sIf (tP' (tB' (pOp dIn (pVar 1) (pTup (aCons (pC (.str "over")) (aCons (pC (.str "rest")) (aNil))))))) (sSeq (sIf (tP' (tB' (pOp dEq (pVar 3) (pC (.int 0))))) (sSeq (sPut (hV 0) (pC (.str "end")) (eP (pTup (aCons (pC (.str "fault")) (aCons (pC (.str "over")) (aNil))))))
 (sSeq (sRet (eP (pC .non)))
 (sNil))) (sNil))
 (sSeq (sRet (eP (pOp dIx (pLst (aCons (pOp dDiv (pVar 2) (pVar 3)) (aCons (pOp dMod (pVar 2) (pVar 3)) (aNil)))) (pCall dInt (aCons (pOp dEq (pVar 1) (pC (.str "rest"))) (aNil))))))
 (sNil))) (sNil))
 (sSeq (sIf (tP' (tB' (pOp dEq (pVar 1) (pC (.str "less"))))) (sSeq (sRet (eP (pCall dInt (aCons (pOp dLt (pVar 2) (pVar 3)) (aNil)))))
 (sNil)) (sNil))
 (sSeq (sIf (tP' (tB' (pOp dEq (pVar 1) (pC (.str "same"))))) (sSeq (sRet (eP (pCall dInt (aCons (pOp dEq (pVar 2) (pVar 3)) (aNil)))))
 (sNil)) (sNil))
 (sSeq (sRet (eP (pOp dMod (pOp dIx (pLst (aCons (pOp dAdd (pVar 2) (pVar 3)) (aCons (pOp dSub (pVar 2) (pVar 3)) (aCons (pOp dMul (pVar 2) (pVar 3)) (aNil))))) (pBM dIndex (pLst (aCons (pC (.str "add")) (aCons (pC (.str "take")) (aCons (pC (.str "times")) (aNil))))) (aCons (pVar 1) (aNil)))) (pC (.int 10007)))))
 (sNil))))
noncomputable def d__law_reckoned (cs : Cs) : Den := ((mkDen 0 (b__law_reckoned cs)).arity 4)
theorem fc__law_reckoned (T : Txt w K mg cs) : Fc P w K mg base 1 "_law_reckoned" (spD ⟨K, w⟩ (d__law_reckoned cs)) := by
  obtain ⟨f, fd, F, g⟩ := T.f__law_reckoned
  exact (fcD F g bd__law_reckoned sc__law_reckoned (p := b__law_reckoned cs) fun cdv A outer s H E hr => (js_cons (j1_if (jte_p (jt_cmp (od_in hr) (jp_var 1) (jp_tup (ja_cons (jp_str) (ja_cons (jp_str) (ja_nil)))))) (js_cons (j1_if (jte_p (jt_cmp (od_eq hr) (jp_var 3) (jp_int))) (js_cons (j1_put hr (je_p (jp_tup (ja_cons (jp_str) (ja_cons (jp_str) (ja_nil))))) (jh_var 0) (jp_str))
 (js_cons (j1_ret (je_p (jp_non)))
 (js_nil))) (js_nil))
 (js_cons (j1_ret (je_p (jp_ix hr (jp_lst (ja_cons (jp_op od_div (jp_var 2) (jp_var 3)) (ja_cons (jp_op od_mod (jp_var 2) (jp_var 3)) (ja_nil)))) (jp_callT cd_int T.b_int bt_int (ja_cons (jp_cmp (od_eq hr) (jp_var 1) (jp_str)) (ja_nil))))))
 (js_nil))) (js_nil))
 (js_cons (j1_if (jte_p (jt_cmp (od_eq hr) (jp_var 1) (jp_str))) (js_cons (j1_ret (je_p (jp_callT cd_int T.b_int bt_int (ja_cons (jp_cmp od_lt (jp_var 2) (jp_var 3)) (ja_nil)))))
 (js_nil)) (js_nil))
 (js_cons (j1_if (jte_p (jt_cmp (od_eq hr) (jp_var 1) (jp_str))) (js_cons (j1_ret (je_p (jp_callT cd_int T.b_int bt_int (ja_cons (jp_cmp (od_eq hr) (jp_var 2) (jp_var 3)) (ja_nil)))))
 (js_nil)) (js_nil))
 (js_cons (j1_ret (je_p (jp_op od_mod (jp_ix hr (jp_lst (ja_cons (jp_op od_add (jp_var 2) (jp_var 3)) (ja_cons (jp_op od_sub (jp_var 2) (jp_var 3)) (ja_cons (jp_op od_mul (jp_var 2) (jp_var 3)) (ja_nil))))) (jp_bm PySem.F.plainAttrs_list PySem.F.slot_list_index PySem.F.type_list_index mi_index dIndex_ty (jp_lst (ja_cons (jp_str) (ja_cons (jp_str) (ja_cons (jp_str) (ja_nil))))) (ja_cons (jp_var 1) (ja_nil)))) (jp_int))))
 (js_nil)))) : JS _ _ (b__law_reckoned cs)))
/-! _law_do_row -/
noncomputable def b__law_do_row (cs : Cs) : SV := sSeq (sSet 4 (eP (pOp dIx (pVar 1) (pC (.int 1)))))
 (sSeq (sIf (tP' (tB' (pOp dEq (pVar 4) (pC (.str "test"))))) (sSeq (sPut (hI (hV 0) (pC (.str "tests"))) (pOp dIx (pVar 1) (pC (.int 2))) (eP (pAnd (pVar 2) (pOp dNe (pOp dIx (pVar 3) (pC (.int 0))) (pC (.int 0))))))
 (sSeq (sPut (hI (hV 0) (pC (.str "tests"))) (pOp dIx (pVar 1) (pC (.int 3))) (eP (pAnd (pVar 2) (pOp dEq (pOp dIx (pVar 3) (pC (.int 0))) (pC (.int 0))))))
 (sNil))) (sSeq (sIf (tP' (tNot' (tB' (pVar 2)))) (sSeq (sRetN)
 (sNil)) (sSeq (sIf (tP' (tB' (pOp dEq (pVar 4) (pC (.str "say"))))) (sSeq (sExpr (eAppP (hI (hV 0) (pC (.str "said"))) (pOp dIx (pVar 3) (pC (.int 0)))))
 (sNil)) (sSeq (sIf (tP' (tB' (pOp dEq (pVar 4) (pC (.str "stop"))))) (sSeq (sPut (hV 0) (pC (.str "end")) (eP (pTup (aCons (pC (.str "worth")) (aCons (pOp dIx (pVar 3) (pC (.int 0))) (aNil))))))
 (sNil)) (sSeq (sIf (tP' (tB' (pOp dEq (pVar 4) (pC (.str "put"))))) (sSeq (sIf (tV (eOp dIsNot (eFn (d__law_cell_of cs) (gN 0 (gE (eP (pOp dIx (pVar 3) (pC (.int 0)))) (gNil')))) (eP (pC .non)))) (sSeq (sPut (hI (hV 0) (pC (.str "cells"))) (pOp dIx (pVar 3) (pC (.int 0))) (eP (pOp dIx (pVar 3) (pC (.int 1)))))
 (sNil)) (sNil))
 (sNil)) (sSeq (sSet 5 (eP (pIf (tB' (pOp dEq (pVar 4) (pC (.str "num")))) (pOp dIx (pVar 1) (pC (.int 3))) (pOp dIx (pVar 3) (pC (.int 0))))))
 (sSeq (sIf (tP' (tB' (pOp dEq (pVar 4) (pC (.str "not"))))) (sSeq (sSet 5 (eP (pCall dInt (aCons (pOp dEq (pOp dIx (pVar 3) (pC (.int 0))) (pC (.int 0))) (aNil)))))
 (sNil)) (sSeq (sIf (tP' (tB' (pOp dEq (pVar 4) (pC (.str "get"))))) (sSeq (sSet 5 (eFn (d__law_cell_of cs) (gN 0 (gE (eP (pOp dIx (pVar 3) (pC (.int 0)))) (gNil')))))
 (sNil)) (sSeq (sIf (tP' (tB' (pOp dEq (pCall dLen (aCons (pVar 3) (aNil))) (pC (.int 2))))) (sSeq (sSet 5 (eFn (d__law_reckoned cs) (gN 0 (gN 4 (gE (eP (pOp dIx (pVar 3) (pC (.int 0)))) (gE (eP (pOp dIx (pVar 3) (pC (.int 1)))) (gNil')))))))
 (sNil)) (sNil))
 (sNil)))
 (sNil)))
 (sSeq (sIf (tP' (tB' (pOp dIsNot (pVar 5) (pC .non)))) (sSeq (sPut (hI (hV 0) (pC (.str "held"))) (pOp dIx (pVar 1) (pC (.int 2))) (eNm 5))
 (sNil)) (sNil))
 (sNil)))))
 (sNil)))
 (sNil)))
 (sNil)))
 (sNil)))
 (sNil))
noncomputable def d__law_do_row (cs : Cs) : Den := ((mkDen 2 (b__law_do_row cs)).arity 4)
theorem fc__law_do_row (T : Txt w K mg cs) : Fc P w K mg base 2 "_law_do_row" (spD ⟨K, w⟩ (d__law_do_row cs)) := by
  obtain ⟨f, fd, F, g⟩ := T.f__law_do_row
  exact (fcD F g bd__law_do_row sc__law_do_row (p := b__law_do_row cs) fun cdv A outer s H E hr => (js_cons (j1_set (i := 4) sc__law_do_row.nd (je_p (jp_ix hr (jp_var 1) (jp_int))))
 (js_cons (j1_if (jte_p (jt_cmp (od_eq hr) (jp_var 4) (jp_str))) (js_cons (j1_put hr (je_p (jp_and (jp_var 2) (jp_one (jp_cmp (od_ne hr) (jp_ix hr (jp_var 3) (jp_int)) (jp_int))))) (jh_ix hr (jh_var 0) (jp_str)) (jp_ix hr (jp_var 1) (jp_int)))
 (js_cons (j1_put hr (je_p (jp_and (jp_var 2) (jp_one (jp_cmp (od_eq hr) (jp_ix hr (jp_var 3) (jp_int)) (jp_int))))) (jh_ix hr (jh_var 0) (jp_str)) (jp_ix hr (jp_var 1) (jp_int)))
 (js_nil))) (js_cons (j1_if (jte_p (jt_not (jt_val (jp_var 2)))) (js_cons (j1_retN)
 (js_nil)) (js_cons (j1_if (jte_p (jt_cmp (od_eq hr) (jp_var 4) (jp_str))) (js_cons (j1_expr (je_appP (jh_ix hr (jh_var 0) (jp_str)) (jp_ix hr (jp_var 3) (jp_int))))
 (js_nil)) (js_cons (j1_if (jte_p (jt_cmp (od_eq hr) (jp_var 4) (jp_str))) (js_cons (j1_put hr (je_p (jp_tup (ja_cons (jp_str) (ja_cons (jp_ix hr (jp_var 3) (jp_int)) (ja_nil))))) (jh_var 0) (jp_str))
 (js_nil)) (js_cons (j1_if (jte_p (jt_cmp (od_eq hr) (jp_var 4) (jp_str))) (js_cons (j1_if (jte_cmp od_isNot (je_fn (fc__law_cell_of T) hr (by first | omega | decide) (jg_n 0 (jg_e (je_p (jp_ix hr (jp_var 3) (jp_int))) (jg_nil)))) (je_p (jp_non))) (js_cons (j1_put hr (je_p (jp_ix hr (jp_var 3) (jp_int))) (jh_ix hr (jh_var 0) (jp_str)) (jp_ix hr (jp_var 3) (jp_int)))
 (js_nil)) (js_nil))
 (js_nil)) (js_cons (j1_set (i := 5) sc__law_do_row.nd (je_p (jp_if (jt_cmp (od_eq hr) (jp_var 4) (jp_str)) (jp_ix hr (jp_var 1) (jp_int)) (jp_ix hr (jp_var 3) (jp_int)))))
 (js_cons (j1_if (jte_p (jt_cmp (od_eq hr) (jp_var 4) (jp_str))) (js_cons (j1_set (i := 5) sc__law_do_row.nd (je_p (jp_callT cd_int T.b_int bt_int (ja_cons (jp_cmp (od_eq hr) (jp_ix hr (jp_var 3) (jp_int)) (jp_int)) (ja_nil)))))
 (js_nil)) (js_cons (j1_if (jte_p (jt_cmp (od_eq hr) (jp_var 4) (jp_str))) (js_cons (j1_set (i := 5) sc__law_do_row.nd (je_fn (fc__law_cell_of T) hr (by first | omega | decide) (jg_n 0 (jg_e (je_p (jp_ix hr (jp_var 3) (jp_int))) (jg_nil)))))
 (js_nil)) (js_cons (j1_if (jte_p (jt_cmp (od_eq hr) (jp_callB cd_len T.b_len PySem.boot_len (ja_cons (jp_var 3) (ja_nil))) (jp_int))) (js_cons (j1_set (i := 5) sc__law_do_row.nd (je_fn (fc__law_reckoned T) hr (by first | omega | decide) (jg_n 0 (jg_n 4 (jg_e (je_p (jp_ix hr (jp_var 3) (jp_int))) (jg_e (je_p (jp_ix hr (jp_var 3) (jp_int))) (jg_nil)))))))
 (js_nil)) (js_nil))
 (js_nil)))
 (js_nil)))
 (js_cons (j1_if (jte_p (jt_cmp od_isNot (jp_var 5) (jp_non))) (js_cons (j1_put hr (je_nm 5) (jh_ix hr (jh_var 0) (jp_str)) (jp_ix hr (jp_var 1) (jp_int)))
 (js_nil)) (js_nil))
 (js_nil)))))
 (js_nil)))
 (js_nil)))
 (js_nil)))
 (js_nil)))
 (js_nil)) : JS _ _ (b__law_do_row cs)))
/-! _law_reads_of -/
noncomputable def b__law_reads_of (cs : Cs) : SV := sSeq (sIf (tP' (tB' (pOp dEq (pOp dIx (pVar 0) (pC (.int 1))) (pC (.str "num"))))) (sSeq (sRet (eP (pTup (aNil))))
 (sNil)) (sNil))
 (sSeq (sIf (tP' (tB' (pOp dEq (pOp dIx (pVar 0) (pC (.int 1))) (pC (.str "test"))))) (sSeq (sRet (eP (pSl (pVar 0) (oE (pC (.int 4))) (oNo))))
 (sNil)) (sNil))
 (sSeq (sRet (eP (pIf (tB' (pOp dIn (pOp dIx (pVar 0) (pC (.int 1))) (pTup (aCons (pC (.str "put")) (aCons (pC (.str "say")) (aCons (pC (.str "stop")) (aNil))))))) (pSl (pVar 0) (oE (pC (.int 2))) (oNo)) (pSl (pVar 0) (oE (pC (.int 3))) (oNo)))))
 (sNil)))
noncomputable def d__law_reads_of (cs : Cs) : Den := ((mkDen 0 (b__law_reads_of cs)).arity 1)
theorem fc__law_reads_of (T : Txt w K mg cs) : Fc P w K mg base 1 "_law_reads_of" (spD ⟨K, w⟩ (d__law_reads_of cs)) := by
  obtain ⟨f, fd, F, g⟩ := T.f__law_reads_of
  exact (fcD F g bd__law_reads_of sc__law_reads_of (p := b__law_reads_of cs) fun cdv A outer s H E hr => (js_cons (j1_if (jte_p (jt_cmp (od_eq hr) (jp_ix hr (jp_var 0) (jp_int)) (jp_str))) (js_cons (j1_ret (je_p (jp_tup (ja_nil))))
 (js_nil)) (js_nil))
 (js_cons (j1_if (jte_p (jt_cmp (od_eq hr) (jp_ix hr (jp_var 0) (jp_int)) (jp_str))) (js_cons (j1_ret (je_p (jp_sl (jp_var 0) (jo_e (jp_int)) (jo_no))))
 (js_nil)) (js_nil))
 (js_cons (j1_ret (je_p (jp_if (jt_cmp (od_in hr) (jp_ix hr (jp_var 0) (jp_int)) (jp_tup (ja_cons (jp_str) (ja_cons (jp_str) (ja_cons (jp_str) (ja_nil)))))) (jp_sl (jp_var 0) (jo_e (jp_int)) (jo_no)) (jp_sl (jp_var 0) (jo_e (jp_int)) (jo_no)))))
 (js_nil))) : JS _ _ (b__law_reads_of cs)))
/-! _law_start -/
noncomputable def b__law_start (cs : Cs) : SV := sSeq (sSet 2 (eDict (edCons (pC (.str "cells")) (eP (pOp dMul (pLst (aCons (pC (.int 0)) (aNil))) (pC (.int 16)))) (edCons (pC (.str "fuel")) (eNm 1) (edCons (pC (.str "said")) (eP (pLst (aNil))) (edCons (pC (.str "end")) (eP (pC .non)) (edCons (pC (.str "held")) (eP (pC (.dic []))) (edCons (pC (.str "counts")) (eP (pLst (aCons (pC (.int 0)) (aCons (pC (.int 0)) (aNil))))) (edNil)))))))))
 (sSeq (sFor (.one 3) (iR1 (eaCons (eP (pCall dLen (aCons (pVar 0) (aNil)))) (eaNil))) (sSeq (sPut (hI (hV 2) (pC (.str "held"))) (pVar 3) (eP (pOp dIx (pVar 0) (pVar 3))))
 (sNil)))
 (sSeq (sRet (eNm 2))
 (sNil)))
noncomputable def d__law_start (cs : Cs) : Den := ((mkDen 2 (b__law_start cs)).arity 2)
theorem fc__law_start (T : Txt w K mg cs) : Fc P w K mg base 1 "_law_start" (spD ⟨K, w⟩ (d__law_start cs)) := by
  obtain ⟨f, fd, F, g⟩ := T.f__law_start
  exact (fcD F g bd__law_start sc__law_start (p := b__law_start cs) fun cdv A outer s H E hr => (js_cons (j1_set (i := 2) sc__law_start.nd (je_dict (jd_cons (jp_str) (je_p (jp_op od_mul (jp_lst (ja_cons (jp_int) (ja_nil))) (jp_int))) (jd_cons (jp_str) (je_nm 1) (jd_cons (jp_str) (je_p (jp_lst (ja_nil))) (jd_cons (jp_str) (je_p (jp_non)) (jd_cons (jp_str) (je_p (jp_dnew)) (jd_cons (jp_str) (je_p (jp_lst (ja_cons (jp_int) (ja_cons (jp_int) (ja_nil))))) (jd_nil)))))))))
 (js_cons (j1_for (T := .one 3) (pg_name (i := 3) sc__law_start.nd rfl (by first | exact Or.inl rfl | exact Or.inr rfl)) rfl (ji_r1 T.b_range (jea_cons (je_p (jp_callB cd_len T.b_len PySem.boot_len (ja_cons (jp_var 0) (ja_nil)))) (jea_nil))) (js_cons (j1_put hr (je_p (jp_ix hr (jp_var 0) (jp_var 3))) (jh_ix hr (jh_var 2) (jp_str)) (jp_var 3))
 (js_nil)))
 (js_cons (j1_ret (je_nm 2))
 (js_nil))) : JS _ _ (b__law_start cs)))
/-! _law_machine -/
noncomputable def b__law_machine_C1 (cs : Cs) : ET := tP' (tB' (pGet (pOp dIx (pVar 3) (pC (.str "tests"))) (pVar 9) (pC (.bl false))))
noncomputable def b__law_machine_E1 (cs : Cs) : EV := eNm 8
noncomputable def b__law_machine_E2 (cs : Cs) : EV := eP (pGet (pOp dIx (pVar 3) (pC (.str "held"))) (pVar 7) (pC (.int 0)))
noncomputable def b__law_machine_L1 (cs : Cs) : SV := sSeq (sIf (tP' (tB' (pOp dIs (pOp dIx (pVar 3) (pC (.str "end"))) (pC .non)))) (sSeq (sSet 6 (eP (pGet (pOp dIx (pVar 3) (pC (.str "tests"))) (pOp dIx (pVar 5) (pC (.int 0))) (pC (.bl false)))))
 (sSeq (sExpr (eFn (d__law_do_row cs) (gN 3 (gN 5 (gN 6 (gE (eLc (List.map (·.2) [("_law_place", 7)]) (.one 7) (iP (pFn (d__law_reads_of cs) (aCons (pVar 5) (aNil)))) (tYes') (b__law_machine_E2 cs)) (gNil')))))))
 (sSeq (sPut (hV 3) (pC (.str "counts")) (eP (pLst (aCons (pOp dAdd (pOp dIx (pOp dIx (pVar 3) (pC (.str "counts"))) (pC (.int 0))) (pC (.int 1))) (aCons (pOp dAdd (pOp dIx (pOp dIx (pVar 3) (pC (.str "counts"))) (pC (.int 1))) (pCall dInt (aCons (pVar 6) (aNil)))) (aNil))))))
 (sNil)))) (sNil))
 (sNil)
noncomputable def b__law_machine_T1 (cs : Cs) : ET := tP' (tB' (pOp dIs (pOp dIx (pVar 3) (pC (.str "end"))) (pC .non)))
noncomputable def b__law_machine_L2 (cs : Cs) : SV := sSeq (sPut (hV 3) (pC (.str "tests")) (eDict (edCons (pC (.int 0)) (eP (pC (.bl true))) (edNil))))
 (sSeq (sFor (.one 5) (iP (pOp dIx (pOp dIx (pOp dIx (pVar 0) (pC (.int 2))) (pVar 4)) (pC (.int 0)))) (b__law_machine_L1 cs))
 (sSeq (sIf (tP' (tB' (pOp dIs (pOp dIx (pVar 3) (pC (.str "end"))) (pC .non)))) (sSeq (sSet 8 (eOp dIx (eLc (List.map (·.2) [("_law_test", 9), ("_law_goal", 8)]) (.tup [9, 8]) (iP (pOp dIx (pOp dIx (pOp dIx (pVar 0) (pC (.int 2))) (pVar 4)) (pC (.int 1)))) (b__law_machine_C1 cs) (b__law_machine_E1 cs)) (eP (pC (.int 0)))))
 (sSeq (sPut (hV 3) (pC (.str "fuel")) (eP (pOp dSub (pOp dIx (pVar 3) (pC (.str "fuel"))) (pCall dInt (aCons (pChain dLe dLe (pC (.int 0)) (pVar 8) (pVar 4)) (aNil))))))
 (sSeq (sIf (tP' (tOr' (tB' (pOp dEq (pVar 8) (pC (.int (-1))))) (tB' (pOp dLt (pOp dIx (pVar 3) (pC (.str "fuel"))) (pC (.int 0)))))) (sSeq (sPut (hV 3) (pC (.str "end")) (eP (pIf (tB' (pOp dEq (pVar 8) (pC (.int (-1))))) (pTup (aCons (pC (.str "worth")) (aCons (pC (.int 0)) (aNil)))) (pTup (aCons (pC (.str "long")) (aNil))))))
 (sNil)) (sNil))
 (sSeq (sSet 4 (eNm 8))
 (sNil))))) (sNil))
 (sNil)))
noncomputable def b__law_machine (cs : Cs) : SV := sSeq (sSet 3 (eP (pFn (d__law_start cs) (aCons (pVar 1) (aCons (pVar 2) (aNil))))))
 (sSeq (sSet 4 (eP (pC (.int 0))))
 (sSeq (sWhile (b__law_machine_T1 cs) (b__law_machine_L2 cs))
 (sSeq (sRet (eTup (eaCons (eTup (eaCons (eMv (hI (hV 3) (pC (.str "said"))) (pOp dIx (pVar 3) (pC (.str "said")))) (eaCons (eMv (hI (hV 3) (pC (.str "end"))) (pOp dIx (pVar 3) (pC (.str "end")))) (eaCons (eMv (hI (hV 3) (pC (.str "cells"))) (pOp dIx (pVar 3) (pC (.str "cells")))) (eaNil))))) (eaCons (eCall dTuple (eaCons (eMv (hI (hV 3) (pC (.str "counts"))) (pOp dIx (pVar 3) (pC (.str "counts")))) (eaNil))) (eaNil)))))
 (sNil))))
noncomputable def d__law_machine (cs : Cs) : Den := ((mkDen 7 (b__law_machine cs)).arity 3)
theorem fc__law_machine (T : Txt w K mg cs) : Fc P w K mg base 3 "_law_machine" (spD ⟨K, w⟩ (d__law_machine cs)) := by
  obtain ⟨f, fd, F, g⟩ := T.f__law_machine
  exact (fcD F g bd__law_machine sc__law_machine (p := b__law_machine cs) fun cdv A outer s H E hr => (js_cons (j1_set (i := 3) sc__law_machine.nd (je_p (jp_fn (fc__law_start T) hr (by first | omega | decide) (ja_cons (jp_var 1) (ja_cons (jp_var 2) (ja_nil))))))
 (js_cons (j1_set (i := 4) sc__law_machine.nd (je_p (jp_int)))
 (js_cons (j1_while (jte_p (jt_cmp od_is (jp_ix hr (jp_var 3) (jp_str)) (jp_non))) (js_cons (j1_put hr (je_dict (jd_cons (jp_int) (je_p (jp_bl)) (jd_nil))) (jh_var 3) (jp_str))
 (js_cons (j1_for (T := .one 5) (pg_name (i := 5) sc__law_machine.nd rfl (by first | exact Or.inl rfl | exact Or.inr rfl)) rfl (ji_p (jp_ix hr (jp_ix hr (jp_ix hr (jp_var 0) (jp_int)) (jp_var 4)) (jp_int))) (js_cons (j1_if (jte_p (jt_cmp od_is (jp_ix hr (jp_var 3) (jp_str)) (jp_non))) (js_cons (j1_set (i := 6) sc__law_machine.nd (je_p (jp_get hr (jp_ix hr (jp_var 3) (jp_str)) (jp_ix hr (jp_var 5) (jp_int)) (jp_bl))))
 (js_cons (j1_expr (je_fn (fc__law_do_row T) hr (by first | omega | decide) (jg_n 3 (jg_n 5 (jg_n 6 (jg_e (je_lc0 [("_law_place", 7)] rfl sc__law_machine.nd (blkOk_by (N := N__law_machine) (sc := defScope s__law_machine) (by decide +kernel)) (fun _ _ _ _ _ => pg_name (i := 7) sc__law_machine.nd rfl (by first | exact Or.inl rfl | exact Or.inr rfl) (by first | exact .inr rfl | exact .inl rfl)) (ji_p (jp_fn (fc__law_reads_of T) hr (by first | omega | decide) (ja_cons (jp_var 5) (ja_nil)))) (fun _ _ _ _ _ => je_p (jp_get hr (jp_ix hr (jp_var 3) (jp_str)) (jp_var 7) (jp_int)))) (jg_nil)))))))
 (js_cons (j1_put hr (je_p (jp_lst (ja_cons (jp_op od_add (jp_ix hr (jp_ix hr (jp_var 3) (jp_str)) (jp_int)) (jp_int)) (ja_cons (jp_op od_add (jp_ix hr (jp_ix hr (jp_var 3) (jp_str)) (jp_int)) (jp_callT cd_int T.b_int bt_int (ja_cons (jp_var 6) (ja_nil)))) (ja_nil))))) (jh_var 3) (jp_str))
 (js_nil)))) (js_nil))
 (js_nil)))
 (js_cons (j1_if (jte_p (jt_cmp od_is (jp_ix hr (jp_var 3) (jp_str)) (jp_non))) (js_cons (j1_set (i := 8) sc__law_machine.nd (je_ix hr (je_lc1 [("_law_test", 9), ("_law_goal", 8)] rfl sc__law_machine.nd (blkOk_by (N := N__law_machine) (sc := defScope s__law_machine) (by decide +kernel)) (fun _ _ _ _ _ => pg_tup rfl (pgs_cons (pg_name (i := 9) sc__law_machine.nd rfl (by first | exact Or.inl rfl | exact Or.inr rfl) (by first | exact .inr rfl | exact .inl rfl)) (pgs_cons (pg_name (i := 8) sc__law_machine.nd rfl (by first | exact Or.inl rfl | exact Or.inr rfl) (by first | exact .inr rfl | exact .inl rfl)) (pgs_nil)))) (ji_p (jp_ix hr (jp_ix hr (jp_ix hr (jp_var 0) (jp_int)) (jp_var 4)) (jp_int))) (fun _ _ _ _ _ => jte_p (jt_val (jp_get hr (jp_ix hr (jp_var 3) (jp_str)) (jp_var 9) (jp_bl)))) (fun _ _ _ _ _ => je_nm 8)) (je_p (jp_int))))
 (js_cons (j1_put hr (je_p (jp_op od_sub (jp_ix hr (jp_var 3) (jp_str)) (jp_callT cd_int T.b_int bt_int (ja_cons (jp_chain od_le od_le (jp_int) (jp_var 8) (jp_var 4)) (ja_nil))))) (jh_var 3) (jp_str))
 (js_cons (j1_if (jte_p (jt_w (jw_or (jt_cmp (od_eq hr) (jp_var 8) (jp_neg)) (jw_or1 (jt_cmp od_lt (jp_ix hr (jp_var 3) (jp_str)) (jp_int)))))) (js_cons (j1_put hr (je_p (jp_if (jt_cmp (od_eq hr) (jp_var 8) (jp_neg)) (jp_tup (ja_cons (jp_str) (ja_cons (jp_int) (ja_nil)))) (jp_tup (ja_cons (jp_str) (ja_nil))))) (jh_var 3) (jp_str))
 (js_nil)) (js_nil))
 (js_cons (j1_set (i := 4) sc__law_machine.nd (je_nm 8))
 (js_nil))))) (js_nil))
 (js_nil)))))
 (js_cons (j1_ret (je_tup (jea_cons (je_tup (jea_cons (je_mv (jh_ix hr (jh_var 3) (jp_str)) (jp_ix hr (jp_var 3) (jp_str))) (jea_cons (je_mv (jh_ix hr (jh_var 3) (jp_str)) (jp_ix hr (jp_var 3) (jp_str))) (jea_cons (je_mv (jh_ix hr (jh_var 3) (jp_str)) (jp_ix hr (jp_var 3) (jp_str))) (jea_nil))))) (jea_cons (je_callT cd_tuple T.b_tuple bt_tuple (jea_cons (je_mv (jh_ix hr (jh_var 3) (jp_str)) (jp_ix hr (jp_var 3) (jp_str))) (jea_nil))) (jea_nil)))))
 (js_nil)))) : JS _ _ (b__law_machine cs)))
/-! _law_some_goes -/
noncomputable def b__law_some_goes_L1 (cs : Cs) : SV := sSeq (sSet 6 (eFn (d__law_next cs) (gN 0 (gE (eP (pOp dAdd (pVar 1) (pC (.int 1)))) (gNil')))))
 (sSeq (sExpr (eAppN 4 (eTup (eaCons (eP (pOp dAdd (pVar 6) (pOp dMul (pVar 2) (pCall dInt (aCons (pOp dGt (pVar 6) (pC (.int 0))) (aNil)))))) (eaCons (eOp dSub (eFn (d__law_next cs) (gN 0 (gE (eP (pOp dAdd (pVar 3) (pC (.int 1)))) (gNil')))) (eP (pC (.int 1)))) (eaNil))))))
 (sNil))
noncomputable def b__law_some_goes (cs : Cs) : SV := sSeq (sSet 4 (eP (pLst (aNil))))
 (sSeq (sFor (.one 5) (iR1 (eaCons (eFn (d__law_next cs) (gN 0 (gE (eOp dIx (eP (pLst (aCons (pC (.int 4)) (aCons (pC (.int 8)) (aNil))))) (eFn (d__law_next cs) (gN 0 (gE (eP (pC (.int 2))) (gNil'))))) (gNil')))) (eaNil))) (b__law_some_goes_L1 cs))
 (sSeq (sRet (eOp dAdd (eP (pCall dTuple (aCons (pVar 4) (aNil)))) (eTup (eaCons (eTup (eaCons (eP (pC (.int 0))) (eaCons (eOp dSub (eFn (d__law_next cs) (gN 0 (gE (eP (pOp dAdd (pVar 3) (pC (.int 1)))) (gNil')))) (eP (pC (.int 1)))) (eaNil)))) (eaNil)))))
 (sNil)))
noncomputable def d__law_some_goes (cs : Cs) : Den := ((mkDen 3 (b__law_some_goes cs)).arity 4)
theorem fc__law_some_goes (T : Txt w K mg cs) : Fc P w K mg base 2 "_law_some_goes" (spD ⟨K, w⟩ (d__law_some_goes cs)) := by
  obtain ⟨f, fd, F, g⟩ := T.f__law_some_goes
  exact (fcD F g bd__law_some_goes sc__law_some_goes (p := b__law_some_goes cs) fun cdv A outer s H E hr => (js_cons (j1_set (i := 4) sc__law_some_goes.nd (je_p (jp_lst (ja_nil))))
 (js_cons (j1_for (T := .one 5) (pg_name (i := 5) sc__law_some_goes.nd rfl (by first | exact Or.inl rfl | exact Or.inr rfl)) rfl (ji_r1 T.b_range (jea_cons (je_fn (fc__law_next T) hr (by first | omega | decide) (jg_n 0 (jg_e (je_ix hr (je_p (jp_lst (ja_cons (jp_int) (ja_cons (jp_int) (ja_nil))))) (je_fn (fc__law_next T) hr (by first | omega | decide) (jg_n 0 (jg_e (je_p (jp_int)) (jg_nil))))) (jg_nil)))) (jea_nil))) (js_cons (j1_set (i := 6) sc__law_some_goes.nd (je_fn (fc__law_next T) hr (by first | omega | decide) (jg_n 0 (jg_e (je_p (jp_op od_add (jp_var 1) (jp_int))) (jg_nil)))))
 (js_cons (j1_expr (je_appN 4 (n := 0) (je_tup (jea_cons (je_p (jp_op od_add (jp_var 6) (jp_op od_mul (jp_var 2) (jp_callT cd_int T.b_int bt_int (ja_cons (jp_cmp od_gt (jp_var 6) (jp_int)) (ja_nil)))))) (jea_cons (je_op od_sub (je_fn (fc__law_next T) hr (by first | omega | decide) (jg_n 0 (jg_e (je_p (jp_op od_add (jp_var 3) (jp_int))) (jg_nil)))) (je_p (jp_int))) (jea_nil))))))
 (js_nil))))
 (js_cons (j1_ret (je_op od_add (je_p (jp_callT cd_tuple T.b_tuple bt_tuple (ja_cons (jp_var 4) (ja_nil)))) (je_tup (jea_cons (je_tup (jea_cons (je_p (jp_int)) (jea_cons (je_op od_sub (je_fn (fc__law_next T) hr (by first | omega | decide) (jg_n 0 (jg_e (je_p (jp_op od_add (jp_var 3) (jp_int))) (jg_nil)))) (je_p (jp_int))) (jea_nil)))) (jea_nil)))))
 (js_nil))) : JS _ _ (b__law_some_goes cs)))
/-! _law_some_row -/
noncomputable def b__law_some_row_R6 (cs : Cs) : SV := sSeq (sIf (tP' (tB' (pOp dLt (pVar 2) (pC (.int 4))))) (sSeq (sSet 5 (eIf (tV (eOp dGt (eFn (d__law_next cs) (gN 0 (gE (eP (pC (.int 5))) (gNil')))) (eP (pC (.int 0))))) (eP (pOp dAdd (pVar 6) (pC (.int 1)))) (eOp dAdd (eP (pC (.int 1))) (eFn (d__law_next cs) (gN 0 (gE (eP (pOp dAdd (pVar 6) (pC (.int 1)))) (gNil')))))))
 (sSeq (sPut (hV 1) (pC (.str "made")) (eP (pCall dMax (aCons (pVar 6) (aCons (pOp dAdd (pVar 5) (pC (.int 1))) (aNil))))))
 (sSeq (sSet 8 (eP (pTup (aCons (pOp dAdd (pVar 5) (pOp dIx (pVar 1) (pC (.str "off")))) (aCons (pOp dAdd (pOp dAdd (pVar 5) (pC (.int 1))) (pOp dIx (pVar 1) (pC (.str "off")))) (aNil))))))
 (sSeq (sRet (eOp dAdd (eOp dAdd (eP (pTup (aCons (pVar 7) (aCons (pC (.str "test")) (aNil))))) (eIf (tV (eOp dGt (eFn (d__law_next cs) (gN 0 (gE (eP (pC (.int 4))) (gNil')))) (eP (pC (.int 0))))) (eNm 8) (eP (pRev (pVar 8))))) (eP (pTup (aCons (pOp dIx (pVar 3) (pC (.int 0))) (aNil))))))
 (sNil))))) (sNil))
 (sSeq (sIf (tP' (tB' (pOp dLt (pVar 2) (pC (.int 6))))) (sSeq (sRet (eTup (eaCons (eNm 7) (eaCons (eP (pC (.str "num"))) (eaCons (eP (pOp dIx (pVar 3) (pC (.int 0)))) (eaCons (eOp dIx (eLst (eaCons (eFn (d__law_next cs) (gN 0 (gE (eP (pC (.int 3))) (gNil')))) (eaCons (eFn (d__law_next cs) (gN 0 (gE (eP (pC (.int 18))) (gNil')))) (eaCons (eFn (d__law_next cs) (gN 0 (gE (eP (pC (.int 10007))) (gNil')))) (eaNil))))) (eFn (d__law_next cs) (gN 0 (gE (eP (pC (.int 3))) (gNil'))))) (eaNil)))))))
 (sNil)) (sNil))
 (sSeq (sIf (tP' (tB' (pOp dLt (pVar 2) (pC (.int 8))))) (sSeq (sRet (eP (pTup (aCons (pVar 7) (aCons (pOp dIx (pLst (aCons (pC (.str "copy")) (aCons (pC (.str "not")) (aNil)))) (pOp dSub (pVar 2) (pC (.int 6)))) (aCons (pOp dIx (pVar 3) (pC (.int 0))) (aCons (pOp dIx (pVar 3) (pC (.int 1))) (aNil))))))))
 (sNil)) (sNil))
 (sSeq (sIf (tP' (tB' (pOp dLt (pVar 2) (pC (.int 12))))) (sSeq (sSet 9 (eOp dIx (eP (pLst (aCons (pC (.str "add")) (aCons (pC (.str "take")) (aCons (pC (.str "times")) (aCons (pC (.str "less")) (aCons (pC (.str "same")) (aCons (pC (.str "over")) (aCons (pC (.str "rest")) (aNil)))))))))) (eFn (d__law_next cs) (gN 0 (gE (eP (pC (.int 7))) (gNil'))))))
 (sSeq (sRet (eP (pTup (aCons (pVar 7) (aCons (pVar 9) (aCons (pOp dIx (pVar 3) (pC (.int 0))) (aCons (pOp dIx (pVar 3) (pC (.int 1))) (aCons (pOp dIx (pVar 3) (pC (.int 2))) (aNil)))))))))
 (sNil))) (sNil))
 (sSeq (sIf (tP' (tB' (pOp dEq (pVar 2) (pC (.int 12))))) (sSeq (sRet (eP (pTup (aCons (pVar 7) (aCons (pC (.str "get")) (aCons (pOp dIx (pVar 3) (pC (.int 0))) (aCons (pOp dIx (pVar 3) (pC (.int 1))) (aNil))))))))
 (sNil)) (sNil))
 (sSeq (sIf (tP' (tB' (pOp dEq (pVar 2) (pC (.int 13))))) (sSeq (sRet (eP (pTup (aCons (pVar 7) (aCons (pC (.str "put")) (aCons (pOp dIx (pVar 3) (pC (.int 0))) (aCons (pOp dIx (pVar 3) (pC (.int 1))) (aNil))))))))
 (sNil)) (sNil))
 (sSeq (sRet (eTup (eaCons (eNm 7) (eaCons (eIf (tAndE (tP' (tB' (pOp dEq (pVar 2) (pC (.int 14))))) (tV (eOp dEq (eFn (d__law_next cs) (gN 0 (gE (eP (pC (.int 3))) (gNil')))) (eP (pC (.int 0)))))) (eP (pC (.str "stop"))) (eP (pC (.str "say")))) (eaCons (eP (pOp dIx (pVar 3) (pC (.int 0)))) (eaNil))))))
 (sNil)))))))
noncomputable def b__law_some_row_E1 (cs : Cs) : EV := eP (pOp dAdd (pVar 5) (pOp dMul (pOp dIx (pVar 1) (pC (.str "far"))) (pCall dInt (aCons (pOp dGe (pVar 5) (pOp dIx (pVar 1) (pC (.str "names")))) (aNil)))))
noncomputable def b__law_some_row_E2 (cs : Cs) : EV := eFn (d__law_next cs) (gN 0 (gE (eP (pOp dIx (pVar 1) (pC (.str "many")))) (gNil')))
noncomputable def b__law_some_row (cs : Cs) : SV := sSeq (sSet 2 (eFn (d__law_next cs) (gN 0 (gE (eP (pC (.int 16))) (gNil')))))
 (sSeq (sSet 3 (eLc (List.map (·.2) [("_law_k", 4)]) (.one 4) (iR1 (eaCons (eP (pC (.int 4))) (eaNil))) (tYes') (b__law_some_row_E2 cs)))
 (sSeq (sSet 3 (eLc (List.map (·.2) [("_law_one", 5)]) (.one 5) (iW 3) (tYes') (b__law_some_row_E1 cs)))
 (sSeq (sSet 6 (eP (pOp dIx (pVar 1) (pC (.str "made")))))
 (sSeq (sSet 7 (eIf (tV (eOp dEq (eFn (d__law_next cs) (gN 0 (gE (eP (pC (.int 2))) (gNil')))) (eP (pC (.int 0))))) (eFn (d__law_next cs) (gN 0 (gE (eP (pOp dAdd (pVar 6) (pC (.int 1)))) (gNil')))) (eOp dMul (eNm 6) (eFn (d__law_next cs) (gN 0 (gE (eP (pC (.int 2))) (gNil')))))))
 (sSeq (sSet 7 (eP (pOp dAdd (pVar 7) (pOp dMul (pOp dIx (pVar 1) (pC (.str "off"))) (pCall dInt (aCons (pOp dGt (pVar 7) (pC (.int 0))) (aNil)))))))
 (b__law_some_row_R6 cs))))))
noncomputable def d__law_some_row (cs : Cs) : Den := ((mkDen 8 (b__law_some_row cs)).arity 2)
theorem fc__law_some_row (T : Txt w K mg cs) : Fc P w K mg base 2 "_law_some_row" (spD ⟨K, w⟩ (d__law_some_row cs)) := by
  obtain ⟨f, fd, F, g⟩ := T.f__law_some_row
  exact (fcD F g bd__law_some_row sc__law_some_row (p := b__law_some_row cs) fun cdv A outer s H E hr => (js_cons (j1_set (i := 2) sc__law_some_row.nd (je_fn (fc__law_next T) hr (by first | omega | decide) (jg_n 0 (jg_e (je_p (jp_int)) (jg_nil)))))
 (js_cons (by first | exact j1_setLc0 (i := 3) [("_law_k", 4)] rfl sc__law_some_row.nd (blkOk_by (N := N__law_some_row) (sc := defScope s__law_some_row) (by decide +kernel)) (fun _ _ _ _ _ => pg_name (i := 4) sc__law_some_row.nd rfl (by first | exact Or.inl rfl | exact Or.inr rfl) (by first | exact .inr rfl | exact .inl rfl)) (ji_r1 T.b_range (jea_cons (je_p (jp_int)) (jea_nil))) (fun _ _ _ _ _ => je_fn (fc__law_next T) hr (by first | omega | decide) (jg_n 0 (jg_e (je_p (jp_ix hr (jp_var 1) (jp_str))) (jg_nil)))) | exact j1_set (i := 3) sc__law_some_row.nd (je_lc0 [("_law_k", 4)] rfl sc__law_some_row.nd (blkOk_by (N := N__law_some_row) (sc := defScope s__law_some_row) (by decide +kernel)) (fun _ _ _ _ _ => pg_name (i := 4) sc__law_some_row.nd rfl (by first | exact Or.inl rfl | exact Or.inr rfl) (by first | exact .inr rfl | exact .inl rfl)) (ji_r1 T.b_range (jea_cons (je_p (jp_int)) (jea_nil))) (fun _ _ _ _ _ => je_fn (fc__law_next T) hr (by first | omega | decide) (jg_n 0 (jg_e (je_p (jp_ix hr (jp_var 1) (jp_str))) (jg_nil))))))
 (js_cons (by first | exact j1_setLc0 (i := 3) [("_law_one", 5)] rfl sc__law_some_row.nd (blkOk_by (N := N__law_some_row) (sc := defScope s__law_some_row) (by decide +kernel)) (fun _ _ _ _ _ => pg_name (i := 5) sc__law_some_row.nd rfl (by first | exact Or.inl rfl | exact Or.inr rfl) (by first | exact .inr rfl | exact .inl rfl)) (ji_w 3) (fun _ _ _ _ _ => je_p (jp_op od_add (jp_var 5) (jp_op od_mul (jp_ix hr (jp_var 1) (jp_str)) (jp_callT cd_int T.b_int bt_int (ja_cons (jp_cmp od_ge (jp_var 5) (jp_ix hr (jp_var 1) (jp_str))) (ja_nil)))))) | exact j1_set (i := 3) sc__law_some_row.nd (je_lc0 [("_law_one", 5)] rfl sc__law_some_row.nd (blkOk_by (N := N__law_some_row) (sc := defScope s__law_some_row) (by decide +kernel)) (fun _ _ _ _ _ => pg_name (i := 5) sc__law_some_row.nd rfl (by first | exact Or.inl rfl | exact Or.inr rfl) (by first | exact .inr rfl | exact .inl rfl)) (ji_w 3) (fun _ _ _ _ _ => je_p (jp_op od_add (jp_var 5) (jp_op od_mul (jp_ix hr (jp_var 1) (jp_str)) (jp_callT cd_int T.b_int bt_int (ja_cons (jp_cmp od_ge (jp_var 5) (jp_ix hr (jp_var 1) (jp_str))) (ja_nil))))))))
 (js_cons (j1_set (i := 6) sc__law_some_row.nd (je_p (jp_ix hr (jp_var 1) (jp_str))))
 (js_cons (j1_set (i := 7) sc__law_some_row.nd (je_if (jte_cmp (od_eq hr) (je_fn (fc__law_next T) hr (by first | omega | decide) (jg_n 0 (jg_e (je_p (jp_int)) (jg_nil)))) (je_p (jp_int))) (je_fn (fc__law_next T) hr (by first | omega | decide) (jg_n 0 (jg_e (je_p (jp_op od_add (jp_var 6) (jp_int))) (jg_nil)))) (je_op od_mul (je_nm 6) (je_fn (fc__law_next T) hr (by first | omega | decide) (jg_n 0 (jg_e (je_p (jp_int)) (jg_nil)))))))
 (js_cons (j1_set (i := 7) sc__law_some_row.nd (je_p (jp_op od_add (jp_var 7) (jp_op od_mul (jp_ix hr (jp_var 1) (jp_str)) (jp_callT cd_int T.b_int bt_int (ja_cons (jp_cmp od_gt (jp_var 7) (jp_int)) (ja_nil)))))))
 (js_cons (j1_if (jte_p (jt_cmp od_lt (jp_var 2) (jp_int))) (js_cons (j1_set (i := 5) sc__law_some_row.nd (je_if (jte_cmp od_gt (je_fn (fc__law_next T) hr (by first | omega | decide) (jg_n 0 (jg_e (je_p (jp_int)) (jg_nil)))) (je_p (jp_int))) (je_p (jp_op od_add (jp_var 6) (jp_int))) (je_op od_add (je_p (jp_int)) (je_fn (fc__law_next T) hr (by first | omega | decide) (jg_n 0 (jg_e (je_p (jp_op od_add (jp_var 6) (jp_int))) (jg_nil)))))))
 (js_cons (j1_put hr (je_p (jp_callB (cd_max rfl) T.b_max bt_max (ja_cons (jp_var 6) (ja_cons (jp_op od_add (jp_var 5) (jp_int)) (ja_nil))))) (jh_var 1) (jp_str))
 (js_cons (j1_set (i := 8) sc__law_some_row.nd (je_p (jp_tup (ja_cons (jp_op od_add (jp_var 5) (jp_ix hr (jp_var 1) (jp_str))) (ja_cons (jp_op od_add (jp_op od_add (jp_var 5) (jp_int)) (jp_ix hr (jp_var 1) (jp_str))) (ja_nil))))))
 (js_cons (j1_ret (je_op od_add (je_op od_add (je_p (jp_tup (ja_cons (jp_var 7) (ja_cons (jp_str) (ja_nil))))) (je_if (jte_cmp od_gt (je_fn (fc__law_next T) hr (by first | omega | decide) (jg_n 0 (jg_e (je_p (jp_int)) (jg_nil)))) (je_p (jp_int))) (je_nm 8) (je_p (jp_rev (jp_var 8))))) (je_p (jp_tup (ja_cons (jp_ix hr (jp_var 3) (jp_int)) (ja_nil))))))
 (js_nil))))) (js_nil))
 (js_cons (j1_if (jte_p (jt_cmp od_lt (jp_var 2) (jp_int))) (js_cons (j1_ret (je_tup (jea_cons (je_nm 7) (jea_cons (je_p (jp_str)) (jea_cons (je_p (jp_ix hr (jp_var 3) (jp_int))) (jea_cons (je_ix hr (je_lst (jea_cons (je_fn (fc__law_next T) hr (by first | omega | decide) (jg_n 0 (jg_e (je_p (jp_int)) (jg_nil)))) (jea_cons (je_fn (fc__law_next T) hr (by first | omega | decide) (jg_n 0 (jg_e (je_p (jp_int)) (jg_nil)))) (jea_cons (je_fn (fc__law_next T) hr (by first | omega | decide) (jg_n 0 (jg_e (je_p (jp_int)) (jg_nil)))) (jea_nil))))) (je_fn (fc__law_next T) hr (by first | omega | decide) (jg_n 0 (jg_e (je_p (jp_int)) (jg_nil))))) (jea_nil)))))))
 (js_nil)) (js_nil))
 (js_cons (j1_if (jte_p (jt_cmp od_lt (jp_var 2) (jp_int))) (js_cons (j1_ret (je_p (jp_tup (ja_cons (jp_var 7) (ja_cons (jp_ix hr (jp_lst (ja_cons (jp_str) (ja_cons (jp_str) (ja_nil)))) (jp_op od_sub (jp_var 2) (jp_int))) (ja_cons (jp_ix hr (jp_var 3) (jp_int)) (ja_cons (jp_ix hr (jp_var 3) (jp_int)) (ja_nil))))))))
 (js_nil)) (js_nil))
 (js_cons (j1_if (jte_p (jt_cmp od_lt (jp_var 2) (jp_int))) (js_cons (j1_set (i := 9) sc__law_some_row.nd (je_ix hr (je_p (jp_lst (ja_cons (jp_str) (ja_cons (jp_str) (ja_cons (jp_str) (ja_cons (jp_str) (ja_cons (jp_str) (ja_cons (jp_str) (ja_cons (jp_str) (ja_nil)))))))))) (je_fn (fc__law_next T) hr (by first | omega | decide) (jg_n 0 (jg_e (je_p (jp_int)) (jg_nil))))))
 (js_cons (j1_ret (je_p (jp_tup (ja_cons (jp_var 7) (ja_cons (jp_var 9) (ja_cons (jp_ix hr (jp_var 3) (jp_int)) (ja_cons (jp_ix hr (jp_var 3) (jp_int)) (ja_cons (jp_ix hr (jp_var 3) (jp_int)) (ja_nil)))))))))
 (js_nil))) (js_nil))
 (js_cons (j1_if (jte_p (jt_cmp (od_eq hr) (jp_var 2) (jp_int))) (js_cons (j1_ret (je_p (jp_tup (ja_cons (jp_var 7) (ja_cons (jp_str) (ja_cons (jp_ix hr (jp_var 3) (jp_int)) (ja_cons (jp_ix hr (jp_var 3) (jp_int)) (ja_nil))))))))
 (js_nil)) (js_nil))
 (js_cons (j1_if (jte_p (jt_cmp (od_eq hr) (jp_var 2) (jp_int))) (js_cons (j1_ret (je_p (jp_tup (ja_cons (jp_var 7) (ja_cons (jp_str) (ja_cons (jp_ix hr (jp_var 3) (jp_int)) (ja_cons (jp_ix hr (jp_var 3) (jp_int)) (ja_nil))))))))
 (js_nil)) (js_nil))
 (js_cons (j1_ret (je_tup (jea_cons (je_nm 7) (jea_cons (je_if (jte_w (jwe_and (jte_p (jt_cmp (od_eq hr) (jp_var 2) (jp_int))) (jwe_and1 (jte_cmp (od_eq hr) (je_fn (fc__law_next T) hr (by first | omega | decide) (jg_n 0 (jg_e (je_p (jp_int)) (jg_nil)))) (je_p (jp_int)))))) (je_p (jp_str)) (je_p (jp_str))) (jea_cons (je_p (jp_ix hr (jp_var 3) (jp_int))) (jea_nil))))))
 (js_nil))))))))))))) : JS _ _ (b__law_some_row cs)))
/-! _law_some_rows -/
noncomputable def b__law_some_rows_E1 (cs : Cs) : EV := eFn (d__law_some_row cs) (gN 0 (gN 4 (gNil')))
noncomputable def b__law_some_rows (cs : Cs) : SV := sSeq (sSet 3 (eFn (d__law_next cs) (gN 0 (gE (eP (pC (.int 3))) (gNil')))))
 (sSeq (sSet 4 (eDict (edCons (pC (.str "names")) (eNm 1) (edCons (pC (.str "many")) (eOp dAdd (eNm 1) (eIf (tP' (tB' (pOp dEq (pVar 3) (pC (.int 0))))) (eP (pC (.int 20))) (eOp dAdd (eP (pC (.int 2))) (eFn (d__law_next cs) (gN 0 (gE (eP (pC (.int 6))) (gNil'))))))) (edCons (pC (.str "made")) (eP (pC (.int 0))) (edNil))))))
 (sSeq (sExpr (eUpdN 4 (eDict (edCons (pC (.str "far")) (eOp dIx (eP (pLst (aCons (pC (.int 0)) (aCons (pC (.int 0)) (aCons (pC (.int 1900)) (aNil)))))) (eFn (d__law_next cs) (gN 0 (gE (eP (pC (.int 3))) (gNil'))))) (edCons (pC (.str "off")) (eOp dIx (eP (pLst (aCons (pC (.int 0)) (aCons (pC (.int 0)) (aCons (pC (.int 1900)) (aNil)))))) (eFn (d__law_next cs) (gN 0 (gE (eP (pC (.int 3))) (gNil'))))) (edNil))))))
 (sSeq (sSet 5 (eCall dTuple (eaCons (eLc (List.map (·.2) [("_law_k", 6)]) (.one 6) (iR1 (eaCons (eFn (d__law_next cs) (gN 0 (gE (eP (pOp dAdd (pVar 2) (pC (.int 1)))) (gNil')))) (eaNil))) (tYes') (b__law_some_rows_E1 cs)) (eaNil))))
 (sSeq (sRet (eP (pTup (aCons (pVar 5) (aCons (pOp dIx (pVar 4) (pC (.str "made"))) (aCons (pOp dIx (pVar 4) (pC (.str "off"))) (aNil)))))))
 (sNil)))))
noncomputable def d__law_some_rows (cs : Cs) : Den := ((mkDen 4 (b__law_some_rows cs)).arity 3)
theorem fc__law_some_rows (T : Txt w K mg cs) : Fc P w K mg base 3 "_law_some_rows" (spD ⟨K, w⟩ (d__law_some_rows cs)) := by
  obtain ⟨f, fd, F, g⟩ := T.f__law_some_rows
  exact (fcD F g bd__law_some_rows sc__law_some_rows (p := b__law_some_rows cs) fun cdv A outer s H E hr => (js_cons (j1_set (i := 3) sc__law_some_rows.nd (je_fn (fc__law_next T) hr (by first | omega | decide) (jg_n 0 (jg_e (je_p (jp_int)) (jg_nil)))))
 (js_cons (j1_set (i := 4) sc__law_some_rows.nd (je_dict (jd_cons (jp_str) (je_nm 1) (jd_cons (jp_str) (je_op od_add (je_nm 1) (je_if (jte_p (jt_cmp (od_eq hr) (jp_var 3) (jp_int))) (je_p (jp_int)) (je_op od_add (je_p (jp_int)) (je_fn (fc__law_next T) hr (by first | omega | decide) (jg_n 0 (jg_e (je_p (jp_int)) (jg_nil))))))) (jd_cons (jp_str) (je_p (jp_int)) (jd_nil))))))
 (js_cons (j1_expr (je_updN 4 (je_dict (jd_cons (jp_str) (je_ix hr (je_p (jp_lst (ja_cons (jp_int) (ja_cons (jp_int) (ja_cons (jp_int) (ja_nil)))))) (je_fn (fc__law_next T) hr (by first | omega | decide) (jg_n 0 (jg_e (je_p (jp_int)) (jg_nil))))) (jd_cons (jp_str) (je_ix hr (je_p (jp_lst (ja_cons (jp_int) (ja_cons (jp_int) (ja_cons (jp_int) (ja_nil)))))) (je_fn (fc__law_next T) hr (by first | omega | decide) (jg_n 0 (jg_e (je_p (jp_int)) (jg_nil))))) (jd_nil))))))
 (js_cons (j1_set (i := 5) sc__law_some_rows.nd (je_callT cd_tuple T.b_tuple bt_tuple (jea_cons (je_lc0 [("_law_k", 6)] rfl sc__law_some_rows.nd (blkOk_by (N := N__law_some_rows) (sc := defScope s__law_some_rows) (by decide +kernel)) (fun _ _ _ _ _ => pg_name (i := 6) sc__law_some_rows.nd rfl (by first | exact Or.inl rfl | exact Or.inr rfl) (by first | exact .inr rfl | exact .inl rfl)) (ji_r1 T.b_range (jea_cons (je_fn (fc__law_next T) hr (by first | omega | decide) (jg_n 0 (jg_e (je_p (jp_op od_add (jp_var 2) (jp_int))) (jg_nil)))) (jea_nil))) (fun _ _ _ _ _ => je_fn (fc__law_some_row T) hr (by first | omega | decide) (jg_n 0 (jg_n 4 (jg_nil))))) (jea_nil))))
 (js_cons (j1_ret (je_p (jp_tup (ja_cons (jp_var 5) (ja_cons (jp_ix hr (jp_var 4) (jp_str)) (ja_cons (jp_ix hr (jp_var 4) (jp_str)) (ja_nil)))))))
 (js_nil))))) : JS _ _ (b__law_some_rows cs)))
/-! _law_some_tested -/
noncomputable def b__law_some_tested_L1 (cs : Cs) : SV := sSeq (sUnp [7, 8, 9] (eFn (d__law_some_rows cs) (gN 0 (gN 3 (gN 1 (gNil'))))))
 (sSeq (sExpr (eAppN 5 (eTup (eaCons (eNm 7) (eaCons (eFn (d__law_some_goes cs) (gN 0 (gN 8 (gN 9 (gN 4 (gNil')))))) (eaNil))))))
 (sNil))
noncomputable def b__law_some_tested (cs : Cs) : SV := sSeq (sSet 2 (eFn (d__law_next cs) (gN 0 (gE (eP (pC (.int 4))) (gNil')))))
 (sSeq (sSet 3 (eOp dAdd (eNm 2) (eFn (d__law_next cs) (gN 0 (gE (eP (pC (.int 4))) (gNil'))))))
 (sSeq (sSet 4 (eOp dAdd (eP (pC (.int 1))) (eFn (d__law_next cs) (gN 0 (gE (eP (pC (.int 5))) (gNil'))))))
 (sSeq (sSet 5 (eP (pLst (aNil))))
 (sSeq (sFor (.one 6) (iR1 (eaCons (eNm 4) (eaNil))) (b__law_some_tested_L1 cs))
 (sSeq (sRet (eP (pTup (aCons (pVar 2) (aCons (pVar 3) (aCons (pCall dTuple (aCons (pVar 5) (aNil))) (aNil)))))))
 (sNil))))))
noncomputable def d__law_some_tested (cs : Cs) : Den := ((mkDen 8 (b__law_some_tested cs)).arity 2)
theorem fc__law_some_tested (T : Txt w K mg cs) : Fc P w K mg base 4 "_law_some_tested" (spD ⟨K, w⟩ (d__law_some_tested cs)) := by
  obtain ⟨f, fd, F, g⟩ := T.f__law_some_tested
  exact (fcD F g bd__law_some_tested sc__law_some_tested (p := b__law_some_tested cs) fun cdv A outer s H E hr => (js_cons (j1_set (i := 2) sc__law_some_tested.nd (je_fn (fc__law_next T) hr (by first | omega | decide) (jg_n 0 (jg_e (je_p (jp_int)) (jg_nil)))))
 (js_cons (j1_set (i := 3) sc__law_some_tested.nd (je_op od_add (je_nm 2) (je_fn (fc__law_next T) hr (by first | omega | decide) (jg_n 0 (jg_e (je_p (jp_int)) (jg_nil))))))
 (js_cons (j1_set (i := 4) sc__law_some_tested.nd (je_op od_add (je_p (jp_int)) (je_fn (fc__law_next T) hr (by first | omega | decide) (jg_n 0 (jg_e (je_p (jp_int)) (jg_nil))))))
 (js_cons (j1_set (i := 5) sc__law_some_tested.nd (je_p (jp_lst (ja_nil))))
 (js_cons (j1_for (T := .one 6) (pg_name (i := 6) sc__law_some_tested.nd rfl (by first | exact Or.inl rfl | exact Or.inr rfl)) rfl (ji_r1 T.b_range (jea_cons (je_nm 4) (jea_nil))) (js_cons (j1_unp (is := [7, 8, 9]) (pg_tup rfl (pgs_cons (pg_name (i := 7) sc__law_some_tested.nd rfl (by first | exact Or.inl rfl | exact Or.inr rfl)) (pgs_cons (pg_name (i := 8) sc__law_some_tested.nd rfl (by first | exact Or.inl rfl | exact Or.inr rfl)) (pgs_cons (pg_name (i := 9) sc__law_some_tested.nd rfl (by first | exact Or.inl rfl | exact Or.inr rfl)) (pgs_nil))))) (je_fn (fc__law_some_rows T) hr (by first | omega | decide) (jg_n 0 (jg_n 3 (jg_n 1 (jg_nil))))))
 (js_cons (j1_expr (je_appN 5 (n := 0) (je_tup (jea_cons (je_nm 7) (jea_cons (je_fn (fc__law_some_goes T) hr (by first | omega | decide) (jg_n 0 (jg_n 8 (jg_n 9 (jg_n 4 (jg_nil)))))) (jea_nil))))))
 (js_nil))))
 (js_cons (j1_ret (je_p (jp_tup (ja_cons (jp_var 2) (ja_cons (jp_var 3) (ja_cons (jp_callT cd_tuple T.b_tuple bt_tuple (ja_cons (jp_var 5) (ja_nil))) (ja_nil)))))))
 (js_nil)))))) : JS _ _ (b__law_some_tested cs)))
/-! all_rows -/
noncomputable def b_all_rows_E1 (cs : Cs) : EV := eP (pTup (aCons (pVar 2) (aCons (pVar 4) (aCons (pVar 5) (aNil)))))
noncomputable def b_all_rows_L1 (cs : Cs) : SV := sSeq (sExpr (eExtN 1 (eLc (List.map (·.2) [("place", 4), ("row", 5)]) (.tup [4, 5]) (iEn (pOp dIx (pVar 3) (pC (.int 0)))) (tYes') (b_all_rows_E1 cs))))
 (sNil)
noncomputable def b_all_rows (cs : Cs) : SV := sSeq (sSet 1 (eP (pLst (aNil))))
 (sSeq (sFor (.tup [2, 3]) (iEnV 0) (b_all_rows_L1 cs))
 (sSeq (sRet (eNm 1))
 (sNil)))
noncomputable def d_all_rows (cs : Cs) : Den := ((mkDen 5 (b_all_rows cs)).arity 1)
theorem fc_all_rows (T : Txt w K mg cs) : Fc P w K mg base 1 "all_rows" (spD ⟨K, w⟩ (d_all_rows cs)) := by
  obtain ⟨f, fd, F, g⟩ := T.f_all_rows
  exact (fcD F g bd_all_rows sc_all_rows (p := b_all_rows cs) fun cdv A outer s H E hr => (js_cons (j1_set (i := 1) sc_all_rows.nd (je_p (jp_lst (ja_nil))))
 (js_cons (j1_for (T := .tup [2, 3]) (pg_tup rfl (pgs_cons (pg_name (i := 2) sc_all_rows.nd rfl (by first | exact Or.inl rfl | exact Or.inr rfl)) (pgs_cons (pg_name (i := 3) sc_all_rows.nd rfl (by first | exact Or.inl rfl | exact Or.inr rfl)) (pgs_nil)))) rfl (ji_enV 0 T.b_enumerate) (js_cons (j1_expr (je_extN 1 (je_lc0 [("place", 4), ("row", 5)] rfl sc_all_rows.nd (blkOk_by (N := N_all_rows) (sc := defScope s_all_rows) (by decide +kernel)) (fun _ _ _ _ _ => pg_tup rfl (pgs_cons (pg_name (i := 4) sc_all_rows.nd rfl (by first | exact Or.inl rfl | exact Or.inr rfl) (by first | exact .inr rfl | exact .inl rfl)) (pgs_cons (pg_name (i := 5) sc_all_rows.nd rfl (by first | exact Or.inl rfl | exact Or.inr rfl) (by first | exact .inr rfl | exact .inl rfl)) (pgs_nil)))) (ji_en T.b_enumerate (jp_ix hr (jp_var 3) (jp_int))) (fun _ _ _ _ _ => je_p (jp_tup (ja_cons (jp_var 2) (ja_cons (jp_var 4) (ja_cons (jp_var 5) (ja_nil)))))))))
 (js_nil)))
 (js_cons (j1_ret (je_nm 1))
 (js_nil))) : JS _ _ (b_all_rows cs)))
/-! shape_of -/
noncomputable def b_shape_of (cs : Cs) : SV := sSeq (sRet (eP (pIf (tB' (pOp dIn (pVar 0) (pC (.tup ([("add" : Str), ("take" : Str), ("times" : Str), ("over" : Str), ("rest" : Str), ("less" : Str), ("same" : Str)].map D.str))))) (pC (.str "wrr")) (pKget tab_SHAPES (pVar 0)))))
 (sNil)
noncomputable def d_shape_of (cs : Cs) : Den := ((mkDen 0 (b_shape_of cs)).arity 1)
theorem fc_shape_of (T : Txt w K mg cs) : Fc P w K mg base 1 "shape_of" (spD ⟨K, w⟩ (d_shape_of cs)) := by
  obtain ⟨f, fd, F, g⟩ := T.f_shape_of
  exact (fcD F g bd_shape_of sc_shape_of (p := b_shape_of cs) fun cdv A outer s H E hr => (js_cons (j1_ret (je_p (jp_if (jt_cmp (od_in hr) (jp_var 0) (jp_glo (gc_PAIRS T))) (jp_str) (jp_kget (gt_SHAPES T) (jp_var 0)))))
 (js_nil) : JS _ _ (b_shape_of cs)))
/-! makes -/
noncomputable def b_makes_C1 (cs : Cs) : ET := tP' (tB' (pOp dEq (pVar 1) (pC (.str "p"))))
noncomputable def b_makes_E1 (cs : Cs) : EV := eNm 2
noncomputable def b_makes (cs : Cs) : SV := sSeq (sRet (eLc (List.map (·.2) [("kind", 1), ("part", 2)]) (.tup [1, 2]) (iZp (pFn (d_shape_of cs) (aCons (pOp dIx (pVar 0) (pC (.int 1))) (aNil))) (pSl (pVar 0) (oE (pC (.int 2))) (oNo))) (b_makes_C1 cs) (b_makes_E1 cs)))
 (sNil)
noncomputable def d_makes (cs : Cs) : Den := ((mkDen 2 (b_makes cs)).arity 1)
theorem fc_makes (T : Txt w K mg cs) : Fc P w K mg base 2 "makes" (spD ⟨K, w⟩ (d_makes cs)) := by
  obtain ⟨f, fd, F, g⟩ := T.f_makes
  exact (fcD F g bd_makes sc_makes (p := b_makes cs) fun cdv A outer s H E hr => (js_cons (j1_ret (je_lc1 [("kind", 1), ("part", 2)] rfl sc_makes.nd (blkOk_by (N := N_makes) (sc := defScope s_makes) (by decide +kernel)) (fun _ _ _ _ _ => pg_tup rfl (pgs_cons (pg_name (i := 1) sc_makes.nd rfl (by first | exact Or.inl rfl | exact Or.inr rfl) (by first | exact .inr rfl | exact .inl rfl)) (pgs_cons (pg_name (i := 2) sc_makes.nd rfl (by first | exact Or.inl rfl | exact Or.inr rfl) (by first | exact .inr rfl | exact .inl rfl)) (pgs_nil)))) (ji_zp T.b_zip (jp_fn (fc_shape_of T) hr (by first | omega | decide) (ja_cons (jp_ix hr (jp_var 0) (jp_int)) (ja_nil))) (jp_sl (jp_var 0) (jo_e (jp_int)) (jo_no))) (fun _ _ _ _ _ => jte_p (jt_cmp (od_eq hr) (jp_var 1) (jp_str))) (fun _ _ _ _ _ => je_nm 2)))
 (js_nil) : JS _ _ (b_makes cs)))
/-! is_idle -/
noncomputable def b_is_idle_C1 (cs : Cs) : ET := tP' (tB' (pOp dIn (pVar 6) (pVar 3)))
noncomputable def b_is_idle_E1 (cs : Cs) : EV := eNm 6
noncomputable def b_is_idle_E2 (cs : Cs) : EV := eP (pOp dIx (pVar 4) (pC (.int 0)))
noncomputable def b_is_idle_E3 (cs : Cs) : EV := eP (pOp dIx (pVar 5) (pC (.int 0)))
noncomputable def b_is_idle (cs : Cs) : SV := sSeq (sIf (tP' (tB' (pOp dEq (pOp dIx (pVar 0) (pC (.int 1))) (pC (.str "test"))))) (sSeq (sSet 3 (eOp dAdd (eLc (List.map (·.2) [("one", 4)]) (.one 4) (iP (pOp dIx (pVar 1) (pC (.int 0)))) (tYes') (b_is_idle_E2 cs)) (eLc (List.map (·.2) [("pair", 5)]) (.one 5) (iP (pOp dIx (pVar 1) (pC (.int 1)))) (tYes') (b_is_idle_E3 cs))))
 (sSeq (sRet (eOp dEq (eLc (List.map (·.2) [("test", 6)]) (.one 6) (iP (pFn (d_makes cs) (aCons (pVar 0) (aNil)))) (b_is_idle_C1 cs) (b_is_idle_E1 cs)) (eP (pLst (aNil)))))
 (sNil))) (sNil))
 (sSeq (sRet (eP (pAnd (pOp dIn (pOp dIx (pVar 0) (pC (.int 1))) (pC (.tup ([("num" : Str), ("copy" : Str), ("add" : Str), ("take" : Str), ("times" : Str), ("less" : Str), ("same" : Str), ("not" : Str)].map D.str)))) (pOp dNotIn (pOp dIx (pVar 0) (pC (.int 2))) (pVar 2)))))
 (sNil))
noncomputable def d_is_idle (cs : Cs) : Den := ((mkDen 4 (b_is_idle cs)).arity 3)
theorem fc_is_idle (T : Txt w K mg cs) : Fc P w K mg base 3 "is_idle" (spD ⟨K, w⟩ (d_is_idle cs)) := by
  obtain ⟨f, fd, F, g⟩ := T.f_is_idle
  exact (fcD F g bd_is_idle sc_is_idle (p := b_is_idle cs) fun cdv A outer s H E hr => (js_cons (j1_if (jte_p (jt_cmp (od_eq hr) (jp_ix hr (jp_var 0) (jp_int)) (jp_str))) (js_cons (j1_set (i := 3) sc_is_idle.nd (je_op od_add (je_lc0 [("one", 4)] rfl sc_is_idle.nd (blkOk_by (N := N_is_idle) (sc := defScope s_is_idle) (by decide +kernel)) (fun _ _ _ _ _ => pg_name (i := 4) sc_is_idle.nd rfl (by first | exact Or.inl rfl | exact Or.inr rfl) (by first | exact .inr rfl | exact .inl rfl)) (ji_p (jp_ix hr (jp_var 1) (jp_int))) (fun _ _ _ _ _ => je_p (jp_ix hr (jp_var 4) (jp_int)))) (je_lc0 [("pair", 5)] rfl sc_is_idle.nd (blkOk_by (N := N_is_idle) (sc := defScope s_is_idle) (by decide +kernel)) (fun _ _ _ _ _ => pg_name (i := 5) sc_is_idle.nd rfl (by first | exact Or.inl rfl | exact Or.inr rfl) (by first | exact .inr rfl | exact .inl rfl)) (ji_p (jp_ix hr (jp_var 1) (jp_int))) (fun _ _ _ _ _ => je_p (jp_ix hr (jp_var 5) (jp_int))))))
 (js_cons (j1_ret (je_cmp (od_eq hr) (je_lc1 [("test", 6)] rfl sc_is_idle.nd (blkOk_by (N := N_is_idle) (sc := defScope s_is_idle) (by decide +kernel)) (fun _ _ _ _ _ => pg_name (i := 6) sc_is_idle.nd rfl (by first | exact Or.inl rfl | exact Or.inr rfl) (by first | exact .inr rfl | exact .inl rfl)) (ji_p (jp_fn (fc_makes T) hr (by first | omega | decide) (ja_cons (jp_var 0) (ja_nil)))) (fun _ _ _ _ _ => jte_p (jt_cmp (od_in hr) (jp_var 6) (jp_var 3))) (fun _ _ _ _ _ => je_nm 6)) (je_p (jp_lst (ja_nil)))))
 (js_nil))) (js_nil))
 (js_cons (j1_ret (je_p (jp_and (jp_cmp (od_in hr) (jp_ix hr (jp_var 0) (jp_int)) (jp_glo (gc_QUIET T))) (jp_one (jp_cmp (od_notIn hr) (jp_ix hr (jp_var 0) (jp_int)) (jp_var 2))))))
 (js_nil)) : JS _ _ (b_is_idle cs)))
/-! is_number -/
noncomputable def b_is_number (cs : Cs) : SV := sSeq (sRet (eP (pAnd (pIsi "int" (pVar 0)) (pAnd (pNot (pIsi "bool" (pVar 0))) (pChain dLe dLe (pVar 1) (pVar 0) (pVar 2))))))
 (sNil)
noncomputable def d_is_number (cs : Cs) : Den := ((mkDen 0 (b_is_number cs)).arity 3)
theorem fc_is_number (T : Txt w K mg cs) : Fc P w K mg base 1 "is_number" (spD ⟨K, w⟩ (d_is_number cs)) := by
  obtain ⟨f, fd, F, g⟩ := T.f_is_number
  exact (fcD F g bd_is_number sc_is_number (p := b_is_number cs) fun cdv A outer s H E hr => (js_cons (j1_ret (je_p (jp_and (jp_isi bt_int T.b_isinstance T.b_int (jp_var 0)) (jp_and (jp_not (jp_isi bt_bool T.b_isinstance T.b_bool (jp_var 0))) (jp_one (jp_chain od_le od_le (jp_var 1) (jp_var 0) (jp_var 2)))))))
 (js_nil) : JS _ _ (b_is_number cs)))
/-! are_goes -/
noncomputable def b_are_goes (cs : Cs) : SV := sSeq (sIf (tP' (tOr' (tNot' (tB' (pIsi "tuple" (pVar 0)))) (tNot' (tB' (pChain dLe dLe (pC (.int 1)) (pCall dLen (aCons (pVar 0) (aNil))) (pC (.int 8))))))) (sSeq (sRet (eP (pC (.bl false))))
 (sNil)) (sNil))
 (sSeq (sFor (.one 2) (iV 0) (sSeq (sIf (tP' (tOr' (tNot' (tB' (pIsi "tuple" (pVar 2)))) (tOr' (tB' (pOp dNe (pCall dLen (aCons (pVar 2) (aNil))) (pC (.int 2)))) (tNot' (tB' (pFn (d_is_number cs) (aCons (pOp dIx (pVar 2) (pC (.int 0))) (aCons (pC (.int 0)) (aCons (pC (.int 1999)) (aNil)))))))))) (sSeq (sRet (eP (pC (.bl false))))
 (sNil)) (sNil))
 (sSeq (sIf (tP' (tNot' (tB' (pFn (d_is_number cs) (aCons (pOp dIx (pVar 2) (pC (.int 1))) (aCons (pC (.int (-1))) (aCons (pOp dSub (pVar 1) (pC (.int 1))) (aNil)))))))) (sSeq (sRet (eP (pC (.bl false))))
 (sNil)) (sNil))
 (sNil))))
 (sSeq (sRet (eP (pOp dEq (pOp dIx (pOp dIx (pVar 0) (pC (.int (-1)))) (pC (.int 0))) (pC (.int 0)))))
 (sNil)))
noncomputable def d_are_goes (cs : Cs) : Den := ((mkDen 1 (b_are_goes cs)).arity 2)
theorem fc_are_goes (T : Txt w K mg cs) : Fc P w K mg base 2 "are_goes" (spD ⟨K, w⟩ (d_are_goes cs)) := by
  obtain ⟨f, fd, F, g⟩ := T.f_are_goes
  exact (fcD F g bd_are_goes sc_are_goes (p := b_are_goes cs) fun cdv A outer s H E hr => (js_cons (j1_if (jte_p (jt_w (jw_or (jt_not (jt_val (jp_isi bt_tuple T.b_isinstance T.b_tuple (jp_var 0)))) (jw_or1 (jt_not (jt_chain od_le od_le (jp_int) (jp_callB cd_len T.b_len PySem.boot_len (ja_cons (jp_var 0) (ja_nil))) (jp_glo (gc_MOST_GOES T)))))))) (js_cons (j1_ret (je_p (jp_bl)))
 (js_nil)) (js_nil))
 (js_cons (j1_for (T := .one 2) (pg_name (i := 2) sc_are_goes.nd rfl (by first | exact Or.inl rfl | exact Or.inr rfl)) rfl (ji_v 0) (js_cons (j1_if (jte_p (jt_w (jw_or (jt_not (jt_val (jp_isi bt_tuple T.b_isinstance T.b_tuple (jp_var 2)))) (jw_or (jt_cmp (od_ne hr) (jp_callB cd_len T.b_len PySem.boot_len (ja_cons (jp_var 2) (ja_nil))) (jp_int)) (jw_or1 (jt_not (jt_val (jp_fn (fc_is_number T) hr (by first | omega | decide) (ja_cons (jp_ix hr (jp_var 2) (jp_int)) (ja_cons (jp_int) (ja_cons (jp_glo (gc_MOST_TEST T)) (ja_nil)))))))))))) (js_cons (j1_ret (je_p (jp_bl)))
 (js_nil)) (js_nil))
 (js_cons (j1_if (jte_p (jt_not (jt_val (jp_fn (fc_is_number T) hr (by first | omega | decide) (ja_cons (jp_ix hr (jp_var 2) (jp_int)) (ja_cons (jp_neg) (ja_cons (jp_op od_sub (jp_var 1) (jp_int)) (ja_nil)))))))) (js_cons (j1_ret (je_p (jp_bl)))
 (js_nil)) (js_nil))
 (js_nil))))
 (js_cons (j1_ret (je_p (jp_cmp (od_eq hr) (jp_ix hr (jp_ix hr (jp_var 0) (jp_neg)) (jp_int)) (jp_int))))
 (js_nil))) : JS _ _ (b_are_goes cs)))
/-! is_row -/
noncomputable def b_is_row (cs : Cs) : SV := sSeq (sIf (tP' (tOr' (tNot' (tB' (pIsi "tuple" (pVar 0)))) (tOr' (tB' (pOp dLt (pCall dLen (aCons (pVar 0) (aNil))) (pC (.int 2)))) (tOr' (tNot' (tB' (pFn (d_is_number cs) (aCons (pOp dIx (pVar 0) (pC (.int 0))) (aCons (pC (.int 0)) (aCons (pC (.int 1999)) (aNil))))))) (tNot' (tB' (pIsi "str" (pOp dIx (pVar 0) (pC (.int 1)))))))))) (sSeq (sRet (eP (pC (.bl false))))
 (sNil)) (sNil))
 (sSeq (sSet 1 (eP (pFn (d_shape_of cs) (aCons (pOp dIx (pVar 0) (pC (.int 1))) (aNil)))))
 (sSeq (sIf (tP' (tOr' (tB' (pOp dIs (pVar 1) (pC .non))) (tB' (pOp dNe (pCall dLen (aCons (pVar 0) (aNil))) (pOp dAdd (pCall dLen (aCons (pVar 1) (aNil))) (pC (.int 2))))))) (sSeq (sRet (eP (pC (.bl false))))
 (sNil)) (sNil))
 (sSeq (sIf (tV (eOp dNe (eLc (List.map (·.2) [("kind", 2), ("part", 3)]) (.tup [2, 3]) (iZp (pVar 1) (pSl (pVar 0) (oE (pC (.int 2))) (oNo))) (tP' (tNot' (tB' (pFn (d_is_number cs) (aCons (pVar 3) (aCons (pCall dInt (aCons (pOp dEq (pVar 2) (pC (.str "p"))) (aNil))) (aCons (pOp dIx (pC (.tab tab_MOSTS)) (pVar 2)) (aNil)))))))) (eNm 3)) (eP (pLst (aNil))))) (sSeq (sRet (eP (pC (.bl false))))
 (sNil)) (sNil))
 (sSeq (sRet (eP (pOr (pOp dNe (pOp dIx (pVar 0) (pC (.int 1))) (pC (.str "test"))) (pOp dNe (pOp dIx (pVar 0) (pC (.int 2))) (pOp dIx (pVar 0) (pC (.int 3)))))))
 (sNil)))))
noncomputable def d_is_row (cs : Cs) : Den := ((mkDen 3 (b_is_row cs)).arity 1)
theorem fc_is_row (T : Txt w K mg cs) : Fc P w K mg base 2 "is_row" (spD ⟨K, w⟩ (d_is_row cs)) := by
  obtain ⟨f, fd, F, g⟩ := T.f_is_row
  exact (fcD F g bd_is_row sc_is_row (p := b_is_row cs) fun cdv A outer s H E hr => (js_cons (j1_if (jte_p (jt_w (jw_or (jt_not (jt_val (jp_isi bt_tuple T.b_isinstance T.b_tuple (jp_var 0)))) (jw_or (jt_cmp od_lt (jp_callB cd_len T.b_len PySem.boot_len (ja_cons (jp_var 0) (ja_nil))) (jp_int)) (jw_or (jt_not (jt_val (jp_fn (fc_is_number T) hr (by first | omega | decide) (ja_cons (jp_ix hr (jp_var 0) (jp_int)) (ja_cons (jp_int) (ja_cons (jp_glo (gc_MOST_TEST T)) (ja_nil))))))) (jw_or1 (jt_not (jt_val (jp_isi bt_str T.b_isinstance T.b_str (jp_ix hr (jp_var 0) (jp_int))))))))))) (js_cons (j1_ret (je_p (jp_bl)))
 (js_nil)) (js_nil))
 (js_cons (j1_set (i := 1) sc_is_row.nd (je_p (jp_fn (fc_shape_of T) hr (by first | omega | decide) (ja_cons (jp_ix hr (jp_var 0) (jp_int)) (ja_nil)))))
 (js_cons (j1_if (jte_p (jt_w (jw_or (jt_cmp od_is (jp_var 1) (jp_non)) (jw_or1 (jt_cmp (od_ne hr) (jp_callB cd_len T.b_len PySem.boot_len (ja_cons (jp_var 0) (ja_nil))) (jp_op od_add (jp_callB cd_len T.b_len PySem.boot_len (ja_cons (jp_var 1) (ja_nil))) (jp_int))))))) (js_cons (j1_ret (je_p (jp_bl)))
 (js_nil)) (js_nil))
 (js_cons (j1_if (jte_cmp (od_ne hr) (je_lc1 [("kind", 2), ("part", 3)] rfl sc_is_row.nd (blkOk_by (N := N_is_row) (sc := defScope s_is_row) (by decide +kernel)) (fun _ _ _ _ _ => pg_tup rfl (pgs_cons (pg_name (i := 2) sc_is_row.nd rfl (by first | exact Or.inl rfl | exact Or.inr rfl) (by first | exact .inr rfl | exact .inl rfl)) (pgs_cons (pg_name (i := 3) sc_is_row.nd rfl (by first | exact Or.inl rfl | exact Or.inr rfl) (by first | exact .inr rfl | exact .inl rfl)) (pgs_nil)))) (ji_zp T.b_zip (jp_var 1) (jp_sl (jp_var 0) (jo_e (jp_int)) (jo_no))) (fun _ _ _ _ _ => jte_p (jt_not (jt_val (jp_fn (fc_is_number T) hr (by first | omega | decide) (ja_cons (jp_var 3) (ja_cons (jp_callT cd_int T.b_int bt_int (ja_cons (jp_cmp (od_eq hr) (jp_var 2) (jp_str)) (ja_nil))) (ja_cons (jp_ix hr (jp_glo (gc_MOSTS T)) (jp_var 2)) (ja_nil)))))))) (fun _ _ _ _ _ => je_nm 3)) (je_p (jp_lst (ja_nil)))) (js_cons (j1_ret (je_p (jp_bl)))
 (js_nil)) (js_nil))
 (js_cons (j1_ret (je_p (jp_or (jp_cmp (od_ne hr) (jp_ix hr (jp_var 0) (jp_int)) (jp_str)) (jp_one (jp_cmp (od_ne hr) (jp_ix hr (jp_var 0) (jp_int)) (jp_ix hr (jp_var 0) (jp_int)))))))
 (js_nil))))) : JS _ _ (b_is_row cs)))
/-! need_piece -/
noncomputable def b_need_piece (cs : Cs) : SV := sSeq (sIf (tP' (tOr' (tNot' (tB' (pIsi "tuple" (pVar 1)))) (tOr' (tB' (pOp dNe (pCall dLen (aCons (pVar 1) (aNil))) (pC (.int 2)))) (tNot' (tB' (pIsi "tuple" (pOp dIx (pVar 1) (pC (.int 0))))))))) (sSeq (fun _ => none)
 (sNil)) (sNil))
 (sSeq (sIf (tP' (tB' (pOp dGt (pCall dLen (aCons (pOp dIx (pVar 1) (pC (.int 0))) (aNil))) (pC (.int 1500))))) (sSeq (fun _ => none)
 (sNil)) (sNil))
 (sSeq (sFor (.tup [3, 4]) (iEn (pOp dIx (pVar 1) (pC (.int 0)))) (sSeq (sIf (tP' (tNot' (tB' (pFn (d_is_row cs) (aCons (pVar 4) (aNil)))))) (sSeq (fun _ => none)
 (sNil)) (sNil))
 (sNil)))
 (sSeq (sIf (tP' (tNot' (tB' (pFn (d_are_goes cs) (aCons (pOp dIx (pVar 1) (pC (.int 1))) (aCons (pVar 2) (aNil))))))) (sSeq (fun _ => none)
 (sNil)) (sNil))
 (sNil))))
noncomputable def d_need_piece (cs : Cs) : Den := ((mkDen 2 (b_need_piece cs)).arity 3)
theorem fc_need_piece (T : Txt w K mg cs) : Fc P w K mg base 3 "need_piece" (spD ⟨K, w⟩ (d_need_piece cs)) := by
  obtain ⟨f, fd, F, g⟩ := T.f_need_piece
  exact (fcD F g bd_need_piece sc_need_piece (p := b_need_piece cs) fun cdv A outer s H E hr => (js_cons (j1_if (jte_p (jt_w (jw_or (jt_not (jt_val (jp_isi bt_tuple T.b_isinstance T.b_tuple (jp_var 1)))) (jw_or (jt_cmp (od_ne hr) (jp_callB cd_len T.b_len PySem.boot_len (ja_cons (jp_var 1) (ja_nil))) (jp_int)) (jw_or1 (jt_not (jt_val (jp_isi bt_tuple T.b_isinstance T.b_tuple (jp_ix hr (jp_var 1) (jp_int)))))))))) (js_cons (j1_none)
 (js_nil)) (js_nil))
 (js_cons (j1_if (jte_p (jt_cmp od_gt (jp_callB cd_len T.b_len PySem.boot_len (ja_cons (jp_ix hr (jp_var 1) (jp_int)) (ja_nil))) (jp_glo (gc_MOST_ROWS T)))) (js_cons (j1_none)
 (js_nil)) (js_nil))
 (js_cons (j1_for (T := .tup [3, 4]) (pg_tup rfl (pgs_cons (pg_name (i := 3) sc_need_piece.nd rfl (by first | exact Or.inl rfl | exact Or.inr rfl)) (pgs_cons (pg_name (i := 4) sc_need_piece.nd rfl (by first | exact Or.inl rfl | exact Or.inr rfl)) (pgs_nil)))) rfl (ji_en T.b_enumerate (jp_ix hr (jp_var 1) (jp_int))) (js_cons (j1_if (jte_p (jt_not (jt_val (jp_fn (fc_is_row T) hr (by first | omega | decide) (ja_cons (jp_var 4) (ja_nil)))))) (js_cons (j1_none)
 (js_nil)) (js_nil))
 (js_nil)))
 (js_cons (j1_if (jte_p (jt_not (jt_val (jp_fn (fc_are_goes T) hr (by first | omega | decide) (ja_cons (jp_ix hr (jp_var 1) (jp_int)) (ja_cons (jp_var 2) (ja_nil))))))) (js_cons (j1_none)
 (js_nil)) (js_nil))
 (js_nil)))) : JS _ _ (b_need_piece cs)))
/-! need_tested -/
noncomputable def b_need_tested (cs : Cs) : SV := sSeq (sIf (tP' (tOr' (tNot' (tB' (pIsi "tuple" (pVar 0)))) (tB' (pOp dNe (pCall dLen (aCons (pVar 0) (aNil))) (pC (.int 3)))))) (sSeq (fun _ => none)
 (sNil)) (sNil))
 (sSeq (sUnp [1, 2, 3] (eNm 0))
 (sSeq (sIf (tP' (tOr' (tNot' (tB' (pFn (d_is_number cs) (aCons (pVar 1) (aCons (pC (.int 0)) (aCons (pC (.int 3)) (aNil))))))) (tNot' (tB' (pFn (d_is_number cs) (aCons (pVar 2) (aCons (pVar 1) (aCons (pC (.int 99)) (aNil))))))))) (sSeq (fun _ => none)
 (sNil)) (sNil))
 (sSeq (sIf (tP' (tOr' (tNot' (tB' (pIsi "tuple" (pVar 3)))) (tNot' (tB' (pChain dLe dLe (pC (.int 1)) (pCall dLen (aCons (pVar 3) (aNil))) (pC (.int 999))))))) (sSeq (fun _ => none)
 (sNil)) (sNil))
 (sSeq (sFor (.tup [4, 5]) (iEnV 3) (sSeq (sExpr (eP (pFn (d_need_piece cs) (aCons (pVar 4) (aCons (pVar 5) (aCons (pCall dLen (aCons (pVar 3) (aNil))) (aNil)))))))
 (sNil)))
 (sNil)))))
noncomputable def d_need_tested (cs : Cs) : Den := ((mkDen 5 (b_need_tested cs)).arity 1)
theorem fc_need_tested (T : Txt w K mg cs) : Fc P w K mg base 4 "need_tested" (spD ⟨K, w⟩ (d_need_tested cs)) := by
  obtain ⟨f, fd, F, g⟩ := T.f_need_tested
  exact (fcD F g bd_need_tested sc_need_tested (p := b_need_tested cs) fun cdv A outer s H E hr => (js_cons (j1_if (jte_p (jt_w (jw_or (jt_not (jt_val (jp_isi bt_tuple T.b_isinstance T.b_tuple (jp_var 0)))) (jw_or1 (jt_cmp (od_ne hr) (jp_callB cd_len T.b_len PySem.boot_len (ja_cons (jp_var 0) (ja_nil))) (jp_int)))))) (js_cons (j1_none)
 (js_nil)) (js_nil))
 (js_cons (j1_unp (is := [1, 2, 3]) (pg_tup rfl (pgs_cons (pg_name (i := 1) sc_need_tested.nd rfl (by first | exact Or.inl rfl | exact Or.inr rfl)) (pgs_cons (pg_name (i := 2) sc_need_tested.nd rfl (by first | exact Or.inl rfl | exact Or.inr rfl)) (pgs_cons (pg_name (i := 3) sc_need_tested.nd rfl (by first | exact Or.inl rfl | exact Or.inr rfl)) (pgs_nil))))) (je_nm 0))
 (js_cons (j1_if (jte_p (jt_w (jw_or (jt_not (jt_val (jp_fn (fc_is_number T) hr (by first | omega | decide) (ja_cons (jp_var 1) (ja_cons (jp_int) (ja_cons (jp_glo (gc_MOST_INS T)) (ja_nil))))))) (jw_or1 (jt_not (jt_val (jp_fn (fc_is_number T) hr (by first | omega | decide) (ja_cons (jp_var 2) (ja_cons (jp_var 1) (ja_cons (jp_glo (gc_MOST_NAMES T)) (ja_nil))))))))))) (js_cons (j1_none)
 (js_nil)) (js_nil))
 (js_cons (j1_if (jte_p (jt_w (jw_or (jt_not (jt_val (jp_isi bt_tuple T.b_isinstance T.b_tuple (jp_var 3)))) (jw_or1 (jt_not (jt_chain od_le od_le (jp_int) (jp_callB cd_len T.b_len PySem.boot_len (ja_cons (jp_var 3) (ja_nil))) (jp_glo (gc_MOST_PIECES T)))))))) (js_cons (j1_none)
 (js_nil)) (js_nil))
 (js_cons (j1_for (T := .tup [4, 5]) (pg_tup rfl (pgs_cons (pg_name (i := 4) sc_need_tested.nd rfl (by first | exact Or.inl rfl | exact Or.inr rfl)) (pgs_cons (pg_name (i := 5) sc_need_tested.nd rfl (by first | exact Or.inl rfl | exact Or.inr rfl)) (pgs_nil)))) rfl (ji_enV 3 T.b_enumerate) (js_cons (j1_expr (je_p (jp_fn (fc_need_piece T) hr (by first | omega | decide) (ja_cons (jp_var 4) (ja_cons (jp_var 5) (ja_cons (jp_callB cd_len T.b_len PySem.boot_len (ja_cons (jp_var 3) (ja_nil))) (ja_nil)))))))
 (js_nil)))
 (js_nil))))) : JS _ _ (b_need_tested cs)))
/-! reads -/
noncomputable def b_reads_C1 (cs : Cs) : ET := tP' (tB' (pOp dEq (pVar 1) (pC (.str "r"))))
noncomputable def b_reads_E1 (cs : Cs) : EV := eNm 2
noncomputable def b_reads (cs : Cs) : SV := sSeq (sRet (eLc (List.map (·.2) [("kind", 1), ("part", 2)]) (.tup [1, 2]) (iZp (pFn (d_shape_of cs) (aCons (pOp dIx (pVar 0) (pC (.int 1))) (aNil))) (pSl (pVar 0) (oE (pC (.int 2))) (oNo))) (b_reads_C1 cs) (b_reads_E1 cs)))
 (sNil)
noncomputable def d_reads (cs : Cs) : Den := ((mkDen 2 (b_reads cs)).arity 1)
theorem fc_reads (T : Txt w K mg cs) : Fc P w K mg base 2 "reads" (spD ⟨K, w⟩ (d_reads cs)) := by
  obtain ⟨f, fd, F, g⟩ := T.f_reads
  exact (fcD F g bd_reads sc_reads (p := b_reads cs) fun cdv A outer s H E hr => (js_cons (j1_ret (je_lc1 [("kind", 1), ("part", 2)] rfl sc_reads.nd (blkOk_by (N := N_reads) (sc := defScope s_reads) (by decide +kernel)) (fun _ _ _ _ _ => pg_tup rfl (pgs_cons (pg_name (i := 1) sc_reads.nd rfl (by first | exact Or.inl rfl | exact Or.inr rfl) (by first | exact .inr rfl | exact .inl rfl)) (pgs_cons (pg_name (i := 2) sc_reads.nd rfl (by first | exact Or.inl rfl | exact Or.inr rfl) (by first | exact .inr rfl | exact .inl rfl)) (pgs_nil)))) (ji_zp T.b_zip (jp_fn (fc_shape_of T) hr (by first | omega | decide) (ja_cons (jp_ix hr (jp_var 0) (jp_int)) (ja_nil))) (jp_sl (jp_var 0) (jo_e (jp_int)) (jo_no))) (fun _ _ _ _ _ => jte_p (jt_cmp (od_eq hr) (jp_var 1) (jp_str))) (fun _ _ _ _ _ => je_nm 2)))
 (js_nil) : JS _ _ (b_reads cs)))
/-! lean -/
noncomputable def b_lean_C1 (cs : Cs) : ET := tP' (tNot' (tB' (pFn (d_is_idle cs) (aCons (pVar 5) (aCons (pVar 8) (aCons (pVar 2) (aNil)))))))
noncomputable def b_lean_E1 (cs : Cs) : EV := eNm 5
noncomputable def b_lean_L1 (cs : Cs) : SV := sSeq (sExpr (eAppN 7 (eTup (eaCons (eCall dTuple (eaCons (eLc (List.map (·.2) [("row", 5)]) (.one 5) (iP (pOp dIx (pVar 8) (pC (.int 0)))) (b_lean_C1 cs) (b_lean_E1 cs)) (eaNil))) (eaCons (eP (pOp dIx (pVar 8) (pC (.int 1)))) (eaNil))))))
 (sNil)
noncomputable def b_lean_E2 (cs : Cs) : EV := eP (pTup (aCons (pVar 6) (aCons (pC (.bl true)) (aNil))))
noncomputable def b_lean_L2 (cs : Cs) : SV := sSeq (sExpr (eUpdN 2 (eCall dDict (eaCons (eLc (List.map (·.2) [("one", 6)]) (.one 6) (iP (pFn (d_reads cs) (aCons (pVar 5) (aNil)))) (tYes') (b_lean_E2 cs)) (eaNil)))))
 (sNil)
noncomputable def b_lean_T1 (cs : Cs) : ET := tP' (tB' (pC (.bl true)))
noncomputable def b_lean_L3 (cs : Cs) : SV := sSeq (sSet 2 (eP (pC (.dic []))))
 (sSeq (sFor (.tup [3, 4, 5]) (iP (pFn (d_all_rows cs) (aCons (pVar 1) (aNil)))) (b_lean_L2 cs))
 (sSeq (sSet 7 (eP (pLst (aNil))))
 (sSeq (sFor (.one 8) (iW 1) (b_lean_L1 cs))
 (sSeq (sIf (tP' (tB' (pOp dEq (pCall dTuple (aCons (pVar 7) (aNil))) (pVar 1)))) (sSeq (sRet (eP (pTup (aCons (pOp dIx (pVar 0) (pC (.int 0))) (aCons (pOp dIx (pVar 0) (pC (.int 1))) (aCons (pVar 1) (aNil)))))))
 (sNil)) (sNil))
 (sSeq (sSet 1 (eP (pCall dTuple (aCons (pVar 7) (aNil)))))
 (sNil))))))
noncomputable def b_lean (cs : Cs) : SV := sSeq (sExpr (eP (pFn (d_need_tested cs) (aCons (pVar 0) (aNil)))))
 (sSeq (sSet 1 (eP (pOp dIx (pVar 0) (pC (.int 2)))))
 (sSeq (sWhile (b_lean_T1 cs) (b_lean_L3 cs))
 (sNil)))
noncomputable def d_lean (cs : Cs) : Den := ((mkDen 8 (b_lean cs)).arity 1)
theorem fc_lean (T : Txt w K mg cs) : Fc P w K mg base 5 "lean" (spD ⟨K, w⟩ (d_lean cs)) := by
  obtain ⟨f, fd, F, g⟩ := T.f_lean
  exact (fcD F g bd_lean sc_lean (p := b_lean cs) fun cdv A outer s H E hr => (js_cons (j1_expr (je_p (jp_fn (fc_need_tested T) hr (by first | omega | decide) (ja_cons (jp_var 0) (ja_nil)))))
 (js_cons (j1_set (i := 1) sc_lean.nd (je_p (jp_ix hr (jp_var 0) (jp_int))))
 (js_cons (j1_while (jte_p (jt_val (jp_bl))) (js_cons (j1_set (i := 2) sc_lean.nd (je_p (jp_dnew)))
 (js_cons (j1_for (T := .tup [3, 4, 5]) (pg_tup rfl (pgs_cons (pg_name (i := 3) sc_lean.nd rfl (by first | exact Or.inl rfl | exact Or.inr rfl)) (pgs_cons (pg_name (i := 4) sc_lean.nd rfl (by first | exact Or.inl rfl | exact Or.inr rfl)) (pgs_cons (pg_name (i := 5) sc_lean.nd rfl (by first | exact Or.inl rfl | exact Or.inr rfl)) (pgs_nil))))) rfl (ji_p (jp_fn (fc_all_rows T) hr (by first | omega | decide) (ja_cons (jp_var 1) (ja_nil)))) (js_cons (j1_expr (je_updN 2 (je_callT (cd_dict rfl) T.b_dict bt_dict (jea_cons (je_lc0 [("one", 6)] rfl sc_lean.nd (blkOk_by (N := N_lean) (sc := defScope s_lean) (by decide +kernel)) (fun _ _ _ _ _ => pg_name (i := 6) sc_lean.nd rfl (by first | exact Or.inl rfl | exact Or.inr rfl) (by first | exact .inr rfl | exact .inl rfl)) (ji_p (jp_fn (fc_reads T) hr (by first | omega | decide) (ja_cons (jp_var 5) (ja_nil)))) (fun _ _ _ _ _ => je_p (jp_tup (ja_cons (jp_var 6) (ja_cons (jp_bl) (ja_nil)))))) (jea_nil)))))
 (js_nil)))
 (js_cons (j1_set (i := 7) sc_lean.nd (je_p (jp_lst (ja_nil))))
 (js_cons (j1_for (T := .one 8) (pg_name (i := 8) sc_lean.nd rfl (by first | exact Or.inl rfl | exact Or.inr rfl)) rfl (ji_w 1) (js_cons (j1_expr (je_appN 7 (n := 0) (je_tup (jea_cons (je_callT cd_tuple T.b_tuple bt_tuple (jea_cons (je_lc1 [("row", 5)] rfl sc_lean.nd (blkOk_by (N := N_lean) (sc := defScope s_lean) (by decide +kernel)) (fun _ _ _ _ _ => pg_name (i := 5) sc_lean.nd rfl (by first | exact Or.inl rfl | exact Or.inr rfl) (by first | exact .inr rfl | exact .inl rfl)) (ji_p (jp_ix hr (jp_var 8) (jp_int))) (fun _ _ _ _ _ => jte_p (jt_not (jt_val (jp_fn (fc_is_idle T) hr (by first | omega | decide) (ja_cons (jp_var 5) (ja_cons (jp_var 8) (ja_cons (jp_var 2) (ja_nil)))))))) (fun _ _ _ _ _ => je_nm 5)) (jea_nil))) (jea_cons (je_p (jp_ix hr (jp_var 8) (jp_int))) (jea_nil))))))
 (js_nil)))
 (js_cons (j1_if (jte_p (jt_cmp (od_eq hr) (jp_callT cd_tuple T.b_tuple bt_tuple (ja_cons (jp_var 7) (ja_nil))) (jp_var 1))) (js_cons (j1_ret (je_p (jp_tup (ja_cons (jp_ix hr (jp_var 0) (jp_int)) (ja_cons (jp_ix hr (jp_var 0) (jp_int)) (ja_cons (jp_var 1) (ja_nil)))))))
 (js_nil)) (js_nil))
 (js_cons (j1_set (i := 1) sc_lean.nd (je_p (jp_callT cd_tuple T.b_tuple bt_tuple (ja_cons (jp_var 7) (ja_nil)))))
 (js_nil))))))))
 (js_nil))) : JS _ _ (b_lean cs)))
/-! law -/
noncomputable def b_law_L1 (cs : Cs) : SV := sSeq (sPar 13 14 (eaCons (eFn (d__law_any_handed cs) (gN 1 (gE (eP (pOp dIx (pVar 3) (pC (.int 0)))) (gNil')))) (eaCons (eFn (d__law_next cs) (gN 1 (gE (eP (pC (.int 30))) (gNil')))) (eaNil))))
 (sSeq (sPar 15 16 (eaCons (eP (pFn (d__law_machine cs) (aCons (pVar 3) (aCons (pVar 13) (aCons (pVar 14) (aNil)))))) (eaCons (eP (pFn (d__law_machine cs) (aCons (pVar 4) (aCons (pVar 13) (aCons (pVar 14) (aNil)))))) (eaNil))))
 (sSeq (sIf (tP' (tOr' (tB' (pOp dNe (pOp dIx (pVar 15) (pC (.int 0))) (pOp dIx (pVar 16) (pC (.int 0))))) (tOr' (tB' (pOp dLt (pOp dIx (pOp dIx (pVar 15) (pC (.int 1))) (pC (.int 0))) (pOp dIx (pOp dIx (pVar 16) (pC (.int 1))) (pC (.int 0))))) (tB' (pOp dLt (pOp dIx (pOp dIx (pVar 15) (pC (.int 1))) (pC (.int 1))) (pOp dIx (pOp dIx (pVar 16) (pC (.int 1))) (pC (.int 1)))))))) (sSeq (sRet (eP (pC (.bl false))))
 (sNil)) (sNil))
 (sNil)))
noncomputable def b_law_L2 (cs : Cs) : SV := sSeq (sSet 3 (eFn (d__law_some_tested cs) (gN 1 (gE (eOp dIx (eP (pLst (aCons (pC (.int 8)) (aCons (pC (.int 18)) (aNil))))) (eFn (d__law_next cs) (gN 1 (gE (eP (pC (.int 2))) (gNil'))))) (gNil')))))
 (sSeq (sSet 4 (eP (pFn (d_lean cs) (aCons (pVar 3) (aNil)))))
 (sSeq (sIf (tP' (tOr' (tB' (pOp dIsNot (pFn (d__law_bad_tested cs) (aCons (pVar 4) (aNil))) (pC .non))) (tB' (pOp dNe (pFn (d_lean cs) (aCons (pVar 4) (aNil))) (pVar 4))))) (sSeq (sRet (eP (pC (.bl false))))
 (sNil)) (sNil))
 (sSeq (sSet 5 (eFn (d__law_next cs) (gN 1 (gE (eP (pCall dLen (aCons (pOp dIx (pVar 3) (pC (.int 2))) (aNil)))) (gNil')))))
 (sSeq (sUnp [6, 7] (eP (pOp dIx (pOp dIx (pVar 3) (pC (.int 2))) (pVar 5))))
 (sSeq (sSet 8 (eFn (d__law_next cs) (gN 1 (gE (eP (pOp dAdd (pCall dLen (aCons (pVar 6) (aNil))) (pC (.int 1)))) (gNil')))))
 (sSeq (sSet 9 (eOp dIx (eP (pLst (aCons (pTup (aCons (pC (.int 0)) (aCons (pC (.str "num")) (aCons (pC (.int 1500)) (aCons (pC (.int 7)) (aNil)))))) (aCons (pTup (aCons (pC (.int 0)) (aCons (pC (.str "test")) (aCons (pC (.int 1700)) (aCons (pC (.int 1701)) (aCons (pC (.int 0)) (aNil))))))) (aCons (pTup (aCons (pC (.int 1700)) (aCons (pC (.str "add")) (aCons (pC (.int 1501)) (aCons (pC (.int 0)) (aCons (pC (.int 0)) (aNil))))))) (aNil)))))) (eFn (d__law_next cs) (gN 1 (gE (eP (pC (.int 3))) (gNil'))))))
 (sSeq (sSet 10 (eP (pTup (aCons (pOp dAdd (pOp dAdd (pSl (pVar 6) (oNo) (oE (pVar 8))) (pTup (aCons (pVar 9) (aNil)))) (pSl (pVar 6) (oE (pVar 8)) (oNo))) (aCons (pVar 7) (aNil))))))
 (sSeq (sSet 11 (eP (pTup (aCons (pOp dIx (pVar 3) (pC (.int 0))) (aCons (pOp dIx (pVar 3) (pC (.int 1))) (aCons (pOp dAdd (pOp dAdd (pSl (pOp dIx (pVar 3) (pC (.int 2))) (oNo) (oE (pVar 5))) (pTup (aCons (pVar 10) (aNil)))) (pSl (pOp dIx (pVar 3) (pC (.int 2))) (oE (pOp dAdd (pVar 5) (pC (.int 1)))) (oNo))) (aNil)))))))
 (sSeq (sIf (tP' (tAnd' (tB' (pOp dEq (pOp dIx (pVar 9) (pC (.int 0))) (pC (.int 0)))) (tB' (pOp dNe (pFn (d_lean cs) (aCons (pVar 11) (aNil))) (pVar 4))))) (sSeq (sRet (eP (pC (.bl false))))
 (sNil)) (sNil))
 (sSeq (sFor (.one 12) (iR1 (eaCons (eP (pC (.int 4))) (eaNil))) (b_law_L1 cs))
 (sNil)))))))))))
noncomputable def b_law (cs : Cs) : SV := sSeq (sSet 1 (eP (pFn (d__law_dice cs) (aCons (pVar 0) (aNil)))))
 (sSeq (sFor (.one 2) (iR1 (eaCons (eP (pC (.int 4))) (eaNil))) (b_law_L2 cs))
 (sSeq (sRet (eP (pC (.bl true))))
 (sNil)))
noncomputable def d_law (cs : Cs) : Den := ((mkDen 16 (b_law cs)).arity 1)
theorem ok_law (T : Txt w K mg cs) {f : Addr} {fd : FuncData} (F : Fn K "law" "law" s_law f fd) : FnOk P w K mg base CX0 6 f fd ["_law_script"] (spD ⟨K, w⟩ (d_law cs)) :=
  fnD F sc_law (p := b_law cs) fun cdv A outer s H E hr => (js_cons (j1_set (i := 1) sc_law.nd (je_p (jp_fn (fc__law_dice T) hr (by first | omega | decide) (ja_cons (jp_var 0) (ja_nil)))))
 (js_cons (j1_for (T := .one 2) (pg_name (i := 2) sc_law.nd rfl (by first | exact Or.inl rfl | exact Or.inr rfl)) rfl (ji_r1 T.b_range (jea_cons (je_p (jp_int)) (jea_nil))) (js_cons (j1_set (i := 3) sc_law.nd (je_fn (fc__law_some_tested T) hr (by first | omega | decide) (jg_n 1 (jg_e (je_ix hr (je_p (jp_lst (ja_cons (jp_int) (ja_cons (jp_int) (ja_nil))))) (je_fn (fc__law_next T) hr (by first | omega | decide) (jg_n 1 (jg_e (je_p (jp_int)) (jg_nil))))) (jg_nil)))))
 (js_cons (j1_set (i := 4) sc_law.nd (je_p (jp_fn (fc_lean T) hr (by first | omega | decide) (ja_cons (jp_var 3) (ja_nil)))))
 (js_cons (j1_if (jte_p (jt_w (jw_or (jt_cmp od_isNot (jp_fn (fc__law_bad_tested T) hr (by first | omega | decide) (ja_cons (jp_var 4) (ja_nil))) (jp_non)) (jw_or1 (jt_cmp (od_ne hr) (jp_fn (fc_lean T) hr (by first | omega | decide) (ja_cons (jp_var 4) (ja_nil))) (jp_var 4)))))) (js_cons (j1_ret (je_p (jp_bl)))
 (js_nil)) (js_nil))
 (js_cons (j1_set (i := 5) sc_law.nd (je_fn (fc__law_next T) hr (by first | omega | decide) (jg_n 1 (jg_e (je_p (jp_callB cd_len T.b_len PySem.boot_len (ja_cons (jp_ix hr (jp_var 3) (jp_int)) (ja_nil)))) (jg_nil)))))
 (js_cons (j1_unp (is := [6, 7]) (pg_tup rfl (pgs_cons (pg_name (i := 6) sc_law.nd rfl (by first | exact Or.inl rfl | exact Or.inr rfl)) (pgs_cons (pg_name (i := 7) sc_law.nd rfl (by first | exact Or.inl rfl | exact Or.inr rfl)) (pgs_nil)))) (je_p (jp_ix hr (jp_ix hr (jp_var 3) (jp_int)) (jp_var 5))))
 (js_cons (j1_set (i := 8) sc_law.nd (je_fn (fc__law_next T) hr (by first | omega | decide) (jg_n 1 (jg_e (je_p (jp_op od_add (jp_callB cd_len T.b_len PySem.boot_len (ja_cons (jp_var 6) (ja_nil))) (jp_int))) (jg_nil)))))
 (js_cons (j1_set (i := 9) sc_law.nd (je_ix hr (je_p (jp_lst (ja_cons (jp_tup (ja_cons (jp_int) (ja_cons (jp_str) (ja_cons (jp_int) (ja_cons (jp_int) (ja_nil)))))) (ja_cons (jp_tup (ja_cons (jp_int) (ja_cons (jp_str) (ja_cons (jp_int) (ja_cons (jp_int) (ja_cons (jp_int) (ja_nil))))))) (ja_cons (jp_tup (ja_cons (jp_int) (ja_cons (jp_str) (ja_cons (jp_int) (ja_cons (jp_int) (ja_cons (jp_int) (ja_nil))))))) (ja_nil)))))) (je_fn (fc__law_next T) hr (by first | omega | decide) (jg_n 1 (jg_e (je_p (jp_int)) (jg_nil))))))
 (js_cons (j1_set (i := 10) sc_law.nd (je_p (jp_tup (ja_cons (jp_op od_add (jp_op od_add (jp_sl (jp_var 6) (jo_no) (jo_e (jp_var 8))) (jp_tup (ja_cons (jp_var 9) (ja_nil)))) (jp_sl (jp_var 6) (jo_e (jp_var 8)) (jo_no))) (ja_cons (jp_var 7) (ja_nil))))))
 (js_cons (j1_set (i := 11) sc_law.nd (je_p (jp_tup (ja_cons (jp_ix hr (jp_var 3) (jp_int)) (ja_cons (jp_ix hr (jp_var 3) (jp_int)) (ja_cons (jp_op od_add (jp_op od_add (jp_sl (jp_ix hr (jp_var 3) (jp_int)) (jo_no) (jo_e (jp_var 5))) (jp_tup (ja_cons (jp_var 10) (ja_nil)))) (jp_sl (jp_ix hr (jp_var 3) (jp_int)) (jo_e (jp_op od_add (jp_var 5) (jp_int))) (jo_no))) (ja_nil)))))))
 (js_cons (j1_if (jte_p (jt_w (jw_and (jt_cmp (od_eq hr) (jp_ix hr (jp_var 9) (jp_int)) (jp_int)) (jw_and1 (jt_cmp (od_ne hr) (jp_fn (fc_lean T) hr (by first | omega | decide) (ja_cons (jp_var 11) (ja_nil))) (jp_var 4)))))) (js_cons (j1_ret (je_p (jp_bl)))
 (js_nil)) (js_nil))
 (js_cons (j1_for (T := .one 12) (pg_name (i := 12) sc_law.nd rfl (by first | exact Or.inl rfl | exact Or.inr rfl)) rfl (ji_r1 T.b_range (jea_cons (je_p (jp_int)) (jea_nil))) (js_cons (j1_par (i := 13) (j := 14) rfl sc_law.nd (jea_cons (je_fn (fc__law_any_handed T) hr (by first | omega | decide) (jg_n 1 (jg_e (je_p (jp_ix hr (jp_var 3) (jp_int))) (jg_nil)))) (jea_cons (je_fn (fc__law_next T) hr (by first | omega | decide) (jg_n 1 (jg_e (je_p (jp_int)) (jg_nil)))) (jea_nil))))
 (js_cons (j1_par (i := 15) (j := 16) rfl sc_law.nd (jea_cons (je_p (jp_fn (fc__law_machine T) hr (by first | omega | decide) (ja_cons (jp_var 3) (ja_cons (jp_var 13) (ja_cons (jp_var 14) (ja_nil)))))) (jea_cons (je_p (jp_fn (fc__law_machine T) hr (by first | omega | decide) (ja_cons (jp_var 4) (ja_cons (jp_var 13) (ja_cons (jp_var 14) (ja_nil)))))) (jea_nil))))
 (js_cons (j1_if (jte_p (jt_w (jw_or (jt_cmp (od_ne hr) (jp_ix hr (jp_var 15) (jp_int)) (jp_ix hr (jp_var 16) (jp_int))) (jw_or (jt_cmp od_lt (jp_ix hr (jp_ix hr (jp_var 15) (jp_int)) (jp_int)) (jp_ix hr (jp_ix hr (jp_var 16) (jp_int)) (jp_int))) (jw_or1 (jt_cmp od_lt (jp_ix hr (jp_ix hr (jp_var 15) (jp_int)) (jp_int)) (jp_ix hr (jp_ix hr (jp_var 16) (jp_int)) (jp_int)))))))) (js_cons (j1_ret (je_p (jp_bl)))
 (js_nil)) (js_nil))
 (js_nil)))))
 (js_nil)))))))))))))
 (js_cons (j1_ret (je_p (jp_bl)))
 (js_nil))) : JS _ _ (b_law cs))
-- the law stands at 6
end
end Kt
set_option Elab.async false
set_option linter.all false
set_option maxRecDepth 100000
set_option maxHeartbeats 4000000
/-! data are compared -/
namespace Dn
open PySem PySem.Spec PyProof.Rows L2 Tr
mutual
/-- data that are like each other just if they are the same: no True, no False -/
def D.nb : D → Bool
  | .non => true
  | .int _ => true
  | .str x => PySem.PyData.strOk x
  | .tup ds => nbL ds
  | .lst ds => nbL ds
  | _ => false
def nbL : List D → Bool
  | [] => true
  | d :: r => d.nb && nbL r
end
mutual
def D.dep : D → Nat
  | .tup ds => depL ds + 1
  | .lst ds => depL ds + 1
  | _ => 0
def depL : List D → Nat
  | [] => 0
  | d :: r => max d.dep (depL r)
end
mutual
theorem nb_py : ∀ (d : D), d.nb = true → ∃ p, d.py = some p ∧ p.canLay0 = true ∧ p.depth = d.dep
  | .non, _ => ⟨_, rfl, rfl, rfl⟩
  | .int i, _ => ⟨_, rfl, rfl, rfl⟩
  | .str x, h => ⟨_, rfl, by simpa [D.nb, PyData.canLay0] using h, rfl⟩
  | .tup ds, h => by
    obtain ⟨ps, h1, h2, h3⟩ := nbL_py ds (by simpa [D.nb] using h)
    exact ⟨.tuple ps, by rw [D.py, h1]; rfl, by rw [PyData.canLay0]; exact h2, by rw [PyData.depth, h3]; rfl⟩
  | .lst ds, h => by
    obtain ⟨ps, h1, h2, h3⟩ := nbL_py ds (by simpa [D.nb] using h)
    exact ⟨.list ps, by rw [D.py, h1]; rfl, by rw [PyData.canLay0]; exact h2, by rw [PyData.depth, h3]; rfl⟩
  | .bl _, h => by simp [D.nb] at h
  | .ptr _, h => by simp [D.nb] at h
  | .frz _, h => by simp [D.nb] at h
  | .tab _, h => by simp [D.nb] at h
  | .gone, h => by simp [D.nb] at h
  | .dic _, h => by simp [D.nb] at h
  | .ins _ _, h => by simp [D.nb] at h
theorem nbL_py : ∀ (ds : List D), nbL ds = true → ∃ ps, pyL ds = some ps ∧ PyData.canLayAll0 ps = true ∧ PyData.depthAll ps = depL ds
  | [], _ => ⟨[], rfl, rfl, rfl⟩
  | d :: r, h => by
    rw [nbL, Bool.and_eq_true] at h
    obtain ⟨p, h1, h2, h3⟩ := nb_py d h.1
    obtain ⟨ps, h4, h5, h6⟩ := nbL_py r h.2
    exact ⟨p :: ps, by rw [pyL, h1, h4], by rw [PyData.canLayAll0, h2, h5]; rfl, by rw [PyData.depthAll, h3, h6, depL]⟩
end
mutual
theorem eqv_iff : ∀ (d e : D) (p q : PyData), d.nb = true → e.nb = true → d.py = some p → e.py = some q → (PyData.eqv p q = true ↔ d = e)
  | .non, e, p, q, _, he, hp, hq => by
    cases hp
    cases e <;> simp [D.nb] at he <;> (try (cases hq; simp [PyData.eqv]; done)) <;> (unfold D.py at hq; cases hx : pyL _ with | none => rw [hx] at hq; cases hq | some ps => rw [hx] at hq; cases hq; simp [PyData.eqv])
  | .int i, e, p, q, _, he, hp, hq => by
    cases hp
    cases e <;> simp [D.nb] at he <;> (try (cases hq; simp [PyData.eqv]; done)) <;> (unfold D.py at hq; cases hx : pyL _ with | none => rw [hx] at hq; cases hq | some ps => rw [hx] at hq; cases hq; simp [PyData.eqv])
  | .str i, e, p, q, _, he, hp, hq => by
    cases hp
    cases e <;> simp [D.nb] at he <;> (try (cases hq; simp [PyData.eqv]; done)) <;> (unfold D.py at hq; cases hx : pyL _ with | none => rw [hx] at hq; cases hq | some ps => rw [hx] at hq; cases hq; simp [PyData.eqv])
  | .tup ds, e, p, q, hd, he, hp, hq => by
    unfold D.py at hp
    cases hx : pyL ds with
    | none => rw [hx] at hp; cases hp
    | some ps =>
      rw [hx] at hp
      cases hp
      cases e with
      | tup es =>
        unfold D.py at hq
        cases hy : pyL es with
        | none => rw [hy] at hq; cases hq
        | some qs =>
          rw [hy] at hq
          cases hq
          rw [PyData.eqv, eqvL_iff ds es ps qs (by simpa [D.nb] using hd) (by simpa [D.nb] using he) hx hy]
          simp
      | lst es =>
        unfold D.py at hq
        cases hy : pyL es with
        | none => rw [hy] at hq; cases hq
        | some qs => rw [hy] at hq; cases hq; simp [PyData.eqv]
      | non => cases hq; simp [PyData.eqv]
      | int _ => cases hq; simp [PyData.eqv]
      | str _ => cases hq; simp [PyData.eqv]
      | _ => simp [D.nb] at he
  | .lst ds, e, p, q, hd, he, hp, hq => by
    unfold D.py at hp
    cases hx : pyL ds with
    | none => rw [hx] at hp; cases hp
    | some ps =>
      rw [hx] at hp
      cases hp
      cases e with
      | lst es =>
        unfold D.py at hq
        cases hy : pyL es with
        | none => rw [hy] at hq; cases hq
        | some qs =>
          rw [hy] at hq
          cases hq
          rw [PyData.eqv, eqvL_iff ds es ps qs (by simpa [D.nb] using hd) (by simpa [D.nb] using he) hx hy]
          simp
      | tup es =>
        unfold D.py at hq
        cases hy : pyL es with
        | none => rw [hy] at hq; cases hq
        | some qs => rw [hy] at hq; cases hq; simp [PyData.eqv]
      | non => cases hq; simp [PyData.eqv]
      | int _ => cases hq; simp [PyData.eqv]
      | str _ => cases hq; simp [PyData.eqv]
      | _ => simp [D.nb] at he
  | .bl _, _, _, _, h, _, _, _ => by simp [D.nb] at h
  | .ptr _, _, _, _, h, _, _, _ => by simp [D.nb] at h
  | .frz _, _, _, _, h, _, _, _ => by simp [D.nb] at h
  | .tab _, _, _, _, h, _, _, _ => by simp [D.nb] at h
  | .gone, _, _, _, h, _, _, _ => by simp [D.nb] at h
  | .dic _, _, _, _, h, _, _, _ => by simp [D.nb] at h
  | .ins _ _, _, _, _, h, _, _, _ => by simp [D.nb] at h
theorem eqvL_iff : ∀ (ds es : List D) (ps qs : List PyData), nbL ds = true → nbL es = true → pyL ds = some ps → pyL es = some qs → (PyData.eqvAll ps qs = true ↔ ds = es)
  | [], [], ps, qs, _, _, hp, hq => by cases hp; cases hq; simp [PyData.eqvAll]
  | [], e :: es, ps, qs, _, _, hp, hq => by
    cases hp
    unfold pyL at hq
    split at hq
    · cases hq; simp [PyData.eqvAll]
    · cases hq
  | d :: ds, [], ps, qs, _, _, hp, hq => by
    cases hq
    unfold pyL at hp
    split at hp
    · cases hp; simp [PyData.eqvAll]
    · cases hp
  | d :: ds, e :: es, ps, qs, hd, he, hp, hq => by
    rw [nbL, Bool.and_eq_true] at hd he
    unfold pyL at hp hq
    split at hp
    · rename_i p ps' h1 h2
      cases hp
      split at hq
      · rename_i q qs' h3 h4
        cases hq
        rw [PyData.eqvAll, Bool.and_eq_true, eqv_iff d e p q hd.1 he.1 h1 h3, eqvL_iff ds es ps' qs' hd.2 he.2 h2 h4]
        simp
      · cases hq
    · cases hp
end
/-- tuples and lists are compared -/
theorem eqB_nb {d e : D} (h : (∃ ds, d = .tup ds) ∨ ∃ ds, d = .lst ds) (hd : d.nb = true) (he : e.nb = true) (d1 : d.dep ≤ 64) (d2 : e.dep ≤ 64) : ∃ b, eqB d e = some b ∧ (b = true ↔ d = e) := by
  obtain ⟨p, p1, p2, p3⟩ := nb_py d hd
  obtain ⟨q, q1, q2, q3⟩ := nb_py e he
  refine ⟨PyData.eqv p q, ?_, eqv_iff d e p q hd he p1 q1⟩
  have : eqB d e = eqPy d e := by
    rcases h with ⟨ds, rfl⟩ | ⟨ds, rfl⟩ <;> cases e <;> rfl
  rw [this]
  unfold eqPy
  rw [p1, q1]
  simp only
  rw [if_pos ⟨by unfold SeqAt.shaped; rw [p2, p3]; simp [d1], by unfold SeqAt.shaped; rw [q2, q3]; simp [d2]⟩]
theorem nbL_map {α : Type} {f : α → D} {xs : List α} (h : ∀ x, (f x).nb = true) : nbL (xs.map f) = true := by
  induction xs with
  | nil => rfl
  | cons x r ih => rw [List.map_cons, nbL, h, ih]; rfl
theorem depL_map {α : Type} {f : α → D} {xs : List α} {n : Nat} (h : ∀ x, (f x).dep ≤ n) : depL (xs.map f) ≤ n := by
  induction xs with
  | nil => exact Nat.zero_le _
  | cons x r ih => rw [List.map_cons, depL]; exact Nat.max_le.2 ⟨h x, ih⟩
@[simp] theorem nb_int {i : Int} : D.nb (.int i) = true := rfl
@[simp] theorem nb_str {i : Str} : D.nb (.str i) = PySem.PyData.strOk i := rfl
@[simp] theorem nb_tup {ds : List D} : D.nb (.tup ds) = nbL ds := rfl
@[simp] theorem nb_lst {ds : List D} : D.nb (.lst ds) = nbL ds := rfl
@[simp] theorem nbL_nil : nbL [] = true := rfl
@[simp] theorem nbL_cons {d : D} {ds : List D} : nbL (d :: ds) = (d.nb && nbL ds) := rfl
@[simp] theorem dep_int {i : Int} : D.dep (.int i) = 0 := rfl
@[simp] theorem dep_str {i : Str} : D.dep (.str i) = 0 := rfl
@[simp] theorem dep_tup {ds : List D} : D.dep (.tup ds) = depL ds + 1 := rfl
@[simp] theorem dep_lst {ds : List D} : D.dep (.lst ds) = depL ds + 1 := rfl
@[simp] theorem depL_nil : depL [] = 0 := rfl
@[simp] theorem depL_cons {d : D} {ds : List D} : depL (d :: ds) = max d.dep (depL ds) := rfl
@[simp] theorem strOk_of {z : String} : PyData.strOk (Str.ofString z) = true := by
  unfold PyData.strOk
  rw [Str.ofString_eq_toList, Array.all_eq_true]
  intro i hi
  simp only [List.getElem_toArray, List.getElem_map, decide_eq_true_eq]
  have h := (z.toList[i]'(by simpa using hi)).valid
  rcases h with h | h
  · exact Nat.lt_trans h (by decide)
  · exact h.2
theorem cut_hi {α : Type} {xs : List α} {n : Nat} : cut xs none (some (n : Int)) = xs.take n := by
  unfold cut
  rw [HT.sIx_nat, HT.sIx_none]
  simp
/-! numbers in a list -/
theorem flatL_ints {xs : List Int} : flatL (xs.map D.int) = some (xs.map V.int) := by
  induction xs with
  | nil => rfl
  | cons x r ih => rw [List.map_cons, flatL, ih]; rfl
@[simp] theorem inSeq_ints {x : Int} {xs : List Int} : inSeq (.int x) (xs.map D.int) = some (decide (x ∈ xs)) := by
  unfold inSeq
  rw [flatL_ints]
  show some (inV (V.int x) (xs.map V.int)) = _
  congr 1
  unfold inV
  induction xs with
  | nil => rfl
  | cons y r ih =>
    rw [List.map_cons, List.any_cons, ih]
    by_cases h : y = x
    · subst h; simp [eqV]
    · have h' : ¬ x = y := fun e => h e.symm
      simp [eqV, h, h']
@[simp] theorem inB_dicI {x : Int} {kvs : List (Key × D)} : inB (.int x) (.dic kvs) = some (glook kvs (.inl x)).isSome := rfl
@[simp] theorem inB_dicS {x : Str} {kvs : List (Key × D)} : inB (.str x) (.dic kvs) = some (glook kvs (.inr x)).isSome := rfl
/-! a comprehension step by step -/
theorem eLc_go {vs : List Nat} {T : Ts} {cond : ET} {elt : EV} {it : IV} {s s1 s2 s3 : S} {ds acc : List D} (hi : it s = some (.ok (ds, true) s1)) (hu : s1.unb vs = some s2) (h : lcGo vs T cond elt ds [] s2 = some (.ok acc s3)) : eLc vs T it cond elt s = some (.ok (.lst acc) s3) := by
  unfold eLc eB
  rw [hi]
  simp only
  rw [if_pos trivial, hu]
  simp only
  rw [h]
end Dn
set_option Elab.async false
set_option linter.all false
set_option maxRecDepth 100000
set_option maxHeartbeats 4000000
/-! rows, pieces, the machine, what can be; no program in sight -/
namespace Kt
open PySem PySem.Spec PyProof.Rows L2 Tr Dn
structure Dc where
  ns : List Int
  i : Nat
  m : Int
  q : Int
def Dc.d (c : Dc) : D := .lst [.frz c.ns, .int c.i, .int c.m, .int c.q]
@[simp] theorem Dc.d_imm {c : Dc} : c.d.imm = false := rfl
def Dc.next (c : Dc) (k : Int) : Int × Dc :=
  if 0 < c.q then (c.q % k, { c with q := c.q / k })
  else if c.i < c.ns.length then
    (c.ns.getD c.i 0 % k, { c with i := c.i + 1, q := if 10 ^ 18 ≤ c.ns.getD c.i 0 then c.ns.getD c.i 0 / k else 0 })
  else
    ((c.m * 48271 % 2147483647) / 7 % k, { c with i := c.i + 1, m := c.m * 48271 % 2147483647 })
@[simp] theorem atI_natC {α : Type} {xs : List α} {i : Nat} : atI xs (i : Int) = xs[i]? := atI_lit
theorem Dc.next_lt {c : Dc} {k : Int} (h : 0 < k) : 0 ≤ (c.next k).1 ∧ (c.next k).1 < k := by
  unfold Dc.next
  split
  · exact ⟨Int.emod_nonneg _ (by omega), Int.emod_lt_of_pos _ h⟩
  · split
    · exact ⟨Int.emod_nonneg _ (by omega), Int.emod_lt_of_pos _ h⟩
    · exact ⟨Int.emod_nonneg _ (by omega), Int.emod_lt_of_pos _ h⟩
inductive Bw | add | take | times | less | same | over | rest
  deriving DecidableEq
def Bw.s : Bw → Str
  | .add => "add" | .take => "take" | .times => "times" | .less => "less" | .same => "same" | .over => "over" | .rest => "rest"
inductive Op
  | num (w n : Int) | copy (w r : Int) | not (w r : Int) | get (w r : Int) | put (r q : Int) | say (r : Int) | stop (r : Int)
  | test (a b r : Int) | bin (k : Bw) (w r q : Int)
def Op.w : Op → Str
  | .num .. => "num" | .copy .. => "copy" | .not .. => "not" | .get .. => "get" | .put .. => "put" | .say .. => "say" | .stop .. => "stop"
  | .test .. => "test" | .bin k .. => k.s
def Op.as : Op → List D
  | .num w n => [.int w, .int n] | .copy w r => [.int w, .int r] | .not w r => [.int w, .int r] | .get w r => [.int w, .int r]
  | .put r q => [.int r, .int q] | .say r => [.int r] | .stop r => [.int r] | .test a b r => [.int a, .int b, .int r]
  | .bin _ w r q => [.int w, .int r, .int q]
def Op.rd : Op → List Int
  | .num .. => [] | .copy _ r => [r] | .not _ r => [r] | .get _ r => [r] | .put r q => [r, q] | .say r => [r] | .stop r => [r]
  | .test _ _ r => [r] | .bin _ _ r q => [r, q]
structure Rw where
  t : Int
  o : Op
def Rw.d (x : Rw) : D := .tup (.int x.t :: .str x.o.w :: x.o.as)
@[simp] theorem Rw.d_imm {x : Rw} : x.d.imm = true := by
  obtain ⟨t, o⟩ := x
  cases o <;> simp [Rw.d, Op.as]
/-! a dict of numbers -/
def dI {α : Type} (f : α → D) (kvs : List (Int × α)) : List (Key × D) := kvs.map fun kv => (.inl kv.1, f kv.2)
@[simp] theorem dI_len {α : Type} {f : α → D} {kvs : List (Int × α)} : (dI f kvs).length = kvs.length := by simp [dI]
@[simp] theorem dI_look {α : Type} {f : α → D} {kvs : List (Int × α)} {k : Int} : glook (dI f kvs) (.inl k) = (glook kvs k).map f := by
  induction kvs with
  | nil => rfl
  | cons x r ih =>
    obtain ⟨k', v⟩ := x
    show (if (Sum.inl k' : Key) = .inl k then some (f v) else glook (dI f r) (.inl k)) = _
    rw [ih, glook_cons]
    by_cases h : k' = k <;> simp [h]
@[simp] theorem dI_put {α : Type} {f : α → D} {kvs : List (Int × α)} {k : Int} {v : α} : gput (dI f kvs) (.inl k) (f v) = dI f (gput kvs k v) := by
  induction kvs with
  | nil => rfl
  | cons x r ih =>
    obtain ⟨k', v'⟩ := x
    show (if (Sum.inl k' : Key) = .inl k then ((Sum.inl k' : Key), f v) :: dI f r else (Sum.inl k', f v') :: gput (dI f r) (.inl k) (f v)) = _
    rw [ih, gput_cons]
    by_cases h : k' = k <;> simp [h, dI]
@[simp] theorem dI_putI {kvs : List (Int × Int)} {k v : Int} : gput (dI D.int kvs) (.inl k) (.int v) = dI D.int (gput kvs k v) := dI_put
@[simp] theorem dI_putB {kvs : List (Int × Bool)} {k : Int} {v : Bool} : gput (dI D.bl kvs) (.inl k) (.bl v) = dI D.bl (gput kvs k v) := dI_put
theorem gput_len {κ α : Type} [DecidableEq κ] {kvs : List (κ × α)} {k : κ} {v : α} : (gput kvs k v).length ≤ kvs.length + 1 := by
  induction kvs with
  | nil => simp
  | cons x r ih =>
    obtain ⟨k', v'⟩ := x
    rw [gput_cons]
    split <;> simp <;> omega
theorem gput_all {κ α : Type} [DecidableEq κ] {P : α → Prop} {kvs : List (κ × α)} {k : κ} {v : α} (h : ∀ x ∈ kvs, P x.2) (hv : P v) : ∀ x ∈ gput kvs k v, P x.2 := by
  induction kvs with
  | nil => intro x hx; simp at hx; subst hx; exact hv
  | cons y r ih =>
    obtain ⟨k', v'⟩ := y
    rw [gput_cons]
    split
    · intro x hx
      rcases List.mem_cons.1 hx with rfl | hx
      · exact hv
      · exact h _ (List.mem_cons_of_mem _ hx)
    · intro x hx
      rcases List.mem_cons.1 hx with rfl | hx
      · exact h _ List.mem_cons_self
      · exact ih (fun x hx => h _ (List.mem_cons_of_mem _ hx)) x hx
theorem glook_all {κ α : Type} [DecidableEq κ] {P : α → Prop} {kvs : List (κ × α)} {k : κ} {v : α} (h : ∀ x ∈ kvs, P x.2) (e : glook kvs k = some v) : P v := by
  induction kvs with
  | nil => cases e
  | cons y r ih =>
    obtain ⟨k', v'⟩ := y
    rw [glook_cons] at e
    split at e
    · cases e; exact h _ List.mem_cons_self
    · exact ih (fun x hx => h _ (List.mem_cons_of_mem _ hx)) e
/-! the machine -/
inductive Fin' | go | worth (n : Int) | over | cell | long
def Fin'.d : Fin' → D
  | .go => .non | .worth n => .tup [.str "worth", .int n] | .over => .tup [.str "fault", .str "over"] | .cell => .tup [.str "fault", .str "cell"]
  | .long => .tup [.str "long"]
@[simp] theorem Fin'.d_imm {f : Fin'} : f.d.imm = true := by cases f <;> rfl
structure Mac where
  regs : List (Int × Int)
  cells : List Int
  tests : List (Int × Bool)
  fuel : Int
  said : List Int
  fin : Fin'
  looked : Nat
  done : Nat
def Mac.held (m : Mac) (p : Int) : Int := (glook m.regs p).getD 0
def Mac.holds (m : Mac) (t : Int) : Bool := (glook m.tests t).getD false
def Mac.setR (m : Mac) (w v : Int) : Mac := { m with regs := gput m.regs w v }
def Bw.res (k : Bw) (x y : Int) : Option Int := match k with
  | .add => some ((x + y) % 10007)
  | .take => some ((x - y) % 10007)
  | .times => some ((x * y) % 10007)
  | .less => some (if x < y then 1 else 0)
  | .same => some (if x = y then 1 else 0)
  | .over => if y = 0 then none else some (x / y)
  | .rest => if y = 0 then none else some (x % y)
def Mac.act (m : Mac) : Op → Mac
  | .num w n => m.setR w n
  | .copy w r => m.setR w (m.held r)
  | .not w r => m.setR w (if m.held r = 0 then 1 else 0)
  | .get w r => if 16 ≤ m.held r then { m with fin := .cell } else m.setR w (m.cells.getD (m.held r).toNat 0)
  | .put r q => if 16 ≤ m.held r then { m with fin := .cell } else { m with cells := m.cells.set (m.held r).toNat (m.held q) }
  | .say r => { m with said := m.said ++ [m.held r] }
  | .stop r => { m with fin := .worth (m.held r) }
  | .test .. => m
  | .bin k w r q => match k.res (m.held r) (m.held q) with
    | none => { m with fin := .over }
    | some v => m.setR w v
/-- numbers that a machine holds -/
def Nb (v : Int) : Prop := 0 ≤ v ∧ v < 10007
structure Mac.Ok (m : Mac) : Prop where
  rg : ∀ x ∈ m.regs, Nb x.2
  cl : ∀ x ∈ m.cells, Nb x
  cn : m.cells.length = 16
  rn : m.regs.length ≤ 3 + m.looked
  tn : m.tests.length ≤ 1 + 2 * m.looked
  sn : m.said.length ≤ m.looked
theorem Mac.Ok.held {m : Mac} (h : m.Ok) (p : Int) : Nb (m.held p) := by
  unfold Mac.held
  cases e : glook m.regs p with
  | none => exact ⟨by decide, by decide⟩
  | some v => exact glook_all (P := Nb) h.rg e
theorem ixN_of {n : Nat} {i : Int} (h0 : 0 ≤ i) (h1 : i < n) : ixN n i = some i.toNat := by
  obtain ⟨k, rfl⟩ := Int.eq_ofNat_of_zero_le h0
  rw [ixN_lit (by omega)]
  simp
theorem atI_of {α : Type} {xs : List α} {i : Int} (h0 : 0 ≤ i) : atI xs i = xs[i.toNat]? := by
  obtain ⟨k, rfl⟩ := Int.eq_ofNat_of_zero_le h0
  rw [atI_lit]
  simp
def Mac.row (m : Mac) (x : Rw) : Mac :=
  let h := m.holds x.t
  let m1 : Mac := { m with looked := m.looked + 1 }
  let m2 : Mac := match x.o with
    | .test a b r => { m1 with tests := gput (gput m1.tests a (h && decide (m.held r ≠ 0))) b (h && decide (m.held r = 0)) }
    | o => if h then m1.act o else m1
  { m2 with done := m2.done + if h then 1 else 0 }
theorem looked_ok {m : Mac} (h : m.Ok) : Mac.Ok { m with looked := m.looked + 1 } :=
  ⟨h.rg, h.cl, h.cn, by have := h.rn; simp; omega, by have := h.tn; simp; omega, by have := h.sn; simp; omega⟩
def Op.Ok : Op → Prop
  | .num _ n => Nb n
  | .test a b _ => a ≠ 0 ∧ b ≠ 0
  | _ => True
theorem Bw.res_ok {k : Bw} {x y v : Int} (hx : Nb x) (hy : Nb y) (e : k.res x y = some v) : Nb v := by
  obtain ⟨hx0, hx1⟩ := hx
  obtain ⟨hy0, hy1⟩ := hy
  have md : ∀ z : Int, Nb (z % 10007) := fun z => ⟨Int.emod_nonneg _ (by decide), Int.emod_lt_of_pos _ (by decide)⟩
  cases k <;> simp only [Bw.res, Option.some.injEq] at e
  · subst e; exact md _
  · subst e; exact md _
  · subst e; exact md _
  · subst e; split <;> exact ⟨by decide, by decide⟩
  · subst e; split <;> exact ⟨by decide, by decide⟩
  · split at e
    · cases e
    · cases e
      exact ⟨Int.ediv_nonneg hx0 hy0, Int.lt_of_le_of_lt (Int.ediv_le_self _ hx0) hx1⟩
  · split at e
    · cases e
    · cases e
      exact ⟨Int.emod_nonneg _ (by omega), Int.lt_trans (Int.emod_lt_of_pos _ (by omega)) hy1⟩
/-- what a row may change, but for counts -/
structure Mac.Ok1 (m m' : Mac) : Prop where
  rg : ∀ x ∈ m'.regs, Nb x.2
  cl : ∀ x ∈ m'.cells, Nb x
  cn : m'.cells.length = 16
  rn : m'.regs.length ≤ m.regs.length + 1
  tn : m'.tests = m.tests
  sn : m'.said.length ≤ m.said.length + 1
  ln : m'.looked = m.looked
  fu : m'.fuel = m.fuel
theorem Mac.Ok1.setR {m : Mac} (h : m.Ok) {w v : Int} (hv : Nb v) : m.Ok1 (m.setR w v) := ⟨gput_all (P := Nb) h.rg hv, h.cl, h.cn, gput_len, rfl, Nat.le_succ _, rfl, rfl⟩
theorem act_ok {m : Mac} {o : Op} (h : m.Ok) (ho : o.Ok) : m.Ok1 (m.act o) := by
  have fin : ∀ f, m.Ok1 { m with fin := f } := fun f => ⟨h.rg, h.cl, h.cn, Nat.le_succ _, rfl, Nat.le_succ _, rfl, rfl⟩
  cases o with
  | num w n => exact .setR h ho
  | copy w r => exact .setR h (h.held r)
  | not w r => exact .setR h (by split <;> exact ⟨by decide, by decide⟩)
  | get w r =>
    rw [Mac.act]
    split
    · exact fin _
    · refine .setR h ?_
      rw [List.getD_eq_getElem?_getD]
      cases e : m.cells[(m.held r).toNat]? with
      | none => exact ⟨by decide, by decide⟩
      | some v => exact h.cl v (List.mem_of_getElem? e)
  | put r q =>
    rw [Mac.act]
    split
    · exact fin _
    · refine ⟨h.rg, fun x hx => ?_, by simp [h.cn], Nat.le_succ _, rfl, Nat.le_succ _, rfl, rfl⟩
      rcases List.mem_or_eq_of_mem_set hx with hx | rfl
      · exact h.cl x hx
      · exact h.held q
  | say r => exact ⟨h.rg, h.cl, h.cn, Nat.le_succ _, rfl, by simp [Mac.act], rfl, rfl⟩
  | stop r => exact fin _
  | test a b r => exact ⟨h.rg, h.cl, h.cn, Nat.le_succ _, rfl, Nat.le_succ _, rfl, rfl⟩
  | bin k w r q =>
    rw [Mac.act]
    cases e : k.res (m.held r) (m.held q) with
    | none => exact fin _
    | some v => exact .setR h (Bw.res_ok (h.held r) (h.held q) e)
theorem row_ok {m : Mac} {x : Rw} (h : m.Ok) (ho : x.o.Ok) : (m.row x).Ok ∧ (m.row x).looked = m.looked + 1 ∧ (m.row x).fuel = m.fuel := by
  obtain ⟨t, o⟩ := x
  by_cases ht : ∃ a b r, o = .test a b r
  · obtain ⟨a, b, r, rfl⟩ := ht
    refine ⟨⟨h.rg, h.cl, h.cn, ?_, ?_, ?_⟩, rfl, rfl⟩
    · have := h.rn; simp [Mac.row]; omega
    · have := h.tn
      simp [Mac.row]
      refine Nat.le_trans gput_len ?_
      have e := gput_len (kvs := m.tests) (k := a) (v := m.holds t && !decide (m.held r = 0))
      omega
    · have := h.sn; simp [Mac.row]; omega
  · have e0 : Mac.row m ⟨t, o⟩ = (let m2 : Mac := if m.holds t then Mac.act { m with looked := m.looked + 1 } o else { m with looked := m.looked + 1 }
      { m2 with done := m2.done + if m.holds t then 1 else 0 }) := by
      cases o with
      | test a b r => exact absurd ⟨a, b, r, rfl⟩ ht
      | _ => rfl
    rw [e0]
    cases m.holds t
    · have k := looked_ok h
      exact ⟨⟨k.rg, k.cl, k.cn, k.rn, k.tn, k.sn⟩, rfl, rfl⟩
    · have k := act_ok (looked_ok h) ho
      refine ⟨⟨k.rg, k.cl, k.cn, ?_, ?_, ?_⟩, k.ln, k.fu⟩
      · have a := k.rn; have b := h.rn; have c := k.ln
        simp at a b c ⊢; omega
      · have a := k.tn; have b := h.tn; have c := k.ln
        simp at a b c ⊢; rw [a, c]; omega
      · have a := k.sn; have b := h.sn; have c := k.ln
        simp at a b c ⊢; omega
def Fin'.isGo : Fin' → Bool
  | .go => true
  | _ => false
@[simp] theorem Fin'.isNon {f : Fin'} : f.d.isNon = some f.isGo := by cases f <;> rfl
def Mac.rows (m : Mac) : List Rw → Mac
  | [] => m
  | x :: r => if (m.row x).fin.isGo then (m.row x).rows r else m.row x
theorem rows_ok : ∀ {rs : List Rw} {m : Mac}, m.Ok → (∀ x ∈ rs, x.o.Ok) → (m.rows rs).Ok ∧ (m.rows rs).looked ≤ m.looked + rs.length ∧ (m.rows rs).fuel = m.fuel
  | [], m, h, _ => ⟨h, Nat.le_refl _, rfl⟩
  | x :: r, m, h, ho => by
    obtain ⟨h1, h2, h3⟩ := row_ok h (ho x List.mem_cons_self)
    unfold Mac.rows
    split
    · obtain ⟨a, b, c⟩ := rows_ok h1 (fun x hx => ho x (List.mem_cons_of_mem _ hx))
      exact ⟨a, by simp; omega, c.trans h3⟩
    · exact ⟨h1, by simp; omega, h3⟩
theorem glook_gput {κ α : Type} [DecidableEq κ] {kvs : List (κ × α)} {k k' : κ} {v : α} : glook (gput kvs k v) k' = if k = k' then some v else glook kvs k' := by
  induction kvs with
  | nil => simp
  | cons y r ih =>
    obtain ⟨k1, v1⟩ := y
    rw [gput_cons]
    by_cases h : k1 = k
    · subst h
      by_cases h2 : k1 = k' <;> simp [h2]
    · rw [if_neg h, glook_cons, ih, glook_cons]
      by_cases h2 : k = k'
      · subst h2; simp [h]
      · simp [h2]
theorem row_zero {m : Mac} {x : Rw} (h : m.holds 0 = true) (ok : m.Ok) (ho : x.o.Ok) : (m.row x).holds 0 = true := by
  obtain ⟨t, o⟩ := x
  by_cases ht : ∃ a b r, o = .test a b r
  · obtain ⟨a, b, r, rfl⟩ := ht
    unfold Mac.holds Mac.row
    simp only [glook_gput]
    rw [if_neg ho.2, if_neg ho.1]
    exact h
  · have e0 : Mac.row m ⟨t, o⟩ = (let m2 : Mac := if m.holds t then Mac.act { m with looked := m.looked + 1 } o else { m with looked := m.looked + 1 }
      { m2 with done := m2.done + if m.holds t then 1 else 0 }) := by
      cases o with
      | test a b r => exact absurd ⟨a, b, r, rfl⟩ ht
      | _ => rfl
    rw [e0]
    cases m.holds t
    · exact h
    · have k := act_ok (looked_ok ok) ho
      have e := k.tn
      show ((glook (Mac.act { m with looked := m.looked + 1 } o).tests 0).getD false) = true
      rw [e]
      exact h
theorem rows_zero : ∀ {rs : List Rw} {m : Mac}, m.holds 0 = true → m.Ok → (∀ x ∈ rs, x.o.Ok) → (m.rows rs).holds 0 = true
  | [], m, h, _, _ => h
  | x :: r, m, h, ok, ho => by
    have k := row_zero h ok (ho x List.mem_cons_self)
    unfold Mac.rows
    split
    · exact rows_zero k (row_ok ok (ho x List.mem_cons_self)).1 (fun x hx => ho x (List.mem_cons_of_mem _ hx))
    · exact k
theorem map_int {xs : List Int} {f : D → Option D} {g : Int → D} (h : ∀ p, f (.int p) = some (g p)) : (xs.map D.int).filterMap f = xs.map g := by
  induction xs with
  | nil => rfl
  | cons x r ih => rw [List.map_cons, List.filterMap_cons, h, ih]; rfl
theorem rd_len {o : Op} : o.rd.length ≤ 2 := by cases o <;> simp [Op.rd]
@[simp] theorem d_worth {n : Int} : Fin'.d (.worth n) = .tup [.str "worth", .int n] := rfl
@[simp] theorem d_long : Fin'.d .long = .tup [.str "long"] := rfl
@[simp] theorem d_go : Fin'.d .go = .non := rfl
def gD (g : Int × Int) : D := .tup [.int g.1, .int g.2]
def Mac.goals (m : Mac) (gs : List (Int × Int)) : List Int := (gs.filter fun g => m.holds g.1).map (·.2)
def Mac.goal (m : Mac) (gs : List (Int × Int)) : Int := (m.goals gs).headD 0
def Mac.through (m : Mac) (n : Int) (rs : List Rw) (gs : List (Int × Int)) : Option Int × Mac :=
  let m1 := Mac.rows { m with tests := [(0, true)] } rs
  if m1.fin.isGo then
    if m1.goal gs = -1 then (none, { m1 with fin := .worth 0 })
    else if m1.goal gs ≤ n then
      if m1.fuel = 0 then (none, { m1 with fin := .long })
      else (some (m1.goal gs), { m1 with fuel := m1.fuel - 1 })
    else (some (m1.goal gs), m1)
  else (none, m1)
def nO : Option Int → D
  | some g => .int g
  | none => .non
def gF (m : Mac) : D → Option D
  | .tup [.int t, .int g] => if m.holds t then some (.int g) else none
  | _ => none
theorem gF_all {m : Mac} {gs : List (Int × Int)} : (gs.map gD).filterMap (gF m) = (m.goals gs).map D.int := by
  unfold Mac.goals
  induction gs with
  | nil => rfl
  | cons g r ih =>
    rw [List.map_cons, List.filterMap_cons, List.filter_cons, ih]
    have e : gF m (gD g) = if m.holds g.1 then some (D.int g.2) else none := rfl
    rw [e]
    cases m.holds g.1 <;> rfl
theorem goals_ne {m : Mac} {gs : List (Int × Int)} {g : Int × Int} (h : m.holds 0 = true) (hg : g ∈ gs) (h0 : g.1 = 0) : m.goals gs = m.goal gs :: (m.goals gs).tail := by
  have hm : g.2 ∈ m.goals gs := List.mem_map.2 ⟨g, List.mem_filter.2 ⟨hg, by rw [h0]; exact h⟩, rfl⟩
  unfold Mac.goal
  cases e : m.goals gs with
  | nil => rw [e] at hm; cases hm
  | cons a r => rfl
def putAll (k : Int) : List Int → List (Int × Int) → List (Int × Int)
  | [], m => m
  | v :: r, m => putAll (k + 1) r (gput m k v)
def start (hs : List Int) (fuel : Int) : Mac := ⟨putAll 0 hs [], List.replicate 16 0, [(0, true)], fuel, [], .go, 0, 0⟩
theorem putAll_len : ∀ {hs : List Int} {k : Int} {m : List (Int × Int)}, (putAll k hs m).length ≤ m.length + hs.length
  | [], _, _ => by simp [putAll]
  | v :: r, k, m => by
    rw [putAll]
    have a := putAll_len (hs := r) (k := k + 1) (m := gput m k v)
    have b := gput_len (kvs := m) (k := k) (v := v)
    simp; omega
theorem putAll_all {P : Int → Prop} : ∀ {hs : List Int} {k : Int} {m : List (Int × Int)}, (∀ v ∈ hs, P v) → (∀ x ∈ m, P x.2) → ∀ x ∈ putAll k hs m, P x.2
  | [], _, _, _, h => h
  | v :: r, k, m, hv, h => by
    rw [putAll]
    exact putAll_all (fun v hv' => hv v (List.mem_cons_of_mem _ hv')) (gput_all h (hv v List.mem_cons_self))
theorem start_ok {hs : List Int} {fuel : Int} (h : ∀ v ∈ hs, Nb v) (hl : hs.length ≤ 3) : (start hs fuel).Ok :=
  ⟨putAll_all h (by simp), by intro x hx; rw [(List.mem_replicate.1 hx).2]; exact ⟨by decide, by decide⟩, by simp [start], by have := putAll_len (hs := hs) (k := 0) (m := []); simp [start] at this ⊢; omega, by simp [start], by simp [start]⟩
structure Piece where
  rs : List Rw
  gs : List (Int × Int)
def Piece.d (p : Piece) : D := .tup [.tup (p.rs.map Rw.d), .tup (p.gs.map gD)]
structure Tst where
  ins : Int
  names : Int
  ps : List Piece
def Tst.d (t : Tst) : D := .tup [.int t.ins, .int t.names, .tup (t.ps.map Piece.d)]
@[simp] theorem immL_map {α : Type} {f : α → D} {xs : List α} (h : ∀ x, (f x).imm = true) : immL (xs.map f) = true := immL_iff.2 fun d hd => by
  obtain ⟨x, _, rfl⟩ := List.mem_map.1 hd
  exact h x
@[simp] theorem gD_imm {g : Int × Int} : (gD g).imm = true := rfl
@[simp] theorem Piece.d_imm {p : Piece} : p.d.imm = true := by
  simp [Piece.d, immL_map (f := Rw.d) fun _ => Rw.d_imm, immL_map (f := gD) fun _ => gD_imm]
@[simp] theorem Tst.d_imm {t : Tst} : t.d.imm = true := by
  simp [Tst.d, immL_map (f := Piece.d) fun _ => Piece.d_imm]
/-- what the machine needs of pieces, L of them, of at most R rows -/
structure PsOk (ps : List Piece) (R : Nat) : Prop where
  rw : ∀ p ∈ ps, ∀ x ∈ p.rs, x.o.Ok
  rn : ∀ p ∈ ps, p.rs.length ≤ R
  gn : ∀ p ∈ ps, p.gs.length ≤ 10000000
  g0 : ∀ p ∈ ps, ∃ g ∈ p.gs, g.1 = 0
  gg : ∀ p ∈ ps, ∀ g ∈ p.gs, -1 ≤ g.2 ∧ g.2 < ps.length
/-- the machine, n pieces long -/
def runM (ps : List Piece) : Nat → Mac → Int → Option Mac
  | 0, _, _ => none
  | n + 1, m, k => match ps[k.toNat]? with
    | none => none
    | some p => match m.through k p.rs p.gs with
      | (none, m') => some m'
      | (some g, m') => runM ps n m' g
theorem goal_mem {m : Mac} {gs : List (Int × Int)} {g : Int × Int} (h : m.holds 0 = true) (hg : g ∈ gs) (h0 : g.1 = 0) : ∃ g' ∈ gs, m.goal gs = g'.2 := by
  have e := goals_ne h hg h0
  have : m.goal gs ∈ m.goals gs := by rw [e]; exact List.mem_cons_self
  obtain ⟨g', h1, h2⟩ := List.mem_map.1 this
  exact ⟨g', (List.mem_filter.1 h1).1, h2.symm⟩
theorem through_ok {m m' : Mac} {n g : Int} {ps : List Piece} {R : Nat} {p : Piece} (po : PsOk ps R) (hp : p ∈ ps) (h : m.Ok) (hg : m.fin.isGo = true) (e : m.through n p.rs p.gs = (some g, m')) :
    m'.Ok ∧ m'.fin.isGo = true ∧ m'.looked ≤ m.looked + R ∧ 0 ≤ g ∧ g < ps.length ∧ ((n < g ∧ m'.fuel = m.fuel) ∨ (g ≤ n ∧ m.fuel ≠ 0 ∧ m'.fuel = m.fuel - 1)) := by
  have h' : Mac.Ok { m with tests := [(0, true)] } := ⟨h.rg, h.cl, h.cn, h.rn, by simp, h.sn⟩
  have k := rows_ok (rs := p.rs) h' (po.rw p hp)
  have z := rows_zero (rs := p.rs) (m := { m with tests := [(0, true)] }) rfl h' (po.rw p hp)
  obtain ⟨g0, g1, g2⟩ := po.g0 p hp
  obtain ⟨g', q1, q2⟩ := goal_mem z g1 g2
  obtain ⟨q3, q4⟩ := po.gg p hp g' q1
  have hn := po.rn p hp
  unfold Mac.through at e
  generalize Mac.rows { m with tests := [(0, true)] } p.rs = M at *
  simp only at e
  obtain ⟨k1, k2, k3⟩ := k
  simp only at k2 k3
  split at e
  · rename_i hf
    split at e
    · cases e
    · rename_i hx
      split at e
      · rename_i hle
        split at e
        · cases e
        · rename_i hfu
          cases e
          refine ⟨⟨k1.rg, k1.cl, k1.cn, k1.rn, k1.tn, k1.sn⟩, hf, by simp; omega, by omega, by omega, .inr ⟨hle, by rw [← k3]; exact hfu, by simp [k3]⟩⟩
      · rename_i hle
        cases e
        exact ⟨k1, hf, by omega, by omega, by omega, .inl ⟨by omega, k3⟩⟩
  · cases e
/-- it ends -/
theorem runM_some {ps : List Piece} {R : Nat} (po : PsOk ps R) : ∀ {n : Nat} {m : Mac} {k : Int}, m.Ok → m.fin.isGo = true → 0 ≤ k → k < ps.length → 0 ≤ m.fuel → m.fuel * ps.length + (ps.length - k) ≤ n → ∃ m', runM ps n m k = some m'
  | 0, m, k, _, _, h0, h1, hf, hn => by
    have : 0 ≤ m.fuel * ps.length := Int.mul_nonneg hf (by omega)
    simp at hn; omega
  | n + 1, m, k, h, hg, h0, h1, hf, hn => by
    obtain ⟨j, rfl⟩ := Int.eq_ofNat_of_zero_le h0
    have hj : j < ps.length := by omega
    have e : ps[j]? = some ps[j] := List.getElem?_eq_getElem hj
    have hp : ps[j] ∈ ps := List.getElem_mem hj
    unfold runM
    simp only [Int.toNat_natCast]
    rw [e]
    simp only
    cases et : m.through (j : Int) ps[j].rs ps[j].gs with
    | mk a m' =>
      cases a with
      | none => exact ⟨m', rfl⟩
      | some g =>
        obtain ⟨a1, a2, a3, a4, a5, a6⟩ := through_ok po hp h hg et
        refine runM_some po a1 a2 a4 a5 ?_ ?_
        · rcases a6 with ⟨_, a7⟩ | ⟨_, a8, a7⟩ <;> omega
        · rcases a6 with ⟨a8, a7⟩ | ⟨a8, a9, a7⟩
          · rw [a7]; push_cast at hn; omega
          · rw [a7, Int.sub_mul, Int.one_mul]
            push_cast at hn
            omega
@[simp] theorem isD_int {T : String} {i : Int} : isD T (.int i) = some (T == "int") := rfl
@[simp] theorem isD_bl {T : String} {i : Bool} : isD T (.bl i) = some (T == "bool" || T == "int") := rfl
@[simp] theorem isD_str {T : String} {i : Str} : isD T (.str i) = some (T == "str") := rfl
@[simp] theorem isD_tup {T : String} {i : List D} : isD T (.tup i) = some (T == "tuple") := rfl
@[simp] theorem isD_lst {T : String} {i : List D} : isD T (.lst i) = some (T == "list") := rfl
@[simp] theorem isD_non {T : String} : isD T .non = some false := rfl
def Rg (v : Int) : Prop := 0 ≤ v ∧ v ≤ 1999
def Tg (v : Int) : Prop := 1 ≤ v ∧ v ≤ 1999
def Op.V : Op → Prop
  | .num w n => Rg w ∧ Nb n
  | .copy w r => Rg w ∧ Rg r
  | .not w r => Rg w ∧ Rg r
  | .get w r => Rg w ∧ Rg r
  | .put w r => Rg w ∧ Rg r
  | .say r => Rg r
  | .stop r => Rg r
  | .test a b r => Tg a ∧ Tg b ∧ a ≠ b ∧ Rg r
  | .bin _ w r q => Rg w ∧ Rg r ∧ Rg q
def Rw.V (x : Rw) : Prop := Rg x.t ∧ x.o.V
theorem Op.V.ok {o : Op} (h : o.V) : o.Ok := by
  cases o <;> first | exact h.2 | (obtain ⟨⟨a, _⟩, ⟨b, _⟩, _⟩ := h; exact ⟨by omega, by omega⟩) | trivial
def Op.sh : Op → Str
  | .num .. => "wn" | .copy .. => "wr" | .not .. => "wr" | .get .. => "wr" | .put .. => "rr" | .say .. => "r" | .stop .. => "r"
  | .test .. => "ppr" | .bin .. => "wrr"
@[simp] theorem lookup_nil' {x : Str} : ([] : List (Str × V)).lookup x = none := rfl
theorem lookup_cons' {x k : Str} {v : V} {r : List (Str × V)} : ((k, v) :: r).lookup x = if x = k then some v else r.lookup x := by
  rw [List.lookup]
  by_cases h : x = k
  · simp [h]
  · have : (x == k) = false := by simp [h]
    rw [this, if_neg h]
theorem sh_items {o : Op} : (o.sh).length = o.as.length ∧ D.items (.str o.sh) = some (match o with
    | .num .. => [.str "w", .str "n"] | .copy .. => [.str "w", .str "r"] | .not .. => [.str "w", .str "r"] | .get .. => [.str "w", .str "r"]
    | .put .. => [.str "r", .str "r"] | .say .. => [.str "r"] | .stop .. => [.str "r"] | .test .. => [.str "p", .str "p", .str "r"] | .bin .. => [.str "w", .str "r", .str "r"]) := by
  cases o <;> exact ⟨rfl, rfl⟩
@[simp] theorem atI_neg1 {α : Type} {xs : List α} : atI xs (-1) = xs.getLast? := by
  unfold atI ixN
  rw [if_neg (by decide)]
  by_cases h : xs = []
  · subst h; simp
  · have hp : 0 < xs.length := List.length_pos_iff.2 h
    split
    · rw [List.getLast?_eq_getElem?]
      show xs[((-1 : Int) + xs.length).toNat]? = _
      congr 1
      omega
    · omega
/-- a walk that leaves the state as it is, but for the slots of its own -/
theorem for_same {T : Ts} {body : SV} {ok : S → Prop} : ∀ {ds : List D} {s : S}, ok s → (∀ d ∈ ds, ∀ s, ok s → ∃ s1 s2, bindT T d s = some s1 ∧ body s1 = some (.nx s2) ∧ ok s2) → ∃ s', ok s' ∧ forGo T body ds s = some (.nx s')
  | [], s, h, _ => ⟨s, h, rfl⟩
  | d :: r, s, h, hb => by
    obtain ⟨s1, s2, h1, h2, h3⟩ := hb d List.mem_cons_self s h
    obtain ⟨s', h4, h5⟩ := for_same h3 (fun d hd => hb d (List.mem_cons_of_mem _ hd))
    refine ⟨s', h4, ?_⟩
    rw [forGo, h1]
    simp only
    rw [h2]
    exact h5
structure GsV (gs : List (Int × Int)) (many : Nat) : Prop where
  n1 : 1 ≤ gs.length
  n8 : gs.length ≤ 8
  ok : ∀ g ∈ gs, Rg g.1 ∧ -1 ≤ g.2 ∧ g.2 < many
  la : ∃ g, gs.getLast? = some g ∧ g.1 = 0
structure Piece.V (p : Piece) (many : Nat) : Prop where
  rn : p.rs.length ≤ 1500
  rw : ∀ x ∈ p.rs, x.V
  gs : GsV p.gs many
theorem enumL_mem : ∀ {ds : List D} {k : Int} {d : D}, d ∈ enumL k ds → ∃ j e, e ∈ ds ∧ d = .tup [.int j, e]
  | [], _, _, h => by cases h
  | e :: r, k, d, h => by
    rw [enumL] at h
    rcases List.mem_cons.1 h with rfl | h
    · exact ⟨k, e, List.mem_cons_self, rfl⟩
    · obtain ⟨j, e', h1, h2⟩ := enumL_mem h
      exact ⟨j, e', List.mem_cons_of_mem _ h1, h2⟩
structure Tst.V (t : Tst) : Prop where
  i0 : 0 ≤ t.ins
  i3 : t.ins ≤ 3
  nm : t.ins ≤ t.names
  n9 : t.names ≤ 99
  p1 : 1 ≤ t.ps.length
  p9 : t.ps.length ≤ 999
  ok : ∀ p ∈ t.ps, p.V t.ps.length
theorem GsV.zero {gs : List (Int × Int)} {many : Nat} (h : GsV gs many) : ∃ g ∈ gs, g.1 = 0 := by
  obtain ⟨g, h1, h2⟩ := h.la
  exact ⟨g, List.mem_of_getLast? h1, h2⟩
theorem Tst.V.po {t : Tst} {R : Nat} (h : t.V) (hR : ∀ p ∈ t.ps, p.rs.length ≤ R) : PsOk t.ps R :=
  ⟨fun p hp x hx => ((h.ok p hp).rw x hx).2.ok, hR, fun p hp => by have := (h.ok p hp).gs.n8; omega, fun p hp => (h.ok p hp).gs.zero, fun p hp g hg => ((h.ok p hp).gs.ok g hg).2⟩
theorem trunc_of {den : Den} {ls ps os' : List Lc} {d : D} (h : den ls [] = some (.ret d ps os')) (hd : d.lo 0 = true) (hp : ps.all (Lc.lo 0) = true) : den.trunc ls [] = some (.ret d ps []) := by
  unfold Den.trunc
  rw [h]
  simp only [List.length_nil, List.take_zero, List.all_nil, and_true]
  rw [if_pos ⟨hd, hp⟩]
theorem lo_ints {xs : List Int} {n : Nat} : D.lo n (.lst (xs.map D.int)) = true := by
  induction xs with
  | nil => rfl
  | cons x r ih => simpa [D.lo, loL] using ih
theorem lo_fin {f : Fin'} {n : Nat} : f.d.lo n = true := by cases f <;> rfl
def Mac.l (m : Mac) : D := .dic [(.inr "cells", .lst (m.cells.map D.int)), (.inr "fuel", .int m.fuel), (.inr "said", .lst (m.said.map D.int)), (.inr "end", m.fin.d),
  (.inr "held", .dic (dI D.int m.regs)), (.inr "counts", .lst [.int m.looked, .int m.done]), (.inr "tests", .dic (dI D.bl m.tests))]
/-- a row, but for the counts -/
def Mac.row0 (m : Mac) (x : Rw) : Mac := { m.row x with looked := m.looked, done := m.done }
theorem act_looked {m : Mac} {o : Op} {k : Nat} : Mac.act { m with looked := k } o = { m.act o with looked := k } := by
  cases o with
  | get w r =>
    show (if 16 ≤ m.held r then _ else _) = ({ (if 16 ≤ m.held r then _ else _ : Mac) with looked := k } : Mac)
    split <;> rfl
  | put w r =>
    show (if 16 ≤ m.held w then _ else _) = ({ (if 16 ≤ m.held w then _ else _ : Mac) with looked := k } : Mac)
    split <;> rfl
  | bin b w r q =>
    show (match b.res (m.held r) (m.held q) with | none => _ | some v => _) = ({ (match b.res (m.held r) (m.held q) with | none => _ | some v => _ : Mac) with looked := k } : Mac)
    cases b.res (m.held r) (m.held q) <;> rfl
  | _ => rfl
theorem act_done {m : Mac} {o : Op} : (m.act o).done = m.done ∧ (m.act o).looked = m.looked := by
  cases o with
  | get w r => rw [Mac.act]; split <;> exact ⟨rfl, rfl⟩
  | put w r => rw [Mac.act]; split <;> exact ⟨rfl, rfl⟩
  | bin b w r q => rw [Mac.act]; cases b.res (m.held r) (m.held q) <;> exact ⟨rfl, rfl⟩
  | _ => exact ⟨rfl, rfl⟩
theorem row0_act {m : Mac} {t : Int} {o : Op} (ht : ∀ a b r, o ≠ .test a b r) : m.row0 ⟨t, o⟩ = if m.holds t then m.act o else m := by
  have e0 : Mac.row m ⟨t, o⟩ = (let m2 : Mac := if m.holds t then Mac.act { m with looked := m.looked + 1 } o else { m with looked := m.looked + 1 }
      { m2 with done := m2.done + if m.holds t then 1 else 0 }) := by
      cases o with
      | test a b r => exact absurd rfl (ht a b r)
      | _ => rfl
  unfold Mac.row0
  rw [e0]
  have a := act_done (m := m) (o := o)
  cases m.holds t
  · rfl
  · simp only [if_true, act_looked]
    rw [← a.1, ← a.2]
/-- ahead of the first piece -/
def Mac.l0 (m : Mac) : D := .dic [(.inr "cells", .lst (m.cells.map D.int)), (.inr "fuel", .int m.fuel), (.inr "said", .lst (m.said.map D.int)), (.inr "end", m.fin.d),
  (.inr "held", .dic (dI D.int m.regs)), (.inr "counts", .lst [.int m.looked, .int m.done])]
@[simp] theorem l0_imm {m : Mac} : m.l0.imm = false := rfl
@[simp] theorem l_imm {m : Mac} : m.l.imm = false := rfl
def Mac.rowG (m : Mac) (x : Rw) : Mac := if m.fin.isGo then m.row x else m
theorem row_count {m : Mac} {x : Rw} : m.row x = { m.row0 x with looked := m.looked + 1, done := m.done + if m.holds x.t then 1 else 0 } := by
  obtain ⟨t, o⟩ := x
  by_cases ht : ∃ a b r, o = .test a b r
  · obtain ⟨a, b, r, rfl⟩ := ht
    rfl
  · have e0 : Mac.row m ⟨t, o⟩ = (let m2 : Mac := if m.holds t then Mac.act { m with looked := m.looked + 1 } o else { m with looked := m.looked + 1 }
      { m2 with done := m2.done + if m.holds t then 1 else 0 }) := by
      cases o with
      | test a b r => exact absurd ⟨a, b, r, rfl⟩ ht
      | _ => rfl
    have a := act_done (m := m) (o := o)
    unfold Mac.row0
    rw [e0]
    cases m.holds t
    · rfl
    · simp only [if_true, act_looked]
      rw [a.1]
theorem through_end {m m' : Mac} {n : Int} {rs : List Rw} {gs : List (Int × Int)} (e : m.through n rs gs = (none, m')) : m'.fin.isGo = false := by
  unfold Mac.through at e
  generalize Mac.rows { m with tests := [(0, true)] } rs = M at e
  simp only at e
  split at e
  · split at e
    · cases e; rfl
    · split at e
      · split at e
        · cases e; rfl
        · cases e
      · cases e
  · rename_i hf
    cases e
    simpa using hf
theorem runM_ok {ps : List Piece} {R : Nat} (po : PsOk ps R) : ∀ {n : Nat} {m m' : Mac} {k : Int}, m.Ok → m.fin.isGo = true → runM ps n m k = some m' → m'.Ok ∧ m'.looked ≤ m.looked + n * R
  | 0, m, m', k, _, _, e => by cases e
  | n + 1, m, m', k, h, hg, e => by
    unfold runM at e
    cases hp : ps[k.toNat]? with
    | none => rw [hp] at e; cases e
    | some p =>
      rw [hp] at e
      simp only at e
      have hm : p ∈ ps := List.mem_of_getElem? hp
      have hn := po.rn p hm
      cases et : m.through k p.rs p.gs with
      | mk a m1 =>
        rw [et] at e
        cases a with
        | none =>
          simp only [Option.some.injEq] at e
          subst e
          have h' : Mac.Ok { m with tests := [(0, true)] } := ⟨h.rg, h.cl, h.cn, h.rn, by simp, h.sn⟩
          have k := rows_ok (rs := p.rs) h' (po.rw p hm)
          unfold Mac.through at et
          generalize Mac.rows { m with tests := [(0, true)] } p.rs = M at *
          simp only at et
          obtain ⟨k1, k2, k3⟩ := k
          simp only at k2
          rw [Nat.succ_mul]
          split at et
          · split at et
            · cases et
              exact ⟨⟨k1.rg, k1.cl, k1.cn, k1.rn, k1.tn, k1.sn⟩, by simp; omega⟩
            · split at et
              · split at et
                · cases et
                  exact ⟨⟨k1.rg, k1.cl, k1.cn, k1.rn, k1.tn, k1.sn⟩, by simp; omega⟩
                · cases et
              · cases et
          · cases et
            exact ⟨k1, by omega⟩
        | some g =>
          simp only at e
          obtain ⟨a1, a2, a3, a4, a5, a6⟩ := through_ok po hm h hg et
          obtain ⟨b1, b2⟩ := runM_ok po a1 a2 e
          rw [Nat.succ_mul]
          exact ⟨b1, by omega⟩
end Kt
set_option Elab.async false
set_option linter.all false
set_option maxRecDepth 100000
set_option maxHeartbeats 4000000
/-! the dice -/
namespace Kt
open PySem PySem.Spec PyProof.Rows L2 Tr Dn
theorem next_eq {cs : Cs} {c : Dc} {k : Int} {os : List Lc} (h0 : 0 < k) (h1 : k < 1073741824) : d__law_next cs [.par c.d, .bor (.int k)] os = some (.ret (.int (c.next k).1) [.par (c.next k).2.d, .no] os) := by
  obtain ⟨ns, i, m, q⟩ := c
  unfold d__law_next
  refine (den_ev rfl).trans ?_
  unfold b__law_next Dc.next Dc.d
  by_cases hq : 0 < q
  · simp [hq, h0, h1]
  · by_cases hi : i < ns.length
    · have h2 : (i : Int) + 1 ≤ ns.length := by omega
      by_cases hz : (1000000000000000000 : Int) ≤ ns[i]
      · simp [hq, h0, h1, hi, h2, hz]
      · simp [hq, h0, h1, hi, h2, hz]
    · have h2 : ¬ (i : Int) + 1 ≤ ns.length := by omega
      simp [hq, h0, h1, hi, h2]
theorem next_ex {cs : Cs} (c : Dc) (k : Int) (h0 : 0 < k) (h1 : k < 1073741824) : ∃ (v : Int) (c' : Dc), (0 ≤ v ∧ v < k) ∧ ∀ os, d__law_next cs [.par c.d, .bor (.int k)] os = some (.ret (.int v) [.par c'.d, .no] os) :=
  ⟨(c.next k).1, (c.next k).2, Dc.next_lt h0, fun os => next_eq h0 h1⟩
/-- the dice at its beginning -/
theorem dice_eq {cs : Cs} {ns : List Int} {os : List Lc} : ∃ m, d__law_dice cs [.bor (.frz ns)] os = some (.ret (Dc.d ⟨ns, 0, m, 0⟩) [.no] os) := by
  unfold d__law_dice
  have hf : ∀ (r : List Int) (m0 : Int) (c : Lc), (∃ z, c = .bor z) ∨ c = .no → ∃ m1 c', ((∃ z, c' = .bor z) ∨ c' = .no) ∧ forGo (.one 2) (sSeq (sSet 1 (eP (pOp dMod (pOp dAdd (pOp dAdd (pOp dMul (pVar 1) (pC (.int 48271))) (pOp dMul (pOp dMod (pVar 2) (pC (.int 2147483647))) (pC (.int 69621)))) (pC (.int 11))) (pC (.int 2147483647))))) sNil) (r.map D.int) ⟨[.bor (.frz ns), .bor (.int m0), c], os⟩ = some (.nx ⟨[.bor (.frz ns), .bor (.int m1), c'], os⟩) := by
    intro r
    induction r with
    | nil => intro m0 c hc; exact ⟨m0, c, hc, rfl⟩
    | cons n r ih =>
      intro m0 c hc
      obtain ⟨m1, c', h1, h2⟩ := ih ((m0 * 48271 + n % 2147483647 * 69621 + 11) % 2147483647) (.bor (.int n)) (.inl ⟨_, rfl⟩)
      refine ⟨m1, c', h1, ?_⟩
      rw [List.map_cons, forGo]
      have e : bindT (.one 2) (.int n) ⟨[.bor (.frz ns), .bor (.int m0), c], os⟩ = some ⟨[.bor (.frz ns), .bor (.int m0), .bor (.int n)], os⟩ := by
        rcases hc with ⟨z, rfl⟩ | rfl <;> simp
      rw [e]
      simp
      exact h2
  obtain ⟨m1, c', h1, h2⟩ := hf ns 0 .no (.inr rfl)
  refine ⟨m1 * (if 2 < (ns.length : Int) then 1 else 0), (den_ev rfl).trans ?_⟩
  unfold b__law_dice
  simp [sFor, iV, D.items, h2]
  by_cases h : 2 < (ns.length : Int) <;> simp [h, Dc.d]
end Kt
set_option Elab.async false
set_option linter.all false
set_option maxRecDepth 100000
set_option maxHeartbeats 4000000
/-! the generator: a row -/
namespace Kt
open PySem PySem.Spec PyProof.Rows L2 Tr Dn
structure Wd where
  names : Int
  many : Int
  made : Int
  far : Int
  off : Int
def Wd.d (w : Wd) : D := .dic [(.inr "names", .int w.names), (.inr "many", .int w.many), (.inr "made", .int w.made), (.inr "far", .int w.far), (.inr "off", .int w.off)]
@[simp] theorem Wd.d_imm {w : Wd} : w.d.imm = false := rfl
structure Wd.Ok (w : Wd) : Prop where
  n0 : 0 ≤ w.names
  m0 : 1 ≤ w.many
  m1 : w.many ≤ 99
  d0 : 0 ≤ w.made
  d1 : w.made ≤ 96
  f0 : 0 ≤ w.far
  f1 : w.far ≤ 1900
  o0 : 0 ≤ w.off
  o1 : w.off ≤ 1900
  ff : w.far = 0 ∨ w.far = 1900
  oo : w.off = 0 ∨ w.off = 1900
/-- near, or far -/
def Far (v : Int) : Prop := v < 1000 ∨ 1900 ≤ v
def Rw.F (x : Rw) : Prop := Far x.t ∧ ∀ r ∈ x.o.rd, Far r
/-- four drawn places -/
theorem places_ex {cs : Cs} {c : Dc} {w : Wd} {v : D} {a b e f g : Lc} {os : List Lc} (h : w.Ok) : ∃ (p0 p1 p2 p3 : Int) (c' : Dc), (0 ≤ p0 ∧ p0 < w.many) ∧ (0 ≤ p1 ∧ p1 < w.many) ∧ (0 ≤ p2 ∧ p2 < w.many) ∧ (0 ≤ p3 ∧ p3 < w.many) ∧
    eLc [4] (.one 4) (iR1 (eaCons (eP (pC (.int 4))) (eaNil))) (tYes') (b__law_some_row_E2 cs) ⟨[.par c.d, .par w.d, .bor v, .no, .no, a, b, e, f, g], os⟩ = some (.ok (.lst [.int p0, .int p1, .int p2, .int p3]) ⟨[.par c'.d, .par w.d, .bor v, .no, .no, a, b, e, f, g], os⟩) := by
  obtain ⟨ys, s', ⟨c', rfl⟩, h2, h3, h4⟩ := eLc_inv (vs := [4]) (T := .one 4) (it := iR1 (eaCons (eP (pC (.int 4))) (eaNil))) (cond := tYes') (elt := b__law_some_row_E2 cs)
    (s := ⟨[.par c.d, .par w.d, .bor v, .no, .no, a, b, e, f, g], os⟩) (ok := fun _ s => ∃ c' : Dc, s = ⟨[.par c'.d, .par w.d, .bor v, .no, .no, a, b, e, f, g], os⟩) (Q := fun _ y => ∃ p, y = .int p ∧ 0 ≤ p ∧ p < w.many)
    (ds := rng 0 4) (s1 := ⟨[.par c.d, .par w.d, .bor v, .no, .no, a, b, e, f, g], os⟩) (s2 := ⟨[.par c.d, .par w.d, .bor v, .no, .no, a, b, e, f, g], os⟩) (iR1_of (j := 4) (by simp) (by omega) (by omega)) (by simp) ⟨c, rfl⟩ (by simp) (by
      rintro i d hd s ⟨c, rfl⟩
      obtain ⟨hi, rfl⟩ := rng_get hd
      obtain ⟨p, c', hp, en⟩ := next_ex (cs := cs) c w.many (by have := h.m0; omega) (by have := h.m1; omega)
      refine ⟨.int p, ⟨[.par c'.d, .par w.d, .bor v, .no, .no, a, b, e, f, g], os⟩, ?_, ⟨p, rfl, hp⟩, ⟨c', rfl⟩⟩
      unfold b__law_some_row_E2
      have hw : w.d = .dic [(.inr "names", .int w.names), (.inr "many", .int w.many), (.inr "made", .int w.made), (.inr "far", .int w.far), (.inr "off", .int w.off)] := rfl
      simp [lcOne, tYes', hw, en])
  match ys, h2 with
  | [y0, y1, y2, y3], _ =>
    obtain ⟨p0, rfl, q0⟩ := h3 0 y0 rfl
    obtain ⟨p1, rfl, q1⟩ := h3 1 y1 rfl
    obtain ⟨p2, rfl, q2⟩ := h3 2 y2 rfl
    obtain ⟨p3, rfl, q3⟩ := h3 3 y3 rfl
    exact ⟨p0, p1, p2, p3, c', q0, q1, q2, q3, h4⟩
def Wd.at (w : Wd) (p : Int) : Int := p + w.far * (if w.names ≤ p then 1 else 0)
theorem Wd.Ok.rg {w : Wd} (h : w.Ok) {p : Int} (h0 : 0 ≤ p) (h1 : p < w.many) : Rg (w.at p) := by
  have := h.m1; have := h.f0; have := h.f1
  unfold Wd.at Rg
  split <;> omega
theorem Wd.Ok.fr {w : Wd} (h : w.Ok) {p : Int} (h0 : 0 ≤ p) (h1 : p < w.many) : Far (w.at p) := by
  have := h.m1
  unfold Wd.at Far
  rcases h.ff with e | e <;> rw [e] <;> split <;> omega
theorem far_eq {cs : Cs} {c : D} {w : Wd} {v : D} {p0 p1 p2 p3 : Int} {a b e f g : Lc} {os : List Lc} (h : w.Ok) :
    eLc [5] (.one 5) (iW 3) (tYes') (b__law_some_row_E1 cs) ⟨[.par c, .par w.d, .bor v, .own (.lst [.int p0, .int p1, .int p2, .int p3]), a, .no, b, e, f, g], os⟩ = some (.ok (.lst [.int (w.at p0), .int (w.at p1), .int (w.at p2), .int (w.at p3)]) ⟨[.par c, .par w.d, .bor v, .bor (.lst [.int p0, .int p1, .int p2, .int p3]), a, .no, b, e, f, g], os⟩) := by
  rw [eLc_pure' (vs := [5]) (T := .one 5) (it := iW 3) (cond := tYes') (elt := b__law_some_row_E1 cs) (s2 := ⟨[.par c, .par w.d, .bor v, .bor (.lst [.int p0, .int p1, .int p2, .int p3]), a, .no, b, e, f, g], os⟩) (f := fun d => match d with | .int p => some (.int (w.at p)) | _ => none) (by simp; exact ⟨rfl, rfl⟩) (by simp) (by
      intro d hd
      have hw : w.d = .dic [(.inr "names", .int w.names), (.inr "many", .int w.many), (.inr "made", .int w.made), (.inr "far", .int w.far), (.inr "off", .int w.off)] := rfl
      have : ∃ p, d = .int p := by simp at hd; rcases hd with rfl | rfl | rfl | rfl <;> exact ⟨_, rfl⟩
      obtain ⟨p, rfl⟩ := this
      have f1 := h.f1
      have f0 := h.f0
      unfold b__law_some_row_E1
      by_cases hn : w.names ≤ p <;> simp [lcOne, tYes', hw, Wd.at, hn]) (by simp)]
  rfl
theorem row_tail {cs : Cs} {c : Dc} {w : Wd} {way t q0 q1 q2 q3 : Int} {os : List Lc} (h : w.Ok) (w0 : 0 ≤ way) (w1 : way < 16) (ht : Rg t) (h0 : Rg q0) (h1 : Rg q1) (h2 : Rg q2) (h3 : Rg q3) (ft : Far t) (g0 : Far q0) (g1 : Far q1) (g2 : Far q2) :
    ∃ x c' k, finO 2 (b__law_some_row_R6 cs ⟨[.par c.d, .par w.d, .bor (.int way), .own (.lst [.int q0, .int q1, .int q2, .int q3]), .no, .no, .bor (.int w.made), .bor (.int t), .no, .no], os⟩) = some (.ret (Rw.d x) [.par (Dc.d c'), .par (Wd.d { w with made := k })] os) ∧ (x.V ∧ x.F) ∧ w.made ≤ k ∧ k ≤ w.made + 2 := by
  have hw : ∀ w : Wd, w.d = .dic [(.inr "names", .int w.names), (.inr "many", .int w.many), (.inr "made", .int w.made), (.inr "far", .int w.far), (.inr "off", .int w.off)] := fun _ => rfl
  have d0 := h.d0
  have d1 := h.d1
  have o0 := h.o0
  have o1 := h.o1
  unfold b__law_some_row_R6
  by_cases w4 : way < 4
  · obtain ⟨v5, c1, ⟨a0, a1⟩, e1⟩ := next_ex (cs := cs) c 5 (by omega) (by omega)
    by_cases h5 : 0 < v5
    · obtain ⟨v4, c3, ⟨a2, a3⟩, e2⟩ := next_ex (cs := cs) c1 4 (by omega) (by omega)
      by_cases hv : 0 < v4
      · refine ⟨⟨t, .test (w.made + 1 + w.off) (w.made + 1 + 1 + w.off) q0⟩, c3, (if w.made < w.made + 1 + 1 then w.made + 1 + 1 else w.made), ?_, ⟨⟨ht, ⟨by omega, by omega⟩, ⟨by omega, by omega⟩, by omega, h0⟩, ⟨ft, by simp [Op.rd, g0]⟩⟩, by split <;> omega, by split <;> omega⟩
        simp [hw, w4, e1, h5, e2, hv, Rw.d, Op.w, Op.as]
      · refine ⟨⟨t, .test (w.made + 1 + 1 + w.off) (w.made + 1 + w.off) q0⟩, c3, (if w.made < w.made + 1 + 1 then w.made + 1 + 1 else w.made), ?_, ⟨⟨ht, ⟨by omega, by omega⟩, ⟨by omega, by omega⟩, by omega, h0⟩, ⟨ft, by simp [Op.rd, g0]⟩⟩, by split <;> omega, by split <;> omega⟩
        simp [hw, w4, e1, h5, e2, hv, Rw.d, Op.w, Op.as]
    · obtain ⟨u, c2, ⟨a4, a5⟩, e3⟩ := next_ex (cs := cs) c1 (w.made + 1) (by omega) (by omega)
      obtain ⟨v4, c3, ⟨a2, a3⟩, e2⟩ := next_ex (cs := cs) c2 4 (by omega) (by omega)
      by_cases hv : 0 < v4
      · refine ⟨⟨t, .test (1 + u + w.off) (1 + u + 1 + w.off) q0⟩, c3, (if w.made < 1 + u + 1 then 1 + u + 1 else w.made), ?_, ⟨⟨ht, ⟨by omega, by omega⟩, ⟨by omega, by omega⟩, by omega, h0⟩, ⟨ft, by simp [Op.rd, g0]⟩⟩, by split <;> omega, by split <;> omega⟩
        simp [hw, w4, e1, h5, e2, e3, hv, Rw.d, Op.w, Op.as]
      · refine ⟨⟨t, .test (1 + u + 1 + w.off) (1 + u + w.off) q0⟩, c3, (if w.made < 1 + u + 1 then 1 + u + 1 else w.made), ?_, ⟨⟨ht, ⟨by omega, by omega⟩, ⟨by omega, by omega⟩, by omega, h0⟩, ⟨ft, by simp [Op.rd, g0]⟩⟩, by split <;> omega, by split <;> omega⟩
        simp [hw, w4, e1, h5, e2, e3, hv, Rw.d, Op.w, Op.as]
  · by_cases w6 : way < 6
    · obtain ⟨n0, c1, ⟨a0, a1⟩, e1⟩ := next_ex (cs := cs) c 3 (by omega) (by omega)
      obtain ⟨n1, c2, ⟨a2, a3⟩, e2⟩ := next_ex (cs := cs) c1 18 (by omega) (by omega)
      obtain ⟨n2, c3, ⟨a4, a5⟩, e3⟩ := next_ex (cs := cs) c2 10007 (by omega) (by omega)
      obtain ⟨n3, c4, ⟨a6, a7⟩, e4⟩ := next_ex (cs := cs) c3 3 (by omega) (by omega)
      have : n3 = 0 ∨ n3 = 1 ∨ n3 = 2 := by omega
      rcases this with rfl | rfl | rfl
      · refine ⟨⟨t, .num q0 n0⟩, c4, w.made, ?_, ⟨⟨ht, h0, ⟨by omega, by omega⟩⟩, ⟨ft, by simp [Op.rd, g0, g1, g2]⟩⟩, by omega, by omega⟩
        simp [w4, w6, e1, e2, e3, e4, Rw.d, Op.w, Op.as]
      · refine ⟨⟨t, .num q0 n1⟩, c4, w.made, ?_, ⟨⟨ht, h0, ⟨by omega, by omega⟩⟩, ⟨ft, by simp [Op.rd, g0, g1, g2]⟩⟩, by omega, by omega⟩
        simp [w4, w6, e1, e2, e3, e4, Rw.d, Op.w, Op.as]
      · refine ⟨⟨t, .num q0 n2⟩, c4, w.made, ?_, ⟨⟨ht, h0, ⟨by omega, by omega⟩⟩, ⟨ft, by simp [Op.rd, g0, g1, g2]⟩⟩, by omega, by omega⟩
        simp [w4, w6, e1, e2, e3, e4, Rw.d, Op.w, Op.as]
    · by_cases w8 : way < 8
      · have : way = 6 ∨ way = 7 := by omega
        rcases this with rfl | rfl
        · refine ⟨⟨t, .copy q0 q1⟩, c, w.made, ?_, ⟨⟨ht, h0, h1⟩, ⟨ft, by simp [Op.rd, g0, g1, g2]⟩⟩, by omega, by omega⟩
          simp [Rw.d, Op.w, Op.as]
        · refine ⟨⟨t, .not q0 q1⟩, c, w.made, ?_, ⟨⟨ht, h0, h1⟩, ⟨ft, by simp [Op.rd, g0, g1, g2]⟩⟩, by omega, by omega⟩
          simp [Rw.d, Op.w, Op.as]
      · by_cases w12 : way < 12
        · obtain ⟨n0, c1, ⟨a0, a1⟩, e1⟩ := next_ex (cs := cs) c 7 (by omega) (by omega)
          have hk : ∃ k : Bw, atI [D.str "add", .str "take", .str "times", .str "less", .str "same", .str "over", .str "rest"] n0 = some (.str k.s) := by
            have : n0 = 0 ∨ n0 = 1 ∨ n0 = 2 ∨ n0 = 3 ∨ n0 = 4 ∨ n0 = 5 ∨ n0 = 6 := by omega
            rcases this with rfl | rfl | rfl | rfl | rfl | rfl | rfl
            · exact ⟨.add, rfl⟩
            · exact ⟨.take, rfl⟩
            · exact ⟨.times, rfl⟩
            · exact ⟨.less, rfl⟩
            · exact ⟨.same, rfl⟩
            · exact ⟨.over, rfl⟩
            · exact ⟨.rest, rfl⟩
          obtain ⟨k, hk⟩ := hk
          refine ⟨⟨t, .bin k q0 q1 q2⟩, c1, w.made, ?_, ⟨⟨ht, h0, h1, h2⟩, ⟨ft, by simp [Op.rd, g0, g1, g2]⟩⟩, by omega, by omega⟩
          simp [w4, w6, w8, w12, e1, hk, Rw.d, Op.w, Op.as]
        · have : way = 12 ∨ way = 13 ∨ way = 14 ∨ way = 15 := by omega
          rcases this with rfl | rfl | rfl | rfl
          · refine ⟨⟨t, .get q0 q1⟩, c, w.made, ?_, ⟨⟨ht, h0, h1⟩, ⟨ft, by simp [Op.rd, g0, g1, g2]⟩⟩, by omega, by omega⟩
            simp [Rw.d, Op.w, Op.as]
          · refine ⟨⟨t, .put q0 q1⟩, c, w.made, ?_, ⟨⟨ht, h0, h1⟩, ⟨ft, by simp [Op.rd, g0, g1, g2]⟩⟩, by omega, by omega⟩
            simp [Rw.d, Op.w, Op.as]
          · obtain ⟨n0, c1, ⟨a0, a1⟩, e1⟩ := next_ex (cs := cs) c 3 (by omega) (by omega)
            by_cases hn : n0 = 0
            · refine ⟨⟨t, .stop q0⟩, c1, w.made, ?_, ⟨⟨ht, h0⟩, ⟨ft, by simp [Op.rd, g0, g1, g2]⟩⟩, by omega, by omega⟩
              simp [e1, hn, Rw.d, Op.w, Op.as]
            · refine ⟨⟨t, .say q0⟩, c1, w.made, ?_, ⟨⟨ht, h0⟩, ⟨ft, by simp [Op.rd, g0, g1, g2]⟩⟩, by omega, by omega⟩
              simp [e1, hn, Rw.d, Op.w, Op.as]
          · refine ⟨⟨t, .say q0⟩, c, w.made, ?_, ⟨⟨ht, h0⟩, ⟨ft, by simp [Op.rd, g0, g1, g2]⟩⟩, by omega, by omega⟩
            simp [Rw.d, Op.w, Op.as]
theorem some_row_ex {cs : Cs} (c : Dc) (w : Wd) (os : List Lc) (h : w.Ok) : ∃ (x : Rw) (c' : Dc) (k : Int), d__law_some_row cs [.par c.d, .par w.d] os = some (.ret x.d [.par c'.d, .par (Wd.d { w with made := k })] os) ∧ (x.V ∧ x.F) ∧ w.made ≤ k ∧ k ≤ w.made + 2 := by
  have hw : ∀ w : Wd, w.d = .dic [(.inr "names", .int w.names), (.inr "many", .int w.many), (.inr "made", .int w.made), (.inr "far", .int w.far), (.inr "off", .int w.off)] := fun _ => rfl
  obtain ⟨way, c1, ⟨w0, w1⟩, e1⟩ := next_ex (cs := cs) c 16 (by omega) (by omega)
  obtain ⟨p0, p1, p2, p3, c2, q0, q1, q2, q3, e2⟩ := places_ex (cs := cs) (c := c1) (w := w) (v := .int way) (a := .no) (b := .no) (e := .no) (f := .no) (g := .no) (os := os) h
  have e3 := far_eq (cs := cs) (c := c2.d) (w := w) (v := .int way) (p0 := p0) (p1 := p1) (p2 := p2) (p3 := p3) (a := .no) (b := .no) (e := .no) (f := .no) (g := .no) (os := os) h
  obtain ⟨z, c3, ⟨z0, z1⟩, e4⟩ := next_ex (cs := cs) c2 2 (by omega) (by omega)
  have d0 := h.d0
  have d1 := h.d1
  have o0 := h.o0
  have o1 := h.o1
  have fin : ∀ (c4 : Dc) (t : Int), 0 ≤ t → t ≤ w.made → ∃ (x : Rw) (c' : Dc) (k : Int), finO 2 (b__law_some_row_R6 cs ⟨[.par c4.d, .par w.d, .bor (.int way), .own (.lst [.int (w.at p0), .int (w.at p1), .int (w.at p2), .int (w.at p3)]), .no, .no, .bor (.int w.made), .bor (.int (t + w.off * (if 0 < t then 1 else 0))), .no, .no], os⟩) = some (.ret (Rw.d x) [.par (Dc.d c'), .par (Wd.d { w with made := k })] os) ∧ (x.V ∧ x.F) ∧ w.made ≤ k ∧ k ≤ w.made + 2 := fun c4 t t0 t1 =>
    row_tail h w0 w1 (by unfold Rg; split <;> omega) (h.rg q0.1 q0.2) (h.rg q1.1 q1.2) (h.rg q2.1 q2.2) (h.rg q3.1 q3.2) (by unfold Far; rcases h.oo with e | e <;> rw [e] <;> split <;> omega) (h.fr q0.1 q0.2) (h.fr q1.1 q1.2) (h.fr q2.1 q2.2)
  unfold d__law_some_row
  by_cases hz : z = 0
  · obtain ⟨t, c4, ⟨t0, t1⟩, e5⟩ := next_ex (cs := cs) c3 (w.made + 1) (by omega) (by omega)
    obtain ⟨x, c', k, e, r⟩ := fin c4 t t0 (by omega)
    refine ⟨x, c', k, (den_ev rfl).trans ?_, r⟩
    unfold b__law_some_row
    by_cases ht : 0 < t
    · simp [hw] at e1 e2 e3 e4 e5 e ⊢
      simp [e1, e2, e3, e4, e5, hz, ht] at e ⊢
      exact e
    · simp [hw] at e1 e2 e3 e4 e5 e ⊢
      simp [e1, e2, e3, e4, e5, hz, ht] at e ⊢
      exact e
  · obtain ⟨u, c4, ⟨u0, u1⟩, e5⟩ := next_ex (cs := cs) c3 2 (by omega) (by omega)
    have hu : u = 0 ∨ u = 1 := by omega
    obtain ⟨x, c', k, e, r⟩ := fin c4 (w.made * u) (by rcases hu with rfl | rfl <;> omega) (by rcases hu with rfl | rfl <;> omega)
    refine ⟨x, c', k, (den_ev rfl).trans ?_, r⟩
    unfold b__law_some_row
    have b1 : (-18446744073709551616 : Int) < w.made := by omega
    have b2 : w.made < (18446744073709551616 : Int) := by omega
    by_cases ht : 0 < w.made * u
    · simp [hw] at e1 e2 e3 e4 e5 e ⊢
      simp [e1, e2, e3, e4, e5, hz, ht, b1, b2] at e ⊢
      exact e
    · simp [hw] at e1 e2 e3 e4 e5 e ⊢
      simp [e1, e2, e3, e4, e5, hz, ht, b1, b2] at e ⊢
      exact e
end Kt
set_option Elab.async false
set_option linter.all false
set_option maxRecDepth 100000
set_option maxHeartbeats 4000000
/-! the generator: rows, goes, pieces, numbers handed in -/
namespace Kt
open PySem PySem.Spec PyProof.Rows L2 Tr Dn
theorem tens {z : Int} (h0 : 0 ≤ z) (h1 : z < 3) : ∃ f : Int, atI [D.int 0, .int 0, .int 1900] z = some (.int f) ∧ (f = 0 ∨ f = 1900) := by
  have : z = 0 ∨ z = 1 ∨ z = 2 := by omega
  rcases this with rfl | rfl | rfl
  · exact ⟨0, rfl, .inl rfl⟩
  · exact ⟨0, rfl, .inl rfl⟩
  · exact ⟨1900, rfl, .inr rfl⟩
theorem some_goes_ex {cs : Cs} (c : Dc) (made off : Int) (many : Nat) (os : List Lc) (h0 : 0 ≤ made) (h1 : made ≤ 96) (oo : off = 0 ∨ off = 1900) (hm : many ≤ 1000) :
    ∃ (gs : List (Int × Int)) (c' : Dc), d__law_some_goes cs [.par c.d, .bor (.int made), .bor (.int off), .bor (.int many)] os = some (.ret (.tup (gs.map gD)) [.par c'.d, .no, .no, .no] os) ∧ GsV gs many ∧ ∀ g ∈ gs, Far g.1 := by
  have o0 : 0 ≤ off := by omega
  have o1 : off ≤ 1900 := by omega
  obtain ⟨z1, c1, ⟨a0, a1⟩, e1⟩ := next_ex (cs := cs) c 2 (by omega) (by omega)
  have hz : ∃ m : Int, atI [D.int 4, .int 8] z1 = some (.int m) ∧ 0 < m ∧ m ≤ 8 := by
    have : z1 = 0 ∨ z1 = 1 := by omega
    rcases this with rfl | rfl
    · exact ⟨4, rfl, by omega, by omega⟩
    · exact ⟨8, rfl, by omega, by omega⟩
  obtain ⟨mx, e2, b0, b1⟩ := hz
  obtain ⟨z2, c2, ⟨a2, a3⟩, e3⟩ := next_ex (cs := cs) c1 mx (by omega) (by omega)
  obtain ⟨n, rfl⟩ := Int.eq_ofNat_of_zero_le a2
  obtain ⟨s', ⟨gs, c3, c5, c6, rfl, g1, g2⟩, e4⟩ := for_inv (T := .one 5) (body := b__law_some_goes_L1 cs) (ds := rng 0 n) (k := 0)
    (ok := fun i s => ∃ (gs : List (Int × Int)) (c' : Dc) (c5 c6 : Lc), s = ⟨[.par c'.d, .bor (.int made), .bor (.int off), .bor (.int many), .own (.lst (gs.map gD)), c5, c6], os⟩ ∧ (isFree c5 ∧ isFree c6) ∧ gs.length = i ∧ ∀ g ∈ gs, (Rg g.1 ∧ -1 ≤ g.2 ∧ g.2 < many) ∧ Far g.1)
    (s := ⟨[.par c2.d, .bor (.int made), .bor (.int off), .bor (.int many), .own (.lst []), .no, .no], os⟩) ⟨[], c2, .no, .no, rfl, ⟨isFree_no, isFree_no⟩, rfl, by simp⟩ (by
      rintro i d hd s ⟨gs, c', c5, c6, rfl, ⟨f5, f6⟩, g1, g2⟩
      obtain ⟨hi, rfl⟩ := rng_get hd
      obtain ⟨t, c3, ⟨t0, t1⟩, e4⟩ := next_ex (cs := cs) c' (made + 1) (by omega) (by omega)
      obtain ⟨g, c4, ⟨g0, g3⟩, e5⟩ := next_ex (cs := cs) c3 (many + 1) (by omega) (by omega)
      refine ⟨⟨[.par c'.d, .bor (.int made), .bor (.int off), .bor (.int many), .own (.lst (gs.map gD)), .bor (.int (0 + (i : Int))), c6], os⟩, ⟨[.par c4.d, .bor (.int made), .bor (.int off), .bor (.int many), .own (.lst ((gs ++ [(t + off * (if 0 < t then 1 else 0), g - 1)]).map gD)), .bor (.int (0 + (i : Int))), .bor (.int t)], os⟩, ?_, ?_, ⟨_, c4, _, _, rfl, ⟨isFree_bor, isFree_bor⟩, by simp [g1], ?_⟩⟩
      · rcases f5 with ⟨z, rfl⟩ | rfl <;> simp
      · have hs : gs.length ≤ 10000000 := by omega
        unfold b__law_some_goes_L1
        rcases f6 with ⟨z, rfl⟩ | rfl <;> by_cases ht : 0 < t <;> simp [e4, e5, ht, gD, hs]
      · intro x hx
        rcases List.mem_append.1 hx with hx | hx
        · exact g2 x hx
        · simp at hx
          subst hx
          refine ⟨⟨?_, by show -1 ≤ g - 1; omega, by show g - 1 < many; omega⟩, ?_⟩
          · unfold Rg
            simp only
            split <;> omega
          · unfold Far
            simp only
            rcases oo with e | e <;> rw [e] <;> split <;> omega)
  obtain ⟨z5, c4, ⟨a4, a5⟩, e5⟩ := next_ex (cs := cs) c3 (many + 1) (by omega) (by omega)
  refine ⟨gs ++ [(0, z5 - 1)], c4, ?_, ⟨by simp, by simp [g2.1]; simp [rng_len] at g2; omega, ?_, ⟨(0, z5 - 1), by simp, rfl⟩⟩, ?_⟩
  · have i1 : immL (gs.map gD) = true := immL_map fun _ => gD_imm
    have hs : gs.length ≤ 1000 := by simp [rng_len] at g2; omega
    have hs' : gs.length + 1 ≤ 10000000 := by omega
    unfold d__law_some_goes
    refine (den_ev rfl).trans ?_
    unfold b__law_some_goes
    have er : ∀ s : S, ∀ s1 : S, eaCons (eFn (d__law_next cs) (gN 0 (gE (eOp dIx (eP (pLst (aCons (pC (.int 4)) (aCons (pC (.int 8)) (aNil))))) (eFn (d__law_next cs) (gN 0 (gE (eP (pC (.int 2))) (gNil'))))) (gNil')))) (eaNil) s = some (.ok [.int n] s1) → iR1 (eaCons (eFn (d__law_next cs) (gN 0 (gE (eOp dIx (eP (pLst (aCons (pC (.int 4)) (aCons (pC (.int 8)) (aNil))))) (eFn (d__law_next cs) (gN 0 (gE (eP (pC (.int 2))) (gNil'))))) (gNil')))) (eaNil)) s = some (.ok (rng 0 n, true) s1) := fun s s1 h => by
      rw [iR1_of h (by omega) (by omega)]; simp
    have er' := er ⟨[.par c.d, .bor (.int made), .bor (.int off), .bor (.int many), .own (.lst []), .no, .no], os⟩ ⟨[.par c2.d, .bor (.int made), .bor (.int off), .bor (.int many), .own (.lst []), .no, .no], os⟩ (by simp [e1, e2, e3])
    simp [sFor, er', e4, e5, dTuple, i1, hs', gD]
  · intro x hx
    rcases List.mem_append.1 hx with hx | hx
    · exact (g2.2 x hx).1
    · simp at hx
      subst hx
      exact ⟨⟨by show (0 : Int) ≤ 0; omega, by show (0 : Int) ≤ 1999; omega⟩, by show -1 ≤ z5 - 1; omega, by show z5 - 1 < many; omega⟩
  · intro x hx
    rcases List.mem_append.1 hx with hx | hx
    · exact (g2.2 x hx).2
    · simp at hx
      subst hx
      exact .inl (by show (0 : Int) < 1000; decide)
end Kt
set_option Elab.async false
set_option linter.all false
set_option maxRecDepth 100000
set_option maxHeartbeats 4000000
/-! the generator: rows, the wider way -/
namespace Kt
open PySem PySem.Spec PyProof.Rows L2 Tr Dn
theorem rows_lc {cs : Cs} {c : Dc} {w : Wd} {n : Nat} {it : IV} {s0 : S} {a b e : Lc} {os : List Lc} (h : w.Ok) (hm : w.made + 2 * n ≤ 96)
    (hi : it s0 = some (.ok (rng 0 n, true) ⟨[.par c.d, a, b, e, .own w.d, .no, .no], os⟩)) :
    ∃ (rs : List Rw) (c' : Dc) (k : Int), eLc [6] (.one 6) it (tYes') (b__law_some_rows_E1 cs) s0 = some (.ok (.lst (rs.map Rw.d)) ⟨[.par c'.d, a, b, e, .own (Wd.d { w with made := k }), .no, .no], os⟩) ∧ rs.length = n ∧ (∀ x ∈ rs, x.V ∧ x.F) ∧ w.made ≤ k ∧ k ≤ w.made + 2 * n := by
  obtain ⟨ys, s', ⟨c', k, rfl, k0, k1⟩, h2, h3, h4⟩ := eLc_inv (vs := [6]) (T := .one 6) (it := it) (cond := tYes') (elt := b__law_some_rows_E1 cs)
    (s := s0) (ok := fun i s => ∃ (c' : Dc) (k : Int), s = ⟨[.par c'.d, a, b, e, .own (Wd.d { w with made := k }), .no, .no], os⟩ ∧ w.made ≤ k ∧ k ≤ w.made + 2 * i) (Q := fun _ y => ∃ x : Rw, y = x.d ∧ x.V ∧ x.F)
    (ds := rng 0 n) (s1 := ⟨[.par c.d, a, b, e, .own w.d, .no, .no], os⟩) (s2 := ⟨[.par c.d, a, b, e, .own w.d, .no, .no], os⟩) hi (by simp) ⟨c, w.made, rfl, by omega, by omega⟩ (by have := h.d0; simp; omega) (by
      rintro i d hd s ⟨c, k, rfl, k0, k1⟩
      obtain ⟨hi, rfl⟩ := rng_get hd
      obtain ⟨x, c', k', er, hx, k2, k3⟩ := some_row_ex (cs := cs) c { w with made := k } os ⟨h.n0, h.m0, h.m1, by have := h.d0; show 0 ≤ k; omega, by show k ≤ 96; omega, h.f0, h.f1, h.o0, h.o1, h.ff, h.oo⟩
      have k2 : k ≤ k' := k2
      have k3 : k' ≤ k + 2 := k3
      refine ⟨x.d, ⟨[.par c'.d, a, b, e, .own (Wd.d { w with made := k' }), .no, .no], os⟩, ?_, ⟨x, rfl, hx⟩, ⟨c', k', rfl, by omega, by push_cast; omega⟩⟩
      unfold b__law_some_rows_E1
      simp only [Wd.d] at er ⊢
      simp [lcOne, tYes', er])
  obtain ⟨xs, rfl, hx⟩ := lst_of h3
  rw [rng_len] at k1 h2
  exact ⟨xs, c', k, h4, by simpa using h2, hx, k0, by omega⟩
theorem some_rows_ex {cs : Cs} (c : Dc) (names most : Int) (os : List Lc) (n0 : 0 ≤ names) (n1 : names ≤ 70) (m0 : 0 ≤ most) (m1 : most ≤ 40) :
    ∃ (rs : List Rw) (made off : Int) (c' : Dc), d__law_some_rows cs [.par c.d, .bor (.int names), .bor (.int most)] os = some (.ret (.tup [.tup (rs.map Rw.d), .int made, .int off]) [.par c'.d, .no, .no] os) ∧
      (rs.length : Int) ≤ most ∧ (∀ x ∈ rs, x.V ∧ x.F) ∧ 0 ≤ made ∧ made ≤ 80 ∧ (off = 0 ∨ off = 1900) := by
  obtain ⟨z0, c0, ⟨b0, b1⟩, e0⟩ := next_ex (cs := cs) c 3 (by omega) (by omega)
  have key : ∀ (wd : Int) (c1 : Dc), 2 ≤ wd → wd ≤ 20 → (∀ os, eIf (tP' (tB' (pOp dEq (pVar 3) (pC (.int 0))))) (eP (pC (.int 20))) (eOp dAdd (eP (pC (.int 2))) (eFn (d__law_next cs) (gN 0 (gE (eP (pC (.int 6))) (gNil'))))) ⟨[.par c0.d, .bor (.int names), .bor (.int most), .bor (.int z0), .no, .no, .no], os⟩ = some (.ok (.int wd) ⟨[.par c1.d, .bor (.int names), .bor (.int most), .bor (.int z0), .no, .no, .no], os⟩)) →
      ∃ (rs : List Rw) (made off : Int) (c' : Dc), d__law_some_rows cs [.par c.d, .bor (.int names), .bor (.int most)] os = some (.ret (.tup [.tup (rs.map Rw.d), .int made, .int off]) [.par c'.d, .no, .no] os) ∧
      (rs.length : Int) ≤ most ∧ (∀ x ∈ rs, x.V ∧ x.F) ∧ 0 ≤ made ∧ made ≤ 80 ∧ (off = 0 ∨ off = 1900) := by
    intro wd c1 w0 w1 e1
    obtain ⟨z2, c2, ⟨a2, a3⟩, e2⟩ := next_ex (cs := cs) c1 3 (by omega) (by omega)
    obtain ⟨z3, c3, ⟨a4, a5⟩, e3⟩ := next_ex (cs := cs) c2 3 (by omega) (by omega)
    obtain ⟨far, e4, ff⟩ := tens a2 a3
    obtain ⟨off, e5, oo⟩ := tens a4 a5
    obtain ⟨z4, c4, ⟨a6, a7⟩, e6⟩ := next_ex (cs := cs) c3 (most + 1) (by omega) (by omega)
    obtain ⟨n, rfl⟩ := Int.eq_ofNat_of_zero_le a6
    have hw : Wd.Ok ⟨names, names + wd, 0, far, off⟩ := ⟨n0, by show 1 ≤ names + wd; omega, by show names + wd ≤ 99; omega, Int.le_refl 0, (by show (0 : Int) ≤ 96; decide), by show 0 ≤ far; omega, by show far ≤ 1900; omega, by show 0 ≤ off; omega, by show off ≤ 1900; omega, ff, oo⟩
    obtain ⟨rs, c5, k, e7, r1, r2, k0, k1⟩ := rows_lc (cs := cs) (c := c4) (n := n) (it := iR1 (eaCons (eFn (d__law_next cs) (gN 0 (gE (eP (pOp dAdd (pVar 2) (pC (.int 1)))) (gNil')))) (eaNil)))
      (s0 := ⟨[.par c3.d, .bor (.int names), .bor (.int most), .bor (.int z0), .own (Wd.d ⟨names, names + wd, 0, far, off⟩), .no, .no], os⟩) (a := .bor (.int names)) (b := .bor (.int most)) (e := .bor (.int z0)) (os := os) hw (by show 0 + 2 * (n : Int) ≤ 96; omega)
      (by rw [iR1_of (j := n) (s1 := ⟨[.par c4.d, .bor (.int names), .bor (.int most), .bor (.int z0), .own (Wd.d ⟨names, names + wd, 0, far, off⟩), .no, .no], os⟩) (by simp [Wd.d, e6]) (by omega) (by omega)]; simp)
    have k0 : 0 ≤ k := k0
    have k1 : k ≤ 0 + 2 * (n : Int) := k1
    refine ⟨rs, k, off, c5, ?_, by omega, r2, k0, by omega, oo⟩
    have i1 : immL (rs.map Rw.d) = true := immL_map fun _ => Rw.d_imm
    unfold d__law_some_rows
    refine (den_ev rfl).trans ?_
    unfold b__law_some_rows
    simp only [Wd.d] at e7
    have e1' := e1 os
    generalize (eIf (tP' (tB' (pOp dEq (pVar 3) (pC (.int 0))))) (eP (pC (.int 20))) (eOp dAdd (eP (pC (.int 2))) (eFn (d__law_next cs) (gN 0 (gE (eP (pC (.int 6))) (gNil')))))) = EI at e1'
    simp [e0, e1', e2, e3, e4, e5, e7, i1, dTuple]
  by_cases hz : z0 = 0
  · exact key 20 c0 (by omega) (by omega) (fun os => by simp [hz])
  · obtain ⟨z1, c1, ⟨a0, a1⟩, e1⟩ := next_ex (cs := cs) c0 6 (by omega) (by omega)
    exact key (2 + z1) c1 (by omega) (by omega) (fun os => by simp [hz, e1])
end Kt

set_option Elab.async false
set_option linter.all false
set_option maxRecDepth 100000
set_option maxHeartbeats 4000000
/-! the generator: tested programs, numbers handed in -/
namespace Kt
open PySem PySem.Spec PyProof.Rows L2 Tr Dn
theorem some_tested_ex {cs : Cs} (c : Dc) (most : Int) (os : List Lc) (m0 : 0 ≤ most) (m1 : most ≤ 40) :
    ∃ (t : Tst) (c' : Dc), d__law_some_tested cs [.par c.d, .bor (.int most)] os = some (.ret t.d [.par c'.d, .no] os) ∧ t.V ∧ (∀ p ∈ t.ps, p.rs.length ≤ 40) ∧ t.ps.length ≤ 5 ∧ (∀ p ∈ t.ps, (∀ x ∈ p.rs, x.F) ∧ ∀ g ∈ p.gs, Far g.1) := by
  obtain ⟨ins, c1, ⟨a0, a1⟩, e1⟩ := next_ex (cs := cs) c 4 (by omega) (by omega)
  obtain ⟨z2, c2, ⟨a2, a3⟩, e2⟩ := next_ex (cs := cs) c1 4 (by omega) (by omega)
  obtain ⟨z3, c3, ⟨a4, a5⟩, e3⟩ := next_ex (cs := cs) c2 5 (by omega) (by omega)
  obtain ⟨n, rfl⟩ := Int.eq_ofNat_of_zero_le a4
  obtain ⟨s', ⟨ps, c4, c6, c7, c8, c9, rfl, g1, g2, g3⟩, e4⟩ := for_inv (T := .one 6) (body := b__law_some_tested_L1 cs) (ds := rng 0 (1 + n)) (k := 0)
    (ok := fun i s => ∃ (ps : List Piece) (c' : Dc) (c6 c7 c8 c9 : Lc), s = ⟨[.par c'.d, .bor (.int most), .bor (.int ins), .bor (.int (ins + z2)), .bor (.int (1 + (n : Int))), .own (.lst (ps.map Piece.d)), c6, c7, c8, c9], os⟩ ∧ (isFree c6 ∧ isFree c7 ∧ isFree c8 ∧ isFree c9) ∧ ps.length = i ∧ ∀ p ∈ ps, (p.V (1 + n) ∧ p.rs.length ≤ 40) ∧ (∀ x ∈ p.rs, x.F) ∧ ∀ g ∈ p.gs, Far g.1)
    (s := ⟨[.par c3.d, .bor (.int most), .bor (.int ins), .bor (.int (ins + z2)), .bor (.int (1 + (n : Int))), .own (.lst []), .no, .no, .no, .no], os⟩) ⟨[], c3, .no, .no, .no, .no, rfl, ⟨isFree_no, isFree_no, isFree_no, isFree_no⟩, rfl, by simp⟩ (by
      rintro i d hd s ⟨ps, c', c6, c7, c8, c9, rfl, ⟨f6, f7, f8, f9⟩, g1, g2⟩
      obtain ⟨hi, rfl⟩ := rng_get hd
      obtain ⟨rs, made, off, c4, e4, r1, r2, r3, r4, r5⟩ := some_rows_ex (cs := cs) c' (ins + z2) most os (by omega) (by omega) m0 m1
      obtain ⟨gs, c5, e5, r7, r8⟩ := some_goes_ex (cs := cs) c4 made off (1 + n) os r3 (by omega) r5 (by omega)
      have en : ((1 + n : Nat) : Int) = 1 + (n : Int) := by push_cast; rfl
      rw [en] at e5
      refine ⟨⟨[.par c'.d, .bor (.int most), .bor (.int ins), .bor (.int (ins + z2)), .bor (.int (1 + (n : Int))), .own (.lst (ps.map Piece.d)), .bor (.int (0 + (i : Int))), c7, c8, c9], os⟩, ⟨[.par c5.d, .bor (.int most), .bor (.int ins), .bor (.int (ins + z2)), .bor (.int (1 + (n : Int))), .own (.lst ((ps ++ [Piece.mk rs gs]).map Piece.d)), .bor (.int (0 + (i : Int))), .bor (.tup (rs.map Rw.d)), .bor (.int made), .bor (.int off)], os⟩, ?_, ?_, ⟨ps ++ [Piece.mk rs gs], c5, _, _, _, _, rfl, ⟨isFree_bor, isFree_bor, isFree_bor, isFree_bor⟩, by simp [g1], ?_⟩⟩
      · simp [setBO_free f6]
      · have hs : ps.length ≤ 10000000 := by omega
        have i1 : immL (rs.map Rw.d) = true := immL_map fun _ => Rw.d_imm
        unfold b__law_some_tested_L1
        simp [e4, e5, i1, Piece.d, hs, putO_free f7, putO_free f8, putO_free f9]
      · intro x hx
        rcases List.mem_append.1 hx with hx | hx
        · exact g2 x hx
        · simp at hx
          subst hx
          exact ⟨⟨⟨by show rs.length ≤ 1500; omega, fun x hx => (r2 x hx).1, r7⟩, by show rs.length ≤ 40; omega⟩, fun x hx => (r2 x hx).2, r8⟩)
  have hl : ps.length = 1 + n := by simpa using g2
  refine ⟨⟨ins, ins + z2, ps⟩, c4, ?_, ⟨a0, by show ins ≤ 3; omega, by show ins ≤ ins + z2; omega, by show ins + z2 ≤ 99; omega, by show 1 ≤ ps.length; omega, by show ps.length ≤ 999; omega, fun p hp => by show p.V ps.length; rw [hl]; exact (g3 p hp).1.1⟩, fun p hp => (g3 p hp).1.2, by show ps.length ≤ 5; omega, fun p hp => (g3 p hp).2⟩
  have i1 : immL (ps.map Piece.d) = true := immL_map fun _ => Piece.d_imm
  unfold d__law_some_tested
  refine (den_ev rfl).trans ?_
  unfold b__law_some_tested
  have er : iR1 (eaCons (eNm 4) (eaNil)) ⟨[.par c3.d, .bor (.int most), .bor (.int ins), .bor (.int (ins + z2)), .bor (.int (1 + (n : Int))), .own (.lst []), .no, .no, .no, .no], os⟩ = some (.ok (rng 0 (1 + n), true) ⟨[.par c3.d, .bor (.int most), .bor (.int ins), .bor (.int (ins + z2)), .bor (.int (1 + (n : Int))), .own (.lst []), .no, .no, .no, .no], os⟩) := by
    rw [iR1_of (j := 1 + (n : Int)) (s1 := ⟨[.par c3.d, .bor (.int most), .bor (.int ins), .bor (.int (ins + z2)), .bor (.int (1 + (n : Int))), .own (.lst []), .no, .no, .no, .no], os⟩) (by simp) (by omega) (by omega)]
    rw [show (1 + (n : Int)).toNat = 1 + n by omega]
  simp [sFor, er, e1, e2, e3, e4, dTuple, i1, Tst.d]
theorem any_handed_ex {cs : Cs} (c : Dc) (ins : Nat) (os : List Lc) (h : ins ≤ 1000) :
    ∃ (hs : List Int) (c' : Dc), d__law_any_handed cs [.par c.d, .bor (.int ins)] os = some (.ret (.lst (hs.map D.int)) [.par c'.d, .no] os) ∧ hs.length = ins ∧ ∀ v ∈ hs, Nb v := by
  obtain ⟨ys, s', ⟨c', rfl⟩, h2, h3, h4⟩ := eLc_inv (vs := [2]) (T := .one 2) (it := iR1 (eaCons (eNm 1) (eaNil))) (cond := tYes') (elt := b__law_any_handed_E1 cs)
    (s := ⟨[.par c.d, .bor (.int ins), .no], os⟩) (ok := fun _ s => ∃ c' : Dc, s = ⟨[.par c'.d, .bor (.int ins), .no], os⟩) (Q := fun _ y => ∃ v, y = .int v ∧ Nb v)
    (ds := rng 0 ins) (s1 := ⟨[.par c.d, .bor (.int ins), .no], os⟩) (s2 := ⟨[.par c.d, .bor (.int ins), .no], os⟩) (by rw [iR1_of (j := ins) (s1 := ⟨[.par c.d, .bor (.int ins), .no], os⟩) (by simp) (by omega) (by omega)]; simp) (by simp) ⟨c, rfl⟩ (by simp; omega) (by
      rintro i d hd s ⟨c, rfl⟩
      obtain ⟨hi, rfl⟩ := rng_get hd
      obtain ⟨z1, c1, ⟨a0, a1⟩, e1⟩ := next_ex (cs := cs) c 4 (by omega) (by omega)
      obtain ⟨z2, c2, ⟨a2, a3⟩, e2⟩ := next_ex (cs := cs) c1 10007 (by omega) (by omega)
      obtain ⟨z3, c3, ⟨a4, a5⟩, e3⟩ := next_ex (cs := cs) c2 3 (by omega) (by omega)
      have hz : ∃ v, atI [D.int z1, .int z2, .int 10006] z3 = some (.int v) ∧ Nb v := by
        have : z3 = 0 ∨ z3 = 1 ∨ z3 = 2 := by omega
        rcases this with rfl | rfl | rfl
        · exact ⟨z1, rfl, by omega, by omega⟩
        · exact ⟨z2, rfl, by omega, by omega⟩
        · exact ⟨10006, rfl, by omega, by omega⟩
      obtain ⟨v, e4, hv⟩ := hz
      refine ⟨.int v, ⟨[.par c3.d, .bor (.int ins), .no], os⟩, ?_, ⟨v, rfl, hv⟩, ⟨c3, rfl⟩⟩
      unfold b__law_any_handed_E1
      simp [lcOne, tYes', e1, e2, e3, e4])
  obtain ⟨xs, rfl, hx⟩ := lst_of h3
  refine ⟨xs, c', ?_, by simpa using h2, hx⟩
  unfold d__law_any_handed
  refine (den_ev rfl).trans ?_
  unfold b__law_any_handed
  simp [h4]
end Kt
set_option Elab.async false
set_option linter.all false
set_option maxRecDepth 100000
set_option maxHeartbeats 4000000
/-! the law's own machine -/
namespace Kt
open PySem PySem.Spec PyProof.Rows L2 Tr Dn
theorem reads_of_eq {cs : Cs} {x : Rw} {os : List Lc} : d__law_reads_of cs [.bor x.d] os = some (.ret (.tup (x.o.rd.map D.int)) [.no] os) := by
  obtain ⟨t, o⟩ := x
  unfold d__law_reads_of
  refine (den_ev rfl).trans ?_
  unfold b__law_reads_of Rw.d
  cases o with
  | bin k w r q => cases k <;> simp [Op.w, Op.as, Op.rd, Bw.s]
  | _ => simp [Op.w, Op.as, Op.rd]
theorem cell_of_eq {cs : Cs} {m : Mac} {p : Int} {os : List Lc} (h : m.Ok) (h0 : 0 ≤ p) : d__law_cell_of cs [.par m.l, .bor (.int p)] os =
    if 16 ≤ p then some (.ret .non [.par (Mac.l { m with fin := .cell }), .no] os) else some (.ret (.int (m.cells.getD p.toNat 0)) [.par m.l, .no] os) := by
  unfold d__law_cell_of
  refine (den_ev rfl).trans ?_
  unfold b__law_cell_of Mac.l
  by_cases h16 : 16 ≤ p
  · have : 15 < p := by omega
    simp [this, h16, Fin'.d]
  · have h15 : ¬ 15 < p := by omega
    have hc := h.cn
    have e : m.cells[p.toNat]? = some (m.cells.getD p.toNat 0) := by
      rw [List.getD_eq_getElem?_getD, List.getElem?_eq_getElem (by omega)]; rfl
    have e2 : atI (m.cells.map D.int) p = some (.int (m.cells.getD p.toNat 0)) := by
      rw [atI_of h0, List.getElem?_map, e]; rfl
    simp [h15, h16, e2]
theorem lreckoned_eq {cs : Cs} {m : Mac} {k : Bw} {x y : Int} {os : List Lc} (hx : Nb x) (hy : Nb y) : d__law_reckoned cs [.par m.l, .bor (.str k.s), .bor (.int x), .bor (.int y)] os =
    match k.res x y with
    | some v => some (.ret (.int v) [.par m.l, .no, .no, .no] os)
    | none => some (.ret .non [.par (Mac.l { m with fin := .over }), .no, .no, .no] os) := by
  obtain ⟨hx0, hx1⟩ := hx
  obtain ⟨hy0, hy1⟩ := hy
  unfold d__law_reckoned
  refine (den_ev rfl).trans ?_
  unfold b__law_reckoned Mac.l
  have h1 : (-18446744073709551616 : Int) < x := by omega
  have h2 : x < (18446744073709551616 : Int) := by omega
  have h3 : y < (1073741824 : Int) := by omega
  cases k with
  | over => by_cases h : y = 0
            · simp [Bw.s, Bw.res, h, Fin'.d]
            · have : 0 < y := by omega
              simp [Bw.s, Bw.res, h, this, h3]
  | rest => by_cases h : y = 0
            · simp [Bw.s, Bw.res, h, Fin'.d]
            · have : 0 < y := by omega
              simp [Bw.s, Bw.res, h, this, h3]
  | less => simp [Bw.s, Bw.res]
  | same => simp [Bw.s, Bw.res]
  | add =>
    have e : dIndex (.lst [.str "add", .str "take", .str "times"]) [.str "add"] = some (.int 0, true) := by simp [dIndex, flatL, D.flat, List.findIdx?_cons, eqV]
    simp [Bw.s, Bw.res, h1, h2, e]
  | take =>
    have e : dIndex (.lst [.str "add", .str "take", .str "times"]) [.str "take"] = some (.int 1, true) := by simp [dIndex, flatL, D.flat, List.findIdx?_cons, eqV]
    simp [Bw.s, Bw.res, h1, h2, e]
  | times =>
    have e : dIndex (.lst [.str "add", .str "take", .str "times"]) [.str "times"] = some (.int 2, true) := by simp [dIndex, flatL, D.flat, List.findIdx?_cons, eqV]
    simp [Bw.s, Bw.res, h1, h2, e]
theorem do_row_eq {cs : Cs} {m : Mac} {x : Rw} {os : List Lc} (h : m.Ok) (hl : m.looked < 1000000) :
    d__law_do_row cs [.par m.l, .bor x.d, .bor (.bl (m.holds x.t)), .own (.lst ((x.o.rd.map m.held).map D.int))] os = some (.ret .non [.par (m.row0 x).l, .no, .no, .no] os) := by
  obtain ⟨t, o⟩ := x
  have hr : m.regs.length ≤ 10000000 := by have := h.rn; omega
  have hs : m.said.length ≤ 10000000 := by have := h.sn; omega
  have hr0 : m.tests.length ≤ 10000000 := by have := h.tn; omega
  have hr1 : ∀ k v, (gput m.tests k v).length ≤ 10000000 := by intro k v; have := h.tn; have := gput_len (kvs := m.tests) (k := k) (v := v); omega
  unfold d__law_do_row
  refine (den_ev rfl).trans ?_
  by_cases ht : ∃ a b r, o = .test a b r
  · obtain ⟨a, b, r, rfl⟩ := ht
    unfold b__law_do_row Mac.l Rw.d Mac.row0 Mac.row
    cases hh : m.holds t <;> simp [Op.rd, Op.w, Op.as, hr0, hr1]
  · have ht' : ∀ a b r, o ≠ .test a b r := fun a b r e => ht ⟨a, b, r, e⟩
    rw [row0_act ht']
    have hw : o.w ≠ "test" := by
      cases o with
      | test a b r => exact absurd rfl (ht' a b r)
      | bin k w r q => cases k <;> simp [Op.w, Bw.s]
      | _ => simp [Op.w]
    cases hh : m.holds t
    · unfold b__law_do_row Mac.l Rw.d
      simp [hh, hw]
    · cases o with
      | test a b r => exact absurd rfl (ht' a b r)
      | say r => unfold b__law_do_row Mac.l Rw.d; simp [hh, Op.rd, Op.w, Op.as, Mac.act, hs]
      | stop r => unfold b__law_do_row Mac.l Rw.d; simp [hh, Op.rd, Op.w, Op.as, Mac.act]
      | num w n => unfold b__law_do_row Mac.l Rw.d; simp [hh, Op.rd, Op.w, Op.as, Mac.act, Mac.setR, hr]
      | copy w r => unfold b__law_do_row Mac.l Rw.d; simp [hh, Op.rd, Op.w, Op.as, Mac.act, Mac.setR, hr]
      | not w r => unfold b__law_do_row Mac.l Rw.d; by_cases e : m.held r = 0 <;> simp [hh, Op.rd, Op.w, Op.as, Mac.act, Mac.setR, hr, e]
      | get w r =>
        have e := cell_of_eq (cs := cs) (os := os) h (h.held r).1
        unfold b__law_do_row
        by_cases h16 : 16 ≤ m.held r
        · simp only [h16, if_true] at e
          simp only [Mac.l, Rw.d] at e ⊢
          simp [hh, Op.rd, Op.w, Op.as, Mac.act, h16, e]
        · simp only [h16, if_false] at e
          simp only [Mac.l, Rw.d] at e ⊢
          simp at e
          simp [hh, Op.rd, Op.w, Op.as, Mac.act, Mac.setR, h16, e, hr]
      | put r q =>
        have e := cell_of_eq (cs := cs) (os := os) h (h.held r).1
        unfold b__law_do_row
        by_cases h16 : 16 ≤ m.held r
        · simp only [h16, if_true] at e
          simp only [Mac.l, Rw.d] at e ⊢
          simp [hh, Op.rd, Op.w, Op.as, Mac.act, h16, e]
        · have hc := h.cn
          have e2 : ixN 16 (m.held r) = some (m.held r).toNat := ixN_of (h.held r).1 (by omega)
          simp only [h16, if_false] at e
          simp only [Mac.l, Rw.d] at e ⊢
          simp at e
          simp [hh, Op.rd, Op.w, Op.as, Mac.act, Mac.setR, h16, e, hr, hc, e2]
      | bin k w r q =>
        have e := lreckoned_eq (cs := cs) (m := m) (k := k) (os := os) (h.held r) (h.held q)
        have hk : k.s ≠ "say" ∧ k.s ≠ "stop" ∧ k.s ≠ "get" ∧ k.s ≠ "put" ∧ k.s ≠ "num" ∧ k.s ≠ "copy" ∧ k.s ≠ "not" ∧ k.s ≠ "test" := by cases k <;> simp [Bw.s]
        unfold b__law_do_row
        cases hv : k.res (m.held r) (m.held q) with
        | none =>
          rw [hv] at e
          simp only [Mac.l, Rw.d] at e ⊢
          simp [hh, Op.rd, Op.w, Op.as, Mac.act, hk, e, hv]
        | some v =>
          rw [hv] at e
          simp only [Mac.l, Rw.d] at e ⊢
          simp [hh, Op.rd, Op.w, Op.as, Mac.act, Mac.setR, hr, hk, e, hv]
noncomputable def lsB : SV := (sSeq (sPut (hI (hV 2) (pC (.str "held"))) (pVar 3) (eP (pOp dIx (pVar 0) (pVar 3))))
 (sNil))
theorem lstart_for {F : Lc} {fuel : Int} {os : List Lc} {hs : List Int} : ∀ {r pre : List Int} {m : List (Int × Int)} {c : Lc}, hs = pre ++ r → m.length + r.length ≤ 1000000 → isFree c →
    ∃ e, forGo (.one 3) lsB (rng pre.length r.length) ⟨[.bor (.lst (hs.map D.int)), F, .own (Mac.l0 ⟨m, List.replicate 16 0, [], fuel, [], .go, 0, 0⟩), c], os⟩ =
      some (.nx ⟨[.bor (.lst (hs.map D.int)), F, .own (Mac.l0 ⟨putAll pre.length r m, List.replicate 16 0, [], fuel, [], .go, 0, 0⟩), e], os⟩)
  | [], pre, m, c, _, _, _ => ⟨c, rfl⟩
  | v :: r, pre, m, c, e, hl, hc => by
    simp only [List.length_cons] at hl
    have g := gput_len (kvs := m) (k := (pre.length : Int)) (v := v)
    obtain ⟨x, h1⟩ := lstart_for (F := F) (fuel := fuel) (os := os) (hs := hs) (r := r) (pre := pre ++ [v]) (m := gput m pre.length v) (c := .bor (.int pre.length)) (by simp [e]) (by omega) (.inl ⟨_, rfl⟩)
    refine ⟨x, ?_⟩
    rw [List.length_cons, rng_succ, forGo]
    have e0 : bindT (.one 3) (.int pre.length) ⟨[.bor (.lst (hs.map D.int)), F, .own (Mac.l0 ⟨m, List.replicate 16 0, [], fuel, [], .go, 0, 0⟩), c], os⟩ = some ⟨[.bor (.lst (hs.map D.int)), F, .own (Mac.l0 ⟨m, List.replicate 16 0, [], fuel, [], .go, 0, 0⟩), .bor (.int pre.length)], os⟩ := by
      rcases hc with ⟨z, rfl⟩ | rfl <;> simp
    rw [e0]
    simp only
    have ea : atI (hs.map D.int) (pre.length : Int) = some (.int v) := by rw [atI_lit, e]; simp
    have hm : m.length ≤ 10000000 := by omega
    have e1 : lsB ⟨[.bor (.lst (hs.map D.int)), F, .own (Mac.l0 ⟨m, List.replicate 16 0, [], fuel, [], .go, 0, 0⟩), .bor (.int pre.length)], os⟩ = some (.nx ⟨[.bor (.lst (hs.map D.int)), F, .own (Mac.l0 ⟨gput m pre.length v, List.replicate 16 0, [], fuel, [], .go, 0, 0⟩), .bor (.int pre.length)], os⟩) := by
      unfold lsB Mac.l0
      simp only [ea, dIx_lst, pOp_ev, sSeq_ev, sPut_ev, eP_ev, pVar_ev]
      simp [ea, hm]
    rw [e1]
    simp only
    have e2 : ((pre ++ [v]).length : Int) = pre.length + 1 := by simp
    rw [e2] at h1
    exact h1
theorem lstart_dict {l o : List Lc} {fuel : Int} (h : l[1]? = some (.bor (.int fuel))) : eDict (edCons (pC (.str "cells")) (eP (pOp dMul (pLst (aCons (pC (.int 0)) (aNil))) (pC (.int 16)))) (edCons (pC (.str "fuel")) (eNm 1) (edCons (pC (.str "said")) (eP (pLst (aNil))) (edCons (pC (.str "end")) (eP (pC .non)) (edCons (pC (.str "held")) (eP (pC (.dic []))) (edCons (pC (.str "counts")) (eP (pLst (aCons (pC (.int 0)) (aCons (pC (.int 0)) (aNil))))) (edNil))))))) ⟨l, o⟩ =
    some (.ok (.dic [(.inr "cells", .lst (List.replicate 16 (.int 0))), (.inr "fuel", .int fuel), (.inr "said", .lst []), (.inr "end", .non), (.inr "held", .dic []), (.inr "counts", .lst [.int 0, .int 0])]) ⟨l, o⟩) := by
  have e2 : dMul (.lst [.int 0]) (.int 16) = some (.lst (List.replicate 16 (.int 0)), true) := rfl
  simp [h, e2]
theorem lstart_dict' {l o : List Lc} {fuel : Int} (h : l[1]? = some (.bor (.int fuel))) : eDict (edCons (pC (.str "cells")) (eP (pOp dMul (pLst (aCons (pC (.int 0)) (aNil))) (pC (.int 16)))) (edCons (pC (.str "fuel")) (eNm 1) (edCons (pC (.str "said")) (eP (pLst (aNil))) (edCons (pC (.str "end")) (eP (pC .non)) (edCons (pC (.str "held")) (eP (pC (.dic []))) (edCons (pC (.str "counts")) (eP (pLst (aCons (pC (.int 0)) (aCons (pC (.int 0)) (aNil))))) (edNil))))))) ⟨l, o⟩ =
    some (.ok (Mac.l0 ⟨[], List.replicate 16 0, [], fuel, [], .go, 0, 0⟩) ⟨l, o⟩) := by
  rw [lstart_dict h]
  simp [Mac.l0, dI]
theorem len_rng {l o : List Lc} {ds : List D} (h : l[0]? = some (.bor (.lst ds))) (hl : ds.length ≤ 1000000) : iR1 (eaCons (eP (pCall dLen (aCons (pVar 0) (aNil)))) (eaNil)) ⟨l, o⟩ = some (.ok (rng 0 ds.length, true) ⟨l, o⟩) := by
  rw [iR1_of (j := ds.length) (s1 := ⟨l, o⟩) (by simp [h]) (by omega) (by omega)]
  simp
theorem lstart_wh {hs : List Int} {fuel : Int} {os : List Lc} (hl : hs.length ≤ 1000000) : ∃ x, sFor (.one 3) (iR1 (eaCons (eP (pCall dLen (aCons (pVar 0) (aNil)))) (eaNil))) lsB ⟨[.bor (.lst (hs.map D.int)), .bor (.int fuel), .own (Mac.l0 ⟨[], List.replicate 16 0, [], fuel, [], .go, 0, 0⟩), .no], os⟩ =
    some (.nx ⟨[.bor (.lst (hs.map D.int)), .bor (.int fuel), .own (Mac.l0 ⟨putAll 0 hs [], List.replicate 16 0, [], fuel, [], .go, 0, 0⟩), x], os⟩) := by
  obtain ⟨x, h1⟩ := lstart_for (F := .bor (.int fuel)) (fuel := fuel) (os := os) (hs := hs) (r := hs) (pre := []) (m := []) (c := .no) rfl (by simpa using hl) (.inr rfl)
  refine ⟨x, ?_⟩
  rw [sFor, sB_ev, len_rng (ds := hs.map D.int) rfl (by simpa using hl), List.length_map]
  exact h1
theorem l1 {hs : List Int} {fuel : Int} {os : List Lc} {M0 M1 : Mac} {x : Lc} {P : EV} (e3 : P ⟨[.bor (.lst (hs.map D.int)), .bor (.int fuel), .no, .no], os⟩ = some (.ok M0.l0 ⟨[.bor (.lst (hs.map D.int)), .bor (.int fuel), .no, .no], os⟩)) {B : SV} (h1 : B ⟨[.bor (.lst (hs.map D.int)), .bor (.int fuel), .own M0.l0, .no], os⟩ =
    some (.nx ⟨[.bor (.lst (hs.map D.int)), .bor (.int fuel), .own M1.l0, x], os⟩)) : finO 2 (sSeq (sSet 2 P) (sSeq B (sSeq (sRet (eNm 2)) sNil)) ⟨[.bor (.lst (hs.map D.int)), .bor (.int fuel), .no, .no], os⟩) = some (.ret M1.l0 [.no, .no] os) := by
  rw [sSeq_ev, sSet_ev, e3]
  simp [h1]
theorem lstart_eq {cs : Cs} {hs : List Int} {fuel : Int} {os : List Lc} (hl : hs.length ≤ 1000000) : d__law_start cs [.bor (.lst (hs.map D.int)), .bor (.int fuel)] os = some (.ret (Mac.l0 ⟨putAll 0 hs [], List.replicate 16 0, [], fuel, [], .go, 0, 0⟩) [.no, .no] os) := by
  obtain ⟨x, h1⟩ := lstart_wh (hs := hs) (fuel := fuel) (os := os) hl
  unfold d__law_start
  refine (den_ev rfl).trans ?_
  unfold b__law_start
  exact l1 (lstart_dict' (l := [.bor (.lst (hs.map D.int)), .bor (.int fuel), .no, .no]) (o := os) (fuel := fuel) rfl) h1
theorem reads_lc {cs : Cs} {m : Mac} {x : Rw} {T Hd F K c6 c8 c9 : Lc} {os : List Lc} :
    eLc [7] (.one 7) (iP (pFn (d__law_reads_of cs) (aCons (pVar 5) (aNil)))) (tYes') (b__law_machine_E2 cs) ⟨[T, Hd, F, .own m.l, K, .bor x.d, c6, .no, c8, c9], os⟩ =
      some (.ok (.lst ((x.o.rd.map m.held).map D.int)) ⟨[T, Hd, F, .own m.l, K, .bor x.d, c6, .no, c8, c9], os⟩) := by
  have := eLc_pure (vs := [7]) (T := .one 7) (it := iP (pFn (d__law_reads_of cs) (aCons (pVar 5) (aNil)))) (cond := tYes') (elt := b__law_machine_E2 cs)
    (s := ⟨[T, Hd, F, .own m.l, K, .bor x.d, c6, .no, c8, c9], os⟩)
    (f := fun d => match d with | .int p => some (.int (m.held p)) | _ => none) (ds := x.o.rd.map D.int)
    (by simp [iP, reads_of_eq, D.items]) (by simp) (fun d hd => by
      obtain ⟨p, hp, rfl⟩ := List.mem_map.1 hd
      unfold b__law_machine_E2 Mac.l Mac.held
      cases h : glook m.regs p <;> simp [lcOne, tYes', dGet2, h]) (by have := rd_len (o := x.o); simp; omega)
  rw [this, map_int (g := fun p => .int (m.held p)) (fun p => rfl), List.map_map]
  rfl
theorem lrow_eq {cs : Cs} {m : Mac} {x : Rw} {T Hd F K c6 c8 c9 : Lc} {os : List Lc} (h : m.Ok) (hl : m.looked < 1000000) (hc : isFree c6) :
    ∃ c6', isFree c6' ∧ b__law_machine_L1 cs ⟨[T, Hd, F, .own m.l, K, .bor x.d, c6, .no, c8, c9], os⟩ = some (.nx ⟨[T, Hd, F, .own (m.rowG x).l, K, .bor x.d, c6', .no, c8, c9], os⟩) := by
  unfold b__law_machine_L1 Mac.rowG
  have e1 := reads_lc (cs := cs) (m := m) (x := x) (T := T) (Hd := Hd) (F := F) (K := K) (c6 := .bor (.bl (m.holds x.t))) (c8 := c8) (c9 := c9) (os := os)
  have e2 := do_row_eq (cs := cs) (m := m) (x := x) (os := os) h hl
  have ex : x.d = .tup (.int x.t :: .str x.o.w :: x.o.as) := rfl
  have ec : ∀ M : Mac, M.l = .dic [(.inr "cells", .lst (M.cells.map D.int)), (.inr "fuel", .int M.fuel), (.inr "said", .lst (M.said.map D.int)), (.inr "end", M.fin.d),
    (.inr "held", .dic (dI D.int M.regs)), (.inr "counts", .lst [.int M.looked, .int M.done]), (.inr "tests", .dic (dI D.bl M.tests))] := fun _ => rfl
  have eg : ∃ fr, dGet2 (.dic (dI D.bl m.tests)) (.int x.t) (.bl false) = some (.bl (m.holds x.t), fr) := by
    unfold Mac.holds
    cases h : glook m.tests x.t <;> simp [dGet2, h]
  obtain ⟨fr, eg⟩ := eg
  cases hg : m.fin.isGo
  · refine ⟨c6, hc, ?_⟩
    simp only [ec]
    simp [hg]
  · refine ⟨.bor (.bl (m.holds x.t)), isFree_bor, ?_⟩
    rw [row_count]
    simp only [ec, ex] at e1 e2 ⊢
    rcases hc with ⟨z, rfl⟩ | rfl
    · cases hh : m.holds x.t <;> simp [hh] at e1 e2 eg <;> simp [hg, eg, e1, e2, Mac.row0]
    · cases hh : m.holds x.t <;> simp [hh] at e1 e2 eg <;> simp [hg, eg, e1, e2, Mac.row0]
theorem lrows_eq {cs : Cs} {T Hd F K c8 c9 : Lc} {os : List Lc} : ∀ {rs : List Rw} {m : Mac} {c5 c6 : Lc}, m.Ok → (∀ x ∈ rs, x.o.Ok) → m.looked + rs.length ≤ 1000000 → isFree c5 → isFree c6 →
    ∃ c5' c6', isFree c5' ∧ isFree c6' ∧ forGo (.one 5) (b__law_machine_L1 cs) (rs.map Rw.d) ⟨[T, Hd, F, .own m.l, K, c5, c6, .no, c8, c9], os⟩ = some (.nx ⟨[T, Hd, F, .own (if m.fin.isGo then m.rows rs else m).l, K, c5', c6', .no, c8, c9], os⟩)
  | [], m, c5, c6, h, _, _, h5, h6 => ⟨c5, c6, h5, h6, by simp [forGo, Mac.rows]⟩
  | x :: r, m, c5, c6, h, ho, hl, h5, h6 => by
    simp only [List.length_cons] at hl
    have k := row_ok h (ho x List.mem_cons_self)
    obtain ⟨c6', g6, e1⟩ := lrow_eq (cs := cs) (x := x) (T := T) (Hd := Hd) (F := F) (K := K) (c8 := c8) (c9 := c9) (os := os) h (by omega) h6
    have e0 : bindT (.one 5) x.d ⟨[T, Hd, F, .own m.l, K, c5, c6, .no, c8, c9], os⟩ = some ⟨[T, Hd, F, .own m.l, K, .bor x.d, c6, .no, c8, c9], os⟩ := by
      rcases h5 with ⟨z, rfl⟩ | rfl <;> simp
    have hk : (m.rowG x).Ok ∧ (m.rowG x).looked ≤ m.looked + 1 := by
      unfold Mac.rowG
      split
      · exact ⟨k.1, by omega⟩
      · exact ⟨h, by omega⟩
    obtain ⟨d5, d6, f5, f6, e2⟩ := lrows_eq (cs := cs) (T := T) (Hd := Hd) (F := F) (K := K) (c8 := c8) (c9 := c9) (os := os) (rs := r) (m := m.rowG x) (c5 := .bor x.d) (c6 := c6') hk.1 (fun x hx => ho x (List.mem_cons_of_mem _ hx)) (by omega) isFree_bor g6
    refine ⟨d5, d6, f5, f6, ?_⟩
    rw [List.map_cons, forGo, e0]
    simp only
    rw [e1]
    simp only
    rw [e2]
    unfold Mac.rowG
    cases hg : m.fin.isGo
    · simp [hg]
    · simp [Mac.rows]
theorem lgoals_eq {cs : Cs} {m : Mac} {t : Tst} {p : Piece} {k : Int} {Hd F c5 c6 c7 c8 : Lc} {os : List Lc} (hp : atI (t.ps.map Piece.d) k = some p.d) (hl : p.gs.length ≤ 10000000) (h8 : isFree c8) :
    eLc [9, 8] (.tup [9, 8]) (iP (pOp dIx (pOp dIx (pOp dIx (pVar 0) (pC (.int 2))) (pVar 4)) (pC (.int 1)))) (b__law_machine_C1 cs) (b__law_machine_E1 cs) ⟨[.bor t.d, Hd, F, .own m.l, .bor (.int k), c5, c6, c7, c8, .no], os⟩ =
      some (.ok (.lst ((m.goals p.gs).map D.int)) ⟨[.bor t.d, Hd, F, .own m.l, .bor (.int k), c5, c6, c7, .no, .no], os⟩) := by
  have ed : t.d = .tup [.int t.ins, .int t.names, .tup (t.ps.map Piece.d)] := rfl
  have ep : p.d = .tup [.tup (p.rs.map Rw.d), .tup (p.gs.map gD)] := rfl
  have i2 : immL (p.gs.map gD) = true := immL_map fun _ => gD_imm
  rw [eLc_pure' (s1 := ⟨[.bor t.d, Hd, F, .own m.l, .bor (.int k), c5, c6, c7, c8, .no], os⟩) (s2 := ⟨[.bor t.d, Hd, F, .own m.l, .bor (.int k), c5, c6, c7, .no, .no], os⟩) (ds := p.gs.map gD) (f := gF m) (by simp [iP, ed, hp, ep, D.items, i2]) (by rcases h8 with ⟨z, rfl⟩ | rfl <;> simp) (fun d hd => by
      obtain ⟨⟨a, g⟩, _, rfl⟩ := List.mem_map.1 hd
      have eg : ∃ fr, dGet2 (.dic (dI D.bl m.tests)) (.int a) (.bl false) = some (.bl (m.holds a), fr) := by
        unfold Mac.holds
        cases h : glook m.tests a <;> simp [dGet2, h]
      obtain ⟨fr, eg⟩ := eg
      unfold b__law_machine_C1 b__law_machine_E1 Mac.l
      cases ht : m.holds a <;> simp [ht] at eg <;> simp [lcOne, gD, eg, ht, gF]) (by simpa using hl), gF_all]
theorem lputs {m : Mac} {z : D} (hz : z = m.l ∨ z = m.l0) : ∃ kvs, z = .dic kvs ∧ kvs.length ≤ 7 ∧ D.dic (gput kvs (.inr "tests") (.dic [(.inl 0, .bl true)])) = Mac.l { m with tests := [(0, true)] } := by
  rcases hz with rfl | rfl
  · exact ⟨_, rfl, by simp, by simp [Mac.l, dI]⟩
  · exact ⟨_, rfl, by simp, by simp [Mac.l, dI]⟩
theorem lpiece_eq {cs : Cs} {t : Tst} {R : Nat} {Hd F c5 c6 c8 : Lc} {m : Mac} {k : Int} {p : Piece} {z : D} {os : List Lc} (po : PsOk t.ps R) (hp : t.ps[k.toNat]? = some p) (h0 : 0 ≤ k) (h : m.Ok) (hg : m.fin.isGo = true) (hl : m.looked + R ≤ 1000000) (hf : 0 ≤ m.fuel) (h5 : isFree c5) (h6 : isFree c6) (h8 : isFree c8) (hz : z = m.l ∨ z = m.l0) :
    ∃ K' c5' c6' c8' f, isFree c5' ∧ isFree c6' ∧ isFree c8' ∧ b__law_machine_L2 cs ⟨[.bor t.d, Hd, F, .own z, .bor (.int k), c5, c6, .no, c8, .no], os⟩ = some (.nx ⟨[.bor t.d, Hd, F, .own (Mac.l { (m.through k p.rs p.gs).2 with fuel := f }), K', c5', c6', .no, c8', .no], os⟩) ∧
      ∀ g, (m.through k p.rs p.gs).1 = some g → K' = .bor (.int g) ∧ f = (m.through k p.rs p.gs).2.fuel := by
  have hm : p ∈ t.ps := List.mem_of_getElem? hp
  have hn := po.rn p hm
  obtain ⟨g0, g1, g2⟩ := po.g0 p hm
  have ea : atI (t.ps.map Piece.d) k = some p.d := by rw [atI_of h0, List.getElem?_map, hp]; rfl
  have ed : t.d = .tup [.int t.ins, .int t.names, .tup (t.ps.map Piece.d)] := rfl
  have ep : p.d = .tup [.tup (p.rs.map Rw.d), .tup (p.gs.map gD)] := rfl
  have i1 : immL (p.rs.map Rw.d) = true := immL_map fun _ => Rw.d_imm
  obtain ⟨kvs, rfl, hk, et⟩ := lputs hz
  have h' : Mac.Ok { m with tests := [(0, true)] } := ⟨h.rg, h.cl, h.cn, h.rn, by simp, h.sn⟩
  obtain ⟨d5, d6, f5, f6, e1⟩ := lrows_eq (cs := cs) (T := .bor t.d) (Hd := Hd) (F := F) (K := .bor (.int k)) (c8 := c8) (c9 := .no) (os := os) (rs := p.rs) (m := { m with tests := [(0, true)] }) (c5 := c5) (c6 := c6) h' (po.rw p hm) (by show m.looked + _ ≤ _; omega) h5 h6
  have hgo : ({ m with tests := [(0, true)] } : Mac).fin.isGo = true := hg
  rw [if_pos hgo] at e1
  have hz := rows_zero (rs := p.rs) (m := { m with tests := [(0, true)] }) rfl h' (po.rw p hm)
  have hfu := (rows_ok (rs := p.rs) (m := { m with tests := [(0, true)] }) h' (po.rw p hm)).2.2
  unfold Mac.through
  generalize hM : Mac.rows { m with tests := [(0, true)] } p.rs = M at e1 hz hfu
  have hfu : M.fuel = m.fuel := hfu
  have e2 := lgoals_eq (cs := cs) (m := M) (t := t) (p := p) (k := k) (Hd := Hd) (F := F) (c5 := d5) (c6 := d6) (c7 := .no) (c8 := c8) (os := os) ea (po.gn p hm) h8
  rw [goals_ne hz g1 g2] at e2
  obtain ⟨g', q1, q2⟩ := goal_mem hz g1 g2
  obtain ⟨q3, q4⟩ := po.gg p hm g' q1
  rw [← q2] at q3 q4
  have hk7 : kvs.length ≤ 10000000 := by omega
  have ec : ∀ M : Mac, M.l = .dic [(.inr "cells", .lst (M.cells.map D.int)), (.inr "fuel", .int M.fuel), (.inr "said", .lst (M.said.map D.int)), (.inr "end", M.fin.d),
    (.inr "held", .dic (dI D.int M.regs)), (.inr "counts", .lst [.int M.looked, .int M.done]), (.inr "tests", .dic (dI D.bl M.tests))] := fun _ => rfl
  rw [← et] at e1
  unfold b__law_machine_L2
  simp only [ec] at e1 e2 ⊢
  simp [ed] at e1 e2
  cases hgm : M.fin.isGo
  · refine ⟨.bor (.int k), d5, d6, c8, M.fuel, f5, f6, h8, ?_, fun g hg => by cases hg⟩
    simp [hk7, sFor, iP, ed, ea, ep, D.items, i1, e1, hgm]
  · by_cases c1 : M.goal p.gs = -1
    · refine ⟨.bor (.int (-1)), d5, d6, .bor (.int (-1)), M.fuel, f5, f6, isFree_bor, ?_, fun g hg => by simp [hgm, c1] at hg⟩
      simp [c1] at e2
      simp [hk7, sFor, iP, ed, ea, ep, D.items, i1, e1, hgm, e2, c1]
    · have c0 : 0 ≤ M.goal p.gs := by omega
      by_cases c2 : M.goal p.gs ≤ k
      · by_cases c3 : M.fuel = 0
        · refine ⟨.bor (.int (M.goal p.gs)), d5, d6, .bor (.int (M.goal p.gs)), -1, f5, f6, isFree_bor, ?_, fun g hg => by simp [hgm, c1, c2, c3] at hg⟩
          simp [c3] at e1 e2
          simp [hk7, sFor, iP, ed, ea, ep, D.items, i1, e1, hgm, e2, c1, c0, c2, c3]
        · have c4 : ¬ (M.fuel - 1 < 0) := by omega
          refine ⟨.bor (.int (M.goal p.gs)), d5, d6, .bor (.int (M.goal p.gs)), M.fuel - 1, f5, f6, isFree_bor, ?_, fun g hg => by simp [hgm, c1, c2, c3] at hg ⊢; exact hg⟩
          simp [hk7, sFor, iP, ed, ea, ep, D.items, i1, e1, hgm, e2, c1, c0, c2, c3, c4]
      · have c4 : ¬ (M.fuel < 0) := by omega
        refine ⟨.bor (.int (M.goal p.gs)), d5, d6, .bor (.int (M.goal p.gs)), M.fuel, f5, f6, isFree_bor, ?_, fun g hg => by simp [hgm, c1, c2] at hg ⊢; exact hg⟩
        simp [hk7, sFor, iP, ed, ea, ep, D.items, i1, e1, hgm, e2, c1, c0, c2, c4]
theorem lT1_eq {cs : Cs} {T Hd F K c5 c6 c7 c8 c9 : Lc} {m : Mac} {z : D} {os : List Lc} (hz : z = m.l ∨ z = m.l0) : b__law_machine_T1 cs ⟨[T, Hd, F, .own z, K, c5, c6, c7, c8, c9], os⟩ = some (.ok m.fin.isGo ⟨[T, Hd, F, .own z, K, c5, c6, c7, c8, c9], os⟩) := by
  unfold b__law_machine_T1
  rcases hz with rfl | rfl
  · simp [Mac.l]
  · simp [Mac.l0]
theorem lwh_eq {cs : Cs} {t : Tst} {R : Nat} {Hd F : Lc} {os : List Lc} (po : PsOk t.ps R) : ∀ {n : Nat} {m m' : Mac} {k : Int} {z : D} {c5 c6 c8 : Lc}, runM t.ps n m k = some m' → 0 ≤ k → m.Ok → m.fin.isGo = true → 0 ≤ m.fuel → m.looked + n * R ≤ 1000000 → isFree c5 → isFree c6 → isFree c8 → (z = m.l ∨ z = m.l0) →
    ∃ K' c5' c6' c8' f, whGo (b__law_machine_T1 cs) (b__law_machine_L2 cs) (n + 1) ⟨[.bor t.d, Hd, F, .own z, .bor (.int k), c5, c6, .no, c8, .no], os⟩ = some (.nx ⟨[.bor t.d, Hd, F, .own (Mac.l { m' with fuel := f }), K', c5', c6', .no, c8', .no], os⟩)
  | 0, m, m', k, z, c5, c6, c8, e, _, _, _, _, _, _, _, _, _ => by cases e
  | n + 1, m, m', k, z, c5, c6, c8, e, h0, h, hg, hf, hl, h5, h6, h8, hz => by
    unfold runM at e
    have hl1 : m.looked + R + n * R ≤ 1000000 := by rw [Nat.succ_mul] at hl; omega
    cases hp : t.ps[k.toNat]? with
    | none => rw [hp] at e; cases e
    | some p =>
      rw [hp] at e
      simp only at e
      have hm : p ∈ t.ps := List.mem_of_getElem? hp
      obtain ⟨K', d5, d6, d8, f, g5, g6, g8, b, hb⟩ := lpiece_eq (cs := cs) (Hd := Hd) (F := F) (os := os) po hp h0 h hg (by omega) hf h5 h6 h8 hz
      rw [whGo, lT1_eq hz, hg]
      simp only
      rw [b]
      simp only
      cases et : m.through k p.rs p.gs with
      | mk a m1 =>
        rw [et] at e hb
        cases a with
        | none =>
          simp only [Option.some.injEq] at e
          subst e
          refine ⟨K', d5, d6, d8, f, ?_⟩
          have he := through_end et
          rw [whGo, lT1_eq (.inl rfl)]
          simp [he]
        | some g =>
          simp only at e
          obtain ⟨a1, a2, a3, a4, a5, a6⟩ := through_ok po hm h hg et
          obtain ⟨rfl, rfl⟩ := hb g rfl
          have hf1 : 0 ≤ m1.fuel := by rcases a6 with ⟨_, a7⟩ | ⟨_, a8, a7⟩ <;> omega
          exact lwh_eq po e a4 a1 a2 hf1 (by omega) g5 g6 g8 (.inl rfl)
theorem lm1 {st : Den} {W : SV} {t : D} {hs : D} {fuel : Int} {M0 M1 : Mac} {K' c5 c6 c8 : Lc} {os : List Lc} (e1 : ∀ os, st [.bor hs, .bor (.int fuel)] os = some (.ret M0.l0 [.no, .no] os))
    (e3 : W ⟨[.bor t, .bor hs, .bor (.int fuel), .own M0.l0, .bor (.int 0), .no, .no, .no, .no, .no], os⟩ = some (.nx ⟨[.bor t, .bor hs, .bor (.int fuel), .own M1.l, K', c5, c6, .no, c8, .no], os⟩)) :
    finO 3 (sSeq (sSet 3 (eP (pFn st (aCons (pVar 1) (aCons (pVar 2) (aNil))))))
 (sSeq (sSet 4 (eP (pC (.int 0))))
 (sSeq W
 (sSeq (sRet (eTup (eaCons (eTup (eaCons (eMv (hI (hV 3) (pC (.str "said"))) (pOp dIx (pVar 3) (pC (.str "said")))) (eaCons (eMv (hI (hV 3) (pC (.str "end"))) (pOp dIx (pVar 3) (pC (.str "end")))) (eaCons (eMv (hI (hV 3) (pC (.str "cells"))) (pOp dIx (pVar 3) (pC (.str "cells")))) (eaNil))))) (eaCons (eCall dTuple (eaCons (eMv (hI (hV 3) (pC (.str "counts"))) (pOp dIx (pVar 3) (pC (.str "counts")))) (eaNil))) (eaNil)))))
 (sNil)))) ⟨[.bor t, .bor hs, .bor (.int fuel), .no, .no, .no, .no, .no, .no, .no], os⟩) = some (.ret (.tup [.tup [.lst (M1.said.map D.int), M1.fin.d, .lst (M1.cells.map D.int)], .tup [.int M1.looked, .int M1.done]]) [.no, .no, .no] os) := by
  have ec : ∀ M : Mac, M.l = .dic [(.inr "cells", .lst (M.cells.map D.int)), (.inr "fuel", .int M.fuel), (.inr "said", .lst (M.said.map D.int)), (.inr "end", M.fin.d),
    (.inr "held", .dic (dI D.int M.regs)), (.inr "counts", .lst [.int M.looked, .int M.done]), (.inr "tests", .dic (dI D.bl M.tests))] := fun _ => rfl
  simp only [ec] at e3
  simp [e1, e3]
theorem lmachine_eq {cs : Cs} {t : Tst} {R n : Nat} {hs : List Int} {fuel : Int} {m' : Mac} {os : List Lc} (po : PsOk t.ps R) (hh : ∀ v ∈ hs, Nb v) (hl : hs.length ≤ 3) (f0 : 0 ≤ fuel) (e : runM t.ps n (start hs fuel) 0 = some m') (hn : n * R ≤ 1000000) :
    d__law_machine cs [.bor t.d, .bor (.lst (hs.map D.int)), .bor (.int fuel)] os = some (.ret (.tup [.tup [.lst (m'.said.map D.int), m'.fin.d, .lst (m'.cells.map D.int)], .tup [.int m'.looked, .int m'.done]]) [.no, .no, .no] os) := by
  have e1 : ∀ os, d__law_start cs [.bor (.lst (hs.map D.int)), .bor (.int fuel)] os = _ := fun os => lstart_eq (cs := cs) (hs := hs) (fuel := fuel) (by omega)
  obtain ⟨K', c5, c6, c8, f, e2⟩ := lwh_eq (cs := cs) (Hd := .bor (.lst (hs.map D.int))) (F := .bor (.int fuel)) (os := os) (z := (start hs fuel).l0) (c5 := .no) (c6 := .no) (c8 := .no) po e (Int.le_refl 0) (start_ok hh hl) rfl f0 (by simpa [start] using hn) isFree_no isFree_no isFree_no (.inr rfl)
  have e3 := sWhile_of e2
  unfold d__law_machine
  refine (den_ev rfl).trans ?_
  exact lm1 (M0 := start hs fuel) (M1 := { m' with fuel := f }) e1 e3
end Kt
set_option Elab.async false
set_option linter.all false
set_option maxRecDepth 100000
set_option maxHeartbeats 4000000
/-! the law's own look at tested programs: those that can be -/
namespace Kt
open PySem PySem.Spec PyProof.Rows L2 Tr Dn
theorem is_part_eq {cs : Cs} {x m : Int} {os : List Lc} : d__law_is_part cs [.bor (.int x), .bor (.int m)] os = some (.ret (.bl (decide (0 ≤ x ∧ x < m))) [.no, .no] os) := by
  unfold d__law_is_part
  refine (den_ev rfl).trans ?_
  unfold b__law_is_part
  by_cases h1 : 0 ≤ x <;> by_cases h2 : x < m <;> simp [h1, h2]
def Op.many : Op → Int
  | .num .. => 2 | .copy .. => 2 | .not .. => 2 | .get .. => 2 | .put .. => 2 | .say .. => 1 | .stop .. => 1 | .test .. => 3 | .bin .. => 3
theorem as_len {o : Op} : (o.as.length : Int) = o.many := by cases o <;> rfl
def Op.nums : Op → List Int
  | .num w n => [w, n] | .copy w r => [w, r] | .not w r => [w, r] | .get w r => [w, r]
  | .put r q => [r, q] | .say r => [r] | .stop r => [r] | .test a b r => [a, b, r]
  | .bin _ w r q => [w, r, q]
theorem as_nums {o : Op} : o.as = o.nums.map D.int := by cases o <;> rfl
theorem nums_len {o : Op} : o.nums.length ≤ 3 := by cases o <;> simp [Op.nums]
theorem nums_rg {o : Op} (h : o.V) (hn : o.w ≠ "num") : ∀ r ∈ o.nums, 0 ≤ r ∧ r < 2000 := by
  have k : ∀ r, Rg r → 0 ≤ r ∧ r < 2000 := fun r hr => ⟨hr.1, by have := hr.2; omega⟩
  have k2 : ∀ r, Tg r → 0 ≤ r ∧ r < 2000 := fun r hr => ⟨by have := hr.1; omega, by have := hr.2; omega⟩
  cases o with
  | num w n => exact absurd rfl hn
  | test a b r => intro x hx; simp [Op.nums] at hx; rcases hx with rfl | rfl | rfl <;> first | exact k2 _ h.1 | exact k2 _ h.2.1 | exact k _ h.2.2.2
  | bin _ w r q => intro x hx; simp [Op.nums] at hx; rcases hx with rfl | rfl | rfl <;> first | exact k _ h.1 | exact k _ h.2.1 | exact k _ h.2.2
  | say r => intro x hx; simp [Op.nums] at hx; subst hx; exact k _ h
  | stop r => intro x hx; simp [Op.nums] at hx; subst hx; exact k _ h
  | copy w r => intro x hx; simp [Op.nums] at hx; rcases hx with rfl | rfl <;> first | exact k _ h.1 | exact k _ h.2
  | not w r => intro x hx; simp [Op.nums] at hx; rcases hx with rfl | rfl <;> first | exact k _ h.1 | exact k _ h.2
  | get w r => intro x hx; simp [Op.nums] at hx; rcases hx with rfl | rfl <;> first | exact k _ h.1 | exact k _ h.2
  | put w r => intro x hx; simp [Op.nums] at hx; rcases hx with rfl | rfl <;> first | exact k _ h.1 | exact k _ h.2
/-- how many numbers stand behind a word -/
theorem many_eq {l o : List Lc} {x : Rw} (h0 : l[0]? = some (.bor x.d)) : ∃ z : Int, eGetP (eDict (edCons (pC (.str "num")) (eP (pC (.int 2))) (edCons (pC (.str "copy")) (eP (pC (.int 2))) (edCons (pC (.str "not")) (eP (pC (.int 2))) (edCons (pC (.str "get")) (eP (pC (.int 2))) (edCons (pC (.str "put")) (eP (pC (.int 2))) (edCons (pC (.str "say")) (eP (pC (.int 1))) (edCons (pC (.str "stop")) (eP (pC (.int 1))) (edCons (pC (.str "test")) (eP (pC (.int 3))) (edNil)))))))))) (pOp dIx (pVar 0) (pC (.int 1))) (pC (.int 0)) ⟨l, o⟩ = some (.ok (.int z) ⟨l, o⟩) ∧
    ∀ (l2 : List Lc), l2[0]? = some (.bor x.d) → l2[1]? = some (.bor (.int z)) → pIf (tB' (pOp dIn (pOp dIx (pVar 0) (pC (.int 1))) (pTup (aCons (pC (.str "add")) (aCons (pC (.str "take")) (aCons (pC (.str "times")) (aCons (pC (.str "over")) (aCons (pC (.str "rest")) (aCons (pC (.str "less")) (aCons (pC (.str "same")) (aNil))))))))))) (pC (.int 3)) (pVar 1) ⟨l2, o⟩ = some (.int x.o.many, false) ∨ pIf (tB' (pOp dIn (pOp dIx (pVar 0) (pC (.int 1))) (pTup (aCons (pC (.str "add")) (aCons (pC (.str "take")) (aCons (pC (.str "times")) (aCons (pC (.str "over")) (aCons (pC (.str "rest")) (aCons (pC (.str "less")) (aCons (pC (.str "same")) (aNil))))))))))) (pC (.int 3)) (pVar 1) ⟨l2, o⟩ = some (.int x.o.many, true) := by
  obtain ⟨t, op⟩ := x
  have ed : Rw.d ⟨t, op⟩ = .tup (.int t :: .str op.w :: op.as) := rfl
  rw [ed] at h0
  cases op with
  | bin k w r q => cases k <;> exact ⟨0, by simp [h0, Op.w, Bw.s], fun l2 a b => .inr (by rw [ed] at a; simp [a, b, Op.w, Bw.s, Op.many])⟩
  | num w n => exact ⟨2, by simp [h0, Op.w], fun l2 a b => .inl (by rw [ed] at a; simp [a, b, Op.w, Op.many])⟩
  | copy w n => exact ⟨2, by simp [h0, Op.w], fun l2 a b => .inl (by rw [ed] at a; simp [a, b, Op.w, Op.many])⟩
  | not w n => exact ⟨2, by simp [h0, Op.w], fun l2 a b => .inl (by rw [ed] at a; simp [a, b, Op.w, Op.many])⟩
  | get w n => exact ⟨2, by simp [h0, Op.w], fun l2 a b => .inl (by rw [ed] at a; simp [a, b, Op.w, Op.many])⟩
  | put w n => exact ⟨2, by simp [h0, Op.w], fun l2 a b => .inl (by rw [ed] at a; simp [a, b, Op.w, Op.many])⟩
  | say w => exact ⟨1, by simp [h0, Op.w], fun l2 a b => .inl (by rw [ed] at a; simp [a, b, Op.w, Op.many])⟩
  | stop w => exact ⟨1, by simp [h0, Op.w], fun l2 a b => .inl (by rw [ed] at a; simp [a, b, Op.w, Op.many])⟩
  | test a b r => exact ⟨3, by simp [h0, Op.w], fun l2 a b => .inl (by rw [ed] at a; simp [a, b, Op.w, Op.many])⟩
theorem lis_row_eq {cs : Cs} {x : Rw} {os : List Lc} (h : x.V) : d__law_is_row cs [.bor x.d] os = some (.ret (.bl true) [.no] os) := by
  obtain ⟨z, e1, e2⟩ := many_eq (l := [.bor x.d, .no, .no]) (o := os) (x := x) rfl
  have e2' := e2 [.bor x.d, .bor (.int z), .no] rfl rfl
  obtain ⟨t, o⟩ := x
  obtain ⟨⟨ht0, ht1⟩, hv⟩ := h
  have ta : 0 ≤ t := ht0
  have tb : t < 2000 := by have : t ≤ 1999 := ht1; omega
  replace hv : o.V := hv
  have ed : Rw.d ⟨t, o⟩ = .tup (.int t :: .str o.w :: o.nums.map D.int) := by rw [← as_nums]; rfl
  have hl : (o.nums.length : Int) = o.many := by rw [← as_len, as_nums]; simp
  have hl3 := nums_len (o := o)
  have hm0 : ¬ o.many = 0 := by cases o <;> simp [Op.many]
  have hlen : (o.nums.length : Int) + 1 + 1 = o.many + 2 := by omega
  have hl2 : ¬ ((o.nums.length : Int) + 1 + 1 < 2) := by omega
  have hl4 : ¬ (o.many + 2 < 2) := by omega
  have e3 : o.w ≠ "num" → eLc [2] (.one 2) (iP (pSl (pVar 0) (oE (pC (.int 2))) (oNo))) (b__law_is_row_C1 cs) (b__law_is_row_E1 cs) ⟨[.bor (.tup (.int t :: .str o.w :: o.nums.map D.int)), .bor (.int o.many), .no], os⟩ = some (.ok (.lst []) ⟨[.bor (.tup (.int t :: .str o.w :: o.nums.map D.int)), .bor (.int o.many), .no], os⟩) := fun hn => by
    have i1 : immL (o.nums.map D.int) = true := immL_map fun _ => rfl
    rw [eLc_pure (ds := o.nums.map D.int) (f := fun _ => none) (by simp [iP, i1, D.items]) (by simp) (fun d hd => by
      obtain ⟨r, hr, rfl⟩ := List.mem_map.1 hd
      obtain ⟨a, b⟩ := nums_rg hv hn r hr
      unfold b__law_is_row_C1
      simp [lcOne, is_part_eq, a, b]) (by simp; omega)]
    simp
  have eqn : eqB (.lst []) (.lst []) = some true := rfl
  unfold d__law_is_row
  refine (den_ev rfl).trans ?_
  unfold b__law_is_row
  rw [ed] at e1 e2' ⊢
  have fin : ∀ (z' : Bool), pIf (tB' (pOp dIn (pOp dIx (pVar 0) (pC (.int 1))) (pTup (aCons (pC (.str "add")) (aCons (pC (.str "take")) (aCons (pC (.str "times")) (aCons (pC (.str "over")) (aCons (pC (.str "rest")) (aCons (pC (.str "less")) (aCons (pC (.str "same")) (aNil))))))))))) (pC (.int 3)) (pVar 1) ⟨[.bor (.tup (.int t :: .str o.w :: o.nums.map D.int)), .bor (.int z), .no], os⟩ = some (.int o.many, z') → True := fun _ _ => trivial
  generalize (pIf (tB' (pOp dIn (pOp dIx (pVar 0) (pC (.int 1))) (pTup (aCons (pC (.str "add")) (aCons (pC (.str "take")) (aCons (pC (.str "times")) (aCons (pC (.str "over")) (aCons (pC (.str "rest")) (aCons (pC (.str "less")) (aCons (pC (.str "same")) (aNil))))))))))) (pC (.int 3)) (pVar 1)) = PI at e2'
  generalize (eGetP (eDict (edCons (pC (.str "num")) (eP (pC (.int 2))) (edCons (pC (.str "copy")) (eP (pC (.int 2))) (edCons (pC (.str "not")) (eP (pC (.int 2))) (edCons (pC (.str "get")) (eP (pC (.int 2))) (edCons (pC (.str "put")) (eP (pC (.int 2))) (edCons (pC (.str "say")) (eP (pC (.int 1))) (edCons (pC (.str "stop")) (eP (pC (.int 1))) (edCons (pC (.str "test")) (eP (pC (.int 3))) (edNil)))))))))) (pOp dIx (pVar 0) (pC (.int 1))) (pC (.int 0))) = EG at e1
  clear fin
  simp at e1 e2'
  by_cases hn : o.w = "num"
  · have : ∃ w n, o = .num w n := by
      cases o with
      | num w n => exact ⟨w, n, rfl⟩
      | bin k _ _ _ => cases k <;> simp [Op.w, Bw.s] at hn
      | _ => simp [Op.w] at hn
    obtain ⟨w, n, rfl⟩ := this
    obtain ⟨⟨w0, w1⟩, ⟨n0, n1⟩⟩ := hv
    have w2 : w < 2000 := by omega
    simp [Op.nums, Op.w, Op.many] at e1 e2'
    rcases e2' with e2' | e2' <;> simp [is_part_eq, ta, tb, e1, e2', w0, w2, n0, n1, Op.nums, Op.w]
  · have e3' := e3 hn
    by_cases htst : o.w = "test"
    · have : ∃ a b r, o = .test a b r := by
        cases o with
        | test a b r => exact ⟨a, b, r, rfl⟩
        | bin k _ _ _ => cases k <;> simp [Op.w, Bw.s] at htst
        | _ => simp [Op.w] at htst
      obtain ⟨a, b, r, rfl⟩ := this
      obtain ⟨⟨a0, a1⟩, ⟨b0, b1⟩, hab, _⟩ := hv
      have na : ¬ (0 : Int) = a := by omega
      have nb : ¬ (0 : Int) = b := by omega
      have ec : cut [D.int t, .str "test", .int a, .int b, .int r] (some 2) (some 4) = [.int a, .int b] := rfl
      have ei : inSeq (.int 0) [.int a, .int b] = some false := by
        rw [show [D.int a, .int b] = [a, b].map D.int from rfl, inSeq_ints]; simp [na, nb]
      simp [Op.nums, Op.w, Op.many] at e1 e2' e3'
      rcases e2' with e2' | e2' <;> simp [is_part_eq, ta, tb, e1, e2', e3', eqn, hab, ec, ei, Op.nums, Op.w]
    · rcases e2' with e2' | e2' <;> simp [is_part_eq, ta, tb, e1, e2', e3', eqn, hn, htst, hm0, hlen, hl2, hl4]
theorem bad_goes {cs : Cs} {p : Piece} {many : Nat} {c2 c3 : Lc} {os : List Lc} (h : GsV p.gs many) : ∃ c5, forGo (.one 5) (b__law_bad_piece_L1 cs) (p.gs.map gD) ⟨[.bor p.d, .bor (.int many), c2, c3, .bor (.tup (p.gs.map gD)), .no], os⟩ = some (.nx ⟨[.bor p.d, .bor (.int many), c2, c3, .bor (.tup (p.gs.map gD)), c5], os⟩) := by
  obtain ⟨s', ⟨c5, hc, rfl⟩, e⟩ := for_inv (T := .one 5) (body := b__law_bad_piece_L1 cs) (ds := p.gs.map gD) (k := 0)
    (ok := fun _ s => ∃ c5, isFree c5 ∧ s = ⟨[.bor p.d, .bor (.int many), c2, c3, .bor (.tup (p.gs.map gD)), c5], os⟩) (s := ⟨[.bor p.d, .bor (.int many), c2, c3, .bor (.tup (p.gs.map gD)), .no], os⟩) ⟨.no, isFree_no, rfl⟩ (by
      rintro i d hd s ⟨c5, hc, rfl⟩
      have hm := List.mem_of_getElem? hd
      obtain ⟨g, hg, rfl⟩ := List.mem_map.1 hm
      obtain ⟨⟨a0, a1⟩, b0, b1⟩ := h.ok g hg
      have a2 : g.1 < 2000 := by omega
      refine ⟨⟨[.bor p.d, .bor (.int many), c2, c3, .bor (.tup (p.gs.map gD)), .bor (gD g)], os⟩, ⟨[.bor p.d, .bor (.int many), c2, c3, .bor (.tup (p.gs.map gD)), .bor (gD g)], os⟩, by simp [setBO_free hc], ?_, ⟨_, isFree_bor, rfl⟩⟩
      unfold b__law_bad_piece_L1
      by_cases hz : 0 ≤ g.2
      · simp [gD, is_part_eq, a0, a2, hz, b1]
      · have : g.2 = -1 := by omega
        simp [gD, is_part_eq, a0, a2, this])
  exact ⟨c5, e⟩
theorem bad_piece_eq {cs : Cs} {p : Piece} {many : Nat} {os : List Lc} (h : p.V many) : d__law_bad_piece cs [.bor p.d, .bor (.int many)] os = some (.ret .non [.no, .no] os) := by
  have ep : p.d = .tup [.tup (p.rs.map Rw.d), .tup (p.gs.map gD)] := rfl
  have i1 : immL (p.rs.map Rw.d) = true := immL_map fun _ => Rw.d_imm
  have i2 : immL (p.gs.map gD) = true := immL_map fun _ => gD_imm
  have hl : ¬ ((1500 : Int) < p.rs.length) := by have := h.rn; omega
  have hrn := h.rn
  have g1 : (1 : Int) ≤ p.gs.length := by have := h.gs.n1; omega
  have g8 : (p.gs.length : Int) ≤ 8 := by have := h.gs.n8; omega
  obtain ⟨gl, hgl, hg0⟩ := h.gs.la
  have el : (p.gs.map gD).getLast? = some (gD gl) := by rw [List.getLast?_map, hgl]; rfl
  have e1 : eLc [3] (.one 3) (iR1 (eaCons (eP (pCall dLen (aCons (pOp dIx (pVar 0) (pC (.int 0))) (aNil)))) (eaNil))) (b__law_bad_piece_C1 cs) (b__law_bad_piece_E1 cs) ⟨[.bor p.d, .bor (.int many), .no, .no, .no, .no], os⟩ = some (.ok (.lst []) ⟨[.bor p.d, .bor (.int many), .no, .no, .no, .no], os⟩) := by
    rw [eLc_pure (ds := rng 0 p.rs.length) (f := fun _ => none) (by
      rw [iR1_of (j := p.rs.length) (s1 := ⟨[.bor p.d, .bor (.int many), .no, .no, .no, .no], os⟩) (by simp [ep]) (by omega) (by omega)]
      simp) (by simp) (fun d hd => by
      obtain ⟨i, hi⟩ := List.getElem?_of_mem hd
      obtain ⟨hlt, rfl⟩ := rng_get hi
      have e0 : (0 : Int) + (i : Int) = i := by omega
      have ex : (p.rs.map Rw.d)[i]? = some (p.rs[i]).d := by rw [List.getElem?_map, List.getElem?_eq_getElem hlt]; rfl
      have er : ∀ os, d__law_is_row cs [.bor (p.rs[i]).d] os = _ := fun os => lis_row_eq (cs := cs) (h.rw _ (List.getElem_mem hlt))
      unfold b__law_bad_piece_C1
      rw [e0]
      simp [lcOne, ep, ex, er]) (by simp; omega)]
    simp
  have eqn : eqB (.lst []) (.lst []) = some true := rfl
  obtain ⟨c5, e2⟩ := bad_goes (cs := cs) (p := p) (many := many) (c2 := .own (.lst [])) (c3 := .no) (os := os) h.gs
  unfold d__law_bad_piece
  refine (den_ev rfl).trans ?_
  unfold b__law_bad_piece
  rw [ep] at e1 e2 ⊢
  simp [hl, e1, eqn, i2, g1, g8, sFor, e2, el]
  simp [gD, hg0]
theorem bad_tested_eq {cs : Cs} {t : Tst} {os : List Lc} (h : t.V) : d__law_bad_tested cs [.bor t.d] os = some (.ret .non [.no] os) := by
  have ed : t.d = .tup [.int t.ins, .int t.names, .tup (t.ps.map Piece.d)] := rfl
  have i1 : immL (t.ps.map Piece.d) = true := immL_map fun _ => Piece.d_imm
  have h1 : (1 : Int) ≤ t.ps.length := by have := h.p1; omega
  have h9 : (t.ps.length : Int) ≤ 999 := by have := h.p9; omega
  have a0 := h.i0
  have a3 : t.ins < 4 := by have := h.i3; omega
  have b0 : 0 ≤ t.names := by have := h.nm; omega
  have b9 : t.names < 100 := by have := h.n9; omega
  have bi : ¬ t.names < t.ins := by have := h.nm; omega
  have hp9 := h.p9
  obtain ⟨s', ⟨c1, c2, hc1, hc2, rfl⟩, e⟩ := for_inv (T := .one 1) (body := b__law_bad_tested_L1 cs) (ds := rng 0 t.ps.length) (k := 0)
    (ok := fun _ s => ∃ c1 c2, isFree c1 ∧ isFree c2 ∧ s = ⟨[.bor t.d, c1, c2], os⟩) (s := ⟨[.bor t.d, .no, .no], os⟩) ⟨.no, .no, isFree_no, isFree_no, rfl⟩ (by
      rintro i d hd s ⟨c1, c2, hc1, hc2, rfl⟩
      obtain ⟨hlt, rfl⟩ := rng_get hd
      have e0 : (0 : Int) + (i : Int) = i := by omega
      have ex : (t.ps.map Piece.d)[i]? = some (t.ps[i]).d := by rw [List.getElem?_map, List.getElem?_eq_getElem hlt]; rfl
      have er : ∀ os, d__law_bad_piece cs [.bor (t.ps[i]).d, .bor (.int t.ps.length)] os = _ := fun os => bad_piece_eq (cs := cs) (h.ok _ (List.getElem_mem hlt))
      refine ⟨⟨[.bor t.d, .bor (.int i), c2], os⟩, ⟨[.bor t.d, .bor (.int i), .bor .non], os⟩, by rw [e0]; simp [setBO_free hc1], ?_, ⟨_, _, isFree_bor, isFree_bor, rfl⟩⟩
      unfold b__law_bad_tested_L1
      simp [ed, ex, er, putO_free hc2])
  have er : iR1 (eaCons (eP (pCall dLen (aCons (pOp dIx (pVar 0) (pC (.int 2))) (aNil)))) (eaNil)) ⟨[.bor t.d, .no, .no], os⟩ = some (.ok (rng 0 t.ps.length, true) ⟨[.bor t.d, .no, .no], os⟩) := by
    rw [iR1_of (j := t.ps.length) (s1 := ⟨[.bor t.d, .no, .no], os⟩) (by simp [ed]) (by omega) (by omega)]
    simp
  unfold d__law_bad_tested
  refine (den_ev rfl).trans ?_
  unfold b__law_bad_tested
  rw [ed] at e er ⊢
  simp [is_part_eq, a0, a3, b0, b9, bi, h1, h9, sFor, er, e]
end Kt
set_option Elab.async false
set_option linter.all false
set_option maxRecDepth 100000
set_option maxHeartbeats 4000000
/-! tested programs that can be are let by -/
namespace Kt
open PySem PySem.Spec PyProof.Rows L2 Tr Dn
theorem is_number_eq {cs : Cs} {x lo hi : Int} {os : List Lc} : d_is_number cs [.bor (.int x), .bor (.int lo), .bor (.int hi)] os = some (.ret (.bl (decide (lo ≤ x ∧ x ≤ hi))) [.no, .no, .no] os) := by
  unfold d_is_number
  refine (den_ev rfl).trans ?_
  unfold b_is_number
  by_cases h1 : lo ≤ x <;> by_cases h2 : x ≤ hi <;> simp [h1, h2]
theorem shape_eq {cs : Cs} {o : Op} {os : List Lc} : d_shape_of cs [.bor (.str o.w)] os = some (.ret (.str o.sh) [.no] os) := by
  unfold d_shape_of
  refine (den_ev rfl).trans ?_
  unfold b_shape_of tab_SHAPES
  cases o with
  | bin k w r q => cases k <;> simp [Op.w, Op.sh, Bw.s]
  | _ => simp [Op.w, Op.sh, lookup_cons', dOfV]
noncomputable def ppW (cs : Cs) : ET := (tP' (tNot' (tB' (pFn (d_is_number cs) (aCons (pVar 3) (aCons (pCall dInt (aCons (pOp dEq (pVar 2) (pC (.str "p"))) (aNil))) (aCons (pOp dIx (pC (.tab tab_MOSTS)) (pVar 2)) (aNil))))))))
theorem pp_one {cs : Cs} {x z : Lc} {os : List Lc} {kd : String} {p lo hi : Int} (hk : tab_MOSTS.lookup (kd : Str) = some (.int hi)) (hlo : (if kd = "p" then 1 else 0) = lo) (h0 : lo ≤ p) (h1 : p ≤ hi) :
    lcOne [2, 3] (.tup [2, 3]) (ppW cs) (eNm 3) (.tup [.str kd, .int p]) ⟨[x, z, .no, .no], os⟩ = some (none, ⟨[x, z, .no, .no], os⟩) := by
  subst hlo
  unfold ppW
  simp [lcOne, hk, dOfV, is_number_eq, h0, h1]
theorem is_row_eq {cs : Cs} {x : Rw} {os : List Lc} (h : x.V) : d_is_row cs [.bor x.d] os = some (.ret (.bl true) [.no] os) := by
  obtain ⟨t, o⟩ := x
  obtain ⟨⟨ht0, ht1⟩, h⟩ := h
  simp only at ht0 ht1 h
  obtain ⟨s1, s2⟩ := sh_items (o := o)
  have e1 : ∀ os, d_shape_of cs [.bor (.str o.w)] os = _ := fun os => shape_eq
  have kw : tab_MOSTS.lookup ("w" : Str) = some (.int 1999) := rfl
  have kr : tab_MOSTS.lookup ("r" : Str) = some (.int 1999) := rfl
  have kn : tab_MOSTS.lookup ("n" : Str) = some (.int 10006) := rfl
  have kp : tab_MOSTS.lookup ("p" : Str) = some (.int 1999) := rfl
  have e2 : eLc [2, 3] (.tup [2, 3]) (iZp (pVar 1) (pSl (pVar 0) (oE (pC (.int 2))) (oNo))) (ppW cs) (eNm 3) ⟨[.bor (Rw.d ⟨t, o⟩), .bor (.str o.sh), .no, .no], os⟩ = some (.ok (.lst []) ⟨[.bor (Rw.d ⟨t, o⟩), .bor (.str o.sh), .no, .no], os⟩) := by
    have hi : ∃ ds, iZp (pVar 1) (pSl (pVar 0) (oE (pC (.int 2))) (oNo)) ⟨[.bor (Rw.d ⟨t, o⟩), .bor (.str o.sh), .no, .no], os⟩ = some (.ok (ds, true) ⟨[.bor (Rw.d ⟨t, o⟩), .bor (.str o.sh), .no, .no], os⟩) ∧ ds.length ≤ 3 ∧ ∀ d ∈ ds, ∃ kd p lo hi, d = .tup [.str (Str.ofString kd), .int p] ∧ tab_MOSTS.lookup (kd : Str) = some (.int hi) ∧ (if kd = "p" then (1 : Int) else 0) = lo ∧ lo ≤ p ∧ p ≤ hi := by
      have W : ∀ p, Rg p → ∃ kd q lo hi, D.tup [.str (Str.ofString "w"), .int p] = .tup [.str (Str.ofString kd), .int q] ∧ tab_MOSTS.lookup (kd : Str) = some (.int hi) ∧ (if kd = "p" then (1 : Int) else 0) = lo ∧ lo ≤ q ∧ q ≤ hi := fun p hp => ⟨"w", p, 0, 1999, rfl, kw, by decide, hp.1, hp.2⟩
      have Rr : ∀ p, Rg p → ∃ kd q lo hi, D.tup [.str (Str.ofString "r"), .int p] = .tup [.str (Str.ofString kd), .int q] ∧ tab_MOSTS.lookup (kd : Str) = some (.int hi) ∧ (if kd = "p" then (1 : Int) else 0) = lo ∧ lo ≤ q ∧ q ≤ hi := fun p hp => ⟨"r", p, 0, 1999, rfl, kr, by decide, hp.1, hp.2⟩
      have Nn : ∀ p, Nb p → ∃ kd q lo hi, D.tup [.str (Str.ofString "n"), .int p] = .tup [.str (Str.ofString kd), .int q] ∧ tab_MOSTS.lookup (kd : Str) = some (.int hi) ∧ (if kd = "p" then (1 : Int) else 0) = lo ∧ lo ≤ q ∧ q ≤ hi := fun p hp => ⟨"n", p, 0, 10006, rfl, kn, by decide, hp.1, by have := hp.2; omega⟩
      have Pp : ∀ p, Tg p → ∃ kd q lo hi, D.tup [.str (Str.ofString "p"), .int p] = .tup [.str (Str.ofString kd), .int q] ∧ tab_MOSTS.lookup (kd : Str) = some (.int hi) ∧ (if kd = "p" then (1 : Int) else 0) = lo ∧ lo ≤ q ∧ q ≤ hi := fun p hp => ⟨"p", p, 1, 1999, rfl, kp, by decide, hp.1, hp.2⟩
      cases o with
      | num w n => exact ⟨[.tup [.str "w", .int w], .tup [.str "n", .int n]], by (simp [Dn.iZp, Rw.d, Op.as, D.items, zipL]; rfl), by simp, by intro d hd; simp at hd; rcases hd with rfl | rfl <;> first | exact W _ h.1 | exact Nn _ h.2⟩
      | copy w n => exact ⟨[.tup [.str "w", .int w], .tup [.str "r", .int n]], by (simp [Dn.iZp, Rw.d, Op.as, D.items, zipL]; rfl), by simp, by intro d hd; simp at hd; rcases hd with rfl | rfl <;> first | exact W _ h.1 | exact Rr _ h.2⟩
      | not w n => exact ⟨[.tup [.str "w", .int w], .tup [.str "r", .int n]], by (simp [Dn.iZp, Rw.d, Op.as, D.items, zipL]; rfl), by simp, by intro d hd; simp at hd; rcases hd with rfl | rfl <;> first | exact W _ h.1 | exact Rr _ h.2⟩
      | get w n => exact ⟨[.tup [.str "w", .int w], .tup [.str "r", .int n]], by (simp [Dn.iZp, Rw.d, Op.as, D.items, zipL]; rfl), by simp, by intro d hd; simp at hd; rcases hd with rfl | rfl <;> first | exact W _ h.1 | exact Rr _ h.2⟩
      | put w n => exact ⟨[.tup [.str "r", .int w], .tup [.str "r", .int n]], by (simp [Dn.iZp, Rw.d, Op.as, D.items, zipL]; rfl), by simp, by intro d hd; simp at hd; rcases hd with rfl | rfl <;> first | exact Rr _ h.1 | exact Rr _ h.2⟩
      | say w => exact ⟨[.tup [.str "r", .int w]], by (simp [Dn.iZp, Rw.d, Op.as, D.items, zipL]; rfl), by simp, by intro d hd; simp at hd; subst hd; exact Rr _ h⟩
      | stop w => exact ⟨[.tup [.str "r", .int w]], by (simp [Dn.iZp, Rw.d, Op.as, D.items, zipL]; rfl), by simp, by intro d hd; simp at hd; subst hd; exact Rr _ h⟩
      | test a b r => exact ⟨[.tup [.str "p", .int a], .tup [.str "p", .int b], .tup [.str "r", .int r]], by (simp [Dn.iZp, Rw.d, Op.as, D.items, zipL]; rfl), by simp, by intro d hd; simp at hd; rcases hd with rfl | rfl | rfl <;> first | exact Pp _ h.1 | exact Pp _ h.2.1 | exact Rr _ h.2.2.2⟩
      | bin k w r q => exact ⟨[.tup [.str "w", .int w], .tup [.str "r", .int r], .tup [.str "r", .int q]], by (simp [Dn.iZp, Rw.d, Op.as, D.items, zipL]; rfl), by simp, by intro d hd; simp at hd; rcases hd with rfl | rfl | rfl <;> first | exact W _ h.1 | exact Rr _ h.2.1 | exact Rr _ h.2.2⟩
    obtain ⟨ds, h1, h2, h3⟩ := hi
    have := eLc_pure (vs := [2, 3]) (T := .tup [2, 3]) (cond := ppW cs) (elt := eNm 3) (f := fun _ => none) h1 (by simp) (fun d hd => by
      obtain ⟨kd, p, lo, hi, rfl, a1, a2, a3, a4⟩ := h3 d hd
      exact pp_one (cs := cs) a1 a2 a3 a4) (by omega)
    rw [this]
    simp
  unfold d_is_row
  refine (den_ev rfl).trans ?_
  unfold b_is_row
  unfold ppW at e2
  have ed : Rw.d ⟨t, o⟩ = .tup (.int t :: .str o.w :: o.as) := rfl
  have hl : o.sh.length ≤ 10000000 := by rw [s1]; cases o <;> simp [Op.as]
  have eqn : eqB (.lst []) (.lst []) = some true := rfl
  have hlast : o.w = "test" → ∃ a b r, o = .test a b r := by
    cases o with
    | bin k w r q => cases k <;> simp [Op.w, Bw.s]
    | test a b r => intro _; exact ⟨a, b, r, rfl⟩
    | _ => simp [Op.w]
  have ha : ∃ a0 r0, o.as = a0 :: r0 := by cases o <;> exact ⟨_, _, rfl⟩
  simp only [ed] at e2
  have n1 : ¬ ((o.as.length : Int) + 1 + 1 < 2) := by omega
  have n2 : ((o.as.length : Int) + 1 + 1 = o.as.length + 2) := by omega
  have n3 : ¬ ((o.as.length : Int) + 2 < 2) := by omega
  have hl2 : o.as.length ≤ 10000000 := by rw [← s1]; exact hl
  by_cases hw : o.w = "test"
  · obtain ⟨a, b, r, rfl⟩ := hlast hw
    have hab := h.2.2.1
    simp only [Op.w, Op.as] at e1 e2 s1
    simp [e1, is_number_eq, ht0, ht1, e2, ed, s1, hl, eqn, Op.as, Op.w, hab]
  · simp [e1, is_number_eq, ht0, ht1, e2, ed, s1, hl, hl2, eqn, hw, n1, n2, n3]
theorem are_goes_eq {cs : Cs} {gs : List (Int × Int)} {many : Nat} {os : List Lc} (h : GsV gs many) : d_are_goes cs [.bor (.tup (gs.map gD)), .bor (.int many)] os = some (.ret (.bl true) [.no, .no] os) := by
  have h1 : (1 : Int) ≤ gs.length := by have := h.n1; omega
  have h8 : (gs.length : Int) ≤ 8 := by have := h.n8; omega
  obtain ⟨g, hl, hg⟩ := h.la
  have el : (gs.map gD).getLast? = some (gD g) := by rw [List.getLast?_map, hl]; rfl
  have key : ∀ body : SV, body = (sSeq (sIf (tP' (tOr' (tNot' (tB' (pIsi "tuple" (pVar 2)))) (tOr' (tB' (pOp dNe (pCall dLen (aCons (pVar 2) (aNil))) (pC (.int 2)))) (tNot' (tB' (pFn (d_is_number cs) (aCons (pOp dIx (pVar 2) (pC (.int 0))) (aCons (pC (.int 0)) (aCons (pC (.int 1999)) (aNil)))))))))) (sSeq (sRet (eP (pC (.bl false))))
 (sNil)) (sNil))
 (sSeq (sIf (tP' (tNot' (tB' (pFn (d_is_number cs) (aCons (pOp dIx (pVar 2) (pC (.int 1))) (aCons (pC (.int (-1))) (aCons (pOp dSub (pVar 1) (pC (.int 1))) (aNil)))))))) (sSeq (sRet (eP (pC (.bl false))))
 (sNil)) (sNil))
 (sNil))) → ∃ s', (∃ c, isFree c ∧ s' = ⟨[.bor (.tup (gs.map gD)), .bor (.int many), c], os⟩) ∧ forGo (.one 2) body (gs.map gD) ⟨[.bor (.tup (gs.map gD)), .bor (.int many), .no], os⟩ = some (.nx s') := fun body hb => by
    refine for_same (ok := fun s' => ∃ c, isFree c ∧ s' = ⟨[.bor (.tup (gs.map gD)), .bor (.int many), c], os⟩) ⟨_, .inr rfl, rfl⟩ ?_
    rintro d hd s ⟨c, hc, rfl⟩
    obtain ⟨g, hg, rfl⟩ := List.mem_map.1 hd
    obtain ⟨⟨a0, a1⟩, b0, b1⟩ := h.ok g hg
    have b1' : g.2 ≤ (many : Int) - 1 := by omega
    refine ⟨⟨[.bor (.tup (gs.map gD)), .bor (.int many), .bor (gD g)], os⟩, ⟨[.bor (.tup (gs.map gD)), .bor (.int many), .bor (gD g)], os⟩, ?_, ?_, ⟨_, .inl ⟨_, rfl⟩, rfl⟩⟩
    · rcases hc with ⟨z, rfl⟩ | rfl <;> simp
    · subst hb
      simp [gD, is_number_eq, a0, a1, b0, b1']
  obtain ⟨s', ⟨c, hc, rfl⟩, e⟩ := key _ rfl
  unfold d_are_goes
  refine (den_ev rfl).trans ?_
  unfold b_are_goes
  simp [h1, h8, sFor, iV, D.items, e, el]
  simp [gD, hg]
theorem need_piece_eq {cs : Cs} {p : Piece} {n : Int} {many : Nat} {os : List Lc} (h : p.V many) : d_need_piece cs [.bor (.int n), .bor p.d, .bor (.int many)] os = some (.ret .non [.no, .no, .no] os) := by
  have ed : p.d = .tup [.tup (p.rs.map Rw.d), .tup (p.gs.map gD)] := rfl
  have h1 : ¬ ((1500 : Int) < p.rs.length) := by have := h.rn; omega
  have eg : ∀ os, d_are_goes cs [.bor (.tup (p.gs.map gD)), .bor (.int many)] os = _ := fun os => are_goes_eq h.gs
  have i1 : immL (p.rs.map Rw.d) = true := immL_map fun _ => Rw.d_imm
  have i2 : immL (p.gs.map gD) = true := immL_map fun _ => gD_imm
  have key : ∀ body : SV, body = (sSeq (sIf (tP' (tNot' (tB' (pFn (d_is_row cs) (aCons (pVar 4) (aNil)))))) (sSeq (fun _ => none)
 (sNil)) (sNil))
 (sNil)) → ∃ s', (∃ c c', isFree c ∧ isFree c' ∧ s' = ⟨[.bor (.int n), .bor p.d, .bor (.int many), c, c'], os⟩) ∧ forGo (.tup [3, 4]) body (enumL 0 (p.rs.map Rw.d)) ⟨[.bor (.int n), .bor p.d, .bor (.int many), .no, .no], os⟩ = some (.nx s') := fun body hb => by
    refine for_same (ok := fun s' => ∃ c c', isFree c ∧ isFree c' ∧ s' = ⟨[.bor (.int n), .bor p.d, .bor (.int many), c, c'], os⟩) ⟨_, _, .inr rfl, .inr rfl, rfl⟩ ?_
    rintro d hd s ⟨c, c', hc, hc', rfl⟩
    obtain ⟨j, e, he, rfl⟩ := enumL_mem hd
    obtain ⟨x, hx, rfl⟩ := List.mem_map.1 he
    have er : ∀ os, d_is_row cs [.bor x.d] os = _ := fun os => is_row_eq (h.rw x hx)
    refine ⟨⟨[.bor (.int n), .bor p.d, .bor (.int many), .bor (.int j), .bor x.d], os⟩, ⟨[.bor (.int n), .bor p.d, .bor (.int many), .bor (.int j), .bor x.d], os⟩, ?_, ?_, ⟨_, _, .inl ⟨_, rfl⟩, .inl ⟨_, rfl⟩, rfl⟩⟩
    · rcases hc with ⟨z, rfl⟩ | rfl <;> rcases hc' with ⟨z', rfl⟩ | rfl <;> simp
    · subst hb
      simp [er]
  obtain ⟨s', ⟨c, c', _, _, rfl⟩, e⟩ := key _ rfl
  unfold d_need_piece
  refine (den_ev rfl).trans ?_
  unfold b_need_piece
  simp only [ed] at e
  simp [ed, h1, sFor, Dn.iEn, D.items, e, eg, i1, i2]
theorem need_tested_eq {cs : Cs} {t : Tst} {os : List Lc} (h : t.V) : d_need_tested cs [.bor t.d] os = some (.ret .non [.no] os) := by
  have ed : t.d = .tup [.int t.ins, .int t.names, .tup (t.ps.map Piece.d)] := rfl
  have i1 : immL (t.ps.map Piece.d) = true := immL_map fun _ => Piece.d_imm
  have h1 : (1 : Int) ≤ t.ps.length := by have := h.p1; omega
  have h9 : (t.ps.length : Int) ≤ 999 := by have := h.p9; omega
  have key : ∀ body : SV, body = (sSeq (sExpr (eP (pFn (d_need_piece cs) (aCons (pVar 4) (aCons (pVar 5) (aCons (pCall dLen (aCons (pVar 3) (aNil))) (aNil)))))))
 (sNil)) → ∃ s', (∃ c c', isFree c ∧ isFree c' ∧ s' = ⟨[.bor t.d, .bor (.int t.ins), .bor (.int t.names), .bor (.tup (t.ps.map Piece.d)), c, c'], os⟩) ∧ forGo (.tup [4, 5]) body (enumL 0 (t.ps.map Piece.d)) ⟨[.bor t.d, .bor (.int t.ins), .bor (.int t.names), .bor (.tup (t.ps.map Piece.d)), .no, .no], os⟩ = some (.nx s') := fun body hb => by
    refine for_same (ok := fun s' => ∃ c c', isFree c ∧ isFree c' ∧ s' = ⟨[.bor t.d, .bor (.int t.ins), .bor (.int t.names), .bor (.tup (t.ps.map Piece.d)), c, c'], os⟩) ⟨_, _, .inr rfl, .inr rfl, rfl⟩ ?_
    rintro d hd s ⟨c, c', hc, hc', rfl⟩
    obtain ⟨j, e, he, rfl⟩ := enumL_mem hd
    obtain ⟨x, hx, rfl⟩ := List.mem_map.1 he
    have er : ∀ os, d_need_piece cs [.bor (.int j), .bor x.d, .bor (.int t.ps.length)] os = _ := fun os => need_piece_eq (h.ok x hx)
    refine ⟨⟨[.bor t.d, .bor (.int t.ins), .bor (.int t.names), .bor (.tup (t.ps.map Piece.d)), .bor (.int j), .bor x.d], os⟩, ⟨[.bor t.d, .bor (.int t.ins), .bor (.int t.names), .bor (.tup (t.ps.map Piece.d)), .bor (.int j), .bor x.d], os⟩, ?_, ?_, ⟨_, _, .inl ⟨_, rfl⟩, .inl ⟨_, rfl⟩, rfl⟩⟩
    · rcases hc with ⟨z, rfl⟩ | rfl <;> rcases hc' with ⟨z', rfl⟩ | rfl <;> simp
    · subst hb
      simp [er]
  obtain ⟨s', ⟨c, c', _, _, rfl⟩, e⟩ := key _ rfl
  unfold d_need_tested
  refine (den_ev rfl).trans ?_
  unfold b_need_tested
  simp only [ed] at e
  simp [ed, h1, h9, sFor, iEnV, D.items, e, i1, is_number_eq, h.i0, h.i3, h.nm, h.n9]
end Kt
set_option Elab.async false
set_option linter.all false
set_option maxRecDepth 100000
set_option maxHeartbeats 4000000
/-! rows and pieces are compared; what a row reads, writes, makes -/
namespace Kt
open PySem PySem.Spec PyProof.Rows L2 Tr Dn
theorem Bw.s_inj {a b : Bw} (h : a.s = b.s) : a = b := by cases a <;> cases b <;> simp [Bw.s] at h <;> rfl
theorem Op.inj {o p : Op} (h1 : o.w = p.w) (h2 : o.as = p.as) : o = p := by
  cases o with
  | bin k w r q =>
    cases p with
    | bin k' w' r' q' =>
      have := Bw.s_inj h1
      simp [Op.as] at h2
      obtain ⟨a, b, c⟩ := h2
      subst this a b c
      rfl
    | _ => exfalso; cases k <;> simp [Op.w, Bw.s] at h1
  | _ =>
    cases p with
    | bin k' w' r' q' => exfalso; cases k' <;> simp [Op.w, Bw.s] at h1
    | _ => first | (exfalso; simp [Op.w] at h1; done) | (simp [Op.as] at h2 ⊢; exact h2)
theorem Rw.inj {x y : Rw} (h : x.d = y.d) : x = y := by
  obtain ⟨t, o⟩ := x
  obtain ⟨t', o'⟩ := y
  simp [Rw.d] at h
  obtain ⟨h1, h2, h3⟩ := h
  have := Op.inj h2 h3
  subst h1 this
  rfl
theorem gD_inj {x y : Int × Int} (h : gD x = gD y) : x = y := by
  obtain ⟨a, b⟩ := x
  obtain ⟨c, d⟩ := y
  simp [gD] at h
  rw [h.1, h.2]
theorem map_inj {α : Type} {f : α → D} (hf : ∀ x y, f x = f y → x = y) {xs ys : List α} : xs.map f = ys.map f ↔ xs = ys := List.map_inj_right hf
theorem Piece.inj {x y : Piece} (h : x.d = y.d) : x = y := by
  obtain ⟨a, b⟩ := x
  obtain ⟨c, d⟩ := y
  simp [Piece.d, map_inj (fun _ _ => Rw.inj), map_inj (fun _ _ => gD_inj)] at h
  rw [h.1, h.2]
theorem Tst.inj {x y : Tst} (h : x.d = y.d) : x = y := by
  obtain ⟨a, b, c⟩ := x
  obtain ⟨a', b', c'⟩ := y
  simp [Tst.d, map_inj (fun _ _ => Piece.inj)] at h
  rw [h.1, h.2.1, h.2.2]
theorem Rw.nb {x : Rw} : x.d.nb = true := by
  obtain ⟨t, o⟩ := x
  have hw : PyData.strOk o.w = true := by
    cases o with
    | bin k _ _ _ => cases k <;> simp [Op.w, Bw.s]
    | _ => simp [Op.w]
  cases o <;> simp [Rw.d, Op.as, hw]
theorem Rw.dep {x : Rw} : x.d.dep ≤ 1 := by
  obtain ⟨t, o⟩ := x
  cases o <;> simp [Rw.d, Op.as]
theorem gD_nb {g : Int × Int} : (gD g).nb = true := rfl
theorem gD_dep {g : Int × Int} : (gD g).dep ≤ 1 := by simp [gD]
theorem Piece.nb {p : Piece} : p.d.nb = true := by
  simp [Piece.d, nbL_map (f := Rw.d) fun _ => Rw.nb, nbL_map (f := gD) fun _ => gD_nb]
theorem Piece.dep {p : Piece} : p.d.dep ≤ 3 := by
  have a := depL_map (f := Rw.d) (xs := p.rs) fun _ => Rw.dep
  have b := depL_map (f := gD) (xs := p.gs) fun _ => gD_dep
  simp [Piece.d]
  omega
theorem Tst.nb {t : Tst} : t.d.nb = true := by
  simp [Tst.d, nbL_map (f := Piece.d) fun _ => Piece.nb]
theorem Tst.dep {t : Tst} : t.d.dep ≤ 5 := by
  have a := depL_map (f := Piece.d) (xs := t.ps) fun _ => Piece.dep
  simp [Tst.d]
  omega
theorem eq_tst {t u : Tst} : ∃ b, eqB t.d u.d = some b ∧ (b = true ↔ t = u) := by
  obtain ⟨b, h1, h2⟩ := eqB_nb (d := t.d) (e := u.d) (.inl ⟨_, rfl⟩) Tst.nb Tst.nb (by have := Tst.dep (t := t); omega) (by have := Tst.dep (t := u); omega)
  exact ⟨b, h1, h2.trans ⟨Tst.inj, fun h => by rw [h]⟩⟩
theorem eq_pieces {ps qs : List Piece} : ∃ b, eqB (.tup (ps.map Piece.d)) (.tup (qs.map Piece.d)) = some b ∧ (b = true ↔ ps = qs) := by
  have a := depL_map (f := Piece.d) (xs := ps) fun _ => Piece.dep
  have c := depL_map (f := Piece.d) (xs := qs) fun _ => Piece.dep
  obtain ⟨b, h1, h2⟩ := eqB_nb (d := .tup (ps.map Piece.d)) (e := .tup (qs.map Piece.d)) (.inl ⟨_, rfl⟩) (nbL_map fun _ => Piece.nb) (nbL_map fun _ => Piece.nb) (by simp; omega) (by simp; omega)
  refine ⟨b, h1, h2.trans ?_⟩
  simp [map_inj (fun _ _ => Piece.inj)]
/-! what a row makes, reads, writes -/
def Op.mk' : Op → List Int
  | .test a b _ => [a, b]
  | _ => []
def Op.wr : Op → List Int
  | .num w _ => [w] | .copy w _ => [w] | .not w _ => [w] | .get w _ => [w] | .bin _ w _ _ => [w]
  | _ => []
/-- the zip of a shape and what stands in a row -/
theorem zip_row {cs : Cs} {x : Rw} {c1 c2 : Lc} {os : List Lc} : ∃ ks : List String, ks.length = x.o.as.length ∧ Dn.iZp (pFn (d_shape_of cs) (aCons (pOp dIx (pVar 0) (pC (.int 1))) (aNil))) (pSl (pVar 0) (oE (pC (.int 2))) (oNo)) ⟨[.bor x.d, c1, c2], os⟩ =
    some (.ok (zipL (ks.map fun k => D.str (Str.ofString k)) x.o.as, true) ⟨[.bor x.d, c1, c2], os⟩) ∧ ks = (match x.o with
    | .num .. => ["w", "n"] | .copy .. => ["w", "r"] | .not .. => ["w", "r"] | .get .. => ["w", "r"]
    | .put .. => ["r", "r"] | .say .. => ["r"] | .stop .. => ["r"] | .test .. => ["p", "p", "r"] | .bin .. => ["w", "r", "r"]) := by
  obtain ⟨t, o⟩ := x
  have e1 : ∀ os, d_shape_of cs [.bor (.str o.w)] os = _ := fun os => shape_eq
  obtain ⟨s1, s2⟩ := sh_items (o := o)
  have ed : Rw.d ⟨t, o⟩ = .tup (.int t :: .str o.w :: o.as) := rfl
  refine ⟨_, ?_, ?_, rfl⟩
  · cases o <;> rfl
  · cases o <;> simp [Dn.iZp, ed, e1, s2, Op.as, zipL]
end Kt
set_option Elab.async false
set_option linter.all false
set_option maxRecDepth 100000
set_option maxHeartbeats 4000000
/-! lean: one round -/
namespace Kt
open PySem PySem.Spec PyProof.Rows L2 Tr Dn
theorem makes_eq {cs : Cs} {x : Rw} {os : List Lc} : d_makes cs [.bor x.d] os = some (.ret (.lst (x.o.mk'.map D.int)) [.no] os) := by
  obtain ⟨ks, h1, h2, h3⟩ := zip_row (cs := cs) (x := x) (c1 := .no) (c2 := .no) (os := os)
  have e : lcGo [1, 2] (.tup [1, 2]) (b_makes_C1 cs) (b_makes_E1 cs) (zipL (ks.map fun k => D.str (Str.ofString k)) x.o.as) [] ⟨[.bor x.d, .no, .no], os⟩ = some (.ok (x.o.mk'.map D.int) ⟨[.bor x.d, .no, .no], os⟩) := by
    subst h3
    obtain ⟨t, o⟩ := x
    unfold b_makes_C1 b_makes_E1
    cases o <;> simp [lcGo, Op.as, Op.mk', zipL]
  have e2 := eLc_go h2 (by simp) e
  unfold d_makes
  refine (den_ev rfl).trans ?_
  unfold b_makes
  simp [e2]
theorem reads_eq {cs : Cs} {x : Rw} {os : List Lc} : d_reads cs [.bor x.d] os = some (.ret (.lst (x.o.rd.map D.int)) [.no] os) := by
  obtain ⟨ks, h1, h2, h3⟩ := zip_row (cs := cs) (x := x) (c1 := .no) (c2 := .no) (os := os)
  have e : lcGo [1, 2] (.tup [1, 2]) (b_reads_C1 cs) (b_reads_E1 cs) (zipL (ks.map fun k => D.str (Str.ofString k)) x.o.as) [] ⟨[.bor x.d, .no, .no], os⟩ = some (.ok (x.o.rd.map D.int) ⟨[.bor x.d, .no, .no], os⟩) := by
    subst h3
    obtain ⟨t, o⟩ := x
    unfold b_reads_C1 b_reads_E1
    cases o <;> simp [lcGo, Op.as, Op.rd, zipL]
  have e2 := eLc_go h2 (by simp) e
  unfold d_reads
  refine (den_ev rfl).trans ?_
  unfold b_reads
  simp [e2]
/-! which rows nobody needs -/
def Piece.used (p : Piece) : List Int := p.rs.map (·.t) ++ p.gs.map (·.1)
def Bw.quiet : Bw → Bool
  | .over => false
  | .rest => false
  | _ => true
def Op.quiet : Op → Bool
  | .num .. => true
  | .copy .. => true
  | .not .. => true
  | .bin k .. => k.quiet
  | _ => false
def Op.reg : Op → Int
  | .num w _ => w | .copy w _ => w | .not w _ => w | .get w _ => w | .bin _ w _ _ => w
  | .put r _ => r | .say r => r | .stop r => r | .test a _ _ => a
def idle (R : List Int) (p : Piece) (x : Rw) : Bool := match x.o with
  | .test a b _ => !decide (a ∈ p.used) && !decide (b ∈ p.used)
  | o => o.quiet && !decide (o.reg ∈ R)
/-- a dict of what is read -/
structure Rd' (kvs : List (Int × Bool)) (R : List Int) : Prop where
  iff : ∀ k, (glook kvs k).isSome = decide (k ∈ R)
  len : kvs.length ≤ R.length
theorem used_lc {cs : Cs} {x : Rw} {p : Piece} {R : D} {c3 c5 c6 : Lc} {os : List Lc} (hl : p.rs.length ≤ 1000000) : eLc [4] (.one 4) (iP (pOp dIx (pVar 1) (pC (.int 0)))) (tYes') (b_is_idle_E2 cs) ⟨[.bor x.d, .bor p.d, .bor R, c3, .no, c5, c6], os⟩ = some (.ok (.lst ((p.rs.map (·.t)).map D.int)) ⟨[.bor x.d, .bor p.d, .bor R, c3, .no, c5, c6], os⟩) := by
  have i1 : immL (p.rs.map Rw.d) = true := immL_map fun _ => Rw.d_imm
  have ep : p.d = .tup [.tup (p.rs.map Rw.d), .tup (p.gs.map gD)] := rfl
  rw [eLc_pure (ds := p.rs.map Rw.d) (f := fun d => match d with | .tup (.int t :: _) => some (.int t) | _ => none) (by simp [iP, ep, D.items, i1]) (by simp) (fun d hd => by
    obtain ⟨y, _, rfl⟩ := List.mem_map.1 hd
    unfold b_is_idle_E2
    simp [lcOne, tYes', Rw.d]) (by simp; omega)]
  congr 3
  induction p.rs with
  | nil => rfl
  | cons y r ih => simp [Rw.d] at ih ⊢; exact ih
theorem goes_lc {cs : Cs} {x : Rw} {p : Piece} {R : D} {c3 c4 c6 : Lc} {os : List Lc} (hl : p.gs.length ≤ 1000000) : eLc [5] (.one 5) (iP (pOp dIx (pVar 1) (pC (.int 1)))) (tYes') (b_is_idle_E3 cs) ⟨[.bor x.d, .bor p.d, .bor R, c3, c4, .no, c6], os⟩ = some (.ok (.lst ((p.gs.map (·.1)).map D.int)) ⟨[.bor x.d, .bor p.d, .bor R, c3, c4, .no, c6], os⟩) := by
  have i1 : immL (p.gs.map gD) = true := immL_map fun _ => gD_imm
  have ep : p.d = .tup [.tup (p.rs.map Rw.d), .tup (p.gs.map gD)] := rfl
  rw [eLc_pure (ds := p.gs.map gD) (f := fun d => match d with | .tup (.int t :: _) => some (.int t) | _ => none) (by simp [iP, ep, D.items, i1]) (by simp) (fun d hd => by
    obtain ⟨y, _, rfl⟩ := List.mem_map.1 hd
    unfold b_is_idle_E3
    simp [lcOne, tYes', gD]) (by simp; omega)]
  congr 3
  induction p.gs with
  | nil => rfl
  | cons y r ih => simp [gD] at ih ⊢; exact ih
theorem quiet_in {o : Op} (h : ∀ a b r, o ≠ .test a b r) : inSeq (.str o.w) ([("num" : Str), ("copy" : Str), ("add" : Str), ("take" : Str), ("times" : Str), ("less" : Str), ("same" : Str), ("not" : Str)].map D.str) = some o.quiet := by
  cases o with
  | test a b r => exact absurd rfl (h a b r)
  | bin k _ _ _ => cases k <;> simp [Op.w, Op.quiet, Bw.s, Bw.quiet]
  | _ => simp [Op.w, Op.quiet]
theorem is_idle_eq {cs : Cs} {x : Rw} {p : Piece} {kvs : List (Int × Bool)} {R : List Int} {os : List Lc} (hR : Rd' kvs R) (h1 : p.rs.length ≤ 1000000) (h2 : p.gs.length ≤ 1000000) : d_is_idle cs [.bor x.d, .bor p.d, .bor (.dic (dI D.bl kvs))] os = some (.ret (.bl (idle R p x)) [.no, .no, .no] os) := by
  obtain ⟨t, o⟩ := x
  unfold d_is_idle
  refine (den_ev rfl).trans ?_
  by_cases ht : ∃ a b r, o = .test a b r
  · obtain ⟨a, b, r, rfl⟩ := ht
    have e1 := used_lc (cs := cs) (x := ⟨t, .test a b r⟩) (p := p) (R := .dic (dI D.bl kvs)) (c3 := .no) (c5 := .no) (c6 := .no) (os := os) h1
    have e2 := goes_lc (cs := cs) (x := ⟨t, .test a b r⟩) (p := p) (R := .dic (dI D.bl kvs)) (c3 := .no) (c4 := .no) (c6 := .no) (os := os) h2
    have i1 : immL ((p.rs.map (·.t)).map D.int) = true := immL_map fun _ => rfl
    have i2 : immL ((p.gs.map (·.1)).map D.int) = true := immL_map fun _ => rfl
    have hs : (p.rs.map (·.t)).length + (p.gs.map (·.1)).length ≤ 10000000 := by simp; omega
    have eu : (p.rs.map (·.t)).map D.int ++ (p.gs.map (·.1)).map D.int = p.used.map D.int := by simp [Piece.used]
    have em : ∀ os, d_makes cs [.bor (Rw.d ⟨t, .test a b r⟩)] os = _ := fun os => makes_eq (cs := cs) (x := ⟨t, .test a b r⟩)
    have e3 : eLc [6] (.one 6) (iP (pFn (d_makes cs) (aCons (pVar 0) (aNil)))) (b_is_idle_C1 cs) (b_is_idle_E1 cs) ⟨[.bor (Rw.d ⟨t, .test a b r⟩), .bor p.d, .bor (.dic (dI D.bl kvs)), .own (.lst (p.used.map D.int)), .no, .no, .no], os⟩ = some (.ok (.lst (([a, b].filter fun z => decide (z ∈ p.used)).map D.int)) ⟨[.bor (Rw.d ⟨t, .test a b r⟩), .bor p.d, .bor (.dic (dI D.bl kvs)), .own (.lst (p.used.map D.int)), .no, .no, .no], os⟩) := by
      refine eLc_go (s1 := ⟨[.bor (Rw.d ⟨t, .test a b r⟩), .bor p.d, .bor (.dic (dI D.bl kvs)), .own (.lst (p.used.map D.int)), .no, .no, .no], os⟩) (s2 := ⟨[.bor (Rw.d ⟨t, .test a b r⟩), .bor p.d, .bor (.dic (dI D.bl kvs)), .own (.lst (p.used.map D.int)), .no, .no, .no], os⟩) (ds := [.int a, .int b]) (by simp [iP, em, Op.mk']) (by simp) ?_
      unfold b_is_idle_C1 b_is_idle_E1
      by_cases ha : a ∈ p.used <;> by_cases hb : b ∈ p.used <;> simp [lcGo, ha, hb]
    have e4 : eqB (.lst (([a, b].filter fun z => decide (z ∈ p.used)).map D.int)) (.lst []) = some (!decide (a ∈ p.used) && !decide (b ∈ p.used)) := by
      rw [show (D.lst []) = .lst (([] : List Int).map D.int) from rfl, eqB_ints]
      by_cases ha : a ∈ p.used <;> by_cases hb : b ∈ p.used <;> simp [ha, hb]
    have ed : Rw.d ⟨t, .test a b r⟩ = .tup [.int t, .str "test", .int a, .int b, .int r] := rfl
    unfold b_is_idle
    rw [ed] at e1 e2 e3 ⊢
    simp only [List.map_map] at e1 e2 i1 i2 eu
    simp at hs
    simp [e1, e2, e3, e4, i1, i2, hs, eu, idle]
  · have ht' : ∀ a b r, o ≠ .test a b r := fun a b r e => ht ⟨a, b, r, e⟩
    have hw : o.w ≠ "test" := by
      cases o with
      | test a b r => exact absurd rfl (ht' a b r)
      | bin k w r q => cases k <;> simp [Op.w, Bw.s]
      | _ => simp [Op.w]
    have hq := quiet_in ht'
    have ha : ∃ a0 r0, o.as = .int a0 :: r0 ∧ a0 = o.reg := by
      cases o <;> exact ⟨_, _, rfl, rfl⟩
    obtain ⟨a0, r0, ha, rfl⟩ := ha
    have hi : idle R p ⟨t, o⟩ = (o.quiet && !decide (o.reg ∈ R)) := by
      cases o with
      | test a b r => exact absurd rfl (ht' a b r)
      | _ => rfl
    have ed : Rw.d ⟨t, o⟩ = .tup (.int t :: .str o.w :: .int o.reg :: r0) := by rw [← ha]; rfl
    have hk := hR.iff o.reg
    rw [hi, ed]
    unfold b_is_idle
    simp at hq
    cases hqq : o.quiet
    · rw [hqq] at hq
      simp [hw, hq]
    · rw [hqq] at hq
      simp [hw, hq, hk]
end Kt
set_option Elab.async false
set_option linter.all false
set_option maxRecDepth 100000
set_option maxHeartbeats 4000000
/-! rows that nobody needs: nothing shows if they are left out -/
namespace Kt
open PySem PySem.Spec PyProof.Rows L2 Tr Dn
def readsAll (ps : List Piece) : List Int := ps.flatMap fun p => p.rs.flatMap fun x => x.o.rd
def round (ps : List Piece) : List Piece := ps.map fun p => ⟨p.rs.filter fun x => !idle (readsAll ps) p x, p.gs⟩
/-- as far as R (registers) and U (tests) show -/
structure Sim (R U : List Int) (m m' : Mac) : Prop where
  rg : ∀ r ∈ R, m.held r = m'.held r
  ts : ∀ t ∈ U, m.holds t = m'.holds t
  cl : m.cells = m'.cells
  sd : m.said = m'.said
  fn : m.fin = m'.fin
  fu : m.fuel = m'.fuel
  lk : m'.looked ≤ m.looked
  dn : m'.done ≤ m.done
theorem held_set {m : Mac} {w v r : Int} : (m.setR w v).held r = if w = r then v else m.held r := by
  unfold Mac.held Mac.setR
  rw [glook_gput]
  split <;> rfl
theorem Sim.setR {R U : List Int} {m m' : Mac} (h : Sim R U m m') {w v : Int} : Sim R U (m.setR w v) (m'.setR w v) :=
  ⟨fun r hr => by rw [held_set, held_set, h.rg r hr], h.ts, h.cl, h.sd, h.fn, h.fu, h.lk, h.dn⟩
theorem Sim.act {R U : List Int} {m m' : Mac} (h : Sim R U m m') {o : Op} (hr : ∀ r ∈ o.rd, r ∈ R) : Sim R U (m.act o) (m'.act o) := by
  have fin : ∀ f, Sim R U { m with fin := f } { m' with fin := f } := fun f => ⟨h.rg, h.ts, h.cl, h.sd, rfl, h.fu, h.lk, h.dn⟩
  cases o with
  | num w n => exact h.setR
  | copy w r =>
    show Sim R U (m.setR w (m.held r)) (m'.setR w (m'.held r))
    rw [h.rg r (hr r (by simp [Op.rd]))]; exact h.setR
  | not w r =>
    show Sim R U (m.setR w (if m.held r = 0 then 1 else 0)) (m'.setR w (if m'.held r = 0 then 1 else 0))
    rw [h.rg r (hr r (by simp [Op.rd]))]; exact h.setR
  | get w r =>
    have e := h.rg r (hr r (by simp [Op.rd]))
    rw [Mac.act, Mac.act, e]
    split
    · exact fin _
    · rw [show m.cells.getD (m'.held r).toNat 0 = m'.cells.getD (m'.held r).toNat 0 by rw [h.cl]]
      exact h.setR
  | put r q =>
    have e := h.rg r (hr r (by simp [Op.rd]))
    have e2 := h.rg q (hr q (by simp [Op.rd]))
    rw [Mac.act, Mac.act, e, e2]
    split
    · exact fin _
    · exact ⟨h.rg, h.ts, by show m.cells.set _ _ = m'.cells.set _ _; rw [h.cl], h.sd, h.fn, h.fu, h.lk, h.dn⟩
  | say r =>
    have e := h.rg r (hr r (by simp [Op.rd]))
    rw [Mac.act, Mac.act, e]
    exact ⟨h.rg, h.ts, h.cl, by show m.said ++ _ = m'.said ++ _; rw [h.sd], h.fn, h.fu, h.lk, h.dn⟩
  | stop r =>
    have e := h.rg r (hr r (by simp [Op.rd]))
    rw [Mac.act, Mac.act, e]
    exact fin _
  | test a b r => exact h
  | bin k w r q =>
    have e := h.rg r (hr r (by simp [Op.rd]))
    have e2 := h.rg q (hr q (by simp [Op.rd]))
    rw [Mac.act, Mac.act, e, e2]
    cases k.res (m'.held r) (m'.held q) with
    | none => exact fin _
    | some v => exact h.setR
theorem holds_put {m : Mac} {ts : List (Int × Bool)} {a : Int} {v : Bool} {t : Int} : ((glook (gput ts a v) t).getD false) = if a = t then v else (glook ts t).getD false := by
  rw [glook_gput]
  split <;> rfl
theorem row_eq {m : Mac} {x : Rw} : m.row x = (match x.o with
    | .test a b r => { m with tests := gput (gput m.tests a (m.holds x.t && decide (m.held r ≠ 0))) b (m.holds x.t && decide (m.held r = 0)), looked := m.looked + 1, done := m.done + if m.holds x.t then 1 else 0 }
    | o => { (if m.holds x.t then m.act o else m) with looked := m.looked + 1, done := m.done + if m.holds x.t then 1 else 0 }) := by
  rw [row_count]
  obtain ⟨t, o⟩ := x
  by_cases ht : ∃ a b r, o = .test a b r
  · obtain ⟨a, b, r, rfl⟩ := ht
    rfl
  · have ht' : ∀ a b r, o ≠ .test a b r := fun a b r e => ht ⟨a, b, r, e⟩
    rw [row0_act ht']
    cases o with
    | test a b r => exact absurd rfl (ht' a b r)
    | _ => rfl
theorem Sim.count {R U : List Int} {m m' : Mac} (h : Sim R U m m') {a b c d : Nat} (h1 : b ≤ a) (h2 : d ≤ c) : Sim R U { m with looked := a, done := c } { m' with looked := b, done := d } :=
  ⟨h.rg, h.ts, h.cl, h.sd, h.fn, h.fu, h1, h2⟩
/-- a row that stays -/
theorem Sim.row {R U : List Int} {m m' : Mac} (h : Sim R U m m') {x : Rw} (ht : x.t ∈ U) (hr : ∀ r ∈ x.o.rd, r ∈ R) : Sim R U (m.row x) (m'.row x) := by
  have l := h.lk
  have dn := h.dn
  have hh := h.ts x.t ht
  by_cases hx : ∃ a b r, x.o = .test a b r
  · obtain ⟨a, b, r, ho⟩ := hx
    have e := h.rg r (hr r (by rw [ho]; simp [Op.rd]))
    rw [row_eq, row_eq, ho]
    simp only [hh, e]
    refine ⟨h.rg, fun t htt => ?_, h.cl, h.sd, h.fn, h.fu, by simp; omega, by simp; omega⟩
    show (glook (gput (gput m.tests a _) b _) t).getD false = (glook (gput (gput m'.tests a _) b _) t).getD false
    rw [holds_put (m := m), holds_put (m := m), holds_put (m := m), holds_put (m := m)]
    have := h.ts t htt
    unfold Mac.holds at this
    rw [this]
  · have e0 : ∀ m : Mac, m.row x = { (if m.holds x.t then m.act x.o else m) with looked := m.looked + 1, done := m.done + if m.holds x.t then 1 else 0 } := fun m => by
      rw [row_eq]
      cases ho : x.o with
      | test a b r => exact absurd ⟨a, b, r, ho⟩ hx
      | _ => rfl
    rw [e0, e0, hh]
    split
    · exact (h.act hr).count (by omega) (by omega)
    · exact h.count (by omega) (by omega)
/-- a row that nobody needs -/
theorem Sim.skip {R U : List Int} {m m' : Mac} (h : Sim R U m m') {p : Piece} {x : Rw} (hU : U = p.used) (hi : idle R p x = true) : Sim R U (m.row x) m' ∧ (m.row x).fin = m.fin := by
  have l := h.lk
  have dn := h.dn
  rw [row_eq]
  by_cases hx : ∃ a b r, x.o = .test a b r
  · obtain ⟨a, b, r, ho⟩ := hx
    rw [ho]
    unfold idle at hi
    rw [ho] at hi
    simp at hi
    refine ⟨⟨h.rg, fun t htt => ?_, h.cl, h.sd, h.fn, h.fu, by simp; omega, by simp; omega⟩, rfl⟩
    show (glook (gput (gput m.tests a _) b _) t).getD false = _
    rw [holds_put (m := m), holds_put (m := m)]
    have na : a ≠ t := fun e => hi.1 (by rw [e, ← hU]; exact htt)
    have nb : b ≠ t := fun e => hi.2 (by rw [e, ← hU]; exact htt)
    rw [if_neg nb, if_neg na]
    exact h.ts t htt
  · have hi' : x.o.quiet = true ∧ x.o.reg ∉ R := by
      unfold idle at hi
      cases ho : x.o with
      | test a b r => exact absurd ⟨a, b, r, ho⟩ hx
      | _ => rw [ho] at hi; simpa using hi
    have key : ∃ w v, x.o.reg = w ∧ m.act x.o = m.setR w v := by
      cases ho : x.o with
      | bin k w r q =>
        rw [ho] at hi'
        have hq := hi'.1
        cases k with
        | over => simp [Op.quiet, Bw.quiet] at hq
        | rest => simp [Op.quiet, Bw.quiet] at hq
        | _ => exact ⟨w, _, rfl, rfl⟩
      | num w n => exact ⟨w, _, rfl, rfl⟩
      | copy w r => exact ⟨w, _, rfl, rfl⟩
      | not w r => exact ⟨w, _, rfl, rfl⟩
      | test a b r => exact absurd ⟨a, b, r, ho⟩ hx
      | _ => rw [ho] at hi'; simp [Op.quiet] at hi'
    obtain ⟨w, v, hw, ha⟩ := key
    have e0 : (match x.o with
      | .test a b r => { m with tests := gput (gput m.tests a (m.holds x.t && decide (m.held r ≠ 0))) b (m.holds x.t && decide (m.held r = 0)), looked := m.looked + 1, done := m.done + if m.holds x.t then 1 else 0 }
      | o => ({ (if m.holds x.t then m.act o else m) with looked := m.looked + 1, done := m.done + if m.holds x.t then 1 else 0 } : Mac)) = { (if m.holds x.t then m.act x.o else m) with looked := m.looked + 1, done := m.done + if m.holds x.t then 1 else 0 } := by
      cases ho : x.o with
      | test a b r => exact absurd ⟨a, b, r, ho⟩ hx
      | _ => rfl
    rw [e0, ha]
    split
    · refine ⟨⟨fun r hr => ?_, h.ts, h.cl, h.sd, h.fn, h.fu, by simp; omega, by simp; omega⟩, rfl⟩
      show (m.setR w v).held r = _
      rw [held_set, if_neg (fun e => hi'.2 (by rw [hw, e]; exact hr))]
      exact h.rg r hr
    · exact ⟨⟨h.rg, h.ts, h.cl, h.sd, h.fn, h.fu, by simp; omega, by simp; omega⟩, rfl⟩
/-- all rows -/
theorem Sim.rows {R U : List Int} {p : Piece} (hU : U = p.used) : ∀ {rs : List Rw} {m m' : Mac}, Sim R U m m' → m.fin.isGo = true → (∀ x ∈ rs, x.t ∈ U) → (∀ x ∈ rs, ∀ r ∈ x.o.rd, r ∈ R) → Sim R U (m.rows rs) (m'.rows (rs.filter fun x => !idle R p x))
  | [], m, m', h, _, _, _ => h
  | x :: r, m, m', h, hg, ht, hr => by
    have ht' : ∀ y ∈ r, y.t ∈ U := fun y hy => ht y (List.mem_cons_of_mem _ hy)
    have hr' : ∀ y ∈ r, ∀ q ∈ y.o.rd, q ∈ R := fun y hy => hr y (List.mem_cons_of_mem _ hy)
    rw [List.filter_cons]
    cases hi : idle R p x with
    | true =>
      obtain ⟨h1, h2⟩ := h.skip hU hi
      rw [Mac.rows, if_pos (by rw [h2]; exact hg), if_neg (by simp)]
      exact Sim.rows hU h1 (by rw [h2]; exact hg) ht' hr'
    | false =>
      rw [if_pos (by simp)]
      have h1 := h.row (ht x List.mem_cons_self) (hr x List.mem_cons_self)
      rw [Mac.rows, Mac.rows, ← h1.fn]
      split
      · rename_i hg1
        exact Sim.rows hU h1 hg1 ht' hr'
      · exact h1
theorem Sim.goal {R U : List Int} {m m' : Mac} (h : Sim R U m m') {gs : List (Int × Int)} (hg : ∀ g ∈ gs, g.1 ∈ U) : m.goal gs = m'.goal gs := by
  have : gs.filter (fun g => m.holds g.1) = gs.filter (fun g => m'.holds g.1) := List.filter_congr fun g hg' => h.ts g.1 (hg g hg')
  unfold Mac.goal Mac.goals
  rw [this]
theorem Sim.through {R : List Int} {m m' : Mac} {k : Int} (h : Sim R [] m m') (hg : m.fin.isGo = true) {p : Piece} (hr : ∀ x ∈ p.rs, ∀ r ∈ x.o.rd, r ∈ R) :
    (m.through k p.rs p.gs).1 = (m'.through k (p.rs.filter fun x => !idle R p x) p.gs).1 ∧ Sim R [] (m.through k p.rs p.gs).2 (m'.through k (p.rs.filter fun x => !idle R p x) p.gs).2 := by
  have h0 : Sim R p.used { m with tests := [(0, true)] } { m' with tests := [(0, true)] } := ⟨h.rg, fun _ _ => rfl, h.cl, h.sd, h.fn, h.fu, h.lk, h.dn⟩
  have h1 := Sim.rows (p := p) rfl (rs := p.rs) h0 hg (fun x hx => List.mem_append_left _ (List.mem_map.2 ⟨x, hx, rfl⟩)) hr
  unfold Mac.through
  generalize Mac.rows { m with tests := [(0, true)] } p.rs = M at h1
  generalize Mac.rows { m' with tests := [(0, true)] } (p.rs.filter fun x => !idle R p x) = M' at h1
  have eg := h1.goal (gs := p.gs) (fun g hg' => List.mem_append_right _ (List.mem_map.2 ⟨g, hg', rfl⟩))
  have ef : M'.fin.isGo = M.fin.isGo := by rw [h1.fn]
  have eu : (M'.fuel = 0) = (M.fuel = 0) := by rw [h1.fu]
  simp only [ef, ← eg, eu]
  have w : Sim R [] M M' := ⟨h1.rg, by simp, h1.cl, h1.sd, h1.fn, h1.fu, h1.lk, h1.dn⟩
  have wf : ∀ f, Sim R [] { M with fin := f } { M' with fin := f } := fun f => ⟨w.rg, by simp, w.cl, w.sd, rfl, w.fu, w.lk, w.dn⟩
  split
  · split
    · exact ⟨rfl, wf _⟩
    · split
      · split
        · exact ⟨rfl, wf _⟩
        · exact ⟨rfl, ⟨w.rg, by simp, w.cl, w.sd, w.fn, by show M.fuel - 1 = M'.fuel - 1; rw [w.fu], w.lk, w.dn⟩⟩
      · exact ⟨rfl, w⟩
  · exact ⟨rfl, w⟩
theorem through_go {m m' : Mac} {n g : Int} {rs : List Rw} {gs : List (Int × Int)} (e : m.through n rs gs = (some g, m')) : m'.fin.isGo = true := by
  unfold Mac.through at e
  generalize Mac.rows { m with tests := [(0, true)] } rs = M at e
  simp only at e
  split at e
  · rename_i hf
    split at e
    · cases e
    · split at e
      · split at e
        · cases e
        · cases e; exact hf
      · cases e; exact hf
  · cases e
theorem Sim.run {ps : List Piece} : ∀ {n : Nat} {m m' M : Mac} {k : Int}, Sim (readsAll ps) [] m m' → m.fin.isGo = true → runM ps n m k = some M → ∃ M', runM (round ps) n m' k = some M' ∧ Sim (readsAll ps) [] M M'
  | 0, m, m', M, k, _, _, e => by cases e
  | n + 1, m, m', M, k, h, hg, e => by
    unfold runM at e ⊢
    cases hp : ps[k.toNat]? with
    | none => rw [hp] at e; cases e
    | some p =>
      rw [hp] at e
      have hm : p ∈ ps := List.mem_of_getElem? hp
      have hp' : (round ps)[k.toNat]? = some ⟨p.rs.filter fun x => !idle (readsAll ps) p x, p.gs⟩ := by
        unfold round
        rw [List.getElem?_map, hp]
        rfl
      rw [hp']
      simp only at e ⊢
      obtain ⟨h1, h2⟩ := h.through (k := k) hg (p := p) (fun x hx r hr => List.mem_flatMap.2 ⟨p, hm, List.mem_flatMap.2 ⟨x, hx, hr⟩⟩)
      cases et : m.through k p.rs p.gs with
      | mk a m1 =>
        cases et' : m'.through k (p.rs.filter fun x => !idle (readsAll ps) p x) p.gs with
        | mk a' m1' =>
          rw [et] at e h1 h2
          rw [et'] at h1 h2
          simp only at h1 h2
          subst h1
          cases a with
          | none =>
            simp only [Option.some.injEq] at e ⊢
            subst e
            exact ⟨m1', rfl, h2⟩
          | some g =>
            simp only at e ⊢
            exact Sim.run h2 (through_go et) e
end Kt
set_option Elab.async false
set_option linter.all false
set_option maxRecDepth 100000
set_option maxHeartbeats 4000000
/-! lean, by its code -/
namespace Kt
open PySem PySem.Spec PyProof.Rows L2 Tr Dn
/-! all rows -/
def rowsAt (k : Int) : Int → List Rw → List (Int × Int × Rw)
  | _, [] => []
  | j, x :: r => (k, j, x) :: rowsAt k (j + 1) r
def allR : Int → List Piece → List (Int × Int × Rw)
  | _, [] => []
  | k, p :: r => rowsAt k 0 p.rs ++ allR (k + 1) r
def aD (e : Int × Int × Rw) : D := .tup [.int e.1, .int e.2.1, e.2.2.d]
@[simp] theorem aD_imm {e : Int × Int × Rw} : (aD e).imm = true := by simp [aD]
theorem rowsAt_len {k : Int} : ∀ {rs : List Rw} {j : Int}, (rowsAt k j rs).length = rs.length
  | [], _ => rfl
  | _ :: r, j => by rw [rowsAt, List.length_cons, List.length_cons, rowsAt_len]
theorem rowsAt_rows {k : Int} : ∀ {rs : List Rw} {j : Int}, (rowsAt k j rs).map (·.2.2) = rs
  | [], _ => rfl
  | _ :: r, j => by rw [rowsAt, List.map_cons, rowsAt_rows]
theorem allR_rows : ∀ {ps : List Piece} {k : Int}, (allR k ps).map (·.2.2) = ps.flatMap (·.rs)
  | [], _ => rfl
  | p :: r, k => by rw [allR, List.map_append, rowsAt_rows, allR_rows, List.flatMap_cons]
theorem allR_len {N R : Nat} : ∀ {ps : List Piece} {k : Int}, (∀ p ∈ ps, p.rs.length ≤ R) → ps.length ≤ N → (allR k ps).length ≤ N * R
  | [], _, _, _ => by simp [allR]
  | p :: r, k, h, hn => by
    cases N with
    | zero => simp at hn
    | succ N =>
      rw [allR, List.length_append, rowsAt_len, Nat.succ_mul]
      have a := h p List.mem_cons_self
      have b := allR_len (N := N) (k := k + 1) (fun p hp => h p (List.mem_cons_of_mem _ hp)) (by simpa using hn)
      omega
theorem all_lc {cs : Cs} {p : Piece} {k : Int} {P c1 : Lc} {os : List Lc} (hl : p.rs.length ≤ 1000000) : eLc [4, 5] (.tup [4, 5]) (Dn.iEn (pOp dIx (pVar 3) (pC (.int 0)))) (tYes') (b_all_rows_E1 cs) ⟨[P, c1, .bor (.int k), .bor p.d, .no, .no], os⟩ = some (.ok (.lst ((rowsAt k 0 p.rs).map aD)) ⟨[P, c1, .bor (.int k), .bor p.d, .no, .no], os⟩) := by
  have i1 : immL (p.rs.map Rw.d) = true := immL_map fun _ => Rw.d_imm
  have ep : p.d = .tup [.tup (p.rs.map Rw.d), .tup (p.gs.map gD)] := rfl
  rw [eLc_pure (ds := enumL 0 (p.rs.map Rw.d)) (f := fun d => match d with | .tup [j, x] => some (.tup [.int k, j, x]) | _ => none) (by simp [Dn.iEn, ep, D.items, i1]) (by simp) (fun d hd => by
    obtain ⟨j, e, he, rfl⟩ := enumL_mem hd
    obtain ⟨x, hx, rfl⟩ := List.mem_map.1 he
    unfold b_all_rows_E1
    simp [lcOne, tYes']) (by rw [enumL_len]; simp; omega)]
  congr 3
  have : ∀ (rs : List Rw) (j : Int), (enumL j (rs.map Rw.d)).filterMap (fun d => match d with | .tup [j, x] => some (.tup [.int k, j, x]) | _ => none) = (rowsAt k j rs).map aD := fun rs => by
    induction rs with
    | nil => intro j; rfl
    | cons x r ih => intro j; rw [List.map_cons, enumL, List.filterMap_cons, rowsAt, List.map_cons, ← ih]; rfl
  exact this p.rs 0
theorem all_for {cs : Cs} {P : D} {os : List Lc} {N : Nat} : ∀ {ps : List Piece} {k : Int} {acc : List (Int × Int × Rw)} {c2 c3 : Lc}, (∀ p ∈ ps, p.rs.length ≤ 1500) → acc.length + ps.length * 1500 ≤ 9000000 → isFree c2 → isFree c3 →
    ∃ c2' c3', forGo (.tup [2, 3]) (b_all_rows_L1 cs) (enumL k (ps.map Piece.d)) ⟨[.bor P, .own (.lst (acc.map aD)), c2, c3, .no, .no], os⟩ = some (.nx ⟨[.bor P, .own (.lst ((acc ++ allR k ps).map aD)), c2', c3', .no, .no], os⟩)
  | [], k, acc, c2, c3, _, _, _, _ => ⟨c2, c3, by simp [enumL, forGo, allR]⟩
  | p :: r, k, acc, c2, c3, h, hl, f2, f3 => by
    have hp := h p List.mem_cons_self
    simp only [List.length_cons] at hl
    obtain ⟨c2', c3', e⟩ := all_for (cs := cs) (P := P) (os := os) (N := N) (ps := r) (k := k + 1) (acc := acc ++ rowsAt k 0 p.rs) (c2 := .bor (.int k)) (c3 := .bor p.d) (fun p hp => h p (List.mem_cons_of_mem _ hp)) (by rw [List.length_append, rowsAt_len]; omega) isFree_bor isFree_bor
    refine ⟨c2', c3', ?_⟩
    have e1 := all_lc (cs := cs) (p := p) (k := k) (P := .bor P) (c1 := .own (.lst (acc.map aD))) (os := os) (by omega)
    have hs : acc.length + (rowsAt k 0 p.rs).length ≤ 10000000 := by rw [rowsAt_len]; omega
    rw [List.map_cons, enumL, forGo]
    have e0 : bindT (.tup [2, 3]) (.tup [.int k, p.d]) ⟨[.bor P, .own (.lst (acc.map aD)), c2, c3, .no, .no], os⟩ = some ⟨[.bor P, .own (.lst (acc.map aD)), .bor (.int k), .bor p.d, .no, .no], os⟩ := by
      simp [setBO_free f2, setBO_free f3]
    rw [e0]
    simp only
    have e2 : b_all_rows_L1 cs ⟨[.bor P, .own (.lst (acc.map aD)), .bor (.int k), .bor p.d, .no, .no], os⟩ = some (.nx ⟨[.bor P, .own (.lst ((acc ++ rowsAt k 0 p.rs).map aD)), .bor (.int k), .bor p.d, .no, .no], os⟩) := by
      unfold b_all_rows_L1
      simp [e1, hs]
    rw [e2]
    simp only
    rw [e, allR, List.append_assoc]
theorem all_rows_eq {cs : Cs} {ps : List Piece} {os : List Lc} (h : ∀ p ∈ ps, p.rs.length ≤ 1500) (hl : ps.length ≤ 999) : d_all_rows cs [.bor (.tup (ps.map Piece.d))] os = some (.ret (.lst ((allR 0 ps).map aD)) [.no] os) := by
  obtain ⟨c2, c3, e⟩ := all_for (cs := cs) (P := .tup (ps.map Piece.d)) (os := os) (N := 0) (ps := ps) (k := 0) (acc := []) (c2 := .no) (c3 := .no) h (by simp; omega) isFree_no isFree_no
  unfold d_all_rows
  refine (den_ev rfl).trans ?_
  unfold b_all_rows
  simp at e
  simp [sFor, iEnV, D.items, e]
/-! what is read -/
def mergeI (kvs more : List (Int × Bool)) : List (Int × Bool) := more.foldl (fun a kv => gput a kv.1 kv.2) kvs
theorem mergeI_len : ∀ {more kvs : List (Int × Bool)}, (mergeI kvs more).length ≤ kvs.length + more.length
  | [], kvs => by simp [mergeI]
  | (k, v) :: r, kvs => by
    have a := mergeI_len (more := r) (kvs := gput kvs k v)
    have b := gput_len (kvs := kvs) (k := k) (v := v)
    show (mergeI (gput kvs k v) r).length ≤ _
    simp
    omega
theorem mergeI_look : ∀ {more kvs : List (Int × Bool)} {k : Int}, (glook (mergeI kvs more) k).isSome = ((glook kvs k).isSome || decide (k ∈ more.map (·.1)))
  | [], kvs, k => by simp [mergeI]
  | (j, v) :: r, kvs, k => by
    show (glook (mergeI (gput kvs j v) r) k).isSome = _
    rw [mergeI_look, glook_gput]
    by_cases h : j = k
    · subst h; simp
    · have h' : ¬ k = j := fun e => h e.symm
      simp [h, h']
theorem mergeD_dI : ∀ {more kvs : List (Int × Bool)}, mergeD (dI D.bl kvs) (dI D.bl more) = dI D.bl (mergeI kvs more)
  | [], kvs => rfl
  | (j, v) :: r, kvs => by
    show mergeD (gput (dI D.bl kvs) (.inl j) (.bl v)) (dI D.bl r) = dI D.bl (mergeI (gput kvs j v) r)
    rw [dI_putB, mergeD_dI]
theorem pairs_true : ∀ {rs : List Int}, Dn.pairsOf (rs.map fun r => D.tup [.int r, .bl true]) = some (dI D.bl (rs.map fun r => (r, true)))
  | [] => rfl
  | r :: t => by rw [List.map_cons, Dn.pairsOf, pairs_true]; rfl
theorem Rd'.more {kvs : List (Int × Bool)} {R rs : List Int} (h : Rd' kvs R) : Rd' (mergeI kvs (mergeI [] (rs.map fun r => (r, true)))) (R ++ rs) := by
  constructor
  · intro k
    rw [mergeI_look, h.iff]
    have e : ∀ k, decide (k ∈ (mergeI [] (rs.map fun r => (r, true))).map (·.1)) = decide (k ∈ rs) := fun k => by
      have a := mergeI_look (more := rs.map fun r => (r, true)) (kvs := []) (k := k)
      have b : (glook (mergeI [] (rs.map fun r => (r, true))) k).isSome = decide (k ∈ (mergeI [] (rs.map fun r => (r, true))).map (·.1)) := by
        generalize mergeI [] (rs.map fun r => (r, true)) = z
        induction z with
        | nil => rfl
        | cons y r ih =>
          obtain ⟨j, v⟩ := y
          rw [glook_cons]
          by_cases hj : j = k
          · subst hj; simp
          · have hj' : ¬ k = j := fun e => hj e.symm
            rw [if_neg hj, ih]; simp [hj']
      rw [← b, a]
      simp
    rw [e]
    simp [Bool.decide_or]
  · have a := mergeI_len (kvs := kvs) (more := mergeI [] (rs.map fun r => (r, true)))
    have b := mergeI_len (kvs := []) (more := rs.map fun r => (r, true))
    have c := h.len
    simp at b ⊢
    omega
theorem read_L2 {cs : Cs} {kvs : List (Int × Bool)} {R : List Int} {x : Rw} {T P c3 c4 c7 c8 : Lc} {os : List Lc} (h : Rd' kvs R) (hl : R.length ≤ 5000000) :
    b_lean_L2 cs ⟨[T, P, .own (.dic (dI D.bl kvs)), c3, c4, .bor x.d, .no, c7, c8], os⟩ = some (.nx ⟨[T, P, .own (.dic (dI D.bl (mergeI kvs (mergeI [] (x.o.rd.map fun r => (r, true)))))), c3, c4, .bor x.d, .no, c7, c8], os⟩) := by
  have er : ∀ os, d_reads cs [.bor x.d] os = _ := fun os => reads_eq (cs := cs) (x := x)
  have e1 : eLc [6] (.one 6) (iP (pFn (d_reads cs) (aCons (pVar 5) (aNil)))) (tYes') (b_lean_E2 cs) ⟨[T, P, .own (.dic (dI D.bl kvs)), c3, c4, .bor x.d, .no, c7, c8], os⟩ = some (.ok (.lst (x.o.rd.map fun r => D.tup [.int r, .bl true])) ⟨[T, P, .own (.dic (dI D.bl kvs)), c3, c4, .bor x.d, .no, c7, c8], os⟩) := by
    rw [eLc_pure (ds := x.o.rd.map D.int) (f := fun d => some (.tup [d, .bl true])) (by simp [iP, er]) (by simp) (fun d hd => by
      obtain ⟨r, _, rfl⟩ := List.mem_map.1 hd
      unfold b_lean_E2
      simp [lcOne, tYes']) (by have := rd_len (o := x.o); simp; omega)]
    congr 3
    induction x.o.rd with
    | nil => rfl
    | cons r t ih => rw [List.map_cons, List.filterMap_cons, List.map_cons, ih]
  have ed : dDict [.lst (x.o.rd.map fun r => D.tup [.int r, .bl true])] = some (.dic (dI D.bl (mergeI [] (x.o.rd.map fun r => (r, true)))), true) := by
    show (Dn.pairsOf _).map _ = _
    rw [pairs_true]
    show some (D.dic (mergeD [] (dI D.bl _)), true) = _
    rw [show ([] : List (Key × D)) = dI D.bl [] from rfl, mergeD_dI]
  have hs : kvs.length + (mergeI [] (x.o.rd.map fun r => (r, true))).length ≤ 10000000 := by
    have b := mergeI_len (kvs := []) (more := x.o.rd.map fun r => (r, true))
    have c := rd_len (o := x.o)
    have d := h.len
    simp at b
    omega
  unfold b_lean_L2
  simp [e1, ed, hs, mergeD_dI]
theorem read_for {cs : Cs} {T P c7 c8 : Lc} {os : List Lc} : ∀ {es : List (Int × Int × Rw)} {kvs : List (Int × Bool)} {R : List Int} {c3 c4 c5 : Lc}, Rd' kvs R → R.length + 2 * es.length ≤ 5000000 → isFree c3 → isFree c4 → isFree c5 →
    ∃ kvs' c3' c4' c5', (isFree c3' ∧ isFree c4' ∧ isFree c5') ∧ forGo (.tup [3, 4, 5]) (b_lean_L2 cs) (es.map aD) ⟨[T, P, .own (.dic (dI D.bl kvs)), c3, c4, c5, .no, c7, c8], os⟩ = some (.nx ⟨[T, P, .own (.dic (dI D.bl kvs')), c3', c4', c5', .no, c7, c8], os⟩) ∧ Rd' kvs' (R ++ es.flatMap fun e => e.2.2.o.rd)
  | [], kvs, R, c3, c4, c5, h, _, f3, f4, f5 => ⟨kvs, c3, c4, c5, ⟨f3, f4, f5⟩, rfl, by simpa using h⟩
  | e :: r, kvs, R, c3, c4, c5, h, hl, f3, f4, f5 => by
    simp only [List.length_cons] at hl
    have hrd := rd_len (o := e.2.2.o)
    have e1 := read_L2 (cs := cs) (x := e.2.2) (T := T) (P := P) (c3 := .bor (.int e.1)) (c4 := .bor (.int e.2.1)) (c7 := c7) (c8 := c8) (os := os) h (by omega)
    obtain ⟨kvs', c3', c4', c5', q, e2, h2⟩ := read_for (cs := cs) (T := T) (P := P) (c7 := c7) (c8 := c8) (os := os) (es := r) (h.more (rs := e.2.2.o.rd)) (by simp; omega) (isFree_bor (d := .int e.1)) (isFree_bor (d := .int e.2.1)) (isFree_bor (d := e.2.2.d))
    refine ⟨kvs', c3', c4', c5', q, ?_, by rw [List.flatMap_cons, ← List.append_assoc]; exact h2⟩
    rw [List.map_cons, forGo]
    have e0 : bindT (.tup [3, 4, 5]) (aD e) ⟨[T, P, .own (.dic (dI D.bl kvs)), c3, c4, c5, .no, c7, c8], os⟩ = some ⟨[T, P, .own (.dic (dI D.bl kvs)), .bor (.int e.1), .bor (.int e.2.1), .bor e.2.2.d, .no, c7, c8], os⟩ := by
      simp [aD, setBO_free f3, setBO_free f4, setBO_free f5]
    rw [e0]
    simp only
    rw [e1]
    exact e2
/-! what is left -/
theorem left_L1 {cs : Cs} {kvs : List (Int × Bool)} {R : List Int} {p : Piece} {acc : List Piece} {T P c3 c4 c5 c6 : Lc} {os : List Lc} (h : Rd' kvs R) (h1 : p.rs.length ≤ 1500) (h2 : p.gs.length ≤ 1000) (ha : acc.length ≤ 5000) (f5 : isFree c5) :
    b_lean_L1 cs ⟨[T, P, .own (.dic (dI D.bl kvs)), c3, c4, c5, c6, .own (.lst (acc.map Piece.d)), .bor p.d], os⟩ = some (.nx ⟨[T, P, .own (.dic (dI D.bl kvs)), c3, c4, .no, c6, .own (.lst ((acc ++ [Piece.mk (p.rs.filter fun x => !idle R p x) p.gs]).map Piece.d)), .bor p.d], os⟩) := by
  have i1 : immL (p.rs.map Rw.d) = true := immL_map fun _ => Rw.d_imm
  have i2 : immL (p.gs.map gD) = true := immL_map fun _ => gD_imm
  have ep : p.d = .tup [.tup (p.rs.map Rw.d), .tup (p.gs.map gD)] := rfl
  have ei : ∀ (x : Rw) os, d_is_idle cs [.bor x.d, .bor p.d, .bor (.dic (dI D.bl kvs))] os = _ := fun x os => is_idle_eq (cs := cs) (x := x) h (by omega) (by omega)
  have e1 : eLc [5] (.one 5) (iP (pOp dIx (pVar 8) (pC (.int 0)))) (b_lean_C1 cs) (b_lean_E1 cs) ⟨[T, P, .own (.dic (dI D.bl kvs)), c3, c4, c5, c6, .own (.lst (acc.map Piece.d)), .bor p.d], os⟩ = some (.ok (.lst ((p.rs.filter fun x => !idle R p x).map Rw.d)) ⟨[T, P, .own (.dic (dI D.bl kvs)), c3, c4, .no, c6, .own (.lst (acc.map Piece.d)), .bor p.d], os⟩) := by
    have key : ∀ x ∈ p.rs, lcOne [5] (.one 5) (b_lean_C1 cs) (b_lean_E1 cs) x.d ⟨[T, P, .own (.dic (dI D.bl kvs)), c3, c4, .no, c6, .own (.lst (acc.map Piece.d)), .bor p.d], os⟩ = some (if idle R p x then none else some x.d, ⟨[T, P, .own (.dic (dI D.bl kvs)), c3, c4, .no, c6, .own (.lst (acc.map Piece.d)), .bor p.d], os⟩) := fun x hx => by
      unfold b_lean_C1 b_lean_E1
      cases hi : idle R p x <;> simp [lcOne, ei, hi]
    have gen : ∀ (rs : List Rw) (ac : List D), (∀ x ∈ rs, x ∈ p.rs) → ac.length + rs.length ≤ 5000 → lcGo [5] (.one 5) (b_lean_C1 cs) (b_lean_E1 cs) (rs.map Rw.d) ac ⟨[T, P, .own (.dic (dI D.bl kvs)), c3, c4, .no, c6, .own (.lst (acc.map Piece.d)), .bor p.d], os⟩ = some (.ok (ac ++ (rs.filter fun x => !idle R p x).map Rw.d) ⟨[T, P, .own (.dic (dI D.bl kvs)), c3, c4, .no, c6, .own (.lst (acc.map Piece.d)), .bor p.d], os⟩) := fun rs => by
      induction rs with
      | nil => intro ac _ _; simp [lcGo]
      | cons x r ih =>
        intro ac hr hl
        simp only [List.length_cons] at hl
        rw [List.map_cons, lcGo_cons (key x (hr x List.mem_cons_self)) (by simp)]
        cases hi : idle R p x
        · show (if szOk ac.length then lcGo _ _ _ _ (r.map Rw.d) (ac ++ [x.d]) _ else none) = _
          rw [if_pos (by simp; omega), ih _ (fun y hy => hr y (List.mem_cons_of_mem _ hy)) (by simp; omega)]
          simp [hi]
        · show lcGo _ _ _ _ (r.map Rw.d) ac _ = _
          rw [ih _ (fun y hy => hr y (List.mem_cons_of_mem _ hy)) (by omega)]
          simp [hi]
    refine eLc_go (s1 := ⟨[T, P, .own (.dic (dI D.bl kvs)), c3, c4, c5, c6, .own (.lst (acc.map Piece.d)), .bor p.d], os⟩) (s2 := ⟨[T, P, .own (.dic (dI D.bl kvs)), c3, c4, .no, c6, .own (.lst (acc.map Piece.d)), .bor p.d], os⟩) (ds := p.rs.map Rw.d) (by simp [iP, ep, D.items, i1]) (by simp [unbP_free f5]) ?_
    have := gen p.rs [] (fun _ h => h) (by simp; omega)
    simpa using this
  have i3 : immL ((p.rs.filter fun x => !idle R p x).map Rw.d) = true := immL_map fun _ => Rw.d_imm
  have hs : acc.length ≤ 10000000 := by omega
  unfold b_lean_L1
  rw [ep] at e1 ⊢
  simp [e1, i2, i3, hs, dTuple, Piece.d]
theorem left_for {cs : Cs} {kvs : List (Int × Bool)} {R : List Int} {T P c3 c4 c6 : Lc} {os : List Lc} (h : Rd' kvs R) : ∀ {ps acc : List Piece} {c5 c8 : Lc}, (∀ p ∈ ps, p.rs.length ≤ 1500 ∧ p.gs.length ≤ 1000) → acc.length + ps.length ≤ 5000 → isFree c5 → isFree c8 →
    ∃ c5' c8', (isFree c5' ∧ isFree c8') ∧ forGo (.one 8) (b_lean_L1 cs) (ps.map Piece.d) ⟨[T, P, .own (.dic (dI D.bl kvs)), c3, c4, c5, c6, .own (.lst (acc.map Piece.d)), c8], os⟩ = some (.nx ⟨[T, P, .own (.dic (dI D.bl kvs)), c3, c4, c5', c6, .own (.lst ((acc ++ ps.map fun p => Piece.mk (p.rs.filter fun x => !idle R p x) p.gs).map Piece.d)), c8'], os⟩)
  | [], acc, c5, c8, _, _, f5, f8 => ⟨c5, c8, ⟨f5, f8⟩, by simp [forGo]⟩
  | p :: r, acc, c5, c8, hp, hl, f5, f8 => by
    simp only [List.length_cons] at hl
    obtain ⟨a1, a2⟩ := hp p List.mem_cons_self
    have e1 := left_L1 (cs := cs) (p := p) (acc := acc) (T := T) (P := P) (c3 := c3) (c4 := c4) (c5 := c5) (c6 := c6) (os := os) h a1 a2 (by omega) f5
    obtain ⟨c5', c8', q, e2⟩ := left_for h (cs := cs) (T := T) (P := P) (c3 := c3) (c4 := c4) (c6 := c6) (os := os) (ps := r) (acc := acc ++ [Piece.mk (p.rs.filter fun x => !idle R p x) p.gs]) (c5 := .no) (c8 := .bor p.d) (fun p hp' => hp p (List.mem_cons_of_mem _ hp')) (by simp; omega) isFree_no isFree_bor
    refine ⟨c5', c8', q, ?_⟩
    rw [List.map_cons, forGo]
    have e0 : bindT (.one 8) p.d ⟨[T, P, .own (.dic (dI D.bl kvs)), c3, c4, c5, c6, .own (.lst (acc.map Piece.d)), c8], os⟩ = some ⟨[T, P, .own (.dic (dI D.bl kvs)), c3, c4, c5, c6, .own (.lst (acc.map Piece.d)), .bor p.d], os⟩ := by
      simp [setBO_free f8]
    rw [e0]
    simp only
    rw [e1]
    simp only
    rw [e2]
    simp
theorem round_eq {ps : List Piece} : (ps.map fun p => (⟨p.rs.filter fun x => !idle (readsAll ps) p x, p.gs⟩ : Piece)) = round ps := rfl
theorem Rd'.congr {kvs : List (Int × Bool)} {R : List Int} (h : Rd' kvs R) {R' : List Int} (e : R = R') : Rd' kvs R' := e ▸ h
/-- one turn of the loop -/
theorem lean_L3 {cs : Cs} {t : Tst} {ps : List Piece} {e2 c3 c4 c5 e7 c8 : Lc} {os : List Lc} (h1 : ∀ p ∈ ps, p.rs.length ≤ 1500 ∧ p.gs.length ≤ 1000) (hl : ps.length ≤ 999) (p2 : noPar e2) (f3 : isFree c3) (f4 : isFree c4) (f5 : isFree c5) (p7 : noPar e7) (f8 : isFree c8) :
    ∃ g2 g3 g4 g5 g7 g8, (noPar g2 ∧ isFree g3 ∧ isFree g4 ∧ isFree g5 ∧ noPar g7 ∧ isFree g8) ∧
      (round ps = ps → b_lean_L3 cs ⟨[.bor t.d, .bor (.tup (ps.map Piece.d)), e2, c3, c4, c5, .no, e7, c8], os⟩ = some (.rt (Tst.d ⟨t.ins, t.names, ps⟩) ⟨[.bor t.d, .bor (.tup (ps.map Piece.d)), g2, g3, g4, g5, .no, g7, g8], os⟩)) ∧
      (round ps ≠ ps → b_lean_L3 cs ⟨[.bor t.d, .bor (.tup (ps.map Piece.d)), e2, c3, c4, c5, .no, e7, c8], os⟩ = some (.nx ⟨[.bor t.d, .bor (.tup ((round ps).map Piece.d)), g2, g3, g4, g5, .no, g7, g8], os⟩)) := by
  have hn := allR_len (N := 999) (R := 1500) (k := 0) (fun p hp => (h1 p hp).1) hl
  obtain ⟨kvs, c3', c4', c5', ⟨q3, q4, q5⟩, e1, hR⟩ := read_for (cs := cs) (T := .bor t.d) (P := .bor (.tup (ps.map Piece.d))) (c7 := e7) (c8 := c8) (os := os) (es := allR 0 ps) (kvs := []) (R := []) (c3 := c3) (c4 := c4) (c5 := c5) ⟨by intro k; rfl, by simp⟩ (by simp; omega) f3 f4 f5
  have hR' : Rd' kvs (readsAll ps) := hR.congr (by
    have : (allR 0 ps).flatMap (fun e => e.2.2.o.rd) = ((allR 0 ps).map (·.2.2)).flatMap (fun x => x.o.rd) := by rw [List.flatMap_map]
    rw [List.nil_append, this, allR_rows, List.flatMap_assoc]
    rfl)
  obtain ⟨c5'', c8', ⟨r5, r8⟩, e2'⟩ := left_for hR' (cs := cs) (T := .bor t.d) (P := .bor (.tup (ps.map Piece.d))) (c3 := c3') (c4 := c4') (c6 := .no) (os := os) (ps := ps) (acc := []) (c5 := c5') (c8 := c8) h1 (by simp; omega) q5 f8
  rw [List.nil_append, round_eq] at e2'
  obtain ⟨b, eb, hb⟩ := eq_pieces (ps := round ps) (qs := ps)
  have ea : ∀ os, d_all_rows cs [.bor (.tup (ps.map Piece.d))] os = _ := fun os => all_rows_eq (cs := cs) (fun p hp => (h1 p hp).1) hl
  have i1 : immL (ps.map Piece.d) = true := immL_map fun _ => Piece.d_imm
  have i2 : immL ((round ps).map Piece.d) = true := immL_map fun _ => Piece.d_imm
  have ed : t.d = .tup [.int t.ins, .int t.names, .tup (t.ps.map Piece.d)] := rfl
  refine ⟨.own (.dic (dI D.bl kvs)), c3', c4', c5'', .own (.lst ((round ps).map Piece.d)), c8', ⟨noPar_own, q3, q4, r5, noPar_own, r8⟩, fun hc => ?_, fun hc => ?_⟩
  · have z0 : dI D.bl [] = [] := rfl
    rw [z0] at e1
    simp only [List.map_nil] at e2'
    unfold b_lean_L3
    rw [ed] at e1 e2' ⊢
    have hbt : b = true := hb.2 hc
    subst hbt
    simp [putO_any p2, putO_any p7, sFor, iP, ea, D.items, e1, e2', eb, dTuple, i1, i2, Tst.d]
  · have z0 : dI D.bl [] = [] := rfl
    rw [z0] at e1
    simp only [List.map_nil] at e2'
    unfold b_lean_L3
    rw [ed] at e1 e2' ⊢
    have hbf : b = false := by
      cases b with
      | false => rfl
      | true => exact absurd (hb.1 rfl) hc
    subst hbf
    simp [putO_any p2, putO_any p7, sFor, iP, ea, D.items, e1, e2', eb, dTuple, i1, i2]
end Kt
set_option Elab.async false
set_option linter.all false
set_option maxRecDepth 100000
set_option maxHeartbeats 4000000
/-! lean: all rounds -/
namespace Kt
open PySem PySem.Spec PyProof.Rows L2 Tr Dn
def total (ps : List Piece) : Nat := (ps.map fun p => p.rs.length).sum
def cutBy (R : List Int) (p : Piece) : Piece := ⟨p.rs.filter fun x => !idle R p x, p.gs⟩
theorem round_map {ps : List Piece} : round ps = ps.map (cutBy (readsAll ps)) := rfl
theorem cut_total {R : List Int} : ∀ {ps : List Piece}, total (ps.map (cutBy R)) ≤ total ps ∧ (total (ps.map (cutBy R)) = total ps → ps.map (cutBy R) = ps)
  | [] => ⟨Nat.le_refl _, fun _ => rfl⟩
  | p :: r => by
    obtain ⟨a, b⟩ := cut_total (R := R) (ps := r)
    have e1 : total ((p :: r).map (cutBy R)) = (p.rs.filter fun x => !idle R p x).length + total (r.map (cutBy R)) := by simp [total, cutBy]
    have e2 : total (p :: r) = p.rs.length + total r := by simp [total]
    have c : (p.rs.filter fun x => !idle R p x).length ≤ p.rs.length := List.length_filter_le _ _
    rw [e1, e2]
    refine ⟨by omega, fun h => ?_⟩
    have h1 : (p.rs.filter fun x => !idle R p x).length = p.rs.length := by omega
    have h2 : p.rs.filter (fun x => !idle R p x) = p.rs := List.filter_eq_self.2 (fun x hx => by
      have := List.length_filter_eq_length_iff.1 h1 x hx
      exact this)
    rw [List.map_cons, b (by omega)]
    congr 1
    obtain ⟨rs, gs⟩ := p
    simp only [cutBy] at h2 ⊢
    rw [h2]
theorem round_total {ps : List Piece} : total (round ps) ≤ total ps ∧ (total (round ps) = total ps → round ps = ps) := cut_total
def roundN : Nat → List Piece → List Piece
  | 0, ps => ps
  | n + 1, ps => roundN n (round ps)
theorem roundN_fix {ps : List Piece} (h : round ps = ps) : ∀ n, roundN n ps = ps
  | 0 => rfl
  | n + 1 => by rw [roundN, h]; exact roundN_fix h n
theorem roundN_succ : ∀ {n : Nat} {ps : List Piece}, roundN (n + 1) ps = round (roundN n ps)
  | 0, _ => rfl
  | n + 1, ps => by rw [roundN, roundN_succ]; rfl
theorem roundN_end : ∀ {n : Nat} {ps : List Piece}, total ps ≤ n → round (roundN n ps) = roundN n ps
  | 0, ps, h => round_total.2 (by have := (round_total (ps := ps)).1; show total (round ps) = total ps; omega)
  | n + 1, ps, h => by
    by_cases hc : round ps = ps
    · rw [roundN_fix hc, hc]
    · have a := (round_total (ps := ps)).1
      have b : total (round ps) ≠ total ps := fun e => hc (round_total.2 e)
      rw [roundN]
      exact roundN_end (by omega)
theorem roundN_more {n : Nat} {ps : List Piece} (h : total ps ≤ n) : ∀ k, roundN (n + k) ps = roundN n ps
  | 0 => rfl
  | k + 1 => by rw [← Nat.add_assoc, roundN_succ, roundN_more h k, roundN_end h]
def leanOf (ps : List Piece) : List Piece := roundN (total ps) ps
theorem leanOf_end {ps : List Piece} : round (leanOf ps) = leanOf ps := roundN_end (Nat.le_refl _)
theorem leanOf_n {ps : List Piece} {n : Nat} (h : total ps ≤ n) : roundN n ps = leanOf ps := by
  obtain ⟨k, rfl⟩ := Nat.le.dest h
  exact roundN_more (Nat.le_refl _) k
theorem leanOf_round {ps : List Piece} : leanOf (round ps) = leanOf ps := by
  have a := (round_total (ps := ps)).1
  have e1 : roundN (total ps) (round ps) = leanOf (round ps) := leanOf_n a
  have e2 : roundN (total ps + 1) ps = leanOf ps := leanOf_n (by omega)
  rw [← e1, ← e2]
  rfl
theorem leanOf_fix {ps : List Piece} (h : round ps = ps) : leanOf ps = ps := roundN_fix h _
theorem leanOf_twice {ps : List Piece} : leanOf (leanOf ps) = leanOf ps := leanOf_fix leanOf_end
/-! what can be stays so -/
theorem round_len {ps : List Piece} : (round ps).length = ps.length := by simp [round]
theorem round_mem {ps : List Piece} {q : Piece} (h : q ∈ round ps) : ∃ p ∈ ps, q.gs = p.gs ∧ ∀ x ∈ q.rs, x ∈ p.rs := by
  obtain ⟨p, hp, rfl⟩ := List.mem_map.1 h
  exact ⟨p, hp, rfl, fun x hx => (List.mem_filter.1 hx).1⟩
theorem round_rl {ps : List Piece} {q : Piece} (h : q ∈ round ps) : ∃ p ∈ ps, q.rs.length ≤ p.rs.length ∧ q.gs = p.gs ∧ ∀ x ∈ q.rs, x ∈ p.rs := by
  obtain ⟨p, hp, rfl⟩ := List.mem_map.1 h
  exact ⟨p, hp, List.length_filter_le _ _, rfl, fun x hx => (List.mem_filter.1 hx).1⟩
/-- what holds of all rows and goes is kept by rounds -/
structure PsB (n : Nat) (ps : List Piece) (B : Nat) : Prop where
  len : ps.length = n
  ok : ∀ p ∈ ps, p.V n ∧ p.rs.length ≤ B
theorem PsB.round {n B : Nat} {ps : List Piece} (h : PsB n ps B) : PsB n (round ps) B := by
  refine ⟨by rw [round_len]; exact h.len, fun q hq => ?_⟩
  obtain ⟨p, hp, hl, hg, hx⟩ := round_rl hq
  obtain ⟨hv, hb⟩ := h.ok p hp
  have hr := hv.rn
  exact ⟨⟨by omega, fun x hx' => hv.rw x (hx x hx'), by rw [hg]; exact hv.gs⟩, by omega⟩
theorem PsB.roundN {n B : Nat} : ∀ {k : Nat} {ps : List Piece}, PsB n ps B → PsB n (Kt.roundN k ps) B
  | 0, _, h => h
  | k + 1, _, h => PsB.roundN (k := k) h.round
theorem PsB.lean {n B : Nat} {ps : List Piece} (h : PsB n ps B) : PsB n (leanOf ps) B := PsB.roundN h
theorem Tst.V.b {t : Tst} (h : t.V) {B : Nat} (hB : ∀ p ∈ t.ps, p.rs.length ≤ B) : PsB t.ps.length t.ps B := ⟨rfl, fun p hp => ⟨h.ok p hp, hB p hp⟩⟩
theorem Tst.V.of {t : Tst} (h : t.V) {qs : List Piece} {B : Nat} (b : PsB t.ps.length qs B) : Tst.V ⟨t.ins, t.names, qs⟩ :=
  ⟨h.i0, h.i3, h.nm, h.n9, by show 1 ≤ qs.length; rw [b.len]; exact h.p1, by show qs.length ≤ 999; rw [b.len]; exact h.p9, fun p hp => by show p.V qs.length; rw [b.len]; exact (b.ok p hp).1⟩
/-! nothing shows -/
structure Obs (M M' : Mac) : Prop where
  cl : M.cells = M'.cells
  sd : M.said = M'.said
  fn : M.fin = M'.fin
  lk : M'.looked ≤ M.looked
  dn : M'.done ≤ M.done
theorem Obs.refl (M : Mac) : Obs M M := ⟨rfl, rfl, rfl, Nat.le_refl _, Nat.le_refl _⟩
theorem Obs.trans {A B C : Mac} (a : Obs A B) (b : Obs B C) : Obs A C := ⟨a.cl.trans b.cl, a.sd.trans b.sd, a.fn.trans b.fn, Nat.le_trans b.lk a.lk, Nat.le_trans b.dn a.dn⟩
theorem Sim.refl (R : List Int) (m : Mac) : Sim R [] m m := ⟨fun _ _ => rfl, by simp, rfl, rfl, rfl, rfl, Nat.le_refl _, Nat.le_refl _⟩
theorem roundN_run {n : Nat} {m : Mac} {k : Int} (hg : m.fin.isGo = true) : ∀ {j : Nat} {ps : List Piece} {M : Mac}, runM ps n m k = some M → ∃ M', runM (roundN j ps) n m k = some M' ∧ Obs M M'
  | 0, ps, M, e => ⟨M, e, .refl M⟩
  | j + 1, ps, M, e => by
    obtain ⟨M1, e1, s1⟩ := Sim.run (Sim.refl _ m) hg e
    obtain ⟨M2, e2, o2⟩ := roundN_run hg (j := j) e1
    exact ⟨M2, e2, (Obs.mk s1.cl s1.sd s1.fn s1.lk s1.dn).trans o2⟩
theorem lean_run {n : Nat} {m M : Mac} {k : Int} {ps : List Piece} (hg : m.fin.isGo = true) (e : runM ps n m k = some M) : ∃ M', runM (leanOf ps) n m k = some M' ∧ Obs M M' := roundN_run hg e
/-! the def -/
theorem lean_wh {cs : Cs} {t : Tst} {os : List Lc} {N : Nat} (hN : N ≤ 999) : ∀ {n : Nat} {ps : List Piece} {e2 c3 c4 c5 e7 c8 : Lc}, total ps < n → PsB N ps 1500 → noPar e2 → isFree c3 → isFree c4 → isFree c5 → noPar e7 → isFree c8 →
    ∃ l, whGo (b_lean_T1 cs) (b_lean_L3 cs) n ⟨[.bor t.d, .bor (.tup (ps.map Piece.d)), e2, c3, c4, c5, .no, e7, c8], os⟩ = some (.rt (Tst.d ⟨t.ins, t.names, leanOf ps⟩) ⟨.bor t.d :: l, os⟩)
  | 0, _, _, _, _, _, _, _, h, _, _, _, _, _, _, _ => by omega
  | n + 1, ps, e2, c3, c4, c5, e7, c8, h, hb, p2, f3, f4, f5, p7, f8 => by
    obtain ⟨g2, g3, g4, g5, g7, g8, ⟨q2, q3, q4, q5, q7, q8⟩, h1, h2⟩ := lean_L3 (cs := cs) (t := t) (ps := ps) (os := os) (fun p hp => ⟨(hb.ok p hp).2, by have := (hb.ok p hp).1.gs.n8; omega⟩) (by rw [hb.len]; exact hN) p2 f3 f4 f5 p7 f8
    have eT : ∀ s, b_lean_T1 cs s = some (.ok true s) := fun s => rfl
    rw [whGo, eT]
    simp only
    by_cases hc : round ps = ps
    · rw [h1 hc]
      simp only
      rw [leanOf_fix hc]
      exact ⟨_, rfl⟩
    · rw [h2 hc]
      simp only
      have a := (round_total (ps := ps)).1
      have b : total (round ps) ≠ total ps := fun e => hc (round_total.2 e)
      rw [← leanOf_round]
      exact lean_wh hN (n := n) (by omega) hb.round q2 q3 q4 q5 q7 q8
theorem lean_eq {cs : Cs} {t : Tst} {os : List Lc} (h : t.V) : d_lean cs [.bor t.d] os = some (.ret (Tst.d ⟨t.ins, t.names, leanOf t.ps⟩) [.no] os) := by
  obtain ⟨l, e⟩ := lean_wh (cs := cs) (t := t) (os := os) (N := t.ps.length) h.p9 (n := total t.ps + 1) (ps := t.ps) (e2 := .no) (c3 := .no) (c4 := .no) (c5 := .no) (e7 := .no) (c8 := .no) (by omega) (h.b fun p hp => (h.ok p hp).rn) noPar_no isFree_no isFree_no isFree_no noPar_no isFree_no
  have e2 := sWhile_of e
  have e1 : ∀ os, d_need_tested cs [.bor t.d] os = _ := fun os => need_tested_eq (cs := cs) h
  have ed : t.d = .tup [.int t.ins, .int t.names, .tup (t.ps.map Piece.d)] := rfl
  have i1 : immL (t.ps.map Piece.d) = true := immL_map fun _ => Piece.d_imm
  unfold d_lean
  refine (den_ev rfl).trans ?_
  unfold b_lean
  rw [ed] at e1 e2 ⊢
  simp [e1, i1, e2]
end Kt
set_option Elab.async false
set_option linter.all false
set_option maxRecDepth 100000
set_option maxHeartbeats 4000000
/-! lean: a row more that nobody needs is left out again -/
namespace Kt
open PySem PySem.Spec PyProof.Rows L2 Tr Dn
inductive PL : List Piece → List Piece → Prop
  | nil : PL [] []
  | cons {p q : Piece} {r s : List Piece} : List.Sublist p.rs q.rs → p.gs = q.gs → PL r s → PL (p :: r) (q :: s)
theorem PL.refl : ∀ ps : List Piece, PL ps ps
  | [] => .nil
  | _ :: r => .cons (List.Sublist.refl _) rfl (PL.refl r)
theorem PL.antisymm : ∀ {ps qs : List Piece}, PL ps qs → PL qs ps → ps = qs
  | _, _, .nil, _ => rfl
  | _, _, .cons (p := p) (q := q) h1 h2 h3, .cons k1 k2 k3 => by
    have := h1.eq_of_length_le k1.length_le
    obtain ⟨a, b⟩ := p
    obtain ⟨c, d⟩ := q
    simp only at this h2
    rw [this, h2, PL.antisymm h3 k3]
theorem PL.reads : ∀ {ps qs : List Piece}, PL ps qs → ∀ r ∈ readsAll ps, r ∈ readsAll qs
  | _, _, .nil, r, h => h
  | _, _, .cons (p := p) (q := q) h1 h2 h3, r, h => by
    unfold readsAll at h ⊢
    rw [List.flatMap_cons, List.mem_append] at h ⊢
    rcases h with h | h
    · left
      obtain ⟨x, hx, hr⟩ := List.mem_flatMap.1 h
      exact List.mem_flatMap.2 ⟨x, h1.subset hx, hr⟩
    · exact .inr (PL.reads h3 r h)
theorem idle_anti {R R' : List Int} {p q : Piece} (hR : ∀ r ∈ R, r ∈ R') (h1 : List.Sublist p.rs q.rs) (h2 : p.gs = q.gs) {x : Rw} (h : idle R' q x = true) : idle R p x = true := by
  have hu : ∀ t ∈ p.used, t ∈ q.used := fun t ht => by
    unfold Piece.used at ht ⊢
    rw [List.mem_append] at ht ⊢
    rcases ht with ht | ht
    · obtain ⟨y, hy, rfl⟩ := List.mem_map.1 ht
      exact .inl (List.mem_map.2 ⟨y, h1.subset hy, rfl⟩)
    · rw [← h2]; exact .inr ht
  obtain ⟨t, o⟩ := x
  unfold idle at h ⊢
  cases o with
  | test a b r =>
    simp only [Bool.and_eq_true, Bool.not_eq_true', decide_eq_false_iff_not] at h ⊢
    exact ⟨fun z => h.1 (hu _ z), fun z => h.2 (hu _ z)⟩
  | _ =>
    simp only [Bool.and_eq_true, Bool.not_eq_true', decide_eq_false_iff_not] at h ⊢
    exact ⟨h.1, fun z => h.2 (hR _ z)⟩
theorem PL.cut {R R' : List Int} (hR : ∀ r ∈ R, r ∈ R') : ∀ {ps qs : List Piece}, PL ps qs → PL (ps.map (cutBy R)) (qs.map (cutBy R'))
  | _, _, .nil => .nil
  | _, _, .cons (p := p) (q := q) h1 h2 h3 => by
    rw [List.map_cons, List.map_cons]
    refine .cons ?_ h2 (PL.cut hR h3)
    show List.Sublist (p.rs.filter fun x => !idle R p x) (q.rs.filter fun x => !idle R' q x)
    have a : List.Sublist (p.rs.filter fun x => !idle R p x) (q.rs.filter fun x => !idle R p x) := h1.filter _
    have b : q.rs.filter (fun x => !idle R p x) = (q.rs.filter fun x => !idle R' q x).filter (fun x => !idle R p x) := by
      rw [List.filter_filter]
      refine List.filter_congr fun x _ => ?_
      cases hi : idle R p x with
      | true => rfl
      | false =>
        cases hj : idle R' q x with
        | false => rfl
        | true => rw [idle_anti hR h1 h2 hj] at hi; cases hi
    rw [b] at a
    exact a.trans List.filter_sublist
theorem PL.round {ps qs : List Piece} (h : PL ps qs) : PL (Kt.round ps) (Kt.round qs) := h.cut h.reads
theorem PL.roundN : ∀ {n : Nat} {ps qs : List Piece}, PL ps qs → PL (Kt.roundN n ps) (Kt.roundN n qs)
  | 0, _, _, h => h
  | n + 1, _, _, h => PL.roundN (n := n) h.round
theorem lean_insert {A B : List Piece} (h1 : PL A B) (h2 : PL (round B) A) : leanOf B = leanOf A := by
  have e1 := (round_total (ps := A)).1
  have e2 := (round_total (ps := B)).1
  have a : roundN (total A + total B) (round A) = leanOf A := by rw [leanOf_n (by omega), leanOf_round]
  have b : roundN (total A + total B) (round B) = leanOf B := by rw [leanOf_n (by omega), leanOf_round]
  have c : roundN (total A + total B) A = leanOf A := leanOf_n (by omega)
  have p1 := PL.roundN (n := total A + total B) h1.round
  have p2 := PL.roundN (n := total A + total B) h2
  rw [a, b] at p1
  rw [b, c] at p2
  exact p2.antisymm p1
/-- a row put in at a place of a piece -/
def putIn (ps : List Piece) (k at_ : Nat) (z : Rw) : List Piece := match ps[k]? with
  | some p => ps.take k ++ [⟨p.rs.take at_ ++ [z] ++ p.rs.drop at_, p.gs⟩] ++ ps.drop (k + 1)
  | none => ps
theorem putIn_pl : ∀ {ps : List Piece} {k at_ : Nat} {z : Rw}, PL ps (putIn ps k at_ z)
  | [], _, _, _ => by simp [putIn]; exact .nil
  | p :: r, 0, at_, z => by
    show PL (p :: r) (⟨p.rs.take at_ ++ [z] ++ p.rs.drop at_, p.gs⟩ :: r)
    refine .cons ?_ rfl (PL.refl r)
    show List.Sublist p.rs (p.rs.take at_ ++ [z] ++ p.rs.drop at_)
    conv => lhs; rw [← List.take_append_drop at_ p.rs]
    exact List.Sublist.append (List.sublist_append_left _ _) (List.Sublist.refl _)
  | p :: r, k + 1, at_, z => by
    have ih := putIn_pl (ps := r) (k := k) (at_ := at_) (z := z)
    have e : putIn (p :: r) (k + 1) at_ z = p :: putIn r k at_ z := by
      unfold putIn
      simp only [List.getElem?_cons_succ]
      cases r[k]? <;> rfl
    rw [e]
    exact .cons (List.Sublist.refl _) rfl ih
theorem cut_sub {R : List Int} : ∀ {ps : List Piece}, PL (ps.map (cutBy R)) ps
  | [] => .nil
  | p :: r => .cons List.filter_sublist rfl cut_sub
/-- it goes out in the first round -/
theorem putIn_cut {R : List Int} {z : Rw} : ∀ {ps : List Piece} {k at_ : Nat}, (∀ p, ps[k]? = some p → idle R ⟨p.rs.take at_ ++ [z] ++ p.rs.drop at_, p.gs⟩ z = true) → PL ((putIn ps k at_ z).map (cutBy R)) ps
  | [], _, _, _ => by simp [putIn]; exact .nil
  | p :: r, 0, at_, h => by
    show PL (cutBy R ⟨p.rs.take at_ ++ [z] ++ p.rs.drop at_, p.gs⟩ :: r.map (cutBy R)) (p :: r)
    refine .cons ?_ rfl cut_sub
    have hz := h p rfl
    show List.Sublist ((p.rs.take at_ ++ [z] ++ p.rs.drop at_).filter fun x => !idle R ⟨p.rs.take at_ ++ [z] ++ p.rs.drop at_, p.gs⟩ x) p.rs
    rw [List.filter_append, List.filter_append]
    have : [z].filter (fun x => !idle R ⟨p.rs.take at_ ++ [z] ++ p.rs.drop at_, p.gs⟩ x) = [] := by simp at hz ⊢; exact hz
    rw [this, List.append_nil]
    conv => rhs; rw [← List.take_append_drop at_ p.rs]
    exact List.Sublist.append List.filter_sublist List.filter_sublist
  | p :: r, k + 1, at_, h => by
    have e : putIn (p :: r) (k + 1) at_ z = p :: putIn r k at_ z := by
      unfold putIn
      simp only [List.getElem?_cons_succ]
      cases r[k]? <;> rfl
    rw [e]
    exact .cons List.filter_sublist rfl (putIn_cut fun p hp => h p (by simpa using hp))
theorem putIn_lean {ps : List Piece} {k at_ : Nat} {z : Rw} (h : ∀ p, ps[k]? = some p → idle (readsAll (putIn ps k at_ z)) ⟨p.rs.take at_ ++ [z] ++ p.rs.drop at_, p.gs⟩ z = true) : leanOf (putIn ps k at_ z) = leanOf ps :=
  lean_insert putIn_pl (putIn_cut h)
end Kt
set_option Elab.async false
set_option linter.all false
set_option maxRecDepth 100000
set_option maxHeartbeats 4000000
/-! the law k11 -/
namespace Kt
open PySem PySem.Spec PyProof.Rows L2 Tr Dn
/-- what is told is like itself -/
def toldD (m : Mac) : D := .tup [.lst (m.said.map D.int), m.fin.d, .lst (m.cells.map D.int)]
theorem fin_nb {f : Fin'} : f.d.nb = true ∧ f.d.dep ≤ 1 := by
  cases f <;> simp [Fin'.d, D.nb, D.dep]
theorem told_self {m : Mac} : eqB (toldD m) (toldD m) = some true := by
  have a := fin_nb (f := m.fin)
  have n1 : nbL (m.said.map D.int) = true := nbL_map fun _ => rfl
  have n2 : nbL (m.cells.map D.int) = true := nbL_map fun _ => rfl
  have d1 : depL (m.said.map D.int) ≤ 0 := depL_map fun _ => Nat.le_refl 0
  have d2 : depL (m.cells.map D.int) ≤ 0 := depL_map fun _ => Nat.le_refl 0
  have hn : (toldD m).nb = true := by simp [toldD, n1, n2, a.1]
  have hd : (toldD m).dep ≤ 64 := by have := a.2; simp [toldD]; omega
  obtain ⟨b, h1, h2⟩ := eqB_nb (d := toldD m) (e := toldD m) (.inl ⟨_, rfl⟩) hn hn hd hd
  rw [h1, h2.2 rfl]
theorem both_ex {cs : Cs} {t : Tst} {hs : List Int} {fuel : Int} {R N : Nat} (h : t.V) (hR : ∀ p ∈ t.ps, p.rs.length ≤ R) (hN : (fuel + 1) * t.ps.length ≤ N) (hNR : N * R ≤ 400000) (hl : (hs.length : Int) = t.ins) (hv : ∀ v ∈ hs, Nb v) (f0 : 0 ≤ fuel) (f1 : fuel ≤ 1000) :
    ∃ M M', d__law_machine cs [.bor t.d, .bor (.lst (hs.map D.int)), .bor (.int fuel)] [] = some (.ret (.tup [toldD M, .tup [.int M.looked, .int M.done]]) [.no, .no, .no] []) ∧
      d__law_machine cs [.bor (Tst.d ⟨t.ins, t.names, leanOf t.ps⟩), .bor (.lst (hs.map D.int)), .bor (.int fuel)] [] = some (.ret (.tup [toldD M', .tup [.int M'.looked, .int M'.done]]) [.no, .no, .no] []) ∧ toldD M = toldD M' ∧ M'.looked ≤ M.looked ∧ M'.done ≤ M.done := by
  have po := h.po hR
  have h3 : hs.length ≤ 3 := by have := h.i3; omega
  have hp1 := h.p1
  obtain ⟨M, e⟩ := runM_some po (n := N) (m := start hs fuel) (k := 0) (start_ok hv h3) rfl (Int.le_refl 0) (by omega) f0 (by show fuel * t.ps.length + (t.ps.length - 0) ≤ N; rw [Int.add_mul, Int.one_mul] at hN; omega)
  obtain ⟨M', e', o⟩ := lean_run (ps := t.ps) rfl e
  have b := (h.b hR).lean
  have po' := (h.of b).po (R := R) (fun p hp => (b.ok p hp).2)
  refine ⟨M, M', lmachine_eq po hv h3 f0 e (by omega), lmachine_eq (t := ⟨t.ins, t.names, leanOf t.ps⟩) po' hv h3 f0 e' (by omega), ?_, o.lk, o.dn⟩
  unfold toldD
  rw [o.sd, o.fn, o.cl]
theorem L1_eq {cs : Cs} {t : Tst} {dc : Dc} {a c2 c5 c6 c7 c8 c9 c10 c11 c12 j13 j14 j15 j16 : Lc} (h : t.V) (hR : ∀ p ∈ t.ps, p.rs.length ≤ 40) (h5 : t.ps.length ≤ 5) (p13 : noPar j13) (p14 : noPar j14) (p15 : noPar j15) (p16 : noPar j16) :
    ∃ (dc' : Dc) (g13 g14 g15 g16 : Lc), (noPar g13 ∧ noPar g14 ∧ noPar g15 ∧ noPar g16) ∧ b_law_L1 cs ⟨[a, .own dc.d, c2, .bor t.d, .bor (Tst.d ⟨t.ins, t.names, leanOf t.ps⟩), c5, c6, c7, c8, c9, c10, c11, c12, j13, j14, j15, j16], []⟩ =
      some (.nx ⟨[a, .own dc'.d, c2, .bor t.d, .bor (Tst.d ⟨t.ins, t.names, leanOf t.ps⟩), c5, c6, c7, c8, c9, c10, c11, c12, g13, g14, g15, g16], []⟩) := by
  obtain ⟨n, hn⟩ := Int.eq_ofNat_of_zero_le h.i0
  obtain ⟨hs, c1, e1, l1, l2⟩ := any_handed_ex (cs := cs) dc n [] (by have := h.i3; omega)
  obtain ⟨fuel, c3, ⟨f0, f1⟩, e2⟩ := next_ex (cs := cs) c1 30 (by omega) (by omega)
  obtain ⟨M, M', e3, e4, e5, k1, k2⟩ := both_ex (cs := cs) (hs := hs) (fuel := fuel) (R := 40) (N := 150) h hR (by
    have : (fuel + 1) * t.ps.length ≤ 30 * 5 := Int.mul_le_mul (by omega) (by omega) (by omega) (by omega)
    omega) (by omega) (by rw [hn, l1]) l2 f0 (by omega)
  have ed : t.d = .tup [.int n, .int t.names, .tup (t.ps.map Piece.d)] := by rw [← hn]; rfl
  have es := told_self (m := M)
  rw [← e5] at e4
  have i0 : immL (hs.map D.int) = true := immL_map fun _ => rfl
  have k1' : ¬ ((M.looked : Int) < M'.looked) := by omega
  have k2' : ¬ ((M.done : Int) < M'.done) := by omega
  have im : (toldD M).imm = false := rfl
  refine ⟨c3, .own (.lst (hs.map D.int)), .bor (.int fuel), .own (.tup [toldD M, .tup [.int M.looked, .int M.done]]), .own (.tup [toldD M, .tup [.int M'.looked, .int M'.done]]), ⟨noPar_own, noPar_bor, noPar_own, noPar_own⟩, ?_⟩
  generalize (Tst.mk t.ins t.names (leanOf t.ps)) = t' at e4 ⊢
  unfold b_law_L1
  rw [ed] at e3 ⊢
  simp [e1, e2, e3, e4, es, k1', k2', im, putO_any p13, putO_any p14, putO_any p15, putO_any p16]
/-! a row put in -/
theorem putIn_reads {z : Rw} : ∀ {ps : List Piece} {k at_ : Nat} {r : Int}, r ∈ readsAll (putIn ps k at_ z) → r ∈ readsAll ps ∨ r ∈ z.o.rd
  | [], k, at_, r, h => by simp [putIn] at h; exact .inl h
  | p :: ps, 0, at_, r, h => by
    have h : r ∈ readsAll (⟨p.rs.take at_ ++ [z] ++ p.rs.drop at_, p.gs⟩ :: ps) := h
    unfold readsAll at h ⊢
    rw [List.flatMap_cons, List.mem_append] at h
    rw [List.flatMap_cons, List.mem_append]
    rcases h with h | h
    · obtain ⟨x, hx, hr⟩ := List.mem_flatMap.1 h
      simp only [List.mem_append, List.mem_singleton] at hx
      rcases hx with (hx | hx) | hx
      · exact .inl (.inl (List.mem_flatMap.2 ⟨x, List.mem_of_mem_take hx, hr⟩))
      · subst hx; exact .inr hr
      · exact .inl (.inl (List.mem_flatMap.2 ⟨x, List.mem_of_mem_drop hx, hr⟩))
    · exact .inl (.inr h)
  | p :: ps, k + 1, at_, r, h => by
    have e : putIn (p :: ps) (k + 1) at_ z = p :: putIn ps k at_ z := by
      unfold putIn
      simp only [List.getElem?_cons_succ]
      cases ps[k]? <;> rfl
    rw [e] at h
    unfold readsAll at h ⊢
    rw [List.flatMap_cons, List.mem_append] at h
    rw [List.flatMap_cons, List.mem_append]
    rcases h with h | h
    · exact .inl (.inl h)
    · rcases putIn_reads (ps := ps) (k := k) (at_ := at_) h with h | h
      · exact .inl (.inr h)
      · exact .inr h
theorem putIn_b {z : Rw} {N B : Nat} {ps : List Piece} {k at_ : Nat} (h : PsB N ps B) (hz : z.V) (hB : B ≤ 1499) : PsB N (putIn ps k at_ z) 1500 := by
  unfold putIn
  cases hp : ps[k]? with
  | none => exact ⟨h.len, fun p hp => ⟨(h.ok p hp).1, by have := (h.ok p hp).2; omega⟩⟩
  | some p =>
    have hk : k < ps.length := (List.getElem?_eq_some_iff.mp hp).1
    have hm : p ∈ ps := List.mem_of_getElem? hp
    obtain ⟨pv, pb⟩ := h.ok p hm
    have hl := h.len
    refine ⟨by simp; omega, fun q hq => ?_⟩
    simp only [List.mem_append, List.mem_singleton] at hq
    rcases hq with (hq | hq) | hq
    · have := h.ok q (List.mem_of_mem_take hq); exact ⟨this.1, by omega⟩
    · subst hq
      have lr : (p.rs.take at_ ++ [z] ++ p.rs.drop at_).length ≤ 1500 := by simp; omega
      refine ⟨⟨lr, fun x hx => ?_, pv.gs⟩, lr⟩
      simp only [List.mem_append, List.mem_singleton] at hx
      rcases hx with (hx | hx) | hx
      · exact pv.rw x (List.mem_of_mem_take hx)
      · subst hx; exact hz
      · exact pv.rw x (List.mem_of_mem_drop hx)
    · have := h.ok q (List.mem_of_mem_drop hq); exact ⟨this.1, by omega⟩
theorem put_num {ps : List Piece} {k at_ : Nat} (hf : ∀ p ∈ ps, (∀ x ∈ p.rs, x.F) ∧ ∀ g ∈ p.gs, Far g.1) : leanOf (putIn ps k at_ ⟨0, .num 1500 7⟩) = leanOf ps := by
  refine putIn_lean fun p hp => ?_
  have : (1500 : Int) ∉ readsAll (putIn ps k at_ ⟨0, .num 1500 7⟩) := fun h => by
    rcases putIn_reads h with h | h
    · obtain ⟨q, hq, h⟩ := List.mem_flatMap.1 h
      obtain ⟨x, hx, hr⟩ := List.mem_flatMap.1 h
      have := ((hf q hq).1 x hx).2 _ hr
      unfold Far at this
      omega
    · simp [Op.rd] at h
  simp [idle, Op.quiet, Op.reg, this]
theorem put_test {ps : List Piece} {k at_ : Nat} (hf : ∀ p ∈ ps, (∀ x ∈ p.rs, x.F) ∧ ∀ g ∈ p.gs, Far g.1) : leanOf (putIn ps k at_ ⟨0, .test 1700 1701 0⟩) = leanOf ps := by
  refine putIn_lean fun p hp => ?_
  obtain ⟨f1, f2⟩ := hf p (List.mem_of_getElem? hp)
  have key : ∀ v : Int, ¬ Far v → v ≠ 0 → v ∉ Piece.used ⟨p.rs.take at_ ++ [⟨0, .test 1700 1701 0⟩] ++ p.rs.drop at_, p.gs⟩ := fun v hv h0 h => by
    unfold Piece.used at h
    rcases List.mem_append.1 h with h | h
    · obtain ⟨x, hx, rfl⟩ := List.mem_map.1 h
      simp only [List.mem_append, List.mem_singleton] at hx
      rcases hx with (hx | hx) | hx
      · exact hv (f1 x (List.mem_of_mem_take hx)).1
      · subst hx; exact h0 rfl
      · exact hv (f1 x (List.mem_of_mem_drop hx)).1
    · obtain ⟨g, hg, rfl⟩ := List.mem_map.1 h
      exact hv (f2 g hg)
  have a := key 1700 (by unfold Far; omega) (by decide)
  have b := key 1701 (by unfold Far; omega) (by decide)
  simp only [idle]
  simp only [Bool.and_eq_true, Bool.not_eq_true', decide_eq_false_iff_not]
  exact ⟨a, b⟩
theorem piece_put {l : List Lc} {p : Piece} {z : Rw} {at_ : Nat} (h6 : l[6]? = some (.bor (.tup (p.rs.map Rw.d)))) (h7 : l[7]? = some (.bor (.tup (p.gs.map gD)))) (h8 : l[8]? = some (.bor (.int at_))) (h9 : l[9]? = some (.bor z.d)) (hl : p.rs.length ≤ 1500) :
    (pTup (aCons (pOp dAdd (pOp dAdd (pSl (pVar 6) (oNo) (oE (pVar 8))) (pTup (aCons (pVar 9) (aNil)))) (pSl (pVar 6) (oE (pVar 8)) (oNo))) (aCons (pVar 7) (aNil)))) ⟨l, []⟩ = some (Piece.d ⟨p.rs.take at_ ++ [z] ++ p.rs.drop at_, p.gs⟩, true) := by
  have i1 : immL (p.rs.map Rw.d) = true := immL_map fun _ => Rw.d_imm
  have i2 : immL (p.gs.map gD) = true := immL_map fun _ => gD_imm
  have i3 : immL ((p.rs.map Rw.d).take at_) = true := immL_iff.2 fun d hd => immL_iff.1 i1 d (List.mem_of_mem_take hd)
  have i4 : immL ((p.rs.map Rw.d).drop at_) = true := immL_iff.2 fun d hd => immL_iff.1 i1 d (List.mem_of_mem_drop hd)
  have s1 : min at_ p.rs.length + 1 ≤ 10000000 := by omega
  have s2 : min at_ p.rs.length + 1 + (p.rs.length - at_) ≤ 10000000 := by omega
  simp [h6, h7, h8, h9, i1, i2, i3, i4, cut_hi, cut_lit, s1, s2, Piece.d, List.map_take, List.map_drop]
theorem more_put {l : List Lc} {t : Tst} {p q : Piece} {k : Nat} (h3 : l[3]? = some (.bor t.d)) (h5 : l[5]? = some (.bor (.int k))) (h10 : l[10]? = some (.bor q.d)) (hl : t.ps.length ≤ 999) :
    (pTup (aCons (pOp dIx (pVar 3) (pC (.int 0))) (aCons (pOp dIx (pVar 3) (pC (.int 1))) (aCons (pOp dAdd (pOp dAdd (pSl (pOp dIx (pVar 3) (pC (.int 2))) (oNo) (oE (pVar 5))) (pTup (aCons (pVar 10) (aNil)))) (pSl (pOp dIx (pVar 3) (pC (.int 2))) (oE (pOp dAdd (pVar 5) (pC (.int 1)))) (oNo))) (aNil))))) ⟨l, []⟩ = some (Tst.d ⟨t.ins, t.names, t.ps.take k ++ [q] ++ t.ps.drop (k + 1)⟩, true) := by
  have ed : t.d = .tup [.int t.ins, .int t.names, .tup (t.ps.map Piece.d)] := rfl
  have i1 : immL (t.ps.map Piece.d) = true := immL_map fun _ => Piece.d_imm
  have i3 : immL ((t.ps.map Piece.d).take k) = true := immL_iff.2 fun d hd => immL_iff.1 i1 d (List.mem_of_mem_take hd)
  have i4 : immL ((t.ps.map Piece.d).drop (k + 1)) = true := immL_iff.2 fun d hd => immL_iff.1 i1 d (List.mem_of_mem_drop hd)
  have s1 : min k t.ps.length + 1 ≤ 10000000 := by omega
  have s2 : min k t.ps.length + 1 + (t.ps.length - (k + 1)) ≤ 10000000 := by omega
  have ek : (k : Int) + 1 = ((k + 1 : Nat) : Int) := by push_cast; rfl
  simp only [ed] at h3
  simp [h3, h5, h10]
  rw [ek, cut_hi, cut_lit]
  have s3 : min k t.ps.length ≤ 9999999 := by omega
  have s4 : min k t.ps.length + (t.ps.length - (k + 1)) ≤ 9999999 := by omega
  simp [i1, i3, i4, s1, s2, s3, s4, Tst.d, List.map_take, List.map_drop]
def zs : Nat → Rw
  | 0 => ⟨0, .num 1500 7⟩
  | 1 => ⟨0, .test 1700 1701 0⟩
  | _ => ⟨1700, .bin .add 1501 0 0⟩
theorem zs_v {i : Nat} : (zs i).V := by
  match i with
  | 0 => simp [zs, Rw.V, Op.V, Rg, Nb]
  | 1 => simp [zs, Rw.V, Op.V, Rg, Tg]
  | i + 2 => simp [zs, Rw.V, Op.V, Rg]
theorem L2_eq {cs : Cs} {dc : Dc} {a c2 j3 j4 j5 j6 j7 j8 j9 j10 j11 j12 j13 j14 j15 j16 : Lc} (p3 : noPar j3) (p4 : noPar j4) (p5 : noPar j5) (p6 : noPar j6) (p7 : noPar j7) (p8 : noPar j8) (p9 : noPar j9) (p10 : noPar j10) (p11 : noPar j11) (p12 : noPar j12) (p13 : noPar j13) (p14 : noPar j14) (p15 : noPar j15) (p16 : noPar j16) :
    ∃ (dc' : Dc) (g3 g4 g5 g6 g7 g8 g9 g10 g11 g12 g13 g14 g15 g16 : Lc), (noPar g3 ∧ noPar g4 ∧ noPar g5 ∧ noPar g6 ∧ noPar g7 ∧ noPar g8 ∧ noPar g9 ∧ noPar g10 ∧ noPar g11 ∧ noPar g12 ∧ noPar g13 ∧ noPar g14 ∧ noPar g15 ∧ noPar g16) ∧
      b_law_L2 cs ⟨[a, .own dc.d, c2, j3, j4, j5, j6, j7, j8, j9, j10, j11, j12, j13, j14, j15, j16], []⟩ = some (.nx ⟨[a, .own dc'.d, c2, g3, g4, g5, g6, g7, g8, g9, g10, g11, g12, g13, g14, g15, g16], []⟩) := by
  obtain ⟨z1, c1, ⟨a0, a1⟩, e1⟩ := next_ex (cs := cs) dc 2 (by omega) (by omega)
  have hm : ∃ most : Int, atI [D.int 8, .int 18] z1 = some (.int most) ∧ 0 ≤ most ∧ most ≤ 40 := by
    have : z1 = 0 ∨ z1 = 1 := by omega
    rcases this with rfl | rfl
    · exact ⟨8, rfl, by omega, by omega⟩
    · exact ⟨18, rfl, by omega, by omega⟩
  obtain ⟨most, e2, m0, m1⟩ := hm
  obtain ⟨t, c2', e3, hV, hR, h5, hF⟩ := some_tested_ex (cs := cs) c1 most [] m0 m1
  have e4 := lean_eq (cs := cs) (t := t) (os := []) hV
  have hb := hV.b hR
  have hbl := hb.lean
  have hV' := hV.of hbl
  have e5 := bad_tested_eq (cs := cs) (t := ⟨t.ins, t.names, leanOf t.ps⟩) (os := []) hV'
  have e6 := lean_eq (cs := cs) (t := ⟨t.ins, t.names, leanOf t.ps⟩) (os := []) hV'
  rw [show leanOf (Tst.mk t.ins t.names (leanOf t.ps)).ps = leanOf t.ps from leanOf_twice] at e6
  have eself : ∀ u : Tst, eqB u.d u.d = some true := fun u => by
    obtain ⟨b, h1, h2⟩ := eq_tst (t := u) (u := u)
    rw [h1, h2.2 rfl]
  have hp1 := hV.p1
  obtain ⟨kk, c3, ⟨k0, k1⟩, e7⟩ := next_ex (cs := cs) c2' (t.ps.length : Int) (by omega) (by omega)
  obtain ⟨k, rfl⟩ := Int.eq_ofNat_of_zero_le k0
  have hk : k < t.ps.length := by omega
  have ep : t.ps[k]? = some t.ps[k] := List.getElem?_eq_getElem hk
  obtain ⟨p, hp⟩ : ∃ p, t.ps[k]? = some p := ⟨_, ep⟩
  have hpm : p ∈ t.ps := List.mem_of_getElem? hp
  have hpl := hR p hpm
  obtain ⟨aa, c4, ⟨t0, t1⟩, e8⟩ := next_ex (cs := cs) c3 ((p.rs.length : Int) + 1) (by omega) (by omega)
  obtain ⟨at_, rfl⟩ := Int.eq_ofNat_of_zero_le t0
  obtain ⟨zi, c5, ⟨q0, q1⟩, e9⟩ := next_ex (cs := cs) c4 3 (by omega) (by omega)
  obtain ⟨i, rfl⟩ := Int.eq_ofNat_of_zero_le q0
  have ez : atI [D.tup [.int 0, .str "num", .int 1500, .int 7], .tup [.int 0, .str "test", .int 1700, .int 1701, .int 0], .tup [.int 1700, .str "add", .int 1501, .int 0, .int 0]] (i : Int) = some (zs i).d := by
    have : i = 0 ∨ i = 1 ∨ i = 2 := by omega
    rcases this with rfl | rfl | rfl <;> rfl
  have hbp := putIn_b (z := zs i) (k := k) (at_ := at_) hb zs_v (by omega)
  have hVp := hV.of hbp
  have e10 := lean_eq (cs := cs) (t := ⟨t.ins, t.names, putIn t.ps k at_ (zs i)⟩) (os := []) hVp
  have elp : (zs i).t = 0 → leanOf (putIn t.ps k at_ (zs i)) = leanOf t.ps := fun h0 => by
    match i with
    | 0 => exact put_num hF
    | 1 => exact put_test hF
    | i + 2 => simp [zs] at h0
  obtain ⟨s', ⟨c6, f12, f13, f14, f15, f16, rfl, g12, g13, g14, g15, g16⟩, ef⟩ := for_inv (T := .one 12) (body := b_law_L1 cs) (ds := rng 0 4) (k := 0)
    (ok := fun _ s => ∃ (dc : Dc) (f12 f13 f14 f15 f16 : Lc), s = ⟨[a, .own dc.d, c2, .bor t.d, .bor (Tst.d ⟨t.ins, t.names, leanOf t.ps⟩), .bor (.int k), .bor (.tup (p.rs.map Rw.d)), .bor (.tup (p.gs.map gD)), .bor (.int at_), .bor (zs i).d, .bor (Piece.d ⟨p.rs.take at_ ++ [zs i] ++ p.rs.drop at_, p.gs⟩), .bor (Tst.d ⟨t.ins, t.names, putIn t.ps k at_ (zs i)⟩), f12, f13, f14, f15, f16], []⟩ ∧ noPar f12 ∧ noPar f13 ∧ noPar f14 ∧ noPar f15 ∧ noPar f16)
    (s := ⟨[a, .own c5.d, c2, .bor t.d, .bor (Tst.d ⟨t.ins, t.names, leanOf t.ps⟩), .bor (.int k), .bor (.tup (p.rs.map Rw.d)), .bor (.tup (p.gs.map gD)), .bor (.int at_), .bor (zs i).d, .bor (Piece.d ⟨p.rs.take at_ ++ [zs i] ++ p.rs.drop at_, p.gs⟩), .bor (Tst.d ⟨t.ins, t.names, putIn t.ps k at_ (zs i)⟩), j12, j13, j14, j15, j16], []⟩) ⟨c5, j12, j13, j14, j15, j16, rfl, p12, p13, p14, p15, p16⟩ (by
      rintro i' x hd s ⟨dc, f12, f13, f14, f15, f16, rfl, g12, g13, g14, g15, g16⟩
      obtain ⟨dc', f13', f14', f15', f16', ⟨r13, r14, r15, r16⟩, e⟩ := L1_eq (cs := cs) (t := t) (dc := dc) (a := a) (c2 := c2) (c5 := .bor (.int k)) (c6 := .bor (.tup (p.rs.map Rw.d))) (c7 := .bor (.tup (p.gs.map gD))) (c8 := .bor (.int at_)) (c9 := .bor (zs i).d) (c10 := .bor (Piece.d ⟨p.rs.take at_ ++ [zs i] ++ p.rs.drop at_, p.gs⟩)) (c11 := .bor (Tst.d ⟨t.ins, t.names, putIn t.ps k at_ (zs i)⟩)) (c12 := .bor x) hV hR h5 g13 g14 g15 g16
      exact ⟨_, _, by simp only [bindT_one, setB_ev, List.getElem?_cons_succ, List.getElem?_cons_zero, setBO_any g12]; rfl, e, ⟨dc', _, _, _, _, _, rfl, noPar_bor, r13, r14, r15, r16⟩⟩)
  refine ⟨c6, .bor t.d, .bor (Tst.d ⟨t.ins, t.names, leanOf t.ps⟩), .bor (.int k), .bor (.tup (p.rs.map Rw.d)), .bor (.tup (p.gs.map gD)), .bor (.int at_), .bor (zs i).d, .bor (Piece.d ⟨p.rs.take at_ ++ [zs i] ++ p.rs.drop at_, p.gs⟩), .bor (Tst.d ⟨t.ins, t.names, putIn t.ps k at_ (zs i)⟩), f12, f13, f14, f15, f16, ⟨noPar_bor, noPar_bor, noPar_bor, noPar_bor, noPar_bor, noPar_bor, noPar_bor, noPar_bor, noPar_bor, g12, g13, g14, g15, g16⟩, ?_⟩
  have er : ∀ s, iR1 (eaCons (eP (pC (.int 4))) (eaNil)) s = some (.ok (rng 0 4, true) s) := fun s => iR1_lit (n := 4) (by omega)
  have ed : t.d = .tup [.int t.ins, .int t.names, .tup (t.ps.map Piece.d)] := rfl
  have it : immL (t.ps.map Piece.d) = true := immL_map fun _ => Piece.d_imm
  have i1 : immL (p.rs.map Rw.d) = true := immL_map fun _ => Rw.d_imm
  have i2 : immL (p.gs.map gD) = true := immL_map fun _ => gD_imm
  have ex : atI (t.ps.map Piece.d) (k : Int) = some (.tup [.tup (p.rs.map Rw.d), .tup (p.gs.map gD)]) := by rw [atI_natC, List.getElem?_map, hp]; rfl
  have eput : putIn t.ps k at_ (zs i) = t.ps.take k ++ [⟨p.rs.take at_ ++ [zs i] ++ p.rs.drop at_, p.gs⟩] ++ t.ps.drop (k + 1) := by unfold putIn; rw [hp]
  have e11 := piece_put (l := [a, .own c5.d, c2, .bor t.d, .bor (Tst.d ⟨t.ins, t.names, leanOf t.ps⟩), .bor (.int k), .bor (.tup (p.rs.map Rw.d)), .bor (.tup (p.gs.map gD)), .bor (.int at_), .bor (zs i).d, j10, j11, j12, j13, j14, j15, j16]) (p := p) (z := zs i) (at_ := at_) rfl rfl rfl rfl (by omega)
  have e12 := more_put (l := [a, .own c5.d, c2, .bor t.d, .bor (Tst.d ⟨t.ins, t.names, leanOf t.ps⟩), .bor (.int k), .bor (.tup (p.rs.map Rw.d)), .bor (.tup (p.gs.map gD)), .bor (.int at_), .bor (zs i).d, .bor (Piece.d ⟨p.rs.take at_ ++ [zs i] ++ p.rs.drop at_, p.gs⟩), j11, j12, j13, j14, j15, j16]) (t := t) (p := p) (q := ⟨p.rs.take at_ ++ [zs i] ++ p.rs.drop at_, p.gs⟩) (k := k) rfl rfl rfl hV.p9
  rw [← eput] at e12
  have el : eqB (Tst.d ⟨t.ins, t.names, leanOf t.ps⟩) (Tst.d ⟨t.ins, t.names, leanOf t.ps⟩) = some true := eself _
  have edx : dIx (zs i).d (.int 0) = some (.int (zs i).t, false) := by simp [Rw.d]
  have zim : (zs i).d.imm = true := Rw.d_imm
  have e10' : (zs i).t = 0 → d_lean cs [.bor (Tst.d ⟨t.ins, t.names, putIn t.ps k at_ (zs i)⟩)] [] = some (.ret (Tst.d ⟨t.ins, t.names, leanOf t.ps⟩) [.no] []) := fun h0 => by rw [e10]; show some (DOut.ret (Tst.d ⟨t.ins, t.names, leanOf (putIn t.ps k at_ (zs i))⟩) _ _) = _; rw [elp h0]
  have im1 : ∀ u : Tst, u.d.imm = true := fun _ => Tst.d_imm
  have im2 : ∀ u : Piece, u.d.imm = true := fun _ => Piece.d_imm
  have hlen : ∀ l : List Lc, l[3]? = some (.bor t.d) → pCall dLen (aCons (pOp dIx (pVar 3) (pC (.int 2))) (aNil)) ⟨l, []⟩ = some (.int t.ps.length, true) := fun l h => by simp [h, ed]
  have hgo : ∀ l : List Lc, l[3]? = some (.bor t.d) → l[5]? = some (.bor (.int k)) → pOp dIx (pOp dIx (pVar 3) (pC (.int 2))) (pVar 5) ⟨l, []⟩ = some (.tup [.tup (p.rs.map Rw.d), .tup (p.gs.map gD)], false) := fun l h h' => by simp [h, h', ed, ex]
  clear e10 elp eself
  generalize (Tst.mk t.ins t.names (leanOf t.ps)) = T1 at *
  generalize (Tst.mk t.ins t.names (putIn t.ps k at_ (zs i))) = T2 at *
  generalize (Piece.mk (p.rs.take at_ ++ [zs i] ++ p.rs.drop at_) p.gs) = Q1 at *
  unfold b_law_L2
  generalize (pTup (aCons (pOp dAdd (pOp dAdd (pSl (pVar 6) (oNo) (oE (pVar 8))) (pTup (aCons (pVar 9) (aNil)))) (pSl (pVar 6) (oE (pVar 8)) (oNo))) (aCons (pVar 7) (aNil)))) = X10 at e11 ⊢
  generalize (pTup (aCons (pOp dIx (pVar 3) (pC (.int 0))) (aCons (pOp dIx (pVar 3) (pC (.int 1))) (aCons (pOp dAdd (pOp dAdd (pSl (pOp dIx (pVar 3) (pC (.int 2))) (oNo) (oE (pVar 5))) (pTup (aCons (pVar 10) (aNil)))) (pSl (pOp dIx (pVar 3) (pC (.int 2))) (oE (pOp dAdd (pVar 5) (pC (.int 1)))) (oNo))) (aNil))))) = X11 at e12 ⊢
  generalize (pCall dLen (aCons (pOp dIx (pVar 3) (pC (.int 2))) (aNil))) = X5 at hlen ⊢
  generalize (pOp dIx (pOp dIx (pVar 3) (pC (.int 2))) (pVar 5)) = X6 at hgo ⊢
  by_cases h0 : (zs i).t = 0
  · have e10'' := e10' h0
    simp [h0, edx, e1, e2, e3, e4, e5, e6, e7, e8, e9, ez, e10'', e11, e12, el, hlen, hgo, im1, im2, zim, i1, i2, sFor, er, ef, putO_any p3, putO_any p4, putO_any p5, putO_any p6, putO_any p7, putO_any p8, putO_any p9, putO_any p10, putO_any p11]
  · simp [edx, e1, e2, e3, e4, e5, e6, e7, e8, e9, ez, e11, e12, el, hlen, hgo, im1, im2, zim, i1, i2, h0, sFor, er, ef, putO_any p3, putO_any p4, putO_any p5, putO_any p6, putO_any p7, putO_any p8, putO_any p9, putO_any p10, putO_any p11]
theorem law_eq {cs : Cs} (ns : List Int) : ∃ ps os, d_law cs [.bor (.frz ns)] [] = some (.ret (.bl true) ps os) := by
  obtain ⟨m, e1⟩ := dice_eq (cs := cs) (ns := ns) (os := [])
  obtain ⟨s', ⟨c3, f2, f3, f4, f5, f6, f7, f8, f9, f10, f11, f12, f13, f14, f15, f16, rfl, _⟩, ef⟩ := for_inv (T := .one 2) (body := b_law_L2 cs) (ds := rng 0 4) (k := 0)
    (ok := fun _ s => ∃ (dc : Dc) (f2 f3 f4 f5 f6 f7 f8 f9 f10 f11 f12 f13 f14 f15 f16 : Lc), s = ⟨[.bor (.frz ns), .own dc.d, f2, f3, f4, f5, f6, f7, f8, f9, f10, f11, f12, f13, f14, f15, f16], []⟩ ∧ noPar f2 ∧ noPar f3 ∧ noPar f4 ∧ noPar f5 ∧ noPar f6 ∧ noPar f7 ∧ noPar f8 ∧ noPar f9 ∧ noPar f10 ∧ noPar f11 ∧ noPar f12 ∧ noPar f13 ∧ noPar f14 ∧ noPar f15 ∧ noPar f16)
    (s := ⟨[.bor (.frz ns), .own (Dc.d ⟨ns, 0, m, 0⟩), .no, .no, .no, .no, .no, .no, .no, .no, .no, .no, .no, .no, .no, .no, .no], []⟩) ⟨_, _, _, _, _, _, _, _, _, _, _, _, _, _, _, _, rfl, noPar_no, noPar_no, noPar_no, noPar_no, noPar_no, noPar_no, noPar_no, noPar_no, noPar_no, noPar_no, noPar_no, noPar_no, noPar_no, noPar_no, noPar_no⟩ (by
      rintro i x hd s ⟨dc, f2, f3, f4, f5, f6, f7, f8, f9, f10, f11, f12, f13, f14, f15, f16, rfl, g2, g3, g4, g5, g6, g7, g8, g9, g10, g11, g12, g13, g14, g15, g16⟩
      obtain ⟨dc', f3', f4', f5', f6', f7', f8', f9', f10', f11', f12', f13', f14', f15', f16', q, e⟩ := L2_eq (cs := cs) (dc := dc) (a := .bor (.frz ns)) (c2 := .bor x) g3 g4 g5 g6 g7 g8 g9 g10 g11 g12 g13 g14 g15 g16
      exact ⟨⟨[.bor (.frz ns), .own dc.d, .bor x, f3, f4, f5, f6, f7, f8, f9, f10, f11, f12, f13, f14, f15, f16], []⟩, _, by simp [setBO_any g2], e, ⟨dc', _, _, _, _, _, _, _, _, _, _, _, _, _, _, _, rfl, noPar_bor, q⟩⟩)
  have er : ∀ s, iR1 (eaCons (eP (pC (.int 4))) (eaNil)) s = some (.ok (rng 0 4, true) s) := fun s => iR1_lit (n := 4) (by omega)
  refine ⟨[.no], [], ?_⟩
  unfold d_law
  refine (den_ev rfl).trans ?_
  unfold b_law
  simp [sFor, er, e1, ef]
end Kt
set_option Elab.async false
set_option linter.all false
set_option maxRecDepth 100000
set_option maxHeartbeats 0
namespace Kt
open PySem PySem.Spec PyProof.Rows L2 Tr He
def fn_0 : He.DefD := ⟨("is_number", none), "is_number", "is_number", defArgs s_is_number, defBody s_is_number, defScope s_is_number, [], []⟩
def fn_1 : He.DefD := ⟨("shape_of", none), "shape_of", "shape_of", defArgs s_shape_of, defBody s_shape_of, defScope s_shape_of, [], []⟩
def fn_2 : He.DefD := ⟨("is_row", none), "is_row", "is_row", defArgs s_is_row, defBody s_is_row, defScope s_is_row, [], []⟩
def fn_3 : He.DefD := ⟨("are_goes", none), "are_goes", "are_goes", defArgs s_are_goes, defBody s_are_goes, defScope s_are_goes, [], []⟩
def fn_4 : He.DefD := ⟨("need_tested", none), "need_tested", "need_tested", defArgs s_need_tested, defBody s_need_tested, defScope s_need_tested, [], []⟩
def fn_5 : He.DefD := ⟨("need_piece", none), "need_piece", "need_piece", defArgs s_need_piece, defBody s_need_piece, defScope s_need_piece, [], []⟩
def fn_6 : He.DefD := ⟨("reads", none), "reads", "reads", defArgs s_reads, defBody s_reads, defScope s_reads, [], []⟩
def fn_7 : He.DefD := ⟨("makes", none), "makes", "makes", defArgs s_makes, defBody s_makes, defScope s_makes, [], []⟩
def fn_8 : He.DefD := ⟨("all_rows", none), "all_rows", "all_rows", defArgs s_all_rows, defBody s_all_rows, defScope s_all_rows, [], []⟩
def fn_9 : He.DefD := ⟨("is_idle", none), "is_idle", "is_idle", defArgs s_is_idle, defBody s_is_idle, defScope s_is_idle, [], []⟩
def fn_10 : He.DefD := ⟨("lean", none), "lean", "lean", defArgs s_lean, defBody s_lean, defScope s_lean, [], []⟩
def fn_11 : He.DefD := ⟨("_law_dice", none), "_law_dice", "_law_dice", defArgs s__law_dice, defBody s__law_dice, defScope s__law_dice, [], []⟩
def fn_12 : He.DefD := ⟨("_law_next", none), "_law_next", "_law_next", defArgs s__law_next, defBody s__law_next, defScope s__law_next, [], []⟩
def fn_13 : He.DefD := ⟨("_law_any_handed", none), "_law_any_handed", "_law_any_handed", defArgs s__law_any_handed, defBody s__law_any_handed, defScope s__law_any_handed, [], []⟩
def fn_14 : He.DefD := ⟨("_law_reckoned", none), "_law_reckoned", "_law_reckoned", defArgs s__law_reckoned, defBody s__law_reckoned, defScope s__law_reckoned, [], []⟩
def fn_15 : He.DefD := ⟨("_law_cell_of", none), "_law_cell_of", "_law_cell_of", defArgs s__law_cell_of, defBody s__law_cell_of, defScope s__law_cell_of, [], []⟩
def fn_16 : He.DefD := ⟨("_law_some_row", none), "_law_some_row", "_law_some_row", defArgs s__law_some_row, defBody s__law_some_row, defScope s__law_some_row, [], []⟩
def fn_17 : He.DefD := ⟨("_law_some_rows", none), "_law_some_rows", "_law_some_rows", defArgs s__law_some_rows, defBody s__law_some_rows, defScope s__law_some_rows, [], []⟩
def fn_18 : He.DefD := ⟨("_law_some_goes", none), "_law_some_goes", "_law_some_goes", defArgs s__law_some_goes, defBody s__law_some_goes, defScope s__law_some_goes, [], []⟩
def fn_19 : He.DefD := ⟨("_law_some_tested", none), "_law_some_tested", "_law_some_tested", defArgs s__law_some_tested, defBody s__law_some_tested, defScope s__law_some_tested, [], []⟩
def fn_20 : He.DefD := ⟨("_law_reads_of", none), "_law_reads_of", "_law_reads_of", defArgs s__law_reads_of, defBody s__law_reads_of, defScope s__law_reads_of, [], []⟩
def fn_21 : He.DefD := ⟨("_law_do_row", none), "_law_do_row", "_law_do_row", defArgs s__law_do_row, defBody s__law_do_row, defScope s__law_do_row, [], []⟩
def fn_22 : He.DefD := ⟨("_law_start", none), "_law_start", "_law_start", defArgs s__law_start, defBody s__law_start, defScope s__law_start, [], []⟩
def fn_23 : He.DefD := ⟨("_law_machine", none), "_law_machine", "_law_machine", defArgs s__law_machine, defBody s__law_machine, defScope s__law_machine, [], []⟩
def fn_24 : He.DefD := ⟨("_law_is_part", none), "_law_is_part", "_law_is_part", defArgs s__law_is_part, defBody s__law_is_part, defScope s__law_is_part, [], []⟩
def fn_25 : He.DefD := ⟨("_law_is_row", none), "_law_is_row", "_law_is_row", defArgs s__law_is_row, defBody s__law_is_row, defScope s__law_is_row, [], []⟩
def fn_26 : He.DefD := ⟨("_law_bad_piece", none), "_law_bad_piece", "_law_bad_piece", defArgs s__law_bad_piece, defBody s__law_bad_piece, defScope s__law_bad_piece, [], []⟩
def fn_27 : He.DefD := ⟨("_law_bad_tested", none), "_law_bad_tested", "_law_bad_tested", defArgs s__law_bad_tested, defBody s__law_bad_tested, defScope s__law_bad_tested, [], []⟩
def fn_28 : He.DefD := ⟨("law", none), "law", "law", defArgs s_law, defBody s_law, defScope s_law, [], []⟩
def fnL : List He.DefD := [fn_0, fn_1, fn_2, fn_3, fn_4, fn_5, fn_6, fn_7, fn_8, fn_9, fn_10, fn_11, fn_12, fn_13, fn_14, fn_15, fn_16, fn_17, fn_18, fn_19, fn_20, fn_21, fn_22, fn_23, fn_24, fn_25, fn_26, fn_27, fn_28]
def faL : List He.Fa := [.free "bool", .free "dict", .free "enumerate", .free "int", .free "isinstance", .free "len", .free "max", .free "range", .free "str", .free "tuple", .free "zip", .int "REST" 10007, .int "MOST_INS" 3, .int "MOST_NAMES" 99, .int "MOST_REGISTER" 1999, .int "MOST_TEST" 1999, .int "MOST_PIECES" 999, .int "MOST_ROWS" 1500, .int "MOST_GOES" 8, .glo "SHAPES", .glo "PAIRS", .glo "MOSTS", .glo "QUIET", .glo "is_number", .glo "shape_of", .glo "is_row", .glo "are_goes", .glo "need_tested", .glo "need_piece", .glo "reads", .glo "makes", .glo "all_rows", .glo "is_idle", .glo "lean", .glo "_law_dice", .glo "_law_next", .glo "_law_any_handed", .glo "_law_reckoned", .glo "_law_cell_of", .glo "_law_some_row", .glo "_law_some_rows", .glo "_law_some_goes", .glo "_law_some_tested", .glo "_law_reads_of", .glo "_law_do_row", .glo "_law_start", .glo "_law_machine", .glo "_law_is_part", .glo "_law_is_row", .glo "_law_bad_piece", .glo "_law_bad_tested", .glo "law"]
def tsL : List He.Tab := [(fun K => He.ga K "SHAPES", ["num", "copy", "not", "get", "put", "say", "stop", "test"]), (fun K => He.ga K "MOSTS", ["w", "r", "n", "p"])]
def exB_0 (K : PySem.W.Frag) : Bool := tabB K (He.ga K "SHAPES") tab_SHAPES
def exB_1 (K : PySem.W.Frag) : Bool := He.tupB K "PAIRS" [.str "add", .str "take", .str "times", .str "over", .str "rest", .str "less", .str "same"]
def exB_2 (K : PySem.W.Frag) : Bool := tabB K (He.ga K "MOSTS") tab_MOSTS
def exB_3 (K : PySem.W.Frag) : Bool := He.tupB K "QUIET" [.str "num", .str "copy", .str "add", .str "take", .str "times", .str "less", .str "same", .str "not"]
def exL (K : PySem.W.Frag) : Bool := exB_0 K && (exB_1 K && (exB_2 K && (exB_3 K)))
theorem ex_0 {K : PySem.W.Frag} (h : exL K = true) : tabB K (He.ga K "SHAPES") tab_SHAPES = true := (Bool.and_eq_true_iff.mp h).1
theorem ex_1 {K : PySem.W.Frag} (h : exL K = true) : He.tupB K "PAIRS" [.str "add", .str "take", .str "times", .str "over", .str "rest", .str "less", .str "same"] = true := (Bool.and_eq_true_iff.mp (Bool.and_eq_true_iff.mp h).2).1
theorem ex_2 {K : PySem.W.Frag} (h : exL K = true) : tabB K (He.ga K "MOSTS") tab_MOSTS = true := (Bool.and_eq_true_iff.mp (Bool.and_eq_true_iff.mp (Bool.and_eq_true_iff.mp h).2).2).1
theorem ex_3 {K : PySem.W.Frag} (h : exL K = true) : He.tupB K "QUIET" [.str "num", .str "copy", .str "add", .str "take", .str "times", .str "less", .str "same", .str "not"] = true := (Bool.and_eq_true_iff.mp (Bool.and_eq_true_iff.mp (Bool.and_eq_true_iff.mp h).2).2).2
theorem txt_of {w : World} {K : PySem.W.Frag} {h : Heap} {mg : Str → Option Value} (X : K.In h) (G : h.Ns mainGlobals mg) {h' : Heap} (c : He.SaysX faL fnL tsL [] exL w h' K) : Txt w K mg ⟨()⟩ where
  b_bool := He.free_ok X G (c.t.d.fact 0)
  b_dict := He.free_ok X G (c.t.d.fact 1)
  b_enumerate := He.free_ok X G (c.t.d.fact 2)
  b_int := He.free_ok X G (c.t.d.fact 3)
  b_isinstance := He.free_ok X G (c.t.d.fact 4)
  b_len := He.free_ok X G (c.t.d.fact 5)
  b_max := He.free_ok X G (c.t.d.fact 6)
  b_range := He.free_ok X G (c.t.d.fact 7)
  b_str := He.free_ok X G (c.t.d.fact 8)
  b_tuple := He.free_ok X G (c.t.d.fact 9)
  b_zip := He.free_ok X G (c.t.d.fact 10)
  c_REST := He.int_ok X G (c.t.d.fact 11)
  c_MOST_INS := He.int_ok X G (c.t.d.fact 12)
  c_MOST_NAMES := He.int_ok X G (c.t.d.fact 13)
  c_MOST_REGISTER := He.int_ok X G (c.t.d.fact 14)
  c_MOST_TEST := He.int_ok X G (c.t.d.fact 15)
  c_MOST_PIECES := He.int_ok X G (c.t.d.fact 16)
  c_MOST_ROWS := He.int_ok X G (c.t.d.fact 17)
  c_MOST_GOES := He.int_ok X G (c.t.d.fact 18)
  c_PAIRS := ⟨_, He.glo_ok X G (c.t.d.fact 20), He.tupB_ok (ex_1 c.more)⟩
  c_QUIET := ⟨_, He.glo_ok X G (c.t.d.fact 22), He.tupB_ok (ex_3 c.more)⟩
  c_SHAPES := ⟨_, He.glo_ok X G (c.t.d.fact 19), stab_of (ex_0 c.more) (c.t.tab 0)⟩
  c_MOSTS := ⟨_, He.glo_ok X G (c.t.d.fact 21), stab_of (ex_2 c.more) (c.t.tab 1)⟩
  f_is_number := let ⟨fd, F⟩ := c.t.d.def_ 0 (d := fn_0) rfl; ⟨_, fd, F, He.glo_ok X G (c.t.d.fact 23)⟩
  f_shape_of := let ⟨fd, F⟩ := c.t.d.def_ 1 (d := fn_1) rfl; ⟨_, fd, F, He.glo_ok X G (c.t.d.fact 24)⟩
  f_is_row := let ⟨fd, F⟩ := c.t.d.def_ 2 (d := fn_2) rfl; ⟨_, fd, F, He.glo_ok X G (c.t.d.fact 25)⟩
  f_are_goes := let ⟨fd, F⟩ := c.t.d.def_ 3 (d := fn_3) rfl; ⟨_, fd, F, He.glo_ok X G (c.t.d.fact 26)⟩
  f_need_tested := let ⟨fd, F⟩ := c.t.d.def_ 4 (d := fn_4) rfl; ⟨_, fd, F, He.glo_ok X G (c.t.d.fact 27)⟩
  f_need_piece := let ⟨fd, F⟩ := c.t.d.def_ 5 (d := fn_5) rfl; ⟨_, fd, F, He.glo_ok X G (c.t.d.fact 28)⟩
  f_reads := let ⟨fd, F⟩ := c.t.d.def_ 6 (d := fn_6) rfl; ⟨_, fd, F, He.glo_ok X G (c.t.d.fact 29)⟩
  f_makes := let ⟨fd, F⟩ := c.t.d.def_ 7 (d := fn_7) rfl; ⟨_, fd, F, He.glo_ok X G (c.t.d.fact 30)⟩
  f_all_rows := let ⟨fd, F⟩ := c.t.d.def_ 8 (d := fn_8) rfl; ⟨_, fd, F, He.glo_ok X G (c.t.d.fact 31)⟩
  f_is_idle := let ⟨fd, F⟩ := c.t.d.def_ 9 (d := fn_9) rfl; ⟨_, fd, F, He.glo_ok X G (c.t.d.fact 32)⟩
  f_lean := let ⟨fd, F⟩ := c.t.d.def_ 10 (d := fn_10) rfl; ⟨_, fd, F, He.glo_ok X G (c.t.d.fact 33)⟩
  f__law_dice := let ⟨fd, F⟩ := c.t.d.def_ 11 (d := fn_11) rfl; ⟨_, fd, F, He.glo_ok X G (c.t.d.fact 34)⟩
  f__law_next := let ⟨fd, F⟩ := c.t.d.def_ 12 (d := fn_12) rfl; ⟨_, fd, F, He.glo_ok X G (c.t.d.fact 35)⟩
  f__law_any_handed := let ⟨fd, F⟩ := c.t.d.def_ 13 (d := fn_13) rfl; ⟨_, fd, F, He.glo_ok X G (c.t.d.fact 36)⟩
  f__law_reckoned := let ⟨fd, F⟩ := c.t.d.def_ 14 (d := fn_14) rfl; ⟨_, fd, F, He.glo_ok X G (c.t.d.fact 37)⟩
  f__law_cell_of := let ⟨fd, F⟩ := c.t.d.def_ 15 (d := fn_15) rfl; ⟨_, fd, F, He.glo_ok X G (c.t.d.fact 38)⟩
  f__law_some_row := let ⟨fd, F⟩ := c.t.d.def_ 16 (d := fn_16) rfl; ⟨_, fd, F, He.glo_ok X G (c.t.d.fact 39)⟩
  f__law_some_rows := let ⟨fd, F⟩ := c.t.d.def_ 17 (d := fn_17) rfl; ⟨_, fd, F, He.glo_ok X G (c.t.d.fact 40)⟩
  f__law_some_goes := let ⟨fd, F⟩ := c.t.d.def_ 18 (d := fn_18) rfl; ⟨_, fd, F, He.glo_ok X G (c.t.d.fact 41)⟩
  f__law_some_tested := let ⟨fd, F⟩ := c.t.d.def_ 19 (d := fn_19) rfl; ⟨_, fd, F, He.glo_ok X G (c.t.d.fact 42)⟩
  f__law_reads_of := let ⟨fd, F⟩ := c.t.d.def_ 20 (d := fn_20) rfl; ⟨_, fd, F, He.glo_ok X G (c.t.d.fact 43)⟩
  f__law_do_row := let ⟨fd, F⟩ := c.t.d.def_ 21 (d := fn_21) rfl; ⟨_, fd, F, He.glo_ok X G (c.t.d.fact 44)⟩
  f__law_start := let ⟨fd, F⟩ := c.t.d.def_ 22 (d := fn_22) rfl; ⟨_, fd, F, He.glo_ok X G (c.t.d.fact 45)⟩
  f__law_machine := let ⟨fd, F⟩ := c.t.d.def_ 23 (d := fn_23) rfl; ⟨_, fd, F, He.glo_ok X G (c.t.d.fact 46)⟩
  f__law_is_part := let ⟨fd, F⟩ := c.t.d.def_ 24 (d := fn_24) rfl; ⟨_, fd, F, He.glo_ok X G (c.t.d.fact 47)⟩
  f__law_is_row := let ⟨fd, F⟩ := c.t.d.def_ 25 (d := fn_25) rfl; ⟨_, fd, F, He.glo_ok X G (c.t.d.fact 48)⟩
  f__law_bad_piece := let ⟨fd, F⟩ := c.t.d.def_ 26 (d := fn_26) rfl; ⟨_, fd, F, He.glo_ok X G (c.t.d.fact 49)⟩
  f__law_bad_tested := let ⟨fd, F⟩ := c.t.d.def_ 27 (d := fn_27) rfl; ⟨_, fd, F, He.glo_ok X G (c.t.d.fact 50)⟩
  f_law := let ⟨fd, F⟩ := c.t.d.def_ 28 (d := fn_28) rfl; ⟨_, fd, F, He.glo_ok X G (c.t.d.fact 51)⟩
abbrev R : PySem.W.OpenRow := PySem.W.OpenLaw.row PySem.Challenge.rw_testedrows_k11_whole_nobody_reads_them
abbrev hk : PySem.W.Hook := He.hookX 6 faL fnL tsL [] exL
def ob (s : PySem.W.SharedT) : He.AlX := He.obsX 6 faL fnL tsL [] exL (HandSHeadRun.getT s)
theorem ob_eq (s : PySem.W.SharedT) : ob s = hk.obs s.abs := He.obsX_eq (HandSHeadRun.getT_eq s)
def loose_0 : List PySem.Str := ["RowsError", "BadTested", "REST", "MOST_INS", "MOST_NAMES", "is_number", "MOST_REGISTER", "MOST_TEST", "MOST_PIECES", "MOST_ROWS", "MOST_GOES", "SHAPES", "PAIRS", "MOSTS", "QUIET", "shape_of", "is_row", "are_goes", "need_tested", "need_piece", "reads", "makes", "all_rows", "is_idle"]
def loose_1 : List PySem.Str := ["lean", "_law_dice", "_law_next", "_law_any_handed", "_law_reckoned", "_law_cell_of", "_law_some_row", "_law_some_rows", "_law_some_goes", "_law_some_tested", "_law_reads_of", "_law_do_row", "_law_start", "_law_machine", "_law_is_part", "_law_is_row", "_law_bad_piece", "_law_bad_tested"]
def loose : List PySem.Str := loose_0 ++ loose_1
theorem run (w : World) : HandSHeadRun.RunEq R (PySem.W.view R.prog [47]) hk ob 60000 loose w := by
  refine PySem.W.byRow2 "special-get-raises" (fun w => ?_) (fun w => ?_) w
  · intro os
    kernel_rfl
  · intro os
    kernel_rfl
end Kt
set_option Elab.async false
set_option linter.all false
set_option maxRecDepth 100000
set_option maxHeartbeats 0
open PySem PySem.W PySem.Calls PyProof.Rows
theorem PySem.Challenge.cw_testedrows_k11_whole_nobody_reads_them_holds : PySem.Challenge.rw_testedrows_k11_whole_nobody_reads_them.Holds := by
  w_on; o_law
  refine HandSHeadRun.head_any (r := OpenLaw.row PySem.Challenge.rw_testedrows_k11_whole_nobody_reads_them) (q := view (OpenLaw.row PySem.Challenge.rw_testedrows_k11_whole_nobody_reads_them).prog [47]) (H := Kt.hk) (ob := Kt.ob) (M := 60000) (loose := Kt.loose) (d := HandSHeadRun.topDef (OpenLaw.row PySem.Challenge.rw_testedrows_k11_whole_nobody_reads_them).prog 47) (kwd := []) Kt.ob_eq
    (by kernel_rfl) (fun s => by kernel_rfl) Kt.run (by kernel_rfl) (by kernel_rfl) (by kernel_rfl) (by rfl) (by first | assumption | decide +kernel) (by decide +kernel) ⟨rfl, rfl, rfl, rfl, rfl, by decide +kernel⟩ ?hw ?hc
  case hw => w_witness2
  case hc =>
    refine L2.walk_ofE (l := PySem.Challenge.rw_testedrows_k11_whole_nobody_reads_them) (n := 63) (k := 6) (x := "_law_script") (CX := L2.CX0) rfl (by decide) (by kernel_rfl) ⟨rfl, by decide, by decide⟩ ?F (fun _ _ _ _ z => z)
    intro w mg fa h Y G hmg0
    obtain ⟨K, KX, c⟩ := Y
    have hmg : mg ("law" : PySem.Str) = some (.ref fa) := by
      have e : (HandSHeadRun.topDef (OpenLaw.row PySem.Challenge.rw_testedrows_k11_whole_nobody_reads_them).prog 47).name = ("law" : PySem.Str) := by kernel_rfl
      rw [← e]
      exact hmg0
    have T := Kt.txt_of KX G c
    obtain ⟨f, fd, F, g⟩ := T.f_law
    have e := hmg.symm.trans g
    cases e
    have b := L2.FunD.bindsA (ps := ["_law_script"]) F Kt.bd_law
    exact ⟨K, fd, Dn.spD ⟨K, w⟩ (Kt.d_law _), KX, fun s v => b s [v] rfl, fun H a ns hl hO hS => Dn.law_sp Kt.law_eq H a ns hO hS, fun base _ _ => Kt.ok_law T F⟩
