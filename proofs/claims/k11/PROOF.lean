import PyProof.Rows.All
import Wide.All
import OpenK.AllK
import Wide.FinOn
import HandS.ForMost
import HandS.ForExc
import HandS.Codes
import HandS.More
import HandS.Conv
import HandS.SortInts
import HandS.RevRange
import HandS.TupAny
import HandS.Deep
import HandS.IsInst
import KE.DataMinMax
import HandS.ExcIs
import HandS.TryOnly
import HandS.TryMany
import HandS.Text
import HandS.Nested
import HandS.EndTab
import KE.KDflt
import KE.KNestM
import HandS.RaiseMore
import KE.RegKIsAll
import PySem.Challenge.RW_insidecount_k11_books
set_option Elab.async false
set_option linter.all false
set_option maxRecDepth 100000
set_option maxHeartbeats 4000000
namespace IC
open PySem L2

/-! ### heaps -/
/-- all that was tracked, but what lies at fp, is as it was -/
def Keeps (fp : List Addr) (H H' : Hp) : Prop := ∀ a o, H a = some o → a ∉ fp → H' a = some o
theorem Keeps.refl (fp : List Addr) (H : Hp) : Keeps fp H H := fun _ _ h _ => h
theorem Keeps.trans {fp : List Addr} {H H1 H2 : Hp} (a : Keeps fp H H1) (b : Keeps fp H1 H2) : Keeps fp H H2 := fun c o h n => b c o (a c o h n) n
theorem Keeps.of_same {fp : List Addr} {H H' : Hp} (s : Same H H') : Keeps fp H H' := fun a o h _ => s a o h
theorem Keeps.mono {fp fq : List Addr} {H H' : Hp} (k : Keeps fp H H') (h : ∀ a ∈ fp, a ∈ fq) : Keeps fq H H' := fun a o e n => k a o e fun z => n (h a z)
theorem Keeps.upd {fp : List Addr} {H H' : Hp} {p : Addr} {o : HO} (k : Keeps fp H H') (h : p ∈ fp) : Keeps fp H (L2.upd H' p o) := fun a u e n => by
  rw [upd_ne (fun z => n (by rw [z]; exact h))]
  exact k a u e n
theorem Keeps.updNew {fp : List Addr} {H H' : Hp} {p : Addr} {o : HO} (k : Keeps fp H H') (h : H p = none) : Keeps fp H (L2.upd H' p o) := fun a u e n => by
  rw [upd_ne (ne_of_none e h)]
  exact k a u e n
theorem Keeps.free {fp : List Addr} {H H' : Hp} (k : Keeps fp H H') {p : Addr} (hp : p ∉ fp) (h : H' p = none) : H p = none := by
  cases q : H p with
  | none => rfl
  | some o =>
    rw [k p o q hp] at h
    cases h
theorem Keeps.nil {H H' : Hp} (k : Keeps [] H H') : Same H H' := fun a o h => k a o h (by simp)
theorem Same.new {H : Hp} {p : Addr} {o : HO} (h : H p = none) : Same H (L2.upd H p o) := fun a u e => by
  rw [upd_ne (ne_of_none e h)]
  exact e
/-- an object that H does not know may change -/
theorem Same.mut {H H' : Hp} {p : Addr} {o : HO} (e : Same H H') (h : H p = none) : Same H (L2.upd H' p o) := fun a u ha => by
  rw [upd_ne (ne_of_none ha h)]
  exact e a u ha
theorem Same.rd {H H' : Hp} {a : Addr} {u : HO} (e : Same H H') (h : Rd H a u) : Rd H' a u := by
  rcases h with h | ⟨o, h⟩
  · exact Or.inl (e a _ h)
  · exact Or.inr ⟨o, e a _ h⟩
theorem Same.tp {K : PySem.W.Frag} {H H' : Hp} {a : Addr} {xs : List V} (e : Same H H') (h : SqT K H a xs) : SqT K H' a xs := by
  rcases h with h | h
  · exact Or.inl (Same.rd e h)
  · exact Or.inr h
/-- tuples stay -/
def TupS (H H' : Hp) : Prop := ∀ a xs, H a = some (.tup xs) → H' a = some (.tup xs)
theorem TupS.refl (H : Hp) : TupS H H := fun _ _ h => h
theorem TupS.trans {H H1 H2 : Hp} (a : TupS H H1) (b : TupS H1 H2) : TupS H H2 := fun c o h => b c o (a c o h)
theorem TupS.of_same {H H' : Hp} (s : Same H H') : TupS H H' := fun a xs h => s a _ h
theorem TupS.upd {H H' : Hp} {p : Addr} {o : HO} (t : TupS H H') (h : ∀ xs, H' p ≠ some (.tup xs)) : TupS H (L2.upd H' p o) := fun a xs e => by
  by_cases hp : a = p
  · subst hp
    exact absurd (t a xs e) (h xs)
  · rw [upd_ne hp]
    exact t a xs e
theorem sz {n : Nat} (h : n ≤ 1000000) : n ≤ sizeLine := Nat.le_trans h (by decide)
theorem szl {n : Nat} (h : n < 1000000) : n < sizeLine := Nat.lt_of_lt_of_le h (by decide)

/-! ### lists of things told one by one -/
section
variable {α β γ : Type} {R S : α → β → Prop}
theorem Paired.get : ∀ {xs : List α} {ys : List β} {i : Nat} {y : β}, Paired R xs ys → ys[i]? = some y → ∃ x, xs[i]? = some x ∧ R x y
  | _, _, _, _, .nil, e => by simp at e
  | _, _, 0, _, .cons r _, e => by simp at e; subst e; exact ⟨_, rfl, r⟩
  | _, _, i + 1, y, .cons _ t, e => by
    obtain ⟨u, h1, h2⟩ := Paired.get (i := i) (y := y) t (by simpa using e)
    exact ⟨u, by simpa using h1, h2⟩
theorem Paired.getL : ∀ {xs : List α} {ys : List β} {i : Nat} {x : α}, Paired R xs ys → xs[i]? = some x → ∃ y, ys[i]? = some y ∧ R x y
  | _, _, _, _, .nil, e => by simp at e
  | _, _, 0, _, .cons r _, e => by simp at e; subst e; exact ⟨_, rfl, r⟩
  | _, _, i + 1, y, .cons _ t, e => by
    obtain ⟨u, h1, h2⟩ := Paired.getL (i := i) (x := y) t (by simpa using e)
    exact ⟨u, by simpa using h1, h2⟩
theorem Paired.append : ∀ {xs : List α} {ys : List β} {zs : List α} {ws : List β}, Paired R xs ys → Paired R zs ws → Paired R (xs ++ zs) (ys ++ ws)
  | _, _, _, _, .nil, h => h
  | _, _, _, _, .cons r t, h => .cons r (Paired.append t h)
end
/-- refs to tuples -/
def IsTupV (H : Hp) (v : V) (d : List V) : Prop := ∃ a, v = .ref a ∧ H a = some (.tup d)
theorem IsTupV.mono {H H' : Hp} {v : V} {d : List V} (t : TupS H H') (h : IsTupV H v d) : IsTupV H' v d := by
  obtain ⟨a, e, h⟩ := h
  exact ⟨a, e, t a d h⟩
abbrev TupsAt (H : Hp) (xs : List V) (ds : List (List V)) : Prop := Paired (IsTupV H) xs ds
theorem TupsAt.mono {H H' : Hp} {xs : List V} {ds : List (List V)} (t : TupS H H') (h : TupsAt H xs ds) : TupsAt H' xs ds := Paired.mapP h fun _ _ r => r.mono t

/-! ### rules that name the written part, with that part told (within a comprehension) -/
section
variable {X : Cx} {K : PySem.W.Frag} {w : World}
theorem ix_listK (hK : X.K = K := by rfl) : IxR X (rIxL K) := by subst hK; exact ix_list
theorem ix_tupK (hK : X.K = K := by rfl) : IxR X (rIxT K) := by subst hK; exact ix_tup
theorem pg_tupK {es : List Expr} {k : Nat} {t : TGs} {n : Nat} {pos : Pos} (hc : X.calm = true) (h : PGs X es t) (hK : X.K = K := by rfl)
    (hn : (assignEach es X.env).length = n := by rfl) (hst : (assignEach es X.env).findIdx? (·.1) = none := by rfl) : PG X (.Tuple es k pos) (gTup K n t) := by subst hK; exact pg_tup hc h hn hst
theorem ix_seqK (hK : X.K = K := by rfl) : IxR X (rIx K) := by subst hK; exact ix_seq
theorem call_isi1K (hK : X.K = K := by rfl) : CallR X (.builtin "isinstance") (rIsi K) := by subst hK; exact call_isi
theorem call_isiTK (hK : X.K = K := by rfl) : CallR X (.builtin "isinstance") (rIsiT K) := by subst hK; exact call_isiT
theorem ix_kdictK (hK : X.K = K := by rfl) (hw : X.w = w := by rfl) : IxR X (rIxD K w) := by subst hK; subst hw; exact ix_kdict
theorem pe_fldK {e : Expr} {ta : TE} {f : Str} {pos : Pos} (he : PE X e ta) (hb : attributeBase e f X.env (eval e X.env) = eval e X.env) (hK : X.K = K := by rfl) : PE X (.Attribute e f pos) (tFld K ta f) := by subst hK; exact pe_fld he hb
def rLenK (K : PySem.W.Frag) : List V → Hp → VK → Prop := fun xs H Q => ∃ p ys, xs = [.ref p] ∧ (SqL K H p ys ∨ SqT K H p ys) ∧ Q (.int ys.length) H
theorem call_lenK (hK : X.K = K := by rfl) : CallR X (.builtin "len") (rLenK K) := by subst hK; exact call_len_seq
theorem op_eqDK (hu : X.A.units + 64 < cLine) (hK : X.K = K := by rfl) : OpR X (compareOp .Eq) (rEqD K) := by subst hK; exact op_eqD hu
theorem op_neDK (hu : X.A.units + 64 < cLine) (hK : X.K = K := by rfl) : OpR X (compareOp .NotEq) (rNeD K) := by subst hK; exact op_neD hu
theorem op_in_seqK (hK : X.K = K := by rfl) : OpR X (compareOp .In) (rIn K false) := by subst hK; exact op_in_seq
theorem op_notIn_seqK (hK : X.K = K := by rfl) : OpR X (compareOp .NotIn) (rIn K true) := by subst hK; exact op_notIn_seq
theorem cr_minK (hc : X.calm = true) (hK : X.K = K := by rfl) : CallR X (.builtin "min") (rMin K) := by subst hK; exact cr_min hc
theorem cr_maxK (hc : X.calm = true) (hK : X.K = K := by rfl) : CallR X (.builtin "max") (rMax K) := by subst hK; exact cr_max hc
theorem sl_tupK (hK : X.K = K := by rfl) : SlR X (rSlA K) := by subst hK; exact sl_tupA
theorem sl_listK (hK : X.K = K := by rfl) : SlR X (rSlL K) := by subst hK; exact sl_list
theorem op_catK (hK : X.K = K := by rfl) : OpR X (binaryOp .Add) (rCatA K) := by subst hK; exact op_catA
theorem pi_listK {tg l : Expr} {tl : TE} (hl : PE X l tl) (hK : X.K = K := by rfl) : PI X tg l (iList K tl) := by subst hK; exact pi_list hl
theorem pi_tupK {tg l : Expr} {tl : TE} (hl : PE X l tl) (hK : X.K = K := by rfl) : PI X tg l (iTup K tl) := by subst hK; exact pi_tup hl
def rListK (K : PySem.W.Frag) : List V → Hp → VK → Prop := fun xs H Q => ∃ p ys, xs = [.ref p] ∧ (SqL K H p ys ∨ SqT K H p ys) ∧ ∀ l, H l = none → Q (.ref l) (upd H l (.lst ys))
theorem call_listK (hK : X.K = K := by rfl) : CallR X (.type "list") (rListK K) := by subst hK; exact call_list_of
def rTupleK (K : PySem.W.Frag) : List V → Hp → VK → Prop := fun xs H Q => ∃ p ys, xs = [.ref p] ∧ ((SqL K H p ys ∧ ∀ l, H l = none → Q (.ref l) (upd H l (.tup ys))) ∨ (SqT K H p ys ∧ Q (.ref p) H))
theorem call_tupleK (hK : X.K = K := by rfl) : CallR X (.type "tuple") (rTupleK K) := by subst hK; exact call_tuple_of
theorem cr_sortedK (hK : X.K = K := by rfl) : CallR X (.builtin "sorted") (rSortedI K) := by subst hK; exact cr_sortedI
theorem cr_sumK (hc : X.calm = true) (hK : X.K = K := by rfl) : CallR X (.builtin "sum") (rSum K) := by subst hK; exact cr_sum hc
end
theorem ifF {b : Bool} {A B : Prop} (h : b = false) (q : B) : if b = true then A else B := by
  rw [if_neg (by rw [h]; decide)]
  exact q
theorem ifT {b : Bool} {A B : Prop} (h : b = true) (q : A) : if b = true then A else B := by
  rw [if_pos h]
  exact q
section
variable {X : Cx} {d : Addr}
theorem op_in_kdE (D : ∃ es n, KDict X.K X.w d es n) : OpR X (compareOp .In) (fun x y H Q => ∃ (z : Str) (r : Option Value), x = .str z ∧ y = .ref d ∧ PySem.W.nsIn X.K d z = some r ∧ Q (.bl r.isSome) H) := by
  obtain ⟨es, n, D⟩ := D
  exact op_in_kd D
theorem op_notIn_kdE (D : ∃ es n, KDict X.K X.w d es n) : OpR X (compareOp .NotIn) (fun x y H Q => ∃ (z : Str) (r : Option Value), x = .str z ∧ y = .ref d ∧ PySem.W.nsIn X.K d z = some r ∧ Q (.bl (!r.isSome)) H) := by
  obtain ⟨es, n, D⟩ := D
  exact op_notIn_kd D
end
/-! ### range(n), the item the turn's number -/
theorem for_range0 {n : Nat} {g : TG} {tb : TS} {D : Ends} {σ : St} {H : Hp} (Pv : Nat → St → Hp → Prop) (h0 : Pv 0 σ H)
    (hs : ∀ (i : Nat) σ H, i < n → Pv i σ H → g (.int (i : Int)) σ H fun σ2 H2 => tb { D with nx := Pv (i + 1), ct := Pv (i + 1), bk := D.nx } σ2 H2) (hd : ∀ σ H, Pv n σ H → D.nx σ H) :
    ∃ W : Nat → Nat → St → Hp → Prop, (∃ m, W 0 m σ H) ∧ ∀ i m σ H, W i m σ H →
      ((Itr 0 n).stop i H ∧ D.nx σ H) ∨ ((Itr 0 n).go i H ∧ ∃ N : St → Hp → Prop, (∀ σ' H', N σ' H' → ∃ m', m' < m ∧ W (i + 1) m' σ' H') ∧ ∀ x H', (Itr 0 n).yld i H x H' → g x σ H' fun σ2 H2 => tb { D with nx := N, ct := N, bk := D.nx } σ2 H2) :=
  for_range (lo := 0) (n := n) Pv h0 (fun i σ H hi p => by rw [Int.zero_add]; exact hs i σ H hi p) hd
theorem lc_range0 {n : Nat} {g : TG} {tt : TT} {te : TE} {vs : List Nat} {σ : St} {H1 : Hp} {D : Addr} {Qd : Hp → Prop} (Pv : Nat → Hp → Prop) (h0 : Pv 0 (upd H1 D (.lst [])))
    (hs : ∀ (i : Nat) H, i < n → Pv i H → g (.int (i : Int)) (wipe σ vs) H fun σ2 H2 => wipe σ2 vs = wipe σ vs ∧ tt σ2 H2 fun b H3 =>
      if b = true then te σ2 H3 fun y H4 => ∃ acc, H4 D = some (.lst acc) ∧ acc.length < sizeLine ∧ Pv (i + 1) (upd H4 D (.lst (acc ++ [y]))) else Pv (i + 1) H3) (hd : ∀ H, Pv n H → Qd H) :
    ∃ W : Nat → Nat → Hp → Prop, (∃ m, W 0 m (upd H1 D (.lst []))) ∧ ∀ i m H, W i m H →
      ((Itr 0 n).stop i H ∧ Qd H) ∨ ((Itr 0 n).go i H ∧ ∃ Nx : Hp → Prop, (∀ H', Nx H' → ∃ m', m' < m ∧ W (i + 1) m' H') ∧ ∀ x H', (Itr 0 n).yld i H x H' → g x (wipe σ vs) H' fun σ2 H2 => wipe σ2 vs = wipe σ vs ∧ tt σ2 H2 fun b H3 =>
        if b = true then te σ2 H3 fun y H4 => ∃ acc, H4 D = some (.lst acc) ∧ acc.length < sizeLine ∧ Nx (upd H4 D (.lst (acc ++ [y]))) else Nx H3) :=
  lc_range (lo := 0) (n := n) Pv h0 (fun i H hi p => by rw [Int.zero_add]; exact hs i H hi p) hd
/-- [{} for x in range(n)] -/
theorem lc_dicts {n j : Nat} {vs : List Nat} {σ : St} {H1 : Hp} {D : Addr} {Qd : Hp → Prop} (nD : H1 D = none) (hn : n ≤ 1000) (hw : ∀ x, wipe ((wipe σ vs).set j (some x)) vs = wipe σ vs)
    (k : ∀ (ds : List Addr) (H' : Hp), ds.length = n → ds.Nodup → (∀ d ∈ ds, H1 d = none ∧ H' d = some (.dK [])) → H' D = some (.lst (ds.map V.ref)) → Same H1 H' → Qd H') :
    ∃ W : Nat → Nat → Hp → Prop, (∃ m, W 0 m (upd H1 D (.lst []))) ∧ ∀ i m H, W i m H →
      ((Itr 0 n).stop i H ∧ Qd H) ∨ ((Itr 0 n).go i H ∧ ∃ Nx : Hp → Prop, (∀ H', Nx H' → ∃ m', m' < m ∧ W (i + 1) m' H') ∧ ∀ x H', (Itr 0 n).yld i H x H' → gName j x (wipe σ vs) H' fun σ2 H2 => wipe σ2 vs = wipe σ vs ∧ tYes σ2 H2 fun b H3 =>
        if b = true then tDNewK σ2 H3 fun y H4 => ∃ acc, H4 D = some (.lst acc) ∧ acc.length < sizeLine ∧ Nx (upd H4 D (.lst (acc ++ [y]))) else Nx H3) := by
  refine lc_range0 (n := n) (fun i H2 => ∃ ds : List Addr, ds.length = i ∧ ds.Nodup ∧ (∀ d ∈ ds, H1 d = none ∧ H2 d = some (.dK [])) ∧ H2 D = some (.lst (ds.map V.ref)) ∧ Same H1 H2)
    ⟨[], rfl, List.nodup_nil, by simp, upd_same, Same.new nD⟩ ?_ (fun H2 ⟨ds, h1, h2, h3, h4, h5⟩ => k ds H2 h1 h2 h3 h4 h5)
  rintro i H2 hi ⟨ds, hl, nd, hds, hD, k2⟩
  refine ⟨hw _, fun a na => ⟨ds.map V.ref, ?_, szl (by rw [List.length_map]; omega), ds ++ [a], by simp [hl], ?_, ?_, ?_, ?_⟩⟩
  · rw [upd_ne (ne_of_none hD na)]
    exact hD
  · refine List.nodup_append.mpr ⟨nd, by simp, fun x hx y hy e => ?_⟩
    simp at hy
    subst hy
    subst e
    rw [(hds _ hx).2] at na
    cases na
  · have naD : a ≠ D := fun z => by rw [z, hD] at na; cases na
    intro d hd
    rcases List.mem_append.mp hd with z | z
    · refine ⟨(hds d z).1, ?_⟩
      have h2 := (hds d z).2
      rw [upd_ne (fun e => by rw [e, hD] at h2; cases h2), upd_ne (ne_of_none h2 na)]
      exact h2
    · simp at z
      subst z
      exact ⟨k2.free na, by rw [upd_ne naD, upd_same]⟩
  · rw [upd_same, List.map_append]
    rfl
  · exact Same.mut (Same.mut k2 (k2.free na)) nD
/-- [x for x in xs if ..], xs a list of tuples that are told one by one -/
theorem lc_filt {K : PySem.W.Frag} {α : Type} {enc : α → List V} {l : List α} {f : α → Bool} {a j : Nat} {xs : List V} {tt : TT} {vs : List Nat} {σ : St} {H1 : Hp} {D : Addr} {Qd : Hp → Prop} (hx : TupsAt H1 xs (l.map enc)) (ha : H1 a = some (.lst xs)) (nD : H1 D = none) (hl : l.length ≤ 100000)
    (hw : ∀ x, wipe ((wipe σ vs).set j (some x)) vs = wipe σ vs) (hj : ∀ x, ((wipe σ vs).set j (some x))[j]? = some (some x))
    (ht : ∀ (i : Nat) (x : α) (tA : Addr) (H2 : Hp), l[i]? = some x → Same H1 H2 → H2 tA = some (.tup (enc x)) → ∀ Q : Bool → Hp → Prop, Q (f x) H2 → tt ((wipe σ vs).set j (some (.ref tA))) H2 Q)
    (k : ∀ (ys : List V) (H' : Hp), Same H1 H' → H' D = some (.lst ys) → TupsAt H' ys ((l.filter f).map enc) → Qd H') :
    ∃ W : Nat → Nat → Hp → Prop, (∃ m, W 0 m (upd H1 D (.lst []))) ∧ ∀ i m H, W i m H →
      ((Itl K a).stop i H ∧ Qd H) ∨ ((Itl K a).go i H ∧ ∃ Nx : Hp → Prop, (∀ H', Nx H' → ∃ m', m' < m ∧ W (i + 1) m' H') ∧ ∀ x H', (Itl K a).yld i H x H' → gName j x (wipe σ vs) H' fun σ2 H2 => wipe σ2 vs = wipe σ vs ∧ tt σ2 H2 fun b H3 =>
        if b = true then tVar j σ2 H3 fun y H4 => ∃ acc, H4 D = some (.lst acc) ∧ acc.length < sizeLine ∧ Nx (upd H4 D (.lst (acc ++ [y]))) else Nx H3) := by
  have hxl : xs.length = l.length := by have := hx.length; rw [List.length_map] at this; exact this
  refine lc_list (K := K) (a := a) (xs := xs) (fun i H2 => ∃ ys, Same H1 H2 ∧ H2 D = some (.lst ys) ∧ TupsAt H2 ys (((l.take i).filter f).map enc)) ⟨[], Same.new nD, upd_same, .nil⟩
    (fun i H2 _ ⟨_, sH, _⟩ => SqL.of (sH _ _ ha)) ?_ ?_
  · rintro i x H2 hi ⟨ys, sH, hD, hy⟩
    obtain ⟨d, hd, tA, rfl, hta⟩ := Paired.getL hx hi
    rw [List.getElem?_map] at hd
    obtain ⟨e, he, rfl⟩ := Option.map_eq_some_iff.mp hd
    have hil : i < l.length := (List.getElem?_eq_some_iff.mp he).1
    have hyl : ys.length ≤ 100000 := by
      have h1 := hy.length
      have h2 := List.length_filter_le f (l.take i)
      rw [List.length_map] at h1
      rw [List.length_take] at h2
      omega
    have etk : l.take (i + 1) = l.take i ++ [e] := by rw [List.take_succ, he]; rfl
    refine ⟨hw _, ht i e tA H2 he sH (sH _ _ hta) _ ?_⟩
    refine ite2 (fun h => ?_) (fun h => ?_)
    · have tS : TupS H2 (upd H2 D (.lst (ys ++ [.ref tA]))) := TupS.upd (TupS.refl _) (by rw [hD]; intro xs z; cases z)
      refine ⟨_, hj _, ys, hD, szl (by omega), ys ++ [.ref tA], Same.mut sH nD, upd_same, ?_⟩
      rw [etk, List.filter_append, List.map_append]
      refine Paired.append (hy.mono tS) ?_
      rw [List.filter_cons, if_pos h]
      exact .cons ⟨tA, rfl, tS _ _ (sH _ _ hta)⟩ .nil
    · refine ⟨ys, sH, hD, ?_⟩
      rw [etk, List.filter_append, List.filter_cons, if_neg h]
      simpa using hy
  · rintro H2 ⟨ys, sH, hD, hy⟩
    rw [hxl, List.take_length] at hy
    exact k ys H2 sH hD hy
/-! ### data of flat values, of tuples of them -/
def fdat : V → PyData
  | .bl b => .bool b
  | .int i => .int i
  | .str x => .str x
  | _ => .none
def okV : V → Bool
  | .non => true
  | .bl _ => true
  | .int _ => true
  | .str x => PyData.strOk x
  | _ => false
theorem dp_flat {K : PySem.W.Frag} {H : Hp} : ∀ {v : V}, okV v = true → Dp K H v (fdat v)
  | .non, _ => .non
  | .bl b, _ => .bl b
  | .int i, _ => .int i
  | .str x, _ => .str x
theorem dp_flats {K : PySem.W.Frag} {H : Hp} : ∀ {vs : List V}, (∀ v ∈ vs, okV v = true) → DpAll K H vs (vs.map fdat)
  | [], _ => .nil
  | v :: vs, h => .cons (dp_flat (h v List.mem_cons_self)) (dp_flats fun u hu => h u (List.mem_cons_of_mem _ hu))
theorem lay_flat : ∀ {v : V}, okV v = true → (fdat v).canLay0 = true
  | .non, _ => by simp [fdat, PyData.canLay0]
  | .bl b, _ => by simp [fdat, PyData.canLay0]
  | .int i, _ => by simp [fdat, PyData.canLay0]
  | .str x, h => by
    show (PyData.str x).canLay0 = true
    rw [PyData.canLay0]
    exact h
theorem lay_flats : ∀ {vs : List V}, (∀ v ∈ vs, okV v = true) → PyData.canLayAll0 (vs.map fdat) = true
  | [], _ => by simp [PyData.canLayAll0]
  | v :: vs, h => by
    rw [List.map_cons, PyData.canLayAll0, lay_flat (h v List.mem_cons_self), lay_flats fun u hu => h u (List.mem_cons_of_mem _ hu)]
    rfl
theorem dep_flat (v : V) : (fdat v).depth = 0 := by cases v <;> simp [fdat, PyData.depth]
theorem dep_flats : ∀ vs : List V, PyData.depthAll (vs.map fdat) = 0
  | [] => by simp [PyData.depthAll]
  | v :: vs => by rw [List.map_cons, PyData.depthAll, dep_flat, dep_flats vs]; rfl
def tupD (d : List V) : PyData := .tuple (d.map fdat)
theorem dp_tups {K : PySem.W.Frag} {H : Hp} : ∀ {xs : List V} {ds : List (List V)}, TupsAt H xs ds → (∀ d ∈ ds, ∀ v ∈ d, okV v = true) → DpAll K H xs (ds.map tupD)
  | _, _, .nil, _ => .nil
  | _, _, .cons ⟨a, e, h⟩ t, k => .cons (by subst e; exact .tup (SqT.of h) (dp_flats (k _ List.mem_cons_self))) (dp_tups t fun d hd => k d (List.mem_cons_of_mem _ hd))
theorem lay_tups : ∀ {ds : List (List V)}, (∀ d ∈ ds, ∀ v ∈ d, okV v = true) → PyData.canLayAll0 (ds.map tupD) = true
  | [], _ => by simp [PyData.canLayAll0]
  | d :: ds, h => by
    rw [List.map_cons, PyData.canLayAll0, lay_tups fun u hu => h u (List.mem_cons_of_mem _ hu), Bool.and_true]
    unfold tupD
    rw [PyData.canLay0]
    exact lay_flats (h d List.mem_cons_self)
theorem dep_tups : ∀ ds : List (List V), PyData.depthAll (ds.map tupD) ≤ 1
  | [] => by simp [PyData.depthAll]
  | d :: ds => by
    rw [List.map_cons, PyData.depthAll]
    have := dep_tups ds
    have e : (tupD d).depth = 1 := by
      unfold tupD
      rw [PyData.depth, dep_flats]
    omega
theorem shaped_tups {ds : List (List V)} (h : ∀ d ∈ ds, ∀ v ∈ d, okV v = true) : SeqAt.shaped (.list (ds.map tupD)) = true := by
  unfold SeqAt.shaped
  have := dep_tups ds
  rw [PyData.canLay0, lay_tups h, PyData.depth, Bool.true_and, decide_eq_true_eq]
  omega
theorem shaped_nil : SeqAt.shaped (.list []) = true := by decide +kernel
theorem eqv_nil (ds : List PyData) : PyData.eqv (.list ds) (.list []) = ds.isEmpty := by
  rw [PyData.eqv]
  cases ds <;> simp [PyData.eqvAll]
theorem dp_nil {K : PySem.W.Frag} {H : Hp} {p : Addr} (h : H p = some (.lst [])) : Dp K H (.ref p) (.list []) := .lst (SqL.of h) .nil
end IC
namespace IC
open PySem L2
def top (i : Nat) : Stmt := PySem.Challenge.pw_insidecount_k11_books.main.body.getD i (.Pass ⟨0, 0, 0, 0⟩)
abbrev s_is_lost : Stmt := top 7
abbrev s_wants_of : Stmt := top 8
abbrev s_all_wants : Stmt := top 9
abbrev s_are_borne : Stmt := top 10
abbrev s_House___init__ : Stmt := inClass (top 16) 0
abbrev s_House_is_time : Stmt := inClass (top 16) 1
abbrev s_House_gone_on : Stmt := inClass (top 16) 2
abbrev s_House_come : Stmt := inClass (top 16) 3
abbrev s_House_tick : Stmt := inClass (top 16) 4
abbrev s_House_time : Stmt := inClass (top 16) 5
abbrev s_House_rows : Stmt := inClass (top 16) 6
abbrev s_House_broken : Stmt := inClass (top 16) 7
abbrev s_number_of : Stmt := top 19
abbrev s_answer : Stmt := top 20
abbrev s_played : Stmt := top 21
abbrev s__law_taken : Stmt := top 23
abbrev s__law_alike : Stmt := top 24
abbrev s__law_deeds : Stmt := top 25
abbrev s__law_fresh : Stmt := top 26
abbrev s__law_do : Stmt := top 27
abbrev s__law_wants : Stmt := top 28
abbrev s__law_is_sound : Stmt := top 29
abbrev s__law_number : Stmt := top 30
abbrev s__law_due : Stmt := top 31
abbrev s__law_spoilt : Stmt := top 32
abbrev s__law_refused : Stmt := top 33
abbrev s_law : Stmt := top 34
end IC
namespace IC
open PySem L2

/-! ### the data -/
abbrev Kn := List (Int × Str)
def encK (kn : Kn) : List (Key × V) := kn.map fun p => (Sum.inl p.1, V.str p.2)
/-- the module's names as far as they are asked -/
structure Glb (K : PySem.W.Frag) (w : World) (mg : Str → Option Value) (dI : Addr) : Prop where
  len : mg "len" = none
  range : mg "range" = none
  sorted : mg "sorted" = none
  int : mg "int" = none
  min : mg "min" = none
  max : mg "max" = none
  reversed : mg "reversed" = none
  list : mg "list" = none
  tuple : mg "tuple" = none
  isinstance : mg "isinstance" = none
  bool : mg "bool" = none
  str : mg "str" = none
  sum : mg "sum" = none
  set : mg "set" = none
  INSIDE : mg "INSIDE" = some (.ref dI)
  MOST_TIME : ∃ u, mg "MOST_TIME" = some u ∧ RelV (.int 60) u
  MOST_BADGES : ∃ u, mg "MOST_BADGES" = some u ∧ RelV (.int 6) u
  MOST_LATE : ∃ u, mg "MOST_LATE" = some u ∧ RelV (.int 9) u
  MOST_LOST : ∃ u, mg "MOST_LOST" = some u ∧ RelV (.int 6) u
  KI : ∃ es n, KDict K w dI es n
  kin : KDct K w dI "in" (.int 1)
  kout : KDct K w dI "out" (.int 0)

structure GlbW (mg : Str → Option Value) : Prop where
  NEVER : ∃ u, mg "NEVER" = some u ∧ RelV (.int 1000000) u
structure GlbS (mg : Str → Option Value) : Prop where
  MOST_STORIES : ∃ u, mg "MOST_STORIES" = some u ∧ RelV (.int 200) u
structure GlbM (mg : Str → Option Value) : Prop where
  MOST_MOMENTS : ∃ u, mg "MOST_MOMENTS" = some u ∧ RelV (.int 8) u
/-- a word that there is -/
def Wd (z : Str) : Prop := z = "in" ∨ z = "out"
def insOf (z : Str) : Int := if z = "in" then 1 else 0
theorem Glb.at {K : PySem.W.Frag} {w : World} {mg : Str → Option Value} {dI : Addr} (G : Glb K w mg dI) {z : Str} (h : Wd z) : KDct K w dI z (.int (insOf z)) := by
  rcases h with rfl | rfl
  · exact G.kin
  · exact G.kout

theorem Glb.ns {K : PySem.W.Frag} {w : World} {mg : Str → Option Value} {dI : Addr} (G : Glb K w mg dI) {z : Str} (h : Wd z) : ∃ u, PySem.W.nsIn K dI z = some (some u) := by
  obtain ⟨_, _, u, _, _, e, _⟩ := G.at h
  exact ⟨u, e⟩
/-! ### what rows want -/
structure Want where
  badge : Int
  lo : Int
  hi : Int
  word : Str
def Want.vs (x : Want) : List V := [.int x.badge, .int x.lo, .int x.hi, .str x.word]
def lookK (kn : Kn) (m : Int) : Option Str := (kn.find? fun p => decide (p.1 = m)).map (·.2)
structure WSt where
  found : List Want
  ahead : Int
  state : Int
def isLost (moment late time : Int) : Bool := decide (moment + late < time)
def wstep (badge : Int) (kn : Kn) (late time : Int) (s : WSt) (m : Int) : WSt :=
  let x := insOf ((lookK kn m).getD "")
  { found := if x = s.state then (if m - s.ahead = 1 then s.found ++ [⟨badge, s.ahead, m, "twice"⟩] else if isLost (m - 1) late time then s.found ++ [⟨badge, s.ahead, m, "lost"⟩] else s.found) else s.found
    ahead := m, state := x }
def wfold (badge : Int) (kn : Kn) (late time : Int) (ms : List Int) : WSt := ms.foldl (wstep badge kn late time) ⟨[], 0, 0⟩
/-- the dict's keys, rising -/
def keysOf (kn : Kn) : List Int := (kn.map (·.1)).mergeSort (fun a b => decide (a ≤ b))
def wantsOf (badge : Int) (kn : Kn) (late time : Int) : List Want := (wfold badge kn late time (keysOf kn)).found
theorem sort_uniq {ys : List Int} {kn : Kn} (p : ys.Perm (kn.map (·.1))) (s : ys.Pairwise (· ≤ ·)) : ys = keysOf kn := by
  have h2 : (keysOf kn).Perm (kn.map (·.1)) := List.mergeSort_perm ..
  have h3 : (keysOf kn).Pairwise (· ≤ ·) := by
    have := List.pairwise_mergeSort (le := fun a b : Int => decide (a ≤ b)) (fun a b c h1 h2 => by simp at *; omega) (fun a b => by simp; omega) (kn.map (·.1))
    exact this.imp fun h => by simpa using h
  exact (p.trans h2.symm).eq_of_pairwise (fun a b _ _ h1 h2 => by omega) s h3
/-- a badge's dict as it may be: moments once each, words that there are -/
structure KnOk (kn : Kn) : Prop where
  nd : (kn.map (·.1)).Nodup
  wd : ∀ p ∈ kn, Wd p.2
  rg : ∀ p ∈ kn, 1 ≤ p.1 ∧ p.1 ≤ 60
theorem nd_len : ∀ (n : Nat) (l : List Int), l.Nodup → (∀ x ∈ l, 1 ≤ x ∧ x ≤ (n : Int)) → l.length ≤ n
  | 0, l, _, h => by
    cases l with
    | nil => simp
    | cons x l => have := h x List.mem_cons_self; omega
  | n + 1, l, nd, h => by
    by_cases hm : ((n + 1 : Nat) : Int) ∈ l
    · have ih := nd_len n (l.erase ((n + 1 : Nat) : Int)) (nd.erase _) (fun x hx => by
        have h1 := (List.Nodup.mem_erase_iff nd).mp hx
        have h2 := h x h1.2
        have h3 : x ≠ ((n + 1 : Nat) : Int) := h1.1
        omega)
      rw [List.length_erase_of_mem hm] at ih
      omega
    · have ih := nd_len n l nd (fun x hx => by
        have h2 := h x hx
        have h3 : x ≠ ((n + 1 : Nat) : Int) := fun z => hm (z ▸ hx)
        omega)
      omega
theorem KnOk.sm {kn : Kn} (k : KnOk kn) : kn.length < 64 := by
  have h := nd_len 60 (kn.map (·.1)) k.nd (fun x hx => by
    obtain ⟨p, hp, rfl⟩ := List.mem_map.mp hx
    exact k.rg p hp)
  rw [List.length_map] at h
  omega
theorem valV_enc (kn : Kn) (m : Int) : valV (encK kn) (Sum.inl m) = (lookK kn m).map V.str := by
  unfold valV encK lookK
  induction kn with
  | nil => rfl
  | cons p kn ih =>
    rw [List.map_cons, List.find?_cons, List.find?_cons]
    by_cases h : p.1 = m
    · rw [show decide ((Sum.inl p.1 : Key) = Sum.inl m) = true from decide_eq_true (by rw [h]), show decide (p.1 = m) = true from decide_eq_true h]
      rfl
    · rw [show decide ((Sum.inl p.1 : Key) = Sum.inl m) = false from decide_eq_false (fun z => h (Sum.inl.inj z)), show decide (p.1 = m) = false from decide_eq_false h]
      exact ih
theorem lookK_mem {kn : Kn} {m : Int} (h : m ∈ kn.map (·.1)) : ∃ z, lookK kn m = some z ∧ ∃ p ∈ kn, p.2 = z := by
  unfold lookK
  induction kn with
  | nil => simp at h
  | cons p kn ih =>
    rw [List.find?_cons]
    by_cases e : p.1 = m
    · rw [show decide (p.1 = m) = true from decide_eq_true e]
      exact ⟨p.2, rfl, p, List.mem_cons_self, rfl⟩
    · rw [show decide (p.1 = m) = false from decide_eq_false e]
      rw [List.map_cons, List.mem_cons] at h
      rcases h with h | h
      · exact absurd h.symm e
      · obtain ⟨z, h1, q, h2, h3⟩ := ih h
        exact ⟨z, h1, q, List.mem_cons_of_mem _ h2, h3⟩
theorem KnOk.look {kn : Kn} (k : KnOk kn) {m : Int} (h : m ∈ kn.map (·.1)) : ∃ z, lookK kn m = some z ∧ Wd z := by
  obtain ⟨z, h1, p, h2, rfl⟩ := lookK_mem h
  exact ⟨p.2, h1, k.wd p h2⟩
theorem wfold_len (badge : Int) (kn : Kn) (late time : Int) (ms : List Int) : ∀ s : WSt, (ms.foldl (wstep badge kn late time) s).found.length ≤ s.found.length + ms.length := by
  induction ms with
  | nil => intro s; simp
  | cons m ms ih =>
    intro s
    rw [List.foldl_cons]
    refine Nat.le_trans (ih _) ?_
    have : (wstep badge kn late time s m).found.length ≤ s.found.length + 1 := by
      unfold wstep
      simp only
      split
      · split
        · simp
        · split <;> simp
      · simp
    rw [List.length_cons]
    omega

theorem wantsOf_len {kn : Kn} (k : KnOk kn) (badge late time : Int) : (wantsOf badge kn late time).length < 64 := by
  have h := wfold_len badge kn late time (keysOf kn) ⟨[], 0, 0⟩
  have h2 : (keysOf kn).length = kn.length := by
    unfold keysOf
    rw [List.length_mergeSort, List.length_map]
  have := k.sm
  unfold wantsOf wfold
  simp at h
  omega
/-- the wants of the first n badges -/
def awTo (kns : List Kn) (late time : Int) : Nat → List Want
  | 0 => []
  | n + 1 => awTo kns late time n ++ wantsOf n (kns.getD n []) late time
def allWants (kns : List Kn) (late time : Int) : List Want := awTo kns late time kns.length
theorem awTo_len {kns : List Kn} (k : ∀ kn ∈ kns, KnOk kn) (late time : Int) : ∀ n, n ≤ kns.length → (awTo kns late time n).length ≤ 64 * n
  | 0, _ => by simp [awTo]
  | n + 1, h => by
    have ih := awTo_len k late time n (by omega)
    have hm : kns.getD n [] ∈ kns := by
      rw [List.getD_eq_getElem?_getD, List.getElem?_eq_getElem (by omega)]
      exact List.getElem_mem _
    have := wantsOf_len (k _ hm) n late time
    unfold awTo
    rw [List.length_append]
    omega
/-- nobody passed twice, and no more rows are lost than may be -/
def borne (ws : List Want) (lost : Int) : Bool := (ws.filter fun x => decide (x.word = ("twice" : Str))).isEmpty && decide ((ws.length : Int) ≤ lost)
theorem wfold_wd (badge : Int) (kn : Kn) (late time : Int) (ms : List Int) : ∀ s : WSt, (∀ x ∈ s.found, x.word = "twice" ∨ x.word = "lost") → ∀ x ∈ (ms.foldl (wstep badge kn late time) s).found, x.word = "twice" ∨ x.word = "lost" := by
  induction ms with
  | nil => intro s h; exact h
  | cons m ms ih =>
    intro s h
    rw [List.foldl_cons]
    refine ih _ ?_
    unfold wstep
    simp only
    intro x hx
    split at hx
    · split at hx
      · rcases List.mem_append.mp hx with z | z
        · exact h x z
        · simp at z; subst z; exact .inl rfl
      · split at hx
        · rcases List.mem_append.mp hx with z | z
          · exact h x z
          · simp at z; subst z; exact .inr rfl
        · exact h x hx
    · exact h x hx
theorem awTo_wd (kns : List Kn) (late time : Int) : ∀ n, ∀ x ∈ awTo kns late time n, x.word = "twice" ∨ x.word = "lost"
  | 0 => by simp [awTo]
  | n + 1 => fun x hx => by
    rcases List.mem_append.mp hx with z | z
    · exact awTo_wd kns late time n x z
    · exact wfold_wd _ _ _ _ _ _ (by simp) x z
/-- the list of dicts at L -/
structure KnAt (H : Hp) (L : Addr) (ds : List Addr) (kns : List Kn) : Prop where
  lst : H L = some (.lst (ds.map V.ref))
  nd : ds.Nodup
  at_ : Paired (fun d k => H d = some (.dK (encK k))) ds kns
  ok : ∀ k ∈ kns, KnOk k
  few : kns.length ≤ 6
theorem KnAt.len {H : Hp} {L : Addr} {ds : List Addr} {kns : List Kn} (k : KnAt H L ds kns) : ds.length = kns.length := k.at_.length
theorem KnAt.same {H H' : Hp} {L : Addr} {ds : List Addr} {kns : List Kn} (k : KnAt H L ds kns) (s : Same H H') : KnAt H' L ds kns :=
  ⟨s _ _ k.lst, k.nd, Paired.mapP k.at_ fun _ _ h => s _ _ h, k.ok, k.few⟩
theorem KnAt.keeps {H H' : Hp} {L : Addr} {ds : List Addr} {kns : List Kn} {fp : List Addr} (k : KnAt H L ds kns) (s : Keeps fp H H') (hL : L ∉ fp) (hd : ∀ d ∈ ds, d ∉ fp) : KnAt H' L ds kns := by
  refine ⟨s _ _ k.lst hL, k.nd, ?_, k.ok, k.few⟩
  have all : ∀ {ds : List Addr} {kns : List Kn}, Paired (fun d k => H d = some (.dK (encK k))) ds kns → (∀ d ∈ ds, d ∉ fp) → Paired (fun d k => H' d = some (.dK (encK k))) ds kns := by
    intro ds kns h
    induction h with
    | nil => intro _; exact .nil
    | cons r t ih => intro hd; exact .cons (s _ _ r (hd _ List.mem_cons_self)) (ih fun d h => hd d (List.mem_cons_of_mem _ h))
  exact all k.at_ hd

section
variable {P : Program} {w : World} {K : PySem.W.Frag} {mg : Str → Option Value} {base : Heap} {dI : Addr}
/-! ### is_lost -/
def sp_is_lost : Sp := fun vs H Q _ => ∃ (m l t : Int), vs = [.int m, .int l, .int t] ∧ Q (.bl (isLost m l t)) H
theorem sc_is_lost : FnScope ["moment", "late", "time"] ["moment", "late", "time"] (defScope s_is_lost) := ⟨rfl, rfl, rfl, by decide +kernel, rfl, by decide +kernel, by decide +kernel⟩
theorem ok_is_lost {f : Addr} {fd : FuncData} (F : Fun K "is_lost" "is_lost" s_is_lost f fd) : FnOk P w K mg base CX0 1 f fd ["moment", "late", "time"] sp_is_lost := by
  refine F.ok sc_is_lost (fun vs H Q E h => ?_) (fun cdv A outer s H vs Q E hr h => ?_)
  · obtain ⟨m, l, t, rfl, _⟩ := h
    rfl
  · obtain ⟨m, l, t, rfl, q⟩ := h
    refine ⟨_, (pss_one (ps_ret (pe_cmpR op_lt (pe_op op_add (pv 0) (pv 1)) (pv 2) (nomark _)))), ?_⟩
    exact ⟨_, rfl, _, rfl, _, _, rfl, rfl, _, rfl, _, _, rfl, rfl, q⟩
/-! ### wants_of -/
def sp_wants_of : Sp := fun vs H Q _ => ∃ (b : Int) (d : Addr) (kn : Kn) (l t : Int), vs = [.int b, .ref d, .int l, .int t] ∧ H d = some (.dK (encK kn)) ∧ KnOk kn ∧
  ∀ (p : Addr) (xs : List V) (H' : Hp), Same H H' → H p = none → H' p = some (.lst xs) → TupsAt H' xs ((wantsOf b kn l t).map Want.vs) → Q (.ref p) H'
theorem sc_wants_of : FnScope ["badge", "known", "late", "time", "found", "ahead", "state", "moment"] ["badge", "known", "late", "time"] (defScope s_wants_of) := ⟨rfl, rfl, rfl, by decide +kernel, rfl, by decide +kernel, by decide +kernel⟩
theorem ok_wants_of {f : Addr} {fd : FuncData} (F : Fun K "wants_of" "wants_of" s_wants_of f fd) (G : Glb K w mg dI) (c_is_lost : C8.Cal P w K mg base 1 "is_lost" sp_is_lost []) :
    FnOk P w K mg base CX0 2 f fd ["badge", "known", "late", "time"] sp_wants_of := by
  refine F.ok sc_wants_of (fun vs H Q E h => ?_) (fun cdv A outer s H vs Q E hr h => ?_)
  · obtain ⟨b, d, kn, l, t, rfl, _⟩ := h
    rfl
  · obtain ⟨b, d, kn, l, t, rfl, hd, ko, q⟩ := h
    have hu := hu_of hr
    refine ⟨_, (pss_cons (ps_set (i := 4) sc_wants_of.nd rfl (Or.inl rfl) (pe_lst pa_nil))
      (pss_cons (ps_set (i := 5) sc_wants_of.nd rfl (Or.inl rfl) pe_int)
      (pss_cons (ps_set (i := 6) sc_wants_of.nd rfl (Or.inl rfl) pe_int)
      (pss_cons (ps_for PassesOwn.never rfl (pi_list (pe_callB (call_sortedDI rfl) (by rfl) G.sorted (by decide +kernel) (pa_cons (pv 1) pa_nil))) (pg_name (i := 7) sc_wants_of.nd rfl (Or.inl rfl))
        (C8.pss_cut (ps_if (pt_cmpR op_eq (pe_ix ix_kdict (pe_glob (v := .ref dI) rfl G.INSIDE rfl) (pe_dget hu (pv 1) (pv 7) (fun _ _ => rfl)) (fun _ _ => rfl)) (pv 6) (nomark _))
            (pss_one (ps_if (pt_cmpR op_eq (pe_op op_sub (pv 7) (pv 5)) pe_int (nomark _))
                (pss_one (ps_expr (pe_bm PySem.F.plainAttrs_list PySem.F.slot_list_append PySem.F.type_list_append mt_append (pv 4) (pa_cons (pe_tup (pa_cons (pv 0) (pa_cons (pv 5) (pa_cons (pv 7) (pa_cons pe_str pa_nil))))) pa_nil))))
                (pss_one (ps_if (pt_val (C8.pe_c c_is_lost hr (by decide) rfl (pa_cons (pe_op op_sub (pv 7) pe_int) (pa_cons (pv 2) (pa_cons (pv 3) pa_nil)))))
                    (pss_one (ps_expr (pe_bm PySem.F.plainAttrs_list PySem.F.slot_list_append PySem.F.type_list_append mt_append (pv 4) (pa_cons (pe_tup (pa_cons (pv 0) (pa_cons (pv 5) (pa_cons (pv 7) (pa_cons pe_str pa_nil))))) pa_nil))))
                    pss_nil))))
            pss_nil)
          (pss_cons (ps_set (i := 5) sc_wants_of.nd rfl (Or.inl rfl) (pv 7))
          (pss_one (ps_set (i := 6) sc_wants_of.nd rfl (Or.inl rfl) (pe_ix ix_kdict (pe_glob (v := .ref dI) rfl G.INSIDE rfl) (pe_dget hu (pv 1) (pv 7) (fun _ _ => rfl)) (fun _ _ => rfl)))))))
      (pss_one (ps_ret (pv 4))))))), ?_⟩
    refine ⟨by decide, fun p np => ?_⟩
    have npd : d ≠ p := ne_of_none hd np
    have s1 : Same H (upd H p (.lst [])) := Same.new np
    -- sorted(known)
    refine ⟨_, rfl, d, encK kn, kn.map (·.1), rfl, .inl (by rw [upd_ne npd]; exact hd), by unfold encK; rw [List.map_map, List.map_map]; rfl, by rw [List.length_map]; exact ko.sm, fun ms q0 pm ps nq => ?_⟩
    have nqp : q0 ≠ p := fun z => by rw [z, upd_same] at nq; cases nq
    have nqd : H q0 = none := by rw [upd_ne nqp] at nq; exact nq
    have ems : ms = keysOf kn := sort_uniq pm ps
    have hmem : ∀ m ∈ ms, m ∈ kn.map (·.1) := fun m hm => pm.mem_iff.mp hm
    have hlen : ms.length < 64 := by rw [pm.length_eq, List.length_map]; exact ko.sm
    have s2 : Same H (upd (upd H p (.lst [])) q0 (.lst (ms.map V.int))) := Same.mut s1 nqd
    refine ⟨q0, rfl, ⟨_, SqL.of upd_same⟩, for_list (K := K) (a := q0) (xs := ms.map V.int)
      (fun i σ H2 => ∃ (xs : List V) (v : Option V), σ = [some (.int b), some (.ref d), some (.int l), some (.int t), some (.ref p), some (.int (wfold b kn l t (ms.take i)).ahead), some (.int (wfold b kn l t (ms.take i)).state), v] ∧
        Same H H2 ∧ H2 q0 = some (.lst (ms.map V.int)) ∧ H2 p = some (.lst xs) ∧ TupsAt H2 xs ((wfold b kn l t (ms.take i)).found.map Want.vs))
      ⟨[], none, rfl, s2, upd_same, by rw [upd_ne nqp.symm, upd_same], .nil⟩ (fun i σ H2 _ ⟨_, _, _, _, h, _⟩ => SqL.of h) ?_ ?_⟩
    · rintro i y σ H2 hi ⟨xs, v, rfl, sH, hq, hp, hx⟩
      rw [List.getElem?_map] at hi
      obtain ⟨m, hm, rfl⟩ := Option.map_eq_some_iff.mp hi
      have hmm : m ∈ kn.map (·.1) := hmem m (List.mem_of_getElem? hm)
      obtain ⟨z, hz, wz⟩ := ko.look hmm
      have hil : i < ms.length := (List.getElem?_eq_some_iff.mp hm).1
      have stp : wfold b kn l t (ms.take (i + 1)) = wstep b kn l t (wfold b kn l t (ms.take i)) m := by
        unfold wfold
        rw [List.take_succ, hm, Option.toList_some, List.foldl_append]
        rfl
      generalize hS : wfold b kn l t (ms.take i) = S at *
      have hfl : S.found.length ≤ i := by
        have := wfold_len b kn l t (ms.take i) ⟨[], 0, 0⟩
        rw [← hS]
        unfold wfold
        rw [List.length_take] at this
        simp at this
        omega
      have hxl : xs.length = S.found.length := by have := hx.length; rw [List.length_map] at this; exact this
      have hd2 : H2 d = some (.dK (encK kn)) := sH _ _ hd
      have hg : DGet H2 d (.int m) (some (.str z)) := by
        have e : DGet H2 d (kV (Sum.inl m)) (valV (encK kn) (Sum.inl m)) := DGet.k hd2
        rw [valV_enc, hz] at e
        exact e
      have hK : KDct K w dI z (.int (insOf z)) := G.at wz
      have hx' : insOf ((lookK kn m).getD "") = insOf z := by rw [hz]; rfl
      have pq : p ≠ q0 := nqp.symm
      -- the if, and what holds behind it
      refine ⟨fun σ H3 => ∃ xs' : List V, σ = [some (.int b), some (.ref d), some (.int l), some (.int t), some (.ref p), some (.int S.ahead), some (.int S.state), some (.int m)] ∧
        Same H H3 ∧ H3 q0 = some (.lst (ms.map V.int)) ∧ H3 p = some (.lst xs') ∧ TupsAt H3 xs' ((wstep b kn l t S m).found.map Want.vs), ?_, ?_⟩
      · -- a want is told
        have app : ∀ (wd : Str) (H3 : Hp) (a : Addr), H3 a = none → H3 = H2 → (wstep b kn l t S m).found = S.found ++ [⟨b, S.ahead, m, wd⟩] →
            ∃ xs' : List V, Same H (upd (upd H3 a (.tup [.int b, .int S.ahead, .int m, .str wd])) p (.lst (xs ++ [.ref a]))) ∧ upd (upd H3 a (.tup [.int b, .int S.ahead, .int m, .str wd])) p (.lst (xs ++ [.ref a])) q0 = some (.lst (ms.map V.int)) ∧
              upd (upd H3 a (.tup [.int b, .int S.ahead, .int m, .str wd])) p (.lst (xs ++ [.ref a])) p = some (.lst xs') ∧ TupsAt (upd (upd H3 a (.tup [.int b, .int S.ahead, .int m, .str wd])) p (.lst (xs ++ [.ref a]))) xs' ((wstep b kn l t S m).found.map Want.vs) := by
          intro wd H3 a na e3 ef
          subst e3
          have nap : a ≠ p := fun z => by rw [z, hp] at na; cases na
          have naq : q0 ≠ a := fun z => by rw [← z, hq] at na; cases na
          have t3 : TupS H3 (upd (upd H3 a (.tup [.int b, .int S.ahead, .int m, .str wd])) p (.lst (xs ++ [.ref a]))) :=
            TupS.upd (TupS.of_same (Same.new na)) (by rw [upd_ne nap.symm, hp]; intro xs z; cases z)
          refine ⟨_, Same.mut (sH.trans (Same.new na)) np, by rw [upd_ne nqp, upd_ne naq]; exact hq, upd_same, ?_⟩
          rw [ef, List.map_append]
          exact Paired.append (hx.mono t3) (.cons ⟨a, rfl, by rw [upd_ne nap, upd_same]; rfl⟩ .nil)
        refine ⟨_, rfl, _, rfl, d, _, rfl, hg, dI, z, _, rfl, rfl, hK, _, rfl, rfl, _, rfl, ?_⟩
        refine ite2 (fun h1 => ?_) (fun h1 => ?_)
        · have h1' : insOf z = S.state := by simpa using h1
          refine ⟨_, rfl, _, rfl, _, _, rfl, rfl, rfl, _, rfl, ?_⟩
          refine ite2 (fun h2 => ?_) (fun h2 => ?_)
          · have h2' : m - S.ahead = 1 := by simpa using h2
            refine ⟨_, rfl, .inl ⟨rfl, _, SqL.of hp⟩, _, rfl, _, rfl, _, rfl, sz (by simp), fun a na => ⟨p, xs, _, rfl, rfl, ?_, szl (by omega), ?_⟩⟩
            · rw [upd_ne (fun z => by rw [← z, hp] at na; cases na)]; exact hp
            · obtain ⟨xs', r⟩ := app "twice" H2 a na rfl (by unfold wstep; simp only; rw [hx', if_pos h1', if_pos h2'])
              exact ⟨xs', rfl, r⟩
          · have h2' : ¬ m - S.ahead = 1 := by simpa using h2
            refine ⟨_, rfl, _, _, rfl, rfl, _, rfl, _, rfl, m - 1, l, t, rfl, _, rfl, ?_⟩
            refine ite2 (fun h3 => ?_) (fun h3 => ?_)
            · refine ⟨_, rfl, .inl ⟨rfl, _, SqL.of hp⟩, _, rfl, _, rfl, _, rfl, sz (by simp), fun a na => ⟨p, xs, _, rfl, rfl, ?_, szl (by omega), ?_⟩⟩
              · rw [upd_ne (fun z => by rw [← z, hp] at na; cases na)]; exact hp
              · obtain ⟨xs', r⟩ := app "lost" H2 a na rfl (by unfold wstep; simp only; rw [hx', if_pos h1', if_neg h2', if_pos h3])
                exact ⟨xs', rfl, r⟩
            · refine ⟨xs, rfl, sH, hq, hp, ?_⟩
              rw [show (wstep b kn l t S m).found = S.found by unfold wstep; simp only; rw [hx', if_pos h1', if_neg h2', if_neg h3]]
              exact hx
        · have h1' : ¬ insOf z = S.state := by simpa using h1
          refine ⟨xs, rfl, sH, hq, hp, ?_⟩
          rw [show (wstep b kn l t S m).found = S.found by unfold wstep; simp only; rw [hx', if_neg h1']]
          exact hx
      · rintro σ H3 ⟨xs', rfl, sH3, hq3, hp3, hx3⟩
        have hg3 : DGet H3 d (.int m) (some (.str z)) := by
          have e : DGet H3 d (kV (Sum.inl m)) (valV (encK kn) (Sum.inl m)) := DGet.k (sH3 _ _ hd)
          rw [valV_enc, hz] at e
          exact e
        refine ⟨_, rfl, _, rfl, _, rfl, d, _, rfl, hg3, dI, z, _, rfl, rfl, hK, ?_⟩
        refine ⟨xs', some (.int m), ?_, sH3, hq3, hp3, by rw [stp]; exact hx3⟩
        rw [stp]
        show _ = [some (V.int b), some (V.ref d), some (V.int l), some (V.int t), some (V.ref p), some (V.int m), some (V.int (insOf ((lookK kn m).getD ""))), some (V.int m)]
        rw [hx']
        rfl
    · rintro σ H2 ⟨xs, v, rfl, sH, hq, hp, hx⟩
      refine ⟨_, rfl, ?_⟩
      rw [List.length_map, List.take_length, ems] at hx
      exact q p xs H2 sH np hp hx
/-! ### all_wants -/
def sp_all_wants : Sp := fun vs H Q _ => ∃ (L : Addr) (ds : List Addr) (kns : List Kn) (l t : Int), vs = [.ref L, .int l, .int t] ∧ KnAt H L ds kns ∧
  ∀ (p : Addr) (xs : List V) (H' : Hp), Same H H' → H p = none → H' p = some (.lst xs) → TupsAt H' xs ((allWants kns l t).map Want.vs) → Q (.ref p) H'
theorem sc_all_wants : FnScope ["known", "late", "time", "found", "badge"] ["known", "late", "time"] (defScope s_all_wants) := ⟨rfl, rfl, rfl, by decide +kernel, rfl, by decide +kernel, by decide +kernel⟩
theorem ok_all_wants {f : Addr} {fd : FuncData} (F : Fun K "all_wants" "all_wants" s_all_wants f fd) (G : Glb K w mg dI) (c_wants_of : C8.Cal P w K mg base 2 "wants_of" sp_wants_of []) :
    FnOk P w K mg base CX0 3 f fd ["known", "late", "time"] sp_all_wants := by
  refine F.ok sc_all_wants (fun vs H Q E h => ?_) (fun cdv A outer s H vs Q E hr h => ?_)
  · obtain ⟨L, ds, kns, l, t, rfl, _⟩ := h
    rfl
  · obtain ⟨L, ds, kns, l, t, rfl, ka, q⟩ := h
    refine ⟨_, (pss_cons (ps_set (i := 3) sc_all_wants.nd rfl (Or.inl rfl) (pe_lst pa_nil))
      (pss_cons (ps_for PassesOwn.never rfl (pi_range1 rfl G.range (pa_cons (pe_callB call_len_seq (by rfl) G.len (by decide +kernel) (pa_cons (pv 0) pa_nil)) pa_nil)) (pg_name (i := 4) sc_all_wants.nd rfl (Or.inl rfl))
        (pss_one (ps_expr (pe_bm PySem.F.plainAttrs_list PySem.F.slot_list_extend PySem.F.type_list_extend mt_extend (pv 3) (pa_cons (C8.pe_c c_wants_of hr (by decide) rfl (pa_cons (pv 4) (pa_cons (pe_ix ix_list (pv 0) (pv 4) (fun _ _ => rfl)) (pa_cons (pv 1) (pa_cons (pv 2) pa_nil))))) pa_nil)))))
      (pss_one (ps_ret (pv 3))))), ?_⟩
    refine ⟨by decide, fun p np => ?_⟩
    have s1 : Same H (upd H p (.lst [])) := Same.new np
    refine ⟨_, rfl, L, _, rfl, .inl (SqL.of (s1 _ _ ka.lst)), _, rfl, by omega, by simp; have := ka.few; have := ka.len; omega, ?_⟩
    rw [List.length_map, ka.len, Int.toNat_natCast]
    refine for_range0 (n := kns.length) (fun i σ H2 => ∃ (xs : List V) (v : Option V), σ = [some (.ref L), some (.int l), some (.int t), some (.ref p), v] ∧
        Same H H2 ∧ H2 p = some (.lst xs) ∧ TupsAt H2 xs ((awTo kns l t i).map Want.vs)) ⟨[], none, rfl, s1, upd_same, .nil⟩ ?_ ?_
    · rintro i σ H2 hi ⟨xs, v, rfl, sH, hp, hx⟩
      have ek : kns[i]? = some (kns.getD i []) := by rw [List.getD_eq_getElem?_getD, List.getElem?_eq_getElem hi]; rfl
      obtain ⟨d, hd, hdk⟩ := Paired.get ka.at_ ek
      have hko : KnOk (kns.getD i []) := ka.ok _ (List.mem_of_getElem? ek)
      have hlen := awTo_len ka.ok l t i (by omega)
      have hw := wantsOf_len hko i l t
      have hxl : xs.length = (awTo kns l t i).length := by have := hx.length; rw [List.length_map] at this; exact this
      have hf := ka.few
      refine ⟨_, rfl, .inl ⟨rfl, _, SqL.of hp⟩, _, rfl, _, rfl, _, rfl, L, _, _, .ref d, rfl, rfl, SqL.of (sH _ _ ka.lst), atI_nat (by rw [List.getElem?_map, hd]; rfl), _, rfl, _, rfl, i, d, kns.getD i [], l, t, rfl, sH _ _ hdk, hko, fun p2 ys H3 s3 n3 h3 t3 => ⟨p, p2, xs, ys, rfl, rfl, s3 _ _ hp, h3, sz ?_, ?_⟩⟩
      · have := t3.length
        rw [List.length_map] at this
        omega
      · have tS : TupS H3 (upd H3 p (.lst (xs ++ ys))) := TupS.upd (TupS.refl _) (by rw [s3 _ _ hp]; intro xs z; cases z)
        refine ⟨_, some (.int i), rfl, Same.mut (sH.trans s3) np, upd_same, ?_⟩
        · show TupsAt _ _ ((awTo kns l t i ++ wantsOf i (kns.getD i []) l t).map Want.vs)
          rw [List.map_append]
          exact Paired.append ((hx.mono (TupS.of_same s3)).mono tS) (t3.mono tS)
    · rintro σ H2 ⟨xs, v, rfl, sH, hp, hx⟩
      exact ⟨_, rfl, q p xs H2 sH np hp hx⟩
/-! ### are_borne -/
def sp_are_borne : Sp := fun vs H Q _ => ∃ (p : Addr) (xs : List V) (ws : List Want) (lost : Int), vs = [.ref p, .int lost] ∧ H p = some (.lst xs) ∧ TupsAt H xs (ws.map Want.vs) ∧ ws.length ≤ 1000 ∧ (∀ x ∈ ws, x.word = "twice" ∨ x.word = "lost") ∧
  ∀ (H' : Hp), Same H H' → Q (.bl (borne ws lost)) H'
theorem sc_are_borne : FnScope ["wants", "lost", "want"] ["wants", "lost"] (defScope s_are_borne) := ⟨rfl, rfl, rfl, by decide +kernel, rfl, by decide +kernel, by decide +kernel⟩
theorem vs_ok {x : Want} (h : x.word = "twice" ∨ x.word = "lost") : ∀ v ∈ x.vs, okV v = true := by
  intro v hv
  unfold Want.vs at hv
  simp only [List.mem_cons, List.not_mem_nil, or_false] at hv
  rcases hv with rfl | rfl | rfl | rfl
  · rfl
  · rfl
  · rfl
  · rcases h with e | e <;> rw [e] <;> decide +kernel
theorem ok_are_borne {f : Addr} {fd : FuncData} (F : Fun K "are_borne" "are_borne" s_are_borne f fd) (G : Glb K w mg dI) :
    FnOk P w K mg base CX0 1 f fd ["wants", "lost"] sp_are_borne := by
  refine F.ok sc_are_borne (fun vs H Q E h => ?_) (fun cdv A outer s H vs Q E hr h => ?_)
  · obtain ⟨p, xs, ws, lost, rfl, _⟩ := h
    rfl
  · obtain ⟨p, xs, ws, lost, rfl, hp, hx, hl, hw, q⟩ := h
    have hxl : xs.length = ws.length := by have := hx.length; rw [List.length_map] at this; exact this
    refine ⟨_, (pss_one (ps_ret (pe_and (pe_cmpR (op_eqD hr.units) (pe_lc (own := [("want", 2)]) (g := gName 2) rfl sc_are_borne.nd (pi_list (pv 0)) (blkOk_by (own := [("want", 2)]) (N := ["wants", "lost", "want"]) (sc := defScope s_are_borne) (by decide +kernel)) (fun _ _ _ _ _ => (pg_name (i := 2) sc_are_borne.nd rfl (Or.inl rfl))) (fun _ _ _ _ _ => (pts_one (pt_cmpR op_eq (pe_ix (ix_tupK (K := K)) (pv 2) pe_int (fun _ _ => rfl)) pe_str (nomark _)))) (fun _ _ _ _ _ => (pv 2))) (pe_lst pa_nil) (nomark _)) (pe_one (pe_cmpR op_le (pe_callB call_len_seq (by rfl) G.len (by decide +kernel) (pa_cons (pv 0) pa_nil)) (pv 1) (nomark _)))))), ?_⟩
    refine ⟨_, rfl, p, rfl, ⟨_, SqL.of hp⟩, fun D nD => ?_⟩
    have s1 : Same H (upd H D (.lst [])) := Same.new nD
    refine lc_list (K := K) (a := p) (xs := xs) (fun i H2 => ∃ ys, Same H H2 ∧ H2 D = some (.lst ys) ∧ TupsAt H2 ys (((ws.take i).filter fun x => decide (x.word = ("twice" : Str))).map Want.vs)) ⟨[], s1, upd_same, .nil⟩
      (fun i H2 _ ⟨_, sH, _⟩ => SqL.of (sH _ _ hp)) ?_ ?_
    · rintro i x H2 hi ⟨ys, sH, hD, hy⟩
      obtain ⟨d, hd, a, rfl, ha⟩ := Paired.getL hx hi
      rw [List.getElem?_map] at hd
      obtain ⟨wt, hwt, rfl⟩ := Option.map_eq_some_iff.mp hd
      have hil : i < ws.length := (List.getElem?_eq_some_iff.mp hwt).1
      have hyl : ys.length ≤ 1000 := by
        have h1 := hy.length
        have h2 := List.length_filter_le (fun x : Want => decide (x.word = ("twice" : Str))) (ws.take i)
        rw [List.length_map] at h1
        rw [List.length_take] at h2
        omega
      have etk : ws.take (i + 1) = ws.take i ++ [wt] := by rw [List.take_succ, hwt]; rfl
      refine ⟨rfl, _, rfl, a, wt.vs, 3, .str wt.word, rfl, rfl, SqT.of (sH _ _ ha), rfl, rfl, _, rfl, ?_⟩
      refine ite2 (fun h => ?_) (fun h => ?_)
      · have h' : wt.word = "twice" := by simpa using h
        have tS : TupS H2 (upd H2 D (.lst (ys ++ [.ref a]))) := TupS.upd (TupS.refl _) (by rw [hD]; intro xs z; cases z)
        refine ⟨_, rfl, ys, hD, szl (by omega), ys ++ [.ref a], Same.mut sH nD, upd_same, ?_⟩
        rw [etk, List.filter_append, List.map_append]
        refine Paired.append (hy.mono tS) ?_
        rw [List.filter_cons, if_pos (by simpa using h')]
        exact .cons ⟨a, rfl, tS _ _ (sH _ _ ha)⟩ .nil
      · have h' : ¬ wt.word = "twice" := by simpa using h
        refine ⟨ys, sH, hD, ?_⟩
        rw [etk, List.filter_append, List.filter_cons, if_neg (by simpa using h')]
        simpa using hy
    · rintro H2 ⟨ys, sH, hD, hy⟩
      rw [hxl, List.take_length] at hy
      have okT : ∀ d ∈ ((ws.filter fun x => decide (x.word = ("twice" : Str))).map Want.vs), ∀ v ∈ d, okV v = true := by
        intro d hd
        obtain ⟨x, hx, rfl⟩ := List.mem_map.mp hd
        exact vs_ok (hw x (List.mem_filter.mp hx).1)
      refine ⟨by decide, fun e ne => ?_⟩
      have s3 : Same H2 (upd H2 e (.lst [])) := Same.new ne
      refine ⟨.list (((ws.filter fun x => decide (x.word = ("twice" : Str))).map Want.vs).map tupD), .list [], .lst (SqL.of (s3 _ _ hD)) (dp_tups (hy.mono (TupS.of_same s3)) okT), dp_nil upd_same, shaped_tups okT, shaped_nil, _, rfl, ?_⟩
      rw [eqv_nil, List.isEmpty_map, List.isEmpty_map]
      refine ite2 (fun h => ?_) (fun h => ?_)
      · refine ⟨_, rfl, p, _, rfl, .inl (SqL.of (s3 _ _ (sH _ _ hp))), _, rfl, _, _, rfl, rfl, ?_⟩
        have := q _ (sH.trans s3)
        unfold borne at this
        rw [h, Bool.true_and] at this
        rw [hxl]
        exact this
      · have := q _ (sH.trans s3)
        unfold borne at this
        rw [Bool.eq_false_iff.mpr h, Bool.false_and] at this
        exact this
end
end IC
namespace IC
open PySem L2
/-! ### a house as it stands -/
structure Hs where
  late : Int
  lost : Int
  now : Int
  kns : List Kn
  many : Int
  fault : V
def flds (L : Addr) (h : Hs) : List (Str × V) := [("late", .int h.late), ("lost", .int h.lost), ("now", .int h.now), ("known", .ref L), ("many", .int h.many), ("fault", h.fault)]
theorem lk_ne {k k' : Str} {v : V} {l : List (Str × V)} (h : (k == k') = false) : List.lookup k ((k', v) :: l) = List.lookup k l := by simp [List.lookup, h]
theorem lk_eq {k : Str} {v : V} {l : List (Str × V)} : List.lookup k ((k, v) :: l) = some v := by simp [List.lookup]
theorem fl_late (L : Addr) (h : Hs) : (flds L h).lookup ("late" : Str) = some (.int h.late) := lk_eq
theorem fl_lost (L : Addr) (h : Hs) : (flds L h).lookup ("lost" : Str) = some (.int h.lost) := (lk_ne (by decide +kernel)).trans lk_eq
theorem fl_now (L : Addr) (h : Hs) : (flds L h).lookup ("now" : Str) = some (.int h.now) := (lk_ne (by decide +kernel)).trans ((lk_ne (by decide +kernel)).trans lk_eq)
theorem fl_known (L : Addr) (h : Hs) : (flds L h).lookup ("known" : Str) = some (.ref L) := (lk_ne (by decide +kernel)).trans ((lk_ne (by decide +kernel)).trans ((lk_ne (by decide +kernel)).trans lk_eq))
theorem fl_many (L : Addr) (h : Hs) : (flds L h).lookup ("many" : Str) = some (.int h.many) := (lk_ne (by decide +kernel)).trans ((lk_ne (by decide +kernel)).trans ((lk_ne (by decide +kernel)).trans ((lk_ne (by decide +kernel)).trans lk_eq)))
theorem fl_fault (L : Addr) (h : Hs) : (flds L h).lookup ("fault" : Str) = some h.fault := (lk_ne (by decide +kernel)).trans ((lk_ne (by decide +kernel)).trans ((lk_ne (by decide +kernel)).trans ((lk_ne (by decide +kernel)).trans ((lk_ne (by decide +kernel)).trans lk_eq))))
/-- the names of its methods are no attributes -/
theorem fl_no (L : Addr) (h : Hs) {m : Str} (hm : [("late" : Str), "lost", "now", "known", "many", "fault"].all (fun k => !(m == k)) = true) : (flds L h).lookup m = none := by
  simp only [List.all_cons, List.all_nil, Bool.and_true, Bool.and_eq_true, Bool.not_eq_true'] at hm
  obtain ⟨h1, h2, h3, h4, h5, h6⟩ := hm
  exact (lk_ne h1).trans ((lk_ne h2).trans ((lk_ne h3).trans ((lk_ne h4).trans ((lk_ne h5).trans ((lk_ne h6).trans rfl)))))
theorem pf_eq {k : Str} {u v : V} {l : List (Str × V)} : putF k v ((k, u) :: l) = (k, v) :: l := by
  show (if k = k then _ else _) = _
  rw [if_pos rfl]
theorem pf_ne {k k' : Str} {u v : V} {l : List (Str × V)} (h : ¬ k' = k) : putF k v ((k', u) :: l) = (k', u) :: putF k v l := by
  show (if k' = k then _ else _) = _
  rw [if_neg h]
theorem pf_now (L : Addr) (h : Hs) (t : Int) : putF "now" (.int t) (flds L h) = flds L { h with now := t } := by
  unfold flds
  rw [pf_ne (by decide +kernel), pf_ne (by decide +kernel), pf_eq]
theorem pf_many (L : Addr) (h : Hs) (t : Int) : putF "many" (.int t) (flds L h) = flds L { h with many := t } := by
  unfold flds
  rw [pf_ne (by decide +kernel), pf_ne (by decide +kernel), pf_ne (by decide +kernel), pf_ne (by decide +kernel), pf_eq]
theorem pf_fault (L : Addr) (h : Hs) (v : V) : putF "fault" v (flds L h) = flds L { h with fault := v } := by
  unfold flds
  rw [pf_ne (by decide +kernel), pf_ne (by decide +kernel), pf_ne (by decide +kernel), pf_ne (by decide +kernel), pf_ne (by decide +kernel), pf_eq]
/-- what is asked of the class -/
structure HTxt (K : PySem.W.Frag) (C : Addr) : Prop where
  cl : Cls K C
  n_late : NoAttr K C "late"
  n_lost : NoAttr K C "lost"
  n_now : NoAttr K C "now"
  n_known : NoAttr K C "known"
  n_many : NoAttr K C "many"
  n_fault : NoAttr K C "fault"
structure HouseAt (C : Addr) (H : Hp) (p L : Addr) (ds : List Addr) (h : Hs) : Prop where
  ob : ∃ dx, H p = some (.ins C dx (flds L h))
  kn : KnAt H L ds h.kns
section
variable {C : Addr} {H H' : Hp} {p L : Addr} {ds : List Addr} {h h' : Hs} {K : PySem.W.Frag} {f : Str} {v : V} {Q : VK}
theorem HouseAt.same (a : HouseAt C H p L ds h) (s : Same H H') : HouseAt C H' p L ds h := ⟨let ⟨dx, e⟩ := a.ob; ⟨dx, s _ _ e⟩, a.kn.same s⟩
theorem HouseAt.keeps {fp : List Addr} (a : HouseAt C H p L ds h) (s : Keeps fp H H') (h0 : p ∉ fp) (h1 : L ∉ fp) (h2 : ∀ d ∈ ds, d ∉ fp) : HouseAt C H' p L ds h := ⟨let ⟨dx, e⟩ := a.ob; ⟨dx, s _ _ e h0⟩, a.kn.keeps s h1 h2⟩
theorem KnAt.mem {kns : List Kn} (k : KnAt H L ds kns) {d : Addr} (hd : d ∈ ds) : ∃ kvs, H d = some (.dK kvs) := by
  obtain ⟨i, hi, rfl⟩ := List.getElem_of_mem hd
  obtain ⟨kn, _, e⟩ := Paired.getL k.at_ (List.getElem?_eq_getElem hi)
  exact ⟨_, e⟩
theorem HouseAt.pL (a : HouseAt C H p L ds h) : p ≠ L := by
  obtain ⟨dx, e⟩ := a.ob
  exact ne_of e a.kn.lst (by intro z; cases z)
theorem HouseAt.pd (a : HouseAt C H p L ds h) : p ∉ ds := fun hm => by
  obtain ⟨dx, e⟩ := a.ob
  obtain ⟨kvs, e2⟩ := a.kn.mem hm
  rw [e] at e2
  cases e2
theorem KnAt.Ld {kns : List Kn} (k : KnAt H L ds kns) : L ∉ ds := fun hm => by
  obtain ⟨kvs, e2⟩ := k.mem hm
  rw [k.lst] at e2
  cases e2
/-- an attribute is stored -/
theorem HouseAt.w {dx : Addr} (a : HouseAt C H p L ds h) (eo : H p = some (.ins C dx (flds L h))) (e : putF f v (flds L h) = flds L h') (hk : h'.kns = h.kns) :
    HouseAt C (upd H p (.ins C dx (putF f v (flds L h)))) p L ds h' ∧ Keeps [p] H (upd H p (.ins C dx (putF f v (flds L h)))) := by
  refine ⟨⟨⟨dx, by rw [upd_same, e]⟩, ?_⟩, ((Keeps.refl _ _).upd (by simp))⟩
  rw [hk]
  exact a.kn.keeps ((Keeps.refl [p] H).upd (by simp)) (by simpa using a.pL.symm) fun d hd hm => a.pd (by simp at hm; rw [← hm]; exact hd)
theorem six (L : Addr) (h : Hs) : (flds L h).length < 1000 := by show 6 < 1000; decide
end
/-- it is a time -/
def goneOn (h : Hs) (t : Int) : Hs :=
  { h with now := t, many := h.many + 1, fault := if h.fault = .non ∧ borne (allWants h.kns h.late t) h.lost = false then .int h.many else h.fault }
/-- a row has come -/
def putRow (h : Hs) (b : Nat) (m : Int) (z : Str) : Hs := { h with kns := h.kns.set b (h.kns.getD b [] ++ [(m, z)]) }
section
variable {P : Program} {w : World} {K : PySem.W.Frag} {mg : Str → Option Value} {base : Heap} {dI C : Addr}
/-! ### is_time -/
def sp_is_time (C : Addr) : Sp := fun vs H Q _ => ∃ (p L : Addr) (ds : List Addr) (h : Hs) (t : Int), vs = [.ref p, .int t] ∧ HouseAt C H p L ds h ∧ Q (.bl (decide (h.now ≤ t) && decide (t ≤ 60))) H
theorem sc_House_is_time : FnScope ["self", "time"] ["self", "time"] (defScope s_House_is_time) := ⟨rfl, rfl, rfl, by decide +kernel, rfl, by decide +kernel, by decide +kernel⟩
theorem ok_is_time {f : Addr} {fd : FuncData} (F : Fun K "is_time" "House.is_time" s_House_is_time f fd) (G : Glb K w mg dI) (T : HTxt K C) : FnOk P w K mg base CX0 1 f fd ["self", "time"] (sp_is_time C) := by
  refine F.ok sc_House_is_time (fun vs H Q E h => ?_) (fun cdv A outer s H vs Q E hr h => ?_)
  · obtain ⟨p, L, ds, h, t, rfl, _⟩ := h
    rfl
  · obtain ⟨p, L, ds, h, t, rfl, ha, q⟩ := h
    refine ⟨_, (pss_one (ps_ret (pe_chain op_le op_le (pe_fld (pv 0) rfl) (pv 1) (C8.pe_gc rfl G.MOST_TIME)))), ?_⟩
    obtain ⟨dx, eo⟩ := ha.ob
    refine ⟨_, rfl, p, C, dx, _, _, rfl, eo, T.cl, T.n_now, fl_now _ _, _, rfl, _, _, rfl, rfl, _, rfl, ?_⟩
    refine ite2 (fun h1 => ?_) (fun h1 => ?_)
    · refine ⟨_, _, rfl, rfl, ?_⟩
      rw [h1] at q
      simpa using q
    · rw [Bool.eq_false_iff.mpr h1] at q
      simpa using q
/-! ### gone_on -/
def sp_gone_on (C : Addr) : Sp := fun vs H Q _ => ∃ (p L : Addr) (ds : List Addr) (h : Hs) (t : Int), vs = [.ref p, .int t] ∧ HouseAt C H p L ds h ∧ (h.fault = .non ∨ ∃ i, h.fault = .int i) ∧
  ∀ H', HouseAt C H' p L ds (goneOn h t) → Keeps [p] H H' → Q .non H'
theorem sc_House_gone_on : FnScope ["self", "time"] ["self", "time"] (defScope s_House_gone_on) := ⟨rfl, rfl, rfl, by decide +kernel, rfl, by decide +kernel, by decide +kernel⟩
theorem ok_gone_on {f : Addr} {fd : FuncData} (F : Fun K "gone_on" "House.gone_on" s_House_gone_on f fd) (G : Glb K w mg dI) (T : HTxt K C) (c_all_wants : C8.Cal P w K mg base 3 "all_wants" sp_all_wants []) (c_are_borne : C8.Cal P w K mg base 1 "are_borne" sp_are_borne []) :
    FnOk P w K mg base CX0 4 f fd ["self", "time"] (sp_gone_on C) := by
  refine F.ok sc_House_gone_on (fun vs H Q E h => ?_) (fun cdv A outer s H vs Q E hr h => ?_)
  · obtain ⟨p, L, ds, h, t, rfl, _⟩ := h
    rfl
  · obtain ⟨p, L, ds, h, t, rfl, ha, hf, q⟩ := h
    refine ⟨_, (pss_cons (ps_fld (pv 0) (pv 1) rfl)
      (C8.pss_cut (ps_if (PW.pt (pw_and (pt_cmpR op_isN (pe_fld (pv 0) rfl) pe_non (nomark _)) (pw_and1 (pt_not (pt_val (C8.pe_c c_are_borne hr (by decide) rfl (pa_cons (C8.pe_c c_all_wants hr (by decide) rfl (pa_cons (pe_fld (pv 0) rfl) (pa_cons (pe_fld (pv 0) rfl) (pa_cons (pe_fld (pv 0) rfl) pa_nil)))) (pa_cons (pe_fld (pv 0) rfl) pa_nil))))))))
        (pss_one (ps_fld (pv 0) (pe_fld (pv 0) rfl) rfl))
        pss_nil)
      (pss_one (ps_fld (pv 0) (pe_op op_add (pe_fld (pv 0) rfl) pe_int) rfl)))), ?_⟩
    -- self.now = time
    obtain ⟨dx, eo⟩ := ha.ob
    refine ⟨_, rfl, _, rfl, p, C, dx, _, rfl, eo, T.cl, T.n_now, six _ _, ?_⟩
    obtain ⟨h1, k1⟩ := ha.w eo (pf_now L h t) rfl
    generalize upd H p (.ins C dx (putF "now" (.int t) (flds L h))) = H1 at *
    refine ⟨fun σ H2 => σ = [some (.ref p), some (.int t)] ∧ HouseAt C H2 p L ds { goneOn h t with many := h.many } ∧ Keeps [p] H H2, ?_, ?_⟩
    · obtain ⟨dx1, e1⟩ := h1.ob
      refine ⟨_, rfl, p, C, dx1, _, _, rfl, e1, T.cl, T.n_fault, fl_fault _ _, rfl, _, rfl, ?_⟩
      refine ite2 (fun e0 => ?_) (fun e0 => ?_)
      · have e0' : h.fault = .non := by simpa using e0
        refine ⟨_, rfl, p, C, dx1, _, _, rfl, e1, T.cl, T.n_known, fl_known _ _, _, rfl, p, C, dx1, _, _, rfl, e1, T.cl, T.n_late, fl_late _ _, _, rfl, p, C, dx1, _, _, rfl, e1, T.cl, T.n_now, fl_now _ _, L, ds, h.kns, h.late, t, rfl, h1.kn, fun a xs H2 s2 na ha2 t2 => ?_⟩
        have h2 := h1.same s2
        refine ⟨_, rfl, p, C, dx1, _, _, rfl, s2 _ _ e1, T.cl, T.n_lost, fl_lost _ _, a, xs, allWants h.kns h.late t, h.lost, rfl, ha2, t2, ?_, awTo_wd _ _ _ _, fun H3 s3 => ?_⟩
        · have := awTo_len ha.kn.ok h.late t h.kns.length (Nat.le_refl _)
          have := ha.kn.few
          unfold allWants
          omega
        · have h3 := h2.same s3
          have e3 := s3 _ _ (s2 _ _ e1)
          have k3 : Keeps [p] H H3 := k1.trans (.of_same (s2.trans s3))
          refine ⟨_, rfl, ?_⟩
          refine ite2 (fun e1 => ?_) (fun e1 => ?_)
          · have e1' : borne (allWants h.kns h.late t) h.lost = false := by simpa using e1
            refine ⟨_, rfl, p, C, dx1, _, _, rfl, e3, T.cl, T.n_many, fl_many _ _, _, rfl, p, C, dx1, _, rfl, e3, T.cl, T.n_fault, six _ _, rfl, ?_⟩
            obtain ⟨h4, k4⟩ := h3.w e3 (pf_fault L _ (.int h.many)) rfl
            refine ⟨?_, k3.trans k4⟩
            unfold goneOn
            rw [if_pos ⟨e0', e1'⟩]
            exact h4
          · have e1' : ¬ borne (allWants h.kns h.late t) h.lost = false := by simpa using e1
            refine ⟨rfl, ?_, k3⟩
            unfold goneOn
            rw [if_neg fun z => e1' z.2]
            exact h3
      · have e0' : ¬ h.fault = .non := by simpa using e0
        refine iteF ⟨rfl, ?_, k1⟩
        unfold goneOn
        rw [if_neg fun z => e0' z.1]
        exact h1
    · rintro σ H2 ⟨rfl, h2, k2⟩
      obtain ⟨dx2, e2⟩ := h2.ob
      refine ⟨_, rfl, p, C, dx2, _, _, rfl, e2, T.cl, T.n_many, fl_many _ _, _, _, rfl, rfl, _, rfl, p, C, dx2, _, rfl, e2, T.cl, T.n_many, six _ _, ?_⟩
      obtain ⟨h3, k3⟩ := h2.w e2 (pf_many L _ (h.many + 1)) rfl
      exact q _ h3 (k2.trans k3)
/-! ### a row comes: the dict -/
theorem Paired.setL {α β : Type} {R R' : α → β → Prop} : ∀ {xs : List α} {ys : List β} {b : Nat} {x : α} {y : β}, Paired R xs ys → xs.Nodup → xs[b]? = some x → (∀ u v, u ≠ x → R u v → R' u v) → R' x y → Paired R' xs (ys.set b y)
  | _, _, _, _, _, .nil, _, h, _, _ => by simp at h
  | x0 :: xs, y0 :: ys, 0, x, y, .cons r t, nd, h, k, q => by
    have e : x0 = x := by simpa using h
    subst e
    refine .cons q ?_
    have all : ∀ {xs : List α} {ys : List β}, Paired R xs ys → (∀ u ∈ xs, u ≠ x0) → Paired R' xs ys := by
      intro xs ys h
      induction h with
      | nil => intro _; exact .nil
      | cons r t ih => intro hd; exact .cons (k _ _ (hd _ List.mem_cons_self) r) (ih fun d h => hd d (List.mem_cons_of_mem _ h))
    exact all t fun u hu e => (List.nodup_cons.mp nd).1 (e ▸ hu)
  | x0 :: xs, y0 :: ys, b + 1, x, y, .cons r t, nd, h, k, q => by
    have h' : xs[b]? = some x := by simpa using h
    refine .cons (k _ _ (fun e => (List.nodup_cons.mp nd).1 (e ▸ List.mem_of_getElem? h')) r) (Paired.setL t (List.nodup_cons.mp nd).2 h' k q)
theorem encK_put {kn : Kn} {m : Int} {z : Str} (h : lookK kn m = none) : putK (encK kn) (Sum.inl m) (.str z) = encK (kn ++ [(m, z)]) := by
  have e : valV (encK kn) (Sum.inl m) = none := by rw [valV_enc, h]; rfl
  rw [putK_new _ e]
  unfold encK
  rw [List.map_append]
  rfl
theorem KnAt.put {H : Hp} {L : Addr} {ds : List Addr} {kns : List Kn} {b : Nat} {d : Addr} {kn : Kn} (k : KnAt H L ds kns) (hb : ds[b]? = some d) (ok : KnOk kn) : KnAt (upd H d (.dK (encK kn))) L ds (kns.set b kn) := by
  have hd : d ∈ ds := List.mem_of_getElem? hb
  have hL : L ≠ d := fun z => k.Ld (z ▸ hd)
  refine ⟨by rw [upd_ne hL]; exact k.lst, k.nd, Paired.setL k.at_ k.nd hb (fun u v hu r => by rw [upd_ne hu]; exact r) upd_same, fun x hx => ?_, by rw [List.length_set]; exact k.few⟩
  rcases List.mem_or_eq_of_mem_set hx with z | z
  · exact k.ok x z
  · rw [z]; exact ok
theorem HouseAt.put {H : Hp} {p L : Addr} {ds : List Addr} {h : Hs} {b : Nat} {d : Addr} {m : Int} {z : Str} (a : HouseAt C H p L ds h) (hb : ds[b]? = some d) (ok : KnOk (h.kns.getD b [] ++ [(m, z)])) :
    HouseAt C (upd H d (.dK (encK (h.kns.getD b [] ++ [(m, z)])))) p L ds (putRow h b m z) := by
  refine ⟨?_, a.kn.put hb ok⟩
  obtain ⟨dx, e⟩ := a.ob
  exact ⟨dx, by rw [upd_ne (fun z => a.pd (by rw [z]; exact List.mem_of_getElem? hb))]; exact e⟩
theorem lookK_none {kn : Kn} {m : Int} (h : lookK kn m = none) : m ∉ kn.map (·.1) := fun hm => by
  obtain ⟨z, e, _⟩ := lookK_mem hm
  rw [h] at e
  cases e
theorem KnOk.snoc {kn : Kn} (k : KnOk kn) {m : Int} {z : Str} (h : lookK kn m = none) (hz : Wd z) (h1 : 1 ≤ m) (h2 : m ≤ 60) : KnOk (kn ++ [(m, z)]) := by
  refine ⟨?_, fun p hp => ?_, fun p hp => ?_⟩
  · rw [List.map_append]
    refine List.nodup_append.mpr ⟨k.nd, by simp, fun a ha b hb => ?_⟩
    simp at hb
    subst hb
    intro e
    exact lookK_none h (e ▸ ha)
  · rcases List.mem_append.mp hp with q | q
    · exact k.wd p q
    · simp at q; subst q; exact hz
  · rcases List.mem_append.mp hp with q | q
    · exact k.rg p q
    · simp at q; subst q; exact ⟨h1, h2⟩
/-- a row that can come -/
structure Comes (h : Hs) (t : Int) (b : Nat) (m : Int) (z : Str) : Prop where
  t0 : h.now ≤ t
  t1 : t ≤ 60
  b1 : b < h.kns.length
  wd : Wd z
  m0 : 1 ≤ m
  m1 : m ≤ t
  lt : t - m ≤ h.late
  new : lookK (h.kns.getD b []) m = none
theorem getD_mem {kns : List Kn} {b : Nat} (h : b < kns.length) : kns[b]? = some (kns.getD b []) ∧ kns.getD b [] ∈ kns := by
  have e : kns[b]? = some (kns.getD b []) := by rw [List.getD_eq_getElem?_getD, List.getElem?_eq_getElem h]; rfl
  exact ⟨e, List.mem_of_getElem? e⟩
def FaultOk (h : Hs) : Prop := h.fault = .non ∨ ∃ i, h.fault = .int i
def sp_come (C : Addr) : Sp := fun vs H Q _ => ∃ (p L : Addr) (ds : List Addr) (h : Hs) (t : Int) (b : Nat) (m : Int) (z : Str), vs = [.ref p, .int t, .int b, .int m, .str z] ∧ HouseAt C H p L ds h ∧ FaultOk h ∧ Comes h t b m z ∧
  ∀ H', HouseAt C H' p L ds (goneOn (putRow h b m z) t) → Keeps (p :: ds) H H' → Q .non H'
theorem sc_House_come : FnScope ["self", "time", "badge", "moment", "word"] ["self", "time", "badge", "moment", "word"] (defScope s_House_come) := ⟨rfl, rfl, rfl, by decide +kernel, rfl, by decide +kernel, by decide +kernel⟩
theorem ok_come {f : Addr} {fd : FuncData} (F : Fun K "come" "House.come" s_House_come f fd) (G : Glb K w mg dI) (T : HTxt K C) (c_is_time : C8.Met P w K mg base 1 C "is_time" (sp_is_time C) []) (c_gone_on : C8.Met P w K mg base 4 C "gone_on" (sp_gone_on C) []) :
    FnOk P w K mg base CX0 5 f fd ["self", "time", "badge", "moment", "word"] (sp_come C) := by
  refine F.ok sc_House_come (fun vs H Q E h => ?_) (fun cdv A outer s H vs Q E hr h => ?_)
  · obtain ⟨p, L, ds, h, t, b, m, z, rfl, _⟩ := h
    rfl
  · obtain ⟨p, L, ds, h, t, b, m, z, rfl, ha, hf, hc, q⟩ := h
    have hu := hu_of hr
    obtain ⟨dx, eo⟩ := ha.ob
    obtain ⟨ek, hkm⟩ := getD_mem hc.b1
    obtain ⟨d, hd, hdk⟩ := Paired.get ha.kn.at_ ek
    obtain ⟨u, hns⟩ := G.ns hc.wd
    have hlen : ds.length = h.kns.length := ha.kn.len
    have hb1 := hc.b1
    have ht0 := hc.t0
    have ht1 := hc.t1
    have hm0 := hc.m0
    have hm1 := hc.m1
    have hlt := hc.lt
    have hg : DGet H d (.int m) none := by
      have e : DGet H d (kV (Sum.inl m)) (valV (encK (h.kns.getD b [])) (Sum.inl m)) := DGet.k hdk
      rw [valV_enc, hc.new] at e
      exact e
    refine ⟨_, (pss_cons (ps_if (PW.pt (pw_or (pt_not (pt_val (C8.pe_mt c_is_time hr (by decide) (pv 0) (pa_cons (pv 1) pa_nil)))) (pw_or (pt_not (pt_chain op_le op_lt pe_int (pv 2) (pe_callB call_len_seq (by rfl) G.len (by decide +kernel) (pa_cons (pe_fld (pv 0) rfl) pa_nil)))) (pw_or1 (pt_cmpR (op_notIn_kdE G.KI) (pv 4) (pe_glob (v := .ref dI) rfl G.INSIDE rfl) (by rfl))))))
        (pss_one ps_never)
        pss_nil)
      (pss_cons (ps_if (PW.pt (pw_or (pt_not (pt_chain op_le op_le pe_int (pv 3) (pv 1))) (pw_or (pt_cmpR op_gt (pe_op op_sub (pv 1) (pv 3)) (pe_fld (pv 0) rfl) (nomark _)) (pw_or1 (pt_cmp (pc_din hu (pv 3) (pe_ix ix_list (pe_fld (pv 0) rfl) (pv 2) (fun _ _ => rfl))))))))
        (pss_one ps_never)
        pss_nil)
      (pss_cons (ps_dput hu (pe_ix ix_list (pe_fld (pv 0) rfl) (pv 2) (fun _ _ => rfl)) (pv 3) (pv 4) rfl)
      (pss_one (ps_expr (C8.pe_mt c_gone_on hr (by decide) (pv 0) (pa_cons (pv 1) pa_nil))))))), ?_⟩
    refine ⟨_, rfl, p, dx, _, rfl, eo, fl_no _ _ (by decide +kernel), _, rfl, p, L, ds, h, t, rfl, ha, _, rfl, ifF (by simp [ht0, ht1]) ?_⟩
    refine ⟨_, rfl, _, _, rfl, rfl, _, rfl, ifT (by simp) ?_⟩
    refine ⟨_, rfl, p, C, dx, _, _, rfl, eo, T.cl, T.n_known, fl_known _ _, L, _, rfl, .inl (SqL.of ha.kn.lst), _, _, rfl, rfl, _, rfl, ifF (by simp; omega) ?_⟩
    refine ⟨_, rfl, z, _, rfl, rfl, hns, _, rfl, ifF (by simp) ?_⟩
    refine ⟨_, rfl, _, _, rfl, rfl, _, rfl, ifT (by simp; omega) ?_⟩
    refine ⟨_, rfl, _, _, rfl, rfl, _, rfl, ifF (by simp; omega) ?_⟩
    refine ⟨_, rfl, _, rfl, _, _, rfl, rfl, _, rfl, p, C, dx, _, _, rfl, eo, T.cl, T.n_late, fl_late _ _, _, _, rfl, rfl, _, rfl, ifF (by simp; omega) ?_⟩
    refine ⟨_, rfl, _, rfl, p, C, dx, _, _, rfl, eo, T.cl, T.n_known, fl_known _ _, _, rfl, L, _, _, .ref d, rfl, rfl, SqL.of ha.kn.lst, atI_nat (by rw [List.getElem?_map, hd]; rfl), d, _, rfl, hg, _, rfl, ifF (by simp) ?_⟩
    have ok := (ha.kn.ok _ hkm).snoc hc.new hc.wd hm0 (by omega : m ≤ 60)
    have sm := (ha.kn.ok _ hkm).sm
    refine ⟨_, rfl, _, rfl, p, C, dx, _, _, rfl, eo, T.cl, T.n_known, fl_known _ _, _, rfl, L, _, _, .ref d, rfl, rfl, SqL.of ha.kn.lst, atI_nat (by rw [List.getElem?_map, hd]; rfl), _, rfl, d, _, rfl, DPut.k (k := Sum.inl m) hdk (szl (by unfold encK; rw [List.length_map]; omega)), ?_⟩
    rw [encK_put hc.new]
    have h1 := ha.put hd ok
    have k1 : Keeps (p :: ds) H (upd H d (.dK (encK (h.kns.getD b [] ++ [(m, z)])))) := (Keeps.refl _ _).upd (List.mem_cons_of_mem _ (List.mem_of_getElem? hd))
    generalize upd H d (.dK (encK (h.kns.getD b [] ++ [(m, z)]))) = H1 at *
    obtain ⟨dx1, e1⟩ := h1.ob
    refine ⟨_, rfl, p, dx1, _, rfl, e1, fl_no _ _ (by decide +kernel), _, rfl, p, L, ds, putRow h b m z, t, rfl, h1, hf, fun H2 h2 k2 => ?_⟩
    exact q H2 h2 (k1.trans (k2.mono (by simp)))
/-! ### tick -/
def sp_tick (C : Addr) : Sp := fun vs H Q _ => ∃ (p L : Addr) (ds : List Addr) (h : Hs) (t : Int), vs = [.ref p, .int t] ∧ HouseAt C H p L ds h ∧ FaultOk h ∧ h.now ≤ t ∧ t ≤ 60 ∧
  ∀ H', HouseAt C H' p L ds (goneOn h t) → Keeps (p :: ds) H H' → Q .non H'
theorem sc_House_tick : FnScope ["self", "time"] ["self", "time"] (defScope s_House_tick) := ⟨rfl, rfl, rfl, by decide +kernel, rfl, by decide +kernel, by decide +kernel⟩
theorem ok_tick {f : Addr} {fd : FuncData} (F : Fun K "tick" "House.tick" s_House_tick f fd) (G : Glb K w mg dI) (T : HTxt K C) (c_is_time : C8.Met P w K mg base 1 C "is_time" (sp_is_time C) []) (c_gone_on : C8.Met P w K mg base 4 C "gone_on" (sp_gone_on C) []) :
    FnOk P w K mg base CX0 5 f fd ["self", "time"] (sp_tick C) := by
  refine F.ok sc_House_tick (fun vs H Q E h => ?_) (fun cdv A outer s H vs Q E hr h => ?_)
  · obtain ⟨p, L, ds, h, t, rfl, _⟩ := h
    rfl
  · obtain ⟨p, L, ds, h, t, rfl, ha, hf, ht0, ht1, q⟩ := h
    obtain ⟨dx, eo⟩ := ha.ob
    refine ⟨_, (pss_cons (ps_if (pt_not (pt_val (C8.pe_mt c_is_time hr (by decide) (pv 0) (pa_cons (pv 1) pa_nil))))
        (pss_one ps_never)
        pss_nil)
      (pss_one (ps_expr (C8.pe_mt c_gone_on hr (by decide) (pv 0) (pa_cons (pv 1) pa_nil))))), ?_⟩
    refine ⟨_, rfl, p, dx, _, rfl, eo, fl_no _ _ (by decide +kernel), _, rfl, p, L, ds, h, t, rfl, ha, _, rfl, ifF (by simp [ht0, ht1]) ?_⟩
    exact ⟨_, rfl, p, dx, _, rfl, eo, fl_no _ _ (by decide +kernel), _, rfl, p, L, ds, h, t, rfl, ha, hf, fun H2 h2 k2 => q H2 h2 (k2.mono (by simp))⟩
/-! ### time -/
def sp_time (C : Addr) : Sp := fun vs H Q _ => ∃ (p L : Addr) (ds : List Addr) (h : Hs), vs = [.ref p] ∧ HouseAt C H p L ds h ∧ Q (.int h.now) H
theorem sc_House_time : FnScope ["self"] ["self"] (defScope s_House_time) := ⟨rfl, rfl, rfl, by decide +kernel, rfl, by decide +kernel, by decide +kernel⟩
theorem ok_time {f : Addr} {fd : FuncData} (F : Fun K "time" "House.time" s_House_time f fd) (T : HTxt K C) : FnOk P w K mg base CX0 1 f fd ["self"] (sp_time C) := by
  refine F.ok sc_House_time (fun vs H Q E h => ?_) (fun cdv A outer s H vs Q E hr h => ?_)
  · obtain ⟨p, L, ds, h, rfl, _⟩ := h
    rfl
  · obtain ⟨p, L, ds, h, rfl, ha, q⟩ := h
    obtain ⟨dx, eo⟩ := ha.ob
    refine ⟨_, (pss_one (ps_ret (pe_fld (pv 0) rfl))), ?_⟩
    exact ⟨_, rfl, p, C, dx, _, _, rfl, eo, T.cl, T.n_now, fl_now _ _, q⟩
/-! ### __init__ -/
def newHs (n : Nat) (late lost : Int) : Hs := ⟨late, lost, 0, List.replicate n [], 0, .non⟩
def sp_init (C : Addr) : Sp := fun vs H Q _ => ∃ (p dx : Addr) (n : Nat) (late lost : Int), vs = [.ref p, .int n, .int late, .int lost] ∧ H p = some (.ins C dx []) ∧ 1 ≤ n ∧ n ≤ 6 ∧ 0 ≤ late ∧ late ≤ 9 ∧ 0 ≤ lost ∧ lost ≤ 6 ∧
  ∀ (L : Addr) (ds : List Addr) (H' : Hp), H L = none → (∀ d ∈ ds, H d = none) → HouseAt C H' p L ds (newHs n late lost) → Keeps [p] H H' → Q .non H'
theorem sc_House___init__ : FnScope ["self", "badges", "late", "lost", "good", "badge"] ["self", "badges", "late", "lost"] (defScope s_House___init__) := ⟨rfl, rfl, rfl, by decide +kernel, rfl, by decide +kernel, by decide +kernel⟩
theorem pf_nil {k : Str} {v : V} : putF k v [] = [(k, v)] := rfl
theorem ok_init {f : Addr} {fd : FuncData} (F : Fun K "__init__" "House.__init__" s_House___init__ f fd) (G : Glb K w mg dI) (T : HTxt K C) : FnOk P w K mg base CX0 1 f fd ["self", "badges", "late", "lost"] (sp_init C) := by
  refine F.ok sc_House___init__ (fun vs H Q E h => ?_) (fun cdv A outer s H vs Q E hr h => ?_)
  · obtain ⟨p, dx, n, late, lost, rfl, _⟩ := h
    rfl
  · obtain ⟨p, dx, n, late, lost, rfl, hp, n1, n6, l0, l9, o0, o6, q⟩ := h
    refine ⟨_, (pss_cons (ps_set (i := 4) sc_House___init__.nd rfl (Or.inl rfl) (pe_and (pe_chain op_le op_le pe_int (pv 1) (C8.pe_gc rfl G.MOST_BADGES)) (pe_and (pe_chain op_le op_le pe_int (pv 2) (C8.pe_gc rfl G.MOST_LATE)) (pe_one (pe_chain op_le op_le pe_int (pv 3) (C8.pe_gc rfl G.MOST_LOST))))))
      (pss_cons (ps_if (pt_not (pt_val (pv 4)))
        (pss_one ps_never)
        pss_nil)
      (pss_cons (ps_fld (pv 0) (pv 2) rfl)
      (pss_cons (ps_fld (pv 0) (pv 3) rfl)
      (pss_cons (ps_fld (pv 0) pe_int rfl)
      (pss_cons (ps_fld (pv 0) (pe_lc (own := [("badge", 5)]) (g := gName 5) (tt := tYes) rfl sc_House___init__.nd (pi_range1 rfl G.range (pa_cons (pv 1) pa_nil)) (blkOk_by (own := [("badge", 5)]) (N := ["self", "badges", "late", "lost", "good", "badge"]) (sc := defScope s_House___init__) (by decide +kernel)) (fun _ _ _ _ _ => (pg_name (i := 5) sc_House___init__.nd rfl (Or.inl rfl))) (fun _ _ _ _ _ => pts_nil) (fun _ _ _ _ _ => pe_dnewK)) rfl)
      (pss_cons (ps_fld (pv 0) pe_int rfl)
      (pss_one (ps_fld (pv 0) pe_non rfl))))))))), ?_⟩
    refine ⟨_, rfl, _, _, rfl, rfl, _, rfl, ifT (by simp; omega) ⟨_, _, rfl, rfl, _, rfl, ifT (by simp; omega) ?_⟩⟩
    refine ⟨_, rfl, _, _, rfl, rfl, _, rfl, ifT (by simp; omega) ⟨_, _, rfl, rfl, _, rfl, ifT (by simp; omega) ?_⟩⟩
    refine ⟨_, rfl, _, _, rfl, rfl, _, rfl, ifT (by simp; omega) ⟨_, _, rfl, rfl, ?_⟩⟩
    refine ⟨_, rfl, _, rfl, ifF (by simp; omega) ?_⟩
    refine ⟨_, rfl, _, rfl, p, C, dx, _, rfl, hp, T.cl, T.n_late, by decide, ?_⟩
    refine ⟨_, rfl, _, rfl, p, C, dx, _, rfl, upd_same, T.cl, T.n_lost, by show 1 < 1000; decide, ?_⟩
    rw [show putF "late" (V.int late) [] = [(("late" : Str), V.int late)] from rfl, upd_upd, pf_ne (by decide +kernel), pf_nil]
    refine ⟨_, rfl, p, C, dx, _, rfl, upd_same, T.cl, T.n_now, by show 2 < 1000; decide, ?_⟩
    rw [upd_upd, pf_ne (by decide +kernel), pf_ne (by decide +kernel), pf_nil]
    have k0 : Keeps [p] H (upd H p (.ins C dx [("late", .int late), ("lost", .int lost), ("now", .int 0)])) := (Keeps.refl _ _).upd (by simp)
    have hp0 : upd H p (.ins C dx [("late", .int late), ("lost", .int lost), ("now", .int 0)]) p = some (.ins C dx [("late", .int late), ("lost", .int lost), ("now", .int 0)]) := upd_same
    generalize upd H p (.ins C dx [("late", .int late), ("lost", .int lost), ("now", .int 0)]) = H0 at *
    refine ⟨_, rfl, n, rfl, by omega, by omega, fun D nD => ?_⟩
    rw [Int.toNat_natCast]
    have npD : p ≠ D := ne_of_none hp0 nD
    have nDH : H D = none := k0.free (by simp; exact npD.symm) nD
    refine lc_range0 (n := n) (fun i H2 => ∃ ds : List Addr, ds.length = i ∧ ds.Nodup ∧ (∀ d ∈ ds, H d = none ∧ H2 d = some (.dK [])) ∧ H2 D = some (.lst (ds.map V.ref)) ∧ Keeps [p] H H2 ∧ H2 p = some (.ins C dx [("late", .int late), ("lost", .int lost), ("now", .int 0)]))
      ⟨[], rfl, List.nodup_nil, by simp, upd_same, k0.updNew nDH, by rw [upd_ne npD]; exact hp0⟩ ?_ ?_
    · rintro i H2 hi ⟨ds, hl, nd, hds, hD, k2, hp2⟩
      refine ⟨rfl, fun a na => ⟨ds.map V.ref, ?_, szl (by rw [List.length_map]; omega), ds ++ [a], by simp [hl], ?_, ?_, ?_, ?_, ?_⟩⟩
      · rw [upd_ne (ne_of_none hD na)]
        exact hD
      · refine List.nodup_append.mpr ⟨nd, by simp, fun x hx y hy e => ?_⟩
        simp at hy
        subst hy
        subst e
        rw [(hds _ hx).2] at na
        cases na
      · have nap : a ≠ p := fun z => by rw [z, hp2] at na; cases na
        have naD : a ≠ D := fun z => by rw [z, hD] at na; cases na
        intro d hd
        rcases List.mem_append.mp hd with z | z
        · refine ⟨(hds d z).1, ?_⟩
          have h2 := (hds d z).2
          rw [upd_ne (fun e => by rw [e, hD] at h2; cases h2), upd_ne (ne_of_none h2 na)]
          exact h2
        · simp at z
          subst z
          exact ⟨k2.free (by simp; exact nap) na, by rw [upd_ne naD, upd_same]⟩
      · rw [upd_same, List.map_append]
        rfl
      · have nap : a ≠ p := fun z => by rw [z, hp2] at na; cases na
        exact (k2.updNew (k2.free (by simp; exact nap) na)).updNew nDH
      · rw [upd_ne npD, upd_ne (ne_of_none hp2 na)]
        exact hp2
    · rintro H2 ⟨ds, hl, nd, hds, hD, k2, hp2⟩
      refine ⟨_, rfl, p, C, dx, _, rfl, hp2, T.cl, T.n_known, by show 3 < 1000; decide, ?_⟩
      rw [pf_ne (by decide +kernel), pf_ne (by decide +kernel), pf_ne (by decide +kernel), pf_nil]
      refine ⟨_, rfl, p, C, dx, _, rfl, upd_same, T.cl, T.n_many, by show 4 < 1000; decide, ?_⟩
      rw [upd_upd, pf_ne (by decide +kernel), pf_ne (by decide +kernel), pf_ne (by decide +kernel), pf_ne (by decide +kernel), pf_nil]
      refine ⟨_, rfl, p, C, dx, _, rfl, upd_same, T.cl, T.n_fault, by show 5 < 1000; decide, ?_⟩
      rw [upd_upd, pf_ne (by decide +kernel), pf_ne (by decide +kernel), pf_ne (by decide +kernel), pf_ne (by decide +kernel), pf_ne (by decide +kernel), pf_nil]
      refine q D ds _ nDH (fun d hd => (hds d hd).1) ⟨⟨dx, upd_same⟩, ?_⟩ (k2.upd (by simp))
      refine ⟨by rw [upd_ne npD.symm]; exact hD, nd, ?_, fun k hk => ?_, by show (List.replicate n _).length ≤ 6; rw [List.length_replicate]; exact n6⟩
      · have all : ∀ (ds : List Addr) (n : Nat), ds.length = n → (∀ d ∈ ds, H d = none ∧ H2 d = some (.dK [])) → Paired (fun d k => upd H2 p (.ins C dx [("late", .int late), ("lost", .int lost), ("now", .int 0), ("known", .ref D), ("many", .int 0), ("fault", .non)]) d = some (.dK (encK k))) ds (List.replicate n []) := by
          intro ds
          induction ds with
          | nil => intro n e _; subst e; exact .nil
          | cons d ds ih =>
            intro n e hd
            subst e
            rw [List.length_cons, List.replicate_succ]
            refine .cons ?_ (ih _ rfl fun x hx => hd x (List.mem_cons_of_mem _ hx))
            have h2 := (hd d List.mem_cons_self).2
            rw [upd_ne (fun z => by rw [z, hp2] at h2; cases h2)]
            exact h2
        exact all ds n hl hds
      · have hk' : k ∈ List.replicate n ([] : Kn) := hk
        rw [List.eq_of_mem_replicate hk']
        exact ⟨by simp, by simp, by simp⟩
end
end IC
namespace IC
open PySem L2
/-! ### the row of cells -/
def RowAt (K : PySem.W.Frag) (H : Hp) (r a : Addr) (ns : List Int) : Prop := ∃ i m x : Int, H r = some (.lst [.ref a, .int i, .int m, .int x]) ∧ 0 ≤ i ∧ SqL K H a (ns.map V.int)
theorem sq_upd {K : PySem.W.Frag} {H : Hp} {r a : Addr} {ns : List Int} {x : Addr} {l : List V} {o : HO} (h : SqL K H a (ns.map V.int)) (hr : H r = some (.lst (.ref x :: l))) : SqL K (upd H r o) a (ns.map V.int) := by
  rcases h with (h | ⟨u, h⟩) | h
  · refine .inl (.inl ?_)
    rw [upd_ne]
    · exact h
    · rintro rfl
      rw [h] at hr
      cases ns with
      | nil => cases hr
      | cons n ns => injection hr with e; injection e with e; injection e with e; cases e
  · refine .inl (.inr ⟨u, ?_⟩)
    rw [upd_ne (ne_of h hr (by intro z; cases z))]
    exact h
  · exact .inr h
theorem RowAt.ne {K : PySem.W.Frag} {H : Hp} {r a : Addr} {ns : List Int} (h : RowAt K H r a ns) : ∃ l x, H r = some (.lst (.ref x :: l)) := by
  obtain ⟨i, m, x, e, _⟩ := h
  exact ⟨_, _, e⟩
theorem sq_keeps {K : PySem.W.Frag} {H H' : Hp} {a : Addr} {xs : List V} {fp : List Addr} (h : SqL K H a xs) (k : Keeps fp H H') (n : a ∉ fp) : SqL K H' a xs := by
  rcases h with (h | ⟨u, h⟩) | h
  · exact .inl (.inl (k _ _ h n))
  · exact .inl (.inr ⟨u, k _ _ h n⟩)
  · exact .inr h
theorem RowAt.keeps {K : PySem.W.Frag} {H H' : Hp} {r a : Addr} {ns : List Int} {fp : List Addr} (h : RowAt K H r a ns) (k : Keeps fp H H') (n : r ∉ fp) (na : a ∉ fp) : RowAt K H' r a ns := by
  obtain ⟨i, m, x, e, hi, hs⟩ := h
  exact ⟨i, m, x, k _ _ e n, hi, sq_keeps hs k na⟩
theorem RowAt.same {K : PySem.W.Frag} {H H' : Hp} {r a : Addr} {ns : List Int} (h : RowAt K H r a ns) (s : Same H H') : RowAt K H' r a ns := by
  obtain ⟨i, m, x, e, hi, hs⟩ := h
  exact ⟨i, m, x, s _ _ e, hi, s.seq hs⟩
theorem at_int {ns : List Int} {i : Int} (h0 : 0 ≤ i) (h1 : i < ns.length) : ∃ v, atI (ns.map V.int) i = some (.int v) := by
  obtain ⟨j, rfl⟩ := Int.eq_ofNat_of_zero_le h0
  have hj : j < ns.length := by omega
  exact ⟨ns[j], atI_nat (by rw [List.getElem?_map, List.getElem?_eq_getElem hj]; rfl)⟩
/-! ### what there is of a house, in the law's own dict -/
structure Ms where
  late : Int
  lost : Int
  time : Int
  kns : List Kn
  brk : Option Bool
/-- a law may keep there, too, whether it broke -/
def brkP : Option Bool → List (Key × V)
  | none => []
  | some b => [(Sum.inr "broken", .bl b)]
def mPairs (L : Addr) (m : Ms) : List (Key × V) := (Sum.inr "late", .int m.late) :: (Sum.inr "lost", .int m.lost) :: (Sum.inr "time", .int m.time) :: (Sum.inr "known", .ref L) :: brkP m.brk
theorem vv_ne {k k' : Key} {v : V} {l : List (Key × V)} (h : ¬ k' = k) : valV ((k', v) :: l) k = valV l k := by
  unfold valV
  rw [List.find?_cons, show decide (k' = k) = false from decide_eq_false h]
theorem vv_eq {k : Key} {v : V} {l : List (Key × V)} : valV ((k, v) :: l) k = some v := by
  unfold valV
  rw [List.find?_cons, show decide (k = k) = true from decide_eq_true rfl]
  rfl
theorem mp_late (L : Addr) (m : Ms) : valV (mPairs L m) (Sum.inr "late") = some (.int m.late) := vv_eq
theorem mp_lost (L : Addr) (m : Ms) : valV (mPairs L m) (Sum.inr "lost") = some (.int m.lost) := (vv_ne (by decide +kernel)).trans vv_eq
theorem mp_time (L : Addr) (m : Ms) : valV (mPairs L m) (Sum.inr "time") = some (.int m.time) := (vv_ne (by decide +kernel)).trans ((vv_ne (by decide +kernel)).trans vv_eq)
theorem mp_known (L : Addr) (m : Ms) : valV (mPairs L m) (Sum.inr "known") = some (.ref L) := (vv_ne (by decide +kernel)).trans ((vv_ne (by decide +kernel)).trans ((vv_ne (by decide +kernel)).trans vv_eq))
structure MAt (H : Hp) (q L : Addr) (ds : List Addr) (m : Ms) : Prop where
  ob : H q = some (.dK (mPairs L m))
  kn : KnAt H L ds m.kns
section
variable {H H' : Hp} {q L : Addr} {ds : List Addr} {m : Ms}
theorem MAt.same (a : MAt H q L ds m) (s : Same H H') : MAt H' q L ds m := ⟨s _ _ a.ob, a.kn.same s⟩
theorem MAt.keeps {fp : List Addr} (a : MAt H q L ds m) (s : Keeps fp H H') (h0 : q ∉ fp) (h1 : L ∉ fp) (h2 : ∀ d ∈ ds, d ∉ fp) : MAt H' q L ds m := ⟨s _ _ a.ob h0, a.kn.keeps s h1 h2⟩
theorem MAt.g_late (a : MAt H q L ds m) : DGet H q (.str "late") (some (.int m.late)) := by
  have e : DGet H q (kV (Sum.inr "late")) (valV (mPairs L m) (Sum.inr "late")) := DGet.k a.ob
  rw [mp_late] at e
  exact e
theorem MAt.g_lost (a : MAt H q L ds m) : DGet H q (.str "lost") (some (.int m.lost)) := by
  have e : DGet H q (kV (Sum.inr "lost")) (valV (mPairs L m) (Sum.inr "lost")) := DGet.k a.ob
  rw [mp_lost] at e
  exact e
theorem MAt.g_time (a : MAt H q L ds m) : DGet H q (.str "time") (some (.int m.time)) := by
  have e : DGet H q (kV (Sum.inr "time")) (valV (mPairs L m) (Sum.inr "time")) := DGet.k a.ob
  rw [mp_time] at e
  exact e
theorem MAt.g_known (a : MAt H q L ds m) : DGet H q (.str "known") (some (.ref L)) := by
  have e : DGet H q (kV (Sum.inr "known")) (valV (mPairs L m) (Sum.inr "known")) := DGet.k a.ob
  rw [mp_known] at e
  exact e
theorem MAt.qd (a : MAt H q L ds m) {ds' : List Addr} {L' : Addr} {kns : List Kn} (k : KnAt H L' ds' kns) : q ∉ ds' := fun hm => by
  obtain ⟨i, hi, rfl⟩ := List.getElem_of_mem hm
  obtain ⟨kn, _, e⟩ := Paired.getL k.at_ (List.getElem?_eq_getElem hi)
  rw [a.ob] at e
  injection e with e
  injection e with e
  unfold mPairs encK at e
  cases kn with
  | nil => cases e
  | cons x kn =>
    rw [List.map_cons] at e
    injection e with e1 e2
    injection e1 with e1
    cases e1
end
section
variable {P : Program} {w : World} {K : PySem.W.Frag} {mg : Str → Option Value} {base : Heap} {dI C : Addr}
/-! ### _law_taken -/
def sp_taken (K : PySem.W.Frag) : Sp := fun vs H Q _ => ∃ (r a : Addr) (ns : List Int) (n : Int), vs = [.ref r, .int n] ∧ RowAt K H r a ns ∧ 0 < n ∧ n < 1073741824 ∧
  ∀ v H', 0 ≤ v → v < n → RowAt K H' r a ns → Keeps [r] H H' → Q (.int v) H'
theorem sc__law_taken : FnScope ["_law_row", "_law_many", "_law_found", "_law_cell"] ["_law_row", "_law_many"] (defScope s__law_taken) := ⟨rfl, rfl, rfl, by decide +kernel, rfl, by decide +kernel, by decide +kernel⟩
theorem ok_taken {f : Addr} {fd : FuncData} (F : Fun K "_law_taken" "_law_taken" s__law_taken f fd) (G : Glb K w mg dI) : FnOk P w K mg base CX0 1 f fd ["_law_row", "_law_many"] (sp_taken K) := by
  refine F.ok sc__law_taken (fun vs H Q E h => ?_) (fun cdv A outer s H vs Q E hr h => ?_)
  · obtain ⟨r, a, ns, n, rfl, _⟩ := h
    rfl
  · obtain ⟨r, a, ns, n, rfl, ⟨i, m, x, e, hi, hs⟩, n0, n1, q⟩ := h
    refine ⟨_, (pss_cons (ps_if (pt_cmpR op_gt (pe_ix ix_list (pv 0) pe_int (fun _ _ => rfl)) pe_int (nomark _))
        (pss_cons (ps_set (i := 2) sc__law_taken.nd rfl (Or.inl rfl) (pe_op op_mod (pe_ix ix_list (pv 0) pe_int (fun _ _ => rfl)) (pv 1)))
          (pss_cons (ps_asg (pe_op op_fdiv (pe_ix ix_list (pv 0) pe_int (fun _ _ => rfl)) (pv 1)) (pg_sub (pv 0) pe_int set_list))
          (pss_one (ps_ret (pv 2)))))
        pss_nil)
      (pss_cons (ps_asg (pe_op op_add (pe_ix ix_list (pv 0) pe_int (fun _ _ => rfl)) pe_int) (pg_sub (pv 0) pe_int set_list))
      (pss_cons (ps_if (pt_cmpR op_gt (pe_ix ix_list (pv 0) pe_int (fun _ _ => rfl)) (pe_callB call_len_seq (by rfl) G.len (by decide +kernel) (pa_cons (pe_ix ix_list (pv 0) pe_int (fun _ _ => rfl)) pa_nil)) (nomark _))
        (pss_cons (ps_asg (pe_op op_mod (pe_op op_add (pe_op op_mul (pe_ix ix_list (pv 0) pe_int (fun _ _ => rfl)) pe_int) pe_int) pe_int) (pg_sub (pv 0) pe_int set_list))
          (pss_one (ps_ret (pe_op op_mod (pe_op op_fdiv (pe_ix ix_list (pv 0) pe_int (fun _ _ => rfl)) pe_int) (pv 1)))))
        pss_nil)
      (pss_cons (ps_set (i := 3) sc__law_taken.nd rfl (Or.inl rfl) (pe_ix ix_list (pe_ix ix_list (pv 0) pe_int (fun _ _ => rfl)) (pe_op op_sub (pe_ix ix_list (pv 0) pe_int (fun _ _ => rfl)) pe_int) (fun _ _ => rfl)))
      (pss_cons (ps_asg (pe_op op_mod (pe_op op_add (pe_op op_add (pe_op op_mul (pe_ix ix_list (pv 0) pe_int (fun _ _ => rfl)) pe_int) (pv 3)) pe_int) pe_int) (pg_sub (pv 0) pe_int set_list))
      (C8.pss_cut (ps_if (pt_cmpR op_ge (pv 3) (pe_op op_pow pe_int pe_int) (nomark _))
        (pss_one (ps_asg (pe_op op_fdiv (pv 3) (pv 1)) (pg_sub (pv 0) pe_int set_list)))
        pss_nil)
      (pss_one (ps_ret (pe_op op_mod (pv 3) (pv 1)))))))))), ?_⟩
    refine ⟨_, rfl, r, _, _, _, rfl, rfl, SqL.of e, rfl, _, _, rfl, rfl, _, rfl, ite2 (fun hx => ?_) (fun hx => ?_)⟩
    · -- a great cell's digits
      refine ⟨_, rfl, r, _, _, _, rfl, rfl, SqL.of e, rfl, _, rfl, _, _, rfl, rfl, n0, ?_⟩
      refine ⟨_, rfl, r, _, _, _, rfl, rfl, SqL.of e, rfl, _, rfl, _, _, rfl, rfl, ⟨n0, n1⟩, _, rfl, r, _, _, 3, rfl, rfl, e, rfl, ?_⟩
      exact ⟨_, rfl, q _ _ (Int.emod_nonneg _ (by omega)) (Int.emod_lt_of_pos _ n0) ⟨i, m, x / n, upd_same, hi, sq_upd hs e⟩ ((Keeps.refl _ _).upd (by simp))⟩
    · refine ⟨_, rfl, r, _, _, _, rfl, rfl, SqL.of e, rfl, _, _, rfl, rfl, _, rfl, r, _, _, 1, rfl, rfl, e, rfl, ?_⟩
      have e1 : upd H r (.lst ([V.ref a, .int i, .int m, .int x].set 1 (.int (i + 1)))) r = some (.lst [.ref a, .int (i + 1), .int m, .int x]) := upd_same
      have hs1 := sq_upd (o := .lst ([V.ref a, .int i, .int m, .int x].set 1 (.int (i + 1)))) hs e
      have k1 : Keeps [r] H (upd H r (.lst ([V.ref a, .int i, .int m, .int x].set 1 (.int (i + 1))))) := (Keeps.refl _ _).upd (by simp)
      generalize upd H r (.lst ([V.ref a, .int i, .int m, .int x].set 1 (.int (i + 1)))) = H1 at *
      refine ⟨_, rfl, r, _, _, _, rfl, rfl, SqL.of e1, rfl, _, rfl, r, _, _, _, rfl, rfl, SqL.of e1, rfl, a, _, rfl, .inl hs1, _, _, rfl, rfl, _, rfl, ite2 (fun hy => ?_) (fun hy => ?_)⟩
      · -- behind the script
        refine ⟨_, rfl, r, _, _, _, rfl, rfl, SqL.of e1, rfl, _, _, rfl, rfl, .inr ⟨by decide, by decide⟩, _, _, rfl, rfl, _, _, rfl, rfl, (by show (0 : Int) < 2147483647; decide), _, rfl, r, _, _, 2, rfl, rfl, e1, rfl, ?_⟩
        refine ⟨_, rfl, r, _, _, _, rfl, rfl, SqL.of upd_same, rfl, _, _, rfl, rfl, ⟨by decide, by decide⟩, _, rfl, _, _, rfl, rfl, n0, ?_⟩
        exact q _ _ (Int.emod_nonneg _ (by omega)) (Int.emod_lt_of_pos _ n0) ⟨i + 1, _, x, upd_same, by omega, sq_upd hs1 e1⟩ (k1.upd (by simp))
      · have hy' : i < ns.length := by
          simp at hy
          omega
        obtain ⟨c, hc⟩ := at_int hi hy'
        refine ⟨_, rfl, r, _, _, _, rfl, rfl, SqL.of e1, rfl, _, rfl, r, _, _, _, rfl, rfl, SqL.of e1, rfl, _, _, rfl, rfl, a, _, _, .int c, rfl, rfl, hs1, (by rw [show i + 1 - 1 = i by omega]; exact hc), ?_⟩
        refine ⟨_, rfl, r, _, _, _, rfl, rfl, SqL.of e1, rfl, _, _, rfl, rfl, .inr ⟨by decide, by decide⟩, _, rfl, _, _, rfl, rfl, _, _, rfl, rfl, _, _, rfl, rfl, (by show (0 : Int) < 2147483647; decide), _, rfl, r, _, _, 2, rfl, rfl, e1, rfl, ?_⟩
        have e2 : upd H1 r (.lst ([V.ref a, .int (i + 1), .int m, .int x].set 2 (.int ((m * 48271 + c + 11) % 2147483647)))) r = some (.lst [.ref a, .int (i + 1), .int ((m * 48271 + c + 11) % 2147483647), .int x]) := upd_same
        have hs2 := sq_upd (o := .lst ([V.ref a, .int (i + 1), .int m, .int x].set 2 (.int ((m * 48271 + c + 11) % 2147483647)))) hs1 e1
        have k2 : Keeps [r] H (upd H1 r (.lst ([V.ref a, .int (i + 1), .int m, .int x].set 2 (.int ((m * 48271 + c + 11) % 2147483647))))) := k1.upd (by simp)
        generalize upd H1 r (.lst ([V.ref a, .int (i + 1), .int m, .int x].set 2 (.int ((m * 48271 + c + 11) % 2147483647)))) = H2 at *
        refine ⟨fun σ H3 => (∃ o, σ = [some (.ref r), some (.int n), o, some (.int c)]) ∧ RowAt K H3 r a ns ∧ Keeps [r] H H3, ?_, ?_⟩
        · refine ⟨_, rfl, _, _, rfl, rfl, ⟨by decide, by decide, by decide⟩, _, _, rfl, rfl, _, rfl, ite2 (fun hz => ?_) (fun hz => ?_)⟩
          · exact ⟨_, rfl, _, rfl, _, _, rfl, rfl, ⟨n0, n1⟩, _, rfl, r, _, _, 3, rfl, rfl, e2, rfl, ⟨_, rfl⟩, ⟨i + 1, _, _, upd_same, by omega, sq_upd hs2 e2⟩, k2.upd (by simp)⟩
          · exact ⟨⟨_, rfl⟩, ⟨i + 1, _, _, e2, by omega, hs2⟩, k2⟩
        · rintro σ H3 ⟨⟨o, rfl⟩, r3, k3⟩
          exact ⟨_, rfl, _, rfl, _, _, rfl, rfl, n0, q _ _ (Int.emod_nonneg _ (by omega)) (Int.emod_lt_of_pos _ n0) r3 k3⟩
/-! ### _law_do -/
inductive Deed where
  | tk (t : Int)
  | cm (t : Int) (b : Nat) (m : Int) (z : Str)
def Deed.time : Deed → Int
  | .tk t => t
  | .cm t _ _ _ => t
def Deed.vs : Deed → List V
  | .tk t => [.int t]
  | .cm t b m z => [.int t, .int b, .int m, .str z]
def CanDo (h : Hs) : Deed → Prop
  | .tk t => h.now ≤ t ∧ t ≤ 60
  | .cm t b m z => Comes h t b m z
def doH (h : Hs) : Deed → Hs
  | .tk t => goneOn h t
  | .cm t b m z => goneOn (putRow h b m z) t
def doM (m : Ms) : Deed → Ms
  | .tk t => { m with time := t }
  | .cm t b x z => { m with time := t, kns := m.kns.set b (m.kns.getD b [] ++ [(x, z)]) }
theorem mp_few (L : Addr) (m : Ms) : (mPairs L m).length < sizeLine := by
  unfold mPairs
  cases m.brk with
  | none => show 4 < sizeLine; decide
  | some b => show 5 < sizeLine; decide
theorem mp_put (L : Addr) (m : Ms) (t : Int) : putK (mPairs L m) (Sum.inr ("time" : Str) : Key) (.int t) = mPairs L { m with time := t } := by
  have n1 : ¬ ((Sum.inr ("late" : Str) : Key) = Sum.inr ("time" : Str)) := by decide +kernel
  have n2 : ¬ ((Sum.inr ("lost" : Str) : Key) = Sum.inr ("time" : Str)) := by decide +kernel
  have n3 : ¬ ((Sum.inr ("known" : Str) : Key) = Sum.inr ("time" : Str)) := by decide +kernel
  have e : ((mPairs L m).any fun kv => decide (kv.1 = (Sum.inr ("time" : Str) : Key))) = true := by
    unfold mPairs
    rw [List.any_cons, List.any_cons, List.any_cons]
    rw [show decide (((Sum.inr ("time" : Str) : Key), V.int m.time).1 = (Sum.inr ("time" : Str) : Key)) = true from decide_eq_true rfl]
    simp
  unfold putK
  rw [if_pos e]
  unfold mPairs
  have n4 : ¬ ((Sum.inr ("broken" : Str) : Key) = Sum.inr ("time" : Str)) := by decide +kernel
  rw [List.map_cons, List.map_cons, List.map_cons, List.map_cons, if_neg n1, if_neg n2, if_pos rfl, if_neg n3]
  cases m.brk with
  | none => rfl
  | some b =>
    unfold brkP
    rw [List.map_cons, List.map_nil, if_neg n4]
def fps (p : Addr) (ds : List Addr) (q : Addr) (ds' : List Addr) : List Addr := p :: ds ++ q :: ds'
/-- a house and the law's dict of it, apart from one another, telling the same rows -/
structure Both (C : Addr) (H : Hp) (p L : Addr) (ds : List Addr) (h : Hs) (q L' : Addr) (ds' : List Addr) (m : Ms) : Prop where
  ha : HouseAt C H p L ds h
  ma : MAt H q L' ds' m
  dj : ∀ d ∈ ds, d ∉ ds'
  kn : m.kns = h.kns
  late : m.late = h.late
  lost : m.lost = h.lost
  time : m.time = h.now
  fa : FaultOk h
  mn : h.kns.length = h.kns.length
theorem Both.same {H H' : Hp} {p L : Addr} {ds : List Addr} {h : Hs} {q L' : Addr} {ds' : List Addr} {m : Ms} (b : Both C H p L ds h q L' ds' m) (s : Same H H') : Both C H' p L ds h q L' ds' m :=
  ⟨b.ha.same s, b.ma.same s, b.dj, b.kn, b.late, b.lost, b.time, b.fa, rfl⟩
theorem Both.keeps {H H' : Hp} {p L : Addr} {ds : List Addr} {h : Hs} {q L' : Addr} {ds' : List Addr} {m : Ms} {r : Addr} (b : Both C H p L ds h q L' ds' m) (s : Keeps [r] H H') {l : List V} {x : Addr} (hr : H r = some (.lst (.ref x :: l))) (hx : H x = none ∨ ∃ v, l = .int v :: l.tail) (nL : L ≠ r) (nL' : L' ≠ r) : Both C H' p L ds h q L' ds' m := by
  have nd : ∀ {ds : List Addr} {L : Addr} {kns : List Kn}, KnAt H L ds kns → ∀ d ∈ ds, d ∉ [r] := fun k d hd z => by
    simp at z
    obtain ⟨kvs, e⟩ := k.mem hd
    rw [z, hr] at e
    cases e
  obtain ⟨dx, eo⟩ := b.ha.ob
  refine ⟨b.ha.keeps s (by simp; intro z; rw [z, hr] at eo; cases eo) (by simpa using nL) (nd b.ha.kn), b.ma.keeps s (by simp; intro z; have := b.ma.ob; rw [z, hr] at this; cases this) (by simpa using nL') (nd b.ma.kn), b.dj, b.kn, b.late, b.lost, b.time, b.fa, rfl⟩
theorem goneOn_fault (h : Hs) (t : Int) (f : FaultOk h) : FaultOk (goneOn h t) := by
  unfold FaultOk goneOn
  simp only
  split
  · exact .inr ⟨_, rfl⟩
  · exact f
def sp_do (C : Addr) : Sp := fun vs H Q _ => ∃ (p L : Addr) (ds : List Addr) (h : Hs) (q L' : Addr) (ds' : List Addr) (m : Ms) (a : Addr) (d : Deed), vs = [.ref p, .ref q, .ref a] ∧ Both C H p L ds h q L' ds' m ∧ H a = some (.tup d.vs) ∧ CanDo h d ∧
  ∀ H', Both C H' p L ds (doH h d) q L' ds' (doM m d) → Keeps (fps p ds q ds') H H' → Q (.bl true) H'
theorem sc__law_do : FnScope ["_law_house", "_law_m", "_law_deed"] ["_law_house", "_law_m", "_law_deed"] (defScope s__law_do) := ⟨rfl, rfl, rfl, by decide +kernel, rfl, by decide +kernel, by decide +kernel⟩
theorem ok_do {f : Addr} {fd : FuncData} (F : Fun K "_law_do" "_law_do" s__law_do f fd) (G : Glb K w mg dI) (c_tick : C8.Met P w K mg base 5 C "tick" (sp_tick C) []) (c_come : C8.Met P w K mg base 5 C "come" (sp_come C) []) :
    FnOk P w K mg base CX0 6 f fd ["_law_house", "_law_m", "_law_deed"] (sp_do C) := by
  refine F.ok sc__law_do (fun vs H Q E h => ?_) (fun cdv A outer s H vs Q E hr h => ?_)
  · obtain ⟨p, L, ds, h, q, L', ds', m, a, d, rfl, _⟩ := h
    rfl
  · obtain ⟨p, L, ds, h, q0, L', ds', m, a, d, rfl, b, ht, can, q⟩ := h
    have hu := hu_of hr
    refine ⟨_, (pss_cons (ps_dput hu (pv 1) pe_str (pe_ix ix_tup (pv 2) pe_int (fun _ _ => rfl)) rfl)
      (pss_cons (ps_if (pt_cmpR op_eq (pe_callB call_len_seq (by rfl) G.len (by decide +kernel) (pa_cons (pv 2) pa_nil)) pe_int (nomark _))
        (pss_one (ps_ret (pe_cmpR op_isN (C8.pe_mt c_tick hr (by decide) (pv 0) (pa_cons (pe_ix ix_tup (pv 2) pe_int (fun _ _ => rfl)) pa_nil)) pe_non (nomark _))))
        pss_nil)
      (pss_cons (ps_dput hu (pe_ix ix_list (pe_dget hu (pv 1) pe_str (fun _ _ => rfl)) (pe_ix ix_tup (pv 2) pe_int (fun _ _ => rfl)) (fun _ _ => rfl)) (pe_ix ix_tup (pv 2) pe_int (fun _ _ => rfl)) (pe_ix ix_tup (pv 2) pe_int (fun _ _ => rfl)) rfl)
      (pss_one (ps_ret (pe_cmpR op_isN (C8.pe_mt c_come hr (by decide) (pv 0) (pa_cons (pe_ix ix_tup (pv 2) pe_int (fun _ _ => rfl)) (pa_cons (pe_ix ix_tup (pv 2) pe_int (fun _ _ => rfl)) (pa_cons (pe_ix ix_tup (pv 2) pe_int (fun _ _ => rfl)) (pa_cons (pe_ix ix_tup (pv 2) pe_int (fun _ _ => rfl)) pa_nil))))) pe_non (nomark _))))))), ?_⟩
    obtain ⟨dx, eo⟩ := b.ha.ob
    have nqp : q0 ≠ p := ne_of b.ma.ob eo (by intro z; cases z)
    have nqL : q0 ≠ L := ne_of b.ma.ob b.ha.kn.lst (by intro z; cases z)
    have nqL' : q0 ≠ L' := ne_of b.ma.ob b.ma.kn.lst (by intro z; cases z)
    have nqa : a ≠ q0 := ne_of ht b.ma.ob (by intro z; cases z)
    have nqd : q0 ∉ ds := b.ma.qd b.ha.kn
    have nqd' : q0 ∉ ds' := b.ma.qd b.ma.kn
    cases d with
    | tk t =>
      obtain ⟨t0, t1⟩ := can
      refine ⟨_, rfl, a, _, _, _, rfl, rfl, SqT.of ht, rfl, _, rfl, q0, _, rfl, DPut.k (k := Sum.inr ("time" : Str)) b.ma.ob (by exact mp_few L' m), ?_⟩
      rw [mp_put]
      have kk : Keeps [q0] H (upd H q0 (.dK (mPairs L' { m with time := t }))) := (Keeps.refl _ _).upd (by simp)
      have h1 : HouseAt C (upd H q0 (.dK (mPairs L' { m with time := t }))) p L ds h := b.ha.keeps kk (by simpa using nqp.symm) (by simpa using nqL.symm) (fun d hd z => nqd (by simp at z; rw [← z]; exact hd))
      have m1 : MAt (upd H q0 (.dK (mPairs L' { m with time := t }))) q0 L' ds' { m with time := t } := ⟨upd_same, b.ma.kn.keeps kk (by simpa using nqL'.symm) (fun d hd z => nqd' (by simp at z; rw [← z]; exact hd))⟩
      have t1' := kk _ _ ht (by simpa using nqa)
      generalize upd H q0 (.dK (mPairs L' { m with time := t })) = H1 at *
      obtain ⟨dx1, e1⟩ := h1.ob
      refine ⟨_, rfl, a, _, rfl, .inr (SqT.of t1'), rfl, _, rfl, iteT ?_⟩
      refine ⟨_, rfl, p, dx1, _, rfl, e1, fl_no _ _ (by decide +kernel), _, rfl, a, _, _, _, rfl, rfl, SqT.of t1', rfl, p, L, ds, h, t, rfl, h1, b.fa, t0, t1, fun H2 h2 k2 => ⟨rfl, ?_⟩⟩
      refine q H2 ⟨h2, m1.keeps k2 ?_ ?_ ?_, b.dj, b.kn, b.late, b.lost, rfl, goneOn_fault _ _ b.fa, rfl⟩ ((kk.mono (by simp [fps])).trans (k2.mono ?_))
      · simp only [List.mem_cons, not_or]
        exact ⟨nqp, nqd⟩
      · simp only [List.mem_cons, not_or]
        exact ⟨ne_of m1.kn.lst e1 (by intro z; cases z), fun hm => by
          obtain ⟨kvs, e⟩ := h1.kn.mem hm
          rw [m1.kn.lst] at e
          cases e⟩
      · intro d hd
        simp only [List.mem_cons, not_or]
        refine ⟨fun z => ?_, fun z => b.dj d z hd⟩
        obtain ⟨kvs, e⟩ := m1.kn.mem hd
        rw [z, e1] at e
        cases e
      · intro x hx
        unfold fps
        exact List.mem_append_left _ hx
    | cm t bb mm z =>
      have hb1 := can.b1
      have bk : bb < m.kns.length := by rw [b.kn]; exact hb1
      obtain ⟨ek, hkm⟩ := getD_mem bk
      obtain ⟨d', hd', hdk'⟩ := Paired.get b.ma.kn.at_ ek
      have new' : lookK (m.kns.getD bb []) mm = none := by rw [b.kn]; exact can.new
      have d'm : d' ∈ ds' := List.mem_of_getElem? hd'
      refine ⟨_, rfl, a, _, _, _, rfl, rfl, SqT.of ht, rfl, _, rfl, q0, _, rfl, DPut.k (k := Sum.inr ("time" : Str)) b.ma.ob (by exact mp_few L' m), ?_⟩
      rw [mp_put]
      have kk : Keeps [q0] H (upd H q0 (.dK (mPairs L' { m with time := t }))) := (Keeps.refl _ _).upd (by simp)
      have h1 : HouseAt C (upd H q0 (.dK (mPairs L' { m with time := t }))) p L ds h := b.ha.keeps kk (by simpa using nqp.symm) (by simpa using nqL.symm) (fun d hd z => nqd (by simp at z; rw [← z]; exact hd))
      have m1 : MAt (upd H q0 (.dK (mPairs L' { m with time := t }))) q0 L' ds' { m with time := t } := ⟨upd_same, b.ma.kn.keeps kk (by simpa using nqL'.symm) (fun d hd z => nqd' (by simp at z; rw [← z]; exact hd))⟩
      have t1' := kk _ _ ht (by simpa using nqa)
      have dk1 := kk _ _ hdk' (by simp; intro z; exact nqd' (z ▸ d'm))
      generalize upd H q0 (.dK (mPairs L' { m with time := t })) = H1 at *
      refine ⟨_, rfl, a, _, rfl, .inr (SqT.of t1'), rfl, _, rfl, ifF (by show decide (V.int 4 = V.int 1) = false; decide) ?_⟩
      have ok' := (b.ma.kn.ok _ hkm).snoc new' can.wd can.m0 (by have := can.m1; have := can.t1; omega)
      have sm' := (b.ma.kn.ok _ hkm).sm
      refine ⟨_, rfl, a, _, _, _, rfl, rfl, SqT.of t1', rfl, _, rfl, q0, .ref L', rfl, m1.g_known, _, rfl, a, _, _, _, rfl, rfl, SqT.of t1', rfl, L', _, _, .ref d', rfl, rfl, SqL.of m1.kn.lst, atI_nat (by rw [List.getElem?_map, hd']; rfl), _, rfl, a, _, _, _, rfl, rfl, SqT.of t1', rfl, d', _, rfl, DPut.k (k := Sum.inl mm) dk1 (szl (by unfold encK; rw [List.length_map]; omega)), ?_⟩
      rw [encK_put new']
      have k2 : Keeps [d'] H1 (upd H1 d' (.dK (encK (m.kns.getD bb [] ++ [(mm, z)])))) := (Keeps.refl _ _).upd (by simp)
      have npd' : p ≠ d' := fun e => by
        obtain ⟨dx1, e1⟩ := h1.ob
        rw [e, dk1] at e1
        cases e1
      have nLd' : L ≠ d' := fun e => by have e1 := h1.kn.lst; rw [e, dk1] at e1; cases e1
      have h2 : HouseAt C (upd H1 d' (.dK (encK (m.kns.getD bb [] ++ [(mm, z)])))) p L ds h := h1.keeps k2 (by simpa using npd') (by simpa using nLd') (fun d hd e => b.dj d hd (by simp at e; rw [e]; exact d'm))
      have m2 : MAt (upd H1 d' (.dK (encK (m.kns.getD bb [] ++ [(mm, z)])))) q0 L' ds' (doM m (.cm t bb mm z)) := ⟨by rw [upd_ne (fun e => nqd' (by rw [e]; exact d'm))]; exact m1.ob, m1.kn.put hd' ok'⟩
      have t2 := k2 _ _ t1' (by simp; intro e; rw [e, dk1] at t1'; cases t1')
      generalize upd H1 d' (.dK (encK (m.kns.getD bb [] ++ [(mm, z)]))) = H2 at *
      obtain ⟨dx2, e2⟩ := h2.ob
      refine ⟨_, rfl, p, dx2, _, rfl, e2, fl_no _ _ (by decide +kernel), _, rfl, a, _, _, _, rfl, rfl, SqT.of t2, rfl, _, rfl, a, _, _, _, rfl, rfl, SqT.of t2, rfl, _, rfl, a, _, _, _, rfl, rfl, SqT.of t2, rfl, _, rfl, a, _, _, _, rfl, rfl, SqT.of t2, rfl,
        p, L, ds, h, t, bb, mm, z, rfl, h2, b.fa, can, fun H3 h3 k3 => ⟨rfl, ?_⟩⟩
      refine q H3 ⟨h3, m2.keeps k3 ?_ ?_ ?_, b.dj, ?_, b.late, b.lost, rfl, goneOn_fault _ _ b.fa, rfl⟩ (((kk.mono (by simp [fps])).trans (k2.mono (by intro x hx; simp at hx; rw [hx]; unfold fps; exact List.mem_append_right _ (List.mem_cons_of_mem _ d'm)))).trans (k3.mono ?_))
      · simp only [List.mem_cons, not_or]
        exact ⟨nqp, nqd⟩
      · simp only [List.mem_cons, not_or]
        exact ⟨ne_of m2.kn.lst e2 (by intro z; cases z), fun hm => by
          obtain ⟨kvs, e⟩ := h2.kn.mem hm
          rw [m2.kn.lst] at e
          cases e⟩
      · intro d hd
        simp only [List.mem_cons, not_or]
        refine ⟨fun z => ?_, fun z => b.dj d z hd⟩
        obtain ⟨kvs, e⟩ := m2.kn.mem hd
        rw [z, e2] at e
        cases e
      · show m.kns.set bb (m.kns.getD bb [] ++ [(mm, z)]) = h.kns.set bb (h.kns.getD bb [] ++ [(mm, z)])
        rw [b.kn]
      · intro x hx
        unfold fps
        exact List.mem_append_left _ hx
end
end IC
namespace IC
open PySem L2
section
variable {P : Program} {w : World} {K : PySem.W.Frag} {mg : Str → Option Value} {base : Heap} {dI C : Addr}
/-! ### _law_fresh -/
theorem RowAt.upd {H : Hp} {r a p : Addr} {ns : List Int} {o : HO} (h : RowAt K H r a ns) (n : H p = none) : RowAt K (upd H p o) r a ns := h.same (Same.new n)
theorem mp_disp (L : Addr) (late lost : Int) : mergeK [] [((Sum.inr ("late" : Str) : Key), V.int late), (Sum.inr ("lost" : Str), V.int lost), (Sum.inr ("time" : Str), V.int 0), (Sum.inr ("known" : Str), V.ref L)] = mPairs L ⟨late, lost, 0, [], none⟩ := by
  unfold mergeK
  rw [List.foldl_cons, List.foldl_cons, List.foldl_cons, List.foldl_cons, List.foldl_nil]
  rw [putK_new (kvs := []) _ rfl, List.nil_append]
  rw [putK_new (kvs := [_]) _ ((vv_ne (show ¬ ((Sum.inr ("late" : Str) : Key) = Sum.inr ("lost" : Str)) by decide +kernel)).trans rfl)]
  show putK (putK [_, _] _ _) _ _ = _
  rw [putK_new (kvs := [_, _]) _ ((vv_ne (show ¬ ((Sum.inr ("late" : Str) : Key) = Sum.inr ("time" : Str)) by decide +kernel)).trans ((vv_ne (show ¬ ((Sum.inr ("lost" : Str) : Key) = Sum.inr ("time" : Str)) by decide +kernel)).trans rfl))]
  show putK [_, _, _] _ _ = _
  rw [putK_new (kvs := [_, _, _]) _ ((vv_ne (show ¬ ((Sum.inr ("late" : Str) : Key) = Sum.inr ("known" : Str)) by decide +kernel)).trans ((vv_ne (show ¬ ((Sum.inr ("lost" : Str) : Key) = Sum.inr ("known" : Str)) by decide +kernel)).trans ((vv_ne (show ¬ ((Sum.inr ("time" : Str) : Key) = Sum.inr ("known" : Str)) by decide +kernel)).trans rfl)))]
  rfl
theorem sq_updD {H : Hp} {p a : Addr} {xs : List V} {kv : List (Key × V)} {o : HO} (h : SqL K H a xs) (hp : H p = some (.dK kv)) : SqL K (upd H p o) a xs := by
  rcases h with (h | ⟨u, h⟩) | h
  · exact .inl (.inl (by rw [upd_ne (ne_of h hp (by intro z; cases z))]; exact h))
  · exact .inl (.inr ⟨u, by rw [upd_ne (ne_of h hp (by intro z; cases z))]; exact h⟩)
  · exact .inr h
def sp_fresh (K : PySem.W.Frag) : Sp := fun vs H Q _ => ∃ (r a : Addr) (ns : List Int) (most : Int), vs = [.ref r, .int most] ∧ RowAt K H r a ns ∧ 1 ≤ most ∧ most ≤ 6 ∧
  ∀ (q L : Addr) (ds : List Addr) (m : Ms) (n : Nat) (H' : Hp), m.time = 0 → m.kns = List.replicate n [] → 1 ≤ n → (n : Int) ≤ most → 0 ≤ m.late → m.late ≤ 9 → 0 ≤ m.lost → m.lost ≤ 6 → MAt H' q L ds m → RowAt K H' r a ns → Keeps [r] H H' →
    H q = none → H L = none → (∀ d ∈ ds, H d = none) → Q (.ref q) H'
theorem sc__law_fresh : FnScope ["_law_row", "_law_most", "_law_late", "_law_lost", "_law_badge"] ["_law_row", "_law_most"] (defScope s__law_fresh) := ⟨rfl, rfl, rfl, by decide +kernel, rfl, by decide +kernel, by decide +kernel⟩
theorem ok_fresh {f : Addr} {fd : FuncData} (F : Fun K "_law_fresh" "_law_fresh" s__law_fresh f fd) (G : Glb K w mg dI) (c__law_taken : C8.Cal P w K mg base 1 "_law_taken" (sp_taken K) []) : FnOk P w K mg base CX0 2 f fd ["_law_row", "_law_most"] (sp_fresh K) := by
  refine F.ok sc__law_fresh (fun vs H Q E h => ?_) (fun cdv A outer s H vs Q E hr h => ?_)
  · obtain ⟨r, a, ns, most, rfl, _⟩ := h
    rfl
  · obtain ⟨r, a, ns, most, rfl, hrow, m1, m6, q⟩ := h
    refine ⟨_, (C8.pss_cut (ps_set (i := 2) sc__law_fresh.nd rfl (Or.inl rfl) (pe_ix ix_list (pe_lst (pa_cons pe_int (pa_cons pe_int (pa_cons pe_int (pa_cons (C8.pe_c c__law_taken hr (by decide) rfl (pa_cons (pv 0) (pa_cons pe_int pa_nil))) pa_nil))))) (C8.pe_c c__law_taken hr (by decide) rfl (pa_cons (pv 0) (pa_cons pe_int pa_nil))) (fun _ _ => rfl)))
      (C8.pss_cut (ps_set (i := 3) sc__law_fresh.nd rfl (Or.inl rfl) (pe_ix ix_list (pe_lst (pa_cons pe_int (pa_cons pe_int (pa_cons pe_int (pa_cons (C8.pe_c c__law_taken hr (by decide) rfl (pa_cons (pv 0) (pa_cons pe_int pa_nil))) pa_nil))))) (C8.pe_c c__law_taken hr (by decide) rfl (pa_cons (pv 0) (pa_cons pe_int pa_nil))) (fun _ _ => rfl)))
      (pss_one (ps_ret (pe_disp (pps_cons pe_str (pv 2) (pps_cons pe_str (pv 3) (pps_cons pe_str pe_int (pps_cons pe_str (pe_lc (own := [("_law_badge", 4)]) (g := gName 4) (tt := tYes) rfl sc__law_fresh.nd (pi_range1 rfl G.range (pa_cons (pe_op op_add pe_int (C8.pe_c c__law_taken hr (by decide) rfl (pa_cons (pv 0) (pa_cons (pv 1) pa_nil)))) pa_nil)) (blkOk_by (own := [("_law_badge", 4)]) (N := ["_law_row", "_law_most", "_law_late", "_law_lost", "_law_badge"]) (sc := defScope s__law_fresh) (by decide +kernel)) (fun _ _ _ _ _ => (pg_name (i := 4) sc__law_fresh.nd rfl (Or.inl rfl))) (fun _ _ _ _ _ => pts_nil) (fun _ _ _ _ _ => pe_dnewK)) pps_nil)))) (by rfl) (by rfl) (fun z => by cases z) (by decide)))))), ?_⟩
    refine ⟨fun σ H3 => ∃ late, 0 ≤ late ∧ late ≤ 9 ∧ σ = [some (.ref r), some (.int most), some (.int late), none, none] ∧ RowAt K H3 r a ns ∧ Keeps [r] H H3, ?_, ?_⟩
    · refine ⟨_, rfl, r, a, ns, 10, rfl, hrow, by decide, by decide, fun v1 H1 h1 h1' r1 k1 => ⟨sz (by simp), fun p np => ⟨_, rfl, r, a, ns, 4, rfl, r1.upd np, by decide, by decide, fun v2 H2 h2 h2' r2 k2 => ?_⟩⟩⟩
      obtain ⟨l0, x0, hr0⟩ := r1.ne
      have npr : p ≠ r := fun z => by rw [z, hr0] at np; cases np
      have hp := k2 p _ upd_same (by simpa using npr)
      have kk : Keeps [r] H H2 := (k1.updNew (k1.free (by simpa using npr) np)).trans k2
      have hv : v2 = 0 ∨ v2 = 1 ∨ v2 = 2 ∨ v2 = 3 := by omega
      rcases hv with rfl | rfl | rfl | rfl
      · exact ⟨p, _, _, _, rfl, rfl, SqL.of hp, rfl, _, by omega, by omega, rfl, r2, kk⟩
      · exact ⟨p, _, _, _, rfl, rfl, SqL.of hp, rfl, _, by omega, by omega, rfl, r2, kk⟩
      · exact ⟨p, _, _, _, rfl, rfl, SqL.of hp, rfl, _, by omega, by omega, rfl, r2, kk⟩
      · exact ⟨p, _, _, _, rfl, rfl, SqL.of hp, rfl, _, h1, by omega, rfl, r2, kk⟩
    · rintro σ Ha ⟨late, la0, la9, rfl, ra, ka⟩
      refine ⟨fun σ H3 => ∃ lost, 0 ≤ lost ∧ lost ≤ 6 ∧ σ = [some (.ref r), some (.int most), some (.int late), some (.int lost), none] ∧ RowAt K H3 r a ns ∧ Keeps [r] H H3, ?_, ?_⟩
      · refine ⟨_, rfl, r, a, ns, 7, rfl, ra, by decide, by decide, fun v1 H1 h1 h1' r1 k1 => ⟨sz (by simp), fun p np => ⟨_, rfl, r, a, ns, 4, rfl, r1.upd np, by decide, by decide, fun v2 H2 h2 h2' r2 k2 => ?_⟩⟩⟩
        obtain ⟨l0, x0, hr0⟩ := r1.ne
        have npr : p ≠ r := fun z => by rw [z, hr0] at np; cases np
        have hp := k2 p _ upd_same (by simpa using npr)
        have kk : Keeps [r] H H2 := ((ka.trans k1).updNew ((ka.trans k1).free (by simpa using npr) np)).trans k2
        have hv : v2 = 0 ∨ v2 = 1 ∨ v2 = 2 ∨ v2 = 3 := by omega
        rcases hv with rfl | rfl | rfl | rfl
        · exact ⟨p, _, _, _, rfl, rfl, SqL.of hp, rfl, _, by omega, by omega, rfl, r2, kk⟩
        · exact ⟨p, _, _, _, rfl, rfl, SqL.of hp, rfl, _, by omega, by omega, rfl, r2, kk⟩
        · exact ⟨p, _, _, _, rfl, rfl, SqL.of hp, rfl, _, by omega, by omega, rfl, r2, kk⟩
        · exact ⟨p, _, _, _, rfl, rfl, SqL.of hp, rfl, _, h1, by omega, rfl, r2, kk⟩
      · rintro σ Hb ⟨lost, lo0, lo6, rfl, rb, kb⟩
        obtain ⟨l0, x0, hr0⟩ := rb.ne
        refine fun p np => ⟨_, rfl, _, rfl, _, rfl, _, rfl, r, a, ns, most, rfl, rb.upd np, by omega, by omega, fun v H1 h1 h1' r1 k1 => ⟨_, _, rfl, rfl, _, rfl, by omega, by omega, fun D nD => ?_⟩⟩
        obtain ⟨n, hn⟩ := Int.eq_ofNat_of_zero_le (show 0 ≤ 1 + v by omega)
        rw [hn, show ((n : Int)).toNat = n from Int.toNat_natCast n]
        have npr : p ≠ r := fun z => by rw [z, hr0] at np; cases np
        have npH : H p = none := kb.free (by simpa using npr) np
        have hp1 := k1 p _ upd_same (by simpa using npr)
        have nDr : D ≠ r := fun z => by
          obtain ⟨l1, x1, hr1⟩ := r1.ne
          rw [z, hr1] at nD
          cases nD
        have kk1 : Keeps [r] H H1 := (kb.updNew npH).trans k1
        have nDH : H D = none := kk1.free (by simpa using nDr) nD
        refine lc_dicts nD (by omega) (fun _ => rfl) fun ds H2 hl nd hds hD s2 => ?_
        refine ⟨s2 _ _ hp1, [(Sum.inr ("late" : Str), .int late), (Sum.inr ("lost" : Str), .int lost), (Sum.inr ("time" : Str), .int 0), (Sum.inr ("known" : Str), .ref D)], rfl, by show 4 ≤ 15; decide, ?_⟩
        rw [mp_disp]
        have npD : p ≠ D := ne_of_none hp1 nD
        have hdn : ∀ d ∈ ds, H d = none := fun d hd => kk1.free (by
          simp
          intro z
          obtain ⟨l1, x1, hr1⟩ := r1.ne
          have := (hds d hd).1
          rw [z, hr1] at this
          cases this) (hds d hd).1
        have npd : ∀ d ∈ ds, d ≠ p := fun d hd z => by
          have := (hds d hd).1
          rw [z, hp1] at this
          cases this
        refine q p D ds ⟨late, lost, 0, List.replicate n [], none⟩ n _ rfl rfl (by omega) (by omega) la0 la9 lo0 lo6 ⟨upd_same, by rw [upd_ne npD.symm]; exact hD, nd, ?_, fun k hk => ?_, by show (List.replicate n _).length ≤ 6; rw [List.length_replicate]; omega⟩ ?_ ?_ npH nDH hdn
        · have all : ∀ (ds : List Addr) (n : Nat), ds.length = n → (∀ d ∈ ds, d ≠ p ∧ H2 d = some (.dK [])) → Paired (fun d k => upd H2 p (.dK (mPairs D ⟨late, lost, 0, [], none⟩)) d = some (.dK (encK k))) ds (List.replicate n []) := by
            intro ds
            induction ds with
            | nil => intro n e _; subst e; exact .nil
            | cons d ds ih =>
              intro n e hd
              subst e
              rw [List.length_cons, List.replicate_succ]
              refine .cons ?_ (ih _ rfl fun x hx => hd x (List.mem_cons_of_mem _ hx))
              rw [upd_ne (hd d List.mem_cons_self).1]
              exact (hd d List.mem_cons_self).2
          exact all ds n hl fun d hd => ⟨npd d hd, (hds d hd).2⟩
        · have hk' : k ∈ List.replicate n ([] : Kn) := hk
          rw [List.eq_of_mem_replicate hk']
          exact ⟨by simp, by simp, by simp⟩
        · obtain ⟨i, m, x, e, hi, hs⟩ := r1.same s2
          exact ⟨i, m, x, by rw [upd_ne npr.symm]; exact e, hi, sq_updD hs (s2 _ _ hp1)⟩
        · exact (kk1.trans (Keeps.of_same s2)).updNew npH
end
end IC
namespace IC
open PySem L2
/-! ### rows that wait, and what is told of them -/
structure Wt where
  due : Int
  b : Nat
  m : Int
  z : Str
def Wt.vs (e : Wt) : List V := [.int e.due, .int e.b, .int e.m, .str e.z]
def Wt.key (e : Wt) : Nat × Int := (e.b, e.m)
def Deed.key : Deed → Option (Nat × Int)
  | .tk _ => none
  | .cm _ b m _ => some (b, m)
/-- a deed that can be, by itself -/
def DOk (n : Nat) (late : Int) : Deed → Prop
  | .tk t => 1 ≤ t
  | .cm t b m z => 1 ≤ m ∧ m ≤ t ∧ t - m ≤ late ∧ b < n ∧ Wd z
structure WOk (n : Nat) (late : Int) (i : Nat) (e : Wt) : Prop where
  du : (i : Int) < e.due
  md : e.m ≤ e.due
  ml : e.due ≤ e.m + late
  m1 : 1 ≤ e.m
  bn : e.b < n
  wd : Wd e.z
structure DInv (n : Nat) (late : Int) (i j : Nat) (wl : List Wt) (fl : List Deed) : Prop where
  w : ∀ e ∈ wl, WOk n late i e ∧ (e.m ≤ i ∨ (e.m = (i : Int) + 1 ∧ e.b < j))
  f : ∀ d ∈ fl, DOk n late d ∧ d.time ≤ i
  fk : ∀ k ∈ fl.filterMap Deed.key, k.2 ≤ (i : Int)
  srt : fl.Pairwise (fun a b => a.time ≤ b.time)
  nd : (wl.map Wt.key ++ fl.filterMap Deed.key).Nodup
  len : wl.length + fl.length ≤ 7 * i + j
theorem DInv.start (n : Nat) (late : Int) : DInv n late 0 0 [] [] := ⟨by simp, by simp, by simp, by simp, by simp, by simp⟩
theorem DInv.skip {n : Nat} {late : Int} {i j : Nat} {wl : List Wt} {fl : List Deed} (h : DInv n late i j wl fl) : DInv n late i (j + 1) wl fl :=
  ⟨fun e he => ⟨(h.w e he).1, (h.w e he).2.imp id fun z => ⟨z.1, by omega⟩⟩, h.f, h.fk, h.srt, h.nd, by have := h.len; omega⟩
theorem ins_perm {α : Type} (l : List α) (k : Nat) (x : α) : (l.take k ++ [x] ++ l.drop k).Perm (x :: l) := by
  have h : (l.take k ++ [x] ++ l.drop k).Perm ([x] ++ l.take k ++ l.drop k) := List.Perm.append_right _ List.perm_append_comm
  refine h.trans ?_
  rw [List.append_assoc, List.take_append_drop]
  exact List.Perm.refl _
theorem DInv.ins {n : Nat} {late : Int} {i j : Nat} {wl : List Wt} {fl : List Deed} (h : DInv n late i j wl fl) (hj : j < n) {v : Int} (v0 : 0 ≤ v) (v1 : v ≤ late) {z : Str} (hz : Wd z) (k : Nat) :
    DInv n late i (j + 1) (wl.take k ++ [⟨(i : Int) + 1 + v, j, (i : Int) + 1, z⟩] ++ wl.drop k) fl := by
  have p := ins_perm wl k (⟨(i : Int) + 1 + v, j, (i : Int) + 1, z⟩ : Wt)
  refine ⟨fun e he => ?_, h.f, h.fk, h.srt, ?_, ?_⟩
  · rcases List.mem_cons.mp (p.mem_iff.mp he) with rfl | he
    · exact ⟨⟨by show (i : Int) < (i : Int) + 1 + v; omega, by show (i : Int) + 1 ≤ (i : Int) + 1 + v; omega, by show (i : Int) + 1 + v ≤ (i : Int) + 1 + late; omega, by show (1 : Int) ≤ (i : Int) + 1; omega, hj, hz⟩, .inr ⟨rfl, by show j < j + 1; omega⟩⟩
    · exact ⟨(h.w e he).1, (h.w e he).2.imp id fun z => ⟨z.1, by omega⟩⟩
  · have p2 := (p.map Wt.key).append_right (fl.filterMap Deed.key)
    refine p2.nodup_iff.mpr ?_
    rw [List.map_cons, List.cons_append, List.nodup_cons]
    refine ⟨fun hm => ?_, h.nd⟩
    rcases List.mem_append.mp hm with hm | hm
    · obtain ⟨e, he, e2⟩ := List.mem_map.mp hm
      have e2 : (e.b, e.m) = (j, (i : Int) + 1) := e2
      injection e2 with e3 e4
      have := (h.w e he).2
      omega
    · have := h.fk _ hm
      have : (i : Int) + 1 ≤ i := this
      omega
  · have := h.len
    have := p.length_eq
    rw [this, List.length_cons]
    omega
def dueOf (t : Int) (wl : List Wt) : List Wt := wl.filter fun e => decide (e.due ≤ t)
def restOf (t : Int) (wl : List Wt) : List Wt := wl.filter fun e => decide (t < e.due)
def comesOf (t : Int) (wl : List Wt) : List Deed := (dueOf t wl).map fun e => .cm t e.b e.m e.z
theorem split_perm (t : Int) (wl : List Wt) : (restOf t wl ++ dueOf t wl).Perm wl := by
  have h := List.filter_append_perm (fun e : Wt => decide (t < e.due)) wl
  have e : (fun e : Wt => !decide (t < e.due)) = fun e : Wt => decide (e.due ≤ t) := by
    funext e
    by_cases hh : t < e.due
    · rw [decide_eq_true hh, decide_eq_false (by omega)]; rfl
    · rw [decide_eq_false hh, decide_eq_true (by omega)]; rfl
  rw [e] at h
  exact h
theorem comes_keys (t : Int) (wl : List Wt) : (comesOf t wl).filterMap Deed.key = (dueOf t wl).map Wt.key := by
  unfold comesOf
  rw [List.filterMap_map]
  generalize dueOf t wl = l
  induction l with
  | nil => rfl
  | cons x l ih =>
    rw [List.map_cons, ← ih]
    rfl
theorem DInv.turn {n : Nat} {late : Int} {i : Nat} {wl : List Wt} {fl : List Deed} (h : DInv n late i n wl fl) (hn : n ≤ 6) : DInv n late (i + 1) 0 (restOf ((i : Int) + 1) wl) (fl ++ comesOf ((i : Int) + 1) wl) := by
  have p := split_perm ((i : Int) + 1) wl
  have hm : ∀ e ∈ wl, e.m ≤ (i : Int) + 1 := fun e he => by have := (h.w e he).2; omega
  refine ⟨fun e he => ?_, fun d hd => ?_, fun k hk => ?_, ?_, ?_, ?_⟩
  · obtain ⟨h1, h2⟩ := List.mem_filter.mp he
    have h2 : (i : Int) + 1 < e.due := by simpa using h2
    have := (h.w e h1).1
    exact ⟨⟨by push_cast; omega, this.md, this.ml, this.m1, this.bn, this.wd⟩, .inl (by have := hm e h1; push_cast; omega)⟩
  · rcases List.mem_append.mp hd with hd | hd
    · have := h.f d hd
      exact ⟨this.1, by push_cast; omega⟩
    · unfold comesOf at hd
      obtain ⟨e, he, rfl⟩ := List.mem_map.mp hd
      obtain ⟨h1, h2⟩ := List.mem_filter.mp he
      have h2 : e.due ≤ (i : Int) + 1 := by simpa using h2
      have h3 := (h.w e h1).1
      have h4 := h3.du
      have h5 := h3.md
      have h6 := h3.ml
      exact ⟨⟨h3.m1, by omega, by omega, h3.bn, h3.wd⟩, by show (i : Int) + 1 ≤ ((i + 1 : Nat) : Int); push_cast; omega⟩
  · rw [List.filterMap_append, comes_keys] at hk
    rcases List.mem_append.mp hk with hk | hk
    · have := h.fk k hk
      push_cast
      omega
    · obtain ⟨e, he, rfl⟩ := List.mem_map.mp hk
      have := hm e (List.mem_filter.mp he).1
      show e.m ≤ _
      push_cast
      omega
  · refine List.pairwise_append.mpr ⟨h.srt, ?_, fun a ha b hb => ?_⟩
    · unfold comesOf
      rw [List.pairwise_map]
      exact List.pairwise_of_forall fun _ _ => Int.le_refl _
    · unfold comesOf at hb
      obtain ⟨e, he, rfl⟩ := List.mem_map.mp hb
      have := (h.f a ha).2
      show a.time ≤ (i : Int) + 1
      omega
  · rw [List.filterMap_append, comes_keys]
    have p2 : (restOf ((i : Int) + 1) wl).map Wt.key ++ (fl.filterMap Deed.key ++ (dueOf ((i : Int) + 1) wl).map Wt.key) |>.Perm (wl.map Wt.key ++ fl.filterMap Deed.key) := by
      refine (List.Perm.append_left _ List.perm_append_comm).trans ?_
      rw [← List.append_assoc, ← List.map_append]
      exact (p.map Wt.key).append_right _
    exact p2.nodup_iff.mpr h.nd
  · have h1 := h.len
    have h2 := p.length_eq
    rw [List.length_append] at h2
    rw [List.length_append]
    unfold comesOf
    rw [List.length_map]
    omega
theorem DInv.tick {n : Nat} {late : Int} {i : Nat} {wl : List Wt} {fl : List Deed} (h : DInv n late i n wl fl) (hn : n ≤ 6) : DInv n late (i + 1) 0 (restOf ((i : Int) + 1) wl) (fl ++ comesOf ((i : Int) + 1) wl ++ [.tk ((i : Int) + 1)]) := by
  have t := h.turn hn
  have p := split_perm ((i : Int) + 1) wl
  refine ⟨t.w, fun d hd => ?_, ?_, ?_, ?_, ?_⟩
  · rcases List.mem_append.mp hd with hd | hd
    · exact t.f d hd
    · simp at hd
      subst hd
      exact ⟨by show (1 : Int) ≤ (i : Int) + 1; omega, by show (i : Int) + 1 ≤ ((i + 1 : Nat) : Int); push_cast; omega⟩
  · rw [List.filterMap_append]
    intro k hk
    rcases List.mem_append.mp hk with hk | hk
    · exact t.fk k hk
    · simp [Deed.key] at hk
  · refine List.pairwise_append.mpr ⟨t.srt, by simp, fun a ha b hb => ?_⟩
    simp at hb
    subst hb
    have := (t.f a ha).2
    show a.time ≤ (i : Int) + 1
    push_cast at this
    omega
  · rw [List.filterMap_append]
    have e : [Deed.tk ((i : Int) + 1)].filterMap Deed.key = [] := rfl
    rw [e, List.append_nil]
    exact t.nd
  · have h1 := h.len
    have h2 := p.length_eq
    rw [List.length_append] at h2
    rw [List.length_append, List.length_append]
    unfold comesOf
    rw [List.length_map]
    simp only [List.length_cons, List.length_nil]
    omega
/-- what the law plays: deeds in the order of their times, each such that it can be, no row twice -/
structure DeedsOk (n : Nat) (late : Int) (most : Int) (fl : List Deed) : Prop where
  ok : ∀ d ∈ fl, DOk n late d ∧ d.time ≤ most
  srt : fl.Pairwise (fun a b => a.time ≤ b.time)
  nd : (fl.filterMap Deed.key).Nodup
  len : fl.length ≤ 1000
theorem DInv.done {n : Nat} {late : Int} {i : Nat} {wl : List Wt} {fl : List Deed} (h : DInv n late i 0 wl fl) {most : Int} (hi : (i : Int) ≤ most) (hm : i ≤ 100) : DeedsOk n late most fl :=
  ⟨fun d hd => ⟨(h.f d hd).1, by have := (h.f d hd).2; omega⟩, h.srt, (List.nodup_append.mp h.nd).2.1, by have := h.len; omega⟩
end IC
namespace IC
open PySem L2
section
variable {P : Program} {w : World} {K : PySem.W.Frag} {mg : Str → Option Value} {base : Heap} {dI C : Addr}
theorem TupS.of_keeps {H H' : Hp} {r : Addr} {xs : List V} (k : Keeps [r] H H') (h : H r = some (.lst xs)) : TupS H H' := fun a ys e => k a _ e (by simp; intro z; rw [z, h] at e; cases e)
/-- the state of _law_deeds between two steps -/
structure DSt (K : PySem.W.Frag) (H : Hp) (r a : Addr) (ns : List Int) (p S : Addr) (n : Nat) (late : Int) (i j : Nat) (H2 : Hp) (st : List Int) (wA : Addr) (ws : List V) (wl : List Wt) (xs : List V) (fl : List Deed) : Prop where
  k : Keeps [r] H H2
  row : RowAt K H2 r a ns
  hp : H2 p = some (.lst xs)
  hx : TupsAt H2 xs (fl.map Deed.vs)
  hS : H2 S = some (.lst (st.map V.int))
  stl : st.length = n
  hw : H2 wA = some (.lst ws)
  tw : TupsAt H2 ws (wl.map Wt.vs)
  nw : H wA = none
  wp : wA ≠ p
  wS : wA ≠ S
  inv : DInv n late i j wl fl
structure DFx (H : Hp) (r p S : Addr) : Prop where
  np : H p = none
  nS : H S = none
  pS : p ≠ S
  hr : H r ≠ none
section
variable {H : Hp} {r a : Addr} {ns : List Int} {p S : Addr} {n : Nat} {late : Int} {i j : Nat} {H2 H3 : Hp} {st : List Int} {wA : Addr} {ws : List V} {wl : List Wt} {xs : List V} {fl : List Deed}
theorem DFx.pr (x : DFx H r p S) : p ≠ r := fun z => x.hr (z ▸ x.np)
theorem DFx.Sr (x : DFx H r p S) : S ≠ r := fun z => x.hr (z ▸ x.nS)
theorem DSt.wr (d : DSt K H r a ns p S n late i j H2 st wA ws wl xs fl) (x : DFx H r p S) : wA ≠ r := fun z => x.hr (z ▸ d.nw)
theorem DSt.taken (d : DSt K H r a ns p S n late i j H2 st wA ws wl xs fl) (x : DFx H r p S) (row : RowAt K H3 r a ns) (k : Keeps [r] H2 H3) : DSt K H r a ns p S n late i j H3 st wA ws wl xs fl := by
  obtain ⟨l, y, e⟩ := d.row.ne
  have t := TupS.of_keeps k e
  exact ⟨d.k.trans k, row, k _ _ d.hp (by simpa using x.pr), d.hx.mono t, k _ _ d.hS (by simpa using x.Sr), d.stl, k _ _ d.hw (by simpa using d.wr x), d.tw.mono t, d.nw, d.wp, d.wS, d.inv⟩
theorem DSt.same (d : DSt K H r a ns p S n late i j H2 st wA ws wl xs fl) (s : Same H2 H3) : DSt K H r a ns p S n late i j H3 st wA ws wl xs fl :=
  ⟨d.k.trans (.of_same s), d.row.same s, s _ _ d.hp, d.hx.mono (.of_same s), s _ _ d.hS, d.stl, s _ _ d.hw, d.tw.mono (.of_same s), d.nw, d.wp, d.wS, d.inv⟩
theorem DSt.skip (d : DSt K H r a ns p S n late i j H2 st wA ws wl xs fl) : DSt K H r a ns p S n late i (j + 1) H2 st wA ws wl xs fl := { d with inv := d.inv.skip }
/-- the row's list stays where an object that is younger than it is written -/
theorem RowAt.put {H H0 : Hp} {r a b : Addr} {ns : List Int} {o : HO} (h : RowAt K H r a ns) (h0 : RowAt K H0 r a ns) (nb : H0 b = none) (nr : b ≠ r) : RowAt K (L2.upd H b o) r a ns := by
  obtain ⟨i, m, x, e, hi, hs⟩ := h
  obtain ⟨_, _, _, _, _, hs0⟩ := h0
  refine ⟨i, m, x, by rw [upd_ne nr.symm]; exact e, hi, ?_⟩
  rcases hs0 with (h' | ⟨u, h'⟩) | h'
  · exact sq_keeps hs ((Keeps.refl [b] H).upd (by simp)) (by simp; intro z; rw [z, nb] at h'; cases h')
  · exact sq_keeps hs ((Keeps.refl [b] H).upd (by simp)) (by simp; intro z; rw [z, nb] at h'; cases h')
  · exact .inr h'
theorem Wt.okVs {e : Wt} (h : Wd e.z) : ∀ v ∈ e.vs, okV v = true := by
  intro v hv
  unfold Wt.vs at hv
  simp only [List.mem_cons, List.not_mem_nil, or_false] at hv
  rcases hv with rfl | rfl | rfl | rfl
  · rfl
  · rfl
  · rfl
  · rcases h with e | e <;> rw [e] <;> decide +kernel
theorem at_pair {x : Int} : ∃ z, Wd z ∧ atI [V.str "out", V.str "in"] (x % 2) = some (.str z) := by
  have h : x % 2 = 0 ∨ x % 2 = 1 := by omega
  rcases h with h | h
  · exact ⟨"out", .inr rfl, by rw [h]; rfl⟩
  · exact ⟨"in", .inl rfl, by rw [h]; rfl⟩
end
def sp_deeds (K : PySem.W.Frag) : Sp := fun vs H Q _ => ∃ (r a : Addr) (ns : List Int) (q L : Addr) (ds : List Addr) (m : Ms) (most : Int), vs = [.ref r, .ref q, .int most] ∧ RowAt K H r a ns ∧ MAt H q L ds m ∧ L ≠ r ∧ 0 ≤ m.late ∧ m.late ≤ 9 ∧ 1 ≤ most ∧ most ≤ 40 ∧
  ∀ (p : Addr) (xs : List V) (fl : List Deed) (H' : Hp), DeedsOk m.kns.length m.late most fl → H p = none → H' p = some (.lst xs) → TupsAt H' xs (fl.map Deed.vs) → RowAt K H' r a ns → Keeps [r] H H' → Q (.ref p) H'
theorem sc__law_deeds : FnScope ["_law_row", "_law_m", "_law_most", "_law_found", "_law_state", "_law_badge", "_law_often", "_law_waiting", "_law_time", "_law_word", "_law_at", "_law_due_here", "_law_one"] ["_law_row", "_law_m", "_law_most"] (defScope s__law_deeds) := ⟨rfl, rfl, rfl, by decide +kernel, rfl, by decide +kernel, by decide +kernel⟩
theorem ok_deeds {f : Addr} {fd : FuncData} (F : Fun K "_law_deeds" "_law_deeds" s__law_deeds f fd) (G : Glb K w mg dI) (c__law_taken : C8.Cal P w K mg base 1 "_law_taken" (sp_taken K) []) : FnOk P w K mg base CX0 2 f fd ["_law_row", "_law_m", "_law_most"] (sp_deeds K) := by
  refine F.ok sc__law_deeds (fun vs H Q E h => ?_) (fun cdv A outer s H vs Q E hr h => ?_)
  · obtain ⟨r, a, ns, q, L, ds, m, most, rfl, _⟩ := h
    rfl
  · obtain ⟨r, a, ns, q0, L, ds, m, most, rfl, hrow, ma, nLr, la0, la9, m1, m40, q⟩ := h
    have hu := hu_of hr
    refine ⟨_, (pss_cons (ps_set (i := 3) sc__law_deeds.nd rfl (Or.inl rfl) (pe_lst pa_nil))
      (pss_cons (ps_setLc (i := 4) (own := [("_law_badge", 5)]) (g := gName 5) (tt := tYes) rfl sc__law_deeds.nd rfl rfl (sw_true rfl rfl rfl (by decide +kernel)) (pi_list (pe_dget hu (pv 1) pe_str (fun _ _ => rfl))) (blkOk_by (own := [("_law_badge", 5)]) (N := ["_law_row", "_law_m", "_law_most", "_law_found", "_law_state", "_law_badge", "_law_often", "_law_waiting", "_law_time", "_law_word", "_law_at", "_law_due_here", "_law_one"]) (sc := defScope s__law_deeds) (by decide +kernel)) (fun _ _ _ _ _ => (pg_name (i := 5) sc__law_deeds.nd rfl (Or.inl rfl))) (fun _ _ _ _ _ => pts_nil) (fun _ _ _ _ _ => pe_int))
      (pss_cons (ps_set (i := 6) sc__law_deeds.nd rfl (Or.inl rfl) (pe_op op_add pe_int (C8.pe_c c__law_taken hr (by decide) rfl (pa_cons (pv 0) (pa_cons pe_int pa_nil)))))
      (pss_cons (ps_set (i := 7) sc__law_deeds.nd rfl (Or.inl rfl) (pe_lst pa_nil))
      (pss_cons (ps_for PassesOwn.never rfl (pi_range2 rfl G.range (pa_cons pe_int (pa_cons (pe_op op_add pe_int (C8.pe_c c__law_taken hr (by decide) rfl (pa_cons (pv 0) (pa_cons (pv 2) pa_nil)))) pa_nil))) (pg_name (i := 8) sc__law_deeds.nd rfl (Or.inr rfl))
        (pss_cons (ps_for PassesOwn.never rfl (pi_range1 rfl G.range (pa_cons (pe_callB call_len_seq (by rfl) G.len (by decide +kernel) (pa_cons (pv 4) pa_nil)) pa_nil)) (pg_name (i := 5) sc__law_deeds.nd rfl (Or.inl rfl))
            (pss_one (ps_if (pt_cmpR op_eq (C8.pe_c c__law_taken hr (by decide) rfl (pa_cons (pv 0) (pa_cons (pv 6) pa_nil))) pe_int (nomark _))
                (pss_cons (ps_asg (pe_op op_sub pe_int (pe_ix ix_list (pv 4) (pv 5) (fun _ _ => rfl))) (pg_sub (pv 4) (pv 5) set_list))
                  (C8.pss_cut (ps_set (i := 9) sc__law_deeds.nd rfl (Or.inl rfl) (pe_ix ix_list (pe_lst (pa_cons pe_str (pa_cons pe_str pa_nil))) (pe_op op_mod (pe_op op_add (pe_ix ix_list (pv 4) (pv 5) (fun _ _ => rfl)) (pe_callTy call_int1 (by rfl) G.int (by decide +kernel) (pa_cons (pe_cmpR op_eq (C8.pe_c c__law_taken hr (by decide) rfl (pa_cons (pv 0) (pa_cons pe_int pa_nil))) pe_int (nomark _)) pa_nil))) pe_int) (fun _ _ => rfl)))
                  (pss_cons (ps_set (i := 10) sc__law_deeds.nd rfl (Or.inl rfl) (C8.pe_c c__law_taken hr (by decide) rfl (pa_cons (pv 0) (pa_cons (pe_op op_add (pe_callB call_len_seq (by rfl) G.len (by decide +kernel) (pa_cons (pv 7) pa_nil)) pe_int) pa_nil))))
                  (pss_one (ps_if (pt_cmpR op_gt (C8.pe_c c__law_taken hr (by decide) rfl (pa_cons (pv 0) (pa_cons pe_int pa_nil))) pe_int (nomark _))
                    (pss_one (ps_expr (pe_bm PySem.F.plainAttrs_list PySem.F.slot_list_insert PySem.F.type_list_insert mt_insert (pv 7) (pa_cons (pv 10) (pa_cons (pe_tup (pa_cons (pe_op op_add (pv 8) (C8.pe_c c__law_taken hr (by decide) rfl (pa_cons (pv 0) (pa_cons (pe_op op_add (pe_dget hu (pv 1) pe_str (fun _ _ => rfl)) pe_int) pa_nil)))) (pa_cons (pv 5) (pa_cons (pv 8) (pa_cons (pv 9) pa_nil))))) pa_nil)))))
                    pss_nil)))))
                pss_nil)))
          (pss_cons (ps_setLc (i := 11) (own := [("_law_one", 12)]) (g := gName 12) rfl sc__law_deeds.nd rfl rfl (sw_true rfl rfl rfl (by decide +kernel)) (pi_list (pv 7)) (blkOk_by (own := [("_law_one", 12)]) (N := ["_law_row", "_law_m", "_law_most", "_law_found", "_law_state", "_law_badge", "_law_often", "_law_waiting", "_law_time", "_law_word", "_law_at", "_law_due_here", "_law_one"]) (sc := defScope s__law_deeds) (by decide +kernel)) (fun _ _ _ _ _ => (pg_name (i := 12) sc__law_deeds.nd rfl (Or.inl rfl))) (fun _ _ _ _ _ => (pts_one (pt_cmpR op_le (pe_ix (ix_tupK (K := K)) (pv 12) pe_int (fun _ _ => rfl)) (pv 8) (nomark _)))) (fun _ _ _ _ _ => (pv 12)))
          (pss_cons (ps_setLc (i := 7) (own := [("_law_one", 12)]) (g := gName 12) rfl sc__law_deeds.nd rfl rfl (sw_true rfl rfl rfl (by decide +kernel)) (pi_list (pv 7)) (blkOk_by (own := [("_law_one", 12)]) (N := ["_law_row", "_law_m", "_law_most", "_law_found", "_law_state", "_law_badge", "_law_often", "_law_waiting", "_law_time", "_law_word", "_law_at", "_law_due_here", "_law_one"]) (sc := defScope s__law_deeds) (by decide +kernel)) (fun _ _ _ _ _ => (pg_name (i := 12) sc__law_deeds.nd rfl (Or.inl rfl))) (fun _ _ _ _ _ => (pts_one (pt_cmpR op_gt (pe_ix (ix_tupK (K := K)) (pv 12) pe_int (fun _ _ => rfl)) (pv 8) (nomark _)))) (fun _ _ _ _ _ => (pv 12)))
          (pss_cons (ps_expr (pe_bm PySem.F.plainAttrs_list PySem.F.slot_list_extend PySem.F.type_list_extend mt_extend (pv 3) (pa_cons (pe_lc (own := [("_law_one", 12)]) (g := gName 12) (tt := tYes) rfl sc__law_deeds.nd (pi_list (pv 11)) (blkOk_by (own := [("_law_one", 12)]) (N := ["_law_row", "_law_m", "_law_most", "_law_found", "_law_state", "_law_badge", "_law_often", "_law_waiting", "_law_time", "_law_word", "_law_at", "_law_due_here", "_law_one"]) (sc := defScope s__law_deeds) (by decide +kernel)) (fun _ _ _ _ _ => (pg_name (i := 12) sc__law_deeds.nd rfl (Or.inl rfl))) (fun _ _ _ _ _ => pts_nil) (fun _ _ _ _ _ => (pe_op (op_catK (K := K)) (pe_tup (pa_cons (pv 8) pa_nil)) (pe_slice (sl_tupK (K := K)) (pv 12) (po_some pe_int) po_none)))) pa_nil)))
          (pss_one (ps_if (PW.pt (pw_and (pt_cmpR (op_eqD hr.units) (pv 11) (pe_lst pa_nil) (nomark _)) (pw_and1 (pt_cmpR op_eq (C8.pe_c c__law_taken hr (by decide) rfl (pa_cons (pv 0) (pa_cons pe_int pa_nil))) pe_int (nomark _)))))
            (pss_one (ps_expr (pe_bm PySem.F.plainAttrs_list PySem.F.slot_list_append PySem.F.type_list_append mt_append (pv 3) (pa_cons (pe_tup (pa_cons (pv 8) pa_nil)) pa_nil))))
            pss_nil)))))))
      (pss_one (ps_ret (pv 3)))))))), ?_⟩
    obtain ⟨l0, x0, hr0⟩ := hrow.ne
    have nqr : q0 ≠ r := fun z => by have := ma.ob; rw [z, hr0] at this; cases this
    have ndr : ∀ d ∈ ds, d ∉ [r] := fun d hd z => by
      simp at z
      obtain ⟨kvs, e⟩ := ma.kn.mem hd
      rw [z, hr0] at e
      cases e
    have few := ma.kn.few
    -- found = []; state = [0 for ..]
    refine ⟨sz (by simp), fun p np => ?_⟩
    have m0 : MAt (upd H p (.lst [])) q0 L ds m := ma.same (Same.new np)
    refine ⟨_, rfl, q0, .ref L, rfl, m0.g_known, L, rfl, ⟨_, SqL.of m0.kn.lst⟩, fun S nS => ?_⟩
    have npS : p ≠ S := fun z => by rw [← z, upd_same] at nS; cases nS
    have nSH : H S = none := by rw [upd_ne npS.symm] at nS; exact nS
    have s1 : Same H (upd H p (.lst [])) := Same.new np
    refine lc_list (K := K) (a := L) (xs := ds.map V.ref) (fun i H2 => Same H H2 ∧ H2 p = some (.lst []) ∧ H2 S = some (.lst ((List.replicate i (0 : Int)).map V.int))) ⟨Same.mut s1 nSH, by rw [upd_ne npS, upd_same], upd_same⟩
      (fun i H2 _ ⟨sH, _⟩ => SqL.of (sH _ _ ma.kn.lst)) ?_ ?_
    · rintro i x H2 hi ⟨sH, hp, hS⟩
      have hil : i < ds.length := by have := (List.getElem?_eq_some_iff.mp hi).1; rwa [List.length_map] at this
      have hdl : ds.length = m.kns.length := ma.kn.len
      refine ⟨rfl, _, hS, szl (by rw [List.length_map, List.length_replicate]; omega), Same.mut sH nSH, by rw [upd_ne npS]; exact hp, ?_⟩
      rw [upd_same, List.replicate_succ', List.map_append]
      rfl
    · rintro H2 ⟨sH, hp, hS⟩
      rw [List.length_map, ma.kn.len] at hS
      generalize hn : m.kns.length = n at *
      have fx : DFx H r p S := ⟨np, nSH, npS, by rw [hr0]; simp⟩
      -- often, waiting
      refine ⟨_, rfl, r, a, ns, 3, rfl, hrow.same sH, by decide, by decide, fun v1 H3 h1 h1' r3 k3 => ⟨_, _, rfl, rfl, sz (by simp), fun wA nw => ?_⟩⟩
      have k03 : Keeps [r] H H3 := (Keeps.of_same sH).trans k3
      have nwr : wA ≠ r := fun z => by
        obtain ⟨l1, x1, e1⟩ := r3.ne
        rw [z, e1] at nw
        cases nw
      have hp3 := k3 _ _ hp (by simpa using fx.pr)
      have hS3 := k3 _ _ hS (by simpa using fx.Sr)
      have d0 : DSt K H r a ns p S n m.late 0 0 (upd H3 wA (.lst [])) (List.replicate n 0) wA [] [] [] [] :=
        ⟨k03.updNew (k03.free (by simpa using nwr) nw), r3.upd nw, by rw [upd_ne (ne_of_none hp3 nw)]; exact hp3, .nil, by rw [upd_ne (ne_of_none hS3 nw)]; exact hS3, List.length_replicate, upd_same, .nil, k03.free (by simpa using nwr) nw, (fun z => by rw [z, hp3] at nw; cases nw), (fun z => by rw [z, hS3] at nw; cases nw), DInv.start n m.late⟩
      generalize upd H3 wA (.lst []) = H4 at *
      -- for time in range(1, 2 + taken(most))
      refine ⟨_, rfl, _, rfl, r, a, ns, most, rfl, d0.row, by omega, by omega, fun T H5 hT hT' r5 k5 => ⟨_, _, rfl, rfl, 1, 2 + T, rfl, ⟨by omega, by omega, by omega, by omega⟩, ?_⟩⟩
      have d1 := d0.taken fx r5 k5
      refine for_range (lo := 1) (n := (2 + T - 1).toNat) (fun i σ H6 => ∃ (st : List Int) (wA : Addr) (ws : List V) (wl : List Wt) (xs : List V) (fl : List Deed) (o5 o8 o9 o10 o11 o12 : Option V),
        σ = [some (.ref r), some (.ref q0), some (.int most), some (.ref p), some (.ref S), o5, some (.int (2 + v1)), some (.ref wA), o8, o9, o10, o11, o12] ∧ DSt K H r a ns p S n m.late i 0 H6 st wA ws wl xs fl)
        ⟨_, _, _, _, _, _, none, none, none, none, none, none, rfl, d1⟩ ?_ ?_
      · rintro i σ H6 hi ⟨st, wA, ws, wl, xs, fl, o5, o8, o9, o10, o11, o12, rfl, d⟩
        have hT40 : i < 40 := by omega
        rw [show (1 : Int) + (i : Int) = (i : Int) + 1 by omega]
        -- for badge in range(len(state))
        refine ⟨_, rfl, S, _, rfl, .inl (SqL.of d.hS), _, rfl, by omega, by rw [List.length_map, d.stl]; omega, ?_⟩
        rw [List.length_map, d.stl, Int.toNat_natCast]
        refine for_range0 (n := n) (fun j σ H7 => ∃ (st : List Int) (ws : List V) (wl : List Wt) (o5 o9 o10 : Option V),
          σ = [some (.ref r), some (.ref q0), some (.int most), some (.ref p), some (.ref S), o5, some (.int (2 + v1)), some (.ref wA), some (.int ((i : Int) + 1)), o9, o10, o11, o12] ∧ DSt K H r a ns p S n m.late i j H7 st wA ws wl xs fl)
          ⟨_, _, _, o5, o9, o10, rfl, d⟩ ?_ ?_
        · rintro j σ H7 hj ⟨st, ws, wl, o5, o9, o10, rfl, d⟩
          have hwl : wl.length ≤ 1000 := by have := d.inv.len; omega
          have hws : ws.length = wl.length := by have := d.tw.length; rw [List.length_map] at this; exact this
          refine ⟨_, rfl, _, rfl, r, a, ns, 2 + v1, rfl, d.row, by omega, by omega, fun v H8 _ _ r8 k8 => ⟨rfl, _, rfl, ite2 (fun _ => ?_) (fun _ => ⟨_, _, _, _, _, _, rfl, (d.taken fx r8 k8).skip⟩)⟩⟩
          have d8 := d.taken fx r8 k8
          -- state[badge] = 1 - state[badge]
          have hjs : j < st.length := by rw [d.stl]; exact hj
          have hat : atI (st.map V.int) (j : Int) = some (.int st[j]) := atI_nat (by rw [List.getElem?_map, List.getElem?_eq_getElem hjs]; rfl)
          refine ⟨_, rfl, _, rfl, S, _, _, _, rfl, rfl, SqL.of d8.hS, hat, _, _, rfl, rfl, _, rfl, _, rfl, S, _, _, j, rfl, rfl, d8.hS, (by unfold ixN; rw [if_pos (by omega), if_pos (by rw [List.length_map]; omega)]; rfl), ?_⟩
          rw [← List.map_set]
          have d9 : DSt K H r a ns p S n m.late i j (upd H8 S (.lst ((st.set j (1 - st[j])).map V.int))) (st.set j (1 - st[j])) wA ws wl xs fl := by
            have tS : TupS H8 (upd H8 S (.lst ((st.set j (1 - st[j])).map V.int))) := TupS.upd (TupS.refl _) (by rw [d8.hS]; intro xs z; cases z)
            exact ⟨d8.k.updNew fx.nS, d8.row.put hrow fx.nS fx.Sr, by rw [upd_ne fx.pS]; exact d8.hp, d8.hx.mono tS, upd_same, by rw [List.length_set]; exact d8.stl, by rw [upd_ne d8.wS]; exact d8.hw, d8.tw.mono tS, d8.nw, d8.wp, d8.wS, d8.inv⟩
          generalize upd H8 S (.lst ((st.set j (1 - st[j])).map V.int)) = H9 at *
          generalize st.set j (1 - st[j]) = st' at *
          have hjs' : j < st'.length := by rw [d9.stl]; exact hj
          have hat' : atI (st'.map V.int) (j : Int) = some (.int st'[j]) := atI_nat (by rw [List.getElem?_map, List.getElem?_eq_getElem hjs']; rfl)
          -- the word
          refine ⟨fun σ Ha => ∃ (z : Str), Wd z ∧ σ = [some (.ref r), some (.ref q0), some (.int most), some (.ref p), some (.ref S), some (.int (j : Int)), some (.int (2 + v1)), some (.ref wA), some (.int ((i : Int) + 1)), some (.str z), o10, o11, o12] ∧ DSt K H r a ns p S n m.late i j Ha st' wA ws wl xs fl, ?_, ?_⟩
          · refine ⟨sz (by simp), fun pl npl => ?_⟩
            have dl := d9.same (Same.new (o := .lst [.str "out", .str "in"]) npl)
            have hpl : upd H9 pl (.lst [.str "out", .str "in"]) pl = some (.lst [.str "out", .str "in"]) := upd_same
            have npr : pl ≠ r := fun z => by
              obtain ⟨l1, x1, e1⟩ := d9.row.ne
              rw [z, e1] at npl
              cases npl
            refine ⟨_, rfl, _, rfl, S, _, _, _, rfl, rfl, SqL.of dl.hS, hat', _, rfl, r, a, ns, 30, rfl, dl.row, by decide, by decide, fun v Ha _ _ ra ka => ⟨rfl, .inr ⟨_, rfl, _, _, rfl, rfl, _, _, rfl, rfl, (by show (0 : Int) < 2; decide), ?_⟩⟩⟩
            generalize st'[j] + (if decide (V.int v = V.int 29) = true then (1 : Int) else 0) = y
            obtain ⟨z, wz, hz⟩ := at_pair (x := y)
            exact ⟨pl, _, _, .str z, rfl, rfl, SqL.of (ka _ _ hpl (by simpa using npr)), hz, z, wz, rfl, dl.taken fx ra ka⟩
          · rintro σ Ha ⟨z, wz, rfl, da⟩
            -- at = taken(len(waiting) + 1)
            refine ⟨_, rfl, _, rfl, wA, _, rfl, .inl (SqL.of da.hw), _, _, rfl, rfl, r, a, ns, _, rfl, da.row, by omega, by omega, fun v Hb v0 v1' rb kb => ?_⟩
            have db := da.taken fx rb kb
            refine ⟨_, rfl, r, a, ns, 6, rfl, db.row, by decide, by decide, fun v6 Hc _ _ rc kc => ⟨_, _, rfl, rfl, _, rfl, ite2 (fun _ => ?_) (fun _ => ⟨_, _, _, _, _, _, rfl, (db.taken fx rc kc).skip⟩)⟩⟩
            have dc := db.taken fx rc kc
            have mc := ma.keeps dc.k (by simpa using nqr) (by simpa using nLr) ndr
            refine ⟨_, rfl, .inl ⟨rfl, _, SqL.of dc.hw⟩, _, rfl, _, rfl, _, rfl, _, rfl, q0, _, rfl, mc.g_late, _, _, rfl, rfl, r, a, ns, m.late + 1, rfl, dc.row, by omega, by omega, fun vl Hd vl0 vl1 rd kd => ⟨_, _, rfl, rfl, _, rfl, _, rfl, _, rfl, sz (by simp), fun tA ntA => ?_⟩⟩
            have dd := (dc.taken fx rd kd).same (Same.new (o := .tup [.int ((i : Int) + 1 + vl), .int (j : Int), .int ((i : Int) + 1), .str z]) ntA)
            have htA : upd Hd tA (.tup [.int ((i : Int) + 1 + vl), .int (j : Int), .int ((i : Int) + 1), .str z]) tA = some (.tup [.int ((i : Int) + 1 + vl), .int (j : Int), .int ((i : Int) + 1), .str z]) := upd_same
            generalize upd Hd tA (.tup [.int ((i : Int) + 1 + vl), .int (j : Int), .int ((i : Int) + 1), .str z]) = He at *
            refine ⟨wA, ws, v, .ref tA, rfl, rfl, dd.hw, szl (by omega), v0, by omega, ?_⟩
            have tS : TupS He (upd He wA (.lst (ws.take v.toNat ++ [.ref tA] ++ ws.drop v.toNat))) := TupS.upd (TupS.refl _) (by rw [dd.hw]; intro xs z; cases z)
            have cut : ∀ {A : List V} {B : List (List V)} (kx : Nat), TupsAt He A B → TupsAt He (A.take kx) (B.take kx) ∧ TupsAt He (A.drop kx) (B.drop kx) := by
              intro A B kx h
              induction h generalizing kx with
              | nil => cases kx <;> exact ⟨.nil, .nil⟩
              | cons rr tt ih =>
                cases kx with
                | zero => exact ⟨.nil, .cons rr tt⟩
                | succ kx => exact ⟨.cons rr (ih kx).1, (ih kx).2⟩
            obtain ⟨c1, c2⟩ := cut v.toNat dd.tw
            refine ⟨st', ws.take v.toNat ++ [.ref tA] ++ ws.drop v.toNat, wl.take v.toNat ++ [⟨(i : Int) + 1 + vl, j, (i : Int) + 1, z⟩] ++ wl.drop v.toNat, _, _, _, rfl, ?_⟩
            refine ⟨dd.k.updNew dd.nw, dd.row.put hrow dd.nw (dd.wr fx), by rw [upd_ne dd.wp.symm]; exact dd.hp, dd.hx.mono tS, by rw [upd_ne dd.wS.symm]; exact dd.hS, dd.stl, upd_same, ?_, dd.nw, dd.wp, dd.wS, dd.inv.ins hj vl0 (by omega) wz v.toNat⟩
            rw [List.map_append, List.map_append, List.map_take, List.map_drop]
            exact Paired.append (Paired.append (c1.mono tS) (.cons ⟨tA, rfl, tS _ _ htA⟩ .nil)) (c2.mono tS)
        · rintro σ H7 ⟨st, ws, wl, o5, o9, o10, rfl, d⟩
          have hwl : wl.length ≤ 1000 := by have := d.inv.len; omega
          have hfl : fl.length ≤ 1000 := by have := d.inv.len; omega
          have hxl : xs.length = fl.length := by have := d.hx.length; rw [List.length_map] at this; exact this
          -- due = [one for one in waiting if one[0] <= time]
          refine ⟨_, rfl, wA, rfl, ⟨_, SqL.of d.hw⟩, fun D1 nD1 => lc_filt (K := K) (enc := Wt.vs) (l := wl) (f := fun e => decide (e.due ≤ (i : Int) + 1)) d.tw d.hw nD1 (by omega) (fun _ => rfl) (fun _ => rfl)
            (fun i' x tA H2 _ _ hta Q qq => ⟨_, rfl, tA, _, _, _, rfl, rfl, SqT.of hta, rfl, _, rfl, _, _, rfl, rfl, _, rfl, qq⟩) fun ys H8 s8 hD1 ty => ?_⟩
          have d8 := d.same s8
          -- waiting = [one for one in waiting if one[0] > time]
          refine ⟨_, rfl, wA, rfl, ⟨_, SqL.of d8.hw⟩, fun D2 nD2 => lc_filt (K := K) (enc := Wt.vs) (l := wl) (f := fun e => decide ((i : Int) + 1 < e.due)) d8.tw d8.hw nD2 (by omega) (fun _ => rfl) (fun _ => rfl)
            (fun i' x tA H2 _ _ hta Q qq => ⟨_, rfl, tA, _, _, _, rfl, rfl, SqT.of hta, rfl, _, rfl, _, _, rfl, rfl, _, rfl, qq⟩) fun zs H9 s9 hD2 tz => ?_⟩
          have d9 := d8.same s9
          have hD1' := s9 _ _ hD1
          have ty' := ty.mono (TupS.of_same s9)
          have nD2r : D2 ≠ r := fun z => by
            obtain ⟨l1, x1, e1⟩ := d8.row.ne
            rw [z, e1] at nD2
            cases nD2
          have nD2H : H D2 = none := d8.k.free (by simpa using nD2r) nD2
          have nD2p : D2 ≠ p := fun z => by rw [z, d8.hp] at nD2; cases nD2
          have nD2S : D2 ≠ S := fun z => by rw [z, d8.hS] at nD2; cases nD2
          have hyl : ys.length ≤ 1000 := by
            have h1 := ty.length
            have h2 := List.length_filter_le (fun e : Wt => decide (e.due ≤ (i : Int) + 1)) wl
            rw [List.length_map] at h1
            omega
          -- found.extend(..)
          refine ⟨_, rfl, .inl ⟨rfl, _, SqL.of d9.hp⟩, _, rfl, D1, rfl, ⟨_, SqL.of hD1'⟩, fun D3 nD3 => ?_⟩
          refine lc_list (K := K) (a := D1) (xs := ys) (fun k Ha => ∃ us, Same H9 Ha ∧ Ha D3 = some (.lst us) ∧ TupsAt Ha us ((((dueOf ((i : Int) + 1) wl).take k).map fun e => Deed.cm ((i : Int) + 1) e.b e.m e.z).map Deed.vs)) ⟨[], Same.new nD3, upd_same, .nil⟩
            (fun k Ha _ ⟨_, sH, _⟩ => SqL.of (sH _ _ hD1')) ?_ ?_
          · rintro k x Ha hk ⟨us, sA, hD3, hus⟩
            obtain ⟨dv, hdv, tA, rfl, hta⟩ := Paired.getL ty' hk
            rw [List.getElem?_map] at hdv
            obtain ⟨e, he, rfl⟩ := Option.map_eq_some_iff.mp hdv
            have hkl : k < ys.length := (List.getElem?_eq_some_iff.mp hk).1
            have hul : us.length ≤ 1000 := by
              have h1 := hus.length
              rw [List.length_map, List.length_map, List.length_take] at h1
              omega
            have etk : (dueOf ((i : Int) + 1) wl).take (k + 1) = (dueOf ((i : Int) + 1) wl).take k ++ [e] := by
              rw [List.take_succ]
              have he' : (dueOf ((i : Int) + 1) wl)[k]? = some e := he
              rw [he']
              rfl
            refine ⟨rfl, _, rfl, sz (by simp), fun t1 n1 => ⟨_, rfl, _, rfl, tA, e.vs, rfl, SqT.of ((Same.new n1) _ _ (sA _ _ hta)), fun z => absurd z.1 (by show ¬ HT.sIx 4 0 (some 1) = 0; decide), fun _ t2 n2 => ?_⟩⟩
            have s12 : Same Ha (upd (upd Ha t1 (.tup [.int ((i : Int) + 1)])) t2 (.tup (cutV e.vs (some 1) none))) := (Same.new n1).trans (Same.new n2)
            have ht1 : upd (upd Ha t1 (.tup [.int ((i : Int) + 1)])) t2 (.tup (cutV e.vs (some 1) none)) t1 = some (.tup [.int ((i : Int) + 1)]) := (Same.new n2) _ _ upd_same
            have ht2 : upd (upd Ha t1 (.tup [.int ((i : Int) + 1)])) t2 (.tup (cutV e.vs (some 1) none)) t2 = some (.tup [.int e.b, .int e.m, .str e.z]) := upd_same
            generalize upd (upd Ha t1 (.tup [.int ((i : Int) + 1)])) t2 (.tup (cutV e.vs (some 1) none)) = Hb at *
            refine ⟨t1, t2, _, _, rfl, rfl, SqT.of ht1, SqT.of ht2, sz (by simp), (fun z => by cases z), (fun _ z => by cases z), fun _ _ t3 n3 => ?_⟩
            have s3 : Same Ha (upd Hb t3 (.tup ([.int ((i : Int) + 1)] ++ [.int e.b, .int e.m, .str e.z]))) := s12.trans (Same.new n3)
            have ht3 : upd Hb t3 (.tup ([.int ((i : Int) + 1)] ++ [.int e.b, .int e.m, .str e.z])) t3 = some (.tup (Deed.cm ((i : Int) + 1) e.b e.m e.z).vs) := upd_same
            generalize upd Hb t3 (.tup ([.int ((i : Int) + 1)] ++ [.int e.b, .int e.m, .str e.z])) = Hc at *
            have tS : TupS Hc (upd Hc D3 (.lst (us ++ [.ref t3]))) := TupS.upd (TupS.refl _) (by rw [s3 _ _ hD3]; intro xs z; cases z)
            refine ⟨us, s3 _ _ hD3, szl (by omega), us ++ [.ref t3], Same.mut (sA.trans s3) nD3, upd_same, ?_⟩
            rw [etk, List.map_append, List.map_append]
            exact Paired.append ((hus.mono (TupS.of_same s3)).mono tS) (.cons ⟨t3, rfl, tS _ _ ht3⟩ .nil)
          · rintro Ha ⟨us, sA, hD3, hus⟩
            have elen : ys.length = (dueOf ((i : Int) + 1) wl).length := by
              have h1 := ty.length
              rw [List.length_map] at h1
              exact h1
            rw [elen, List.take_length] at hus
            have da := d9.same sA
            have hul : us.length ≤ 1000 := by
              have h1 := hus.length
              rw [List.length_map, List.length_map, ← elen] at h1
              omega
            refine ⟨p, D3, xs, us, rfl, rfl, da.hp, hD3, sz (by omega), ?_⟩
            have tS : TupS Ha (upd Ha p (.lst (xs ++ us))) := TupS.upd (TupS.refl _) (by rw [da.hp]; intro xs z; cases z)
            have hpD1 : p ≠ D1 := fun z => by rw [← z, d.hp] at nD1; cases nD1
            have hx1 : TupsAt (upd Ha p (.lst (xs ++ us))) (xs ++ us) ((fl ++ comesOf ((i : Int) + 1) wl).map Deed.vs) := by
              rw [List.map_append]
              exact Paired.append (da.hx.mono tS) (hus.mono tS)
            have kb : Keeps [r] H (upd Ha p (.lst (xs ++ us))) := da.k.updNew np
            have rb : RowAt K (upd Ha p (.lst (xs ++ us))) r a ns := da.row.put hrow np fx.pr
            have hpb : upd Ha p (.lst (xs ++ us)) p = some (.lst (xs ++ us)) := upd_same
            have hSb : upd Ha p (.lst (xs ++ us)) S = some (.lst (st.map V.int)) := by rw [upd_ne npS.symm]; exact da.hS
            have hD2b : upd Ha p (.lst (xs ++ us)) D2 = some (.lst zs) := by rw [upd_ne nD2p]; exact sA _ _ hD2
            have hD1b : upd Ha p (.lst (xs ++ us)) D1 = some (.lst ys) := by rw [upd_ne hpD1.symm]; exact sA _ _ hD1'
            have tzb : TupsAt (upd Ha p (.lst (xs ++ us))) zs ((restOf ((i : Int) + 1) wl).map Wt.vs) := (tz.mono (TupS.of_same sA)).mono tS
            have tyb : TupsAt (upd Ha p (.lst (xs ++ us))) ys ((dueOf ((i : Int) + 1) wl).map Wt.vs) := (ty'.mono (TupS.of_same sA)).mono tS
            generalize upd Ha p (.lst (xs ++ us)) = Hb at *
            have db : DSt K H r a ns p S n m.late (i + 1) 0 Hb st D2 zs (restOf ((i : Int) + 1) wl) (xs ++ us) (fl ++ comesOf ((i : Int) + 1) wl) :=
              ⟨kb, rb, hpb, hx1, hSb, d.stl, hD2b, tzb, nD2H, nD2p, nD2S, d.inv.turn few⟩
            have okT : ∀ dv ∈ (dueOf ((i : Int) + 1) wl).map Wt.vs, ∀ v ∈ dv, okV v = true := by
              intro dv hdv
              obtain ⟨e, he, rfl⟩ := List.mem_map.mp hdv
              exact Wt.okVs (d.inv.w e (List.mem_filter.mp he).1).1.wd
            -- if due == [] and taken(3) == 2
            refine ⟨_, rfl, sz (by simp), fun e ne => ?_⟩
            have se : Same Hb (upd Hb e (.lst [])) := Same.new ne
            refine ⟨.list (((dueOf ((i : Int) + 1) wl).map Wt.vs).map tupD), .list [], .lst (SqL.of (se _ _ hD1b)) (dp_tups (tyb.mono (TupS.of_same se)) okT), dp_nil upd_same, shaped_tups okT, shaped_nil, _, rfl, ite2 (fun _ => ?_) (fun _ => iteF ⟨_, _, _, _, _, _, _, _, _, _, _, _, rfl, db.same se⟩)⟩
            have de := db.same se
            refine ⟨_, rfl, r, a, ns, 3, rfl, de.row, by decide, by decide, fun v3 Hf _ _ rf kf => ⟨rfl, _, rfl, ite2 (fun _ => ?_) (fun _ => ⟨_, _, _, _, _, _, _, _, _, _, _, _, rfl, de.taken fx rf kf⟩)⟩⟩
            have df := de.taken fx rf kf
            refine ⟨_, rfl, .inl ⟨rfl, _, SqL.of df.hp⟩, _, rfl, sz (by simp), fun tA ntA => ?_⟩
            have dg := df.same (Same.new (o := .tup [.int ((i : Int) + 1)]) ntA)
            have htA : upd Hf tA (.tup [.int ((i : Int) + 1)]) tA = some (.tup (Deed.tk ((i : Int) + 1)).vs) := upd_same
            generalize upd Hf tA (.tup [.int ((i : Int) + 1)]) = Hg at *
            refine ⟨p, xs ++ us, .ref tA, rfl, rfl, dg.hp, szl (by rw [List.length_append]; omega), ?_⟩
            have tG : TupS Hg (upd Hg p (.lst (xs ++ us ++ [.ref tA]))) := TupS.upd (TupS.refl _) (by rw [dg.hp]; intro xs z; cases z)
            refine ⟨st, D2, zs, restOf ((i : Int) + 1) wl, xs ++ us ++ [.ref tA], fl ++ comesOf ((i : Int) + 1) wl ++ [.tk ((i : Int) + 1)], _, _, _, _, _, _, rfl, dg.k.updNew np, dg.row.put hrow np fx.pr, upd_same, ?_, by rw [upd_ne npS.symm]; exact dg.hS, d.stl, by rw [upd_ne nD2p]; exact dg.hw, dg.tw.mono tG, nD2H, nD2p, nD2S, d.inv.tick few⟩
            rw [List.map_append]
            exact Paired.append (dg.hx.mono tG) (.cons ⟨tA, rfl, tG _ _ htA⟩ .nil)
      · rintro σ H6 ⟨st, wA, ws, wl, xs, fl, o5, o8, o9, o10, o11, o12, rfl, d⟩
        exact ⟨_, rfl, q p xs fl H6 (d.inv.done (by omega) (by omega)) np d.hp d.hx d.row d.k⟩
end
end IC
namespace IC
open PySem L2
/-- a part's value, whatever the heap has grown to -/
def GivesV (te : TE) (σ : St) (H : Hp) (v : V) : Prop := ∀ H2, Same H H2 → ∀ Q : VK, (∀ H3, Same H2 H3 → Q v H3) → te σ H2 Q
def GivesB (tt : TT) (σ : St) (H : Hp) (b : Bool) : Prop := ∀ H2, Same H H2 → ∀ Q : Bool → Hp → Prop, (∀ H3, Same H2 H3 → Q b H3) → tt σ H2 Q
theorem GivesB.yes {σ : St} {H : Hp} : GivesB tYes σ H true := fun H2 _ Q q => q H2 (Same.refl H2)
theorem GivesV.var {i : Nat} {σ : St} {H : Hp} {v : V} (h : σ[i]? = some (some v)) : GivesV (tVar i) σ H v := fun H2 _ Q q => ⟨v, h, q H2 (Same.refl H2)⟩
/-- [e for x in range(n) if t] -/
theorem lc_vals {n j : Nat} {tt : TT} {te : TE} {vs : List Nat} {σ : St} {H1 : Hp} {D : Addr} {Qd : Hp → Prop} (f : Nat → Bool) (v : Nat → V) (nD : H1 D = none) (hn : n ≤ 100000) (hw : ∀ x, wipe ((wipe σ vs).set j (some x)) vs = wipe σ vs)
    (ht : ∀ i, i < n → GivesB tt ((wipe σ vs).set j (some (.int (i : Int)))) H1 (f i)) (he : ∀ i, i < n → f i = true → GivesV te ((wipe σ vs).set j (some (.int (i : Int)))) H1 (v i))
    (k : ∀ H', Same H1 H' → H' D = some (.lst (((List.range n).filter f).map v)) → Qd H') :
    ∃ W : Nat → Nat → Hp → Prop, (∃ m, W 0 m (upd H1 D (.lst []))) ∧ ∀ i m H, W i m H →
      ((Itr 0 n).stop i H ∧ Qd H) ∨ ((Itr 0 n).go i H ∧ ∃ Nx : Hp → Prop, (∀ H', Nx H' → ∃ m', m' < m ∧ W (i + 1) m' H') ∧ ∀ x H', (Itr 0 n).yld i H x H' → gName j x (wipe σ vs) H' fun σ2 H2 => wipe σ2 vs = wipe σ vs ∧ tt σ2 H2 fun b H3 =>
        if b = true then te σ2 H3 fun y H4 => ∃ acc, H4 D = some (.lst acc) ∧ acc.length < sizeLine ∧ Nx (upd H4 D (.lst (acc ++ [y]))) else Nx H3) := by
  refine lc_range0 (n := n) (fun i H2 => Same H1 H2 ∧ H2 D = some (.lst (((List.range i).filter f).map v))) ⟨Same.new nD, upd_same⟩ ?_ (fun H2 ⟨h1, h2⟩ => k H2 h1 h2)
  rintro i H2 hi ⟨sH, hD⟩
  have hl : (((List.range i).filter f).map v).length ≤ i := by
    rw [List.length_map]
    have := List.length_filter_le f (List.range i)
    rw [List.length_range] at this
    exact this
  refine ⟨hw _, ht i hi H2 sH _ fun H3 s3 => ?_⟩
  refine ite2 (fun h => ?_) (fun h => ?_)
  · refine he i hi h H3 (sH.trans s3) _ fun H4 s4 => ⟨_, s4 _ _ (s3 _ _ hD), szl (by omega), Same.mut ((sH.trans s3).trans s4) nD, ?_⟩
    rw [upd_same, List.range_succ, List.filter_append, List.map_append, List.filter_cons, if_pos h]
    rfl
  · refine ⟨sH.trans s3, ?_⟩
    rw [List.range_succ, List.filter_append, List.map_append, List.filter_cons, if_neg h]
    simpa using s3 _ _ hD
/-- [e for x in range(n)] -/
theorem lc_all {n j : Nat} {te : TE} {vs : List Nat} {σ : St} {H1 : Hp} {D : Addr} {Qd : Hp → Prop} (v : Nat → V) (nD : H1 D = none) (hn : n ≤ 100000) (hw : ∀ x, wipe ((wipe σ vs).set j (some x)) vs = wipe σ vs)
    (he : ∀ i, i < n → GivesV te ((wipe σ vs).set j (some (.int (i : Int)))) H1 (v i)) (k : ∀ H', Same H1 H' → H' D = some (.lst ((List.range n).map v)) → Qd H') :
    ∃ W : Nat → Nat → Hp → Prop, (∃ m, W 0 m (upd H1 D (.lst []))) ∧ ∀ i m H, W i m H →
      ((Itr 0 n).stop i H ∧ Qd H) ∨ ((Itr 0 n).go i H ∧ ∃ Nx : Hp → Prop, (∀ H', Nx H' → ∃ m', m' < m ∧ W (i + 1) m' H') ∧ ∀ x H', (Itr 0 n).yld i H x H' → gName j x (wipe σ vs) H' fun σ2 H2 => wipe σ2 vs = wipe σ vs ∧ tYes σ2 H2 fun b H3 =>
        if b = true then te σ2 H3 fun y H4 => ∃ acc, H4 D = some (.lst acc) ∧ acc.length < sizeLine ∧ Nx (upd H4 D (.lst (acc ++ [y]))) else Nx H3) :=
  lc_vals (fun _ => true) v nD hn hw (fun _ _ => GivesB.yes) (fun i hi _ => he i hi) fun H' s h => k H' s (by rw [List.filter_eq_self.mpr (fun _ _ => rfl)] at h; exact h)
/-- [e for x in xs if t], xs a list -/
theorem lc_over {K : PySem.W.Frag} {α : Type} {enc : α → V} {l : List α} {a j : Nat} {tt : TT} {te : TE} {vs : List Nat} {σ : St} {H1 : Hp} {D : Addr} {Qd : Hp → Prop} (f : α → Bool) (v : α → V) (ha : SqL K H1 a (l.map enc)) (nD : H1 D = none) (hl : l.length ≤ 100000) (hw : ∀ x, wipe ((wipe σ vs).set j (some x)) vs = wipe σ vs)
    (ht : ∀ x ∈ l, GivesB tt ((wipe σ vs).set j (some (enc x))) H1 (f x)) (he : ∀ x ∈ l, f x = true → GivesV te ((wipe σ vs).set j (some (enc x))) H1 (v x))
    (k : ∀ H', Same H1 H' → H' D = some (.lst ((l.filter f).map v)) → Qd H') :
    ∃ W : Nat → Nat → Hp → Prop, (∃ m, W 0 m (upd H1 D (.lst []))) ∧ ∀ i m H, W i m H →
      ((Itl K a).stop i H ∧ Qd H) ∨ ((Itl K a).go i H ∧ ∃ Nx : Hp → Prop, (∀ H', Nx H' → ∃ m', m' < m ∧ W (i + 1) m' H') ∧ ∀ x H', (Itl K a).yld i H x H' → gName j x (wipe σ vs) H' fun σ2 H2 => wipe σ2 vs = wipe σ vs ∧ tt σ2 H2 fun b H3 =>
        if b = true then te σ2 H3 fun y H4 => ∃ acc, H4 D = some (.lst acc) ∧ acc.length < sizeLine ∧ Nx (upd H4 D (.lst (acc ++ [y]))) else Nx H3) := by
  refine lc_list (K := K) (a := a) (xs := l.map enc) (fun i H2 => Same H1 H2 ∧ H2 D = some (.lst (((l.take i).filter f).map v))) ⟨Same.new nD, upd_same⟩ (fun i H2 _ ⟨sH, _⟩ => sH.seq ha) ?_ ?_
  · rintro i y H2 hi ⟨sH, hD⟩
    rw [List.getElem?_map] at hi
    obtain ⟨x, hx, rfl⟩ := Option.map_eq_some_iff.mp hi
    have hm : x ∈ l := List.mem_of_getElem? hx
    have hil : i < l.length := (List.getElem?_eq_some_iff.mp hx).1
    have etk : l.take (i + 1) = l.take i ++ [x] := by rw [List.take_succ, hx]; rfl
    have hll : (((l.take i).filter f).map v).length ≤ i := by
      rw [List.length_map]
      have := List.length_filter_le f (l.take i)
      rw [List.length_take] at this
      omega
    refine ⟨hw _, ht x hm H2 sH _ fun H3 s3 => ite2 (fun h => ?_) (fun h => ?_)⟩
    · refine he x hm h H3 (sH.trans s3) _ fun H4 s4 => ⟨_, s4 _ _ (s3 _ _ hD), szl (by omega), Same.mut ((sH.trans s3).trans s4) nD, ?_⟩
      rw [upd_same, etk, List.filter_append, List.map_append, List.filter_cons, if_pos h]
      rfl
    · refine ⟨sH.trans s3, ?_⟩
      rw [etk, List.filter_append, List.map_append, List.filter_cons, if_neg h]
      simpa using s3 _ _ hD
  · rintro H2 ⟨sH, hD⟩
    rw [List.length_map, List.take_length] at hD
    exact k H2 sH hD
/-- .. xs a list of tuples -/
theorem lc_tups {K : PySem.W.Frag} {α : Type} {enc : α → List V} {l : List α} {xs : List V} {a j : Nat} {tt : TT} {te : TE} {vs : List Nat} {σ : St} {H1 : Hp} {D : Addr} {Qd : Hp → Prop} (f : α → Bool) (v : α → V) (hx : TupsAt H1 xs (l.map enc)) (ha : SqL K H1 a xs) (nD : H1 D = none) (hl : l.length ≤ 100000) (hw : ∀ x, wipe ((wipe σ vs).set j (some x)) vs = wipe σ vs)
    (ht : ∀ x tA, x ∈ l → H1 tA = some (.tup (enc x)) → GivesB tt ((wipe σ vs).set j (some (.ref tA))) H1 (f x)) (he : ∀ x tA, x ∈ l → H1 tA = some (.tup (enc x)) → f x = true → GivesV te ((wipe σ vs).set j (some (.ref tA))) H1 (v x))
    (k : ∀ H', Same H1 H' → H' D = some (.lst ((l.filter f).map v)) → Qd H') :
    ∃ W : Nat → Nat → Hp → Prop, (∃ m, W 0 m (upd H1 D (.lst []))) ∧ ∀ i m H, W i m H →
      ((Itl K a).stop i H ∧ Qd H) ∨ ((Itl K a).go i H ∧ ∃ Nx : Hp → Prop, (∀ H', Nx H' → ∃ m', m' < m ∧ W (i + 1) m' H') ∧ ∀ x H', (Itl K a).yld i H x H' → gName j x (wipe σ vs) H' fun σ2 H2 => wipe σ2 vs = wipe σ vs ∧ tt σ2 H2 fun b H3 =>
        if b = true then te σ2 H3 fun y H4 => ∃ acc, H4 D = some (.lst acc) ∧ acc.length < sizeLine ∧ Nx (upd H4 D (.lst (acc ++ [y]))) else Nx H3) := by
  have hxl : xs.length = l.length := by have := hx.length; rw [List.length_map] at this; exact this
  refine lc_list (K := K) (a := a) (xs := xs) (fun i H2 => Same H1 H2 ∧ H2 D = some (.lst (((l.take i).filter f).map v))) ⟨Same.new nD, upd_same⟩ (fun i H2 _ ⟨sH, _⟩ => sH.seq ha) ?_ ?_
  · rintro i y H2 hi ⟨sH, hD⟩
    obtain ⟨d, hd, tA, rfl, hta⟩ := Paired.getL hx hi
    rw [List.getElem?_map] at hd
    obtain ⟨x, hx', rfl⟩ := Option.map_eq_some_iff.mp hd
    have hm : x ∈ l := List.mem_of_getElem? hx'
    have hil : i < l.length := (List.getElem?_eq_some_iff.mp hx').1
    have etk : l.take (i + 1) = l.take i ++ [x] := by rw [List.take_succ, hx']; rfl
    have hll : (((l.take i).filter f).map v).length ≤ i := by
      rw [List.length_map]
      have := List.length_filter_le f (l.take i)
      rw [List.length_take] at this
      omega
    refine ⟨hw _, ht x tA hm hta H2 sH _ fun H3 s3 => ite2 (fun h => ?_) (fun h => ?_)⟩
    · refine he x tA hm hta h H3 (sH.trans s3) _ fun H4 s4 => ⟨_, s4 _ _ (s3 _ _ hD), szl (by omega), Same.mut ((sH.trans s3).trans s4) nD, ?_⟩
      rw [upd_same, etk, List.filter_append, List.map_append, List.filter_cons, if_pos h]
      rfl
    · refine ⟨sH.trans s3, ?_⟩
      rw [etk, List.filter_append, List.map_append, List.filter_cons, if_neg h]
      simpa using s3 _ _ hD
  · rintro H2 ⟨sH, hD⟩
    rw [hxl, List.take_length] at hD
    exact k H2 sH hD
/-- a part that makes a new tuple -/
def MakesT (te : TE) (σ : St) (H : Hp) (d : List V) : Prop := ∀ H2, Same H H2 → ∀ Q : VK, (∀ t H3, Same H2 H3 → H2 t = none → H3 t = some (.tup d) → Q (.ref t) H3) → te σ H2 Q
/-- [(..) for x in range(n)] -/
theorem lc_mk {n j : Nat} {te : TE} {vs : List Nat} {σ : St} {H1 : Hp} {D : Addr} {Qd : Hp → Prop} (d : Nat → List V) (nD : H1 D = none) (hn : n ≤ 100000) (hw : ∀ x, wipe ((wipe σ vs).set j (some x)) vs = wipe σ vs)
    (he : ∀ i, i < n → MakesT te ((wipe σ vs).set j (some (.int (i : Int)))) H1 (d i)) (k : ∀ ys H', Same H1 H' → H' D = some (.lst ys) → TupsAt H' ys ((List.range n).map d) → Qd H') :
    ∃ W : Nat → Nat → Hp → Prop, (∃ m, W 0 m (upd H1 D (.lst []))) ∧ ∀ i m H, W i m H →
      ((Itr 0 n).stop i H ∧ Qd H) ∨ ((Itr 0 n).go i H ∧ ∃ Nx : Hp → Prop, (∀ H', Nx H' → ∃ m', m' < m ∧ W (i + 1) m' H') ∧ ∀ x H', (Itr 0 n).yld i H x H' → gName j x (wipe σ vs) H' fun σ2 H2 => wipe σ2 vs = wipe σ vs ∧ tYes σ2 H2 fun b H3 =>
        if b = true then te σ2 H3 fun y H4 => ∃ acc, H4 D = some (.lst acc) ∧ acc.length < sizeLine ∧ Nx (upd H4 D (.lst (acc ++ [y]))) else Nx H3) := by
  refine lc_range0 (n := n) (fun i H2 => ∃ ys, Same H1 H2 ∧ H2 D = some (.lst ys) ∧ TupsAt H2 ys ((List.range i).map d)) ⟨[], Same.new nD, upd_same, .nil⟩ ?_ (fun H2 ⟨ys, h1, h2, h3⟩ => k ys H2 h1 h2 h3)
  rintro i H2 hi ⟨ys, sH, hD, hy⟩
  have hl : ys.length = i := by have := hy.length; rw [List.length_map, List.length_range] at this; exact this
  refine ⟨hw _, ?_⟩
  show te _ H2 _
  refine he i hi H2 sH _ fun t H3 s3 nt ht => ⟨ys, s3 _ _ hD, szl (by omega), ys ++ [.ref t], Same.mut (sH.trans s3) nD, upd_same, ?_⟩
  have tS : TupS H2 (upd H3 D (.lst (ys ++ [.ref t]))) := TupS.upd (TupS.of_same s3) (by rw [s3 _ _ hD]; intro xs z; cases z)
  have ntD : t ≠ D := fun z => by rw [z, hD] at nt; cases nt
  rw [List.range_succ, List.map_append]
  exact Paired.append (hy.mono tS) (.cons ⟨t, rfl, by rw [upd_ne ntD]; exact ht⟩ .nil)
/-- [(..) for x in xs] -/
theorem lc_mkL {K : PySem.W.Frag} {α : Type} {enc : α → V} {l : List α} {a j : Nat} {te : TE} {vs : List Nat} {σ : St} {H1 : Hp} {D : Addr} {Qd : Hp → Prop} (d : α → List V) (ha : SqL K H1 a (l.map enc)) (nD : H1 D = none) (hl : l.length ≤ 100000) (hw : ∀ x, wipe ((wipe σ vs).set j (some x)) vs = wipe σ vs)
    (he : ∀ x ∈ l, MakesT te ((wipe σ vs).set j (some (enc x))) H1 (d x)) (k : ∀ ys H', Same H1 H' → H' D = some (.lst ys) → TupsAt H' ys (l.map d) → Qd H') :
    ∃ W : Nat → Nat → Hp → Prop, (∃ m, W 0 m (upd H1 D (.lst []))) ∧ ∀ i m H, W i m H →
      ((Itl K a).stop i H ∧ Qd H) ∨ ((Itl K a).go i H ∧ ∃ Nx : Hp → Prop, (∀ H', Nx H' → ∃ m', m' < m ∧ W (i + 1) m' H') ∧ ∀ x H', (Itl K a).yld i H x H' → gName j x (wipe σ vs) H' fun σ2 H2 => wipe σ2 vs = wipe σ vs ∧ tYes σ2 H2 fun b H3 =>
        if b = true then te σ2 H3 fun y H4 => ∃ acc, H4 D = some (.lst acc) ∧ acc.length < sizeLine ∧ Nx (upd H4 D (.lst (acc ++ [y]))) else Nx H3) := by
  refine lc_list (K := K) (a := a) (xs := l.map enc) (fun i H2 => ∃ ys, Same H1 H2 ∧ H2 D = some (.lst ys) ∧ TupsAt H2 ys ((l.take i).map d)) ⟨[], Same.new nD, upd_same, .nil⟩ (fun i H2 _ ⟨_, sH, _⟩ => sH.seq ha) ?_ ?_
  · rintro i y H2 hi ⟨ys, sH, hD, hy⟩
    rw [List.getElem?_map] at hi
    obtain ⟨x, hx, rfl⟩ := Option.map_eq_some_iff.mp hi
    have hm : x ∈ l := List.mem_of_getElem? hx
    have hil : i < l.length := (List.getElem?_eq_some_iff.mp hx).1
    have etk : l.take (i + 1) = l.take i ++ [x] := by rw [List.take_succ, hx]; rfl
    have hll : ys.length ≤ i := by have := hy.length; rw [List.length_map, List.length_take] at this; omega
    refine ⟨hw _, ?_⟩
    show te _ H2 _
    refine he x hm H2 sH _ fun t H3 s3 nt ht => ⟨ys, s3 _ _ hD, szl (by omega), ys ++ [.ref t], Same.mut (sH.trans s3) nD, upd_same, ?_⟩
    have tS : TupS H2 (upd H3 D (.lst (ys ++ [.ref t]))) := TupS.upd (TupS.of_same s3) (by rw [s3 _ _ hD]; intro xs z; cases z)
    have ntD : t ≠ D := fun z => by rw [z, hD] at nt; cases nt
    rw [etk, List.map_append]
    exact Paired.append (hy.mono tS) (.cons ⟨t, rfl, by rw [upd_ne ntD]; exact ht⟩ .nil)
  · rintro H2 ⟨ys, sH, hD, hy⟩
    rw [List.length_map, List.take_length] at hy
    exact k ys H2 sH hD hy
end IC
namespace IC
open PySem L2
/-! ### prices -/
def NEV : Int := 1000000
def turnP (o : Option Str) (gone turns : Bool) : Int := match o with
  | some _ => if turns then 0 else NEV
  | none => if turns && gone then 1 else 0
def stepP (kn : Kn) (late now m a b : Int) : Int := match lookK kn m with
  | some z => if insOf z = b then turnP (some z) (isLost m late now) (!decide (a = b)) else NEV
  | none => turnP none (isLost m late now) (!decide (a = b))
/-- the least price up to a moment, for both states behind it -/
def aheadP (kn : Kn) (late now : Int) : Nat → Int × Int
  | 0 => (0, NEV)
  | m + 1 =>
    let p := aheadP kn late now m
    (min (p.1 + stepP kn late now (m + 1 : Nat) 0 0) (p.2 + stepP kn late now (m + 1 : Nat) 1 0), min (p.1 + stepP kn late now (m + 1 : Nat) 0 1) (p.2 + stepP kn late now (m + 1 : Nat) 1 1))
/-- the least price of the last k moments, for both states ahead of them -/
def behindP (kn : Kn) (late : Int) (T : Nat) : Nat → Int × Int
  | 0 => (0, 0)
  | k + 1 =>
    let p := behindP kn late T k
    (min (p.1 + stepP kn late T ((T : Int) - k) 0 0) (p.2 + stepP kn late T ((T : Int) - k) 0 1), min (p.1 + stepP kn late T ((T : Int) - k) 1 0) (p.2 + stepP kn late T ((T : Int) - k) 1 1))
def leastP (kn : Kn) (late : Int) (T : Nat) : Int := min (aheadP kn late T T).1 (aheadP kn late T T).2
def moreP (kn : Kn) (late : Int) (T m : Nat) : Int × Int := ((aheadP kn late T m).1 + (behindP kn late T (T - m)).1 - leastP kn late T, (aheadP kn late T m).2 + (behindP kn late T (T - m)).2 - leastP kn late T)
/-- the house's time as a natural number -/
structure TimeOk (h : Hs) (T : Nat) : Prop where
  now : h.now = T
  le : T ≤ 60
def soundH (h : Hs) : Bool := borne (allWants h.kns h.late h.now) h.lost
def spareH (h : Hs) : Int := h.lost - ((allWants h.kns h.late h.now).length : Int)
theorem nd_int (a b : Int) : (!decide (V.int a = V.int b)) = !decide (a = b) := by
  by_cases h : a = b
  · rw [decide_eq_true (by rw [h]), decide_eq_true h]
  · rw [decide_eq_false (fun z => h (V.int.inj z)), decide_eq_false h]
theorem dd_int (a b : Int) : decide (V.int a = V.int b) = decide (a = b) := by
  by_cases h : a = b
  · rw [decide_eq_true (by rw [h]), decide_eq_true h]
  · rw [decide_eq_false (fun z => h (V.int.inj z)), decide_eq_false h]
section
variable {P : Program} {w : World} {K : PySem.W.Frag} {mg : Str → Option Value} {base : Heap} {dI C : Addr}
/-! ### wants -/
theorem aw_few {H : Hp} {L : Addr} {ds : List Addr} {kns : List Kn} (k : KnAt H L ds kns) (late now : Int) : (allWants kns late now).length ≤ 400 := by
  have := awTo_len k.ok late now kns.length (Nat.le_refl _)
  have := k.few
  unfold allWants
  omega
/-! ### is_sound -/
/-! ### need_sound, need_badge, need_moment, need_ask: where nothing is refused -/
/-! ### turn_price, step_price -/
end
end IC
namespace IC
open PySem L2
/-- lists of two prices -/
abbrev PairsAt (H : Hp) (as : List Addr) (prs : List (Int × Int)) : Prop := Paired (fun a (pr : Int × Int) => H a = some (.lst [.int pr.1, .int pr.2])) as prs
theorem PairsAt.same {H H' : Hp} {as : List Addr} {prs : List (Int × Int)} (h : PairsAt H as prs) (s : Same H H') : PairsAt H' as prs := Paired.mapP h fun _ _ e => s _ _ e
theorem PairsAt.keep {H H' : Hp} {as : List Addr} {prs : List (Int × Int)} {p : Addr} (h : PairsAt H as prs) (k : Keeps [p] H H') (hp : ∀ x y : Int, H p ≠ some (.lst [.int x, .int y])) : PairsAt H' as prs :=
  Paired.mapP h fun a pr e => k _ _ e (by simp; intro z; rw [z] at e; exact hp _ _ e)
def sel (p : Int × Int) (o : Nat) : Int := if o = 0 then p.1 else p.2
theorem at_sel {p : Int × Int} {o : Nat} (h : o < 2) : atI [V.int p.1, V.int p.2] (o : Int) = some (.int (sel p o)) := by
  have : o = 0 ∨ o = 1 := by omega
  rcases this with rfl | rfl <;> rfl
theorem min_of {a b m : Int} (h1 : m ∈ [a, b]) (h2 : ∀ y ∈ [a, b], m ≤ y) : m = min a b := by
  have := h2 a (by simp)
  have := h2 b (by simp)
  simp at h1
  omega
theorem lst_ref_ne {as : List Addr} (h : as ≠ []) (x y : Int) : (as.map V.ref) ≠ [V.int x, V.int y] := by
  cases as with
  | nil => exact absurd rfl h
  | cons a as => intro z; rw [List.map_cons] at z; injection z with z; cases z
section
variable {P : Program} {w : World} {K : PySem.W.Frag} {mg : Str → Option Value} {base : Heap} {dI C : Addr}
/-! ### prices_ahead -/
/-! ### prices_behind -/
end
end IC
namespace IC
open PySem L2
/-! ### what is told of a house -/
def moreH (h : Hs) (T m b : Nat) : Int × Int := moreP (h.kns.getD b []) h.late T m
def openH (h : Hs) (T m b : Nat) : List Nat := (List.range 2).filter fun s => decide (sel (moreH h T m b) s ≤ spareH h)
def insideH (h : Hs) (T m b : Nat) : V := if (openH h T m b).length = 1 then .int ((openH h T m b).headD 0 : Nat) else .non
def gstep (s : Int × Int) (more : Int) : Int × Int := if more ≤ s.2 then (s.1 + 1, s.2 - more) else s
def sortI (l : List Int) : List Int := l.mergeSort fun a b => decide (a ≤ b)
theorem sortI_uniq {ys l : List Int} (p : ys.Perm l) (s : ys.Pairwise (· ≤ ·)) : ys = sortI l := by
  have h2 : (sortI l).Perm l := List.mergeSort_perm ..
  have h3 : (sortI l).Pairwise (· ≤ ·) := by
    have := List.pairwise_mergeSort (le := fun a b : Int => decide (a ≤ b)) (fun a b c h1 h2 => by simp at *; omega) (fun a b => by simp; omega) l
    exact this.imp fun h => by simpa using h
  exact (p.trans h2.symm).eq_of_pairwise (fun a b _ _ h1 h2 => by omega) s h3
def mostL (l : List Int) (left : Int) : Int := ((sortI l).foldl gstep (0, left)).1
def mostH (h : Hs) (T m st : Nat) : Int := mostL ((List.range h.kns.length).map fun b => sel (moreH h T m b) st) (spareH h)
section
variable {P : Program} {w : World} {K : PySem.W.Frag} {mg : Str → Option Value} {base : Heap} {dI C : Addr}
theorem at_last {as : List Addr} {i : Nat} {al : Addr} (hlen : as.length = i + 1) (hal : as[i]? = some al) : atI (as.map V.ref) (-1) = some (.ref al) := by
  have e : as.map V.ref = (as.take i).map V.ref ++ [.ref al] := by
    have : as = as.take i ++ [al] := by
      conv => lhs; rw [← List.take_length (l := as), hlen, List.take_succ, hal]
      rfl
    conv => lhs; rw [this]
    rw [List.map_append]
    rfl
  rw [e]
  exact atI_last _ _
/-! ### spare_rows, least_price, more_prices -/
/-! ### inside -/
/-! ### most_with, count -/
end
end IC
namespace IC
open PySem L2
/-! ### wants, moment by moment -/
def moms (T : Nat) : List Int := (List.range T).map fun i => ((i + 1 : Nat) : Int)
theorem moms_succ (T : Nat) : moms (T + 1) = moms T ++ [((T + 1 : Nat) : Int)] := by
  unfold moms
  rw [List.range_succ, List.map_append]
  rfl
theorem mem_moms {T : Nat} {m : Int} : m ∈ moms T ↔ 1 ≤ m ∧ m ≤ T := by
  unfold moms
  rw [List.mem_map]
  constructor
  · rintro ⟨i, hi, rfl⟩
    rw [List.mem_range] at hi
    push_cast
    omega
  · rintro ⟨h1, h2⟩
    exact ⟨(m - 1).toNat, by rw [List.mem_range]; omega, by push_cast; omega⟩
def wstepM (badge : Int) (kn : Kn) (late now : Int) (s : WSt) (m : Int) : WSt := if (lookK kn m).isSome = true then wstep badge kn late now s m else s
def wmTo (badge : Int) (kn : Kn) (late now : Int) (n : Nat) : WSt := (moms n).foldl (wstepM badge kn late now) ⟨[], 0, 0⟩
theorem wmTo_succ (badge : Int) (kn : Kn) (late now : Int) (n : Nat) : wmTo badge kn late now (n + 1) = wstepM badge kn late now (wmTo badge kn late now n) ((n + 1 : Nat) : Int) := by
  unfold wmTo
  rw [moms_succ, List.foldl_append]
  rfl
theorem look_iff {kn : Kn} {m : Int} : (lookK kn m).isSome = true ↔ m ∈ kn.map (·.1) := by
  constructor
  · intro h
    unfold lookK at h
    rw [Option.isSome_map] at h
    obtain ⟨p, hp⟩ := Option.isSome_iff_exists.mp h
    have h1 := List.find?_some hp
    have h2 := List.mem_of_find?_eq_some hp
    exact List.mem_map.mpr ⟨p, h2, by simpa using h1⟩
  · intro h
    obtain ⟨z, e, _⟩ := lookK_mem h
    rw [e]
    rfl
theorem moms_sorted (T : Nat) : (moms T).Pairwise (· < ·) := by
  unfold moms
  rw [List.pairwise_map]
  exact List.pairwise_lt_range.imp fun h => by push_cast; omega
theorem keysOf_eq {kn : Kn} {T : Nat} (nd : (kn.map (·.1)).Nodup) (rg : ∀ p ∈ kn, 1 ≤ p.1 ∧ p.1 ≤ (T : Int)) : keysOf kn = (moms T).filter fun m => (lookK kn m).isSome := by
  symm
  refine sort_uniq ?_ (((moms_sorted T).filter _).imp fun h => by omega)
  refine (List.perm_ext_iff_of_nodup (((moms_sorted T).filter _).imp fun h => by omega) nd).mpr fun a => ?_
  rw [List.mem_filter, mem_moms]
  constructor
  · rintro ⟨_, h⟩
    exact look_iff.mp h
  · intro h
    obtain ⟨p, hp, rfl⟩ := List.mem_map.mp h
    exact ⟨rg p hp, look_iff.mpr h⟩
theorem wantsOf_eq {kn : Kn} {T : Nat} (nd : (kn.map (·.1)).Nodup) (rg : ∀ p ∈ kn, 1 ≤ p.1 ∧ p.1 ≤ (T : Int)) (badge late now : Int) : wantsOf badge kn late now = (wmTo badge kn late now T).found := by
  unfold wantsOf wfold wmTo
  rw [keysOf_eq nd rg, List.foldl_filter]
  rfl
theorem ins01 (z : Str) : insOf z = 0 ∨ insOf z = 1 := by
  unfold insOf
  split
  · exact .inr rfl
  · exact .inl rfl
/-- the state behind a moment that is told, 0 at first -/
def stAt (kn : Kn) (a : Int) : Int := if a = 0 then 0 else insOf ((lookK kn a).getD "")
structure WI (badge : Int) (kn : Kn) (late now : Int) (n : Nat) (S : WSt) : Prop where
  a0 : 0 ≤ S.ahead
  a1 : S.ahead ≤ n
  st : S.state = 0 ∨ S.state = 1
  gap : ∀ m : Int, S.ahead < m → m ≤ n → lookK kn m = none
  known : S.ahead = 0 ∨ (lookK kn S.ahead).isSome = true
  stt : S.state = stAt kn S.ahead
  len : S.found.length ≤ n
theorem wi (badge : Int) (kn : Kn) (late now : Int) : ∀ n, WI badge kn late now n (wmTo badge kn late now n)
  | 0 => ⟨by simp [wmTo, moms], by simp [wmTo, moms], .inl (by simp [wmTo, moms]), fun m h1 h2 => by simp [wmTo, moms] at h1; omega, .inl (by simp [wmTo, moms]), by simp [wmTo, moms, stAt], by simp [wmTo, moms]⟩
  | n + 1 => by
    have ih := wi badge kn late now n
    rw [wmTo_succ]
    generalize wmTo badge kn late now n = S at *
    unfold wstepM
    by_cases h : (lookK kn ((n + 1 : Nat) : Int)).isSome = true
    · rw [if_pos h]
      refine ⟨by show (0 : Int) ≤ ((n + 1 : Nat) : Int); omega, by show ((n + 1 : Nat) : Int) ≤ _; omega, ins01 _, fun m h1 h2 => ?_, .inr h, ?_, ?_⟩
      · have h1 : ((n + 1 : Nat) : Int) < m := h1
        omega
      · show insOf ((lookK kn ((n + 1 : Nat) : Int)).getD "") = stAt kn ((n + 1 : Nat) : Int)
        unfold stAt
        rw [if_neg (by omega)]
      · have := ih.len
        unfold wstep
        simp only
        split
        · split
          · simp; omega
          · split
            · simp; omega
            · omega
        · omega
    · rw [if_neg h]
      have hn : lookK kn ((n + 1 : Nat) : Int) = none := by
        cases e : lookK kn ((n + 1 : Nat) : Int) with
        | none => rfl
        | some z => rw [e] at h; exact absurd rfl h
      refine ⟨ih.a0, by have := ih.a1; omega, ih.st, fun m h1 h2 => ?_, ih.known, ih.stt, by have := ih.len; omega⟩
      by_cases e : m = ((n + 1 : Nat) : Int)
      · rw [e]; exact hn
      · exact ih.gap m h1 (by omega)
def noTwice (ws : List Want) : Prop := ∀ x ∈ ws, x.word ≠ ("twice" : Str)
theorem found_mono (badge : Int) (kn : Kn) (late now : Int) (s : WSt) (m : Int) : ∀ x ∈ s.found, x ∈ (wstepM badge kn late now s m).found := by
  intro x hx
  unfold wstepM
  split
  · unfold wstep
    simp only
    split
    · split
      · exact List.mem_append_left _ hx
      · split
        · exact List.mem_append_left _ hx
        · exact hx
    · exact hx
  · exact hx
/-! ### the prices of a step -/
def lostI (m late now : Int) : Int := if isLost m late now then 1 else 0
theorem step_none {kn : Kn} {late now m : Int} (h : lookK kn m = none) : stepP kn late now m 0 0 = 0 ∧ stepP kn late now m 1 1 = 0 ∧ stepP kn late now m 0 1 = lostI m late now ∧ stepP kn late now m 1 0 = lostI m late now := by
  unfold stepP
  rw [h]
  refine ⟨rfl, rfl, ?_, ?_⟩ <;> (show (if (true && isLost m late now) = true then (1 : Int) else 0) = _; unfold lostI; rw [Bool.true_and])
theorem step_some {kn : Kn} {late now m : Int} {z : Str} (h : lookK kn m = some z) :
    (insOf z = 0 → stepP kn late now m 0 0 = NEV ∧ stepP kn late now m 1 0 = 0 ∧ stepP kn late now m 0 1 = NEV ∧ stepP kn late now m 1 1 = NEV) ∧
    (insOf z = 1 → stepP kn late now m 0 1 = 0 ∧ stepP kn late now m 1 1 = NEV ∧ stepP kn late now m 0 0 = NEV ∧ stepP kn late now m 1 0 = NEV) := by
  unfold stepP
  rw [h]
  constructor <;> intro e <;> simp [e, turnP]
theorem lostI01 (m late now : Int) : lostI m late now = 0 ∨ lostI m late now = 1 := by
  unfold lostI
  split
  · exact .inr rfl
  · exact .inl rfl
theorem lostI_mono {m m' late now : Int} (h : m ≤ m') : lostI m' late now ≤ lostI m late now := by
  unfold lostI isLost
  by_cases h1 : m' + late < now
  · rw [decide_eq_true h1, decide_eq_true (by omega)]
    simp
  · rw [decide_eq_false h1]
    by_cases h2 : m + late < now
    · rw [decide_eq_true h2]; simp
    · rw [decide_eq_false h2]; simp
theorem turn_nn (o : Option Str) (g t : Bool) : 0 ≤ turnP o g t := by
  unfold turnP NEV
  cases o with
  | none => cases t <;> cases g <;> decide
  | some z => cases t <;> simp
theorem step_nn (kn : Kn) (late now m a b : Int) : 0 ≤ stepP kn late now m a b := by
  unfold stepP
  split
  · split
    · exact turn_nn _ _ _
    · decide
  · exact turn_nn _ _ _
theorem ahead_nn (kn : Kn) (late now : Int) : ∀ n, 0 ≤ (aheadP kn late now n).1 ∧ 0 ≤ (aheadP kn late now n).2
  | 0 => by simp [aheadP, NEV]
  | n + 1 => by
    have ih := ahead_nn kn late now n
    have h1 := step_nn kn late now (n + 1 : Nat) 0 0
    have h2 := step_nn kn late now (n + 1 : Nat) 1 0
    have h3 := step_nn kn late now (n + 1 : Nat) 0 1
    have h4 := step_nn kn late now (n + 1 : Nat) 1 1
    unfold aheadP
    simp only
    omega
theorem behind_nn (kn : Kn) (late : Int) (T : Nat) : ∀ n, 0 ≤ (behindP kn late T n).1 ∧ 0 ≤ (behindP kn late T n).2
  | 0 => by simp [behindP]
  | n + 1 => by
    have ih := behind_nn kn late T n
    have h1 := step_nn kn late T ((T : Int) - n) 0 0
    have h2 := step_nn kn late T ((T : Int) - n) 1 0
    have h3 := step_nn kn late T ((T : Int) - n) 0 1
    have h4 := step_nn kn late T ((T : Int) - n) 1 1
    unfold behindP
    simp only
    omega
/-! ### the least price is how many rows are wanted -/
def pr (p : Int × Int) (s : Int) : Int := if s = 0 then p.1 else p.2
structure DPI (kn : Kn) (late : Int) (T n : Nat) (S : WSt) : Prop where
  own : pr (aheadP kn late T n) S.state = (S.found.length : Int)
  at_ : S.ahead = n → NEV ≤ pr (aheadP kn late T n) (1 - S.state)
  past : S.ahead < n → pr (aheadP kn late T n) (1 - S.state) = (S.found.length : Int) + lostI n late T
theorem dp_wants (badge : Int) (kn : Kn) (late : Int) (T : Nat) : ∀ n, n ≤ 1000 → noTwice (wmTo badge kn late T n).found → DPI kn late T n (wmTo badge kn late T n)
  | 0, _, _ => ⟨by simp [wmTo, moms, pr, aheadP], fun _ => by simp [wmTo, moms, pr, aheadP], fun h => by simp [wmTo, moms] at h⟩
  | n + 1, hn, nt => by
    have I := wi badge kn late T n
    rw [wmTo_succ] at nt ⊢
    have nt0 : noTwice (wmTo badge kn late T n).found := fun x hx => nt x (found_mono badge kn late T _ _ x hx)
    have ih := dp_wants badge kn late T n (by omega) nt0
    generalize hS : wmTo badge kn late T n = S at *
    have nn := ahead_nn kn late T n
    have hl := I.len
    have lm : lostI ((n + 1 : Nat) : Int) late T ≤ lostI (n : Int) late T := lostI_mono (by omega)
    have l1 := lostI01 ((n + 1 : Nat) : Int) late T
    have l0 := lostI01 (n : Int) late T
    have own := ih.own
    have at_ := ih.at_
    have past := ih.past
    have a1 := I.a1
    cases e : lookK kn ((n + 1 : Nat) : Int) with
    | none =>
      obtain ⟨s00, s11, s01, s10⟩ := step_none (late := late) (now := T) e
      unfold wstepM
      rw [e]
      simp only [Option.isSome_none, Bool.false_eq_true, if_false]
      have big : S.ahead < n → pr (aheadP kn late T n) (1 - S.state) = (S.found.length : Int) + lostI n late T := past
      have eA : aheadP kn late T (n + 1) = (min ((aheadP kn late T n).1 + 0) ((aheadP kn late T n).2 + lostI ((n + 1 : Nat) : Int) late T), min ((aheadP kn late T n).1 + lostI ((n + 1 : Nat) : Int) late T) ((aheadP kn late T n).2 + 0)) := by
        show (min (_ + stepP _ _ _ _ 0 0) (_ + stepP _ _ _ _ 1 0), min (_ + stepP _ _ _ _ 0 1) (_ + stepP _ _ _ _ 1 1)) = _
        rw [s00, s11, s01, s10]
      have cases2 : S.ahead = n ∨ S.ahead < n := by omega
      have NEVe : NEV = 1000000 := rfl
      rcases I.st with h0 | h0
      · rw [h0] at own at_ past
        simp only [pr, if_true, Int.sub_zero, show ¬ ((1 : Int) = 0) by decide, if_false] at own at_ past
        refine ⟨?_, fun h => ?_, fun _ => ?_⟩
        · rw [h0, eA]
          simp only [pr, if_true]
          rcases cases2 with c | c
          · have := at_ c; omega
          · have := past c; omega
        · omega
        · rw [h0, eA]
          simp only [pr, Int.sub_zero, show ¬ ((1 : Int) = 0) by decide, if_false]
          rcases cases2 with c | c
          · have := at_ c; omega
          · have := past c; omega
      · rw [h0] at own at_ past
        simp only [pr, show (1 : Int) - 1 = 0 by decide, if_true, show ¬ ((1 : Int) = 0) by decide, if_false] at own at_ past
        refine ⟨?_, fun h => ?_, fun _ => ?_⟩
        · rw [h0, eA]
          simp only [pr, show ¬ ((1 : Int) = 0) by decide, if_false]
          rcases cases2 with c | c
          · have := at_ c; omega
          · have := past c; omega
        · omega
        · rw [h0, eA]
          simp only [pr, show (1 : Int) - 1 = 0 by decide, if_true]
          rcases cases2 with c | c
          · have := at_ c; omega
          · have := past c; omega
    | some z =>
      obtain ⟨sz0, sz1⟩ := step_some (late := late) (now := T) e
      have NEVe : NEV = 1000000 := rfl
      have cases2 : S.ahead = n ∨ S.ahead < n := by omega
      unfold wstepM at nt ⊢
      rw [e] at nt ⊢
      simp only [Option.isSome_some, if_true] at nt ⊢
      unfold wstep at nt ⊢
      rw [e] at nt ⊢
      simp only [Option.getD_some] at nt ⊢
      have m1 : ((n + 1 : Nat) : Int) - 1 = n := by push_cast; omega
      rw [m1] at nt ⊢
      have lostE : isLost (n : Int) late T = true ↔ lostI n late T = 1 := by
        unfold lostI
        constructor
        · intro h; rw [if_pos h]
        · intro h
          by_cases hh : isLost (n : Int) late T = true
          · exact hh
          · rw [if_neg hh] at h; cases h
      -- how the count goes on
      have cnt : ∀ fl : List Want, fl = (if insOf z = S.state then (if ((n + 1 : Nat) : Int) - S.ahead = 1 then S.found ++ [⟨badge, S.ahead, ((n + 1 : Nat) : Int), "twice"⟩] else if isLost (n : Int) late T = true then S.found ++ [⟨badge, S.ahead, ((n + 1 : Nat) : Int), "lost"⟩] else S.found) else S.found) →
          noTwice fl → (insOf z = S.state → S.ahead < n ∧ (fl.length : Int) = S.found.length + lostI n late T) ∧ (¬ insOf z = S.state → (fl.length : Int) = S.found.length) := by
        intro fl hfl hnt
        constructor
        · intro h1
          rw [if_pos h1] at hfl
          by_cases h2 : ((n + 1 : Nat) : Int) - S.ahead = 1
          · rw [if_pos h2] at hfl
            exact absurd rfl (hnt _ (by rw [hfl]; exact List.mem_append_right _ (List.mem_singleton.mpr rfl)))
          · rw [if_neg h2] at hfl
            refine ⟨by push_cast at h2; omega, ?_⟩
            by_cases h3 : isLost (n : Int) late T = true
            · rw [if_pos h3] at hfl
              have := lostE.mp h3
              rw [hfl, List.length_append]
              push_cast
              simp only [List.length_cons, List.length_nil]
              omega
            · rw [if_neg h3] at hfl
              have : lostI n late T = 0 := by
                rcases l0 with q | q
                · exact q
                · exact absurd (lostE.mpr q) h3
              rw [hfl]
              omega
        · intro h1
          rw [if_neg h1] at hfl
          rw [hfl]
      generalize hfl : (if insOf z = S.state then (if ((n + 1 : Nat) : Int) - S.ahead = 1 then S.found ++ [(⟨badge, S.ahead, ((n + 1 : Nat) : Int), "twice"⟩ : Want)] else if isLost (n : Int) late T = true then S.found ++ [⟨badge, S.ahead, ((n + 1 : Nat) : Int), "lost"⟩] else S.found) else S.found) = fl at *
      obtain ⟨c1, c2⟩ := cnt fl rfl nt
      have eA : aheadP kn late T (n + 1) = (min ((aheadP kn late T n).1 + stepP kn late T ((n + 1 : Nat) : Int) 0 0) ((aheadP kn late T n).2 + stepP kn late T ((n + 1 : Nat) : Int) 1 0), min ((aheadP kn late T n).1 + stepP kn late T ((n + 1 : Nat) : Int) 0 1) ((aheadP kn late T n).2 + stepP kn late T ((n + 1 : Nat) : Int) 1 1)) := rfl
      rcases ins01 z with x0 | x0
      · obtain ⟨q1, q2, q3, q4⟩ := sz0 x0
        rw [q1, q2, q3, q4] at eA
        refine ⟨?_, fun _ => ?_, fun h => ?_⟩
        · show pr _ (insOf z) = (fl.length : Int)
          rw [x0, eA]
          simp only [pr, if_true]
          rcases I.st with h0 | h0
          · obtain ⟨d1, d2⟩ := c1 (by rw [x0, h0])
            rw [h0] at own past
            simp only [pr, if_true, Int.sub_zero, show ¬ ((1 : Int) = 0) by decide, if_false] at own past
            have := past d1
            omega
          · have d2 := c2 (by rw [x0, h0]; decide)
            rw [h0] at own
            simp only [pr, show ¬ ((1 : Int) = 0) by decide, if_false] at own
            omega
        · show NEV ≤ pr _ (1 - insOf z)
          rw [x0, eA]
          simp only [pr, Int.sub_zero, show ¬ ((1 : Int) = 0) by decide, if_false]
          omega
        · have h : ((n + 1 : Nat) : Int) < ((n + 1 : Nat) : Int) := h
          omega
      · obtain ⟨q1, q2, q3, q4⟩ := sz1 x0
        rw [q1, q2, q3, q4] at eA
        refine ⟨?_, fun _ => ?_, fun h => ?_⟩
        · show pr _ (insOf z) = (fl.length : Int)
          rw [x0, eA]
          simp only [pr, show ¬ ((1 : Int) = 0) by decide, if_false]
          rcases I.st with h0 | h0
          · have d2 := c2 (by rw [x0, h0]; decide)
            rw [h0] at own
            simp only [pr, if_true] at own
            omega
          · obtain ⟨d1, d2⟩ := c1 (by rw [x0, h0])
            rw [h0] at own past
            simp only [pr, show (1 : Int) - 1 = 0 by decide, if_true, show ¬ ((1 : Int) = 0) by decide, if_false] at own past
            have := past d1
            omega
        · show NEV ≤ pr _ (1 - insOf z)
          rw [x0, eA]
          simp only [pr, show (1 : Int) - 1 = 0 by decide, if_true]
          omega
        · have h : ((n + 1 : Nat) : Int) < ((n + 1 : Nat) : Int) := h
          omega
theorem least_wants {kn : Kn} {T : Nat} (nd : (kn.map (·.1)).Nodup) (rg : ∀ p ∈ kn, 1 ≤ p.1 ∧ p.1 ≤ (T : Int)) (hT : T ≤ 60) (badge late : Int) (nt : noTwice (wantsOf badge kn late T)) : leastP kn late T = ((wantsOf badge kn late T).length : Int) := by
  rw [wantsOf_eq nd rg] at nt ⊢
  have d := dp_wants badge kn late T T (by omega) nt
  have I := wi badge kn late T T
  generalize wmTo badge kn late T T = S at *
  have NEVe : NEV = 1000000 := rfl
  have own := d.own
  have hl := I.len
  have a1 := I.a1
  have l0 := lostI01 (T : Int) late T
  have cases2 : S.ahead = T ∨ S.ahead < T := by omega
  unfold leastP
  rcases I.st with h0 | h0
  · have at_ := d.at_
    have past := d.past
    rw [h0] at own at_ past
    simp only [pr, if_true, Int.sub_zero, show ¬ ((1 : Int) = 0) by decide, if_false] at own at_ past
    rcases cases2 with c | c
    · have := at_ c; omega
    · have := past c; omega
  · have at_ := d.at_
    have past := d.past
    rw [h0] at own at_ past
    simp only [pr, show (1 : Int) - 1 = 0 by decide, if_true, show ¬ ((1 : Int) = 0) by decide, if_false] at own at_ past
    rcases cases2 with c | c
    · have := at_ c; omega
    · have := past c; omega
end IC
namespace IC
open PySem L2
/-! ### a later house -/
structure ExtK (kn1 kn2 : Kn) (late : Int) (T1 T2 : Nat) : Prop where
  tt : T1 ≤ T2
  k1 : ∀ m z, lookK kn1 m = some z → lookK kn2 m = some z
  k2 : ∀ m z, lookK kn1 m = none → lookK kn2 m = some z → (T1 : Int) ≤ m + late
section
variable {kn1 kn2 : Kn} {late : Int} {T1 T2 : Nat}
theorem step_mono (x : ExtK kn1 kn2 late T1 T2) (m a b : Int) : stepP kn1 late T1 m a b ≤ stepP kn2 late T2 m a b := by
  cases e1 : lookK kn1 m with
  | some z =>
    have e2 := x.k1 m z e1
    unfold stepP
    rw [e1, e2]
    exact Int.le_refl _
  | none =>
    cases e2 : lookK kn2 m with
    | some z =>
      have h := x.k2 m z e1 e2
      have h0 : stepP kn1 late T1 m a b = 0 := by
        unfold stepP
        rw [e1]
        show turnP none (isLost m late T1) _ = 0
        unfold turnP isLost
        rw [show decide (m + late < (T1 : Int)) = false from decide_eq_false (by omega), Bool.and_false]
        rfl
      rw [h0]
      exact step_nn _ _ _ _ _ _
    | none =>
      unfold stepP
      rw [e1, e2]
      show turnP none (isLost m late T1) _ ≤ turnP none (isLost m late T2) _
      have hm : isLost m late T1 = true → isLost m late T2 = true := by
        unfold isLost
        intro h
        rw [decide_eq_true_eq] at h ⊢
        have := x.tt
        omega
      unfold turnP
      cases h1 : isLost m late T1 with
      | true =>
        rw [hm h1]
        exact Int.le_refl _
      | false =>
        rw [Bool.and_false]
        simp only [Bool.false_eq_true, if_false]
        split <;> decide
theorem ahead_mono (x : ExtK kn1 kn2 late T1 T2) : ∀ n, (aheadP kn1 late T1 n).1 ≤ (aheadP kn2 late T2 n).1 ∧ (aheadP kn1 late T1 n).2 ≤ (aheadP kn2 late T2 n).2
  | 0 => ⟨Int.le_refl _, Int.le_refl _⟩
  | n + 1 => by
    have ih := ahead_mono x n
    have h1 := step_mono x (n + 1 : Nat) 0 0
    have h2 := step_mono x (n + 1 : Nat) 1 0
    have h3 := step_mono x (n + 1 : Nat) 0 1
    have h4 := step_mono x (n + 1 : Nat) 1 1
    unfold aheadP
    simp only
    omega
theorem behind_mono (x : ExtK kn1 kn2 late T1 T2) : ∀ k, k ≤ T1 → (behindP kn1 late T1 k).1 ≤ (behindP kn2 late T2 (T2 - T1 + k)).1 ∧ (behindP kn1 late T1 k).2 ≤ (behindP kn2 late T2 (T2 - T1 + k)).2
  | 0, _ => by
    have := behind_nn kn2 late T2 (T2 - T1 + 0)
    exact this
  | k + 1, hk => by
    have ih := behind_mono x k (by omega)
    have tt := x.tt
    have em : (T2 : Int) - ((T2 - T1 + k : Nat) : Int) = (T1 : Int) - k := by omega
    have h1 := step_mono x ((T1 : Int) - k) 0 0
    have h2 := step_mono x ((T1 : Int) - k) 1 0
    have h3 := step_mono x ((T1 : Int) - k) 0 1
    have h4 := step_mono x ((T1 : Int) - k) 1 1
    show _ ≤ (behindP kn2 late T2 ((T2 - T1 + k) + 1)).1 ∧ _ ≤ (behindP kn2 late T2 ((T2 - T1 + k) + 1)).2
    unfold behindP
    simp only
    rw [em]
    omega
/-- the least price of a badge's stories with a state behind a moment -/
def totP (kn : Kn) (late : Int) (T m s : Nat) : Int := sel (aheadP kn late T m) s + sel (behindP kn late T (T - m)) s
theorem tot_mono (x : ExtK kn1 kn2 late T1 T2) {m s : Nat} (hm : m ≤ T1) : totP kn1 late T1 m s ≤ totP kn2 late T2 m s := by
  have h1 := ahead_mono x m
  have h2 := behind_mono x (T1 - m) (by omega)
  have tt := x.tt
  rw [show T2 - T1 + (T1 - m) = T2 - m by omega] at h2
  unfold totP sel
  split <;> omega
end
theorem tot_min (kn : Kn) (late : Int) (T : Nat) : ∀ k, k ≤ T → min (totP kn late T (T - k) 0) (totP kn late T (T - k) 1) = leastP kn late T
  | 0, _ => by
    unfold totP leastP sel
    rw [show T - (T - 0) = 0 by omega]
    simp [behindP]
  | k + 1, hk => by
    have ih := tot_min kn late T k (by omega)
    rw [← ih]
    unfold totP sel
    simp only [if_true, show ¬ ((1 : Nat) = 0) by decide, if_false]
    rw [show T - (T - (k + 1)) = k + 1 by omega, show T - (T - k) = k by omega]
    obtain ⟨n, hn⟩ : ∃ n, T - k = n + 1 := ⟨T - (k + 1), by omega⟩
    rw [hn, show T - (k + 1) = n by omega]
    have em : (T : Int) - (k : Int) = ((n + 1 : Nat) : Int) := by omega
    have eA : aheadP kn late T (n + 1) = (min ((aheadP kn late T n).1 + stepP kn late T ((n + 1 : Nat) : Int) 0 0) ((aheadP kn late T n).2 + stepP kn late T ((n + 1 : Nat) : Int) 1 0), min ((aheadP kn late T n).1 + stepP kn late T ((n + 1 : Nat) : Int) 0 1) ((aheadP kn late T n).2 + stepP kn late T ((n + 1 : Nat) : Int) 1 1)) := rfl
    have eB : behindP kn late T (k + 1) = (min ((behindP kn late T k).1 + stepP kn late T ((T : Int) - k) 0 0) ((behindP kn late T k).2 + stepP kn late T ((T : Int) - k) 0 1), min ((behindP kn late T k).1 + stepP kn late T ((T : Int) - k) 1 0) ((behindP kn late T k).2 + stepP kn late T ((T : Int) - k) 1 1)) := rfl
    rw [em] at eB
    rw [eA, eB]
    simp only
    omega
theorem tot_min' (kn : Kn) (late : Int) {T m : Nat} (h : m ≤ T) : min (totP kn late T m 0) (totP kn late T m 1) = leastP kn late T := by
  have := tot_min kn late T (T - m) (by omega)
  rw [show T - (T - m) = m by omega] at this
  exact this
theorem least_mono {kn1 kn2 : Kn} {late : Int} {T1 T2 : Nat} (x : ExtK kn1 kn2 late T1 T2) : leastP kn1 late T1 ≤ leastP kn2 late T2 := by
  rw [← tot_min' kn1 late (Nat.le_refl T1), ← tot_min' kn2 late x.tt]
  have h0 := tot_mono x (s := 0) (Nat.le_refl T1)
  have h1 := tot_mono x (s := 1) (Nat.le_refl T1)
  omega
theorem sel_more (kn : Kn) (late : Int) (T m : Nat) {s : Nat} (hs : s < 2) : sel (moreP kn late T m) s = totP kn late T m s - leastP kn late T := by
  have : s = 0 ∨ s = 1 := by omega
  rcases this with rfl | rfl <;> rfl
/-! ### the greatest number that fits -/
/-- (how many, their sum) of the choices out of a list -/
def subs : List Int → List (Nat × Int)
  | [] => [(0, 0)]
  | a :: l => subs l ++ (subs l).map fun x => (x.1 + 1, x.2 + a)
theorem mem_subs {a : Int} {l : List Int} {c : Nat} {s : Int} : (c, s) ∈ subs (a :: l) ↔ (c, s) ∈ subs l ∨ ∃ c', (c', s - a) ∈ subs l ∧ c = c' + 1 := by
  show (c, s) ∈ subs l ++ (subs l).map _ ↔ _
  rw [List.mem_append, List.mem_map]
  constructor
  · rintro (h | ⟨x, hx, e⟩)
    · exact .inl h
    · injection e with e1 e2
      refine .inr ⟨x.1, ?_, e1.symm⟩
      rw [show s - a = x.2 by omega]
      exact hx
  · rintro (h | ⟨c', h, e⟩)
    · exact .inl h
    · exact .inr ⟨(c', s - a), h, by rw [e, show s - a + a = s by omega]⟩
theorem subs_perm {l l' : List Int} (p : l.Perm l') : ∀ c s, (c, s) ∈ subs l → (c, s) ∈ subs l' := by
  induction p with
  | nil => exact fun c s h => h
  | cons a p ih =>
    intro c s h
    rw [mem_subs] at h ⊢
    rcases h with h | ⟨c', h, e⟩
    · exact .inl (ih _ _ h)
    · exact .inr ⟨c', ih _ _ h, e⟩
  | swap a b l =>
    intro c s h
    rw [mem_subs, mem_subs] at h
    rw [mem_subs, mem_subs]
    rcases h with (h | ⟨c', h, e⟩) | ⟨c', h, e⟩
    · exact .inl (.inl h)
    · exact .inr ⟨c', mem_subs.mpr (.inl h), e⟩
    · rw [mem_subs] at h
      rcases h with h | ⟨c2, h, e2⟩
      · exact .inl (.inr ⟨c', h, e⟩)
      · refine .inr ⟨c', ?_, e⟩
        rw [mem_subs]
        exact .inr ⟨c2, by rw [show s - a - b = s - b - a by omega]; exact h, e2⟩
  | trans p q ih1 ih2 => exact fun c s h => ih2 c s (ih1 c s h)
theorem subs_zero : ∀ l : List Int, (0, 0) ∈ subs l
  | [] => List.mem_singleton.mpr rfl
  | a :: l => mem_subs.mpr (.inl (subs_zero l))
theorem subs_nil0 : ∀ {l : List Int} {s : Int}, (0, s) ∈ subs l → s = 0
  | [], s, h => by
    have h : (0, s) ∈ [((0 : Nat), (0 : Int))] := h
    simp at h
    exact h
  | a :: l, s, h => by
    rw [mem_subs] at h
    rcases h with h | ⟨c', _, e⟩
    · exact subs_nil0 h
    · cases e
/-- one of the chosen is given up -/
theorem subs_drop {a : Int} : ∀ {l : List Int} {c : Nat} {s : Int}, (∀ x ∈ l, a ≤ x) → (c + 1, s) ∈ subs l → ∃ s', (c, s') ∈ subs l ∧ s' ≤ s - a
  | [], c, s, _, h => by
    have h : (c + 1, s) ∈ [((0 : Nat), (0 : Int))] := h
    simp at h
  | b :: l, c, s, ha, h => by
    have hb := ha b List.mem_cons_self
    rw [mem_subs] at h
    rcases h with h | ⟨c', h, e⟩
    · obtain ⟨s', h1, h2⟩ := subs_drop (fun x hx => ha x (List.mem_cons_of_mem _ hx)) h
      exact ⟨s', mem_subs.mpr (.inl h1), h2⟩
    · have e : c = c' := by omega
      subst e
      exact ⟨s - b, mem_subs.mpr (.inl h), by omega⟩
theorem subs_ge {a : Int} (a0 : 0 ≤ a) : ∀ {l : List Int} {c : Nat} {s : Int}, (∀ x ∈ l, a ≤ x) → (c, s) ∈ subs l → 0 ≤ s ∧ (1 ≤ c → a ≤ s)
  | [], c, s, _, h => by
    have h : (c, s) ∈ [((0 : Nat), (0 : Int))] := h
    simp at h
    omega
  | b :: l, c, s, ha, h => by
    have hb := ha b List.mem_cons_self
    rw [mem_subs] at h
    rcases h with h | ⟨c', h, e⟩
    · exact subs_ge a0 (fun x hx => ha x (List.mem_cons_of_mem _ hx)) h
    · have := subs_ge a0 (fun x hx => ha x (List.mem_cons_of_mem _ hx)) h
      omega
def greedy : List Int → Int → Nat
  | [], _ => 0
  | a :: l, left => if a ≤ left then greedy l (left - a) + 1 else greedy l left
theorem fold_greedy : ∀ (l : List Int) (c left : Int), (l.foldl gstep (c, left)).1 = c + greedy l left
  | [], c, left => by simp [greedy]
  | a :: l, c, left => by
    rw [List.foldl_cons]
    unfold gstep greedy
    by_cases h : a ≤ left
    · simp only [if_pos h]
      have := fold_greedy l (c + 1) (left - a)
      unfold gstep at this
      rw [this]
      push_cast
      omega
    · simp only [if_neg h]
      have := fold_greedy l c left
      unfold gstep at this
      rw [this]
theorem greedy_max : ∀ {l : List Int} {left : Int} {c : Nat} {s : Int}, l.Pairwise (· ≤ ·) → (∀ x ∈ l, 0 ≤ x) → (c, s) ∈ subs l → s ≤ left → c ≤ greedy l left
  | [], left, c, s, _, _, h, _ => by
    have h : (c, s) ∈ [((0 : Nat), (0 : Int))] := h
    simp at h
    omega
  | a :: l, left, c, s, hp, h0, h, hs => by
    have hal : ∀ x ∈ l, a ≤ x := fun x hx => (List.pairwise_cons.mp hp).1 x hx
    have a0 := h0 a List.mem_cons_self
    have h0' : ∀ x ∈ l, 0 ≤ x := fun x hx => h0 x (List.mem_cons_of_mem _ hx)
    have hp' := (List.pairwise_cons.mp hp).2
    unfold greedy
    rw [mem_subs] at h
    by_cases ha : a ≤ left
    · rw [if_pos ha]
      rcases h with h | ⟨c', h, e⟩
      · cases c with
        | zero => omega
        | succ c =>
          obtain ⟨s', h1, h2⟩ := subs_drop hal h
          have := greedy_max hp' h0' h1 (left := left - a) (by omega)
          omega
      · have := greedy_max hp' h0' h (left := left - a) (by omega)
        omega
    · rw [if_neg ha]
      rcases h with h | ⟨c', h, e⟩
      · have := subs_ge a0 hal h
        have hc : ¬ 1 ≤ c := fun z => by have := this.2 z; omega
        omega
      · have := subs_ge a0 hal h
        omega
theorem greedy_is : ∀ {l : List Int} {left : Int}, 0 ≤ left → ∃ s, (greedy l left, s) ∈ subs l ∧ s ≤ left
  | [], left, h => ⟨0, List.mem_singleton.mpr rfl, h⟩
  | a :: l, left, h => by
    unfold greedy
    by_cases ha : a ≤ left
    · rw [if_pos ha]
      obtain ⟨s, h1, h2⟩ := greedy_is (l := l) (left := left - a) (by omega)
      exact ⟨s + a, mem_subs.mpr (.inr ⟨_, by rw [show s + a - a = s by omega]; exact h1, rfl⟩), by omega⟩
    · rw [if_neg ha]
      obtain ⟨s, h1, h2⟩ := greedy_is (l := l) (left := left) h
      exact ⟨s, mem_subs.mpr (.inl h1), h2⟩
theorem sortI_perm (l : List Int) : (sortI l).Perm l := List.mergeSort_perm ..
theorem sortI_sorted (l : List Int) : (sortI l).Pairwise (· ≤ ·) := by
  have := List.pairwise_mergeSort (le := fun a b : Int => decide (a ≤ b)) (fun a b c h1 h2 => by simp at *; omega) (fun a b => by simp; omega) l
  exact this.imp fun h => by simpa using h
theorem mostL_eq (l : List Int) (left : Int) : mostL l left = (greedy (sortI l) left : Int) := by
  unfold mostL
  rw [fold_greedy]
  omega
theorem mostL_max {l : List Int} {left : Int} {c : Nat} {s : Int} (h0 : ∀ x ∈ l, 0 ≤ x) (h : (c, s) ∈ subs l) (hs : s ≤ left) : (c : Int) ≤ mostL l left := by
  rw [mostL_eq]
  have := greedy_max (sortI_sorted l) (fun x hx => h0 x ((sortI_perm l).mem_iff.mp hx)) (subs_perm (sortI_perm l).symm c s h) hs
  omega
theorem mostL_is {l : List Int} {left : Int} (h : 0 ≤ left) : ∃ (c : Nat) (s : Int), (c, s) ∈ subs l ∧ s ≤ left ∧ mostL l left = c := by
  obtain ⟨s, h1, h2⟩ := greedy_is (l := sortI l) h
  exact ⟨_, s, subs_perm (sortI_perm l) _ _ h1, h2, mostL_eq l left⟩
/-- from one list to another, badge by badge -/
theorem subs_over {α : Type} {p1 p2 l1 l2 : α → Int} : ∀ {bs : List α} {c : Nat} {s2 : Int}, (∀ b ∈ bs, p1 b ≤ p2 b ∧ l1 b ≤ l2 b) → (c, s2) ∈ subs (bs.map fun b => p2 b - l2 b) →
    ∃ s1, (c, s1) ∈ subs (bs.map fun b => p1 b - l1 b) ∧ s1 + (bs.map l1).sum ≤ s2 + (bs.map l2).sum
  | [], c, s2, _, h => ⟨s2, h, by simp⟩
  | b :: bs, c, s2, hb, h => by
    have h1 := hb b List.mem_cons_self
    rw [List.map_cons, mem_subs] at h
    rcases h with h | ⟨c', h, e⟩
    · obtain ⟨s1, q1, q2⟩ := subs_over (fun x hx => hb x (List.mem_cons_of_mem _ hx)) h
      refine ⟨s1, by rw [List.map_cons]; exact mem_subs.mpr (.inl q1), ?_⟩
      rw [List.map_cons, List.map_cons, List.sum_cons, List.sum_cons]
      omega
    · obtain ⟨s1, q1, q2⟩ := subs_over (fun x hx => hb x (List.mem_cons_of_mem _ hx)) h
      refine ⟨s1 + (p1 b - l1 b), by rw [List.map_cons]; exact mem_subs.mpr (.inr ⟨c', by rw [show s1 + (p1 b - l1 b) - (p1 b - l1 b) = s1 by omega]; exact q1, e⟩), ?_⟩
      rw [List.map_cons, List.map_cons, List.sum_cons, List.sum_cons]
      omega
theorem subs_zeros {α : Type} {v : α → Int} : ∀ (bs : List α), ((bs.filter fun b => decide (v b = 0)).length, (0 : Int)) ∈ subs (bs.map v)
  | [] => List.mem_singleton.mpr rfl
  | b :: bs => by
    rw [List.map_cons, mem_subs, List.filter_cons]
    by_cases h : v b = 0
    · rw [if_pos (by simpa using h)]
      exact .inr ⟨_, by rw [h, Int.sub_zero]; exact subs_zeros bs, by rw [List.length_cons]⟩
    · rw [if_neg (by simpa using h)]
      exact .inl (subs_zeros bs)
end IC
namespace IC
open PySem L2
/-! ### what a want is -/
structure WantAt (badge : Int) (kn : Kn) (late now : Int) (n : Nat) (x : Want) : Prop where
  bd : x.badge = badge
  lo0 : 0 ≤ x.lo
  lh : x.lo < x.hi
  hn : x.hi ≤ n
  gap : ∀ m, x.lo < m → m < x.hi → lookK kn m = none
  kl : x.lo = 0 ∨ (lookK kn x.lo).isSome = true
  kh : ∃ z, lookK kn x.hi = some z ∧ insOf z = stAt kn x.lo
  wd : (x.hi - x.lo = 1 ∧ x.word = ("twice" : Str)) ∨ (x.hi - x.lo ≠ 1 ∧ isLost (x.hi - 1) late now = true ∧ x.word = ("lost" : Str))
theorem mem_wm (badge : Int) (kn : Kn) (late now : Int) : ∀ (n : Nat) (x : Want), x ∈ (wmTo badge kn late now n).found ↔ WantAt badge kn late now n x
  | 0, x => by
    constructor
    · intro h
      simp [wmTo, moms] at h
    · intro h
      have := h.lo0
      have := h.lh
      have := h.hn
      omega
  | n + 1, x => by
    have I := wi badge kn late now n
    have ih := mem_wm badge kn late now n
    have mono := found_mono badge kn late now (wmTo badge kn late now n) ((n + 1 : Nat) : Int)
    rw [wmTo_succ]
    generalize wmTo badge kn late now n = S at *
    have up : ∀ y, WantAt badge kn late now n y → WantAt badge kn late now (n + 1) y := fun y h => ⟨h.bd, h.lo0, h.lh, by have := h.hn; omega, h.gap, h.kl, h.kh, h.wd⟩
    constructor
    · intro h
      unfold wstepM at h
      by_cases hs : (lookK kn ((n + 1 : Nat) : Int)).isSome = true
      · rw [if_pos hs] at h
        obtain ⟨z, hz⟩ := Option.isSome_iff_exists.mp hs
        unfold wstep at h
        rw [hz] at h
        simp only [Option.getD_some] at h
        have new : ∀ wd : Str, insOf z = S.state → ((((n + 1 : Nat) : Int) - S.ahead = 1 ∧ wd = ("twice" : Str)) ∨ (((n + 1 : Nat) : Int) - S.ahead ≠ 1 ∧ isLost (((n + 1 : Nat) : Int) - 1) late now = true ∧ wd = ("lost" : Str))) →
            WantAt badge kn late now (n + 1) ⟨badge, S.ahead, ((n + 1 : Nat) : Int), wd⟩ := fun wd h1 h2 =>
          ⟨rfl, I.a0, by show S.ahead < ((n + 1 : Nat) : Int); have := I.a1; omega, by show ((n + 1 : Nat) : Int) ≤ _; omega, fun m q1 q2 => I.gap m q1 (by have q2 : m < ((n + 1 : Nat) : Int) := q2; omega), I.known, ⟨z, hz, by rw [h1]; exact I.stt⟩, h2⟩
        by_cases h1 : insOf z = S.state
        · rw [if_pos h1] at h
          by_cases h2 : ((n + 1 : Nat) : Int) - S.ahead = 1
          · rw [if_pos h2] at h
            rcases List.mem_append.mp h with h | h
            · exact up x ((ih x).mp h)
            · rw [List.mem_singleton.mp h]
              exact new _ h1 (.inl ⟨h2, rfl⟩)
          · rw [if_neg h2] at h
            by_cases h3 : isLost (((n + 1 : Nat) : Int) - 1) late now = true
            · rw [if_pos h3] at h
              rcases List.mem_append.mp h with h | h
              · exact up x ((ih x).mp h)
              · rw [List.mem_singleton.mp h]
                exact new _ h1 (.inr ⟨h2, h3, rfl⟩)
            · rw [if_neg h3] at h
              exact up x ((ih x).mp h)
        · rw [if_neg h1] at h
          exact up x ((ih x).mp h)
      · rw [if_neg hs] at h
        exact up x ((ih x).mp h)
    · intro h
      by_cases hh : x.hi ≤ n
      · exact mono x ((ih x).mpr ⟨h.bd, h.lo0, h.lh, hh, h.gap, h.kl, h.kh, h.wd⟩)
      · have hi : x.hi = ((n + 1 : Nat) : Int) := by have := h.hn; omega
        obtain ⟨z, hz, hst⟩ := h.kh
        have gap := h.gap
        have kl := h.kl
        have lh := h.lh
        rw [hi] at hz gap lh
        have lo : S.ahead = x.lo := by
          have a0 := I.a0
          have a1 := I.a1
          have l0 := h.lo0
          have c : S.ahead < x.lo ∨ S.ahead = x.lo ∨ x.lo < S.ahead := by omega
          rcases c with c | c | c
          · rcases kl with k | k
            · omega
            · rw [I.gap x.lo c (by omega)] at k
              cases k
          · exact c
          · rcases I.known with k | k
            · omega
            · rw [gap S.ahead c (by omega)] at k
              cases k
        have hs : (lookK kn ((n + 1 : Nat) : Int)).isSome = true := by rw [hz]; rfl
        have st : insOf z = S.state := by rw [I.stt, lo]; exact hst
        have ex : x = ⟨badge, S.ahead, ((n + 1 : Nat) : Int), x.word⟩ := by
          rw [lo, ← hi, ← h.bd]
        unfold wstepM
        rw [if_pos hs]
        unfold wstep
        rw [hz]
        simp only [Option.getD_some]
        rw [if_pos st]
        have wd := h.wd
        rw [hi, ← lo] at wd
        rcases wd with ⟨w1, w2⟩ | ⟨w1, w2, w3⟩
        · rw [if_pos w1, ex, w2]
          exact List.mem_append_right _ (List.mem_singleton.mpr rfl)
        · rw [if_neg w1, if_pos w2, ex, w3]
          exact List.mem_append_right _ (List.mem_singleton.mpr rfl)
/-! ### houses -/
structure KnT (kn : Kn) (T : Nat) : Prop where
  ok : KnOk kn
  le : ∀ p ∈ kn, p.1 ≤ (T : Int)
theorem KnT.rg {kn : Kn} {T : Nat} (k : KnT kn T) : ∀ p ∈ kn, 1 ≤ p.1 ∧ p.1 ≤ (T : Int) := fun p hp => ⟨(k.ok.rg p hp).1, k.le p hp⟩
structure HsOk (h : Hs) (T : Nat) : Prop where
  tm : TimeOk h T
  kn : ∀ k ∈ h.kns, KnT k T
theorem HsOk.at {h : Hs} {T : Nat} (o : HsOk h T) {b : Nat} (hb : b < h.kns.length) : KnT (h.kns.getD b []) T := o.kn _ (getD_mem hb).2
structure ExtH (h1 h2 : Hs) (T1 T2 : Nat) : Prop where
  len : h1.kns.length = h2.kns.length
  late : h1.late = h2.late
  lost : h1.lost = h2.lost
  kn : ∀ b, b < h1.kns.length → ExtK (h1.kns.getD b []) (h2.kns.getD b []) h1.late T1 T2
theorem mem_aw {kns : List Kn} {late time : Int} : ∀ {n : Nat} {x : Want}, x ∈ awTo kns late time n ↔ ∃ b, b < n ∧ x ∈ wantsOf b (kns.getD b []) late time
  | 0, x => by simp [awTo]
  | n + 1, x => by
    unfold awTo
    rw [List.mem_append, mem_aw (n := n)]
    constructor
    · rintro (⟨b, h1, h2⟩ | h)
      · exact ⟨b, by omega, h2⟩
      · exact ⟨n, by omega, h⟩
    · rintro ⟨b, h1, h2⟩
      by_cases e : b = n
      · subst e; exact .inr h2
      · exact .inl ⟨b, by omega, h2⟩
theorem wants_stay {h1 h2 : Hs} {T1 T2 : Nat} (o1 : HsOk h1 T1) (o2 : HsOk h2 T2) (x : ExtH h1 h2 T1 T2) : ∀ y ∈ allWants h1.kns h1.late h1.now, y ∈ allWants h2.kns h2.late h2.now := by
  intro y hy
  unfold allWants at hy ⊢
  rw [mem_aw] at hy ⊢
  obtain ⟨b, hb, hm⟩ := hy
  have k1 := o1.at hb
  have hb2 : b < h2.kns.length := by rw [← x.len]; exact hb
  have k2 := o2.at hb2
  refine ⟨b, hb2, ?_⟩
  rw [wantsOf_eq k1.ok.nd k1.rg, mem_wm] at hm
  rw [wantsOf_eq k2.ok.nd k2.rg, mem_wm]
  have e := x.kn b hb
  have tt := e.tt
  have kl : y.lo = 0 ∨ (lookK (h2.kns.getD b []) y.lo).isSome = true := by
    rcases hm.kl with q | q
    · exact .inl q
    · obtain ⟨z, hz⟩ := Option.isSome_iff_exists.mp q
      exact .inr (by rw [e.k1 _ _ hz]; rfl)
  have st : stAt (h2.kns.getD b []) y.lo = stAt (h1.kns.getD b []) y.lo := by
    unfold stAt
    rcases hm.kl with q | q
    · rw [if_pos q, if_pos q]
    · obtain ⟨z, hz⟩ := Option.isSome_iff_exists.mp q
      rw [hz, e.k1 _ _ hz]
  obtain ⟨z, hz, hst⟩ := hm.kh
  refine ⟨hm.bd, hm.lo0, hm.lh, by have := hm.hn; omega, fun m q1 q2 => ?_, kl, ⟨z, e.k1 _ _ hz, by rw [st]; exact hst⟩, ?_⟩
  · cases e2 : lookK (h2.kns.getD b []) m with
    | none => rfl
    | some z' =>
      have h0 := e.k2 m z' (hm.gap m q1 q2) e2
      rcases hm.wd with ⟨w1, _⟩ | ⟨_, w2, _⟩
      · omega
      · unfold isLost at w2
        rw [decide_eq_true_eq, o1.tm.now] at w2
        omega
  · rcases hm.wd with w | ⟨w1, w2, w3⟩
    · exact .inl w
    · refine .inr ⟨w1, ?_, w3⟩
      unfold isLost at w2 ⊢
      rw [decide_eq_true_eq] at w2 ⊢
      rw [o1.tm.now] at w2
      rw [o2.tm.now, ← x.late]
      omega
/-! ### sound houses -/
theorem sound_iff {h : Hs} (s : soundH h = true) : noTwice (allWants h.kns h.late h.now) ∧ ((allWants h.kns h.late h.now).length : Int) ≤ h.lost := by
  unfold soundH borne at s
  rw [Bool.and_eq_true, decide_eq_true_eq] at s
  refine ⟨fun x hx e => ?_, s.2⟩
  have := List.isEmpty_iff.mp s.1
  have hm : x ∈ (allWants h.kns h.late h.now).filter fun x => decide (x.word = ("twice" : Str)) := List.mem_filter.mpr ⟨hx, by simpa using e⟩
  rw [this] at hm
  cases hm
theorem aw_len_sum (kns : List Kn) (late time : Int) (g : Nat → Int) : ∀ n, (∀ b, b < n → g b = ((wantsOf b (kns.getD b []) late time).length : Int)) → ((awTo kns late time n).length : Int) = ((List.range n).map g).sum
  | 0, _ => by simp [awTo]
  | n + 1, h => by
    have ih := aw_len_sum kns late time g n fun b hb => h b (by omega)
    rw [List.range_succ, List.map_append, List.sum_append, ← ih]
    show (((awTo kns late time n ++ wantsOf n (kns.getD n []) late time).length : Nat) : Int) = _
    rw [List.length_append, List.map_cons, List.map_nil, List.sum_cons, List.sum_nil, h n (by omega)]
    push_cast
    omega
def leastH (h : Hs) (T b : Nat) : Int := leastP (h.kns.getD b []) h.late T
theorem spare_sum {h : Hs} {T : Nat} (o : HsOk h T) (s : soundH h = true) : spareH h = h.lost - ((List.range h.kns.length).map (leastH h T)).sum ∧ 0 ≤ spareH h := by
  obtain ⟨nt, le⟩ := sound_iff s
  have e : ((allWants h.kns h.late h.now).length : Int) = ((List.range h.kns.length).map (leastH h T)).sum := by
    unfold allWants
    refine aw_len_sum _ _ _ _ _ fun b hb => ?_
    have k := o.at hb
    unfold leastH
    rw [o.tm.now]
    refine least_wants k.ok.nd k.rg o.tm.le b h.late fun x hx => nt x ?_
    unfold allWants
    rw [mem_aw, o.tm.now]
    exact ⟨b, hb, hx⟩
  unfold spareH
  exact ⟨by rw [e], by omega⟩
theorem sum_le {f g : Nat → Int} : ∀ {l : List Nat}, (∀ b ∈ l, f b ≤ g b) → (l.map f).sum ≤ (l.map g).sum
  | [], _ => Int.le_refl _
  | a :: l, h => by
    have ih := sum_le (f := f) (g := g) fun b hb => h b (List.mem_cons_of_mem _ hb)
    have := h a List.mem_cons_self
    rw [List.map_cons, List.map_cons, List.sum_cons, List.sum_cons]
    omega
theorem sum_le1 {f g : Nat → Int} : ∀ {l : List Nat} {b : Nat}, (∀ b ∈ l, f b ≤ g b) → b ∈ l → (l.map f).sum + (g b - f b) ≤ (l.map g).sum
  | [], b, _, h => by cases h
  | a :: l, b, h, hb => by
    have h0 := h a List.mem_cons_self
    have hl : ∀ b ∈ l, f b ≤ g b := fun b hb => h b (List.mem_cons_of_mem _ hb)
    rw [List.map_cons, List.map_cons, List.sum_cons, List.sum_cons]
    rcases List.mem_cons.mp hb with rfl | hb
    · have := sum_le hl
      omega
    · have := sum_le1 hl hb
      omega
theorem more_nn {h : Hs} {T m b st : Nat} (hm : m ≤ T) (hs : st < 2) : 0 ≤ sel (moreH h T m b) st := by
  unfold moreH
  rw [sel_more _ _ _ _ hs]
  have := tot_min' (h.kns.getD b []) h.late hm
  have : st = 0 ∨ st = 1 := by omega
  rcases this with rfl | rfl <;> omega
section
variable {h1 h2 : Hs} {T1 T2 : Nat}
theorem least_le (x : ExtH h1 h2 T1 T2) {b : Nat} (hb : b < h1.kns.length) : leastH h1 T1 b ≤ leastH h2 T2 b := by
  unfold leastH
  rw [← x.late]
  exact least_mono (x.kn b hb)
theorem open_mono (o1 : HsOk h1 T1) (o2 : HsOk h2 T2) (x : ExtH h1 h2 T1 T2) (s1 : soundH h1 = true) (s2 : soundH h2 = true) {b m s : Nat} (hb : b < h1.kns.length) (hm : m ≤ T1) (hs : s < 2)
    (h : sel (moreH h2 T2 m b) s ≤ spareH h2) : sel (moreH h1 T1 m b) s ≤ spareH h1 := by
  have e1 := (spare_sum o1 s1).1
  have e2 := (spare_sum o2 s2).1
  rw [← x.len, ← x.lost] at e2
  unfold moreH at h ⊢
  rw [sel_more _ _ _ _ hs] at h ⊢
  have tm := tot_mono (x.kn b hb) (s := s) hm
  rw [← x.late] at h
  have sl := sum_le1 (f := leastH h1 T1) (g := leastH h2 T2) (l := List.range h1.kns.length) (b := b) (fun c hc => least_le x (List.mem_range.mp hc)) (List.mem_range.mpr hb)
  have d1 : leastH h1 T1 b = leastP (h1.kns.getD b []) h1.late T1 := rfl
  have d2 : leastH h2 T2 b = leastP (h2.kns.getD b []) h1.late T2 := by unfold leastH; rw [x.late]
  omega
theorem open_some {h : Hs} {T m b : Nat} (o : HsOk h T) (s : soundH h = true) (hm : m ≤ T) : ∃ st, st < 2 ∧ sel (moreH h T m b) st ≤ spareH h := by
  have e := (spare_sum o s).2
  have t := tot_min' (h.kns.getD b []) h.late hm
  by_cases c : totP (h.kns.getD b []) h.late T m 0 ≤ totP (h.kns.getD b []) h.late T m 1
  · refine ⟨0, by decide, ?_⟩
    unfold moreH
    rw [sel_more _ _ _ _ (by decide)]
    omega
  · refine ⟨1, by decide, ?_⟩
    unfold moreH
    rw [sel_more _ _ _ _ (by decide)]
    omega
theorem inside_stays (o1 : HsOk h1 T1) (o2 : HsOk h2 T2) (x : ExtH h1 h2 T1 T2) (s1 : soundH h1 = true) (s2 : soundH h2 = true) {b m : Nat} (hb : b < h1.kns.length) (hm : m ≤ T1) (hi : insideH h1 T1 m b ≠ .non) : insideH h2 T2 m b = insideH h1 T1 m b := by
  have tt := (x.kn b hb).tt
  have m0 := open_mono o1 o2 x s1 s2 hb hm (s := 0) (by decide)
  have m1 := open_mono o1 o2 x s1 s2 hb hm (s := 1) (by decide)
  obtain ⟨st, hst, hop⟩ := open_some (b := b) o2 s2 (show m ≤ T2 by omega)
  unfold insideH openH at hi ⊢
  simp only [show List.range 2 = [0, 1] from rfl, List.filter_cons, List.filter_nil] at hi ⊢
  have hst' : st = 0 ∨ st = 1 := by omega
  by_cases a0 : sel (moreH h1 T1 m b) 0 ≤ spareH h1 <;> by_cases a1 : sel (moreH h1 T1 m b) 1 ≤ spareH h1 <;>
    by_cases c0 : sel (moreH h2 T2 m b) 0 ≤ spareH h2 <;> by_cases c1 : sel (moreH h2 T2 m b) 1 ≤ spareH h2 <;> simp only [a0, a1, c0, c1, decide_true, decide_false, if_true, if_false, Bool.false_eq_true] at hi ⊢ <;>
    first
      | rfl
      | (exact absurd (m0 c0) a0)
      | (exact absurd (m1 c1) a1)
      | (exact absurd rfl hi)
      | (rcases hst' with rfl | rfl <;> contradiction)
theorem most_mono (o1 : HsOk h1 T1) (o2 : HsOk h2 T2) (x : ExtH h1 h2 T1 T2) (s1 : soundH h1 = true) (s2 : soundH h2 = true) {m st : Nat} (hm : m ≤ T1) (hs : st < 2) : mostH h2 T2 m st ≤ mostH h1 T1 m st := by
  obtain ⟨e1, n1⟩ := spare_sum o1 s1
  obtain ⟨e2, n2⟩ := spare_sum o2 s2
  rw [← x.len, ← x.lost] at e2
  unfold mostH
  obtain ⟨c, s, hc, hsum, he⟩ := mostL_is (l := (List.range h2.kns.length).map fun b => sel (moreH h2 T2 m b) st) n2
  rw [he]
  have q2 : ((List.range h2.kns.length).map fun b => sel (moreH h2 T2 m b) st) = (List.range h1.kns.length).map fun b => totP (h2.kns.getD b []) h2.late T2 m st - leastH h2 T2 b := by
    rw [x.len]
    refine List.map_congr_left fun b _ => ?_
    unfold moreH leastH
    exact sel_more _ _ _ _ hs
  have q1 : ((List.range h1.kns.length).map fun b => sel (moreH h1 T1 m b) st) = (List.range h1.kns.length).map fun b => totP (h1.kns.getD b []) h1.late T1 m st - leastH h1 T1 b := by
    refine List.map_congr_left fun b _ => ?_
    unfold moreH leastH
    exact sel_more _ _ _ _ hs
  rw [q2] at hc
  obtain ⟨s', hc', hle⟩ := subs_over (p1 := fun b => totP (h1.kns.getD b []) h1.late T1 m st) (l1 := leastH h1 T1) (fun b hb => ⟨by
    have := tot_mono (x.kn b (List.mem_range.mp hb)) (s := st) hm
    rw [← x.late]
    exact this, least_le x (List.mem_range.mp hb)⟩) hc
  refine mostL_max (fun y hy => ?_) (by rw [q1]; exact hc') (by omega)
  obtain ⟨b, _, rfl⟩ := List.mem_map.mp hy
  exact more_nn hm hs
theorem filt_len {p q : Nat → Bool} : ∀ (l : List Nat), (∀ b ∈ l, p b = true ∨ q b = true) → l.length ≤ (l.filter p).length + (l.filter q).length
  | [], _ => by simp
  | a :: l, h => by
    have ih := filt_len l fun b hb => h b (List.mem_cons_of_mem _ hb)
    have h0 := h a List.mem_cons_self
    rw [List.filter_cons, List.filter_cons, List.length_cons]
    split <;> split <;> simp_all <;> omega
theorem low_high {h : Hs} {T m : Nat} (o : HsOk h T) (s : soundH h = true) (hm : m ≤ T) : (h.kns.length : Int) - mostH h T m 0 ≤ mostH h T m 1 := by
  obtain ⟨_, n⟩ := spare_sum o s
  have z : ∀ st, st < 2 → (((List.range h.kns.length).filter fun b => decide (sel (moreH h T m b) st = 0)).length : Int) ≤ mostH h T m st := fun st hst => by
    unfold mostH
    refine mostL_max (fun y hy => ?_) (subs_zeros (v := fun b => sel (moreH h T m b) st) (List.range h.kns.length)) n
    obtain ⟨b, _, rfl⟩ := List.mem_map.mp hy
    exact more_nn hm hst
  have h0 := z 0 (by decide)
  have h1 := z 1 (by decide)
  have f := filt_len (p := fun b => decide (sel (moreH h T m b) 0 = 0)) (q := fun b => decide (sel (moreH h T m b) 1 = 0)) (List.range h.kns.length) (fun b _ => by
    have t := tot_min' (h.kns.getD b []) h.late hm
    simp only [decide_eq_true_eq]
    unfold moreH
    rw [sel_more _ _ _ _ (by decide), sel_more _ _ _ _ (by decide)]
    omega)
  rw [List.length_range] at f
  omega
end
end IC
namespace IC
open PySem L2
/-! ### deeds played one by one -/
structure PlayI (n : Nat) (late lost : Int) (done : List Deed) (h : Hs) (T : Nat) : Prop where
  len : h.kns.length = n
  late : h.late = late
  lost : h.lost = lost
  ok : HsOk h T
  tm : (T : Int) = 0 ∨ ∃ d ∈ done, d.time = T
  keys : ∀ b m, b < n → lookK (h.kns.getD b []) m ≠ none → (b, m) ∈ done.filterMap Deed.key
  fa : FaultOk h
theorem getD_rep {n b : Nat} : (List.replicate n ([] : Kn)).getD b [] = [] := by
  rw [List.getD_eq_getElem?_getD, List.getElem?_replicate]
  split <;> rfl
theorem PlayI.start (n : Nat) (late lost : Int) : PlayI n late lost [] (newHs n late lost) 0 := by
  refine ⟨List.length_replicate, rfl, rfl, ⟨⟨rfl, by decide⟩, fun k hk => ?_⟩, .inl rfl, fun b m _ h => ?_, .inl rfl⟩
  · have hk' : k ∈ List.replicate n ([] : Kn) := hk
    rw [List.eq_of_mem_replicate hk']
    exact ⟨⟨by simp, by simp, by simp⟩, by simp⟩
  · exact absurd (by show lookK ((List.replicate n ([] : Kn)).getD b []) m = none; rw [getD_rep]; rfl) h
theorem PlayI.can {n : Nat} {late lost most : Int} {done : List Deed} {d : Deed} {rest : List Deed} {h : Hs} {T : Nat} (p : PlayI n late lost done h T) (o : DeedsOk n late most (done ++ d :: rest)) (hm : most ≤ 60) : CanDo h d := by
  have od := o.ok d (List.mem_append_right _ List.mem_cons_self)
  have t0 : h.now ≤ d.time := by
    rw [p.ok.tm.now]
    rcases p.tm with z | ⟨e, he, z⟩
    · rw [z]
      cases d with
      | tk t => have h1 : (1 : Int) ≤ t := od.1; show (0 : Int) ≤ t; omega
      | cm t b m y => have h1 := od.1; unfold DOk at h1; show (0 : Int) ≤ t; omega
    · rw [← z]
      exact (List.pairwise_append.mp o.srt).2.2 e he d List.mem_cons_self
  cases d with
  | tk t => exact ⟨t0, by have := od.2; show t ≤ 60; have h1 : t ≤ most := this; omega⟩
  | cm t b m y =>
    obtain ⟨⟨h1, h2, h3, h4, h5⟩, h6⟩ := od
    have h6 : t ≤ most := h6
    refine ⟨t0, by omega, by rw [p.len]; exact h4, h5, h1, h2, by rw [p.late]; exact h3, ?_⟩
    cases e : lookK (h.kns.getD b []) m with
    | none => rfl
    | some z =>
      have hk := p.keys b m h4 (by rw [e]; simp)
      have nd := o.nd
      rw [List.filterMap_append, List.nodup_append] at nd
      exact absurd rfl (nd.2.2 (b, m) hk (b, m) (by rw [List.filterMap_cons]; exact List.mem_cons_self))
theorem getD_set {kns : List Kn} {b c : Nat} {k : Kn} (hb : b < kns.length) : (kns.set b k).getD c [] = if c = b then k else kns.getD c [] := by
  rw [List.getD_eq_getElem?_getD, List.getD_eq_getElem?_getD]
  by_cases e : c = b
  · subst e
    rw [if_pos rfl, List.getElem?_set_self hb]
    rfl
  · rw [if_neg e, List.getElem?_set_ne (Ne.symm e)]
theorem lookK_snoc {kn : Kn} {m x : Int} {z : Str} (h : lookK kn m = none) : lookK (kn ++ [(m, z)]) x = if x = m then some z else lookK kn x := by
  unfold lookK at h ⊢
  rw [List.find?_append]
  by_cases e : x = m
  · subst e
    rw [if_pos rfl]
    rw [Option.map_eq_none_iff] at h
    rw [h]
    simp
  · rw [if_neg e]
    have : List.find? (fun p : Int × Str => decide (p.1 = x)) [(m, z)] = none := by
      rw [List.find?_cons, show decide ((m, z).1 = x) = false from decide_eq_false (fun q => e q.symm)]
      rfl
    rw [this, Option.or_none]
theorem time_nat {d : Deed} {h : Hs} {T : Nat} (o : HsOk h T) (c : CanDo h d) : ∃ T' : Nat, d.time = T' ∧ T ≤ T' ∧ T' ≤ 60 := by
  have hn := o.tm.now
  cases d with
  | tk t =>
    obtain ⟨c1, c2⟩ := c
    exact ⟨t.toNat, by show t = _; omega, by omega, by omega⟩
  | cm t b m y =>
    have c1 := c.t0
    have c2 := c.t1
    exact ⟨t.toNat, by show t = _; omega, by omega, by omega⟩
theorem doH_facts (h : Hs) (d : Deed) : (doH h d).late = h.late ∧ (doH h d).lost = h.lost ∧ (doH h d).now = d.time := by
  cases d <;> exact ⟨rfl, rfl, rfl⟩
theorem doH_len (h : Hs) (d : Deed) : (doH h d).kns.length = h.kns.length := by
  cases d with
  | tk t => rfl
  | cm t b m y => show (h.kns.set b _).length = _; rw [List.length_set]
theorem doH_look {h : Hs} {d : Deed} (c : CanDo h d) (b : Nat) (x : Int) : lookK ((doH h d).kns.getD b []) x = lookK (h.kns.getD b []) x ∨ ∃ t z, d = .cm t b x z ∧ lookK (h.kns.getD b []) x = none ∧ lookK ((doH h d).kns.getD b []) x = some z := by
  cases d with
  | tk t => exact .inl rfl
  | cm t bb m y =>
    show lookK ((h.kns.set bb (h.kns.getD bb [] ++ [(m, y)])).getD b []) x = _ ∨ _
    rw [getD_set c.b1]
    by_cases e : b = bb
    · subst e
      rw [if_pos rfl, lookK_snoc c.new]
      by_cases e2 : x = m
      · subst e2
        refine .inr ⟨t, y, rfl, c.new, ?_⟩
        show lookK ((h.kns.set b (h.kns.getD b [] ++ [(x, y)])).getD b []) x = some y
        rw [getD_set c.b1, if_pos rfl, lookK_snoc c.new, if_pos rfl]
      · rw [if_neg e2]
        exact .inl rfl
    · rw [if_neg e]
      exact .inl rfl
theorem PlayI.step {n : Nat} {late lost : Int} {done : List Deed} {d : Deed} {h : Hs} {T : Nat} (p : PlayI n late lost done h T) (c : CanDo h d) : ∃ T' : Nat, T ≤ T' ∧ d.time = T' ∧ PlayI n late lost (done ++ [d]) (doH h d) T' := by
  obtain ⟨T', e, hT, hT60⟩ := time_nat p.ok c
  obtain ⟨f1, f2, f3⟩ := doH_facts h d
  refine ⟨T', hT, e, by rw [doH_len]; exact p.len, by rw [f1]; exact p.late, by rw [f2]; exact p.lost, ⟨⟨by rw [f3]; exact e, hT60⟩, fun k hk => ?_⟩, .inr ⟨d, List.mem_append_right _ (List.mem_singleton.mpr rfl), e⟩, fun b m hb hl => ?_, ?_⟩
  · have old : ∀ k ∈ h.kns, KnT k T' := fun k hk => ⟨(p.ok.kn k hk).ok, fun q hq => by have := (p.ok.kn k hk).le q hq; omega⟩
    cases d with
    | tk t => exact old k hk
    | cm t b m y =>
      have hk : k ∈ h.kns.set b (h.kns.getD b [] ++ [(m, y)]) := hk
      rcases List.mem_or_eq_of_mem_set hk with z | z
      · exact old k z
      · subst z
        have e : t = (T' : Int) := e
        have ok := (old _ (getD_mem c.b1).2)
        refine ⟨ok.ok.snoc c.new c.wd c.m0 (by have := c.m1; have := c.t1; omega), fun q hq => ?_⟩
        rcases List.mem_append.mp hq with z | z
        · exact ok.le q z
        · simp at z
          subst z
          have := c.m1
          show m ≤ _
          omega
  · rw [List.filterMap_append]
    rcases doH_look c b m with z | ⟨t, y, z, _, _⟩
    · rw [z] at hl
      exact List.mem_append_left _ (p.keys b m hb hl)
    · subst z
      exact List.mem_append_right _ (List.mem_singleton.mpr rfl)
  · cases d with
    | tk t => exact goneOn_fault _ _ p.fa
    | cm t b m y => exact goneOn_fault _ _ p.fa
theorem ExtH.refl {h : Hs} {T : Nat} : ExtH h h T T := ⟨rfl, rfl, rfl, fun b _ => ⟨Nat.le_refl _, fun _ _ e => e, fun m z e1 e2 => by rw [e1] at e2; cases e2⟩⟩
theorem ExtH.step {h1 h : Hs} {T1 T T' : Nat} {d : Deed} (x : ExtH h1 h T1 T) (tt : T1 ≤ T) (hT : T ≤ T') (e : d.time = T') (c : CanDo h d) : ExtH h1 (doH h d) T1 T' := by
  obtain ⟨f1, f2, f3⟩ := doH_facts h d
  refine ⟨by rw [doH_len]; exact x.len, by rw [f1]; exact x.late, by rw [f2]; exact x.lost, fun b hb => ?_⟩
  have xb := x.kn b hb
  refine ⟨by omega, fun m z h1' => ?_, fun m z h1' h2 => ?_⟩
  · have := xb.k1 m z h1'
    rcases doH_look c b m with q | ⟨t, y, _, q, _⟩
    · rw [q]; exact this
    · rw [this] at q; cases q
  · rcases doH_look c b m with q | ⟨t, y, q1, _, _⟩
    · rw [q] at h2
      exact xb.k2 m z h1' h2
    · subst q1
      have e : t = (T' : Int) := e
      have := c.lt
      rw [← x.late] at this
      omega
end IC
namespace IC
open PySem L2
section
variable {X : Cx} {K : PySem.W.Frag}
theorem op_inDK (hu : X.A.units + 65 < cLine) (hK : X.K = K := by rfl) : OpR X (compareOp .In) (rInD K) := by subst hK; exact op_inD hu
theorem op_notInDK (hu : X.A.units + 65 < cLine) (hK : X.K = K := by rfl) : OpR X (compareOp .NotIn) (rNotInD K) := by subst hK; exact op_notInD hu
theorem hu65 {k : Nat} {A : Around} (r : Room k A) : A.units + 65 < cLine := by have := r.un; omega
end
section
variable {P : Program} {w : World} {K : PySem.W.Frag} {mg : Str → Option Value} {base : Heap} {dI C : Addr}
/-- where the row turns -/
theorem Both.row {H H' : Hp} {p L : Addr} {ds : List Addr} {h : Hs} {q L' : Addr} {ds' : List Addr} {m : Ms} {r a : Addr} {ns : List Int} (b : Both C H p L ds h q L' ds' m) (s : Keeps [r] H H') (hr : RowAt K H r a ns) (nL : L ≠ r) (nL' : L' ≠ r) : Both C H' p L ds h q L' ds' m := by
  obtain ⟨i, y, x, e, _⟩ := hr
  exact b.keeps s e (.inr ⟨i, rfl⟩) nL nL'
theorem fps_lst {H : Hp} {p L : Addr} {ds : List Addr} {h : Hs} {q L' : Addr} {ds' : List Addr} {m : Ms} (b : Both C H p L ds h q L' ds' m) {c : Addr} {o : HO} (hc : H c = some o) (h1 : ∀ C dx fs, o ≠ .ins C dx fs) (h2 : ∀ kv, o ≠ .dK kv) : c ∉ fps p ds q ds' := by
  unfold fps
  intro hm
  rcases List.mem_append.mp hm with hm | hm
  · rcases List.mem_cons.mp hm with rfl | hm
    · obtain ⟨dx, e⟩ := b.ha.ob
      rw [hc] at e
      exact h1 _ _ _ (Option.some.inj e)
    · obtain ⟨kv, e⟩ := b.ha.kn.mem hm
      rw [hc] at e
      exact h2 _ (Option.some.inj e)
  · rcases List.mem_cons.mp hm with rfl | hm
    · rw [b.ma.ob] at hc
      exact h2 _ (Option.some.inj hc).symm
    · obtain ⟨kv, e⟩ := b.ma.kn.mem hm
      rw [hc] at e
      exact h2 _ (Option.some.inj e)
theorem Both.tupS {H H' : Hp} {p L : Addr} {ds : List Addr} {h : Hs} {q L' : Addr} {ds' : List Addr} {m : Ms} (b : Both C H p L ds h q L' ds' m) (k : Keeps (fps p ds q ds') H H') : TupS H H' :=
  fun c xs e => k c _ e (fps_lst b e (by intro _ _ _ z; cases z) (by intro _ z; cases z))
theorem Both.lst {H H' : Hp} {p L : Addr} {ds : List Addr} {h : Hs} {q L' : Addr} {ds' : List Addr} {m : Ms} (b : Both C H p L ds h q L' ds' m) (k : Keeps (fps p ds q ds') H H') {c : Addr} {xs : List V} (e : H c = some (.lst xs)) : H' c = some (.lst xs) :=
  k c _ e (fps_lst b e (by intro _ _ _ z; cases z) (by intro _ z; cases z))
theorem Both.rowAt {H H' : Hp} {p L : Addr} {ds : List Addr} {h : Hs} {q L' : Addr} {ds' : List Addr} {m : Ms} {r a : Addr} {ns : List Int} (b : Both C H p L ds h q L' ds' m) (k : Keeps (fps p ds q ds') H H') (hr : RowAt K H r a ns) : RowAt K H' r a ns := by
  obtain ⟨i, y, x, e, hi, hs⟩ := hr
  refine ⟨i, y, x, b.lst k e, hi, ?_⟩
  rcases hs with (h' | ⟨u, h'⟩) | h'
  · exact .inl (.inl (b.lst k h'))
  · exact .inl (.inr ⟨u, k _ _ h' (fps_lst b h' (by intro _ _ _ z; cases z) (by intro _ z; cases z))⟩)
  · exact .inr h'
theorem cut_to {xs : List V} {c : Int} (h0 : 0 ≤ c) (h1 : c ≤ xs.length) : cutV xs none (some c) = xs.take c.toNat := by
  obtain ⟨k, rfl⟩ := Int.eq_ofNat_of_zero_le h0
  unfold cutV
  rw [HT.sIx_none, HT.sIx_nat, List.drop_zero, Int.toNat_natCast, show min k xs.length - 0 = k by omega]
theorem cut_from {xs : List V} {c : Int} (h0 : 0 ≤ c) (h1 : c ≤ xs.length) : cutV xs (some c) none = xs.drop c.toNat := by
  obtain ⟨k, rfl⟩ := Int.eq_ofNat_of_zero_le h0
  unfold cutV
  rw [HT.sIx_none, HT.sIx_nat, Int.toNat_natCast, show min k xs.length = k by omega]
  exact List.take_of_length_le (by rw [List.length_drop]; exact Nat.le_refl _)
theorem tups_take {H : Hp} : ∀ {xs : List V} {ds : List (List V)} (k : Nat), TupsAt H xs ds → TupsAt H (xs.take k) (ds.take k)
  | _, _, 0, _ => .nil
  | _, _, _ + 1, .nil => .nil
  | _, _, k + 1, .cons r t => .cons r (tups_take k t)
theorem tups_drop {H : Hp} : ∀ {xs : List V} {ds : List (List V)} (k : Nat), TupsAt H xs ds → TupsAt H (xs.drop k) (ds.drop k)
  | _, _, 0, h => h
  | _, _, _ + 1, .nil => .nil
  | _, _, k + 1, .cons _ t => tups_drop k t
theorem shaped_tup {d : List V} (h : ∀ v ∈ d, okV v = true) : SeqAt.shaped (tupD d) = true := by
  unfold SeqAt.shaped
  have e : (tupD d).depth = 1 := by
    unfold tupD
    rw [PyData.depth, dep_flats]
  rw [e]
  unfold tupD
  rw [PyData.canLay0, lay_flats h]
  rfl
theorem eqv_tup {d : List V} (h : ∀ v ∈ d, okV v = true) : PyData.eqv (tupD d) (tupD d) = true := SeqAt.eqv_refl _ (by
  unfold tupD
  rw [PyData.canLay0]
  exact lay_flats h)
theorem sq_keepsN {H H' : Hp} {a : Addr} {xs : List V} {fp : List Addr} (h : SqL K H a xs) (k : Keeps fp H H') (n : ∀ c ∈ fp, H c = none) : SqL K H' a xs := by
  rcases h with (h | ⟨u, h⟩) | h
  · exact .inl (.inl (k _ _ h (fun z => by have := n _ z; rw [h] at this; cases this)))
  · exact .inl (.inr ⟨u, k _ _ h (fun z => by have := n _ z; rw [h] at this; cases this)⟩)
  · exact .inr h
theorem RowAt.keepsN {H H' : Hp} {r a : Addr} {ns : List Int} {fp : List Addr} (h : RowAt K H r a ns) (k : Keeps fp H H') (n : ∀ c ∈ fp, H c = none) : RowAt K H' r a ns := by
  obtain ⟨i, m, x, e, hi, hs⟩ := h
  exact ⟨i, m, x, k _ _ e (fun z => by have := n _ z; rw [e] at this; cases this), hi, sq_keepsN hs k n⟩
/-- what a def leaves that made an object at x and wrote at it alone -/
theorem Same.ofNew {H H1 H' : Hp} {fp : List Addr} (s : Same H H1) (k : Keeps fp H1 H') (n : ∀ c ∈ fp, H c = none) : Same H H' := fun a o e => k a o (s a o e) (fun z => by have := n _ z; rw [e] at this; cases this)
/-- a new house beside what the law keeps of it -/
theorem Both.start {H H' : Hp} {x L q L' : Addr} {ds ds' : List Addr} {m : Ms} {n : Nat} {late lost : Int} (ha : HouseAt C H' x L ds (newHs n late lost)) (ma : MAt H q L' ds' m) (s : Same H H') (nd : ∀ d ∈ ds, H d = none) (hk : m.kns = List.replicate n []) (hl : m.late = late) (ho : m.lost = lost) (ht : m.time = 0) :
    Both C H' x L ds (newHs n late lost) q L' ds' m :=
  ⟨ha, ma.same s, (fun d h1 h2 => by
    obtain ⟨kv, e⟩ := ma.kn.mem h2
    rw [nd d h1] at e
    exact nomatch e), hk, hl, ho, ht, .inl rfl, rfl⟩
/-- the deeds of a list, one by one -/
theorem for_play {a p q L L' : Addr} {ds ds' : List Addr} {xs : List V} {fl : List Deed} {j : Nat} {tb : TS} {D : Ends} {σ : St} {H : Hp} {h : Hs} {m : Ms} {T n : Nat} {late lost most : Int} {done rest : List Deed}
    (b : Both C H p L ds h q L' ds' m) (hl : H a = some (.lst xs)) (tx : TupsAt H xs (fl.map Deed.vs)) (pl : PlayI n late lost done h T) (ok : DeedsOk n late most (done ++ fl ++ rest)) (hm : most ≤ 60)
    (h0 : ∃ o, σ = σ.set j o)
    (hb : ∀ (D : Ends) (c : Addr) (H : Hp), sp_do C [.ref p, .ref q, .ref c] H (fun _ H' => D.nx (σ.set j (some (.ref c))) H') C8.E0 → tb D (σ.set j (some (.ref c))) H)
    (k : ∀ (o : Option V) (H' : Hp) (h' : Hs) (m' : Ms) (T' : Nat), Both C H' p L ds h' q L' ds' m' → PlayI n late lost (done ++ fl) h' T' → Keeps (fps p ds q ds') H H' → T ≤ T' → ExtH h h' T T' → D.nx (σ.set j o) H') :
    ∃ W : Nat → Nat → St → Hp → Prop, (∃ m, W 0 m σ H) ∧ ∀ i m σ H, W i m σ H →
      ((Itl K a).stop i H ∧ D.nx σ H) ∨ ((Itl K a).go i H ∧ ∃ N : St → Hp → Prop, (∀ σ' H', N σ' H' → ∃ m', m' < m ∧ W (i + 1) m' σ' H') ∧ ∀ x H', (Itl K a).yld i H x H' → gName j x σ H' fun σ2 H2 => tb { D with nx := N, ct := N, bk := D.nx } σ2 H2) := by
  have hlen : xs.length = fl.length := by have := tx.length; rw [List.length_map] at this; exact this
  refine for_list (K := K) (a := a) (xs := xs) (fun i σ' H' => ∃ (o : Option V) (h' : Hs) (m' : Ms) (T' : Nat), σ' = σ.set j o ∧ Both C H' p L ds h' q L' ds' m' ∧ PlayI n late lost (done ++ fl.take i) h' T' ∧ Keeps (fps p ds q ds') H H' ∧ T ≤ T' ∧ ExtH h h' T T')
    (let ⟨o, e⟩ := h0; ⟨o, h, m, T, e, b, by rw [List.take_zero, List.append_nil]; exact pl, Keeps.refl _ _, Nat.le_refl _, ExtH.refl⟩) (fun i σ' H' _ ⟨_, _, _, _, _, _, _, kk, _, _⟩ => SqL.of (b.lst kk hl)) ?_ ?_
  · rintro i x σ' H' hi ⟨o, h', m', T', rfl, b', pl', kk, tt, ex⟩
    obtain ⟨d, hd, c, rfl, hc⟩ := Paired.getL tx hi
    rw [List.getElem?_map] at hd
    obtain ⟨e, he, rfl⟩ := Option.map_eq_some_iff.mp hd
    have il : i < fl.length := (List.getElem?_eq_some_iff.mp he).1
    have split : fl = fl.take i ++ e :: fl.drop (i + 1) := by
      have h1 := (List.take_append_drop i fl).symm
      rw [List.drop_eq_getElem_cons il] at h1
      have : fl[i] = e := (List.getElem?_eq_some_iff.mp he).2
      rw [this] at h1
      exact h1
    have can : CanDo h' e := pl'.can (rest := fl.drop (i + 1) ++ rest) (by
      have z : done ++ fl.take i ++ e :: (fl.drop (i + 1) ++ rest) = done ++ fl ++ rest := by
        conv => rhs; rw [split]
        simp
      rw [z]
      exact ok) hm
    obtain ⟨T2, hT, eT, pl2⟩ := pl'.step can
    show tb _ ((σ.set j o).set j (some (.ref c))) H'
    rw [List.set_set]
    refine hb _ c H' ⟨p, L, ds, h', q, L', ds', m', c, e, rfl, b', b.tupS kk _ _ hc, can, fun H2 b2 k2 => ?_⟩
    refine ⟨_, _, _, T2, rfl, b2, ?_, kk.trans k2, by omega, ex.step tt hT eT can⟩
    rw [List.take_succ, he, Option.toList_some, ← List.append_assoc]
    exact pl2
  · rintro σ' H' ⟨o, h', m', T', rfl, b', pl', kk, tt, ex⟩
    rw [hlen, List.take_length] at pl'
    exact k o H' h' m' T' b' pl' kk tt ex
end
end IC
namespace IC
open PySem L2
section
variable {P : Program} {w : World} {K : PySem.W.Frag} {mg : Str → Option Value} {base : Heap} {dI C : Addr}
/-- what is promised of a house that was built, with what the law keeps of it -/
structure Built (C : Addr) (H H' : Hp) (p L : Addr) (ds : List Addr) (h : Hs) (q L' : Addr) (ds' : List Addr) (m : Ms) (n T : Nat) (most : Int) (fl : List Deed) : Prop where
  b : Both C H' p L ds h q L' ds' m
  n1 : 1 ≤ n
  la0 : 0 ≤ h.late
  la9 : h.late ≤ 9
  lo0 : 0 ≤ h.lost
  lo6 : h.lost ≤ 6
  ok : DeedsOk n h.late most fl
  pl : PlayI n h.late h.lost fl h T
  np : H p = none
  nL : H L = none
  nds : ∀ d ∈ ds, H d = none
  nq : H q = none
  nL' : H L' = none
  nds' : ∀ d ∈ ds', H d = none
theorem Built.len {H H' : Hp} {p L : Addr} {ds : List Addr} {h : Hs} {q L' : Addr} {ds' : List Addr} {m : Ms} {n T : Nat} {most : Int} {fl : List Deed} (b : Built C H H' p L ds h q L' ds' m n T most fl) : h.kns.length = n := b.pl.len
theorem Built.tm {H H' : Hp} {p L : Addr} {ds : List Addr} {h : Hs} {q L' : Addr} {ds' : List Addr} {m : Ms} {n T : Nat} {most : Int} {fl : List Deed} (b : Built C H H' p L ds h q L' ds' m n T most fl) (hm : 0 ≤ most) : (T : Int) ≤ most := by
  rcases b.pl.tm with z | ⟨d, hd, e⟩
  · omega
  · rw [← e]
    exact (b.ok.ok d hd).2
end
end IC
namespace IC
open PySem L2
theorem shaped_flats {vs : List V} (h : ∀ v ∈ vs, okV v = true) : SeqAt.shaped (.list (vs.map fdat)) = true := by
  unfold SeqAt.shaped
  rw [PyData.canLay0, lay_flats h, PyData.depth, dep_flats]
  rfl
theorem rg_ok {a b : Int} : ∀ v ∈ rgV a b, okV v = true := by
  intro v hv
  obtain ⟨i, _, rfl⟩ := List.mem_map.mp hv
  rfl
/-- the moments between that are late enough -/
def openM (ahead late time : Int) (k : Nat) : List Nat := (List.range k).filter fun i => decide (time ≤ ahead + 1 + ((i : Nat) : Int) + late)
theorem openM_nil {ahead late time m : Int} (h : ahead < m) (h1 : ¬ m - ahead = 1) : (openM ahead late time (m - (ahead + 1)).toNat).isEmpty = isLost (m - 1) late time := by
  unfold openM isLost
  rw [Bool.eq_iff_iff, List.isEmpty_iff, decide_eq_true_eq, List.filter_eq_nil_iff]
  constructor
  · intro h2
    have := h2 ((m - (ahead + 1)).toNat - 1) (by rw [List.mem_range]; omega)
    rw [decide_eq_true_eq] at this
    omega
  · intro h2 i hi
    rw [List.mem_range] at hi
    rw [decide_eq_true_eq]
    omega
theorem btw_nil {ahead m : Int} (h : ahead < m) : (rgV (ahead + 1) m).isEmpty = decide (m - ahead = 1) := by
  unfold rgV
  rw [List.isEmpty_map, Bool.eq_iff_iff, List.isEmpty_iff, decide_eq_true_eq, List.range_eq_nil]
  omega
theorem word_at {st : Int} (h : st = 0 ∨ st = 1) : ∃ z : Str, atI [V.str "out", V.str "in"] st = some (.str z) ∧ ∀ y, Wd y → (decide (V.str z = V.str y) = decide (insOf y = st)) := by
  have io : insOf "out" = 0 := by decide +kernel
  have ii : insOf "in" = 1 := by decide +kernel
  rcases h with rfl | rfl
  · refine ⟨"out", rfl, fun y hy => ?_⟩
    rcases hy with rfl | rfl
    · rw [ii]; decide +kernel
    · rw [io]; decide +kernel
  · refine ⟨"in", rfl, fun y hy => ?_⟩
    rcases hy with rfl | rfl
    · rw [ii]; decide +kernel
    · rw [io]; decide +kernel
theorem word_in {y : Str} (h : Wd y) : (if decide (V.str y = V.str "in") = true then (1 : Int) else 0) = insOf y := by
  rcases h with rfl | rfl <;> decide +kernel
section
variable {P : Program} {w : World} {K : PySem.W.Frag} {mg : Str → Option Value} {base : Heap} {dI C : Addr}
/-- m as it stands: its time, its rows -/
structure MOk (m : Ms) (T : Nat) : Prop where
  tm : m.time = T
  le : T ≤ 60
  kn : ∀ k ∈ m.kns, KnT k T
theorem Both.mok {H : Hp} {p L : Addr} {ds : List Addr} {h : Hs} {q L' : Addr} {ds' : List Addr} {m : Ms} {T : Nat} (b : Both C H p L ds h q L' ds' m) (o : HsOk h T) : MOk m T := ⟨by rw [b.time]; exact o.tm.now, o.tm.le, by rw [b.kn]; exact o.kn⟩
/-! ### _law_wants -/
def sp_lwants : Sp := fun vs H Q _ => ∃ (q L : Addr) (ds : List Addr) (m : Ms) (T : Nat), vs = [.ref q] ∧ MAt H q L ds m ∧ MOk m T ∧
  ∀ (a : Addr) (xs : List V) (H' : Hp), Same H H' → H a = none → H' a = some (.lst xs) → TupsAt H' xs ((allWants m.kns m.late m.time).map Want.vs) → Q (.ref a) H'
theorem sc__law_wants : FnScope ["_law_m", "_law_found", "_law_badge", "_law_state", "_law_ahead", "_law_moment", "_law_word", "_law_between", "_law_some", "_law_one"] ["_law_m"] (defScope s__law_wants) := ⟨rfl, rfl, rfl, by decide +kernel, rfl, by decide +kernel, by decide +kernel⟩
theorem ok_lwants {f : Addr} {fd : FuncData} (F : Fun K "_law_wants" "_law_wants" s__law_wants f fd) (G : Glb K w mg dI) : FnOk P w K mg base CX0 1 f fd ["_law_m"] sp_lwants := by
  refine F.ok sc__law_wants (fun vs H Q E h => ?_) (fun cdv A outer s H vs Q E hr h => ?_)
  · obtain ⟨q, L, ds, m, T, rfl, _⟩ := h
    rfl
  · obtain ⟨q0, L, ds, m, T, rfl, ma, mo, q⟩ := h
    have hu := hu_of hr
    have htm := mo.tm
    have hT := mo.le
    have few := ma.kn.few
    refine ⟨_, (pss_cons (ps_set (i := 1) sc__law_wants.nd rfl (Or.inl rfl) (pe_lst pa_nil))
      (pss_cons (ps_for PassesOwn.never rfl (pi_range1 rfl G.range (pa_cons (pe_callB call_len_seq (by rfl) G.len (by decide +kernel) (pa_cons (pe_dget hu (pv 0) pe_str (fun _ _ => rfl)) pa_nil)) pa_nil)) (pg_name (i := 2) sc__law_wants.nd rfl (Or.inl rfl))
        (pss_cons (ps_set (i := 3) sc__law_wants.nd rfl (Or.inl rfl) pe_int)
          (pss_cons (ps_set (i := 4) sc__law_wants.nd rfl (Or.inl rfl) pe_int)
          (pss_one (ps_for PassesOwn.never rfl (pi_range2 rfl G.range (pa_cons pe_int (pa_cons (pe_op op_add (pe_dget hu (pv 0) pe_str (fun _ _ => rfl)) pe_int) pa_nil))) (pg_name (i := 5) sc__law_wants.nd rfl (Or.inl rfl))
            (pss_cons (ps_set (i := 6) sc__law_wants.nd rfl (Or.inl rfl) (pe_dget1 hu (pe_ix ix_list (pe_dget hu (pv 0) pe_str (fun _ _ => rfl)) (pv 2) (fun _ _ => rfl)) (pv 5) ⟨rfl, rfl, rfl, rfl⟩))
              (pss_one (ps_if (pt_cmpR op_notN (pv 6) pe_non (nomark _))
                (pss_cons (ps_set (i := 7) sc__law_wants.nd rfl (Or.inl rfl) (pe_listRg rfl rfl G.list (prg_2 rfl G.range (pe_op op_add (pv 4) pe_int) (pv 5))))
                  (pss_cons (ps_setLc (i := 8) (own := [("_law_one", 9)]) (g := gName 9) rfl sc__law_wants.nd rfl rfl (sw_true rfl rfl rfl (by decide +kernel)) (pi_list (pv 7)) (blkOk_by (own := [("_law_one", 9)]) (N := ["_law_m", "_law_found", "_law_badge", "_law_state", "_law_ahead", "_law_moment", "_law_word", "_law_between", "_law_some", "_law_one"]) (sc := defScope s__law_wants) (by decide +kernel)) (fun _ _ _ _ _ => (pg_name (i := 9) sc__law_wants.nd rfl (Or.inl rfl))) (fun _ _ _ _ _ => (pts_one (pt_cmpR op_ge (pe_op op_add (pv 9) (pe_dget hu (pv 0) pe_str (fun _ _ => rfl))) (pe_dget hu (pv 0) pe_str (fun _ _ => rfl)) (nomark _)))) (fun _ _ _ _ _ => (pv 9)))
                  (C8.pss_cut (ps_if (PW.pt (pw_and (pt_cmpR op_eq (pe_ix ix_list (pe_lst (pa_cons pe_str (pa_cons pe_str pa_nil))) (pv 3) (fun _ _ => rfl)) (pv 6) (nomark _)) (pw_and1 (PW.pt (pw_or (pt_cmpR (op_eqD hr.units) (pv 7) (pe_lst pa_nil) (nomark _)) (pw_or1 (pt_cmpR (op_eqD hr.units) (pv 8) (pe_lst pa_nil) (nomark _))))))))
                    (pss_one (ps_expr (pe_bm PySem.F.plainAttrs_list PySem.F.slot_list_append PySem.F.type_list_append mt_append (pv 1) (pa_cons (pe_tup (pa_cons (pv 2) (pa_cons (pv 4) (pa_cons (pv 5) (pa_cons (pe_ix ix_list (pe_lst (pa_cons pe_str (pa_cons pe_str pa_nil))) (pe_callTy call_int1 (by rfl) G.int (by decide +kernel) (pa_cons (pe_cmpR (op_eqD hr.units) (pv 7) (pe_lst pa_nil) (nomark _)) pa_nil)) (fun _ _ => rfl)) pa_nil))))) pa_nil))))
                    pss_nil)
                  (pss_cons (ps_set (i := 3) sc__law_wants.nd rfl (Or.inl rfl) (pe_callTy call_int1 (by rfl) G.int (by decide +kernel) (pa_cons (pe_cmpR op_eq (pv 6) pe_str (nomark _)) pa_nil)))
                  (pss_one (ps_set (i := 4) sc__law_wants.nd rfl (Or.inl rfl) (pv 5)))))))
                pss_nil))))))))
      (pss_one (ps_ret (pv 1))))), ?_⟩
    refine ⟨sz (by simp), fun p np => ?_⟩
    have s1 : Same H (upd H p (.lst [])) := Same.new np
    refine ⟨_, rfl, q0, _, rfl, (ma.same s1).g_known, L, _, rfl, .inl (SqL.of (ma.same s1).kn.lst), _, rfl, by omega, by rw [List.length_map, ma.kn.len]; omega, ?_⟩
    rw [List.length_map, ma.kn.len, Int.toNat_natCast]
    refine for_range0 (n := m.kns.length) (fun i σ H2 => ∃ (xs : List V) (o2 o3 o4 o5 o6 o7 o8 o9 : Option V), σ = [some (.ref q0), some (.ref p), o2, o3, o4, o5, o6, o7, o8, o9] ∧
        Same H H2 ∧ H2 p = some (.lst xs) ∧ TupsAt H2 xs ((awTo m.kns m.late m.time i).map Want.vs)) ⟨[], none, none, none, none, none, none, none, none, rfl, s1, upd_same, .nil⟩ ?_ ?_
    · rintro i σ H2 hi ⟨xs0, o2, o3, o4, o5, o6, o7, o8, o9, rfl, sH, hp, hx0⟩
      obtain ⟨ek, hkm⟩ := getD_mem hi
      obtain ⟨d, hd, hdk⟩ := Paired.get ma.kn.at_ ek
      have kt := mo.kn _ hkm
      have hlen0 := awTo_len ma.kn.ok m.late m.time i (by omega)
      have hxl0 : xs0.length = (awTo m.kns m.late m.time i).length := by have := hx0.length; rw [List.length_map] at this; exact this
      generalize hkn : m.kns.getD i [] = kn at *
      have m2 := ma.same sH
      refine ⟨_, rfl, q0, _, rfl, m2.g_time, _, _, rfl, rfl, 1, m.time + 1, rfl, ⟨by omega, by omega, by omega, by omega⟩, ?_⟩
      rw [show (m.time + 1 - 1).toNat = T by omega]
      refine for_range (lo := 1) (n := T) (fun j σ H3 => ∃ (xs : List V) (o5 o6 o7 o8 o9 : Option V), σ = [some (.ref q0), some (.ref p), some (.int (i : Int)), some (.int (wmTo i kn m.late m.time j).state), some (.int (wmTo i kn m.late m.time j).ahead), o5, o6, o7, o8, o9] ∧
          Same H H3 ∧ H3 p = some (.lst xs) ∧ TupsAt H3 xs ((awTo m.kns m.late m.time i ++ (wmTo i kn m.late m.time j).found).map Want.vs))
        ⟨xs0, _, _, _, _, _, rfl, sH, hp, by rw [show (wmTo i kn m.late m.time 0).found = [] from rfl, List.append_nil]; exact hx0⟩ ?_ ?_
      · rintro j σ H3 hj ⟨xs, o5, o6, o7, o8, o9, rfl, s3, hp3, hx3⟩
        rw [show (1 : Int) + (j : Int) = ((j + 1 : Nat) : Int) by push_cast; omega]
        have I := wi i kn m.late m.time j
        have stp := wmTo_succ i kn m.late m.time j
        generalize wmTo i kn m.late m.time j = S at *
        have Il := I.len
        have hxl : xs.length = (awTo m.kns m.late m.time i).length + S.found.length := by have := hx3.length; rw [List.length_map, List.length_append] at this; exact this
        have m3 := ma.same s3
        have hdk3 := s3 _ _ hdk
        have hg : DGet H3 d (.int ((j + 1 : Nat) : Int)) ((lookK kn ((j + 1 : Nat) : Int)).map V.str) := by
          have e : DGet H3 d (kV (Sum.inl ((j + 1 : Nat) : Int))) (valV (encK kn) (Sum.inl ((j + 1 : Nat) : Int))) := DGet.k hdk3
          rw [valV_enc] at e
          exact e
        refine ⟨_, rfl, q0, _, rfl, m3.g_known, _, rfl, L, _, _, .ref d, rfl, rfl, SqL.of m3.kn.lst, atI_nat (by rw [List.getElem?_map, hd]; rfl), d, rfl, .inl ⟨_, .inl hdk3⟩, _, rfl, _, hg, ?_⟩
        cases e : lookK kn ((j + 1 : Nat) : Int) with
        | none =>
          refine ⟨_, rfl, rfl, _, rfl, iteF ⟨xs, some (.int ((j + 1 : Nat) : Int)), some .non, o7, o8, o9, ?_, s3, hp3, ?_⟩⟩
          · rw [stp]
            unfold wstepM
            rw [e]
            rfl
          · rw [stp]
            unfold wstepM
            rw [e]
            exact hx3
        | some z =>
          have wz : Wd z := by
            obtain ⟨y, h1, h2⟩ := kt.ok.look (look_iff.mp (by rw [e]; rfl))
            rw [e] at h1
            cases h1
            exact h2
          have hst : wmTo i kn m.late m.time (j + 1) = wstep i kn m.late m.time S ((j + 1 : Nat) : Int) := by
            rw [stp]
            unfold wstepM
            rw [e]
            exact if_pos rfl
          have ez : insOf ((lookK kn ((j + 1 : Nat) : Int)).getD "") = insOf z := by rw [e]; rfl
          have alt : S.ahead < ((j + 1 : Nat) : Int) := by have := I.a1; push_cast; omega
          have a0 := I.a0
          have a1 := I.a1
          generalize hmm : ((j + 1 : Nat) : Int) = mm at *
          refine ⟨_, rfl, rfl, _, rfl, iteT ?_⟩
          -- between
          refine ⟨_, rfl, _, _, rfl, rfl, _, rfl, _, _, rfl, rfl, RgOk.of_le (by omega) (by omega) (by omega) (by omega), fun bA nb => ?_⟩
          have s4 : Same H3 (upd H3 bA (.lst (rgV (S.ahead + 1) mm))) := Same.new nb
          have hb4 : upd H3 bA (.lst (rgV (S.ahead + 1) mm)) bA = some (.lst (rgV (S.ahead + 1) mm)) := upd_same
          generalize upd H3 bA (.lst (rgV (S.ahead + 1) mm)) = H4 at *
          -- some
          refine ⟨_, rfl, bA, rfl, ⟨_, SqL.of hb4⟩, fun D nD => ?_⟩
          refine lc_over (K := K) (enc := fun i : Nat => V.int (S.ahead + 1 + (i : Nat))) (l := List.range (mm - (S.ahead + 1)).toNat) (fun i => decide (m.time ≤ S.ahead + 1 + ((i : Nat) : Int) + m.late)) (fun i => V.int (S.ahead + 1 + (i : Nat))) (SqL.of hb4) nD (by rw [List.length_range]; omega) (fun _ => rfl) (fun x _ => ?_) (fun x _ _ => GivesV.var rfl) fun H5 s5 hD => ?_
          · intro H5 s5 Q5 q5
            have m5 := (m3.same s4).same s5
            exact ⟨_, rfl, _, rfl, q0, _, rfl, m5.g_late, _, _, rfl, rfl, _, rfl, q0, _, rfl, m5.g_time, _, _, rfl, rfl, _, rfl, q5 H5 (Same.refl _)⟩
          have hD' : H5 D = some (.lst ((openM S.ahead m.late m.time (mm - (S.ahead + 1)).toNat).map fun i : Nat => V.int (S.ahead + 1 + (i : Nat)))) := hD
          have okS : ∀ v ∈ (openM S.ahead m.late m.time (mm - (S.ahead + 1)).toNat).map (fun i : Nat => V.int (S.ahead + 1 + (i : Nat))), okV v = true := by
            intro v hv
            obtain ⟨i, _, rfl⟩ := List.mem_map.mp hv
            rfl
          have s35 : Same H H5 := (s3.trans s4).trans s5
          have hp5 := s5 _ _ (s4 _ _ hp3)
          have hb5 := s5 _ _ hb4
          have hx5 := hx3.mono (TupS.of_same (s4.trans s5))
          clear hD
          -- the if
          refine ⟨fun σ H6 => ∃ (xs : List V), σ = [some (.ref q0), some (.ref p), some (.int (i : Int)), some (.int S.state), some (.int S.ahead), some (.int mm), some (.str z), some (.ref bA), some (.ref D), o9] ∧
            Same H H6 ∧ H6 p = some (.lst xs) ∧ TupsAt H6 xs ((awTo m.kns m.late m.time i ++ (wstep i kn m.late m.time S mm).found).map Want.vs), ?_, ?_⟩
          · obtain ⟨y, hy, hyz⟩ := word_at I.st
            refine ⟨sz (by simp), fun pl npl => ⟨_, rfl, pl, _, _, _, rfl, rfl, SqL.of upd_same, hy, _, rfl, rfl, _, rfl, ?_⟩⟩
            have s6 : Same H5 (upd H5 pl (.lst [.str "out", .str "in"])) := Same.new npl
            generalize upd H5 pl (.lst [.str "out", .str "in"]) = H6 at *
            by_cases h1 : insOf z = S.state
            · refine ifT ((hyz z wz).trans (decide_eq_true h1)) ?_
              have app : ∀ (wd : Str) (H7 : Hp) (t : Addr), Same H5 H7 → H7 t = none → (wstep i kn m.late m.time S mm).found = S.found ++ [⟨i, S.ahead, mm, wd⟩] →
                  ∃ xs' : List V, Same H (upd (upd H7 t (.tup [.int (i : Int), .int S.ahead, .int mm, .str wd])) p (.lst (xs ++ [.ref t]))) ∧ upd (upd H7 t (.tup [.int (i : Int), .int S.ahead, .int mm, .str wd])) p (.lst (xs ++ [.ref t])) p = some (.lst xs') ∧
                    TupsAt (upd (upd H7 t (.tup [.int (i : Int), .int S.ahead, .int mm, .str wd])) p (.lst (xs ++ [.ref t]))) xs' ((awTo m.kns m.late m.time i ++ (wstep i kn m.late m.time S mm).found).map Want.vs) := by
                intro wd H7 t s7 nt ef
                have hp7 := s7 _ _ hp5
                have ntp : t ≠ p := fun z => by rw [z, hp7] at nt; cases nt
                have t3 : TupS H5 (upd (upd H7 t (.tup [.int (i : Int), .int S.ahead, .int mm, .str wd])) p (.lst (xs ++ [.ref t]))) :=
                  TupS.upd (TupS.of_same (s7.trans (Same.new nt))) (by rw [upd_ne ntp.symm, hp7]; intro xs z; cases z)
                refine ⟨_, Same.mut ((s35.trans s7).trans (Same.new nt)) np, upd_same, ?_⟩
                rw [ef, ← List.append_assoc, List.map_append]
                exact Paired.append (hx5.mono t3) (.cons ⟨t, rfl, by rw [upd_ne ntp, upd_same]; rfl⟩ .nil)
              refine ⟨_, rfl, sz (by simp), fun e1 ne1 => ⟨.list ((rgV (S.ahead + 1) mm).map fdat), .list [], .lst (SqL.of ((s6.trans (Same.new ne1)) _ _ hb5)) (dp_flats rg_ok), dp_nil upd_same, shaped_flats rg_ok, shaped_nil, _, rfl, ?_⟩⟩
              have s7 : Same H5 (upd H6 e1 (.lst [])) := s6.trans (Same.new ne1)
              generalize upd H6 e1 (.lst []) = H7 at *
              by_cases h2 : mm - S.ahead = 1
              · refine ifT (by rw [eqv_nil, List.isEmpty_map, btw_nil alt]; exact decide_eq_true h2) (iteT ?_)
                refine ⟨_, rfl, .inl ⟨rfl, _, SqL.of (s7 _ _ hp5)⟩, _, rfl, _, rfl, _, rfl, sz (by simp), fun l2 nl2 => ?_⟩
                have s8 : Same H7 (upd H7 l2 (.lst [.str "lost", .str "twice"])) := Same.new nl2
                have hl2 : upd H7 l2 (.lst [.str "lost", .str "twice"]) l2 = some (.lst [.str "lost", .str "twice"]) := upd_same
                generalize upd H7 l2 (.lst [.str "lost", .str "twice"]) = H8 at *
                refine ⟨_, rfl, sz (by simp), fun e2 ne2 => ⟨.list ((rgV (S.ahead + 1) mm).map fdat), .list [], .lst (SqL.of (((s7.trans s8).trans (Same.new ne2)) _ _ hb5)) (dp_flats rg_ok), dp_nil upd_same, shaped_flats rg_ok, shaped_nil, ?_⟩⟩
                have s9 : Same H8 (upd H8 e2 (.lst [])) := Same.new ne2
                generalize upd H8 e2 (.lst []) = H9 at *
                rw [eqv_nil, List.isEmpty_map, btw_nil alt, decide_eq_true h2]
                have s59 : Same H5 H9 := (s7.trans s8).trans s9
                refine .inr ⟨_, rfl, l2, _, _, .str "twice", rfl, rfl, SqL.of (s9 _ _ hl2), rfl, sz (by simp), fun t nt => ⟨p, xs, _, rfl, rfl, ?_, szl (by omega), ?_⟩⟩
                · rw [upd_ne (fun z => by rw [← z, s59 _ _ hp5] at nt; cases nt)]; exact s59 _ _ hp5
                · obtain ⟨xs', r⟩ := app "twice" H9 t s59 nt (by unfold wstep; simp only; rw [ez, if_pos h1, if_pos h2])
                  exact ⟨xs', rfl, r⟩
              · refine ifF (by rw [eqv_nil, List.isEmpty_map, btw_nil alt]; exact decide_eq_false h2) ?_
                refine ⟨_, rfl, sz (by simp), fun e3 ne3 => ⟨.list (((openM S.ahead m.late m.time (mm - (S.ahead + 1)).toNat).map fun i : Nat => V.int (S.ahead + 1 + (i : Nat))).map fdat), .list [], .lst (SqL.of ((s7.trans (Same.new ne3)) _ _ hD')) (dp_flats okS), dp_nil upd_same, shaped_flats okS, shaped_nil, _, rfl, ?_⟩⟩
                have s7' : Same H5 (upd H7 e3 (.lst [])) := s7.trans (Same.new ne3)
                generalize upd H7 e3 (.lst []) = H7' at *
                rw [eqv_nil, List.isEmpty_map, List.isEmpty_map, openM_nil alt h2]
                refine ite2 (fun h3 => ?_) (fun h3 => ?_)
                · refine ⟨_, rfl, .inl ⟨rfl, _, SqL.of (s7' _ _ hp5)⟩, _, rfl, _, rfl, _, rfl, sz (by simp), fun l2 nl2 => ?_⟩
                  have s8 : Same H7' (upd H7' l2 (.lst [.str "lost", .str "twice"])) := Same.new nl2
                  have hl2 : upd H7' l2 (.lst [.str "lost", .str "twice"]) l2 = some (.lst [.str "lost", .str "twice"]) := upd_same
                  generalize upd H7' l2 (.lst [.str "lost", .str "twice"]) = H8 at *
                  refine ⟨_, rfl, sz (by simp), fun e2 ne2 => ⟨.list ((rgV (S.ahead + 1) mm).map fdat), .list [], .lst (SqL.of (((s7'.trans s8).trans (Same.new ne2)) _ _ hb5)) (dp_flats rg_ok), dp_nil upd_same, shaped_flats rg_ok, shaped_nil, ?_⟩⟩
                  have s9 : Same H8 (upd H8 e2 (.lst [])) := Same.new ne2
                  generalize upd H8 e2 (.lst []) = H9 at *
                  rw [eqv_nil, List.isEmpty_map, btw_nil alt, decide_eq_false h2]
                  have s59 : Same H5 H9 := (s7'.trans s8).trans s9
                  refine .inr ⟨_, rfl, l2, _, _, .str "lost", rfl, rfl, SqL.of (s9 _ _ hl2), rfl, sz (by simp), fun t nt => ⟨p, xs, _, rfl, rfl, ?_, szl (by omega), ?_⟩⟩
                  · rw [upd_ne (fun z => by rw [← z, s59 _ _ hp5] at nt; cases nt)]; exact s59 _ _ hp5
                  · obtain ⟨xs', r⟩ := app "lost" H9 t s59 nt (by unfold wstep; simp only; rw [ez, if_pos h1, if_neg h2, if_pos h3])
                    exact ⟨xs', rfl, r⟩
                · refine ⟨xs, rfl, s35.trans s7', s7' _ _ hp5, ?_⟩
                  rw [show (wstep i kn m.late m.time S mm).found = S.found by unfold wstep; simp only; rw [ez, if_pos h1, if_neg h2, if_neg h3]]
                  exact hx5.mono (.of_same s7')
            · refine ifF ((hyz z wz).trans (decide_eq_false h1)) (iteF ⟨xs, rfl, s35.trans s6, s6 _ _ hp5, ?_⟩)
              rw [show (wstep i kn m.late m.time S mm).found = S.found by unfold wstep; simp only; rw [ez, if_neg h1]]
              exact hx5.mono (.of_same s6)
          · rintro σ H6 ⟨xs', rfl, s6, hp6, hx6⟩
            refine ⟨_, rfl, rfl, .inr ⟨_, rfl, _, rfl, ?_⟩⟩
            refine ⟨xs', some (.int mm), some (.str z), some (.ref bA), some (.ref D), o9, ?_, s6, hp6, by rw [hst]; exact hx6⟩
            rw [hst, word_in wz]
            show _ = [some (V.ref q0), some (V.ref p), some (V.int (i : Int)), some (V.int (insOf ((lookK kn mm).getD ""))), some (V.int mm), _, _, _, _, _]
            rw [ez]
            rfl
      · rintro σ H3 ⟨xs, o5, o6, o7, o8, o9, rfl, s3, hp3, hx3⟩
        refine ⟨xs, _, _, _, _, _, _, _, _, rfl, s3, hp3, ?_⟩
        show TupsAt H3 xs ((awTo m.kns m.late m.time i ++ wantsOf i (m.kns.getD i []) m.late m.time).map Want.vs)
        rw [hkn, wantsOf_eq kt.ok.nd kt.rg]
        exact hx3
    · rintro σ H2 ⟨xs0, o2, o3, o4, o5, o6, o7, o8, o9, rfl, sH, hp, hx0⟩
      exact ⟨_, rfl, q p xs0 H2 sH np hp hx0⟩
/-! ### _law_is_sound -/
def sp_lsound : Sp := fun vs H Q _ => ∃ (q L : Addr) (ds : List Addr) (m : Ms) (T : Nat), vs = [.ref q] ∧ MAt H q L ds m ∧ MOk m T ∧
  ∀ (H' : Hp), Same H H' → Q (.bl (borne (allWants m.kns m.late m.time) m.lost)) H'
theorem borne_in (ws : List Want) (lost : Int) : borne ws lost = ((!inV (.str "twice") (ws.map fun x => V.str x.word)) && decide ((ws.length : Int) ≤ lost)) := by
  unfold borne inV
  congr 1
  rw [Bool.eq_iff_iff, List.isEmpty_iff, List.filter_eq_nil_iff, Bool.not_eq_true', List.any_eq_false]
  constructor
  · intro h y hy
    obtain ⟨x, hx, rfl⟩ := List.mem_map.mp hy
    have := h x hx
    rw [decide_eq_true_eq] at this
    simpa [eqV] using this
  · intro h x hx
    have := h _ (List.mem_map.mpr ⟨x, hx, rfl⟩)
    rw [decide_eq_true_eq]
    simpa [eqV] using this
theorem sc__law_is_sound : FnScope ["_law_m", "_law_told", "_law_want"] ["_law_m"] (defScope s__law_is_sound) := ⟨rfl, rfl, rfl, by decide +kernel, rfl, by decide +kernel, by decide +kernel⟩
theorem ok_lsound {f : Addr} {fd : FuncData} (F : Fun K "_law_is_sound" "_law_is_sound" s__law_is_sound f fd) (G : Glb K w mg dI) (c__law_wants : C8.Cal P w K mg base 1 "_law_wants" sp_lwants []) : FnOk P w K mg base CX0 2 f fd ["_law_m"] sp_lsound := by
  refine F.ok sc__law_is_sound (fun vs H Q E h => ?_) (fun cdv A outer s H vs Q E hr h => ?_)
  · obtain ⟨q, L, ds, m, T, rfl, _⟩ := h
    rfl
  · obtain ⟨q0, L, ds, m, T, rfl, ma, mo, q⟩ := h
    have hu := hu_of hr
    refine ⟨_, (pss_cons (ps_setLc (i := 1) (own := [("_law_want", 2)]) (g := gName 2) (tt := tYes) rfl sc__law_is_sound.nd rfl rfl (sw_true rfl rfl rfl (by decide +kernel)) (pi_list (C8.pe_c c__law_wants hr (by decide) rfl (pa_cons (pv 0) pa_nil))) (blkOk_by (own := [("_law_want", 2)]) (N := ["_law_m", "_law_told", "_law_want"]) (sc := defScope s__law_is_sound) (by decide +kernel)) (fun _ _ _ _ _ => (pg_name (i := 2) sc__law_is_sound.nd rfl (Or.inl rfl))) (fun _ _ _ _ _ => pts_nil) (fun _ _ _ _ _ => (pe_ix (ix_tupK (K := K)) (pv 2) pe_int (fun _ _ => rfl))))
      (pss_one (ps_ret (pe_and (pe_cmpR op_notIn_seq pe_str (pv 1) (by rfl)) (pe_one (pe_cmpR op_le (pe_callB call_len_seq (by rfl) G.len (by decide +kernel) (pa_cons (pv 1) pa_nil)) (pe_dget hu (pv 0) pe_str (fun _ _ => rfl)) (nomark _))))))), ?_⟩
    refine ⟨_, rfl, q0, L, ds, m, T, rfl, ma, mo, fun a xs H1 s1 na hx tx => ⟨a, rfl, ⟨_, SqL.of hx⟩, fun D nD => ?_⟩⟩
    have few := aw_few ma.kn m.late m.time
    refine lc_tups (K := K) (fun _ => true) (fun x : Want => V.str x.word) tx (SqL.of hx) nD (by omega) (fun _ => rfl) (fun _ _ _ _ => GivesB.yes) (fun x tA hm ht _ => ?_) fun H2 s2 hD => ?_
    · intro H2 s2 Q2 q2
      exact ⟨_, rfl, tA, _, _, _, rfl, rfl, SqT.of (s2 _ _ ht), rfl, q2 H2 (Same.refl _)⟩
    · rw [List.filter_eq_self.mpr (fun _ _ => rfl)] at hD
      have m2 := (ma.same s1).same s2
      refine ⟨_, rfl, D, _, rfl, .inl (SqL.of hD), rfl, ?_, _, rfl, ?_⟩
      · rw [List.all_eq_true]
        intro v hv
        obtain ⟨x, _, rfl⟩ := List.mem_map.mp hv
        rfl
      · have qq := q H2 (s1.trans s2)
        rw [borne_in] at qq
        refine ite2 (fun h => ?_) (fun h => ?_)
        · have h' : (!inV (.str "twice") ((allWants m.kns m.late m.time).map fun x => V.str x.word)) = true := h
          rw [h', Bool.true_and] at qq
          refine ⟨_, rfl, D, _, rfl, .inl (SqL.of hD), _, rfl, q0, _, rfl, m2.g_lost, _, _, rfl, rfl, ?_⟩
          rw [List.length_map]
          exact qq
        · have h' : (!inV (.str "twice") ((allWants m.kns m.late m.time).map fun x => V.str x.word)) = false := Bool.eq_false_iff.mpr h
          rw [h', Bool.false_and] at qq
          exact qq
end
end IC
namespace IC
open PySem L2
/-- two values that tell the same, of the same kinds at every place, n deep -/
def Al (H : Hp) : Nat → V → V → Prop
  | 0, x, y => x = y ∧ okV x = true
  | n + 1, x, y => (x = y ∧ okV x = true) ∨ (∃ a b xs ys, x = .ref a ∧ y = .ref b ∧ H a = some (.lst xs) ∧ H b = some (.lst ys) ∧ Paired (Al H n) xs ys ∧ xs.length ≤ 100000) ∨
      (∃ a b xs ys, x = .ref a ∧ y = .ref b ∧ H a = some (.tup xs) ∧ H b = some (.tup ys) ∧ Paired (Al H n) xs ys ∧ xs.length ≤ 100000)
theorem Al.flat {H : Hp} {x : V} (h : okV x = true) : ∀ n, Al H n x x
  | 0 => ⟨rfl, h⟩
  | _ + 1 => .inl ⟨rfl, h⟩
theorem Al.up {H : Hp} : ∀ {n : Nat} {x y : V}, Al H n x y → Al H (n + 1) x y
  | 0, _, _, h => .inl h
  | n + 1, _, _, .inl h => .inl h
  | n + 1, _, _, .inr (.inl ⟨a, b, xs, ys, e1, e2, h1, h2, p, l⟩) => .inr (.inl ⟨a, b, xs, ys, e1, e2, h1, h2, Paired.mapP p fun _ _ r => Al.up r, l⟩)
  | n + 1, _, _, .inr (.inr ⟨a, b, xs, ys, e1, e2, h1, h2, p, l⟩) => .inr (.inr ⟨a, b, xs, ys, e1, e2, h1, h2, Paired.mapP p fun _ _ r => Al.up r, l⟩)
theorem Al.same {H H' : Hp} (s : Same H H') : ∀ {n : Nat} {x y : V}, Al H n x y → Al H' n x y
  | 0, _, _, h => h
  | n + 1, _, _, .inl h => .inl h
  | n + 1, _, _, .inr (.inl ⟨a, b, xs, ys, e1, e2, h1, h2, p, l⟩) => .inr (.inl ⟨a, b, xs, ys, e1, e2, s _ _ h1, s _ _ h2, Paired.mapP p fun _ _ r => Al.same s r, l⟩)
  | n + 1, _, _, .inr (.inr ⟨a, b, xs, ys, e1, e2, h1, h2, p, l⟩) => .inr (.inr ⟨a, b, xs, ys, e1, e2, s _ _ h1, s _ _ h2, Paired.mapP p fun _ _ r => Al.same s r, l⟩)
theorem Al.flats {H : Hp} {n : Nat} : ∀ {vs : List V}, (∀ v ∈ vs, okV v = true) → Paired (Al H n) vs vs
  | [], _ => .nil
  | v :: vs, h => .cons (Al.flat (h v List.mem_cons_self) n) (Al.flats fun u hu => h u (List.mem_cons_of_mem _ hu))
/-- two lists of the same flat tuples -/
theorem Al.tups {H : Hp} : ∀ {xs ys : List V} {ds : List (List V)}, TupsAt H xs ds → TupsAt H ys ds → (∀ d ∈ ds, ∀ v ∈ d, okV v = true) → (∀ d ∈ ds, d.length ≤ 100000) → Paired (Al H 1) xs ys
  | _, _, _, .nil, .nil, _, _ => .nil
  | _, _, _, .cons ⟨a, e1, h1⟩ t1, .cons ⟨b, e2, h2⟩ t2, ok, l => .cons (.inr (.inr ⟨a, b, _, _, e1, e2, h1, h2, Al.flats (ok _ List.mem_cons_self), l _ List.mem_cons_self⟩)) (Al.tups t1 t2 (fun d hd => ok d (List.mem_cons_of_mem _ hd)) fun d hd => l d (List.mem_cons_of_mem _ hd))
section
variable {P : Program} {w : World} {K : PySem.W.Frag} {mg : Str → Option Value} {base : Heap} {dI C : Addr}
def sp_alike (n : Nat) : Sp := fun vs H Q _ => ∃ (x y : V), vs = [x, y] ∧ Al H n x y ∧ ∀ H', Same H H' → Q (.bl true) H'
theorem sp_alike_up {n : Nat} {vs : List V} {H : Hp} {Q : VK} {E : XK} (h : sp_alike n vs H Q E) : sp_alike (n + 1) vs H Q E := by
  obtain ⟨x, y, e, a, q⟩ := h
  exact ⟨x, y, e, a.up, q⟩
theorem sc__law_alike : FnScope ["_law_found", "_law_due_here", "_law_k"] ["_law_found", "_law_due_here"] (defScope s__law_alike) := ⟨rfl, rfl, rfl, by decide +kernel, rfl, by decide +kernel, by decide +kernel⟩
theorem alike0 {f : Addr} {fd : FuncData} (F : Fun K "_law_alike" "_law_alike" s__law_alike f fd) (G : Glb K w mg dI) : FnOk P w K mg base CX0 1 f fd ["_law_found", "_law_due_here"] (sp_alike 0) := by
  refine F.ok sc__law_alike (fun vs H Q E h => ?_) (fun cdv A outer s H vs Q E hr h => ?_)
  · obtain ⟨x, y, rfl, _⟩ := h
    rfl
  · obtain ⟨x, y, rfl, ⟨e, ok⟩, q⟩ := h
    subst e
    refine ⟨_, (pss_cons (ps_if (PW.pt (pw_or (pt_val (pe_callB call_isi (by rfl) G.isinstance (by decide +kernel) (pa_cons (pv 1) (pa_cons (pe_bltn (v := .ty "tuple") (by rfl) G.tuple (by decide +kernel) rfl) pa_nil)))) (pw_or1 (pt_val (pe_callB call_isi (by rfl) G.isinstance (by decide +kernel) (pa_cons (pv 1) (pa_cons (pe_bltn (v := .ty "list") (by rfl) G.list (by decide +kernel) rfl) pa_nil)))))))
        (pss_cons (ps_if (PW.pt (pw_or (pt_cmpR op_ne (pe_callB call_isi (by rfl) G.isinstance (by decide +kernel) (pa_cons (pv 0) (pa_cons (pe_bltn (v := .ty "tuple") (by rfl) G.tuple (by decide +kernel) rfl) pa_nil))) (pe_callB call_isi (by rfl) G.isinstance (by decide +kernel) (pa_cons (pv 1) (pa_cons (pe_bltn (v := .ty "tuple") (by rfl) G.tuple (by decide +kernel) rfl) pa_nil))) (nomark _)) (pw_or1 (pt_not (pt_val (pe_callB call_isiT (by rfl) G.isinstance (by decide +kernel) (pa_cons (pv 0) (pa_cons (pe_tup (pa_cons (pe_bltn (v := .ty "tuple") (by rfl) G.tuple (by decide +kernel) rfl) (pa_cons (pe_bltn (v := .ty "list") (by rfl) G.list (by decide +kernel) rfl) pa_nil))) pa_nil))))))))
            (pss_one (ps_ret pe_bl))
            pss_nil)
          (pss_cons (ps_if (pt_cmpR op_ne (pe_callB call_len_seq (by rfl) G.len (by decide +kernel) (pa_cons (pv 0) pa_nil)) (pe_callB call_len_seq (by rfl) G.len (by decide +kernel) (pa_cons (pv 1) pa_nil)) (nomark _))
            (pss_one (ps_ret pe_bl))
            pss_nil)
          (pss_one ps_never)))
        pss_nil)
      (pss_cons (ps_if (PW.pt (pw_or (pt_cmpR op_isN (pv 1) pe_non (nomark _)) (pw_or1 (pt_cmpR op_isN (pv 0) pe_non (nomark _)))))
        (pss_one (ps_ret (pe_and (pe_cmpR op_isN (pv 1) pe_non (nomark _)) (pe_one (pe_cmpR op_isN (pv 0) pe_non (nomark _))))))
        pss_nil)
      (pss_cons (ps_if (PW.pt (pw_or (pt_val (pe_callB call_isi (by rfl) G.isinstance (by decide +kernel) (pa_cons (pv 1) (pa_cons (pe_bltn (v := .ty "bool") (by rfl) G.bool (by decide +kernel) rfl) pa_nil)))) (pw_or1 (pt_val (pe_callB call_isi (by rfl) G.isinstance (by decide +kernel) (pa_cons (pv 0) (pa_cons (pe_bltn (v := .ty "bool") (by rfl) G.bool (by decide +kernel) rfl) pa_nil)))))))
        (pss_one (ps_ret (pe_and (pe_callB call_isi (by rfl) G.isinstance (by decide +kernel) (pa_cons (pv 1) (pa_cons (pe_bltn (v := .ty "bool") (by rfl) G.bool (by decide +kernel) rfl) pa_nil))) (pe_and (pe_callB call_isi (by rfl) G.isinstance (by decide +kernel) (pa_cons (pv 0) (pa_cons (pe_bltn (v := .ty "bool") (by rfl) G.bool (by decide +kernel) rfl) pa_nil))) (pe_one (pe_cmpR op_eq (pv 0) (pv 1) (nomark _)))))))
        pss_nil)
      (pss_cons (ps_if (pt_val (pe_callB call_isi (by rfl) G.isinstance (by decide +kernel) (pa_cons (pv 1) (pa_cons (pe_bltn (v := .ty "str") (by rfl) G.str (by decide +kernel) rfl) pa_nil))))
        (pss_one (ps_ret (pe_and (pe_callB call_isi (by rfl) G.isinstance (by decide +kernel) (pa_cons (pv 0) (pa_cons (pe_bltn (v := .ty "str") (by rfl) G.str (by decide +kernel) rfl) pa_nil))) (pe_one (pe_cmpR op_eq (pv 0) (pv 1) (nomark _))))))
        pss_nil)
      (pss_one (ps_ret (pe_and (pe_callB call_isi (by rfl) G.isinstance (by decide +kernel) (pa_cons (pv 0) (pa_cons (pe_bltn (v := .ty "int") (by rfl) G.int (by decide +kernel) rfl) pa_nil))) (pe_one (pe_cmpR op_eq (pv 0) (pv 1) (nomark _)))))))))), ?_⟩
    cases x with
    | non =>
      refine ⟨_, rfl, _, _, _, _, false, rfl, .ty _, .base .non, kit_ty (by decide +kernel), _, rfl, iteF ⟨_, rfl, _, _, _, _, false, rfl, .ty _, .base .non, kit_ty (by decide +kernel), _, rfl, iteF ?_⟩⟩
      refine ⟨_, rfl, rfl, _, rfl, iteT (iteT ?_)⟩
      exact ⟨_, rfl, rfl, _, rfl, iteT ⟨_, rfl, rfl, q H (Same.refl _)⟩⟩
    | bl b =>
      refine ⟨_, rfl, _, _, _, _, false, rfl, .ty _, .base (.bl _), kit_ty (by decide +kernel), _, rfl, iteF ⟨_, rfl, _, _, _, _, false, rfl, .ty _, .base (.bl _), kit_ty (by decide +kernel), _, rfl, iteF ?_⟩⟩
      refine ⟨_, rfl, rfl, _, rfl, iteF ⟨_, rfl, rfl, _, rfl, iteF ?_⟩⟩
      refine ⟨_, rfl, _, _, _, _, true, rfl, .ty _, .base (.bl _), kit_ty (by decide +kernel), _, rfl, iteT (iteT ?_)⟩
      refine ⟨_, rfl, _, _, _, _, true, rfl, .ty _, .base (.bl _), kit_ty (by decide +kernel), _, rfl, iteT ?_⟩
      refine ⟨_, rfl, _, _, _, _, true, rfl, .ty _, .base (.bl _), kit_ty (by decide +kernel), _, rfl, iteT ⟨_, rfl, _, rfl, rfl, ?_⟩⟩
      rw [decide_eq_true rfl]
      exact q H (Same.refl _)
    | int i =>
      refine ⟨_, rfl, _, _, _, _, false, rfl, .ty _, .base (.int _), kit_ty (by decide +kernel), _, rfl, iteF ⟨_, rfl, _, _, _, _, false, rfl, .ty _, .base (.int _), kit_ty (by decide +kernel), _, rfl, iteF ?_⟩⟩
      refine ⟨_, rfl, rfl, _, rfl, iteF ⟨_, rfl, rfl, _, rfl, iteF ?_⟩⟩
      refine ⟨_, rfl, _, _, _, _, false, rfl, .ty _, .base (.int _), kit_ty (by decide +kernel), _, rfl, iteF ⟨_, rfl, _, _, _, _, false, rfl, .ty _, .base (.int _), kit_ty (by decide +kernel), _, rfl, iteF ?_⟩⟩
      refine ⟨_, rfl, _, _, _, _, false, rfl, .ty _, .base (.int _), kit_ty (by decide +kernel), _, rfl, iteF ?_⟩
      refine ⟨_, rfl, _, _, _, _, true, rfl, .ty _, .base (.int _), kit_ty (by decide +kernel), _, rfl, iteT ⟨_, rfl, _, rfl, rfl, ?_⟩⟩
      rw [decide_eq_true rfl]
      exact q H (Same.refl _)
    | str z =>
      refine ⟨_, rfl, _, _, _, _, false, rfl, .ty _, .base (.str _), kit_ty (by decide +kernel), _, rfl, iteF ⟨_, rfl, _, _, _, _, false, rfl, .ty _, .base (.str _), kit_ty (by decide +kernel), _, rfl, iteF ?_⟩⟩
      refine ⟨_, rfl, rfl, _, rfl, iteF ⟨_, rfl, rfl, _, rfl, iteF ?_⟩⟩
      refine ⟨_, rfl, _, _, _, _, false, rfl, .ty _, .base (.str _), kit_ty (by decide +kernel), _, rfl, iteF ⟨_, rfl, _, _, _, _, false, rfl, .ty _, .base (.str _), kit_ty (by decide +kernel), _, rfl, iteF ?_⟩⟩
      refine ⟨_, rfl, _, _, _, _, true, rfl, .ty _, .base (.str _), kit_ty (by decide +kernel), _, rfl, iteT ?_⟩
      refine ⟨_, rfl, _, _, _, _, true, rfl, .ty _, .base (.str _), kit_ty (by decide +kernel), _, rfl, iteT ⟨_, rfl, _, rfl, rfl, ?_⟩⟩
      rw [decide_eq_true rfl]
      exact q H (Same.refl _)
    | ref a => cases ok
    | flt b => cases ok
    | byt b => cases ok
    | ty n => cases ok
theorem alike1 {n : Nat} {f : Addr} {fd : FuncData} (F : Fun K "_law_alike" "_law_alike" s__law_alike f fd) (G : Glb K w mg dI) (c__law_alike : C8.Cal P w K mg base (n + 1) "_law_alike" (sp_alike n) []) : FnOk P w K mg base CX0 (n + 2) f fd ["_law_found", "_law_due_here"] (sp_alike (n + 1)) := by
  refine F.ok sc__law_alike (fun vs H Q E h => ?_) (fun cdv A outer s H vs Q E hr h => ?_)
  · obtain ⟨x, y, rfl, _⟩ := h
    rfl
  · obtain ⟨x, y, rfl, al, q⟩ := h
    refine ⟨_, (pss_cons (ps_if (PW.pt (pw_or (pt_val (pe_callB call_isi (by rfl) G.isinstance (by decide +kernel) (pa_cons (pv 1) (pa_cons (pe_bltn (v := .ty "tuple") (by rfl) G.tuple (by decide +kernel) rfl) pa_nil)))) (pw_or1 (pt_val (pe_callB call_isi (by rfl) G.isinstance (by decide +kernel) (pa_cons (pv 1) (pa_cons (pe_bltn (v := .ty "list") (by rfl) G.list (by decide +kernel) rfl) pa_nil)))))))
        (pss_cons (ps_if (PW.pt (pw_or (pt_cmpR op_ne (pe_callB call_isi (by rfl) G.isinstance (by decide +kernel) (pa_cons (pv 0) (pa_cons (pe_bltn (v := .ty "tuple") (by rfl) G.tuple (by decide +kernel) rfl) pa_nil))) (pe_callB call_isi (by rfl) G.isinstance (by decide +kernel) (pa_cons (pv 1) (pa_cons (pe_bltn (v := .ty "tuple") (by rfl) G.tuple (by decide +kernel) rfl) pa_nil))) (nomark _)) (pw_or1 (pt_not (pt_val (pe_callB call_isiT (by rfl) G.isinstance (by decide +kernel) (pa_cons (pv 0) (pa_cons (pe_tup (pa_cons (pe_bltn (v := .ty "tuple") (by rfl) G.tuple (by decide +kernel) rfl) (pa_cons (pe_bltn (v := .ty "list") (by rfl) G.list (by decide +kernel) rfl) pa_nil))) pa_nil))))))))
            (pss_one (ps_ret pe_bl))
            pss_nil)
          (pss_cons (ps_if (pt_cmpR op_ne (pe_callB call_len_seq (by rfl) G.len (by decide +kernel) (pa_cons (pv 0) pa_nil)) (pe_callB call_len_seq (by rfl) G.len (by decide +kernel) (pa_cons (pv 1) pa_nil)) (nomark _))
            (pss_one (ps_ret pe_bl))
            pss_nil)
          (pss_one (ps_ret (pe_cmpR (op_eqD hr.units) (pe_lc (own := [("_law_k", 2)]) (g := gName 2) rfl sc__law_alike.nd (pi_range1 rfl G.range (pa_cons (pe_callB call_len_seq (by rfl) G.len (by decide +kernel) (pa_cons (pv 1) pa_nil)) pa_nil)) (blkOk_by (own := [("_law_k", 2)]) (N := ["_law_found", "_law_due_here", "_law_k"]) (sc := defScope s__law_alike) (by decide +kernel)) (fun _ _ _ _ _ => (pg_name (i := 2) sc__law_alike.nd rfl (Or.inl rfl))) (fun _ _ _ _ _ => (pts_one (pt_not (pt_val (C8.pe_c c__law_alike hr (Nat.le_refl _) rfl (pa_cons (pe_ix (ix_seqK (K := K)) (pv 0) (pv 2) (fun _ _ => rfl)) (pa_cons (pe_ix (ix_seqK (K := K)) (pv 1) (pv 2) (fun _ _ => rfl)) pa_nil))))))) (fun _ _ _ _ _ => (pv 2))) (pe_lst pa_nil) (nomark _))))))
        pss_nil)
      (pss_cons (ps_if (PW.pt (pw_or (pt_cmpR op_isN (pv 1) pe_non (nomark _)) (pw_or1 (pt_cmpR op_isN (pv 0) pe_non (nomark _)))))
        (pss_one (ps_ret (pe_and (pe_cmpR op_isN (pv 1) pe_non (nomark _)) (pe_one (pe_cmpR op_isN (pv 0) pe_non (nomark _))))))
        pss_nil)
      (pss_cons (ps_if (PW.pt (pw_or (pt_val (pe_callB call_isi (by rfl) G.isinstance (by decide +kernel) (pa_cons (pv 1) (pa_cons (pe_bltn (v := .ty "bool") (by rfl) G.bool (by decide +kernel) rfl) pa_nil)))) (pw_or1 (pt_val (pe_callB call_isi (by rfl) G.isinstance (by decide +kernel) (pa_cons (pv 0) (pa_cons (pe_bltn (v := .ty "bool") (by rfl) G.bool (by decide +kernel) rfl) pa_nil)))))))
        (pss_one (ps_ret (pe_and (pe_callB call_isi (by rfl) G.isinstance (by decide +kernel) (pa_cons (pv 1) (pa_cons (pe_bltn (v := .ty "bool") (by rfl) G.bool (by decide +kernel) rfl) pa_nil))) (pe_and (pe_callB call_isi (by rfl) G.isinstance (by decide +kernel) (pa_cons (pv 0) (pa_cons (pe_bltn (v := .ty "bool") (by rfl) G.bool (by decide +kernel) rfl) pa_nil))) (pe_one (pe_cmpR op_eq (pv 0) (pv 1) (nomark _)))))))
        pss_nil)
      (pss_cons (ps_if (pt_val (pe_callB call_isi (by rfl) G.isinstance (by decide +kernel) (pa_cons (pv 1) (pa_cons (pe_bltn (v := .ty "str") (by rfl) G.str (by decide +kernel) rfl) pa_nil))))
        (pss_one (ps_ret (pe_and (pe_callB call_isi (by rfl) G.isinstance (by decide +kernel) (pa_cons (pv 0) (pa_cons (pe_bltn (v := .ty "str") (by rfl) G.str (by decide +kernel) rfl) pa_nil))) (pe_one (pe_cmpR op_eq (pv 0) (pv 1) (nomark _))))))
        pss_nil)
      (pss_one (ps_ret (pe_and (pe_callB call_isi (by rfl) G.isinstance (by decide +kernel) (pa_cons (pv 0) (pa_cons (pe_bltn (v := .ty "int") (by rfl) G.int (by decide +kernel) rfl) pa_nil))) (pe_one (pe_cmpR op_eq (pv 0) (pv 1) (nomark _)))))))))), ?_⟩
    rcases al with ⟨e, ok⟩ | ⟨a, b, xs, ys, rfl, rfl, ha, hb, pr, hl⟩ | ⟨a, b, xs, ys, rfl, rfl, ha, hb, pr, hl⟩
    · subst e
      cases x with
      | non =>
        refine ⟨_, rfl, _, _, _, _, false, rfl, .ty _, .base .non, kit_ty (by decide +kernel), _, rfl, iteF ⟨_, rfl, _, _, _, _, false, rfl, .ty _, .base .non, kit_ty (by decide +kernel), _, rfl, iteF ?_⟩⟩
        refine ⟨_, rfl, rfl, _, rfl, iteT (iteT ?_)⟩
        exact ⟨_, rfl, rfl, _, rfl, iteT ⟨_, rfl, rfl, q H (Same.refl _)⟩⟩
      | bl b =>
        refine ⟨_, rfl, _, _, _, _, false, rfl, .ty _, .base (.bl _), kit_ty (by decide +kernel), _, rfl, iteF ⟨_, rfl, _, _, _, _, false, rfl, .ty _, .base (.bl _), kit_ty (by decide +kernel), _, rfl, iteF ?_⟩⟩
        refine ⟨_, rfl, rfl, _, rfl, iteF ⟨_, rfl, rfl, _, rfl, iteF ?_⟩⟩
        refine ⟨_, rfl, _, _, _, _, true, rfl, .ty _, .base (.bl _), kit_ty (by decide +kernel), _, rfl, iteT (iteT ?_)⟩
        refine ⟨_, rfl, _, _, _, _, true, rfl, .ty _, .base (.bl _), kit_ty (by decide +kernel), _, rfl, iteT ?_⟩
        refine ⟨_, rfl, _, _, _, _, true, rfl, .ty _, .base (.bl _), kit_ty (by decide +kernel), _, rfl, iteT ⟨_, rfl, _, rfl, rfl, ?_⟩⟩
        rw [decide_eq_true rfl]
        exact q H (Same.refl _)
      | int i =>
        refine ⟨_, rfl, _, _, _, _, false, rfl, .ty _, .base (.int _), kit_ty (by decide +kernel), _, rfl, iteF ⟨_, rfl, _, _, _, _, false, rfl, .ty _, .base (.int _), kit_ty (by decide +kernel), _, rfl, iteF ?_⟩⟩
        refine ⟨_, rfl, rfl, _, rfl, iteF ⟨_, rfl, rfl, _, rfl, iteF ?_⟩⟩
        refine ⟨_, rfl, _, _, _, _, false, rfl, .ty _, .base (.int _), kit_ty (by decide +kernel), _, rfl, iteF ⟨_, rfl, _, _, _, _, false, rfl, .ty _, .base (.int _), kit_ty (by decide +kernel), _, rfl, iteF ?_⟩⟩
        refine ⟨_, rfl, _, _, _, _, false, rfl, .ty _, .base (.int _), kit_ty (by decide +kernel), _, rfl, iteF ?_⟩
        refine ⟨_, rfl, _, _, _, _, true, rfl, .ty _, .base (.int _), kit_ty (by decide +kernel), _, rfl, iteT ⟨_, rfl, _, rfl, rfl, ?_⟩⟩
        rw [decide_eq_true rfl]
        exact q H (Same.refl _)
      | str z =>
        refine ⟨_, rfl, _, _, _, _, false, rfl, .ty _, .base (.str _), kit_ty (by decide +kernel), _, rfl, iteF ⟨_, rfl, _, _, _, _, false, rfl, .ty _, .base (.str _), kit_ty (by decide +kernel), _, rfl, iteF ?_⟩⟩
        refine ⟨_, rfl, rfl, _, rfl, iteF ⟨_, rfl, rfl, _, rfl, iteF ?_⟩⟩
        refine ⟨_, rfl, _, _, _, _, false, rfl, .ty _, .base (.str _), kit_ty (by decide +kernel), _, rfl, iteF ⟨_, rfl, _, _, _, _, false, rfl, .ty _, .base (.str _), kit_ty (by decide +kernel), _, rfl, iteF ?_⟩⟩
        refine ⟨_, rfl, _, _, _, _, true, rfl, .ty _, .base (.str _), kit_ty (by decide +kernel), _, rfl, iteT ?_⟩
        refine ⟨_, rfl, _, _, _, _, true, rfl, .ty _, .base (.str _), kit_ty (by decide +kernel), _, rfl, iteT ⟨_, rfl, _, rfl, rfl, ?_⟩⟩
        rw [decide_eq_true rfl]
        exact q H (Same.refl _)
      | ref a => cases ok
      | flt b => cases ok
      | byt b => cases ok
      | ty n => cases ok
    · have ll : xs.length = ys.length := pr.length
      refine ⟨_, rfl, _, _, _, _, false, rfl, .ty _, .base (.lst hb), kit_ty (by decide +kernel), _, rfl, iteF ⟨_, rfl, _, _, _, _, true, rfl, .ty _, .base (.lst hb), kit_ty (by decide +kernel), _, rfl, iteT ?_⟩⟩
      refine ⟨_, rfl, _, _, _, _, false, rfl, .ty _, .base (.lst ha), kit_ty (by decide +kernel), _, rfl, _, _, _, _, false, rfl, .ty _, .base (.lst hb), kit_ty (by decide +kernel), rfl, _, rfl, iteF ?_⟩
      refine ⟨_, rfl, sz (by simp), fun tp ntp => ⟨_, tp, _, _, [.type "tuple", .type "list"], true, rfl, upd_same, .cons (.ty _) (.cons (.ty _) .nil), .base (.lst ((Same.new ntp) _ _ ha)), kitAny_cons (kit_ty (b := "tuple") (r := false) (by decide +kernel)) (fun _ => kitAny_cons (kit_ty (b := "list") (r := true) (by decide +kernel)) (fun h => nomatch h) (fun _ => rfl)) (fun h => nomatch h), _, rfl, iteF ?_⟩⟩
      have s1 : Same H (upd H tp (.tup [.ty "tuple", .ty "list"])) := Same.new ntp
      generalize upd H tp (.tup [.ty "tuple", .ty "list"]) = H1 at *
      have ha1 := s1 _ _ ha
      have hb1 := s1 _ _ hb
      refine ⟨_, rfl, a, _, rfl, .inl (SqL.of ha1), _, rfl, b, _, rfl, .inl (SqL.of hb1), rfl, _, rfl, ifF (by rw [ll]; simp) ?_⟩
      refine ⟨_, rfl, b, _, rfl, .inl (SqL.of hb1), _, rfl, by omega, by omega, fun D nD => ?_⟩
      rw [Int.toNat_natCast]
      refine lc_vals (n := ys.length) (fun _ => false) (fun o => .int (o : Int)) nD (by omega) (fun _ => rfl) (fun k hk => ?_) (fun o ho z => by cases z) fun H2 s2 hD => ?_
      · intro H2 s2 Q2 q2
        have ey : ys[k]? = some ys[k] := List.getElem?_eq_getElem hk
        obtain ⟨xv, ex, al⟩ := Paired.get pr ey
        refine ⟨_, rfl, _, rfl, .inl ⟨a, _, _, xv, rfl, rfl, SqL.of (s2 _ _ ha1), atI_nat ex, _, rfl, _, rfl, .inl ⟨b, _, _, ys[k], rfl, rfl, SqL.of (s2 _ _ hb1), atI_nat ey, xv, ys[k], rfl, al.same (s1.trans s2), fun H3 s3 => ⟨_, rfl, q2 H3 s3⟩⟩⟩⟩
      · have hD' : H2 D = some (.lst []) := by
          rw [hD]
          simp
        refine ⟨sz (by simp), fun e ne => ?_⟩
        have s3 : Same H2 (upd H2 e (.lst [])) := Same.new ne
        refine ⟨.list [], .list [], dp_nil (s3 _ _ hD'), dp_nil upd_same, shaped_nil, shaped_nil, ?_⟩
        rw [eqv_nil]
        exact q _ ((s1.trans s2).trans s3)
    · have ll : xs.length = ys.length := pr.length
      refine ⟨_, rfl, _, _, _, _, true, rfl, .ty _, .base (.tup hb), kit_ty (by decide +kernel), _, rfl, iteT (iteT ?_)⟩
      refine ⟨_, rfl, _, _, _, _, true, rfl, .ty _, .base (.tup ha), kit_ty (by decide +kernel), _, rfl, _, _, _, _, true, rfl, .ty _, .base (.tup hb), kit_ty (by decide +kernel), rfl, _, rfl, iteF ?_⟩
      refine ⟨_, rfl, sz (by simp), fun tp ntp => ⟨_, tp, _, _, [.type "tuple", .type "list"], true, rfl, upd_same, .cons (.ty _) (.cons (.ty _) .nil), .base (.tup ((Same.new ntp) _ _ ha)), kitAny_cons (kit_ty (b := "tuple") (r := true) (by decide +kernel)) (fun h => nomatch h) (fun _ => rfl), _, rfl, iteF ?_⟩⟩
      have s1 : Same H (upd H tp (.tup [.ty "tuple", .ty "list"])) := Same.new ntp
      generalize upd H tp (.tup [.ty "tuple", .ty "list"]) = H1 at *
      have ha1 := s1 _ _ ha
      have hb1 := s1 _ _ hb
      refine ⟨_, rfl, a, _, rfl, .inr (SqT.of ha1), _, rfl, b, _, rfl, .inr (SqT.of hb1), rfl, _, rfl, ifF (by rw [ll]; simp) ?_⟩
      refine ⟨_, rfl, b, _, rfl, .inr (SqT.of hb1), _, rfl, by omega, by omega, fun D nD => ?_⟩
      rw [Int.toNat_natCast]
      refine lc_vals (n := ys.length) (fun _ => false) (fun o => .int (o : Int)) nD (by omega) (fun _ => rfl) (fun k hk => ?_) (fun o ho z => by cases z) fun H2 s2 hD => ?_
      · intro H2 s2 Q2 q2
        have ey : ys[k]? = some ys[k] := List.getElem?_eq_getElem hk
        obtain ⟨xv, ex, al⟩ := Paired.get pr ey
        refine ⟨_, rfl, _, rfl, .inr <| .inl ⟨a, _, _, xv, rfl, rfl, SqT.of (s2 _ _ ha1), atI_nat ex, _, rfl, _, rfl, .inr <| .inl ⟨b, _, _, ys[k], rfl, rfl, SqT.of (s2 _ _ hb1), atI_nat ey, xv, ys[k], rfl, al.same (s1.trans s2), fun H3 s3 => ⟨_, rfl, q2 H3 s3⟩⟩⟩⟩
      · have hD' : H2 D = some (.lst []) := by
          rw [hD]
          simp
        refine ⟨sz (by simp), fun e ne => ?_⟩
        have s3 : Same H2 (upd H2 e (.lst [])) := Same.new ne
        refine ⟨.list [], .list [], dp_nil (s3 _ _ hD'), dp_nil upd_same, shaped_nil, shaped_nil, ?_⟩
        rw [eqv_nil]
        exact q _ ((s1.trans s2).trans s3)
/-- n deep, by as many levels -/
theorem ok_alike {f : Addr} {fd : FuncData} (F : Fun K "_law_alike" "_law_alike" s__law_alike f fd) (G : Glb K w mg dI) (m : mg "_law_alike" = some (.ref f)) (b : Binds K fd ["_law_found", "_law_due_here"] []) : ∀ n, FnOk P w K mg base CX0 (n + 1) f fd ["_law_found", "_law_due_here"] (sp_alike n)
  | 0 => alike0 F G
  | n + 1 => alike1 F G ⟨f, fd, _, [], ok_alike F G m b n, m, F.kp, b, .nil⟩
end
end IC
namespace IC
open PySem L2
/-! ### the least price of stories that have a state behind a moment, moment by moment -/
def lval (kn : Kn) (late T : Int) (at_ wanted : Nat) (p : Int × Int) (m st : Nat) : Int := match lookK kn (m : Nat) with
  | none => if m ≠ at_ ∨ st = wanted then min (sel p (1 - st) + lostI m late T) (sel p st) else 99
  | some z => if insOf z = st ∧ (m ≠ at_ ∨ st = wanted) then sel p (1 - st) else 99
def leastD (kn : Kn) (late T : Int) (at_ wanted : Nat) : Nat → Int × Int
  | 0 => (0, 99)
  | k + 1 => (lval kn late T at_ wanted (leastD kn late T at_ wanted k) (k + 1) 0, lval kn late T at_ wanted (leastD kn late T at_ wanted k) (k + 1) 1)
def leastL (kn : Kn) (late : Int) (T at_ wanted : Nat) : Int := min (min (leastD kn late T at_ wanted T).1 (leastD kn late T at_ wanted T).2) 99
theorem at_sel' {p : Int × Int} {o : Nat} (h : o < 2) : atI [V.int p.1, V.int p.2] (1 - (o : Int)) = some (.int (sel p (1 - o))) := by
  have : o = 0 ∨ o = 1 := by omega
  rcases this with rfl | rfl <;> rfl
theorem min3_of {a b c m : Int} (h1 : m ∈ [a, b, c]) (h2 : ∀ y ∈ [a, b, c], m ≤ y) : m = min (min a b) c := by
  have := h2 a (by simp)
  have := h2 b (by simp)
  have := h2 c (by simp)
  simp at h1
  omega
theorem good_of {z : Str} {st : Nat} (h : st < 2) (wz : Wd z) : ∃ y : Str, atI [V.str "out", V.str "in"] (st : Int) = some (.str y) ∧ decide (V.str y = V.str z) = decide (insOf z = st) := by
  obtain ⟨y, h1, h2⟩ := word_at (st := (st : Int)) (by omega)
  exact ⟨y, h1, h2 z wz⟩
section
variable {P : Program} {w : World} {K : PySem.W.Frag} {mg : Str → Option Value} {base : Heap} {dI C : Addr}
end
end IC
namespace IC
open PySem L2
/-! ### the law's least price is the least price of all stories with a state behind a moment -/
def Bd (n : Nat) (x : Int) : Prop := (0 ≤ x ∧ x ≤ n) ∨ NEV ≤ x
theorem step_cases (kn : Kn) (late now m a b : Int) : stepP kn late now m a b = 0 ∨ stepP kn late now m a b = 1 ∨ stepP kn late now m a b = NEV := by
  unfold stepP
  split
  · split
    · unfold turnP
      split
      · split
        · exact .inl rfl
        · exact .inr (.inr rfl)
      · rename_i h
        cases h
    · exact .inr (.inr rfl)
  · unfold turnP
    split
    · rename_i h
      cases h
    · split
      · exact .inr (.inl rfl)
      · exact .inl rfl
theorem ahead_bd (kn : Kn) (late now : Int) : ∀ n, n ≤ 1000 → Bd n (aheadP kn late now n).1 ∧ Bd n (aheadP kn late now n).2
  | 0, _ => by simp [aheadP, Bd, NEV]
  | n + 1, hn => by
    have ih := ahead_bd kn late now n (by omega)
    have h1 := step_cases kn late now (n + 1 : Nat) 0 0
    have h2 := step_cases kn late now (n + 1 : Nat) 1 0
    have h3 := step_cases kn late now (n + 1 : Nat) 0 1
    have h4 := step_cases kn late now (n + 1 : Nat) 1 1
    have NE : NEV = 1000000 := rfl
    have eA : aheadP kn late now (n + 1) = (min ((aheadP kn late now n).1 + stepP kn late now ((n + 1 : Nat) : Int) 0 0) ((aheadP kn late now n).2 + stepP kn late now ((n + 1 : Nat) : Int) 1 0), min ((aheadP kn late now n).1 + stepP kn late now ((n + 1 : Nat) : Int) 0 1) ((aheadP kn late now n).2 + stepP kn late now ((n + 1 : Nat) : Int) 1 1)) := rfl
    rw [eA]
    unfold Bd at *
    simp only
    omega
theorem behind_bd (kn : Kn) (late : Int) (T : Nat) : ∀ n, n ≤ 1000 → Bd n (behindP kn late T n).1 ∧ Bd n (behindP kn late T n).2
  | 0, _ => by simp [behindP, Bd]
  | n + 1, hn => by
    have ih := behind_bd kn late T n (by omega)
    have h1 := step_cases kn late T ((T : Int) - n) 0 0
    have h2 := step_cases kn late T ((T : Int) - n) 1 0
    have h3 := step_cases kn late T ((T : Int) - n) 0 1
    have h4 := step_cases kn late T ((T : Int) - n) 1 1
    have NE : NEV = 1000000 := rfl
    have eB : behindP kn late T (n + 1) = (min ((behindP kn late T n).1 + stepP kn late T ((T : Int) - n) 0 0) ((behindP kn late T n).2 + stepP kn late T ((T : Int) - n) 0 1), min ((behindP kn late T n).1 + stepP kn late T ((T : Int) - n) 1 0) ((behindP kn late T n).2 + stepP kn late T ((T : Int) - n) 1 1)) := rfl
    rw [eB]
    unfold Bd at *
    simp only
    omega
theorem tot_bd (kn : Kn) (late : Int) {T m s : Nat} (hm : m ≤ T) (hT : T ≤ 60) : Bd T (totP kn late T m s) := by
  have h1 := ahead_bd kn late T m (by omega)
  have h2 := behind_bd kn late T (T - m) (by omega)
  have NE : NEV = 1000000 := rfl
  unfold totP sel Bd at *
  split <;> omega
/-- .. with one state alone behind a moment -/
def consP (kn : Kn) (late : Int) (T at_ wanted : Nat) : Nat → Int × Int
  | 0 => (0, NEV)
  | k + 1 =>
    let p := consP kn late T at_ wanted k
    let a := (min (p.1 + stepP kn late T (k + 1 : Nat) 0 0) (p.2 + stepP kn late T (k + 1 : Nat) 1 0), min (p.1 + stepP kn late T (k + 1 : Nat) 0 1) (p.2 + stepP kn late T (k + 1 : Nat) 1 1))
    if k + 1 = at_ then (if wanted = 0 then (a.1, NEV) else (NEV, a.2)) else a
def RelP (k : Nat) (a b : Int) : Prop := (a = b ∧ 0 ≤ b ∧ b ≤ k) ∨ (99 ≤ a ∧ NEV ≤ b)
theorem rel_least (kn : Kn) (late : Int) (T at_ wanted : Nat) (hw : wanted < 2) : ∀ k, k ≤ 60 → RelP k (leastD kn late T at_ wanted k).1 (consP kn late T at_ wanted k).1 ∧ RelP k (leastD kn late T at_ wanted k).2 (consP kn late T at_ wanted k).2
  | 0, _ => by simp [leastD, consP, RelP, NEV]
  | k + 1, hk => by
    have ih := rel_least kn late T at_ wanted hw k (by omega)
    have NE : NEV = 1000000 := rfl
    show RelP (k + 1) (lval kn late T at_ wanted (leastD kn late T at_ wanted k) (k + 1) 0) _ ∧ RelP (k + 1) (lval kn late T at_ wanted (leastD kn late T at_ wanted k) (k + 1) 1) _
    unfold consP
    generalize leastD kn late T at_ wanted k = p at *
    generalize consP kn late T at_ wanted k = c at *
    unfold lval
    cases e : lookK kn ((k + 1 : Nat) : Int) with
    | none =>
      obtain ⟨s00, s11, s01, s10⟩ := step_none (late := late) (now := T) e
      have l1 := lostI01 ((k + 1 : Nat) : Int) late T
      simp only [s00, s11, s01, s10]
      generalize lostI ((k + 1 : Nat) : Int) late T = lo at *
      unfold RelP sel at *
      by_cases h1 : k + 1 = at_
      · have w2 : wanted = 0 ∨ wanted = 1 := by omega
        rcases w2 with rfl | rfl
        · simp [h1]
          omega
        · simp [h1]
          omega
      · simp only [h1, ne_eq, not_false_eq_true, true_or, if_true, if_false]
        simp only [show (1 : Nat) - 1 = 0 from rfl, show (1 : Nat) - 0 = 1 from rfl, show ¬ ((1 : Nat) = 0) by decide, if_false, if_true]
        omega
    | some z =>
      obtain ⟨sz0, sz1⟩ := step_some (late := late) (now := T) e
      unfold RelP sel at *
      rcases ins01 z with h0 | h0
      · obtain ⟨q1, q2, q3, q4⟩ := sz0 h0
        simp only [q1, q2, q3, q4, h0]
        by_cases h1 : k + 1 = at_
        · have w2 : wanted = 0 ∨ wanted = 1 := by omega
          rcases w2 with rfl | rfl
          · simp only [h1, ne_eq, not_true, false_or, if_true, if_false]
            simp only [show (1 : Nat) - 1 = 0 from rfl, show (1 : Nat) - 0 = 1 from rfl, show ¬ ((1 : Nat) = 0) by decide, if_false, if_true, and_true, and_false]
            simp
            omega
          · simp only [h1, ne_eq, not_true, false_or, if_true, if_false]
            simp only [show (1 : Nat) - 1 = 0 from rfl, show (1 : Nat) - 0 = 1 from rfl, show ¬ ((1 : Nat) = 0) by decide, if_false, if_true, and_true, and_false]
            simp
            omega
        · simp only [h1, ne_eq, not_false_eq_true, true_or, and_true, if_false]
          simp only [show (1 : Nat) - 1 = 0 from rfl, show (1 : Nat) - 0 = 1 from rfl, show ¬ ((1 : Nat) = 0) by decide, if_false, if_true]
          simp
          omega
      · obtain ⟨q1, q2, q3, q4⟩ := sz1 h0
        simp only [q1, q2, q3, q4, h0]
        by_cases h1 : k + 1 = at_
        · have w2 : wanted = 0 ∨ wanted = 1 := by omega
          rcases w2 with rfl | rfl
          · simp only [h1, ne_eq, not_true, false_or, if_true, if_false]
            simp only [show (1 : Nat) - 1 = 0 from rfl, show (1 : Nat) - 0 = 1 from rfl, show ¬ ((1 : Nat) = 0) by decide, if_false, if_true, and_true, and_false]
            simp
            omega
          · simp only [h1, ne_eq, not_true, false_or, if_true, if_false]
            simp only [show (1 : Nat) - 1 = 0 from rfl, show (1 : Nat) - 0 = 1 from rfl, show ¬ ((1 : Nat) = 0) by decide, if_false, if_true, and_true, and_false]
            simp
            omega
        · simp only [h1, ne_eq, not_false_eq_true, true_or, and_true, if_false]
          simp only [show (1 : Nat) - 1 = 0 from rfl, show (1 : Nat) - 0 = 1 from rfl, show ¬ ((1 : Nat) = 0) by decide, if_false, if_true]
          simp
          omega
theorem cons_lt (kn : Kn) (late : Int) (T at_ wanted : Nat) : ∀ k, k < at_ → consP kn late T at_ wanted k = aheadP kn late T k
  | 0, _ => rfl
  | k + 1, h => by
    have ih := cons_lt kn late T at_ wanted k (by omega)
    unfold consP aheadP
    simp only
    rw [if_neg (by omega), ih]
theorem cons_at (kn : Kn) (late : Int) (T : Nat) {at_ wanted : Nat} (h1 : 1 ≤ at_) : consP kn late T at_ wanted at_ = if wanted = 0 then ((aheadP kn late T at_).1, NEV) else (NEV, (aheadP kn late T at_).2) := by
  cases at_ with
  | zero => omega
  | succ k =>
    have e := cons_lt kn late T (k + 1) wanted k (by omega)
    unfold consP aheadP
    simp only
    rw [if_pos True.intro, e]
def consM (kn : Kn) (late : Int) (T at_ wanted k : Nat) : Int := min ((consP kn late T at_ wanted k).1 + (behindP kn late T (T - k)).1) ((consP kn late T at_ wanted k).2 + (behindP kn late T (T - k)).2)
theorem cons_const (kn : Kn) (late : Int) (T at_ wanted : Nat) : ∀ d, at_ + d ≤ T → consM kn late T at_ wanted (at_ + d) = consM kn late T at_ wanted at_
  | 0, _ => rfl
  | d + 1, h => by
    rw [← cons_const kn late T at_ wanted d (by omega)]
    unfold consM
    obtain ⟨j, hj⟩ : ∃ j, T - (at_ + d) = j + 1 := ⟨T - (at_ + d) - 1, by omega⟩
    rw [show T - (at_ + (d + 1)) = j by omega, hj]
    rw [show at_ + (d + 1) = (at_ + d) + 1 by omega]
    generalize hk : at_ + d = k at *
    have eB : behindP kn late T (j + 1) = (min ((behindP kn late T j).1 + stepP kn late T ((T : Int) - j) 0 0) ((behindP kn late T j).2 + stepP kn late T ((T : Int) - j) 0 1), min ((behindP kn late T j).1 + stepP kn late T ((T : Int) - j) 1 0) ((behindP kn late T j).2 + stepP kn late T ((T : Int) - j) 1 1)) := rfl
    have eC : consP kn late T at_ wanted (k + 1) = (min ((consP kn late T at_ wanted k).1 + stepP kn late T (k + 1 : Nat) 0 0) ((consP kn late T at_ wanted k).2 + stepP kn late T (k + 1 : Nat) 1 0), min ((consP kn late T at_ wanted k).1 + stepP kn late T (k + 1 : Nat) 0 1) ((consP kn late T at_ wanted k).2 + stepP kn late T (k + 1 : Nat) 1 1)) := by
      show (if k + 1 = at_ then _ else _) = _
      rw [if_neg (by omega)]
    rw [show ((T : Int) - (j : Int)) = ((k + 1 : Nat) : Int) by omega] at eB
    rw [eB, eC]
    simp only
    omega
theorem least_tot {kn : Kn} {late : Int} {T at_ wanted : Nat} (hT : T ≤ 60) (h1 : 1 ≤ at_) (h2 : at_ ≤ T) (hw : wanted < 2) : leastL kn late T at_ wanted = min (totP kn late T at_ wanted) 99 := by
  have r := rel_least kn late T at_ wanted hw T hT
  have c := cons_const kn late T at_ wanted (T - at_) (by omega)
  rw [show at_ + (T - at_) = T by omega] at c
  have nn := behind_nn kn late T (T - at_)
  have tb := tot_bd kn late (s := wanted) h2 hT
  have NE : NEV = 1000000 := rfl
  unfold consM at c
  rw [Nat.sub_self, cons_at kn late T h1] at c
  have b0 : behindP kn late T 0 = (0, 0) := rfl
  rw [b0] at c
  unfold leastL
  unfold totP sel at *
  unfold Bd at tb
  unfold RelP at r
  have w2 : wanted = 0 ∨ wanted = 1 := by omega
  rcases w2 with rfl | rfl
  · simp only [if_true] at *
    omega
  · simp only [show ¬ ((1 : Nat) = 0) by decide, if_false] at *
    omega
end IC
namespace IC
open PySem L2
/-! ### stories and their prices -/
/-- the state behind a moment, 0 at first -/
def stS (st : List Int) : Nat → Int
  | 0 => 0
  | k + 1 => st.getD k 0
def sumTo (kn : Kn) (late : Int) (T : Nat) (st : List Int) : Nat → Int
  | 0 => 0
  | i + 1 => sumTo kn late T st i + stepP kn late T ((i + 1 : Nat) : Int) (stS st i) (stS st (i + 1))
def Bin (st : List Int) : Prop := ∀ x ∈ st, x = 0 ∨ x = 1
theorem stS01 {st : List Int} (h : Bin st) : ∀ k, stS st k = 0 ∨ stS st k = 1
  | 0 => .inl rfl
  | k + 1 => by
    show st.getD k 0 = 0 ∨ st.getD k 0 = 1
    rw [List.getD_eq_getElem?_getD]
    cases e : st[k]? with
    | none => exact .inl rfl
    | some x => exact h x (List.mem_of_getElem? e)
def selI (p : Int × Int) (s : Int) : Int := if s = 0 then p.1 else p.2
theorem selI0 (p : Int × Int) : selI p 0 = p.1 := rfl
theorem selI1 (p : Int × Int) : selI p 1 = p.2 := rfl
theorem sel_selI (p : Int × Int) {s : Nat} (h : s < 2) : selI p (s : Int) = sel p s := by
  have : s = 0 ∨ s = 1 := by omega
  rcases this with rfl | rfl <;> rfl
/-- no story is cheaper than the least prices -/
theorem ahead_le (kn : Kn) (late : Int) (T : Nat) {st : List Int} (h : Bin st) : ∀ k, selI (aheadP kn late T k) (stS st k) ≤ sumTo kn late T st k
  | 0 => by simp [selI, aheadP, stS, sumTo]
  | k + 1 => by
    have ih := ahead_le kn late T h k
    have eA : aheadP kn late T (k + 1) = (min ((aheadP kn late T k).1 + stepP kn late T ((k + 1 : Nat) : Int) 0 0) ((aheadP kn late T k).2 + stepP kn late T ((k + 1 : Nat) : Int) 1 0), min ((aheadP kn late T k).1 + stepP kn late T ((k + 1 : Nat) : Int) 0 1) ((aheadP kn late T k).2 + stepP kn late T ((k + 1 : Nat) : Int) 1 1)) := rfl
    have e2 : sumTo kn late T st (k + 1) = sumTo kn late T st k + stepP kn late T ((k + 1 : Nat) : Int) (stS st k) (stS st (k + 1)) := rfl
    rw [eA, e2]
    rcases stS01 h k with a | a <;> rcases stS01 h (k + 1) with b | b <;> rw [a, b] <;> rw [a] at ih <;> simp only [selI0, selI1] at * <;> omega
theorem behind_le (kn : Kn) (late : Int) (T : Nat) {st : List Int} (h : Bin st) : ∀ j, j ≤ T → selI (behindP kn late T j) (stS st (T - j)) + sumTo kn late T st (T - j) ≤ sumTo kn late T st T
  | 0, _ => by
    have b0 : behindP kn late T 0 = (0, 0) := rfl
    rw [b0, Nat.sub_zero]
    unfold selI
    split <;> simp
  | j + 1, hj => by
    have ih := behind_le kn late T h j (by omega)
    obtain ⟨k, hk⟩ : ∃ k, T - j = k + 1 := ⟨T - (j + 1), by omega⟩
    rw [hk] at ih
    rw [show T - (j + 1) = k by omega]
    have eB : behindP kn late T (j + 1) = (min ((behindP kn late T j).1 + stepP kn late T ((T : Int) - j) 0 0) ((behindP kn late T j).2 + stepP kn late T ((T : Int) - j) 0 1), min ((behindP kn late T j).1 + stepP kn late T ((T : Int) - j) 1 0) ((behindP kn late T j).2 + stepP kn late T ((T : Int) - j) 1 1)) := rfl
    have e2 : sumTo kn late T st (k + 1) = sumTo kn late T st k + stepP kn late T ((k + 1 : Nat) : Int) (stS st k) (stS st (k + 1)) := rfl
    rw [show ((T : Int) - (j : Int)) = ((k + 1 : Nat) : Int) by omega] at eB
    rw [eB]
    rw [e2] at ih
    rcases stS01 h k with a | a <;> rcases stS01 h (k + 1) with b | b <;> rw [a, b] at ih <;> rw [a] <;> simp only [selI0, selI1] at * <;> omega
theorem tot_le (kn : Kn) (late : Int) {T m : Nat} {st : List Int} (h : Bin st) (hm : m ≤ T) : selI (totP kn late T m 0, totP kn late T m 1) (stS st m) ≤ sumTo kn late T st T := by
  have h1 := ahead_le kn late T h m
  have h2 := behind_le kn late T h (T - m) (by omega)
  rw [show T - (T - m) = m by omega] at h2
  have e0 : totP kn late T m 0 = (aheadP kn late T m).1 + (behindP kn late T (T - m)).1 := rfl
  have e1 : totP kn late T m 1 = (aheadP kn late T m).2 + (behindP kn late T (T - m)).2 := rfl
  rcases stS01 h m with a | a <;> rw [a] at h1 h2 ⊢ <;> simp only [selI0, selI1] at * <;> omega
theorem least_le_story (kn : Kn) (late : Int) {T : Nat} {st : List Int} (h : Bin st) : leastP kn late T ≤ sumTo kn late T st T := by
  have h1 := tot_le kn late h (Nat.le_refl T)
  rw [← tot_min' kn late (Nat.le_refl T)]
  rcases stS01 h T with a | a <;> rw [a] at h1 <;> simp only [selI0, selI1] at h1 <;> omega
/-! ### a cheapest story with a state behind a moment -/
def pick (a b : Int) : Int := if a ≤ b then 0 else 1
theorem pick01 (a b : Int) : pick a b = 0 ∨ pick a b = 1 := by
  unfold pick
  split
  · exact .inl rfl
  · exact .inr rfl
def backS (kn : Kn) (late : Int) (T : Nat) : Nat → Int → List Int
  | 0, _ => []
  | 1, s => [s]
  | k + 2, s => backS kn late T (k + 1) (pick ((aheadP kn late T (k + 1)).1 + stepP kn late T ((k + 2 : Nat) : Int) 0 s) ((aheadP kn late T (k + 1)).2 + stepP kn late T ((k + 2 : Nat) : Int) 1 s)) ++ [s]
def fwdS (kn : Kn) (late : Int) (T : Nat) : Nat → Int → List Int
  | 0, _ => []
  | j + 1, s =>
    let p := pick ((behindP kn late T j).1 + stepP kn late T ((T : Int) - j) s 0) ((behindP kn late T j).2 + stepP kn late T ((T : Int) - j) s 1)
    p :: fwdS kn late T j p
def storyB (kn : Kn) (late : Int) (T m : Nat) (s : Int) : List Int := backS kn late T m s ++ fwdS kn late T (T - m) s
theorem back_len (kn : Kn) (late : Int) (T : Nat) : ∀ k s, (backS kn late T k s).length = k
  | 0, _ => rfl
  | 1, _ => rfl
  | k + 2, s => by
    unfold backS
    rw [List.length_append, back_len kn late T (k + 1) _]
    rfl
theorem back_bin (kn : Kn) (late : Int) (T : Nat) : ∀ k s, (s = 0 ∨ s = 1) → Bin (backS kn late T k s)
  | 0, _, _ => by intro x hx; cases hx
  | 1, s, h => by
    intro x hx
    have : x = s := by simpa [backS] using hx
    rw [this]
    exact h
  | k + 2, s, h => by
    unfold backS
    intro x hx
    rcases List.mem_append.mp hx with z | z
    · exact back_bin kn late T (k + 1) _ (pick01 _ _) x z
    · have : x = s := by simpa using z
      rw [this]
      exact h
theorem fwd_len (kn : Kn) (late : Int) (T : Nat) : ∀ j s, (fwdS kn late T j s).length = j
  | 0, _ => rfl
  | j + 1, s => by
    unfold fwdS
    simp only
    rw [List.length_cons, fwd_len kn late T j _]
theorem fwd_bin (kn : Kn) (late : Int) (T : Nat) : ∀ j s, Bin (fwdS kn late T j s)
  | 0, _ => by intro x hx; cases hx
  | j + 1, s => by
    unfold fwdS
    intro x hx
    rcases List.mem_cons.mp hx with z | z
    · rw [z]
      exact pick01 _ _
    · exact fwd_bin kn late T j _ x z
theorem stS_app {pre tl : List Int} {k : Nat} (h : k ≤ pre.length) : stS (pre ++ tl) k = stS pre k := by
  cases k with
  | zero => rfl
  | succ k =>
    show (pre ++ tl).getD k 0 = pre.getD k 0
    rw [List.getD_eq_getElem?_getD, List.getD_eq_getElem?_getD, List.getElem?_append_left (by omega)]
theorem stS_last {pre tl : List Int} {s : Int} : stS (pre ++ s :: tl) (pre.length + 1) = s := by
  show (pre ++ s :: tl).getD pre.length 0 = s
  rw [List.getD_eq_getElem?_getD, List.getElem?_append_right (Nat.le_refl _), Nat.sub_self]
  rfl
theorem back_split (kn : Kn) (late : Int) (T : Nat) : ∀ k s, 1 ≤ k → ∃ pre, backS kn late T k s = pre ++ [s]
  | 0, _, h => by omega
  | 1, s, _ => ⟨[], rfl⟩
  | k + 2, s, _ => ⟨_, rfl⟩
theorem back_last (kn : Kn) (late : Int) (T : Nat) (tl : List Int) : ∀ k s, 1 ≤ k → stS (backS kn late T k s ++ tl) k = s
  | 0, _, h => by omega
  | 1, s, _ => rfl
  | k + 2, s, _ => by
    unfold backS
    rw [List.append_assoc]
    have := stS_last (pre := backS kn late T (k + 1) (pick ((aheadP kn late T (k + 1)).1 + stepP kn late T ((k + 2 : Nat) : Int) 0 s) ((aheadP kn late T (k + 1)).2 + stepP kn late T ((k + 2 : Nat) : Int) 1 s))) (tl := tl) (s := s)
    rw [back_len] at this
    exact this
theorem back_sum (kn : Kn) (late : Int) (T : Nat) : ∀ k s tl, 1 ≤ k → (s = 0 ∨ s = 1) → selI (aheadP kn late T k) s < NEV → sumTo kn late T (backS kn late T k s ++ tl) k = selI (aheadP kn late T k) s
  | 0, _, _, h, _, _ => by omega
  | 1, s, tl, _, hs, h => by
    have e1 : sumTo kn late T (backS kn late T 1 s ++ tl) 1 = 0 + stepP kn late T ((0 + 1 : Nat) : Int) 0 s := rfl
    have eA : aheadP kn late T 1 = (min (0 + stepP kn late T ((0 + 1 : Nat) : Int) 0 0) (NEV + stepP kn late T ((0 + 1 : Nat) : Int) 1 0), min (0 + stepP kn late T ((0 + 1 : Nat) : Int) 0 1) (NEV + stepP kn late T ((0 + 1 : Nat) : Int) 1 1)) := rfl
    have n0 := step_nn kn late T ((0 + 1 : Nat) : Int) 1 0
    have n1 := step_nn kn late T ((0 + 1 : Nat) : Int) 1 1
    rw [e1]
    rw [eA] at h ⊢
    rcases hs with rfl | rfl <;> simp only [selI0, selI1] at * <;> omega
  | k + 2, s, tl, _, hs, h => by
    have eA : aheadP kn late T (k + 2) = (min ((aheadP kn late T (k + 1)).1 + stepP kn late T ((k + 2 : Nat) : Int) 0 0) ((aheadP kn late T (k + 1)).2 + stepP kn late T ((k + 2 : Nat) : Int) 1 0), min ((aheadP kn late T (k + 1)).1 + stepP kn late T ((k + 2 : Nat) : Int) 0 1) ((aheadP kn late T (k + 1)).2 + stepP kn late T ((k + 2 : Nat) : Int) 1 1)) := rfl
    have lst := back_last kn late T tl (k + 2) s (by omega)
    have e2 : sumTo kn late T (backS kn late T (k + 2) s ++ tl) (k + 2) = sumTo kn late T (backS kn late T (k + 2) s ++ tl) (k + 1) + stepP kn late T ((k + 2 : Nat) : Int) (stS (backS kn late T (k + 2) s ++ tl) (k + 1)) (stS (backS kn late T (k + 2) s ++ tl) (k + 2)) := rfl
    rw [e2, lst]
    have eb : backS kn late T (k + 2) s ++ tl = backS kn late T (k + 1) (pick ((aheadP kn late T (k + 1)).1 + stepP kn late T ((k + 2 : Nat) : Int) 0 s) ((aheadP kn late T (k + 1)).2 + stepP kn late T ((k + 2 : Nat) : Int) 1 s)) ++ ([s] ++ tl) := by
      conv => lhs; unfold backS
      rw [List.append_assoc]
    rw [eb]
    generalize hp : pick ((aheadP kn late T (k + 1)).1 + stepP kn late T ((k + 2 : Nat) : Int) 0 s) ((aheadP kn late T (k + 1)).2 + stepP kn late T ((k + 2 : Nat) : Int) 1 s) = p at *
    have hp01 : p = 0 ∨ p = 1 := by rw [← hp]; exact pick01 _ _
    rw [back_last kn late T _ (k + 1) p (by omega)]
    have n00 := step_nn kn late T ((k + 2 : Nat) : Int) 0 0
    have n01 := step_nn kn late T ((k + 2 : Nat) : Int) 0 1
    have n10 := step_nn kn late T ((k + 2 : Nat) : Int) 1 0
    have n11 := step_nn kn late T ((k + 2 : Nat) : Int) 1 1
    have key : selI (aheadP kn late T (k + 1)) p + stepP kn late T ((k + 2 : Nat) : Int) p s = selI (aheadP kn late T (k + 2)) s := by
      rw [eA]
      unfold pick at hp
      rcases hs with rfl | rfl <;> split at hp <;> subst hp <;> simp only [selI0, selI1] <;> omega
    have sn : 0 ≤ stepP kn late T ((k + 2 : Nat) : Int) p s := step_nn _ _ _ _ _ _
    rw [back_sum kn late T (k + 1) p _ (by omega) hp01 (by omega)]
    exact key
theorem fwd_sum (kn : Kn) (late : Int) (T : Nat) : ∀ j s pre, j + pre.length = T → (s = 0 ∨ s = 1) → stS pre pre.length = s → sumTo kn late T (pre ++ fwdS kn late T j s) T = sumTo kn late T (pre ++ fwdS kn late T j s) pre.length + selI (behindP kn late T j) s
  | 0, s, pre, h, _, _ => by
    have b0 : behindP kn late T 0 = (0, 0) := rfl
    rw [b0, show pre.length = T by omega]
    unfold selI
    split <;> simp
  | j + 1, s, pre, h, hs, hl => by
    have eB : behindP kn late T (j + 1) = (min ((behindP kn late T j).1 + stepP kn late T ((T : Int) - j) 0 0) ((behindP kn late T j).2 + stepP kn late T ((T : Int) - j) 0 1), min ((behindP kn late T j).1 + stepP kn late T ((T : Int) - j) 1 0) ((behindP kn late T j).2 + stepP kn late T ((T : Int) - j) 1 1)) := rfl
    have ef : fwdS kn late T (j + 1) s = pick ((behindP kn late T j).1 + stepP kn late T ((T : Int) - j) s 0) ((behindP kn late T j).2 + stepP kn late T ((T : Int) - j) s 1) :: fwdS kn late T j (pick ((behindP kn late T j).1 + stepP kn late T ((T : Int) - j) s 0) ((behindP kn late T j).2 + stepP kn late T ((T : Int) - j) s 1)) := rfl
    have em : ((T : Int) - (j : Int)) = ((pre.length + 1 : Nat) : Int) := by omega
    rw [ef]
    rw [em] at eB ⊢
    generalize hp : pick ((behindP kn late T j).1 + stepP kn late T ((pre.length + 1 : Nat) : Int) s 0) ((behindP kn late T j).2 + stepP kn late T ((pre.length + 1 : Nat) : Int) s 1) = p at *
    have hp01 : p = 0 ∨ p = 1 := by rw [← hp]; exact pick01 _ _
    have e3 : pre ++ p :: fwdS kn late T j p = (pre ++ [p]) ++ fwdS kn late T j p := by simp
    rw [e3]
    have hl2 : (pre ++ [p]).length = pre.length + 1 := by simp
    have ih := fwd_sum kn late T j p (pre ++ [p]) (by rw [hl2]; omega) hp01 (by rw [hl2]; exact stS_last (tl := []))
    rw [ih, hl2]
    have e4 : sumTo kn late T (pre ++ [p] ++ fwdS kn late T j p) (pre.length + 1) = sumTo kn late T (pre ++ [p] ++ fwdS kn late T j p) pre.length + stepP kn late T ((pre.length + 1 : Nat) : Int) (stS (pre ++ [p] ++ fwdS kn late T j p) pre.length) (stS (pre ++ [p] ++ fwdS kn late T j p) (pre.length + 1)) := rfl
    have e5 : stS (pre ++ [p] ++ fwdS kn late T j p) pre.length = s := by
      rw [stS_app (by rw [hl2]; omega), stS_app (Nat.le_refl _)]
      exact hl
    have e6 : stS (pre ++ [p] ++ fwdS kn late T j p) (pre.length + 1) = p := by
      rw [← e3]
      exact stS_last
    rw [e4, e5, e6, eB]
    unfold pick at hp
    rcases hs with rfl | rfl <;> split at hp <;> subst hp <;> simp only [selI0, selI1] <;> omega
structure StoryOk (kn : Kn) (late : Int) (T m : Nat) (s : Int) (st : List Int) : Prop where
  len : st.length = T
  bin : Bin st
  at_ : stS st m = s
  sum : sumTo kn late T st T = selI (totP kn late T m 0, totP kn late T m 1) s
theorem storyB_ok {kn : Kn} {late : Int} {T m : Nat} {s : Int} (h1 : 1 ≤ m) (h2 : m ≤ T) (hs : s = 0 ∨ s = 1) (hn : selI (totP kn late T m 0, totP kn late T m 1) s < NEV) : StoryOk kn late T m s (storyB kn late T m s) := by
  have bl := back_len kn late T m s
  have bn := behind_nn kn late T (T - m)
  have ha : selI (aheadP kn late T m) s < NEV := by
    have e0 : totP kn late T m 0 = (aheadP kn late T m).1 + (behindP kn late T (T - m)).1 := rfl
    have e1 : totP kn late T m 1 = (aheadP kn late T m).2 + (behindP kn late T (T - m)).2 := rfl
    rcases hs with rfl | rfl <;> simp only [selI0, selI1] at * <;> omega
  refine ⟨?_, ?_, back_last kn late T _ m s h1, ?_⟩
  · unfold storyB
    rw [List.length_append, bl, fwd_len]
    omega
  · unfold storyB
    intro x hx
    rcases List.mem_append.mp hx with z | z
    · exact back_bin kn late T m s hs x z
    · exact fwd_bin kn late T _ _ x z
  · unfold storyB
    have hl : stS (backS kn late T m s) (backS kn late T m s).length = s := by
      have := back_last kn late T [] m s h1
      rw [List.append_nil] at this
      rw [bl]
      exact this
    rw [fwd_sum kn late T (T - m) s _ (by rw [bl]; omega) hs hl, bl, back_sum kn late T m s _ h1 hs ha]
    rcases hs with rfl | rfl <;> rfl
end IC
namespace IC
open PySem L2
theorem idx_min {v0 v1 mm : Int} (h1 : mm ∈ [v0, v1]) (h2 : ∀ y ∈ [v0, v1], mm ≤ y) : ∃ (j : Nat) (z : V), ((j : Nat) : Int) = pick v0 v1 ∧ [V.int v0, V.int v1][j]? = some z ∧ eqV z (.int mm) = true ∧ ∀ (m : Nat) (z' : V), m < j → [V.int v0, V.int v1][m]? = some z' → eqV z' (.int mm) = false := by
  have e := min_of h1 h2
  unfold pick
  by_cases h : v0 ≤ v1
  · refine ⟨0, .int v0, by rw [if_pos h]; rfl, rfl, ?_, fun m z' hm => by omega⟩
    have : mm = v0 := by omega
    rw [this]
    simp [eqV]
  · refine ⟨1, .int v1, by rw [if_neg h]; rfl, rfl, ?_, fun m z' hm hz => ?_⟩
    · have : mm = v1 := by omega
      rw [this]
      simp [eqV]
    · have : m = 0 := by omega
      subst this
      have hz : V.int v0 = z' := by simpa using hz
      rw [← hz]
      have : ¬ v0 = mm := by omega
      simpa [eqV] using this
section
variable {P : Program} {w : World} {K : PySem.W.Frag} {mg : Str → Option Value} {base : Heap} {dI C : Addr}
end
end IC
namespace IC
open PySem L2
/-! ### the price of a story, as the law finds it -/
def priceV (kn : Kn) (late : Int) (T : Nat) (st : List Int) : V := if sumTo kn late T st T < NEV then .int (sumTo kn late T st T) else .non
theorem sum_step (kn : Kn) (late : Int) (T : Nat) (st : List Int) (i : Nat) : sumTo kn late T st (i + 1) = sumTo kn late T st i + stepP kn late T ((i + 1 : Nat) : Int) (stS st i) (stS st (i + 1)) := rfl
theorem sum_nn (kn : Kn) (late : Int) (T : Nat) (st : List Int) : ∀ i, 0 ≤ sumTo kn late T st i
  | 0 => by simp [sumTo]
  | i + 1 => by
    have := sum_nn kn late T st i
    have := step_nn kn late T ((i + 1 : Nat) : Int) (stS st i) (stS st (i + 1))
    rw [sum_step]
    omega
theorem sum_mono (kn : Kn) (late : Int) (T : Nat) (st : List Int) {i : Nat} : ∀ d, sumTo kn late T st i ≤ sumTo kn late T st (i + d)
  | 0 => Int.le_refl _
  | d + 1 => by
    have h1 := sum_mono kn late T st (i := i) d
    have h2 := step_nn kn late T ((i + d + 1 : Nat) : Int) (stS st (i + d)) (stS st (i + d + 1))
    have h3 := sum_step kn late T st (i + d)
    show _ ≤ sumTo kn late T st (i + d + 1)
    rw [h3]
    omega
theorem sum_mono' (kn : Kn) (late : Int) (T : Nat) (st : List Int) {i j : Nat} (h : i ≤ j) : sumTo kn late T st i ≤ sumTo kn late T st j := by
  have := sum_mono kn late T st (i := i) (j - i)
  rw [show i + (j - i) = j by omega] at this
  exact this
section
variable {P : Program} {w : World} {K : PySem.W.Frag} {mg : Str → Option Value} {base : Heap} {dI C : Addr}
end
end IC
namespace IC
open PySem L2
/-! ### the wants of the other badges -/
def notOf (b : Int) (x : Want) : Bool := !decide (V.int x.badge = V.int b)
theorem wfold_badge (badge : Int) (kn : Kn) (late time : Int) (ms : List Int) : ∀ s : WSt, (∀ x ∈ s.found, x.badge = badge) → ∀ x ∈ (ms.foldl (wstep badge kn late time) s).found, x.badge = badge := by
  induction ms with
  | nil => intro s h; exact h
  | cons m ms ih =>
    intro s h
    rw [List.foldl_cons]
    refine ih _ ?_
    unfold wstep
    simp only
    intro x hx
    split at hx
    · split at hx
      · rcases List.mem_append.mp hx with z | z
        · exact h x z
        · simp at z; subst z; rfl
      · split at hx
        · rcases List.mem_append.mp hx with z | z
          · exact h x z
          · simp at z; subst z; rfl
        · exact h x hx
    · exact h x hx
theorem wants_badge {badge : Int} {kn : Kn} {late time : Int} : ∀ x ∈ wantsOf badge kn late time, x.badge = badge := wfold_badge _ _ _ _ _ _ (by simp)
theorem filt_all {b : Int} {l : List Want} (h : ∀ x ∈ l, x.badge ≠ b) : l.filter (notOf b) = l := by
  rw [List.filter_eq_self]
  intro x hx
  unfold notOf
  rw [dd_int, decide_eq_false (h x hx)]
  rfl
theorem filt_none {b : Int} {l : List Want} (h : ∀ x ∈ l, x.badge = b) : l.filter (notOf b) = [] := by
  rw [List.filter_eq_nil_iff]
  intro x hx
  unfold notOf
  rw [dd_int, decide_eq_true (h x hx)]
  simp
theorem others_to (kns : List Kn) (late time : Int) (b : Nat) : ∀ n, (n ≤ b → (awTo kns late time n).filter (notOf b) = awTo kns late time n) ∧ (b < n → ((awTo kns late time n).filter (notOf b)).length + (wantsOf b (kns.getD b []) late time).length = (awTo kns late time n).length)
  | 0 => ⟨fun _ => rfl, fun h => by omega⟩
  | n + 1 => by
    obtain ⟨h1, h2⟩ := others_to kns late time b n
    have e : awTo kns late time (n + 1) = awTo kns late time n ++ wantsOf n (kns.getD n []) late time := rfl
    rw [e, List.filter_append, List.length_append, List.length_append]
    refine ⟨fun h => ?_, fun h => ?_⟩
    · rw [h1 (by omega), filt_all fun x hx => ?_]
      rw [wants_badge x hx]
      omega
    · by_cases hb : b = n
      · subst hb
        rw [h1 (Nat.le_refl _), filt_none fun x hx => wants_badge x hx]
        simp
      · have := h2 (by omega)
        rw [filt_all (l := wantsOf n (kns.getD n []) late time) fun x hx => by rw [wants_badge x hx]; omega]
        omega
def othersN (h : Hs) (b : Nat) : Nat := ((allWants h.kns h.late h.now).filter (notOf b)).length
theorem others_is {h : Hs} {T b : Nat} (o : HsOk h T) (s : soundH h = true) (hb : b < h.kns.length) : (othersN h b : Int) = h.lost - spareH h - leastH h T b ∧ 0 ≤ leastH h T b := by
  obtain ⟨nt, _⟩ := sound_iff s
  have h2 := (others_to h.kns h.late h.now b h.kns.length).2 hb
  have kt := o.at hb
  have hT := o.tm.le
  have nt' : noTwice (wantsOf b (h.kns.getD b []) h.late T) := fun x hx => nt x (by
    unfold allWants
    rw [o.tm.now]
    exact mem_aw.mpr ⟨b, hb, hx⟩)
  have e := least_wants kt.ok.nd kt.rg hT b h.late nt'
  unfold othersN spareH leastH
  unfold allWants
  rw [o.tm.now] at *
  rw [e]
  omega
theorem tot_more {h : Hs} {T m b s : Nat} (hs : s < 2) : totP (h.kns.getD b []) h.late T m s = leastH h T b + sel (moreH h T m b) s := by
  have := sel_more (h.kns.getD b []) h.late T m hs
  unfold leastH moreH
  omega
/-- with the cheapest of the other badges a story is borne just if it costs no more than may be -/
theorem bears {h : Hs} {T m b s : Nat} (o : HsOk h T) (sd : soundH h = true) (hb : b < h.kns.length) (hs : s < 2) : (totP (h.kns.getD b []) h.late T m s + othersN h b ≤ h.lost ↔ sel (moreH h T m b) s ≤ spareH h) := by
  have h1 := (others_is o sd hb).1
  have h2 := tot_more (h := h) (T := T) (m := m) (b := b) hs
  omega
theorem open_least {h : Hs} {m : Ms} {T b x s : Nat} (o : HsOk h T) (sd : soundH h = true) (hb : b < h.kns.length) (lo6 : h.lost ≤ 6) (h1 : 1 ≤ x) (h2 : x ≤ T) (hs : s < 2) :
    decide (leastL (h.kns.getD b []) h.late T x s + othersN h b ≤ h.lost) = decide (sel (moreH h T x b) s ≤ spareH h) := by
  rw [least_tot o.tm.le h1 h2 hs]
  have e := bears (m := x) o sd hb hs
  have h3 := (others_is o sd hb)
  have h4 := (spare_sum o sd).2
  have h5 := more_nn (h := h) (T := T) (m := x) (b := b) (st := s) h2 hs
  have h6 := tot_more (h := h) (T := T) (m := x) (b := b) hs
  by_cases z : sel (moreH h T x b) s ≤ spareH h
  · rw [decide_eq_true z, decide_eq_true_eq]
    omega
  · rw [decide_eq_false z, decide_eq_false_iff_not]
    omega
end IC
namespace IC
open PySem L2
/-! ### min of a list of data -/
def rMinD (K : PySem.W.Frag) : List V → Hp → VK → Prop := fun vs H Q => ∃ (a : Addr) (xs : List V) (x : PyData) (ds : List PyData), vs = [.ref a] ∧ SqL K H a xs ∧ DpAll K H xs (x :: ds) ∧ PySem.W.AlikeAll (x :: ds) ∧ PyData.depthAll (x :: ds) ≤ 60 ∧
  ∀ (i : Nat) (v : V), xs[i]? = some v → (x :: ds)[i]? = some (PySem.W.minD x ds) → Q v H
theorem minD_mem (x : PyData) : ∀ ds : List PyData, PySem.W.minD x ds ∈ x :: ds := by
  intro ds
  unfold PySem.W.minD
  induction ds generalizing x with
  | nil => exact List.mem_cons_self
  | cons y ds ih =>
    rw [List.foldl_cons]
    have := ih (if PySem.W.dataLt y x = true then y else x)
    rcases List.mem_cons.mp this with z | z
    · rw [z]
      split
      · exact List.mem_cons_of_mem _ List.mem_cons_self
      · exact List.mem_cons_self
    · exact List.mem_cons_of_mem _ (List.mem_cons_of_mem _ z)
theorem vals_get : ∀ {xs : List V} {us : List Value} {i : Nat} {u : Value}, Vals xs us → us[i]? = some u → ∃ x, xs[i]? = some x ∧ RelV x u
  | _, _, _, _, .nil, e => by simp at e
  | _, _, 0, _, .cons r _, e => by simp at e; subst e; exact ⟨_, rfl, r⟩
  | _, _, i + 1, u, .cons _ t, e => by
    obtain ⟨x, h1, h2⟩ := vals_get (i := i) (u := u) t (by simpa using e)
    exact ⟨x, by simpa using h1, h2⟩
theorem readsAll_get {h : Heap} : ∀ {us : List Value} {ds : List PyData} {as : List Addr} {i : Nat} {u : Value}, ReadsAll h us ds as → us[i]? = some u → ∃ d bs, ds[i]? = some d ∧ Reads h u d bs
  | _, _, _, _, _, .nil, e => by simp at e
  | _, _, _, 0, _, .cons r _, e => by simp at e; subst e; exact ⟨_, _, rfl, r⟩
  | _, _, _, i + 1, u, .cons _ t, e => by
    obtain ⟨d, bs, h1, h2⟩ := readsAll_get (i := i) (u := u) t (by simpa using e)
    exact ⟨d, bs, by simpa using h1, h2⟩
section
variable {X : Cx} {K : PySem.W.Frag}
theorem cr_minD (hc : X.calm = true) (hu : X.A.units + 65 < cLine) : CallR X (.builtin "min") (rMinD X.K) := by
  intro pins s σ H vs us Q I r h
  obtain ⟨a, xs, x, ds, rfl, hs, hd, ha, hdep, q⟩ := h
  obtain ⟨its, rv, hl, _⟩ := I.list hs
  rw [Vals.ref1 r]
  obtain ⟨as, hr⟩ := Dp.readsAll I _ _ its hd rv
  refine PySem.W.min_list_data (I.ok.hd hc) hl.isList hr ha (by omega) fun i v h' tk bs hi rd hk => ?_
  have hi' : its[i]? = some v := by simpa using hi
  obtain ⟨y, hy, ry⟩ := vals_get rv hi'
  obtain ⟨d, cs, hd1, rd1⟩ := readsAll_get hr hi'
  have e : d = PySem.W.minD x ds := PySem.W.alike_unique d _ v _ _ (ha.1 d (List.mem_of_getElem? hd1) _ (minD_mem x ds)) (PySem.W.reads_keeps hk rd1) rd
  subst e
  exact ⟨y, H, I.kept hk, ry, q i y hy hd1⟩
theorem cr_minDK (hc : X.calm = true) (hu : X.A.units + 65 < cLine) (hK : X.K = K := by rfl) : CallR X (.builtin "min") (rMinD K) := by subst hK; exact cr_minD hc hu
end
/-! ### (price, story) -/
def storyD (st : List Int) : PyData := .tuple (st.map PyData.int)
def oneD (x : Int × List Int) : PyData := .tuple [.int x.1, storyD x.2]
theorem alikeAll_ints : ∀ (l m : List Int), PySem.W.alikeAll (l.map PyData.int) (m.map PyData.int) = true
  | [], _ => by simp [PySem.W.alikeAll]
  | _ :: _, [] => by simp [PySem.W.alikeAll]
  | x :: l, y :: m => by
    rw [List.map_cons, List.map_cons, PySem.W.alikeAll, alikeAll_ints l m]
    simp [PySem.W.alike]
theorem alike_one (x y : Int × List Int) : PySem.W.alike (oneD x) (oneD y) = true := by
  unfold oneD storyD
  rw [PySem.W.alike, PySem.W.alikeAll, PySem.W.alikeAll, PySem.W.alikeAll, PySem.W.alike, PySem.W.alike, alikeAll_ints]
  rfl
theorem alikes {l : List (Int × List Int)} : PySem.W.AlikeAll (l.map oneD) := by
  refine ⟨fun x hx y hy => ?_, fun x hx => ?_⟩
  · obtain ⟨a, _, rfl⟩ := List.mem_map.mp hx
    obtain ⟨b, _, rfl⟩ := List.mem_map.mp hy
    exact alike_one a b
  · obtain ⟨a, _, rfl⟩ := List.mem_map.mp hx
    unfold oneD
    intro z
    cases z
theorem dep_ints : ∀ l : List Int, PyData.depthAll (l.map PyData.int) = 0
  | [] => by simp [PyData.depthAll]
  | x :: l => by rw [List.map_cons, PyData.depthAll, dep_ints l]; simp [PyData.depth]
theorem dep_one (x : Int × List Int) : (oneD x).depth = 2 := by
  unfold oneD storyD
  rw [PyData.depth, PyData.depthAll, PyData.depthAll, PyData.depthAll, PyData.depth, PyData.depth, dep_ints]
  rfl
theorem dep_ones : ∀ l : List (Int × List Int), PyData.depthAll (l.map oneD) ≤ 2
  | [] => by simp [PyData.depthAll]
  | x :: l => by
    rw [List.map_cons, PyData.depthAll, dep_one]
    have := dep_ones l
    omega
theorem lt_one {x y : Int × List Int} (h : x.1 ≠ y.1) : PySem.W.dataLt (oneD x) (oneD y) = decide (x.1 < y.1) := by
  unfold oneD
  rw [PySem.W.dataLt_tuple, PySem.W.dataLt_all_no (by simp [PySem.W.alike]) (by simp [PyData.eqv, h]), PySem.W.dataLt_int]
theorem lt_one_le {x y : Int × List Int} (h : PySem.W.dataLt (oneD x) (oneD y) = true) : x.1 ≤ y.1 := by
  by_cases e : x.1 = y.1
  · omega
  · rw [lt_one e, decide_eq_true_eq] at h
    omega
theorem lt_one_ge {x y : Int × List Int} (h : PySem.W.dataLt (oneD x) (oneD y) = false) : y.1 ≤ x.1 := by
  by_cases e : x.1 = y.1
  · omega
  · rw [lt_one e, decide_eq_false_iff_not] at h
    omega
/-- the least one has the least price -/
theorem minD_one : ∀ (l : List (Int × List Int)) (x : Int × List Int), ∃ y, y ∈ x :: l ∧ PySem.W.minD (oneD x) (l.map oneD) = oneD y ∧ ∀ z ∈ x :: l, y.1 ≤ z.1
  | [], x => ⟨x, List.mem_cons_self, rfl, fun z hz => by simp at hz; rw [hz]; exact Int.le_refl _⟩
  | w :: l, x => by
    have e : PySem.W.minD (oneD x) ((w :: l).map oneD) = PySem.W.minD (if PySem.W.dataLt (oneD w) (oneD x) = true then oneD w else oneD x) (l.map oneD) := rfl
    rw [e]
    by_cases h : PySem.W.dataLt (oneD w) (oneD x) = true
    · rw [if_pos h]
      obtain ⟨y, h1, h2, h3⟩ := minD_one l w
      refine ⟨y, List.mem_cons_of_mem _ h1, h2, fun z hz => ?_⟩
      rcases List.mem_cons.mp hz with rfl | hz
      · have := h3 w List.mem_cons_self
        have := lt_one_le h
        omega
      · exact h3 z hz
    · rw [if_neg h]
      obtain ⟨y, h1, h2, h3⟩ := minD_one l x
      refine ⟨y, ?_, h2, fun z hz => ?_⟩
      · rcases List.mem_cons.mp h1 with z | z
        · rw [z]; exact List.mem_cons_self
        · exact List.mem_cons_of_mem _ (List.mem_cons_of_mem _ z)
      · rcases List.mem_cons.mp hz with rfl | hz
        · exact h3 z List.mem_cons_self
        · rcases List.mem_cons.mp hz with rfl | hz
          · have := h3 x List.mem_cons_self
            have := lt_one_ge (Bool.eq_false_iff.mpr h)
            omega
          · exact h3 z (List.mem_cons_of_mem _ hz)
end IC
namespace IC
open PySem L2
/-! ### all stories -/
def two2 (s : List Int) : List (List Int) := [s ++ [0], s ++ [1]]
def allS : Nat → List (List Int)
  | 0 => [[]]
  | k + 1 => (allS k).flatMap two2
def encS (s : List Int) : List V := s.map V.int
theorem allS_len : ∀ k, (allS k).length = 2 ^ k
  | 0 => rfl
  | k + 1 => by
    have ih := allS_len k
    show ((allS k).flatMap two2).length = _
    rw [List.length_flatMap]
    have : ((allS k).map fun x => (two2 x).length) = List.replicate (allS k).length 2 := by
      rw [List.eq_replicate_iff]
      refine ⟨by rw [List.length_map], fun b hb => ?_⟩
      obtain ⟨x, _, rfl⟩ := List.mem_map.mp hb
      rfl
    rw [this, List.sum_replicate_nat, ih, Nat.pow_succ]
theorem mem_allS : ∀ {k : Nat} {s : List Int}, s ∈ allS k ↔ s.length = k ∧ Bin s
  | 0, s => by
    constructor
    · intro h
      have : s = [] := by simpa [allS] using h
      subst this
      exact ⟨rfl, fun x hx => by cases hx⟩
    · rintro ⟨h, _⟩
      have : s = [] := List.length_eq_zero_iff.mp h
      subst this
      exact List.mem_singleton.mpr rfl
  | k + 1, s => by
    show s ∈ (allS k).flatMap two2 ↔ _
    rw [List.mem_flatMap]
    constructor
    · rintro ⟨p, hp, hs⟩
      obtain ⟨hl, hb⟩ := mem_allS.mp hp
      unfold two2 at hs
      simp only [List.mem_cons, List.not_mem_nil, or_false] at hs
      have mk : ∀ v : Int, (v = 0 ∨ v = 1) → (p ++ [v]).length = k + 1 ∧ Bin (p ++ [v]) := fun v hv => ⟨by simp [hl], fun x hx => by
        rcases List.mem_append.mp hx with z | z
        · exact hb x z
        · have : x = v := by simpa using z
          rw [this]; exact hv⟩
      rcases hs with rfl | rfl
      · exact mk 0 (.inl rfl)
      · exact mk 1 (.inr rfl)
    · rintro ⟨hl, hb⟩
      have hne : s ≠ [] := by intro z; rw [z] at hl; cases hl
      have e := List.dropLast_concat_getLast hne
      refine ⟨s.dropLast, mem_allS.mpr ⟨by rw [List.length_dropLast, hl]; rfl, fun x hx => hb x (List.dropLast_subset _ hx)⟩, ?_⟩
      unfold two2
      rcases hb _ (List.getLast_mem hne) with z | z
      · rw [z] at e
        rw [e]
        exact List.mem_cons_self
      · rw [z] at e
        rw [e]
        exact List.mem_cons_of_mem _ List.mem_cons_self
/-- the stories that can be -/
def canS (kn : Kn) (late : Int) (T : Nat) : List (List Int) := (allS T).filter fun s => decide (sumTo kn late T s T < NEV)
/-- refs to tuples that are told one by one -/
theorem tups_split {H : Hp} {α : Type} {enc : α → List V} : ∀ {xs : List V} {l : List α}, TupsAt H xs (l.map enc) → ∃ z : List (Addr × α), xs = z.map (fun x => V.ref x.1) ∧ z.map (·.2) = l ∧ ∀ x ∈ z, H x.1 = some (.tup (enc x.2))
  | [], [], _ => ⟨[], rfl, rfl, fun x hx => by cases hx⟩
  | _ :: _, a :: l, .cons ⟨t, e, h⟩ r => by
    obtain ⟨z, h1, h2, h3⟩ := tups_split r
    subst e
    refine ⟨(t, a) :: z, by rw [h1]; rfl, by rw [List.map_cons, h2], fun x hx => ?_⟩
    rcases List.mem_cons.mp hx with rfl | hx
    · exact h
    · exact h3 x hx
/-- (price, story) of stories, in a list -/
structure SomeAt (H : Hp) (D : Addr) (pr : List Int → Int) (z : List (Addr × List Int)) : Prop where
  lst : ∃ ys, H D = some (.lst ys) ∧ TupsAt H ys (z.map fun x => [V.int (pr x.2), V.ref x.1])
  st : ∀ x ∈ z, H x.1 = some (.tup (encS x.2))
  few : z.length ≤ 1000
theorem SomeAt.same {H H' : Hp} {D : Addr} {pr : List Int → Int} {z : List (Addr × List Int)} (a : SomeAt H D pr z) (s : Same H H') : SomeAt H' D pr z := by
  obtain ⟨⟨ys, h1, h2⟩, h3, h4⟩ := a
  exact ⟨⟨ys, s _ _ h1, h2.mono (.of_same s)⟩, fun x hx => s _ _ (h3 x hx), h4⟩
section
variable {P : Program} {w : World} {K : PySem.W.Frag} {mg : Str → Option Value} {base : Heap} {dI C : Addr}
end
end IC
namespace IC
open PySem L2
/-! ### lists of (price, story), and a list of these -/
abbrev One := Addr × (Int × List Int)
def encO (x : One) : List V := [V.int x.2.1, V.ref x.1]
structure Ones (H : Hp) (D : Addr) (l : List One) : Prop where
  lst : ∃ ys, H D = some (.lst ys) ∧ TupsAt H ys (l.map encO)
  st : ∀ x ∈ l, H x.1 = some (.tup (encS x.2.2))
  few : l.length ≤ 1000
theorem Ones.same {H H' : Hp} {D : Addr} {l : List One} (a : Ones H D l) (s : Same H H') : Ones H' D l := by
  obtain ⟨⟨ys, h1, h2⟩, h3, h4⟩ := a
  exact ⟨⟨ys, s _ _ h1, h2.mono (.of_same s)⟩, fun x hx => s _ _ (h3 x hx), h4⟩
theorem SomeAt.ones {H : Hp} {D : Addr} {pr : List Int → Int} {z : List (Addr × List Int)} (a : SomeAt H D pr z) : Ones H D (z.map fun x => (x.1, (pr x.2, x.2))) := by
  obtain ⟨⟨ys, h1, h2⟩, h3, h4⟩ := a
  refine ⟨⟨ys, h1, by rw [List.map_map]; exact h2⟩, fun x hx => ?_, by rw [List.length_map]; exact h4⟩
  obtain ⟨y, hy, rfl⟩ := List.mem_map.mp hx
  exact h3 y hy
structure Every (H : Hp) (eA : Addr) (es : List (Addr × List One)) : Prop where
  lst : H eA = some (.lst (es.map fun e => V.ref e.1))
  at_ : ∀ e ∈ es, Ones H e.1 e.2
  few : es.length ≤ 6
theorem Every.same {H H' : Hp} {eA : Addr} {es : List (Addr × List One)} (a : Every H eA es) (s : Same H H') : Every H' eA es := ⟨s _ _ a.lst, fun e he => (a.at_ e he).same s, a.few⟩
theorem dp_ints {K : PySem.W.Frag} {H : Hp} : ∀ st : List Int, DpAll K H (encS st) (st.map PyData.int)
  | [] => .nil
  | x :: st => .cons (.int x) (dp_ints st)
theorem dp_ones {K : PySem.W.Frag} {H : Hp} : ∀ {ys : List V} {l : List One}, TupsAt H ys (l.map encO) → (∀ x ∈ l, H x.1 = some (.tup (encS x.2.2))) → DpAll K H ys (l.map fun x => oneD x.2)
  | [], [], _, _ => .nil
  | _ :: _, x :: l, .cons ⟨t, e, h⟩ r, hs => by
    subst e
    exact .cons (.tup (SqT.of h) (.cons (.int _) (.cons (.tup (SqT.of (hs x List.mem_cons_self)) (dp_ints _)) .nil))) (dp_ones r fun y hy => hs y (List.mem_cons_of_mem _ hy))
theorem Ones.dp {K : PySem.W.Frag} {H : Hp} {D : Addr} {l : List One} (a : Ones H D l) : Dp K H (.ref D) (.list (l.map fun x => oneD x.2)) := by
  obtain ⟨⟨ys, h1, h2⟩, h3, _⟩ := a
  exact .lst (SqL.of h1) (dp_ones h2 h3)
theorem dp_every {K : PySem.W.Frag} {H : Hp} : ∀ {es : List (Addr × List One)}, (∀ e ∈ es, Ones H e.1 e.2) → DpAll K H (es.map fun e => V.ref e.1) (es.map fun e => .list (e.2.map fun x => oneD x.2))
  | [], _ => .nil
  | e :: es, h => .cons (h e List.mem_cons_self).dp (dp_every fun x hx => h x (List.mem_cons_of_mem _ hx))
theorem lay_ints : ∀ l : List Int, PyData.canLayAll0 (l.map PyData.int) = true
  | [] => by simp [PyData.canLayAll0]
  | x :: l => by rw [List.map_cons, PyData.canLayAll0, lay_ints l]; simp [PyData.canLay0]
theorem lay_one (x : Int × List Int) : (oneD x).canLay0 = true := by
  unfold oneD storyD
  rw [PyData.canLay0, PyData.canLayAll0, PyData.canLayAll0, PyData.canLayAll0, PyData.canLay0, PyData.canLay0, lay_ints]
  rfl
theorem lay_ones : ∀ l : List One, PyData.canLayAll0 (l.map fun x => oneD x.2) = true
  | [] => by simp [PyData.canLayAll0]
  | x :: l => by rw [List.map_cons, PyData.canLayAll0, lay_ones l, lay_one]; rfl
theorem lay_every : ∀ es : List (Addr × List One), PyData.canLayAll0 (es.map fun e => PyData.list (e.2.map fun x => oneD x.2)) = true
  | [] => by simp [PyData.canLayAll0]
  | e :: es => by rw [List.map_cons, PyData.canLayAll0, lay_every es, PyData.canLay0, lay_ones]; rfl
theorem dep_onesO (l : List One) : PyData.depthAll (l.map fun x => oneD x.2) ≤ 2 := by
  have := dep_ones (l.map (·.2))
  rw [List.map_map] at this
  exact this
theorem dep_every : ∀ es : List (Addr × List One), PyData.depthAll (es.map fun e => PyData.list (e.2.map fun x => oneD x.2)) ≤ 3
  | [] => by simp [PyData.depthAll]
  | e :: es => by
    rw [List.map_cons, PyData.depthAll, PyData.depth]
    have := dep_every es
    have := dep_onesO e.2
    omega
theorem shaped_every (es : List (Addr × List One)) : SeqAt.shaped (.list (es.map fun e => PyData.list (e.2.map fun x => oneD x.2))) = true := by
  unfold SeqAt.shaped
  have := dep_every es
  rw [PyData.canLay0, lay_every, PyData.depth, Bool.true_and, decide_eq_true_eq]
  omega
theorem any_nil (es : List (Addr × List One)) : ((es.map fun e => PyData.list (e.2.map fun x => oneD x.2)).any fun z => PyData.eqv z (.list [])) = es.any fun e => e.2.isEmpty := by
  rw [List.any_map]
  congr 1
  funext e
  show PyData.eqv (.list (e.2.map fun x => oneD x.2)) (.list []) = _
  rw [eqv_nil, List.isEmpty_map]
/-- the least price -/
def minPr : List One → Int
  | [] => 0
  | x :: l => l.foldl (fun a y => min a y.2.1) x.2.1
theorem foldmin (l : List One) : ∀ a : Int, (l.foldl (fun a y => min a y.2.1) a ≤ a ∧ ∀ y ∈ l, l.foldl (fun a y => min a y.2.1) a ≤ y.2.1) ∧ (l.foldl (fun a y => min a y.2.1) a = a ∨ ∃ y ∈ l, l.foldl (fun a y => min a y.2.1) a = y.2.1) := by
  induction l with
  | nil => intro a; exact ⟨⟨Int.le_refl _, fun y hy => by cases hy⟩, .inl rfl⟩
  | cons x l ih =>
    intro a
    rw [List.foldl_cons]
    obtain ⟨⟨h1, h2⟩, h3⟩ := ih (min a x.2.1)
    refine ⟨⟨by omega, fun y hy => ?_⟩, ?_⟩
    · rcases List.mem_cons.mp hy with rfl | hy
      · omega
      · exact h2 y hy
    · rcases h3 with h3 | ⟨y, hy, h3⟩
      · rcases Int.le_total a x.2.1 with z | z
        · left; omega
        · right; exact ⟨x, List.mem_cons_self, by omega⟩
      · right; exact ⟨y, List.mem_cons_of_mem _ hy, h3⟩
theorem minPr_le {l : List One} : ∀ y ∈ l, minPr l ≤ y.2.1 := by
  cases l with
  | nil => intro y hy; cases hy
  | cons x l =>
    intro y hy
    obtain ⟨⟨h1, h2⟩, _⟩ := foldmin l x.2.1
    rcases List.mem_cons.mp hy with rfl | hy
    · exact h1
    · exact h2 y hy
theorem minPr_uniq {l : List One} {p : Int} (h1 : ∃ y ∈ l, y.2.1 = p) (h2 : ∀ y ∈ l, p ≤ y.2.1) : p = minPr l := by
  obtain ⟨y, hy, rfl⟩ := h1
  have a := minPr_le y hy
  cases l with
  | nil => cases hy
  | cons x l =>
    obtain ⟨_, h3⟩ := foldmin l x.2.1
    rcases h3 with h3 | ⟨z, hz, h3⟩
    · have := h2 x List.mem_cons_self
      show _ = l.foldl (fun a y => min a y.2.1) x.2.1
      have a : l.foldl (fun a y => min a y.2.1) x.2.1 ≤ y.2.1 := a
      omega
    · have := h2 z (List.mem_cons_of_mem _ hz)
      show _ = l.foldl (fun a y => min a y.2.1) x.2.1
      have a : l.foldl (fun a y => min a y.2.1) x.2.1 ≤ y.2.1 := a
      omega
theorem oneD_fst {x y : Int × List Int} (h : oneD x = oneD y) : x.1 = y.1 := by
  unfold oneD at h
  injection h with h
  injection h with h
  injection h
/-- min of a list of (price, story) -/
theorem min_ones {K : PySem.W.Frag} {H : Hp} {D : Addr} {l : List One} (a : Ones H D l) (hne : l ≠ []) : ∃ (xs : List V) (x : PyData) (ds : List PyData), SqL K H D xs ∧ DpAll K H xs (x :: ds) ∧ PySem.W.AlikeAll (x :: ds) ∧ PyData.depthAll (x :: ds) ≤ 60 ∧
    ∀ (i : Nat) (v : V), xs[i]? = some v → (x :: ds)[i]? = some (PySem.W.minD x ds) → ∃ (t : Addr) (u : V), v = .ref t ∧ H t = some (.tup [.int (minPr l), u]) := by
  obtain ⟨⟨ys, h1, h2⟩, h3, h4⟩ := a
  cases l with
  | nil => exact absurd rfl hne
  | cons x l =>
    have dall := dp_ones (K := K) h2 h3
    have e1 : ((x :: l).map fun x => oneD x.2) = oneD x.2 :: l.map fun x => oneD x.2 := rfl
    have e2 : (l.map fun x => oneD x.2) = (l.map (·.2)).map oneD := by rw [List.map_map]; rfl
    rw [e1] at dall
    refine ⟨ys, oneD x.2, l.map fun x => oneD x.2, SqL.of h1, dall, ?_, ?_, fun i v hv hd => ?_⟩
    · have := alikes (l := (x :: l).map (·.2))
      rw [List.map_map] at this
      exact this
    · have := dep_onesO (x :: l)
      rw [← e1]
      omega
    · obtain ⟨dv, hdv, t, rfl, ht⟩ := Paired.getL h2 hv
      rw [List.getElem?_map] at hdv
      obtain ⟨y, hy, rfl⟩ := Option.map_eq_some_iff.mp hdv
      rw [e2] at hd
      obtain ⟨z, hz1, hz2, hz3⟩ := minD_one (l.map (·.2)) x.2
      rw [hz2] at hd
      have e3 : (oneD x.2 :: (l.map (·.2)).map oneD) = (x :: l).map fun x => oneD x.2 := by rw [e1, e2]
      rw [e3, List.getElem?_map, hy] at hd
      have e4 : oneD y.2 = oneD z := Option.some.inj hd
      have e5 := oneD_fst e4
      have : y.2.1 = minPr (x :: l) := minPr_uniq ⟨y, List.mem_of_getElem? hy, rfl⟩ fun u hu => by
        rw [e5]
        refine hz3 u.2 ?_
        rcases List.mem_cons.mp hu with rfl | hu
        · exact List.mem_cons_self
        · exact List.mem_cons_of_mem _ (List.mem_map.mpr ⟨u, hu, rfl⟩)
      refine ⟨t, .ref y.1, rfl, ?_⟩
      rw [← this]
      exact ht
section
variable {P : Program} {w : World} {K : PySem.W.Frag} {mg : Str → Option Value} {base : Heap} {dI C : Addr}
end
end IC
namespace IC
open PySem L2
/-! ### a badge that passed twice has no story -/
theorem nev_stays {kn : Kn} {late : Int} {T n : Nat} (h : NEV ≤ (aheadP kn late T n).1 ∧ NEV ≤ (aheadP kn late T n).2) : NEV ≤ (aheadP kn late T (n + 1)).1 ∧ NEV ≤ (aheadP kn late T (n + 1)).2 := by
  have eA : aheadP kn late T (n + 1) = (min ((aheadP kn late T n).1 + stepP kn late T ((n + 1 : Nat) : Int) 0 0) ((aheadP kn late T n).2 + stepP kn late T ((n + 1 : Nat) : Int) 1 0), min ((aheadP kn late T n).1 + stepP kn late T ((n + 1 : Nat) : Int) 0 1) ((aheadP kn late T n).2 + stepP kn late T ((n + 1 : Nat) : Int) 1 1)) := rfl
  have h1 := step_nn kn late T ((n + 1 : Nat) : Int) 0 0
  have h2 := step_nn kn late T ((n + 1 : Nat) : Int) 1 0
  have h3 := step_nn kn late T ((n + 1 : Nat) : Int) 0 1
  have h4 := step_nn kn late T ((n + 1 : Nat) : Int) 1 1
  rw [eA]
  simp only
  omega
theorem dp_twice (badge : Int) (kn : Kn) (late : Int) (T : Nat) : ∀ n, n ≤ 1000 → ¬ noTwice (wmTo badge kn late T n).found → NEV ≤ (aheadP kn late T n).1 ∧ NEV ≤ (aheadP kn late T n).2
  | 0, _, h => absurd (by intro x hx; simp [wmTo, moms] at hx) h
  | n + 1, hn, h => by
    by_cases nt : noTwice (wmTo badge kn late T n).found
    · have I := wi badge kn late T n
      have D := dp_wants badge kn late T n (by omega) nt
      rw [wmTo_succ] at h
      generalize wmTo badge kn late T n = S at *
      unfold wstepM at h
      by_cases hl : (lookK kn ((n + 1 : Nat) : Int)).isSome = true
      · rw [if_pos hl] at h
        obtain ⟨z, e⟩ := Option.isSome_iff_exists.mp hl
        have ez : insOf ((lookK kn ((n + 1 : Nat) : Int)).getD "") = insOf z := by rw [e]; rfl
        unfold wstep at h
        simp only [ez] at h
        by_cases h1 : insOf z = S.state
        · rw [if_pos h1] at h
          by_cases h2 : ((n + 1 : Nat) : Int) - S.ahead = 1
          · have ha : S.ahead = n := by push_cast at h2; omega
            have at_ := D.at_ ha
            obtain ⟨sz0, sz1⟩ := step_some (late := late) (now := T) e
            have nn := ahead_nn kn late T n
            have NE : NEV = 1000000 := rfl
            have eA : aheadP kn late T (n + 1) = (min ((aheadP kn late T n).1 + stepP kn late T ((n + 1 : Nat) : Int) 0 0) ((aheadP kn late T n).2 + stepP kn late T ((n + 1 : Nat) : Int) 1 0), min ((aheadP kn late T n).1 + stepP kn late T ((n + 1 : Nat) : Int) 0 1) ((aheadP kn late T n).2 + stepP kn late T ((n + 1 : Nat) : Int) 1 1)) := rfl
            rw [eA]
            rcases I.st with h0 | h0
            · obtain ⟨q1, q2, q3, q4⟩ := sz0 (by rw [h1, h0])
              rw [q1, q2, q3, q4]
              rw [h0] at at_
              simp only [pr, Int.sub_zero, show ¬ ((1 : Int) = 0) by decide, if_false] at at_
              simp only
              omega
            · obtain ⟨q1, q2, q3, q4⟩ := sz1 (by rw [h1, h0])
              rw [q1, q2, q3, q4]
              rw [h0] at at_
              simp only [pr, show (1 : Int) - 1 = 0 by decide, if_true] at at_
              simp only
              omega
          · rw [if_neg h2] at h
            refine absurd (fun x hx => ?_) h
            split at hx
            · rcases List.mem_append.mp hx with z | z
              · exact nt x z
              · simp at z
                subst z
                show ("lost" : Str) ≠ "twice"
                decide +kernel
            · exact nt x hx
        · rw [if_neg h1] at h
          exact absurd nt h
      · rw [if_neg hl] at h
        exact absurd nt h
    · exact nev_stays (dp_twice badge kn late T n (by omega) nt)
theorem least_twice {kn : Kn} {T : Nat} (k : KnT kn T) (hT : T ≤ 60) (badge late : Int) (h : ¬ noTwice (wantsOf badge kn late T)) : NEV ≤ leastP kn late T := by
  rw [wantsOf_eq k.ok.nd k.rg] at h
  have := dp_twice badge kn late T T (by omega) h
  unfold leastP
  omega
theorem least_once {kn : Kn} {T : Nat} (k : KnT kn T) (hT : T ≤ 60) (badge late : Int) (h : noTwice (wantsOf badge kn late T)) : leastP kn late T < NEV ∧ leastP kn late T = ((wantsOf badge kn late T).length : Int) := by
  have e := least_wants k.ok.nd k.rg hT badge late h
  have := wantsOf_len k.ok badge late T
  have NE : NEV = 1000000 := rfl
  exact ⟨by omega, e⟩
/-! ### the cheapest of all stories -/
theorem can_some {kn : Kn} {late : Int} {T : Nat} (h : leastP kn late T < NEV) : ∃ s ∈ canS kn late T, sumTo kn late T s T = leastP kn late T := by
  cases T with
  | zero =>
    refine ⟨[], ?_, ?_⟩
    · unfold canS
      rw [List.mem_filter]
      exact ⟨List.mem_singleton.mpr rfl, by simp [sumTo, NEV]⟩
    · show (0 : Int) = min 0 NEV
      decide
  | succ k =>
    have tm := tot_min' kn late (Nat.le_refl (k + 1))
    have mk : ∀ s : Int, (s = 0 ∨ s = 1) → selI (totP kn late (k + 1) (k + 1) 0, totP kn late (k + 1) (k + 1) 1) s = leastP kn late (k + 1) → ∃ s ∈ canS kn late (k + 1), sumTo kn late (k + 1) s (k + 1) = leastP kn late (k + 1) := by
      intro s hs e
      have ok := storyB_ok (kn := kn) (late := late) (T := k + 1) (m := k + 1) (s := s) (by omega) (Nat.le_refl _) hs (by omega)
      refine ⟨_, ?_, ok.sum.trans e⟩
      unfold canS
      rw [List.mem_filter]
      exact ⟨mem_allS.mpr ⟨ok.len, ok.bin⟩, decide_eq_true (by rw [ok.sum, e]; exact h)⟩
    rcases Int.le_total (totP kn late (k + 1) (k + 1) 0) (totP kn late (k + 1) (k + 1) 1) with z | z
    · exact mk 0 (.inl rfl) (by rw [selI0]; show totP _ _ _ _ _ = _; omega)
    · exact mk 1 (.inr rfl) (by rw [selI1]; show totP _ _ _ _ _ = _; omega)
theorem can_le {kn : Kn} {late : Int} {T : Nat} {s : List Int} (h : s ∈ canS kn late T) : leastP kn late T ≤ sumTo kn late T s T ∧ sumTo kn late T s T < NEV ∧ s.length = T ∧ Bin s := by
  unfold canS at h
  rw [List.mem_filter, decide_eq_true_eq] at h
  obtain ⟨h1, h2⟩ := mem_allS.mp h.1
  exact ⟨least_le_story kn late h2, h.2, h1, h2⟩
theorem can_nil {kn : Kn} {late : Int} {T : Nat} : canS kn late T = [] ↔ NEV ≤ leastP kn late T := by
  constructor
  · intro h
    by_cases z : leastP kn late T < NEV
    · obtain ⟨s, hs, _⟩ := can_some z
      rw [h] at hs
      cases hs
    · omega
  · intro h
    rw [List.eq_nil_iff_forall_not_mem]
    intro s hs
    have := can_le hs
    omega
/-- what the law's lists of stories are -/
structure LawEs (m : Ms) (T : Nat) (es : List (Addr × List One)) : Prop where
  len : es.length = m.kns.length
  at_ : ∀ b e, es[b]? = some e → e.2.map (·.2) = (canS (m.kns.getD b []) m.late T).map fun s => (sumTo (m.kns.getD b []) m.late T s T, s)
theorem LawEs.nil {m : Ms} {T : Nat} {es : List (Addr × List One)} (l : LawEs m T es) {b : Nat} {e : Addr × List One} (h : es[b]? = some e) : e.2.isEmpty = true ↔ NEV ≤ leastP (m.kns.getD b []) m.late T := by
  have e1 := l.at_ b e h
  rw [← can_nil, List.isEmpty_iff]
  constructor
  · intro z
    rw [z] at e1
    exact List.map_eq_nil_iff.mp e1.symm
  · intro z
    rw [z] at e1
    exact List.map_eq_nil_iff.mp e1
theorem LawEs.min {m : Ms} {T : Nat} {es : List (Addr × List One)} (l : LawEs m T es) {b : Nat} {e : Addr × List One} (h : es[b]? = some e) (hn : leastP (m.kns.getD b []) m.late T < NEV) : minPr e.2 = leastP (m.kns.getD b []) m.late T := by
  have e1 := l.at_ b e h
  symm
  refine minPr_uniq ?_ fun y hy => ?_
  · obtain ⟨s, hs, es⟩ := can_some hn
    have : (sumTo (m.kns.getD b []) m.late T s T, s) ∈ e.2.map (·.2) := by rw [e1]; exact List.mem_map.mpr ⟨s, hs, rfl⟩
    obtain ⟨y, hy, ey⟩ := List.mem_map.mp this
    exact ⟨y, hy, by rw [ey]; exact es⟩
  · have : y.2 ∈ e.2.map (·.2) := List.mem_map.mpr ⟨y, hy, rfl⟩
    rw [e1] at this
    obtain ⟨s, hs, ey⟩ := List.mem_map.mp this
    rw [← ey]
    exact (can_le hs).1
/-- sound, by the cheapest stories of all badges -/
theorem sound_try {h : Hs} {m : Ms} {T : Nat} {es : List (Addr × List One)} (o : HsOk h T) (hk : m.kns = h.kns) (hl : m.late = h.late) (ho : m.lost = h.lost) (l : LawEs m T es) :
    ((es.any fun e => e.2.isEmpty) = true → soundH h = false) ∧ ((es.any fun e => e.2.isEmpty) = false → m.lost - (es.map fun e => minPr e.2).sum = spareH h ∧ soundH h = decide (0 ≤ spareH h) ∧ ∀ b, b < h.kns.length → leastH h T b < NEV) := by
  have hT := o.tm.le
  have hnow := o.tm.now
  have elen := l.len
  rw [hk] at elen
  have lk : ∀ b, leastP (m.kns.getD b []) m.late T = leastH h T b := fun b => by unfold leastH; rw [hk, hl]
  constructor
  · intro hany
    rw [List.any_eq_true] at hany
    obtain ⟨e, he, hemp⟩ := hany
    obtain ⟨b, hb, eb⟩ := List.getElem_of_mem he
    have hget : es[b]? = some e := by rw [List.getElem?_eq_getElem hb, eb]
    have hnev := (l.nil hget).mp hemp
    rw [lk] at hnev
    have hb' : b < h.kns.length := by omega
    cases hs : soundH h with
    | false => rfl
    | true =>
      obtain ⟨nt, _⟩ := sound_iff hs
      have := (least_once (o.at hb') hT b h.late (fun x hx => nt x (by unfold allWants; rw [hnow]; exact mem_aw.mpr ⟨b, hb', hx⟩))).1
      unfold leastH at hnev
      omega
  · intro hany
    have hn : ∀ b, b < h.kns.length → leastH h T b < NEV := by
      intro b hb
      have hget : es[b]? = some es[b] := List.getElem?_eq_getElem (by omega)
      have h1 := List.any_eq_false.mp hany es[b] (List.getElem_mem _)
      rcases Int.lt_or_le (leastH h T b) NEV with z | z
      · exact z
      · exact absurd ((l.nil hget).mpr (by rw [lk]; exact z)) h1
    have once : ∀ b, b < h.kns.length → noTwice (wantsOf b (h.kns.getD b []) h.late T) := by
      intro b hb
      apply Classical.byContradiction
      intro z
      have := least_twice (o.at hb) hT b h.late z
      have := hn b hb
      unfold leastH at this
      omega
    have elw : ∀ b, b < h.kns.length → leastH h T b = ((wantsOf b (h.kns.getD b []) h.late T).length : Int) := fun b hb => (least_once (o.at hb) hT b h.late (once b hb)).2
    have esum : (es.map fun e => minPr e.2).sum = ((List.range h.kns.length).map (leastH h T)).sum := by
      congr 1
      refine List.ext_getElem? fun b => ?_
      rw [List.getElem?_map, List.getElem?_map]
      by_cases hb : b < h.kns.length
      · have hget : es[b]? = some es[b] := List.getElem?_eq_getElem (by omega)
        rw [hget, List.getElem?_range hb]
        show some (minPr es[b].2) = some _
        rw [l.min hget (by rw [lk]; exact hn b hb), lk]
      · rw [List.getElem?_eq_none (by omega), List.getElem?_eq_none (by rw [List.length_range]; omega)]
        rfl
    have elen2 : ((allWants h.kns h.late h.now).length : Int) = ((List.range h.kns.length).map (leastH h T)).sum := by
      unfold allWants
      rw [hnow]
      exact aw_len_sum h.kns h.late T (leastH h T) h.kns.length elw
    have esp : m.lost - (es.map fun e => minPr e.2).sum = spareH h := by
      unfold spareH
      rw [esum, elen2, ho]
    refine ⟨esp, ?_, hn⟩
    have ntall : ((allWants h.kns h.late h.now).filter fun x => decide (x.word = ("twice" : Str))).isEmpty = true := by
      rw [List.isEmpty_iff, List.filter_eq_nil_iff]
      intro x hx
      unfold allWants at hx
      rw [hnow] at hx
      obtain ⟨b, hb, hx⟩ := mem_aw.mp hx
      rw [decide_eq_true_eq]
      exact once b hb x hx
    unfold soundH borne
    rw [ntall, Bool.true_and]
    unfold spareH
    by_cases z : ((allWants h.kns h.late h.now).length : Int) ≤ h.lost
    · rw [decide_eq_true z, decide_eq_true (by omega)]
    · rw [decide_eq_false z, decide_eq_false (by omega)]
/-! ### every = [stories(m, badge) for badge in range(n)] -/
theorem lc_every {n j : Nat} {te : TE} {vs : List Nat} {σ : St} {H1 : Hp} {D : Addr} {Qd : Hp → Prop} {m : Ms} {T : Nat} (hnk : n = m.kns.length) (nD : H1 D = none) (hn : n ≤ 6) (hw : ∀ x, wipe ((wipe σ vs).set j (some x)) vs = wipe σ vs)
    (he : ∀ b, b < n → ∀ H2, Same H1 H2 → ∀ Q : VK, (∀ (E : Addr) (z : List (Addr × List Int)) (H3 : Hp), Same H2 H3 → H2 E = none → SomeAt H3 E (fun s => sumTo (m.kns.getD b []) m.late T s T) z → z.map (·.2) = canS (m.kns.getD b []) m.late T → Q (.ref E) H3) → te ((wipe σ vs).set j (some (.int (b : Int)))) H2 Q)
    (k : ∀ es H', Same H1 H' → Every H' D es → LawEs m T es → Qd H') :
    ∃ W : Nat → Nat → Hp → Prop, (∃ m, W 0 m (upd H1 D (.lst []))) ∧ ∀ i m H, W i m H →
      ((Itr 0 n).stop i H ∧ Qd H) ∨ ((Itr 0 n).go i H ∧ ∃ Nx : Hp → Prop, (∀ H', Nx H' → ∃ m', m' < m ∧ W (i + 1) m' H') ∧ ∀ x H', (Itr 0 n).yld i H x H' → gName j x (wipe σ vs) H' fun σ2 H2 => wipe σ2 vs = wipe σ vs ∧ tYes σ2 H2 fun b H3 =>
        if b = true then te σ2 H3 fun y H4 => ∃ acc, H4 D = some (.lst acc) ∧ acc.length < sizeLine ∧ Nx (upd H4 D (.lst (acc ++ [y]))) else Nx H3) := by
  refine lc_range0 (n := n) (fun i H2 => ∃ es : List (Addr × List One), es.length = i ∧ Same H1 H2 ∧ H2 D = some (.lst (es.map fun e => V.ref e.1)) ∧ (∀ e ∈ es, Ones H2 e.1 e.2) ∧ (∀ e ∈ es, e.1 ≠ D) ∧
      ∀ b e, es[b]? = some e → e.2.map (·.2) = (canS (m.kns.getD b []) m.late T).map fun s => (sumTo (m.kns.getD b []) m.late T s T, s)) ⟨[], rfl, Same.new nD, upd_same, (fun e he => by cases he), (fun e he => by cases he), fun b e h => by simp at h⟩ ?_ ?_
  · rintro i H2 hi ⟨es, el, sH, hD, hon, hne, hat⟩
    refine ⟨hw _, ?_⟩
    show te _ H2 _
    refine he i hi H2 sH _ fun E z H3 s3 nE so ez => ⟨es.map fun e => V.ref e.1, s3 _ _ hD, szl (by rw [List.length_map]; omega), ?_⟩
    have nED : E ≠ D := fun q => by rw [q, hD] at nE; cases nE
    have keep : ∀ {E' : Addr} {l : List One}, E' ≠ D → Ones H3 E' l → Ones (upd H3 D (.lst ((es.map fun e => V.ref e.1) ++ [.ref E]))) E' l := by
      intro E' l hE' o
      obtain ⟨⟨ys, h1, h2⟩, h3, h4⟩ := o
      have tS : TupS H3 (upd H3 D (.lst ((es.map fun e => V.ref e.1) ++ [.ref E]))) := TupS.upd (TupS.refl _) (by rw [s3 _ _ hD]; intro xs z; cases z)
      exact ⟨⟨ys, by rw [upd_ne hE']; exact h1, h2.mono tS⟩, fun x hx => tS _ _ (h3 x hx), h4⟩
    refine ⟨es ++ [(E, z.map fun x => (x.1, (sumTo (m.kns.getD i []) m.late T x.2 T, x.2)))], by simp [el], Same.mut (sH.trans s3) nD, by rw [upd_same, List.map_append]; rfl, fun e he => ?_, fun e he => ?_, fun b e hb => ?_⟩
    · rcases List.mem_append.mp he with q | q
      · exact keep (hne e q) ((hon e q).same s3)
      · simp at q
        subst q
        exact keep nED so.ones
    · rcases List.mem_append.mp he with q | q
      · exact hne e q
      · simp at q
        subst q
        exact nED
    · by_cases hb' : b < es.length
      · rw [List.getElem?_append_left hb'] at hb
        exact hat b e hb
      · rw [List.getElem?_append_right (by omega)] at hb
        have hbe : b - es.length = 0 := by
          have := (List.getElem?_eq_some_iff.mp hb).1
          simp at this
          omega
        rw [hbe] at hb
        have hb : (E, z.map fun x => (x.1, (sumTo (m.kns.getD i []) m.late T x.2 T, x.2))) = e := by simpa using hb
        have hbi : b = i := by omega
        subst hb
        rw [hbi]
        show (z.map fun x => (x.1, (sumTo (m.kns.getD i []) m.late T x.2 T, x.2))).map (·.2) = _
        rw [← ez, List.map_map, List.map_map]
        rfl
  · rintro H2 ⟨es, el, sH, hD, hon, hne, hat⟩
    exact k es H2 sH ⟨hD, hon, by omega⟩ ⟨by omega, hat⟩
end IC
namespace IC
open PySem L2
/-! ### errors of own classes -/
structure ExcOk (K : PySem.W.Frag) (mg : Str → Option Value) (x : Str) (C : Addr) : Prop where
  g : mg x = some (.ref C)
  q : PySem.W.excIn K C [.type "ValueError", .type "Exception", .type "BaseException", .type "object"] "ValueError.__new__" = true
  k : PySem.W.keepIn K (.ref C) = true
  b : PySem.W.subIn K (.ref C) (.type "BaseException") = some true
  t : PySem.W.typeIn K (.ref C) = some (.type "type")
  e : ExcC K C
theorem ExcOk.exm {K : PySem.W.Frag} {mg : Str → Option Value} {x : Str} {C : Addr} (o : ExcOk K mg x C) {cls : Value} {r : Bool} (h : PySem.W.subIn K cls (.ref C) = some r) : PySem.W.exmOne K cls (.ref C) = some r := PySem.W.exm_ref o.b o.e.hd o.t h
/-- a def that may raise, called by its name -/
structure CalX (P : Program) (w : World) (K : PySem.W.Frag) (mg : Str → Option Value) (base : Heap) (k : Nat) (x : Str) (sp : Sp) : Prop where
  ex : ∃ (f : Addr) (fd : FuncData) (ps : List Str), FnOk P w K mg base (L2.CX P w) k f fd ps sp ∧ mg x = some (.ref f) ∧ PySem.W.keepIn K (.ref f) = true ∧ Binds K fd ps []
section
variable {X : Cx} {k j : Nat} {x : Str} {sp : Sp} {p pos : Pos} {e : Expr} {es : List Expr} {t : TA} {W : WX}
/-- .. in a def that lets out what it lets out -/
theorem pe_cX {E : XK} (c : CalX X.prog X.w X.K X.mg X.base k x sp) (hr : Room j X.A) (hk : k ≤ j) (hg : Gl X x) (tk : Takes X (fun cls d _ H => E cls d H)) (ha : PA X (e :: es) t)
    (hdb : (x == ("__debug__" : Str)) = false := by decide) (he : starEach (e :: es) X.env = (false, eval e X.env) :: starEach es X.env := by rfl) (hpl : (backTo pos (starEach es X.env)).any (·.1) = false := by rfl) :
    PE X (.Call (.Name x p) (e :: es) [] pos) (tCall sp [] E t) := by
  obtain ⟨f, fd, ps, F, hm, kp, b⟩ := c.ex
  exact pe_call F (hr.mono hk) hg hm kp b .nil (passes_call tk (fun _ _ _ _ h => h)) ha hdb he hpl
/-- .. in a try's body -/
theorem pe_cT (c : CalX X.prog X.w X.K X.mg X.base k x sp) (hr : Room j X.A) (hk : k ≤ j) (hg : Gl X x) (tk : Takes X W) (ha : PA X (e :: es) t)
    (hdb : (x == ("__debug__" : Str)) = false := by decide) (he : starEach (e :: es) X.env = (false, eval e X.env) :: starEach es X.env := by rfl) (hpl : (backTo pos (starEach es X.env)).any (·.1) = false := by rfl) :
    PE X (.Call (.Name x p) (e :: es) [] pos) (tCallS sp (WE W) t) := by
  obtain ⟨f, fd, ps, F, hm, kp, b⟩ := c.ex
  exact pe_callS F (hr.mono hk) hg hm kp b (fun σ => passAt tk σ) ha hdb he hpl
/-- a suite that is read for one class of errors alone -/
theorem pss_given {b : List Stmt} {pr : Prop} {t : TS} (h : pr → PSs X b t) : PSs X b (fun D σ H => pr ∧ t D σ H) := ⟨fun pins s σ H D I hh => (h hh.1).run pins s σ H D I hh.2⟩
end
section
variable {P : Program} {w : World} {K : PySem.W.Frag} {mg : Str → Option Value} {base : Heap} {dI C NS : Addr}
/-! ### need_sound, need_ask, inside of a house that isn't sound -/
end
end IC
namespace IC
open PySem L2
/-! ### all stories of a badge -/
abbrev It := List Int × Int × Int
def stOne (kn : Kn) (late : Int) (T m : Nat) (bh : Int × Int) (most : Int) (x : It) (o : Nat) : List It :=
  if x.2.2 + stepP kn late T m x.2.1 o + sel bh o ≤ most then [(x.1 ++ [(o : Int)], (o : Int), x.2.2 + stepP kn late T m x.2.1 o)] else []
def stNext (kn : Kn) (late : Int) (T m : Nat) (bh : Int × Int) (most : Int) (l : List It) : List It := l.flatMap fun x => (List.range 2).flatMap (stOne kn late T m bh most x)
def lvl (kn : Kn) (late : Int) (T : Nat) (most : Int) : Nat → List It
  | 0 => [([], 0, 0)]
  | i + 1 => stNext kn late T (i + 1) (behindP kn late T (T - (i + 1))) most (lvl kn late T most i)
theorem stOne_len {kn : Kn} {late : Int} {T m : Nat} {bh : Int × Int} {most : Int} {x : It} {o : Nat} : (stOne kn late T m bh most x o).length ≤ 1 := by
  unfold stOne
  split <;> simp
theorem flat_len {α β : Type} {f : α → List β} {k : Nat} : ∀ {l : List α}, (∀ x ∈ l, (f x).length ≤ k) → (l.flatMap f).length ≤ k * l.length
  | [], _ => by simp
  | x :: l, h => by
    have h1 := h x List.mem_cons_self
    have h2 := flat_len (l := l) fun y hy => h y (List.mem_cons_of_mem _ hy)
    rw [List.flatMap_cons, List.length_append, List.length_cons, Nat.mul_add, Nat.mul_one]
    omega
theorem stNext_len {kn : Kn} {late : Int} {T m : Nat} {bh : Int × Int} {most : Int} {l : List It} : (stNext kn late T m bh most l).length ≤ 2 * l.length := by
  refine flat_len fun x _ => ?_
  have := flat_len (f := stOne kn late T m bh most x) (k := 1) (l := List.range 2) fun o _ => stOne_len
  rw [List.length_range] at this
  exact this
theorem lvl_st {kn : Kn} {late : Int} {T : Nat} {most : Int} : ∀ (i : Nat), ∀ x ∈ lvl kn late T most i, x.1.length = i ∧ (x.2.1 = 0 ∨ x.2.1 = 1)
  | 0, x, hx => by
    have : x = ([], 0, 0) := by simpa [lvl] using hx
    subst this
    exact ⟨rfl, .inl rfl⟩
  | i + 1, x, hx => by
    have hx : x ∈ stNext kn late T (i + 1) _ most (lvl kn late T most i) := hx
    unfold stNext at hx
    obtain ⟨y, hy, h2⟩ := List.mem_flatMap.mp hx
    obtain ⟨o, ho, h3⟩ := List.mem_flatMap.mp h2
    have ih := lvl_st i y hy
    have ho2 : o < 2 := List.mem_range.mp ho
    unfold stOne at h3
    split at h3
    · have : x = _ := List.mem_singleton.mp h3
      subst this
      refine ⟨by rw [List.length_append, ih.1]; rfl, ?_⟩
      show (o : Int) = 0 ∨ (o : Int) = 1
      omega
    · cases h3
def mostPr (h : Hs) (T b : Nat) : Int := leastP (h.kns.getD b []) h.late T + spareH h
def lvlH (h : Hs) (T b i : Nat) : List It := lvl (h.kns.getD b []) h.late T (mostPr h T b) i
def encI (x : Addr × It) : List V := [.ref x.1, .int x.2.2.1, .int x.2.2.2]
structure ItemsAt (H : Hp) (sA : Addr) (z : List (Addr × It)) : Prop where
  lst : ∃ ys, H sA = some (.lst ys) ∧ TupsAt H ys (z.map encI)
  st : ∀ x ∈ z, H x.1 = some (.tup (encS x.2.1))
theorem ItemsAt.same {H H' : Hp} {sA : Addr} {z : List (Addr × It)} (a : ItemsAt H sA z) (s : Same H H') : ItemsAt H' sA z := by
  obtain ⟨⟨ys, h1, h2⟩, h3⟩ := a
  exact ⟨⟨ys, s _ _ h1, h2.mono (.of_same s)⟩, fun x hx => s _ _ (h3 x hx)⟩
section
variable {P : Program} {w : World} {K : PySem.W.Frag} {mg : Str → Option Value} {base : Heap} {dI C TM : Addr}
end
end IC
namespace IC
open PySem L2
/-! ### rows -/
def rowsB (b : Nat) (kn : Kn) : List (List V) := (keysOf kn).map fun m => [V.int (b : Int), .int m, .str ((lookK kn m).getD "")]
def rowsTo (kns : List Kn) : Nat → List (List V)
  | 0 => []
  | b + 1 => rowsTo kns b ++ rowsB b (kns.getD b [])
theorem keysOf_len {kn : Kn} (k : KnOk kn) : (keysOf kn).length < 64 := by
  unfold keysOf
  rw [List.length_mergeSort, List.length_map]
  exact k.sm
theorem rowsTo_len {kns : List Kn} (ok : ∀ k ∈ kns, KnOk k) : ∀ n, n ≤ kns.length → (rowsTo kns n).length ≤ 64 * n
  | 0, _ => by simp [rowsTo]
  | n + 1, h => by
    have ih := rowsTo_len ok n (by omega)
    have h2 := keysOf_len (ok _ (getD_mem (show n < kns.length by omega)).2)
    show (rowsTo kns n ++ rowsB n (kns.getD n [])).length ≤ _
    unfold rowsB
    rw [List.length_append, List.length_map]
    omega
section
variable {P : Program} {w : World} {K : PySem.W.Frag} {mg : Str → Option Value} {base : Heap} {dI C : Addr}
def sp_rows (C : Addr) : Sp := fun vs H Q _ => ∃ (p L : Addr) (ds : List Addr) (h : Hs), vs = [.ref p] ∧ HouseAt C H p L ds h ∧
  ∀ (a : Addr) (xs : List V) (H' : Hp), Same H H' → H a = none → H' a = some (.lst xs) → TupsAt H' xs (rowsTo h.kns h.kns.length) → Q (.ref a) H'
theorem sc_House_rows : FnScope ["self", "found", "badge", "moment"] ["self"] (defScope s_House_rows) := ⟨rfl, rfl, rfl, by decide +kernel, rfl, by decide +kernel, by decide +kernel⟩
theorem ok_rows {f : Addr} {fd : FuncData} (F : Fun K "rows" "House.rows" s_House_rows f fd) (G : Glb K w mg dI) (TX : HTxt K C) : FnOk P w K mg base CX0 1 f fd ["self"] (sp_rows C) := by
  refine F.ok sc_House_rows (fun vs H Q E h => ?_) (fun cdv A outer s H vs Q E hr h => ?_)
  · obtain ⟨p, L, ds, h, rfl, _⟩ := h
    rfl
  · obtain ⟨p, L, ds, h, rfl, ha, q⟩ := h
    have hu := hu_of hr
    obtain ⟨dx, eo⟩ := ha.ob
    refine ⟨_, (pss_cons (ps_set (i := 1) sc_House_rows.nd rfl (Or.inl rfl) (pe_lst pa_nil))
      (pss_cons (ps_for PassesOwn.never rfl (pi_range1 rfl G.range (pa_cons (pe_callB call_len_seq (by rfl) G.len (by decide +kernel) (pa_cons (pe_fld (pv 0) rfl) pa_nil)) pa_nil)) (pg_name (i := 2) sc_House_rows.nd rfl (Or.inr rfl))
        (pss_one (ps_expr (pe_bm PySem.F.plainAttrs_list PySem.F.slot_list_extend PySem.F.type_list_extend mt_extend (pv 1) (pa_cons (pe_lc (own := [("moment", 3)]) (g := gName 3) (tt := tYes) rfl sc_House_rows.nd (pi_list (pe_callB (call_sortedDI rfl) (by rfl) G.sorted (by decide +kernel) (pa_cons (pe_ix ix_list (pe_fld (pv 0) rfl) (pv 2) (fun _ _ => rfl)) pa_nil))) (blkOk_by (own := [("moment", 3)]) (N := ["self", "found", "badge", "moment"]) (sc := defScope s_House_rows) (by decide +kernel)) (fun _ _ _ _ _ => (pg_name (i := 3) sc_House_rows.nd rfl (Or.inl rfl))) (fun _ _ _ _ _ => pts_nil) (fun _ _ _ _ _ => (pe_tup (pa_cons (pv 2) (pa_cons (pv 3) (pa_cons (pe_dget hu (pe_ix (ix_listK (K := K)) (pe_fldK (K := K) (pv 0) rfl) (pv 2) (fun _ _ => rfl)) (pv 3) (fun _ _ => rfl)) pa_nil)))))) pa_nil)))))
      (pss_one (ps_ret (pv 1))))), ?_⟩
    refine ⟨sz (by simp), fun fo nfo => ?_⟩
    have s1 : Same H (upd H fo (.lst [])) := Same.new nfo
    have hfo1 : upd H fo (.lst []) fo = some (.lst []) := upd_same
    generalize upd H fo (.lst []) = H1 at *
    have dl : ds.length = h.kns.length := ha.kn.len
    have few := ha.kn.few
    refine ⟨_, rfl, p, C, dx, _, _, rfl, s1 _ _ eo, TX.cl, TX.n_known, fl_known _ _, L, _, rfl, .inl (SqL.of (s1 _ _ ha.kn.lst)), _, rfl, by omega, by rw [List.length_map]; omega, ?_⟩
    rw [List.length_map, dl, Int.toNat_natCast]
    refine for_range0 (n := h.kns.length) (fun b σ H2 => ∃ (xs : List V) (o2 o3 : Option V), σ = [some (.ref p), some (.ref fo), o2, o3] ∧ Same H H2 ∧ H2 fo = some (.lst xs) ∧ TupsAt H2 xs (rowsTo h.kns b)) ⟨[], none, none, rfl, s1, hfo1, .nil⟩ ?_ ?_
    · rintro b σ H2 hb ⟨xs, o2, o3, rfl, s2, hfo2, hx⟩
      obtain ⟨hbm, hbk⟩ := getD_mem hb
      have ko := ha.kn.ok _ hbk
      obtain ⟨d, hd, hdk⟩ : ∃ d, ds[b]? = some d ∧ H d = some (.dK (encK (h.kns.getD b []))) := Paired.get (R := fun d k => H d = some (.dK (encK k))) ha.kn.at_ hbm
      have hat : atI (ds.map V.ref) (b : Int) = some (.ref d) := atI_nat (by rw [List.getElem?_map, hd]; rfl)
      have xl : xs.length ≤ 64 * b := by
        have h1 := hx.length
        have h2 := rowsTo_len ha.kn.ok b (by omega)
        omega
      refine ⟨_, rfl, .inl ⟨rfl, _, SqL.of hfo2⟩, ?_⟩
      refine ⟨_, rfl, p, C, dx, _, _, rfl, s2 _ _ eo, TX.cl, TX.n_known, fl_known _ _, _, rfl, L, _, _, .ref d, rfl, rfl, SqL.of (s2 _ _ ha.kn.lst), hat, ?_⟩
      refine ⟨d, encK (h.kns.getD b []), (h.kns.getD b []).map (·.1), rfl, .inl (s2 _ _ hdk), by unfold encK; rw [List.map_map, List.map_map]; rfl, by rw [List.length_map]; exact ko.sm, fun ms q0 pm ps nq => ?_⟩
      have ems : ms = keysOf (h.kns.getD b []) := sort_uniq pm ps
      have hmem : ∀ m ∈ ms, m ∈ (h.kns.getD b []).map (·.1) := fun m hm => pm.mem_iff.mp hm
      have hlen : ms.length < 64 := by rw [pm.length_eq, List.length_map]; exact ko.sm
      have s3 : Same H2 (upd H2 q0 (.lst (ms.map V.int))) := Same.new nq
      have hq3 : upd H2 q0 (.lst (ms.map V.int)) q0 = some (.lst (ms.map V.int)) := upd_same
      generalize upd H2 q0 (.lst (ms.map V.int)) = H3 at *
      refine ⟨q0, rfl, ⟨_, SqL.of hq3⟩, fun D nD => ?_⟩
      refine lc_mkL (K := K) (enc := fun m : Int => V.int m) (l := ms) (fun m => [V.int (b : Int), .int m, .str ((lookK (h.kns.getD b []) m).getD "")]) (SqL.of hq3) nD (by omega) (fun _ => rfl) (fun m hm => ?_) fun ys H4 s4 hD hy => ?_
      · intro H4 s4 Q4 q4
        obtain ⟨z, hz, wz⟩ := ko.look (hmem m hm)
        have s24 := (s2.trans s3).trans s4
        have hg : DGet H4 d (.int m) (some (.str ((lookK (h.kns.getD b []) m).getD ""))) := by
          have e : DGet H4 d (kV (Sum.inl m)) (valV (encK (h.kns.getD b [])) (Sum.inl m)) := DGet.k (s24 _ _ hdk)
          rw [valV_enc, hz] at e
          rw [hz]
          exact e
        refine ⟨_, rfl, _, rfl, _, rfl, p, C, dx, _, _, rfl, s24 _ _ eo, TX.cl, TX.n_known, fl_known _ _, _, rfl, L, _, _, .ref d, rfl, rfl, SqL.of (s24 _ _ ha.kn.lst), hat, _, rfl, ?_⟩
        exact ⟨d, _, rfl, hg, sz (by simp), fun t nt => q4 t _ (Same.new nt) nt upd_same⟩
      · have yl : ys.length = ms.length := by have := hy.length; rw [List.length_map] at this; exact this
        have hfo4 := s4 _ _ (s3 _ _ hfo2)
        refine ⟨fo, D, xs, ys, rfl, rfl, hfo4, hD, sz (by omega), ?_⟩
        have tS : TupS H4 (upd H4 fo (.lst (xs ++ ys))) := TupS.upd (TupS.refl _) (by rw [hfo4]; intro xs z; cases z)
        refine ⟨xs ++ ys, _, _, rfl, Same.mut ((s2.trans s3).trans s4) nfo, upd_same, ?_⟩
        refine Paired.append ((hx.mono (.of_same (s3.trans s4))).mono tS) ?_
        unfold rowsB
        rw [← ems]
        exact hy.mono tS
    · rintro σ H2 ⟨xs, o2, o3, rfl, s2, hfo2, hx⟩
      exact ⟨_, rfl, q fo xs H2 s2 nfo hfo2 hx⟩
end
end IC
namespace IC
open PySem L2
/-! ### what a house refuses -/
/-- a row that can't come -/
def NoRow (h : Hs) (t b m : Int) (z : Str) : Prop := ¬ (h.now ≤ t ∧ t ≤ 60 ∧ 0 ≤ b ∧ b < h.kns.length ∧ Wd z ∧ 1 ≤ m ∧ m ≤ t ∧ t - m ≤ h.late ∧ lookK (h.kns.getD b.toNat []) m = none)
theorem no2 {a b : Prop} [Decidable a] [Decidable b] (h : ¬ (a ∧ b)) : (!(decide a && decide b)) = true := by
  by_cases x : a
  · by_cases y : b
    · exact absurd ⟨x, y⟩ h
    · simp [y]
  · simp [x]
section
variable {P : Program} {w : World} {K : PySem.W.Frag} {mg : Str → Option Value} {base : Heap} {dI C BT BR : Addr}
def sp_tickX (C BT : Addr) : Sp := fun vs H _ E => ∃ (p L : Addr) (ds : List Addr) (h : Hs) (t : Int), vs = [.ref p, .int t] ∧ HouseAt C H p L ds h ∧ ¬ (h.now ≤ t ∧ t ≤ 60) ∧ E (.ref BT) none H
theorem ok_tickX {f : Addr} {fd : FuncData} (F : Fun K "tick" "House.tick" s_House_tick f fd) (X_BadTime : ExcOk K mg "BadTime" BT) (c_is_time : C8.Met P w K mg base 1 C "is_time" (sp_is_time C) []) (c_gone_on : C8.Met P w K mg base 4 C "gone_on" (sp_gone_on C) []) :
    FnOk P w K mg base (L2.CX P w) 5 f fd ["self", "time"] (sp_tickX C BT) := by
  refine F.okX sc_House_tick (fun vs H Q E h => ?_) (fun cdv A outer s H vs Q E hr h => ?_)
  · obtain ⟨p, L, ds, h, t, rfl, _⟩ := h
    rfl
  · obtain ⟨p, L, ds, h, t, rfl, ha, hn, q⟩ := h
    obtain ⟨dx, eo⟩ := ha.ob
    refine ⟨_, (pss_cons (ps_if (pt_not (pt_val (C8.pe_mt c_is_time hr (by decide) (pv 0) (pa_cons (pv 1) pa_nil))))
        (pss_one (ps_raise rfl (takes_of rfl rfl rfl rfl) (pmk_own PySem.F.excBase_ValueError X_BadTime.q X_BadTime.g X_BadTime.k (raises_own X_BadTime.b X_BadTime.t) rfl)))
        pss_nil)
      (pss_one (ps_expr (C8.pe_mt c_gone_on hr (by decide) (pv 0) (pa_cons (pv 1) pa_nil))))), ?_⟩
    exact ⟨_, rfl, p, dx, _, rfl, eo, fl_no _ _ (by decide +kernel), _, rfl, p, L, ds, h, t, rfl, ha, _, rfl, ifT (no2 hn) q⟩
def sp_comeX (K : PySem.W.Frag) (dI C BR : Addr) : Sp := fun vs H _ E => ∃ (p L : Addr) (ds : List Addr) (h : Hs) (t b m : Int) (z : Str), vs = [.ref p, .int t, .int b, .int m, .str z] ∧ HouseAt C H p L ds h ∧ NoRow h t b m z ∧ (Wd z ∨ (PySem.W.nsIn K dI z = some none ∧ ¬ Wd z)) ∧ E (.ref BR) none H
theorem ok_comeX {f : Addr} {fd : FuncData} (F : Fun K "come" "House.come" s_House_come f fd) (G : Glb K w mg dI) (T : HTxt K C) (X_BadRow : ExcOk K mg "BadRow" BR) (c_is_time : C8.Met P w K mg base 1 C "is_time" (sp_is_time C) []) (c_gone_on : C8.Met P w K mg base 4 C "gone_on" (sp_gone_on C) []) :
    FnOk P w K mg base (L2.CX P w) 5 f fd ["self", "time", "badge", "moment", "word"] (sp_comeX K dI C BR) := by
  refine F.okX sc_House_come (fun vs H Q E h => ?_) (fun cdv A outer s H vs Q E hr h => ?_)
  · obtain ⟨p, L, ds, h, t, b, m, z, rfl, _⟩ := h
    rfl
  · obtain ⟨p, L, ds, h, t, b, m, z, rfl, ha, hn, hw, q⟩ := h
    have hu := hu_of hr
    obtain ⟨dx, eo⟩ := ha.ob
    have hlen : ds.length = h.kns.length := ha.kn.len
    refine ⟨_, (pss_cons (ps_if (PW.pt (pw_or (pt_not (pt_val (C8.pe_mt c_is_time hr (by decide) (pv 0) (pa_cons (pv 1) pa_nil)))) (pw_or (pt_not (pt_chain op_le op_lt pe_int (pv 2) (pe_callB call_len_seq (by rfl) G.len (by decide +kernel) (pa_cons (pe_fld (pv 0) rfl) pa_nil)))) (pw_or1 (pt_cmpR (op_notIn_kdE G.KI) (pv 4) (pe_glob (v := .ref dI) rfl G.INSIDE rfl) (by rfl))))))
        (pss_one (ps_raise rfl (takes_of rfl rfl rfl rfl) (pmk_own PySem.F.excBase_ValueError X_BadRow.q X_BadRow.g X_BadRow.k (raises_own X_BadRow.b X_BadRow.t) rfl)))
        pss_nil)
      (pss_cons (ps_if (PW.pt (pw_or (pt_not (pt_chain op_le op_le pe_int (pv 3) (pv 1))) (pw_or (pt_cmpR op_gt (pe_op op_sub (pv 1) (pv 3)) (pe_fld (pv 0) rfl) (nomark _)) (pw_or1 (pt_cmp (pc_din hu (pv 3) (pe_ix ix_list (pe_fld (pv 0) rfl) (pv 2) (fun _ _ => rfl))))))))
        (pss_one (ps_raise rfl (takes_of rfl rfl rfl rfl) (pmk_own PySem.F.excBase_ValueError X_BadRow.q X_BadRow.g X_BadRow.k (raises_own X_BadRow.b X_BadRow.t) rfl)))
        pss_nil)
      (pss_cons (ps_dput hu (pe_ix ix_list (pe_fld (pv 0) rfl) (pv 2) (fun _ _ => rfl)) (pv 3) (pv 4) rfl)
      (pss_one (ps_expr (C8.pe_mt c_gone_on hr (by decide) (pv 0) (pa_cons (pv 1) pa_nil))))))), ?_⟩
    refine ⟨_, rfl, p, dx, _, rfl, eo, fl_no _ _ (by decide +kernel), _, rfl, p, L, ds, h, t, rfl, ha, _, rfl, ?_⟩
    by_cases c1 : h.now ≤ t ∧ t ≤ 60
    case neg => exact ifT (no2 c1) (iteT q)
    refine ifF (by simp [c1.1, c1.2]) ?_
    refine ⟨_, rfl, _, _, rfl, rfl, _, rfl, ?_⟩
    by_cases c2 : 0 ≤ b
    case neg => exact ifF (by simp; omega) ⟨_, rfl, ifT (by simp) (iteT q)⟩
    refine ifT (by simp; omega) ?_
    refine ⟨_, rfl, p, C, dx, _, _, rfl, eo, T.cl, T.n_known, fl_known _ _, L, _, rfl, .inl (SqL.of ha.kn.lst), _, _, rfl, rfl, _, rfl, ?_⟩
    by_cases c3 : b < h.kns.length
    case neg => exact ifT (by simp; omega) (iteT q)
    refine ifF (by simp; omega) ?_
    obtain ⟨bn, rfl⟩ := Int.eq_ofNat_of_zero_le c2
    have hb : bn < h.kns.length := by omega
    obtain ⟨ek, hkm⟩ := getD_mem hb
    obtain ⟨d, hd, hdk⟩ : ∃ d, ds[bn]? = some d ∧ H d = some (.dK (encK (h.kns.getD bn []))) := Paired.get (R := fun d k => H d = some (.dK (encK k))) ha.kn.at_ ek
    rcases hw with hw | ⟨hw, nw⟩
    case inr => exact ⟨_, rfl, z, _, rfl, rfl, hw, _, rfl, ifT (by simp) q⟩
    obtain ⟨u, hns⟩ := G.ns hw
    refine ⟨_, rfl, z, _, rfl, rfl, hns, _, rfl, ifF (by simp) ?_⟩
    refine ⟨_, rfl, _, _, rfl, rfl, _, rfl, ?_⟩
    by_cases c4 : 1 ≤ m
    case neg => exact ifF (by simp; omega) ⟨_, rfl, ifT (by simp) (iteT q)⟩
    refine ifT (by simp; omega) ?_
    refine ⟨_, rfl, _, _, rfl, rfl, _, rfl, ?_⟩
    by_cases c5 : m ≤ t
    case neg => exact ifT (by simp; omega) (iteT q)
    refine ifF (by simp; omega) ?_
    refine ⟨_, rfl, _, rfl, _, _, rfl, rfl, _, rfl, p, C, dx, _, _, rfl, eo, T.cl, T.n_late, fl_late _ _, _, _, rfl, rfl, _, rfl, ?_⟩
    by_cases c6 : t - m ≤ h.late
    case neg => exact ifT (by simp; omega) (iteT q)
    refine ifF (by simp; omega) ?_
    cases e : lookK (h.kns.getD bn []) m with
    | none => exact absurd ⟨c1.1, c1.2, c2, c3, hw, c4, c5, c6, by rw [Int.toNat_natCast]; exact e⟩ hn
    | some y =>
      have hg : DGet H d (.int m) (some (.str y)) := by
        have e2 : DGet H d (kV (Sum.inl m)) (valV (encK (h.kns.getD bn [])) (Sum.inl m)) := DGet.k hdk
        rw [valV_enc, e] at e2
        exact e2
      exact ⟨_, rfl, _, rfl, p, C, dx, _, _, rfl, eo, T.cl, T.n_known, fl_known _ _, _, rfl, L, _, _, .ref d, rfl, rfl, SqL.of ha.kn.lst, atI_nat (by rw [List.getElem?_map, hd]; rfl), d, _, rfl, hg, _, rfl, ifT (by simp) q⟩
def sp_broken (C : Addr) : Sp := fun vs H Q _ => ∃ (p L : Addr) (ds : List Addr) (h : Hs), vs = [.ref p] ∧ HouseAt C H p L ds h ∧ Q h.fault H
theorem sc_House_broken : FnScope ["self"] ["self"] (defScope s_House_broken) := ⟨rfl, rfl, rfl, by decide +kernel, rfl, by decide +kernel, by decide +kernel⟩
theorem ok_broken {f : Addr} {fd : FuncData} (F : Fun K "broken" "House.broken" s_House_broken f fd) (T : HTxt K C) : FnOk P w K mg base CX0 1 f fd ["self"] (sp_broken C) := by
  refine F.ok sc_House_broken (fun vs H Q E h => ?_) (fun cdv A outer s H vs Q E hr h => ?_)
  · obtain ⟨p, L, ds, h, rfl, _⟩ := h
    rfl
  · obtain ⟨p, L, ds, h, rfl, ha, q⟩ := h
    obtain ⟨dx, eo⟩ := ha.ob
    refine ⟨_, (pss_one (ps_ret (pe_fld (pv 0) rfl))), ?_⟩
    exact ⟨_, rfl, p, C, dx, _, _, rfl, eo, T.cl, T.n_fault, fl_fault _ _, q⟩
end
end IC
namespace IC
open PySem L2
structure GlbF (mg : Str → Option Value) : Prop where
  FIGURES : ∃ u, mg "FIGURES" = some u ∧ RelV (.str "0123456789") u
/-! ### the number of a word -/
def strN (n : Nat) : Str := Str.ofString (toString (n : Int))
def numW (z : Str) : Option Nat := (List.range 100).find? fun n => decide (strN n = z)
def numV (z : Str) : V := match numW z with
  | some n => .int n
  | none => .non
def isFig (c : Nat) : Bool := decide (c ∈ (Str.ofString "0123456789").cps.toList)
def digW (z : Str) : Bool := (decide (1 ≤ z.length) && decide (z.length ≤ 2)) && z.cps.toList.all isFig
theorem strN_dig : (List.range 100).all (fun n => digW (strN n)) = true := by decide +kernel
theorem num_none {z : Str} (h : digW z = false) : numW z = none := by
  unfold numW
  rw [List.find?_eq_none]
  intro n hn e
  have e' := of_decide_eq_true e
  have := List.all_eq_true.mp strN_dig n hn
  rw [e', h] at this
  cases this
theorem num1 : (List.range 10).all (fun c => decide (numW ⟨#[c + 48]⟩ = some c) && decide (PySem.intText? ⟨#[c + 48]⟩ = some (c : Int))) = true := by decide +kernel
theorem num2 : (List.range 10).all (fun c => (List.range 10).all fun d => if c = 0 then decide (numW ⟨#[48, d + 48]⟩ = none) else decide (numW ⟨#[c + 48, d + 48]⟩ = some (10 * c + d)) && decide (PySem.intText? ⟨#[c + 48, d + 48]⟩ = some ((10 * c + d : Nat) : Int))) = true := by decide +kernel
theorem fig_iff {c : Nat} : isFig c = true ↔ 48 ≤ c ∧ c ≤ 57 := by
  unfold isFig
  rw [decide_eq_true_eq]
  have e : (Str.ofString "0123456789").cps.toList = [48, 49, 50, 51, 52, 53, 54, 55, 56, 57] := by decide +kernel
  rw [e]
  simp only [List.mem_cons, List.not_mem_nil, or_false]
  omega
theorem num_one {c : Nat} (h : isFig c = true) : numW ⟨#[c]⟩ = some (c - 48) ∧ PySem.intText? ⟨#[c]⟩ = some ((c - 48 : Nat) : Int) := by
  obtain ⟨h1, h2⟩ := fig_iff.mp h
  have := List.all_eq_true.mp num1 (c - 48) (List.mem_range.mpr (by omega))
  rw [Bool.and_eq_true, decide_eq_true_eq, decide_eq_true_eq, show c - 48 + 48 = c by omega] at this
  exact this
theorem num_two {c d : Nat} (h : isFig c = true) (h' : isFig d = true) : (c = 48 → numW ⟨#[c, d]⟩ = none) ∧ (c ≠ 48 → ∃ n : Nat, numW ⟨#[c, d]⟩ = some n ∧ PySem.intText? ⟨#[c, d]⟩ = some (n : Int)) := by
  obtain ⟨h1, h2⟩ := fig_iff.mp h
  obtain ⟨h3, h4⟩ := fig_iff.mp h'
  have := List.all_eq_true.mp (List.all_eq_true.mp num2 (c - 48) (List.mem_range.mpr (by omega))) (d - 48) (List.mem_range.mpr (by omega))
  rw [show d - 48 + 48 = d by omega, show c - 48 + 48 = c by omega] at this
  refine ⟨fun e => ?_, fun e => ?_⟩
  · rw [if_pos (by omega), decide_eq_true_eq] at this
    rw [e]
    exact this
  · rw [if_neg (by omega), Bool.and_eq_true, decide_eq_true_eq, decide_eq_true_eq] at this
    exact ⟨_, this.1, this.2⟩
/-- a text of plain signs -/
def Asc (z : Str) : Prop := ∀ c ∈ z.cps.toList, c < 128
theorem asc_ok {c : Nat} (h : c < 128) : okV (.str ⟨#[c]⟩) = true := by
  have : (List.range 128).all (fun c => okV (.str ⟨#[c]⟩)) = true := by decide +kernel
  exact List.all_eq_true.mp this c (List.mem_range.mpr h)
/-- [x for x in z if t], z a text -/
theorem lc_signs {z : Str} {j : Nat} {tt : TT} {te : TE} {vs : List Nat} {σ : L2.St} {H1 : Hp} {D : Addr} {Qd : Hp → Prop} (f : Nat → Bool) (nD : H1 D = none) (hn : z.cps.toList.length ≤ 100000) (hw : ∀ x, wipe ((wipe σ vs).set j (some x)) vs = wipe σ vs)
    (ht : ∀ c, GivesB tt ((wipe σ vs).set j (some (.str ⟨#[c]⟩))) H1 (f c)) (he : ∀ c, GivesV te ((wipe σ vs).set j (some (.str ⟨#[c]⟩))) H1 (.str ⟨#[c]⟩))
    (k : ∀ H', Same H1 H' → H' D = some (.lst ((z.cps.toList.filter f).map fun c => V.str ⟨#[c]⟩)) → Qd H') :
    ∃ W : Nat → Nat → Hp → Prop, (∃ m, W 0 m (upd H1 D (.lst []))) ∧ ∀ i m H, W i m H →
      ((Its z).stop i H ∧ Qd H) ∨ ((Its z).go i H ∧ ∃ Nx : Hp → Prop, (∀ H', Nx H' → ∃ m', m' < m ∧ W (i + 1) m' H') ∧ ∀ x H', (Its z).yld i H x H' → gName j x (wipe σ vs) H' fun σ2 H2 => wipe σ2 vs = wipe σ vs ∧ tt σ2 H2 fun b H3 =>
        if b = true then te σ2 H3 fun y H4 => ∃ acc, H4 D = some (.lst acc) ∧ acc.length < sizeLine ∧ Nx (upd H4 D (.lst (acc ++ [y]))) else Nx H3) := by
  have zl : z.cps.size = z.cps.toList.length := by rw [Array.length_toList]
  refine ⟨fun i m H => m = z.cps.size - i ∧ i ≤ z.cps.size ∧ Same H1 H ∧ H D = some (.lst (((z.cps.toList.take i).filter f).map fun c => V.str ⟨#[c]⟩)), ⟨z.cps.size, by simp, Nat.zero_le _, Same.new nD, upd_same⟩, ?_⟩
  rintro i m H ⟨rfl, hi, sH, hD⟩
  by_cases hlt : i < z.cps.size
  · refine .inr ⟨hlt, fun H' => Same H1 H' ∧ H' D = some (.lst (((z.cps.toList.take (i + 1)).filter f).map fun c => V.str ⟨#[c]⟩)), fun H' p' => ⟨z.cps.size - (i + 1), by omega, rfl, hlt, p'⟩, fun x H' y => ?_⟩
    obtain ⟨rfl, c, hc, rfl⟩ := y
    have hc' : z.cps.toList[i]? = some c := by rw [Array.getElem?_toList]; exact hc
    have etk : z.cps.toList.take (i + 1) = z.cps.toList.take i ++ [c] := by rw [List.take_succ, hc']; rfl
    have hll : (((z.cps.toList.take i).filter f).map fun c => V.str ⟨#[c]⟩).length ≤ i := by
      rw [List.length_map]
      have := List.length_filter_le f (z.cps.toList.take i)
      rw [List.length_take] at this
      omega
    refine ⟨hw _, ht c H' sH _ fun H3 s3 => ite2 (fun h => ?_) (fun h => ?_)⟩
    · refine he c H3 (sH.trans s3) _ fun H4 s4 => ⟨_, s4 _ _ (s3 _ _ hD), szl (by omega), Same.mut ((sH.trans s3).trans s4) nD, ?_⟩
      rw [upd_same, etk, List.filter_append, List.map_append, List.filter_cons, if_pos h]
      rfl
    · refine ⟨sH.trans s3, ?_⟩
      rw [etk, List.filter_append, List.map_append, List.filter_cons, if_neg h]
      simpa using s3 _ _ hD
  · refine .inl ⟨Nat.le_of_not_lt hlt, k H sH ?_⟩
    rw [List.take_of_length_le (by omega)] at hD
    exact hD
section
variable {P : Program} {w : World} {K : PySem.W.Frag} {mg : Str → Option Value} {base : Heap} {dI C : Addr}
def sp_number : Sp := fun vs H Q _ => ∃ z : Str, vs = [.str z] ∧ z.length ≤ 640 ∧ Asc z ∧ ∀ H', Same H H' → Q (numV z) H'
theorem sc_number_of : FnScope ["word", "sign"] ["word"] (defScope s_number_of) := ⟨rfl, rfl, rfl, by decide +kernel, rfl, by decide +kernel, by decide +kernel⟩
theorem ok_number_of {f : Addr} {fd : FuncData} (F : Fun K "number_of" "number_of" s_number_of f fd) (G : Glb K w mg dI) (GB : GlbF mg) : FnOk P w K mg base CX0 1 f fd ["word"] sp_number := by
  refine F.ok sc_number_of (fun vs H Q E h => ?_) (fun cdv A outer s H vs Q E hr h => ?_)
  · obtain ⟨z, rfl, _⟩ := h
    rfl
  · obtain ⟨z, rfl, hz, ha, q⟩ := h
    have none : digW z = false → ∀ H', Same H H' → Q .non H' := fun e H' s' => by
      have := q H' s'
      unfold numV at this
      rw [num_none e] at this
      exact this
    refine ⟨_, (pss_cons (ps_if (PW.pt (pw_or (pt_not (pt_chain op_le op_le pe_int (pe_callB call_len_str (by rfl) G.len (by decide +kernel) (pa_cons (pv 0) pa_nil)) pe_int)) (pw_or1 (pt_cmpR (op_neD hr.units) (pe_lc (own := [("sign", 1)]) (g := gName 1) rfl sc_number_of.nd (pi_str (pv 0)) (blkOk_by (own := [("sign", 1)]) (N := ["word", "sign"]) (sc := defScope s_number_of) (by decide +kernel)) (fun _ _ _ _ _ => (pg_name (i := 1) sc_number_of.nd rfl (Or.inl rfl))) (fun _ _ _ _ _ => (pts_one (pt_cmpR op_notIn_sign (pv 1) (C8.pe_gc rfl GB.FIGURES) rfl))) (fun _ _ _ _ _ => (pv 1))) (pe_lst pa_nil) (nomark _)))))
        (pss_one (ps_ret pe_non))
        pss_nil)
      (pss_one (ps_ret (pe_ifExp (PW.pt (pw_and (pt_cmpR op_eq (pe_ix ix_str (pv 0) pe_int (fun _ _ => rfl)) pe_str (nomark _)) (pw_and1 (pt_cmpR op_ne (pv 0) pe_str (nomark _))))) pe_non (pe_callTy call_int_str (by rfl) G.int (by decide +kernel) (pa_cons (pv 0) pa_nil)))))), ?_⟩
    refine ⟨_, rfl, z, rfl, sz (by omega), ?_⟩
    have zl : z.length = z.cps.toList.length := by unfold Str.length; rw [Array.length_toList]
    refine ⟨_, _, rfl, rfl, _, rfl, ?_⟩
    by_cases l1 : 1 ≤ z.length
    case neg =>
      refine ifF (by simp; omega) ⟨_, rfl, ifT (by simp) (iteT (none ?_ H (Same.refl _)))⟩
      unfold digW
      rw [decide_eq_false l1]
      rfl
    refine ifT (by simp; omega) ⟨_, _, rfl, rfl, _, rfl, ?_⟩
    by_cases l2 : z.length ≤ 2
    case neg =>
      refine ifT (by simp; omega) (iteT (none ?_ H (Same.refl _)))
      unfold digW
      rw [decide_eq_false l2, Bool.and_false]
      rfl
    refine ifF (by simp; omega) ?_
    refine ⟨_, rfl, z, rfl, fun D nD => ?_⟩
    refine lc_signs (fun c => !isFig c) nD (by omega) (fun _ => rfl) (fun c => ?_) (fun c => ?_) fun H1 s1 hD => ?_
    · intro H2 s2 Q2 q2
      exact ⟨_, rfl, c, _, rfl, rfl, _, rfl, q2 H2 (Same.refl _)⟩
    · intro H2 s2 Q2 q2
      exact ⟨_, rfl, q2 H2 (Same.refl _)⟩
    refine ⟨sz (by simp), fun L nL => ?_⟩
    have s2 : Same H1 (upd H1 L (.lst [])) := Same.new nL
    have hL : upd H1 L (.lst []) L = some (.lst []) := upd_same
    generalize upd H1 L (.lst []) = H2 at *
    have okS : ∀ v ∈ (z.cps.toList.filter fun c => !isFig c).map fun c => V.str ⟨#[c]⟩, okV v = true := fun v hv => by
      obtain ⟨c, hc, rfl⟩ := List.mem_map.mp hv
      exact asc_ok (ha c (List.mem_filter.mp hc).1)
    refine ⟨.list (((z.cps.toList.filter fun c => !isFig c).map fun c => V.str ⟨#[c]⟩).map fdat), .list [], .lst (SqL.of (s2 _ _ hD)) (dp_flats okS), .lst (SqL.of hL) .nil, shaped_flats okS, by decide +kernel, _, rfl, ?_⟩
    by_cases all : z.cps.toList.all isFig = true
    case neg =>
      have hd : digW z = false := by
        unfold digW
        rw [Bool.eq_false_iff.mpr all, Bool.and_false]
      have hne : (z.cps.toList.filter fun c => !isFig c) ≠ [] := fun e => all (by
        rw [List.all_eq_true]
        intro c hc
        have := List.filter_eq_nil_iff.mp e c hc
        simpa using this)
      refine ifT ?_ (none hd H2 (s1.trans s2))
      cases hq : (z.cps.toList.filter fun c => !isFig c) with
      | nil => exact absurd hq hne
      | cons c l => rfl
    have hnil : (z.cps.toList.filter fun c => !isFig c) = [] := List.filter_eq_nil_iff.mpr fun c hc => by
      have := List.all_eq_true.mp all c hc
      simp [this]
    refine ifF (by rw [hnil]; decide +kernel) ?_
    have s12 := s1.trans s2
    have zz : (∃ c, z = ⟨#[c]⟩) ∨ ∃ c d, z = ⟨#[c, d]⟩ := by
      obtain ⟨⟨l⟩⟩ := z
      match l, l1, l2 with
      | [c], _, _ => exact .inl ⟨c, rfl⟩
      | [c, d], _, _ => exact .inr ⟨c, d, rfl⟩
      | [], h, _ => exact absurd h (by decide)
      | _ :: _ :: _ :: _, _, h => exact absurd h (by simp [Str.length])
    have z0 : (Str.ofString "0") = ⟨#[48]⟩ := by decide +kernel
    rw [z0]
    rcases zz with ⟨c, rfl⟩ | ⟨c, d, rfl⟩
    · have fc : isFig c = true := List.all_eq_true.mp all c (by simp)
      obtain ⟨n1, n2⟩ := num_one fc
      have qq : Q (.int ((c - 48 : Nat) : Int)) H2 := by
        have := q H2 s12
        unfold numV at this
        rw [n1] at this
        exact this
      refine ⟨_, rfl, _, _, c, rfl, rfl, sz (by omega), rfl, rfl, _, rfl, ite2 (fun e => ?_) (fun e => ?_)⟩
      · have e' : c = 48 := by simpa using e
        subst e'
        exact ⟨_, rfl, rfl, _, rfl, ifF (by decide +kernel) ⟨_, rfl, _, _, rfl, n2, by decide, qq⟩⟩
      · exact iteF ⟨_, rfl, _, _, rfl, n2, by show 1 ≤ 640; decide, qq⟩
    · have fc : isFig c = true := List.all_eq_true.mp all c (by simp)
      have fd' : isFig d = true := List.all_eq_true.mp all d (by simp)
      obtain ⟨n1, n2⟩ := num_two fc fd'
      refine ⟨_, rfl, _, _, c, rfl, rfl, sz (by omega), rfl, rfl, _, rfl, ite2 (fun e => ?_) (fun e => ?_)⟩
      · have e' : c = 48 := by simpa using e
        have qq : Q .non H2 := by
          have := q H2 s12
          unfold numV at this
          rw [n1 e'] at this
          exact this
        exact ⟨_, rfl, rfl, _, rfl, ifT (by simp) qq⟩
      · have e' : c ≠ 48 := by simpa using e
        obtain ⟨n, m1, m2⟩ := n2 e'
        have qq : Q (.int (n : Int)) H2 := by
          have := q H2 s12
          unfold numV at this
          rw [m1] at this
          exact this
        exact iteF ⟨_, rfl, _, _, rfl, m2, by show 2 ≤ 640; decide, qq⟩
theorem sc__law_number : FnScope ["_law_word", "_law_some", "_law_number_here"] ["_law_word"] (defScope s__law_number) := ⟨rfl, rfl, rfl, by decide +kernel, rfl, by decide +kernel, by decide +kernel⟩
theorem ok_lnumber {f : Addr} {fd : FuncData} (F : Fun K "_law_number" "_law_number" s__law_number f fd) (G : Glb K w mg dI) : FnOk P w K mg base CX0 1 f fd ["_law_word"] sp_number := by
  refine F.ok sc__law_number (fun vs H Q E h => ?_) (fun cdv A outer s H vs Q E hr h => ?_)
  · obtain ⟨z, rfl, _⟩ := h
    rfl
  · obtain ⟨z, rfl, hz, ha, q⟩ := h
    refine ⟨_, (pss_cons (ps_setLc (i := 1) (own := [("_law_number_here", 2)]) (g := gName 2) rfl sc__law_number.nd rfl rfl (sw_true rfl rfl rfl (by decide +kernel)) (pi_range1 rfl G.range (pa_cons pe_int pa_nil)) (blkOk_by (own := [("_law_number_here", 2)]) (N := ["_law_word", "_law_some", "_law_number_here"]) (sc := defScope s__law_number) (by decide +kernel)) (fun _ _ _ _ _ => (pg_name (i := 2) sc__law_number.nd rfl (Or.inl rfl))) (fun _ _ _ _ _ => (pts_one (pt_cmpR op_eq (pe_callTy call_str_int (by rfl) G.str (by decide +kernel) (pa_cons (pv 2) pa_nil)) (pv 0) (nomark _)))) (fun _ _ _ _ _ => (pv 2)))
      (pss_one (ps_ret (pe_ix ix_list (pe_op op_cat (pv 1) (pe_lst (pa_cons pe_non pa_nil))) pe_int (fun _ _ => rfl))))), ?_⟩
    refine ⟨100, rfl, by decide, by decide, fun D nD => ?_⟩
    refine lc_vals (n := 100) (fun n => decide (strN n = z)) (fun n => .int (n : Int)) nD (by decide) (fun _ => rfl) (fun i hi => ?_) (fun i hi _ => ?_) fun H1 s1 hD => ?_
    · intro H2 s2 Q2 q2
      refine ⟨_, rfl, _, rfl, ?_, _, rfl, rfl, _, ?_, q2 H2 (Same.refl _)⟩
      · rw [Int.natAbs_natCast]
        exact Nat.lt_of_le_of_lt (Nat.log2_le_self i) (by omega)
      · unfold strN
        congr 1
        exact decide_eq_decide.mpr ⟨fun e => by injection e, fun e => by rw [e]⟩
    · intro H2 s2 Q2 q2
      exact ⟨_, rfl, q2 H2 (Same.refl _)⟩
    · refine ⟨_, rfl, sz (by simp), fun L nL => ?_⟩
      have s2 : Same H1 (upd H1 L (.lst [.non])) := Same.new nL
      have hL : upd H1 L (.lst [.non]) L = some (.lst [.non]) := upd_same
      generalize upd H1 L (.lst [.non]) = H2 at *
      have fl := List.length_filter_le (fun n => decide (strN n = z)) (List.range 100)
      rw [List.length_range] at fl
      refine ⟨D, L, _, _, rfl, rfl, s2 _ _ hD, hL, sz (by rw [List.length_map, List.length_singleton]; omega), fun p np => ?_⟩
      refine ⟨p, _, _, numV z, rfl, rfl, SqL.of upd_same, atI_nat (j := 0) ?_, q _ ((s1.trans s2).trans (Same.new np))⟩
      have hf : ((List.range 100).filter fun n => decide (strN n = z)).head? = numW z := by
        unfold numW
        rw [List.head?_filter]
      unfold numV
      rw [← hf]
      cases (List.range 100).filter fun n => decide (strN n = z) with
      | nil => rfl
      | cons n l => rfl
end
end IC
namespace IC
open PySem L2
/-! ### words of a text -/
theorem spl_mem {S : List Nat} : ∀ (l : List Nat) {k : Nat} {acc u : List Nat}, u ∈ TL.spl S k acc l → (∀ c ∈ u, c ∈ acc ∨ c ∈ l) ∧ u.length ≤ acc.length + l.length
  | [], k, acc, u, h => by
    rw [TL.spl_nil] at h
    rw [List.mem_singleton.mp h]
    exact ⟨fun c hc => .inl hc, by simp⟩
  | c :: r, 0, acc, u, h => by
    by_cases p : TL.pre S (c :: r) = true
    · rw [TL.spl_hit p] at h
      rcases List.mem_cons.mp h with e | e
      · rw [e]
        exact ⟨fun x hx => .inl hx, by omega⟩
      · obtain ⟨h1, h2⟩ := spl_mem r e
        refine ⟨fun x hx => ?_, by rw [List.length_nil] at h2; rw [List.length_cons]; omega⟩
        rcases h1 x hx with z | z
        · cases z
        · exact .inr (List.mem_cons_of_mem _ z)
    · rw [TL.spl_miss (Bool.eq_false_iff.mpr p)] at h
      obtain ⟨h1, h2⟩ := spl_mem r h
      refine ⟨fun x hx => ?_, by rw [List.length_append, List.length_singleton] at h2; rw [List.length_cons]; omega⟩
      rcases h1 x hx with z | z
      · rcases List.mem_append.mp z with y | y
        · exact .inl y
        · rw [List.mem_singleton.mp y]
          exact .inr List.mem_cons_self
      · exact .inr (List.mem_cons_of_mem _ z)
  | c :: r, k + 1, acc, u, h => by
    have h' : u ∈ TL.spl S k acc r := h
    obtain ⟨h1, h2⟩ := spl_mem r h'
    refine ⟨fun x hx => (h1 x hx).imp id (List.mem_cons_of_mem _), by rw [List.length_cons]; omega⟩
def wordsT (a : Str) : List Str := Txt.split a " "
theorem words_ok {a z : Str} (ha : Asc a) (h : z ∈ wordsT a) : Asc z ∧ z.length ≤ a.length := by
  have hs := TL.split_spl a " " (by decide +kernel) (TL.kind_ok (by decide +kernel))
  have hm : TL.tl z ∈ TL.spl (TL.tl " ") 0 [] (TL.tl a) := by
    rw [← hs]
    exact List.mem_map.mpr ⟨z, h, rfl⟩
  obtain ⟨h1, h2⟩ := spl_mem _ hm
  refine ⟨fun c hc => ?_, ?_⟩
  · rcases h1 c hc with y | y
    · cases y
    · exact ha c y
  · rw [TL.len_tl, TL.len_tl a]
    simpa using h2
theorem words_len (a : Str) : (wordsT a).length ≤ a.length + 2 := PyProof.Rows.split_le a " "
end IC
namespace IC
open PySem PySem.Spec PyProof.Rows L2 LamX NdefX
/-! ### lambdas as tracked objects -/
/-- a lambda's words, the cells that it took, its code object, its defaults -/
structure LF where
  qual : Str
  params : Arguments
  body : Expr
  scope : Scope
  cl : List (Str × Addr)
  c : Addr
  dV : Value
abbrev LF.fd (F : LF) (doc pm ctv : Value) : FuncData := PySem.W.kdv_fn "<lambda>" F.qual F.params (.expr F.body) F.scope F.cl F.dV doc pm (.ref F.c) ctv
abbrev LF.nf (F : LF) : NF := ⟨"<lambda>", F.qual, F.params, [], F.scope, F.cl, F.c⟩
def LamO (f : Addr) (F : LF) : HO := .ext fun g => ∃ (od : Option Addr) (sl : Array (Option Value)) (doc pm ctv : Value), g.get? f = some (⟨.type "function", od, .func (F.fd doc pm ctv), sl⟩ : Obj)
theorem lamO_ne {f : Addr} {F : LF} (ps : Array Value) : LamO f F ≠ .tbl ps := fun z => by
  unfold LamO at z
  cases z
theorem lamO_at {P : Program} {w : World} {H : Hp} {g : Heap} {f : Addr} {F : LF} (ok : HOk P w H g) (e : H f = some (LamO f F)) : ∃ (od : Option Addr) (sl : Array (Option Value)) (doc pm ctv : Value), g.get? f = some (⟨.type "function", od, .func (F.fd doc pm ctv), sl⟩ : Obj) := by
  obtain ⟨r, _, _⟩ := ok f _ e
  exact r
theorem lamO_fn {P : Program} {w : World} {H : Hp} {g : Heap} {f : Addr} {F : LF} (ok : HOk P w H g) (e : H f = some (LamO f F)) : PySem.W.FnAt f g := by
  obtain ⟨od, sl, doc, pm, ctv, r⟩ := lamO_at ok e
  exact ⟨_, od, _, sl, r⟩
section
variable {X : Cx} {pins : List (Addr × Obj)} {σ : L2.St} {H : Hp} {s : Shared}
theorem inv_lam {F : LF} {o : Obj} {tk : Nat} {doc pm ctv : Value} (I : Inv X pins σ H s) (ho : o = { cls := .type "function", data := .func (F.fd doc pm ctv) }) :
    Inv X pins σ (upd H s.heap.objs.size (LamO s.heap.objs.size F)) { s with heap := s.heap.push o, toks := tk } := by
  subst ho
  refine I.laid (a := s.heap.objs.size) (fun b u r => Heap.get?_push_of_some _ r) (Nat.le_refl _) ?_
  have r : (s.heap.push ({ cls := .type "function", data := .func (F.fd doc pm ctv) } : Obj)).get? s.heap.objs.size = some ({ cls := .type "function", data := .func (F.fd doc pm ctv) } : Obj) := Heap.get?_push_size _ rfl
  exact ⟨⟨_, _, doc, pm, ctv, r⟩, ⟨_, r⟩, fun g1 g2 ⟨od, sl, d, p, t, z⟩ st => ⟨od, sl, d, p, t, st _ z⟩⟩
/-- the lambda's object is made: its code object is new, or the table tells it -/
theorem lam_tail {T : List (Addr × Str)} {c P : Addr} {q : Str} {params : Arguments} {body : Expr} {scope : Scope} {pos : Pos} {dV : Value} {E Q : Value → Shared → Prop} (I : Inv X pins σ H s) (TB : TabB X.base X.mg c P) (hcode : X.env.code = .ref c)
    (hm : (P, q) ∈ T) (hu : ∀ p ∈ T, p.1 = P → p.2 = q) (hT : Tabs T H) (hfree : ∀ y ∈ scope.names, y.2 = .free → ∃ d, X.env.cells.lookup y.1 = some d)
    (h : ∀ (f c' : Addr) (H1 : Hp) (s' : Shared), Inv X pins σ H1 s' → Keeps [P] H H1 → (∀ b, H1 b = Option.none → H b = Option.none) → Tabs T H1 → H f = none → H1 f = some (LamO f ⟨q, params, body, scope, cloFrom X.env.cells scope.names [], c', dV⟩) → H1 c' = some (CodeO c' q) → Q (.ref f) s') :
    wpAny (model X.prog X.w) X.A (makeTail "<lambda>" q params (.expr body) scope X.env dV .none none pos pos.line) Q E s := by
  obtain ⟨ps, hP, tr, al⟩ := (show TabS H P q from hT _ hm)
  have bP : s.heap.BuiltinsAt X.mg P := TB.bm.keeps I.bk
  have gP : s.heap.get? P = some { cls := .none, data := .fields ps } := I.hok P _ hP
  cases hc : codeAmong pos ps.toList with
  | none =>
    refine PySem.W.kdv_makeTail (mg := X.mg) (c := c) (P := P) (ps := ps) (closure_ok hfree) I.ok.glob (I.mod.glob.keeps I.bk) hcode (TB.code.keeps I.bk) gP tr hc TB.gP bP fun c' ctv doc g tk kx ge lt rec tb => ?_
    obtain ⟨c2, oc, vs, t, e2, hoc, hd, hv⟩ := rec
    cases e2
    have nC : H c' = none := I.hok.fresh ge
    have I1 := inv_table (t' := tk) (more := #[rawInt pos.line, rawInt pos.col, .ref c']) (h' := g) I hP (fun b o nb r => kx b o nb r) tb ge ⟨oc, vs, t, hoc, hd, hv⟩
    have hE : Keeps [P] H (upd (upd H P (.tbl (ps ++ #[rawInt pos.line, rawInt pos.col, .ref c']))) c' (CodeO c' q)) := fun b o r n => by
      rw [upd_ne (ne_of_none r nC), upd_ne (fun z => n (by rw [z]; exact List.mem_singleton.mpr rfl))]
      exact r
    have nT : ∀ {d : Addr} {z : Str}, H d = some (CodeO d z) → d ∉ [P] := fun {d z} r m => by
      rw [List.mem_singleton.mp m, hP] at r
      exact codeO_ne _ (Option.some.inj r).symm
    have eL : (ps ++ #[rawInt pos.line, rawInt pos.col, .ref c']).toList = ps.toList ++ [rawInt pos.line, rawInt pos.col, .ref c'] := by simp
    have T1 : Tabs T (upd (upd H P (.tbl (ps ++ #[rawInt pos.line, rawInt pos.col, .ref c']))) c' (CodeO c' q)) := fun p hp => by
      by_cases hb : p.1 = P
      · rw [hu p hp hb, hb]
        refine ⟨_, by rw [upd_ne (ne_of_none hP nC), upd_same], by rw [eL]; exact PySem.TriplesOk_snoc _ _ _ _ tr, fun p' cv hcv => ?_⟩
        rw [eL] at hcv
        rcases among_app _ tr hcv with z | z
        · obtain ⟨c0, e1, e2⟩ := al p' cv z
          exact ⟨c0, e1, hE _ _ e2 (nT e2)⟩
        · exact ⟨c', z, upd_same⟩
      · obtain ⟨ps', a1, a2, a3⟩ := hT p hp
        refine ⟨ps', by rw [upd_ne (ne_of_none a1 nC), upd_ne hb]; exact a1, a2, fun p' cv hcv => ?_⟩
        obtain ⟨c0, e1, e2⟩ := a3 p' cv hcv
        exact ⟨c0, e1, hE _ _ e2 (nT e2)⟩
    have nF := I1.hok.fresh (Nat.le_refl _)
    have I2 := inv_lam (F := ⟨q, params, body, scope, cloFrom X.env.cells scope.names [], c', dV⟩) (tk := tk) (doc := doc) (pm := (X.mg "__name__").getD .none) (ctv := ctv) I1 rfl
    refine h g.objs.size c' _ _ I2 (fun b o r n => ?_) (fun b r => upd_none (upd_none (upd_none r))) (T1.ext fun b o r => ?_) (I.hok.fresh (Nat.le_trans ge (Nat.le_of_lt lt))) upd_same ?_
    · have r1 := hE b o r n
      exact (upd_ne (ne_of_none r1 nF)).trans r1
    · exact (upd_ne (ne_of_none r nF)).trans r
    · exact (upd_ne (Nat.ne_of_lt lt)).trans upd_same
  | some cv =>
    obtain ⟨c', r, hco⟩ := al pos cv hc
    subst r
    refine PySem.W.kdv_makeTailHit (mg := X.mg) (c := c) (P := P) (ps := ps) (closure_ok hfree) I.ok.glob (I.mod.glob.keeps I.bk) hcode (TB.code.keeps I.bk) gP tr hc bP fun ctv doc g tk kx sz => ?_
    have I1 : Inv X pins σ H { s with heap := g, toks := tk } := I.kept kx
    have nF : H g.objs.size = none := I1.hok.fresh (Nat.le_refl _)
    have I2 := inv_lam (F := ⟨q, params, body, scope, cloFrom X.env.cells scope.names [], c', dV⟩) (tk := tk) (doc := doc) (pm := (X.mg "__name__").getD .none) (ctv := ctv) I1 rfl
    refine h g.objs.size c' _ _ I2 (fun b o r n => ?_) (fun b r => upd_none r) (hT.ext fun b o r => ?_) nF upd_same ?_
    · exact (upd_ne (ne_of_none r nF)).trans r
    · exact (upd_ne (ne_of_none r nF)).trans r
    · exact (upd_ne (ne_of_none hco nF)).trans hco
end
/-- the reading of a lambda without defaults -/
def tLm (P : Addr) (T : List (Addr × Str)) (mk : Addr → LF) : TE := fun _ H Q => Tabs T H ∧ ∀ (f c' : Addr) (H1 : Hp), Keeps [P] H H1 → (∀ b, H1 b = Option.none → H b = Option.none) → Tabs T H1 → H f = none → H1 f = some (LamO f (mk c')) → H1 c' = some (CodeO c' (mk c').qual) → Q (.ref f) H1
/-- .. with one default -/
def tLmD (P : Addr) (T : List (Addr × Str)) (te : TE) (mk : Addr → Addr → LF) : TE := fun σ H Q => te σ H fun v H0 => Tabs T H0 ∧ ∀ (d f c' : Addr) (H1 : Hp), H0 d = none → Keeps [P] (upd H0 d (.tup [v])) H1 → (∀ b, H1 b = Option.none → H0 b = Option.none) → Tabs T H1 → H0 f = none → H1 f = some (LamO f (mk d c')) → H1 c' = some (CodeO c' (mk d c').qual) → Q (.ref f) H1
/-- what the maker's scope has of the names that the lambda takes -/
def lamFree (sc scope : Scope) : Bool := scope.names.all fun y => !decide (y.2 = .free) || decide (sc.names.lookup y.1 = some .cell) || decide (sc.names.lookup y.1 = some .free)
theorem lamFree_of {sc scope : Scope} (h : lamFree sc scope = true) : ∀ y ∈ scope.names, y.2 = .free → sc.names.lookup y.1 = some .cell ∨ sc.names.lookup y.1 = some .free := by
  unfold lamFree at h
  simp only [Bool.or_eq_true, Bool.not_eq_true', decide_eq_true_eq, decide_eq_false_iff_not, List.all_eq_true] at h
  intro y hy e
  rcases h y hy with (z | z) | z
  · exact absurd e z
  · exact .inl z
  · exact .inr z
section
variable {X : Cx} {T : List (Addr × Str)} {c P : Addr} {params : Arguments} {body : Expr} {scope : Scope} {pos : Pos}
theorem free_has (ok : X.Ok) (h : lamFree X.env.scope scope = true) : ∀ y ∈ scope.names, y.2 = .free → ∃ d, X.env.cells.lookup y.1 = some d := fun y hy e => (lamFree_of h y hy e).elim (fun z => ok.has _ (.inl z)) fun z => ok.has _ (.inr z)
theorem pe_lam0 {sc : Scope} (TB : TabB X.base X.mg c P) (hcode : X.env.code = .ref c) (hm : (P, X.env.qual ++ "<lambda>") ∈ T) (hu : ∀ p ∈ T, p.1 = P → p.2 = X.env.qual ++ "<lambda>") (hf : lamFree sc scope = true) (hd : defaultsOf params X.env = ([], [])) (hsc : X.env.scope = sc := by rfl) :
    PE X (.Lambda params body scope pos) (tLm P T fun c' => ⟨X.env.qual ++ "<lambda>", params, body, scope, cloFrom X.env.cells scope.names [], c', .none⟩) := by
  refine ⟨fun pins s σ H Q I h => ?_⟩
  obtain ⟨hT, h⟩ := h
  refine PySem.W.kla_eval hd ?_
  rw [makeFunction_eq]
  simp only [List.zip_nil_right, List.filterMap_nil, List.isEmpty_nil, if_true, pure_bind]
  exact lam_tail I TB hcode hm hu hT (free_has I.ok (by rw [hsc]; exact hf)) fun f c' H1 s' I1 eN nn T1 f0 f1 c1 => ⟨.ref f, H1, I1, rfl, h f c' H1 eN nn T1 f0 f1 c1⟩
theorem pe_lam1 {sc : Scope} {e : Expr} {te : TE} (he : PE X e te) (TB : TabB X.base X.mg c P) (hcode : X.env.code = .ref c) (hm : (P, X.env.qual ++ "<lambda>") ∈ T) (hu : ∀ p ∈ T, p.1 = P → p.2 = X.env.qual ++ "<lambda>") (hf : lamFree sc scope = true)
    (hd : params.defaults = [e]) (hk : params.kw_defaults = []) (hsc : X.env.scope = sc := by rfl) :
    PE X (.Lambda params body scope pos) (tLmD P T te fun d c' => ⟨X.env.qual ++ "<lambda>", params, body, scope, cloFrom X.env.cells scope.names [], c', .ref d⟩) := by
  refine ⟨fun pins s σ H Q I h => ?_⟩
  refine PySem.W.kdv_lam (by rw [hd]; rfl) hk ?_
  rw [hd]
  refine PySem.W.kdv_all1 (thn (he.run pins s σ H _ I h) fun u s1 ⟨v, H0, I0, rv, hT, h⟩ => PySem.W.kdv_all0 ?_)
  rw [makeFunction_eq]
  simp only [List.zip_nil_right, List.filterMap_nil, List.isEmpty_nil, if_true, pure_bind, List.isEmpty_cons, Bool.false_eq_true, if_false]
  refine wpAny_bind (wpAny_newTextTuple ?_)
  have nD : H0 s1.heap.objs.size = none := I0.hok.fresh (Nat.le_refl _)
  have I1 : Inv X pins σ (upd H0 s1.heap.objs.size (.tup [v])) { s1 with heap := s1.heap.push { cls := .type "tuple", data := .seq #[u] } } := by
    refine I0.laid (a := s1.heap.objs.size) (t' := s1.toks) (fun b o r => Heap.get?_push_of_some _ r) (Nat.le_refl _) ?_
    refine ⟨(by show 1 ≤ sizeLine; decide), [u], .cons rv .nil, ?_⟩
    exact ⟨_, Heap.get?_push_size _ rfl, rfl, _, rfl⟩
  refine lam_tail I1 TB hcode hm hu (hT.ext fun b o r => (upd_ne (ne_of_none r nD)).trans r) (free_has I1.ok (by rw [hsc]; exact hf)) fun f c' H1 s' I2 eN nn T1 f0 f1 c1 => ⟨.ref f, H1, I2, rfl, h _ f c' H1 nD eN (fun b r => upd_none (nn b r)) T1 (upd_none f0) f1 c1⟩
end
/-! ### a lambda called -/
section
variable {P : Program} {w : World} {K : PySem.W.Frag} {mg : Str → Option Value} {base : Heap} {N ps fr : List Str} {F : LF} {f : Addr} {k : Nat} {A : Around} {outer : List Env} {s : Shared} {H : Hp} {Q : VK} {E : XK} {us : List Value} {vs : List V} {ws : List (Option V)} {t : TE}
theorem lam_run (S : NScope N ps fr F.scope) (hr : Room (k + 1) A) (e0 : Env0 P w K mg base A outer s H) (hf : H f = some (LamO f F)) (hc : H F.c = some (CodeO F.c F.qual)) (C : CellsAt F.cl fr ws s.heap H)
    (hb : ∀ doc pm ctv : Value, BindsTo s (F.fd doc pm ctv) ⟨[], []⟩ (ps.zip us)) (r : Vals vs us) (hl : vs.length = ps.length)
    (hbody : Room k (A.deeper (envF F.nf f s.heap.objs.size)) → PE (ncx (L2.CX P w) P w K mg base N F.nf f A outer s H E) F.body t) (ht : t (startF N vs ws) H Q) :
    codeAny (model P w) A (.call (.ref f) ⟨[], []⟩) (CR (L2.CX P w) outer P w H s Q E) s := by
  have lim : s.heap.NoLimit := e0.mod.nolimit.keeps fun b o q => (e0.bs b o q).1
  obtain ⟨od, sl, doc, pm, ctv, ho⟩ := lamO_at e0.hok hf
  refine PySem.W.kla_callFunE hr.depth ho rfl S.co S.gen rfl (codeO_at e0.hok hc) (hb doc pm ctv _ _ _ _ ?_)
  refine wpAny_newFunctionEnv S.nocell (fun ⟨n, _⟩ hy => S.par n (List.of_mem_zip hy).1) (fun g hns hsb => ⟨lim.fresh _ hsb, ?_⟩) S.kind
  show codeAny _ _ (.expr F.body (envF F.nf f s.heap.objs.size)) _ _
  have kp : ∀ b o, s.heap.get? b = some o → g.get? b = some o := fun b o q => hsb.extBut b o (Nat.ne_of_lt (Heap.lt_size q)) (Heap.get?_push_of_some _ q)
  have I : Inv (ncx (L2.CX P w) P w K mg base N F.nf f A outer s H E) [] (startF N vs ws) H { s with heap := g, toks := s.toks + (ps.zip us).length } := inv_startN (F := F.nf) S hr.hd e0 hl r C hns kp
  refine PySem.W.kla_codeExpr (wpAny_mono ((hbody (hr.deeper _)).run [] _ (startF N vs ws) H Q I ht) (fun u s' q => ?_) fun e s' q => q)
  obtain ⟨v, H', J, rv, q⟩ := q
  exact ⟨v, H', J.os, J.bare, J.base, J.hok, rv, q⟩
end
section
variable {X : Cx} {pn : List (Addr × Obj)} {xe : Value → Shared → Prop} {i : Nat} {x : Str} {W : WX} {p pos : Pos}
/-- x() in a try's body: the name holds a function; how it runs is told where it is known -/
theorem pe_callF (tk : Takes (X.tr pn xe) W) (hN : X.N[i]? = some x) (hv : Vis X.env.scope x) (hd : (x == ("__debug__" : Str)) = false := by decide) (hcd : (x == ("__classdict__" : Str)) = false := by decide) :
    PE (X.tr pn xe) (.Call (.Name x p) [] [] pos) (fun σ H Q => ∃ f, σ[i]? = some (some (.ref f)) ∧ ∀ pn' xe' pins s, Inv (X.tr pn' xe') pins σ H s → PySem.W.FnAt f s.heap ∧ codeAny (model X.prog X.w) X.A (.call (.ref f) ⟨[], []⟩) (CR (L2.CX X.prog X.w) X.stack X.prog X.w H s Q (fun cls d H' => W cls d σ H')) s) := by
  refine ⟨fun pins s σ H Q I h => ?_⟩
  obtain ⟨f, hs, h⟩ := h
  refine wpAny_Call_Name_kw (thn ((pe_var (X := X.tr pn xe) (pos := p) hN hv hd hcd).run pins s σ H (fun v H1 => v = .ref f ∧ H1 = H) I ⟨.ref f, hs, rfl, rfl⟩) fun u s1 ⟨v, H1, I1, r1, q1⟩ => ?_)
  obtain ⟨ev, eH⟩ := q1
  subst ev
  rw [eH] at I1
  obtain rfl : u = Value.ref f := r1
  obtain ⟨fa, run⟩ := h pn xe pins s1 I1
  refine PySem.W.callWith_F0 (first := []) fa ?_
  show wpAny _ _ (call (.ref f) []) _ _ _
  refine wpAny_call (codeAny_mono run fun r s' q => ?_)
  cases r with
  | error e => exact tk e s' (XE.of_call I1 (fun cls d H' z => z) q)
  | ok fl =>
    cases fl with
    | ret u => exact I1.after q
    | next => exact False.elim q
    | brk => exact False.elim q
    | cont => exact False.elim q
end
/-- a method that may raise -/
structure MetX (P : Program) (w : World) (K : PySem.W.Frag) (mg : Str → Option Value) (base : Heap) (k : Nat) (C : Addr) (m : Str) (sp : Sp) : Prop where
  ex : ∃ (f : Addr) (fd : FuncData) (ps : List Str), Cls K C ∧ Meth K C m f ∧ FnOk P w K mg base (L2.CX P w) k f fd ps sp ∧ Binds K fd ps []
section
variable {X : Cx} {k j : Nat} {C : Addr} {m : Str} {sp : Sp} {pos apos : Pos} {e o : Expr} {es : List Expr} {ta : TE} {t : TA}
theorem pe_mX {E : XK} {pl : Sem Bool} (c : MetX X.prog X.w X.K X.mg X.base k C m sp) (hr : Room j X.A) (hk : k ≤ j) (tk : Takes X (fun cls d _ H => E cls d H)) (he : PE X o ta) (ha : PA X (e :: es) t)
    (hst : starEach (e :: es) X.env = (false, eval e X.env) :: starEach es X.env := by rfl) (hpl : (backTo pos (starEach es X.env)).any (·.1) = false := by rfl)
    (ht : eval (.Call (.Attribute o m apos) (e :: es) [] pos) X.env = (do
      let ov ← eval o X.env
      standAt apos.atName
      let (f, first) ← holding [ov] (getMethod ov m pl)
      callWith pos f first (backTo pos (starEach (e :: es) X.env)) (backToKw pos (keywordEach [] X.env))) := by rfl) :
    PE X (.Call (.Attribute o m apos) (e :: es) [] pos) (tMeth C m sp [] E ta t) := by
  obtain ⟨f, fd, ps, hc, hm, F, b⟩ := c.ex
  exact pe_meth (pl := pl) he hc hm F (hr.mono hk) b .nil (passes_call tk (fun _ _ _ _ h => h)) ha hst hpl ht
/-- a suite that is read for some classes of errors alone -/
theorem pss_some {α : Type} {b : List Stmt} {pr : α → Prop} {t : α → TS} (h : ∀ a, pr a → PSs X b (t a)) : PSs X b (fun D σ H => ∃ a, pr a ∧ t a D σ H) := ⟨fun pins s σ H D I ⟨a, ha, hh⟩ => (h a ha).run pins s σ H D I hh⟩
end
/-- try: .. except x as n, its reading a word (for loops around it) -/
def tTry (K : PySem.W.Frag) (c : Value) (i : Nat) (tb : WX → TS) (ts : Addr → Value → Option Addr → TS) (Wout : WX) : TS := fun D σ H => tb (wAs K c i ts Wout D) D σ H
section
variable {X : Cx} {x n : Str} {c : Value} {i : Nat} {body suite : List Stmt} {b₀ : Stmt} {np pos pos' : Pos} {tb : WX → TS} {ts : Addr → Value → Option Addr → TS} {Wout : WX}
theorem ps_tryA (hs : X.stack = X.env :: X.outer) (hf : X.env.frame = some X.env.locals) (hN : X.N.Nodup) (hi : X.N[i]? = some n) (hl : X.env.kindOf n = some .local) (hc : Names X x c) (tk : Takes X Wout)
    (hb : ∀ (W : WX) (pn : List (Addr × Obj)) (xe : Value → Shared → Prop), Takes (X.tr pn xe) W → PSs (X.tr pn xe) body (tb W))
    (hu : ∀ (a : Addr) (oe : Obj) (cls : Value) (d : Option Addr) (pn : List (Addr × Obj)), Zc cls d oe → (∃ vs, oe.data = .fields vs) → PSs (X.suite a ((a, oe) :: pn)) (b₀ :: suite) (ts a cls d)) :
    PS X (.Try body [.ExceptHandler (some (.Name x np)) (some n) (b₀ :: suite) pos'] [] [] pos) (tTry X.K c i tb ts Wout) :=
  ps_try_as hs hf hN hi hl hc tk (fun W pn xe t _ => hb W pn xe t) hu
end
/-! ### tables stay -/
section
variable {T : List (Addr × Str)} {H H' : Hp} {P : Addr} {q : Str}
theorem tabs_stay (t : Tabs T H) (k : ∀ a o, H a = some o → (∀ xs, o ≠ .lst xs) → (∀ C dx fs, o ≠ .ins C dx fs) → (∀ kv, o ≠ .dK kv) → H' a = some o) : Tabs T H' := fun p hp => by
  obtain ⟨ps, h1, h2, h3⟩ := t p hp
  refine ⟨ps, k _ _ h1 (by intro _ z; cases z) (by intro _ _ _ z; cases z) (by intro _ z; cases z), h2, fun pos cv hc => ?_⟩
  obtain ⟨c, e1, e2⟩ := h3 pos cv hc
  refine ⟨c, e1, k _ _ e2 ?_ ?_ ?_⟩
  all_goals (unfold CodeO; intros; intro z; cases z)
theorem tabs_same (t : Tabs T H) (s : Same H H') : Tabs T H' := t.ext s
theorem tabs_at (t : Tabs T H) (h : (P, q) ∈ T) : ∃ ps, H P = some (.tbl ps) := by
  obtain ⟨ps, h1, _⟩ := t _ h
  exact ⟨ps, h1⟩
theorem notin1 {a : Addr} {o : HO} {ps : Array Value} (h : H a = some o) (hP : H P = some (.tbl ps)) (n : ∀ qs, o ≠ .tbl qs) : a ∉ [P] := fun z => by
  rw [List.mem_singleton.mp z, hP] at h
  exact n ps (Option.some.inj h).symm
/-- all but tables is kept where one table grows -/
theorem Keeps.tb {ps : Array Value} {a : Addr} {o : HO} (k : Keeps [P] H H') (hP : H P = some (.tbl ps)) (h : H a = some o) (n : ∀ qs, o ≠ .tbl qs) : H' a = some o := k a o h (notin1 h hP n)
theorem KnAt.tb {ps : Array Value} {L : Addr} {ds : List Addr} {kns : List Kn} (a : KnAt H L ds kns) (k : Keeps [P] H H') (hP : H P = some (.tbl ps)) : KnAt H' L ds kns :=
  a.keeps k (notin1 a.lst hP (by intro _ z; cases z)) fun d hd => by
    obtain ⟨kvs, e⟩ := a.mem hd
    exact notin1 e hP (by intro _ z; cases z)
theorem HouseAt.tb {C : Addr} {ps : Array Value} {p L : Addr} {ds : List Addr} {h : Hs} (a : HouseAt C H p L ds h) (k : Keeps [P] H H') (hP : H P = some (.tbl ps)) : HouseAt C H' p L ds h :=
  ⟨let ⟨dx, e⟩ := a.ob; ⟨dx, k.tb hP e (by intro _ z; cases z)⟩, a.kn.tb k hP⟩
theorem MAt.tb {ps : Array Value} {p L : Addr} {ds : List Addr} {m : Ms} (a : MAt H p L ds m) (k : Keeps [P] H H') (hP : H P = some (.tbl ps)) : MAt H' p L ds m := ⟨k.tb hP a.ob (by intro _ z; cases z), a.kn.tb k hP⟩
theorem Both.tb {C : Addr} {ps : Array Value} {p L : Addr} {ds : List Addr} {h : Hs} {q L' : Addr} {ds' : List Addr} {m : Ms} (b : Both C H p L ds h q L' ds' m) (k : Keeps [P] H H') (hP : H P = some (.tbl ps)) : Both C H' p L ds h q L' ds' m :=
  ⟨b.ha.tb k hP, b.ma.tb k hP, b.dj, b.kn, b.late, b.lost, b.time, b.fa, rfl⟩
theorem RowAt.tb {K : PySem.W.Frag} {ps : Array Value} {r a : Addr} {ns : List Int} (h : RowAt K H r a ns) (k : Keeps [P] H H') (hP : H P = some (.tbl ps)) : RowAt K H' r a ns := by
  obtain ⟨i, m, x, e, hi, hs⟩ := h
  refine ⟨i, m, x, k.tb hP e (by intro _ z; cases z), hi, ?_⟩
  rcases hs with (h' | ⟨u, h'⟩) | h'
  · exact .inl (.inl (k.tb hP h' (by intro _ z; cases z)))
  · exact .inl (.inr ⟨u, k.tb hP h' (by intro _ z; cases z)⟩)
  · exact .inr h'
theorem TupS.tb {ps : Array Value} (k : Keeps [P] H H') (hP : H P = some (.tbl ps)) : TupS H H' := fun a xs e => k.tb hP e (by intro _ z; cases z)
theorem tabs_row {K : PySem.W.Frag} {r a : Addr} {ns : List Int} (t : Tabs T H) (hr : RowAt K H r a ns) (k : Keeps [r] H H') : Tabs T H' := tabs_stay t fun b o e n1 _ _ => k b o e fun z => by
  obtain ⟨l, x, er⟩ := hr.ne
  rw [List.mem_singleton.mp z, er] at e
  exact n1 _ (Option.some.inj e).symm
theorem tabs_both {C : Addr} {p L : Addr} {ds : List Addr} {h : Hs} {q L' : Addr} {ds' : List Addr} {m : Ms} (t : Tabs T H) (b : Both C H p L ds h q L' ds' m) (k : Keeps (fps p ds q ds') H H') : Tabs T H' := tabs_stay t fun c o e _ n2 n3 => k c o e (fps_lst b e n2 n3)
end
/-- a def that makes lambdas: its code object, its table -/
structure Maker (base : Heap) (mg : Str → Option Value) (T : List (Addr × Str)) (qual : Str) (c P : Addr) : Prop where
  tb : TabB base mg c P
  hm : (P, (qual ++ ".<locals>.") ++ "<lambda>") ∈ T
  hu : ∀ p ∈ T, p.1 = P → p.2 = (qual ++ ".<locals>.") ++ "<lambda>"
/-- an error's class under HouseError -/
structure HErr (K : PySem.W.Frag) (HE E : Addr) : Prop where
  e : ExcC K E
  m : PySem.W.exmOne K (.ref E) (.ref HE) = some true
  v : PySem.W.kitOne K (.ref E) (.type "ValueError") = some true
section
variable {P : Program} {w : World} {K : PySem.W.Frag} {mg : Str → Option Value} {base : Heap}
/-- a def by its body, its code object told -/
theorem okC {x qual : Str} {st : Stmt} {f c : Addr} {fd : FuncData} {N ps : List Str} {k : Nat} {sp : Sp} (F : L2.Fun K x qual st f fd) (hc : fd.code = .ref c) (S : FnScope N ps (defScope st)) (len : ∀ vs H Q E, sp vs H Q E → vs.length = ps.length)
    (hbody : ∀ (A : Around) (outer : List Env) (s : Shared) (H : Hp) (vs : List V) (Q : VK) (E : XK), Room k (A.deeper (envOfC qual (defScope st) s.heap.objs.size f (.ref c))) → sp vs H Q E →
      ∃ t, PSs (cxOf CX0 P w K mg base N qual (defScope st) f (.ref c) A outer s H E).nox (defBody st) t ∧ t { nx := fun _ H' => Q .non H', rt := Q } (start N vs) H) : FnOk P w K mg base CX0 (k + 1) f fd ps sp := by
  obtain ⟨oc, od, kV, doc, pm, an, cdv, ct, osl, rfl, lk, hcd⟩ := F.ex
  have e : cdv = .ref c := hc
  subst e
  refine fn_of lk hcd S len fun A outer s H vs Q E hr hsp => ?_
  obtain ⟨t, h, q⟩ := hbody A outer s H vs Q E hr hsp
  exact ⟨t, h.nox, q⟩
end
end IC
namespace IC
open PySem L2
theorem takes_mono {X : Cx} {W W' : WX} (t : Takes X W) (h : ∀ cls d σ H, W' cls d σ H → W cls d σ H) : Takes X W' := fun u s' xx => t u s' (by
  obtain ⟨a, B, sI, pins', σ', H', cls, d, e, J', nb, up, sky, na, os, ag, w⟩ := xx
  exact ⟨a, B, sI, pins', σ', H', cls, d, e, J', nb, up, sky, na, os, ag, h _ _ _ _ w⟩)
/-- words that INSIDE hasn't -/
def KeysWd : List DictEntry → Prop
  | [] => True
  | e :: r => (∃ x t, e.key = .str x t ∧ Wd x) ∧ KeysWd r
theorem KeysWd.all : ∀ {l : List DictEntry}, KeysWd l → ∀ e ∈ l, ∃ x t, e.key = .str x t ∧ Wd x
  | _ :: _, ⟨h, _⟩, _, .head _ => h
  | _ :: _, ⟨_, r⟩, _, .tail _ m => r.all _ m
theorem ns_any {K : PySem.W.Frag} {dI : Addr} {c : Value} {d : Option Addr} {es : Array DictEntry} {n : Nat} {sl : Array (Option Value)} {z : Str} (l : K.lookup dI = some ⟨c, d, .dict es n, sl⟩) (k : KeysWd es.toList) (nz : ¬ Wd z) : PySem.W.nsIn K dI z = some none := by
  have h1 : es.toList.find? (fun e => e.key.isStr z) = none := by
    rw [List.find?_eq_none]
    intro e he hz
    obtain ⟨x, t, ek, wx⟩ := k.all e he
    rw [ek] at hz
    have : x = z := by simpa [Value.isStr] using hz
    exact nz (this ▸ wx)
  have h2 : es.toList.any (fun e => e.refKey) = false := by
    rw [List.any_eq_false]
    intro e he
    obtain ⟨x, t, ek, wx⟩ := k.all e he
    unfold DictEntry.refKey
    rw [ek]
    simp
  unfold PySem.W.nsIn
  rw [l]
  show (match es.toList.find? (fun e => e.key.isStr z) with
    | some e => some (some e.val)
    | none => if es.toList.any (fun e => e.refKey) = true then none else some none) = some none
  rw [h1, h2]
  rfl
/-! ### the answer to a text -/
def CanRow (h : Hs) (t b m : Nat) (z : Str) : Prop := Comes h (t : Int) b (m : Int) z
def toldH (h : Hs) : Str := if h.fault = .non then "sound" else "broken"
open Classical in
noncomputable def ansH (h : Hs) (a : Str) : Str × Hs := match wordsT a, ((wordsT a).take 3).map numW with
  | [_], [some t] => if h.now ≤ (t : Int) ∧ (t : Int) ≤ 60 then (toldH (goneOn h t), goneOn h t) else ("BadTime", h)
  | [_, _, _, z], [some t, some b, some m] => if CanRow h t b m z then (toldH (goneOn (putRow h b m z) t), goneOn (putRow h b m z) t) else ("BadRow", h)
  | _, _ => ("BadText", h)
end IC
namespace IC
open PySem L2
theorem pss_sem11 {X : Cx} {b : List Stmt} {pr : TS} (h : ∀ D σ H, pr D σ H → ∃ t, PSs X b t ∧ t D σ H) : PSs X b pr := ⟨fun pins s σ H D I hh => let ⟨_, ht, hq⟩ := h D σ H hh; ht.run pins s σ H D I hq⟩
def Good11 (a : Str) : Prop := (∃ x t, wordsT a = [x] ∧ numW x = some t) ∨ ∃ x y u z t b m, wordsT a = [x, y, u, z] ∧ numW x = some t ∧ numW y = some b ∧ numW u = some m
theorem ans_bad (h : Hs) {a : Str} (n : ¬ Good11 a) : ansH h a = (("BadText" : Str), h) := by
  unfold ansH
  split
  · rename_i x t e1 e2
    exact absurd (.inl ⟨x, t, e1, by rw [e1] at e2; simpa using e2⟩) n
  · rename_i x y u z t b m e1 e2
    refine absurd (.inr ⟨x, y, u, z, t, b, m, e1, ?_⟩) n
    rw [e1] at e2
    simpa using e2
  · rfl
theorem in14 (n : Nat) : (if true = true then !inV (.int (n : Int)) [.int 1, .int 4] else inV (.int (n : Int)) [.int 1, .int 4]) = !decide (n = 1 ∨ n = 4) := by
  show (!inV (.int (n : Int)) [.int 1, .int 4]) = _
  congr 1
  rw [Bool.eq_iff_iff, decide_eq_true_eq]
  unfold inV
  rw [List.any_eq_true]
  constructor
  · rintro ⟨y, hy, e⟩
    simp only [List.mem_cons, List.not_mem_nil, or_false] at hy
    rcases hy with rfl | rfl
    · have : (1 : Int) = n := by simpa [eqV] using e
      omega
    · have : (4 : Int) = n := by simpa [eqV] using e
      omega
  · rintro (rfl | rfl)
    · exact ⟨.int 1, by simp, by decide +kernel⟩
    · exact ⟨.int 4, by simp, by decide +kernel⟩
theorem non_in (l : List Str) : (if false = true then !inV .non (l.map numV) else inV .non (l.map numV)) = true ↔ ∃ x ∈ l, numW x = none := by
  show inV .non (l.map numV) = true ↔ _
  unfold inV
  rw [List.any_eq_true]
  constructor
  · rintro ⟨y, hy, e⟩
    obtain ⟨x, hx, rfl⟩ := List.mem_map.mp hy
    refine ⟨x, hx, ?_⟩
    unfold numV at e
    cases en : numW x with
    | none => rfl
    | some n =>
      rw [en] at e
      cases e
  · rintro ⟨x, hx, en⟩
    refine ⟨numV x, List.mem_map.mpr ⟨x, hx, rfl⟩, ?_⟩
    unfold numV
    rw [en]
    rfl
section
variable {P : Program} {w : World} {K : PySem.W.Frag} {mg : Str → Option Value} {base : Heap} {dI C BT BR : Addr}
def sp_answer (C : Addr) : Sp := fun vs H Q _ => ∃ (p L : Addr) (ds : List Addr) (h : Hs) (a : Str), vs = [.ref p, .str a] ∧ HouseAt C H p L ds h ∧ FaultOk h ∧ Asc a ∧ a.length ≤ 600 ∧
  ∀ H', HouseAt C H' p L ds (ansH h a).2 → Keeps (p :: ds) H H' → Q (.str (ansH h a).1) H'
theorem sc_answer : FnScope ["house", "text", "words", "numbers", "word"] ["house", "text"] (defScope s_answer) := ⟨rfl, rfl, rfl, by decide +kernel, rfl, by decide +kernel, by decide +kernel⟩
theorem ok_answer {f : Addr} {fd : FuncData} (F : Fun K "answer" "answer" s_answer f fd) (G : Glb K w mg dI) (X_BadRow : ExcOk K mg "BadRow" BR) (X_BadTime : ExcOk K mg "BadTime" BT) (c_number_of : C8.Cal P w K mg base 1 "number_of" sp_number []) (c_broken : C8.Met P w K mg base 1 C "broken" (sp_broken C) [])
    (c_tick : C8.Met P w K mg base 5 C "tick" (sp_tick C) []) (c_come : C8.Met P w K mg base 5 C "come" (sp_come C) []) (c_tickX : MetX P w K mg base 5 C "tick" (sp_tickX C BT)) (c_comeX : MetX P w K mg base 5 C "come" (sp_comeX K dI C BR)) (nsA : ∀ z : Str, ¬ Wd z → PySem.W.nsIn K dI z = some none)
    (sRR : PySem.W.subIn K (.ref BR) (.ref BR) = some true) (sTR : PySem.W.subIn K (.ref BT) (.ref BR) = some false) (sTT : PySem.W.subIn K (.ref BT) (.ref BT) = some true) : FnOk P w K mg base CX0 6 f fd ["house", "text"] (sp_answer C) := by
  refine F.ok sc_answer (fun vs H Q E h => ?_) (fun cdv A outer s H vs Q E hr h => ?_)
  · obtain ⟨p, L, ds, h, a, rfl, _⟩ := h
    rfl
  · obtain ⟨p, L, ds, h, a, rfl, ha, fo, asc, al, q⟩ := h
    have wl := words_len a
    refine ⟨_, (pss_cons (ps_set (i := 2) sc_answer.nd rfl (Or.inl rfl) (pe_split (pv 1) pe_str))
      (pss_cons (ps_setLc (i := 3) (own := [("word", 4)]) (g := gName 4) (tt := tYes) rfl sc_answer.nd rfl rfl (sw_true rfl rfl rfl (by decide +kernel)) (pi_list (pe_slice sl_list (pv 2) po_none (po_some pe_int))) (blkOk_by (own := [("word", 4)]) (N := ["house", "text", "words", "numbers", "word"]) (sc := defScope s_answer) (by decide +kernel)) (fun _ _ _ _ _ => (pg_name (i := 4) sc_answer.nd rfl (Or.inl rfl))) (fun _ _ _ _ _ => pts_nil) (fun _ _ _ _ _ => (C8.pe_c c_number_of hr (by decide) rfl (pa_cons (pv 4) pa_nil))))
      (pss_cons (ps_if (PW.pt (pw_or (pt_cmpR op_notIn_seq (pe_callB call_len_seq (by rfl) G.len (by decide +kernel) (pa_cons (pv 2) pa_nil)) (pe_tup (pa_cons pe_int (pa_cons pe_int pa_nil))) (by rfl)) (pw_or1 (pt_cmpR op_in_seq pe_non (pv 3) (by rfl)))))
        (pss_one (ps_ret pe_str))
        pss_nil)
      (pss_sem11 (pr := fun D σ H' => ∃ (o4 : Option V) (wA nA : Addr), σ = [some (.ref p), some (.str a), some (.ref wA), some (.ref nA), o4] ∧ H' wA = some (.lst ((wordsT a).map V.str)) ∧ H' nA = some (.lst (((wordsT a).take 3).map numV)) ∧ HouseAt C H' p L ds h ∧ Good11 a ∧ ∀ H'', HouseAt C H'' p L ds (ansH h a).2 → Keeps (p :: ds) H' H'' → D.rt (.str (ansH h a).1) H'') fun D σ H' hh => ?_)))), ?_⟩
    · obtain ⟨o4, wA, nA, rfl, hwA, hnA, hh, good, q⟩ := hh
      obtain ⟨dx, eo⟩ := hh.ob
      have told : ∀ (h' : Hs) (H'' : Hp), ansH h a = (toldH h', h') → HouseAt C H'' p L ds h' → Keeps (p :: ds) H' H'' → tRet (tIf (tTest (tOp (fun x y H Q => y = V.non ∧ Q (V.bl (decide (x = V.non))) H) (tMeth C "broken" (sp_broken C) [] C8.E0 (tVar 0) tNil) (tC V.non))) (tC (V.str "sound")) (tC (V.str "broken"))) D [some (.ref p), some (.str a), some (.ref wA), some (.ref nA), o4] H'' := fun h' H'' e1 h1 k1 => by
        obtain ⟨dx2, eo2⟩ := h1.ob
        have q' := q H''
        rw [e1] at q'
        refine ⟨_, rfl, p, dx2, _, rfl, eo2, fl_no _ _ (by decide +kernel), p, L, ds, _, rfl, h1, rfl, _, rfl, ?_⟩
        have q2 := q' h1 k1
        unfold toldH at q2
        by_cases z : h'.fault = .non
        · rw [if_pos z] at q2
          exact ifT (by rw [z]; rfl) q2
        · rw [if_neg z] at q2
          exact ifF (by simpa using z) q2
      rcases good with ⟨x, t, ew, nt⟩ | ⟨x, y, u, z, t, b, m, ew, n1, n2, n3⟩
      · have evn : numV x = .int (t : Int) := by unfold numV; rw [nt]
        rw [ew] at hwA hnA
        have hnA' : H' nA = some (.lst [.int (t : Int)]) := by rw [hnA, ← evn]; rfl
        by_cases can : h.now ≤ (t : Int) ∧ (t : Int) ≤ 60
        · have ea : ansH h a = (toldH (goneOn h t), goneOn h t) := by
            unfold ansH
            rw [ew]
            simp only [List.take_succ_cons, List.take_nil, List.map_cons, List.map_nil, nt]
            rw [if_pos can]
          refine ⟨_, (pss_cons (ps_try_many rfl rfl takes0 (fun W pn xe tk _ => pss_one (ps_if (pt_cmpR op_eq (pe_callB (call_lenK (K := K)) (by rfl) G.len (by decide +kernel) (pa_cons (pv 2) pa_nil)) pe_int (nomark _)) (pss_one (ps_expr (C8.pe_mt c_tick hr (by decide) (pv 0) (pa_cons (pe_ix (ix_listK (K := K)) (pv 3) pe_int (fun _ _ => rfl)) pa_nil)))) (pss_one ps_never))) (HdsOk.cons ⟨rfl, by decide, .inl X_BadRow.g⟩ (fun a oe cls d pn _ _ => pss_one (ps_ret pe_str)) (HdsOk.cons ⟨rfl, by decide, .inl X_BadTime.g⟩ (fun a oe cls d pn _ _ => pss_one (ps_ret pe_str)) HdsOk.nil))) (pss_one (ps_ret (pe_ifExp (pt_cmpR op_isN (C8.pe_mt0 c_broken hr (by decide) (pv 0)) pe_non (nomark _)) pe_str pe_str)))), ?_⟩
          exact ⟨_, rfl, wA, _, rfl, .inl (SqL.of hwA), rfl, _, rfl, ifT (by rfl) ⟨_, rfl, p, dx, _, rfl, eo, fl_no _ _ (by decide +kernel), _, rfl, nA, _, _, .int (t : Int), rfl, rfl, SqL.of hnA', rfl, p, L, ds, h, (t : Int), rfl, hh, fo, can.1, can.2, fun H2 h2 k2 => told _ H2 ea h2 k2⟩⟩
        · have ea : ansH h a = (("BadTime" : Str), h) := by
            unfold ansH
            rw [ew]
            simp only [List.take_succ_cons, List.take_nil, List.map_cons, List.map_nil, nt]
            rw [if_neg can]
          refine ⟨_, (pss_cons (ps_try_many rfl rfl takes0 (fun W pn xe tk _ => pss_one (ps_if (pt_cmpR op_eq (pe_callB (call_lenK (K := K)) (by rfl) G.len (by decide +kernel) (pa_cons (pv 2) pa_nil)) pe_int (nomark _)) (pss_one (ps_expr (pe_mX (E := fun cls d H => ∀ σ, W cls d σ H) c_tickX hr (by decide) (takes_mono tk fun cls d σ H w => w σ) (pv 0) (pa_cons (pe_ix (ix_listK (K := K)) (pv 3) pe_int (fun _ _ => rfl)) pa_nil)))) (pss_one ps_never))) (HdsOk.cons ⟨rfl, by decide, .inl X_BadRow.g⟩ (fun a oe cls d pn _ _ => pss_one (ps_ret pe_str)) (HdsOk.cons ⟨rfl, by decide, .inl X_BadTime.g⟩ (fun a oe cls d pn _ _ => pss_one (ps_ret pe_str)) HdsOk.nil))) (pss_one (ps_ret (pe_ifExp (pt_cmpR op_isN (C8.pe_mt0 c_broken hr (by decide) (pv 0)) pe_non (nomark _)) pe_str pe_str)))), ?_⟩
          have q' := q H'
          rw [ea] at q'
          exact ⟨_, rfl, wA, _, rfl, .inl (SqL.of hwA), rfl, _, rfl, ifT (by rfl) ⟨_, rfl, p, dx, _, rfl, eo, fl_no _ _ (by decide +kernel), _, rfl, nA, _, _, .int (t : Int), rfl, rfl, SqL.of hnA', rfl, p, L, ds, h, (t : Int), rfl, hh, can, fun σ => ⟨false, X_BadRow.exm sTR, (fun z => nomatch z), fun _ => ⟨true, X_BadTime.exm sTT, (fun _ a na => q' hh (Keeps.refl _ _)), (fun z => nomatch z)⟩⟩⟩⟩
      · have v1 : numV x = .int (t : Int) := by unfold numV; rw [n1]
        have v2 : numV y = .int (b : Int) := by unfold numV; rw [n2]
        have v3 : numV u = .int (m : Int) := by unfold numV; rw [n3]
        rw [ew] at hwA hnA
        have hnA' : H' nA = some (.lst [.int (t : Int), .int (b : Int), .int (m : Int)]) := by rw [hnA, ← v1, ← v2, ← v3]; rfl
        have hwA' : H' wA = some (.lst [.str x, .str y, .str u, .str z]) := hwA
        by_cases can : CanRow h t b m z
        · have ea : ansH h a = (toldH (goneOn (putRow h b m z) t), goneOn (putRow h b m z) t) := by
            unfold ansH
            rw [ew]
            simp only [List.take_succ_cons, List.take_zero, List.map_cons, List.map_nil, n1, n2, n3]
            rw [if_pos can]
          refine ⟨_, (pss_cons (ps_try_many rfl rfl takes0 (fun W pn xe tk _ => pss_one (ps_if (pt_cmpR op_eq (pe_callB (call_lenK (K := K)) (by rfl) G.len (by decide +kernel) (pa_cons (pv 2) pa_nil)) pe_int (nomark _)) (pss_one ps_never) (pss_one (ps_expr (C8.pe_mt c_come hr (by decide) (pv 0) (pa_cons (pe_ix (ix_listK (K := K)) (pv 3) pe_int (fun _ _ => rfl)) (pa_cons (pe_ix (ix_listK (K := K)) (pv 3) pe_int (fun _ _ => rfl)) (pa_cons (pe_ix (ix_listK (K := K)) (pv 3) pe_int (fun _ _ => rfl)) (pa_cons (pe_ix (ix_listK (K := K)) (pv 2) pe_int (fun _ _ => rfl)) pa_nil))))))))) (HdsOk.cons ⟨rfl, by decide, .inl X_BadRow.g⟩ (fun a oe cls d pn _ _ => pss_one (ps_ret pe_str)) (HdsOk.cons ⟨rfl, by decide, .inl X_BadTime.g⟩ (fun a oe cls d pn _ _ => pss_one (ps_ret pe_str)) HdsOk.nil))) (pss_one (ps_ret (pe_ifExp (pt_cmpR op_isN (C8.pe_mt0 c_broken hr (by decide) (pv 0)) pe_non (nomark _)) pe_str pe_str)))), ?_⟩
          exact ⟨_, rfl, wA, _, rfl, .inl (SqL.of hwA'), rfl, _, rfl, ifF (by rfl) ⟨_, rfl, p, dx, _, rfl, eo, fl_no _ _ (by decide +kernel), _, rfl, nA, _, _, .int (t : Int), rfl, rfl, SqL.of hnA', rfl, _, rfl, nA, _, _, .int (b : Int), rfl, rfl, SqL.of hnA', rfl, _, rfl, nA, _, _, .int (m : Int), rfl, rfl, SqL.of hnA', rfl, _, rfl, wA, _, _, .str z, rfl, rfl, SqL.of hwA', rfl, p, L, ds, h, (t : Int), b, (m : Int), z, rfl, hh, fo, can, fun H2 h2 k2 => told _ H2 ea h2 k2⟩⟩
        · have ea : ansH h a = (("BadRow" : Str), h) := by
            unfold ansH
            rw [ew]
            simp only [List.take_succ_cons, List.take_zero, List.map_cons, List.map_nil, n1, n2, n3]
            rw [if_neg can]
          have no : NoRow h (t : Int) (b : Int) (m : Int) z := fun ⟨g1, g2, g3, g4, g5, g6, g7, g8, g9⟩ => can ⟨g1, g2, by omega, g5, g6, g7, g8, by rw [Int.toNat_natCast] at g9; exact g9⟩
          have wz : Wd z ∨ (PySem.W.nsIn K dI z = some none ∧ ¬ Wd z) := by
            by_cases wd : Wd z
            · exact .inl wd
            · exact .inr ⟨nsA z wd, wd⟩
          refine ⟨_, (pss_cons (ps_try_many rfl rfl takes0 (fun W pn xe tk _ => pss_one (ps_if (pt_cmpR op_eq (pe_callB (call_lenK (K := K)) (by rfl) G.len (by decide +kernel) (pa_cons (pv 2) pa_nil)) pe_int (nomark _)) (pss_one ps_never) (pss_one (ps_expr (pe_mX (E := fun cls d H => ∀ σ, W cls d σ H) c_comeX hr (by decide) (takes_mono tk fun cls d σ H w => w σ) (pv 0) (pa_cons (pe_ix (ix_listK (K := K)) (pv 3) pe_int (fun _ _ => rfl)) (pa_cons (pe_ix (ix_listK (K := K)) (pv 3) pe_int (fun _ _ => rfl)) (pa_cons (pe_ix (ix_listK (K := K)) (pv 3) pe_int (fun _ _ => rfl)) (pa_cons (pe_ix (ix_listK (K := K)) (pv 2) pe_int (fun _ _ => rfl)) pa_nil))))))))) (HdsOk.cons ⟨rfl, by decide, .inl X_BadRow.g⟩ (fun a oe cls d pn _ _ => pss_one (ps_ret pe_str)) (HdsOk.cons ⟨rfl, by decide, .inl X_BadTime.g⟩ (fun a oe cls d pn _ _ => pss_one (ps_ret pe_str)) HdsOk.nil))) (pss_one (ps_ret (pe_ifExp (pt_cmpR op_isN (C8.pe_mt0 c_broken hr (by decide) (pv 0)) pe_non (nomark _)) pe_str pe_str)))), ?_⟩
          have q' := q H'
          rw [ea] at q'
          exact ⟨_, rfl, wA, _, rfl, .inl (SqL.of hwA'), rfl, _, rfl, ifF (by rfl) ⟨_, rfl, p, dx, _, rfl, eo, fl_no _ _ (by decide +kernel), _, rfl, nA, _, _, .int (t : Int), rfl, rfl, SqL.of hnA', rfl, _, rfl, nA, _, _, .int (b : Int), rfl, rfl, SqL.of hnA', rfl, _, rfl, nA, _, _, .int (m : Int), rfl, rfl, SqL.of hnA', rfl, _, rfl, wA, _, _, .str z, rfl, rfl, SqL.of hwA', rfl, p, L, ds, h, (t : Int), (b : Int), (m : Int), z, rfl, hh, no, wz, fun σ => ⟨true, X_BadRow.exm sRR, (fun _ a na => q' hh (Keeps.refl _ _)), (fun z => nomatch z)⟩⟩⟩
    refine ⟨_, rfl, ⟨a, rfl⟩, a, _, rfl, rfl, by decide +kernel, sz (by omega), fun wA nwA => ?_⟩
    have ew : Txt.split a (Str.ofString " ") = wordsT a := rfl
    rw [ew]
    have s1 : Same H (upd H wA (.lst ((wordsT a).map V.str))) := Same.new nwA
    have hwA : upd H wA (.lst ((wordsT a).map V.str)) wA = some (.lst ((wordsT a).map V.str)) := upd_same
    generalize upd H wA (.lst ((wordsT a).map V.str)) = H1 at *
    refine ⟨_, rfl, _, rfl, wA, _, rfl, SqL.of hwA, fun cA ncA => ?_⟩
    have ecut : cutV ((wordsT a).map V.str) none (some 3) = ((wordsT a).take 3).map V.str := by
      unfold cutV
      show ((List.map V.str (wordsT a)).drop 0).take (min 3 _ - 0) = _
      rw [List.drop_zero, List.length_map, List.map_take, Nat.sub_zero]
      by_cases h3 : 3 ≤ (wordsT a).length
      · rw [Nat.min_eq_left h3]
      · rw [Nat.min_eq_right (by omega), List.take_of_length_le (by simp), List.take_of_length_le (by simp; omega)]
    rw [ecut]
    have s2 : Same H1 (upd H1 cA (.lst (((wordsT a).take 3).map V.str))) := Same.new ncA
    have hcA : upd H1 cA (.lst (((wordsT a).take 3).map V.str)) cA = some (.lst (((wordsT a).take 3).map V.str)) := upd_same
    generalize upd H1 cA (.lst (((wordsT a).take 3).map V.str)) = H2 at *
    refine ⟨cA, rfl, ⟨_, SqL.of hcA⟩, fun nA nnA => ?_⟩
    refine lc_over (K := K) (enc := V.str) (l := (wordsT a).take 3) (fun _ => true) numV (SqL.of hcA) nnA (by rw [List.length_take]; omega) (fun _ => rfl) (fun _ _ => GivesB.yes) (fun x hx _ => ?_) fun H3 s3 hnA => ?_
    · intro H3 s3 Q3 q3
      obtain ⟨w1, w2⟩ := words_ok asc (List.mem_of_mem_take hx)
      exact ⟨_, rfl, x, rfl, by omega, w1, fun H4 s4 => q3 H4 s4⟩
    rw [List.filter_eq_self.mpr (fun _ _ => rfl)] at hnA
    have hwA3 := s3 _ _ (s2 _ _ hwA)
    have ha3 := ha.same ((s1.trans s2).trans s3)
    refine ⟨_, rfl, wA, _, rfl, .inl (SqL.of hwA3), sz (by simp), fun t nt => ⟨t, _, rfl, .inr (SqT.of upd_same), rfl, by decide +kernel, _, rfl, ?_⟩⟩
    have s4 : Same H3 (upd H3 t (.tup [.int 1, .int 4])) := Same.new nt
    generalize upd H3 t (.tup [.int 1, .int 4]) = H4 at *
    have s04 := ((s1.trans s2).trans s3).trans s4
    have bad : ¬ Good11 a → Q (.str "BadText") H4 := fun ng => by
      have := q H4
      rw [ans_bad h ng] at this
      exact this (ha.same s04) (.of_same s04)
    rw [List.length_map]
    by_cases l14 : (wordsT a).length = 1 ∨ (wordsT a).length = 4
    case neg =>
      refine ifT ?_ (iteT (bad fun g => l14 ?_))
      · rw [in14, decide_eq_false l14]
        rfl
      · rcases g with ⟨x, t, e, _⟩ | ⟨x, y, u, z, t, b, m, e, _⟩ <;> rw [e]
        · exact .inl rfl
        · exact .inr rfl
    refine ifF ?_ ?_
    · rw [in14, decide_eq_true l14]
      rfl
    refine ⟨_, rfl, nA, _, rfl, .inl (SqL.of (s4 _ _ hnA)), rfl, ?_, _, rfl, ite2 (fun e => ?_) (fun e => ?_)⟩
    · rw [List.all_eq_true]
      intro v hv
      obtain ⟨x, _, rfl⟩ := List.mem_map.mp hv
      unfold numV
      split <;> rfl
    · exact bad fun g => by
        have e' := (non_in _).mp e
        rcases g with ⟨x, t, e1, n1⟩ | ⟨x, y, u, z, t, b, m, e1, n1, n2, n3⟩
        · rw [e1] at e'
          obtain ⟨w0, hw, hn⟩ := e'
          rw [List.mem_singleton.mp hw, n1] at hn
          cases hn
        · rw [e1] at e'
          obtain ⟨w0, hw, hn⟩ := e'
          simp only [List.take_succ_cons, List.take_zero, List.mem_cons, List.not_mem_nil, or_false] at hw
          rcases hw with rfl | rfl | rfl
          · rw [n1] at hn; cases hn
          · rw [n2] at hn; cases hn
          · rw [n3] at hn; cases hn
    · have gd : Good11 a := by
        have e' : ∀ x ∈ (wordsT a).take 3, ∃ n, numW x = some n := fun x hx => by
          cases en : numW x with
          | some n => exact ⟨n, rfl⟩
          | none => exact absurd ((non_in _).mpr ⟨x, hx, en⟩) e
        rcases l14 with l | l
        · match hw : wordsT a, l with
          | [x], _ =>
            rw [hw] at e'
            obtain ⟨t, ht⟩ := e' x (by simp)
            exact .inl ⟨x, t, hw, ht⟩
        · match hw : wordsT a, l with
          | [x, y, u, z], _ =>
            rw [hw] at e'
            obtain ⟨t, ht⟩ := e' x (by simp)
            obtain ⟨b, hb⟩ := e' y (by simp)
            obtain ⟨m, hm⟩ := e' u (by simp)
            exact .inr ⟨x, y, u, z, t, b, m, hw, ht, hb, hm⟩
      exact ⟨_, wA, nA, rfl, s4 _ _ hwA3, s4 _ _ hnA, ha.same s04, gd, fun H'' h1 k1 => q H'' h1 ((Keeps.of_same s04).trans k1)⟩
end
end IC
namespace IC
open PySem L2
/-! ### a book -/
noncomputable def ansL (h : Hs) : List Str → List Str × Hs
  | [] => ([], h)
  | a :: l => ((ansH h a).1 :: (ansL (ansH h a).2 l).1, (ansL (ansH h a).2 l).2)
theorem mp_brk (L : Addr) (m : Ms) (b : Bool) : putK (mPairs L m) (Sum.inr ("broken" : Str) : Key) (.bl b) = mPairs L { m with brk := some b } := by
  have n1 : ¬ ((Sum.inr ("late" : Str) : Key) = Sum.inr ("broken" : Str)) := by decide +kernel
  have n2 : ¬ ((Sum.inr ("lost" : Str) : Key) = Sum.inr ("broken" : Str)) := by decide +kernel
  have n3 : ¬ ((Sum.inr ("time" : Str) : Key) = Sum.inr ("broken" : Str)) := by decide +kernel
  have n4 : ¬ ((Sum.inr ("known" : Str) : Key) = Sum.inr ("broken" : Str)) := by decide +kernel
  obtain ⟨la, lo, ti, kn, br⟩ := m
  cases br with
  | none =>
    refine putK_new _ ?_
    exact (vv_ne n1).trans ((vv_ne n2).trans ((vv_ne n3).trans ((vv_ne n4).trans rfl)))
  | some c =>
    have e : ((mPairs L ⟨la, lo, ti, kn, some c⟩).any fun kv => decide (kv.1 = (Sum.inr ("broken" : Str) : Key))) = true := by
      rw [List.any_eq_true]
      exact ⟨(Sum.inr "broken", .bl c), by simp [mPairs, brkP], decide_eq_true rfl⟩
    unfold putK
    rw [if_pos e]
    unfold mPairs brkP
    simp only [List.map_cons, List.map_nil]
    rw [if_neg n1, if_neg n2, if_neg n3, if_neg n4]
    simp
theorem mp_broken (L : Addr) (m : Ms) (b : Bool) (h : m.brk = some b) : valV (mPairs L m) (Sum.inr "broken") = some (.bl b) := by
  unfold mPairs
  rw [h]
  exact (vv_ne (by decide +kernel)).trans ((vv_ne (by decide +kernel)).trans ((vv_ne (by decide +kernel)).trans ((vv_ne (by decide +kernel)).trans vv_eq)))
end IC
namespace IC
open PySem L2
theorem ansL_snoc (h : Hs) : ∀ (l : List Str) (a : Str), ansL h (l ++ [a]) = ((ansL h l).1 ++ [(ansH (ansL h l).2 a).1], (ansH (ansL h l).2 a).2) := by
  intro l
  induction l generalizing h with
  | nil => intro a; rfl
  | cons b l ih => intro a; rw [List.cons_append, ansL, ansL, ih]; rfl
theorem ans_cases (h : Hs) (a : Str) : (ansH h a).2 = h ∨ ∃ d, CanDo h d ∧ (ansH h a).2 = doH h d := by
  unfold ansH
  split
  · rename_i x t e1 e2
    split
    · rename_i c
      exact .inr ⟨.tk t, c, rfl⟩
    · exact .inl rfl
  · rename_i x y u z t b m e1 e2
    split
    · rename_i c
      exact .inr ⟨.cm t b m z, c, rfl⟩
    · exact .inl rfl
  · exact .inl rfl
theorem ans_fault {h : Hs} (a : Str) (f : FaultOk h) : FaultOk (ansH h a).2 := by
  rcases ans_cases h a with e | ⟨d, _, e⟩
  · rw [e]; exact f
  · rw [e]
    cases d with
    | tk t => exact goneOn_fault _ _ f
    | cm t b m z => exact goneOn_fault _ _ f
def Played (n : Nat) (late lost : Int) (h : Hs) : Prop := ∃ done T, PlayI n late lost done h T
theorem ans_played {n : Nat} {late lost : Int} {h : Hs} (a : Str) (p : Played n late lost h) : Played n late lost (ansH h a).2 := by
  rcases ans_cases h a with e | ⟨d, c, e⟩
  · rw [e]; exact p
  · rw [e]
    obtain ⟨done, T, p⟩ := p
    obtain ⟨T', _, _, p'⟩ := p.step c
    exact ⟨_, T', p'⟩
theorem ansL_played {n : Nat} {late lost : Int} : ∀ (l : List Str) (h : Hs), Played n late lost h → Played n late lost (ansL h l).2
  | [], h, p => p
  | a :: l, h, p => by
    rw [ansL]
    exact ansL_played l _ (ans_played a p)
theorem ansL_len : ∀ (l : List Str) (h : Hs), (ansL h l).1.length = l.length
  | [], h => rfl
  | a :: l, h => by rw [ansL, List.length_cons, ansL_len l, List.length_cons]
/-- a class that is made by an __init__ that may raise -/
structure MakX (P : Program) (w : World) (K : PySem.W.Frag) (mg : Str → Option Value) (base : Heap) (k : Nat) (x : Str) (C : Addr) (sp : Sp) : Prop where
  ex : ∃ (f : Addr) (fd : FuncData) (ps : List Str), Mk K C f ∧ FnOk P w K mg base (L2.CX P w) k f fd ps sp ∧ mg x = some (.ref C) ∧ Binds K fd ps []
theorem pe_mkX {X : Cx} {k j : Nat} {C : Addr} {x : Str} {sp : Sp} {p pos : Pos} {e : Expr} {es : List Expr} {t : TA} {E : XK} (c : MakX X.prog X.w X.K X.mg X.base k x C sp) (hr : Room j X.A) (hk : k + 1 ≤ j) (hg : Gl X x) (tk : Takes X (fun cls d _ H => E cls d H)) (ha : PA X (e :: es) t)
    (hdb : (x == ("__debug__" : Str)) = false := by decide) (he : starEach (e :: es) X.env = (false, eval e X.env) :: starEach es X.env := by rfl) (hpl : (backTo pos (starEach es X.env)).any (·.1) = false := by rfl) :
    PE X (.Call (.Name x p) (e :: es) [] pos) (tMake C sp [] E t) := by
  obtain ⟨f, fd, ps, M, F, hm, b⟩ := c.ex
  exact pe_make M F (hr.mono hk) hg hm b .nil (passes_call tk (fun _ _ _ _ h => h)) ha hdb he hpl
section
variable {P : Program} {w : World} {K : PySem.W.Frag} {mg : Str → Option Value} {base : Heap} {dI C BH HE : Addr}
def sp_initX (C BH : Addr) : Sp := fun vs H _ E => ∃ (p dx : Addr) (n late lost : Int), vs = [.ref p, .int n, .int late, .int lost] ∧ H p = some (.ins C dx []) ∧ ¬ (1 ≤ n ∧ n ≤ 6 ∧ 0 ≤ late ∧ late ≤ 9 ∧ 0 ≤ lost ∧ lost ≤ 6) ∧ E (.ref BH) none H
theorem ok_initX {f : Addr} {fd : FuncData} (F : Fun K "__init__" "House.__init__" s_House___init__ f fd) (G : Glb K w mg dI) (T : HTxt K C) (X_BadHouse : ExcOk K mg "BadHouse" BH) : FnOk P w K mg base (L2.CX P w) 1 f fd ["self", "badges", "late", "lost"] (sp_initX C BH) := by
  refine F.okX sc_House___init__ (fun vs H Q E h => ?_) (fun cdv A outer s H vs Q E hr h => ?_)
  · obtain ⟨p, dx, n, late, lost, rfl, _⟩ := h
    rfl
  · obtain ⟨p, dx, n, late, lost, rfl, hp, hn, q⟩ := h
    refine ⟨_, (pss_cons (ps_set (i := 4) sc_House___init__.nd rfl (Or.inl rfl) (pe_and (pe_chain op_le op_le pe_int (pv 1) (C8.pe_gc rfl G.MOST_BADGES)) (pe_and (pe_chain op_le op_le pe_int (pv 2) (C8.pe_gc rfl G.MOST_LATE)) (pe_one (pe_chain op_le op_le pe_int (pv 3) (C8.pe_gc rfl G.MOST_LOST))))))
      (pss_cons (ps_if (pt_not (pt_val (pv 4)))
        (pss_one (ps_raise rfl (takes_of rfl rfl rfl rfl) (pmk_own PySem.F.excBase_ValueError X_BadHouse.q X_BadHouse.g X_BadHouse.k (raises_own X_BadHouse.b X_BadHouse.t) rfl)))
        pss_nil)
      (pss_cons (ps_fld (pv 0) (pv 2) rfl)
      (pss_cons (ps_fld (pv 0) (pv 3) rfl)
      (pss_cons (ps_fld (pv 0) pe_int rfl)
      (pss_cons (ps_fld (pv 0) (pe_lc (own := [("badge", 5)]) (g := gName 5) (tt := tYes) rfl sc_House___init__.nd (pi_range1 rfl G.range (pa_cons (pv 1) pa_nil)) (blkOk_by (own := [("badge", 5)]) (N := ["self", "badges", "late", "lost", "good", "badge"]) (sc := defScope s_House___init__) (by decide +kernel)) (fun _ _ _ _ _ => (pg_name (i := 5) sc_House___init__.nd rfl (Or.inl rfl))) (fun _ _ _ _ _ => pts_nil) (fun _ _ _ _ _ => pe_dnewK)) rfl)
      (pss_cons (ps_fld (pv 0) pe_int rfl)
      (pss_one (ps_fld (pv 0) pe_non rfl))))))))), ?_⟩
    refine ⟨_, rfl, _, _, rfl, rfl, _, rfl, ?_⟩
    by_cases c1 : 1 ≤ n
    case neg => exact ifF (by simpa using c1) ⟨_, rfl, iteF ⟨_, rfl, _, rfl, ifT (by rfl) q⟩⟩
    refine ifT (by simpa using c1) ⟨_, _, rfl, rfl, _, rfl, ?_⟩
    by_cases c2 : n ≤ 6
    case neg => exact ifF (by simpa using c2) ⟨_, rfl, _, rfl, ifT (by simpa using c2) q⟩
    refine ifT (by simpa using c2) ⟨_, rfl, _, _, rfl, rfl, _, rfl, ?_⟩
    by_cases c3 : 0 ≤ late
    case neg => exact ifF (by simpa using c3) ⟨_, rfl, iteF ⟨_, rfl, _, rfl, ifT (by rfl) q⟩⟩
    refine ifT (by simpa using c3) ⟨_, _, rfl, rfl, _, rfl, ?_⟩
    by_cases c4 : late ≤ 9
    case neg => exact ifF (by simpa using c4) ⟨_, rfl, _, rfl, ifT (by simpa using c4) q⟩
    refine ifT (by simpa using c4) ⟨_, rfl, _, _, rfl, rfl, _, rfl, ?_⟩
    by_cases c5 : 0 ≤ lost
    case neg => exact ifF (by simpa using c5) ⟨_, rfl, _, rfl, ifT (by rfl) q⟩
    refine ifT (by simpa using c5) ⟨_, _, rfl, rfl, ?_⟩
    refine ⟨_, rfl, _, rfl, ifT ?_ q⟩
    have c6 : ¬ lost ≤ 6 := fun z => hn ⟨c1, c2, c3, c4, c5, z⟩
    simpa using c6
def sp_played (K : PySem.W.Frag) (C : Addr) : Sp := fun vs H Q _ => ∃ (n : Nat) (late lost : Int) (bk : Addr) (ts : List Str), vs = [.int n, .int late, .int lost, .ref bk] ∧ H bk = some (.lst (ts.map V.str)) ∧ ts.length ≤ 10000 ∧ (∀ a ∈ ts, Asc a ∧ a.length ≤ 600) ∧ 1 ≤ n ∧ n ≤ 6 ∧ 0 ≤ late ∧ late ≤ 9 ∧ 0 ≤ lost ∧ lost ≤ 6 ∧
  ∀ (t lA p L : Addr) (ds : List Addr) (H' : Hp), Same H H' → H' t = some (.tup [.ref lA, .ref p]) → H' lA = some (.lst ((ansL (newHs n late lost) ts).1.map V.str)) → HouseAt C H' p L ds (ansL (newHs n late lost) ts).2 → H p = none → H L = none → (∀ d ∈ ds, H d = none) → Q (.ref t) H'
theorem sc_played : FnScope ["badges", "late", "lost", "book", "house", "text"] ["badges", "late", "lost", "book"] (defScope s_played) := ⟨rfl, rfl, rfl, by decide +kernel, rfl, by decide +kernel, by decide +kernel⟩
theorem ok_played {f : Addr} {fd : FuncData} (F : Fun K "played" "played" s_played f fd) (c_House : C8.Mak P w K mg base 1 "House" C (sp_init C) []) (c_answer : C8.Cal P w K mg base 6 "answer" (sp_answer C) []) : FnOk P w K mg base CX0 7 f fd ["badges", "late", "lost", "book"] (sp_played K C) := by
  refine F.ok sc_played (fun vs H Q E h => ?_) (fun cdv A outer s H vs Q E hr h => ?_)
  · obtain ⟨n, late, lost, bk, ts, rfl, _⟩ := h
    rfl
  · obtain ⟨n, late, lost, bk, ts, rfl, hbk, tl, hts, n1, n6, la0, la9, lo0, lo6, q⟩ := h
    refine ⟨_, (pss_cons (ps_set (i := 4) sc_played.nd rfl (Or.inr rfl) (C8.pe_mk c_House hr (by decide) rfl (pa_cons (pv 0) (pa_cons (pv 1) (pa_cons (pv 2) pa_nil)))))
      (pss_one (ps_ret (pe_tup (pa_cons (pe_lc (own := [("text", 5)]) (g := gName 5) (tt := tYes) rfl sc_played.nd (pi_list (pv 3)) (blkOk_by (own := [("text", 5)]) (N := ["badges", "late", "lost", "book", "house", "text"]) (sc := defScope s_played) (by decide +kernel)) (fun _ _ _ _ _ => (pg_name (i := 5) sc_played.nd rfl (Or.inl rfl))) (fun _ _ _ _ _ => pts_nil) (fun _ _ _ _ _ => (C8.pe_c c_answer hr (by decide) rfl (pa_cons (pv 4) (pa_cons (pv 5) pa_nil))))) (pa_cons (pv 4) pa_nil)))))), ?_⟩
    refine ⟨_, rfl, _, rfl, _, rfl, fun p dx np ndx ne => ?_⟩
    have s1 : Same H (upd (upd H dx (.own p)) p (.ins C dx [])) := fun b o e => by
      rw [upd_ne (ne_of_none e np), upd_ne (ne_of_none e ndx)]
      exact e
    have hp : upd (upd H dx (.own p)) p (.ins C dx []) p = some (.ins C dx []) := upd_same
    generalize upd (upd H dx (.own p)) p (.ins C dx []) = H1 at *
    refine ⟨p, dx, n, late, lost, rfl, hp, n1, n6, la0, la9, lo0, lo6, fun L ds H2 nL nds ha k2 => ⟨rfl, ?_⟩⟩
    have s2 : Same H H2 := Same.ofNew s1 k2 (by intro c hc; simp at hc; rw [hc]; exact np)
    have nds0 : ∀ d ∈ ds, H d = none := fun d hd => s1.free (nds d hd)
    refine ⟨_, rfl, bk, rfl, ⟨_, SqL.of (s2 _ _ hbk)⟩, fun D nD => ?_⟩
    have nD0 : H D = none := s2.free nD
    have sD : Same H2 (upd H2 D (.lst [])) := Same.new nD
    refine lc_list (K := K) (a := bk) (xs := ts.map V.str) (fun i H3 => Same H H3 ∧ H3 D = some (.lst ((ansL (newHs n late lost) (ts.take i)).1.map V.str)) ∧ HouseAt C H3 p L ds (ansL (newHs n late lost) (ts.take i)).2 ∧ FaultOk (ansL (newHs n late lost) (ts.take i)).2 ∧ (ansL (newHs n late lost) (ts.take i)).1.length = i ∧ L ≠ D)
      ⟨s2.trans sD, upd_same, ha.same sD, .inl rfl, rfl, fun z => by rw [← z, ha.kn.lst] at nD; cases nD⟩ (fun i H3 _ ⟨s3, _⟩ => SqL.of (s3 _ _ hbk)) ?_ ?_
    · rintro i v H3 hi ⟨s3, hD, ha3, fo, al, nLD⟩
      rw [List.getElem?_map] at hi
      obtain ⟨a, ea, rfl⟩ := Option.map_eq_some_iff.mp hi
      have il : i < ts.length := (List.getElem?_eq_some_iff.mp ea).1
      obtain ⟨w1, w2⟩ := hts a (List.mem_of_getElem? ea)
      have etk : ts.take (i + 1) = ts.take i ++ [a] := by rw [List.take_succ, ea]; rfl
      refine ⟨rfl, ?_⟩
      refine ⟨_, rfl, _, rfl, p, L, ds, _, a, rfl, ha3, fo, w1, w2, fun H4 h4 k4 => ?_⟩
      have nD' : D ∉ p :: ds := by
        simp only [List.mem_cons, not_or]
        refine ⟨fun z => ?_, fun z => ?_⟩
        · obtain ⟨dx3, e⟩ := ha3.ob
          rw [← z, hD] at e
          cases e
        · obtain ⟨kv, e⟩ := ha3.kn.mem z
          rw [hD] at e
          cases e
      have hD4 := k4 _ _ hD nD'
      have s4 : Same H H4 := Same.ofNew s3 k4 (by
        intro c hc
        rcases List.mem_cons.mp hc with z | z
        · rw [z]; exact np
        · exact nds0 c z)
      have kD : Keeps [D] H4 (upd H4 D (.lst ((ansL (newHs n late lost) (ts.take i)).1.map V.str ++ [.str (ansH (ansL (newHs n late lost) (ts.take i)).2 a).1]))) := (Keeps.refl _ _).upd (by simp)
      refine ⟨_, hD4, szl (by rw [List.length_map]; omega), Same.mut s4 nD0, ?_, ?_, ?_, ?_, nLD⟩
      · rw [upd_same, etk, ansL_snoc, List.map_append]
        rfl
      · rw [etk, ansL_snoc]
        refine h4.keeps kD ?_ (by simpa using nLD) fun d hd z => ?_
        · intro z
          exact nD' (by rw [← List.mem_singleton.mp z]; exact List.mem_cons_self)
        · exact nD' (by rw [← List.mem_singleton.mp z]; exact List.mem_cons_of_mem _ hd)
      · rw [etk, ansL_snoc]
        exact ans_fault a fo
      · rw [etk, ansL_snoc, List.length_append, al]
        rfl
    · rintro H3 ⟨s3, hD, ha3, fo, al, nLD⟩
      rw [List.length_map, List.take_length] at hD ha3
      refine ⟨_, rfl, sz (by simp), fun t nt => ?_⟩
      have s5 : Same H3 (upd H3 t (.tup [.ref D, .ref p])) := Same.new nt
      exact q t D p L ds _ (s3.trans s5) upd_same (s5 _ _ hD) (ha3.same s5) np (s1.free nL) nds0
def sp_playedX (C BH : Addr) : Sp := fun vs H _ E => ∃ (n late lost : Int) (b : V), vs = [.int n, .int late, .int lost, b] ∧ ¬ (1 ≤ n ∧ n ≤ 6 ∧ 0 ≤ late ∧ late ≤ 9 ∧ 0 ≤ lost ∧ lost ≤ 6) ∧ ∀ H', Same H H' → E (.ref BH) none H'
theorem ok_playedX {f : Addr} {fd : FuncData} (F : Fun K "played" "played" s_played f fd) (c_HouseX : MakX P w K mg base 1 "House" C (sp_initX C BH)) : FnOk P w K mg base (L2.CX P w) 7 f fd ["badges", "late", "lost", "book"] (sp_playedX C BH) := by
  refine F.okX sc_played (fun vs H Q E h => ?_) (fun cdv A outer s H vs Q E hr h => ?_)
  · obtain ⟨n, late, lost, b, rfl, _⟩ := h
    rfl
  · obtain ⟨n, late, lost, b, rfl, hn, q⟩ := h
    refine ⟨_, (pss_cons (ps_set (i := 4) sc_played.nd rfl (Or.inr rfl) (pe_mkX c_HouseX hr (by decide) rfl (takes_of rfl rfl rfl rfl) (pa_cons (pv 0) (pa_cons (pv 1) (pa_cons (pv 2) pa_nil))))) (pss_one ps_never)), ?_⟩
    refine ⟨_, rfl, _, rfl, _, rfl, fun x dx nx ndx ne => ⟨x, dx, n, late, lost, rfl, upd_same, hn, q _ ?_⟩⟩
    exact fun b o e => by
      rw [upd_ne (ne_of_none e nx), upd_ne (ne_of_none e ndx)]
      exact e
structure GlbY (K : PySem.W.Frag) (mg : Str → Option Value) (BH HE : Addr) : Prop where
  HouseError : ∃ u, mg "HouseError" = some u ∧ RelV (.ref HE) u
  ValueError : mg "ValueError" = none
  k1 : PySem.W.kitOne K (.ref BH) (.ref HE) = some true
  k2 : PySem.W.kitOne K (.ref BH) (.type "ValueError") = some true
  s1 : PySem.W.subIn K (.ref BH) (.ref BH) = some true
def sp_refused11 : Sp := fun vs H Q _ => ∃ (n late lost : Int), vs = [.int n, .int late, .int lost] ∧ ¬ (1 ≤ n ∧ n ≤ 6 ∧ 0 ≤ late ∧ late ≤ 9 ∧ 0 ≤ lost ∧ lost ≤ 6) ∧ ∀ H', Same H H' → Q (.bl true) H'
theorem sc__law_refused : FnScope ["_law_badges", "_law_late", "_law_lost", "e"] ["_law_badges", "_law_late", "_law_lost"] (defScope s__law_refused) := ⟨rfl, rfl, rfl, by decide +kernel, rfl, by decide +kernel, by decide +kernel⟩
theorem ok_refused11 {f : Addr} {fd : FuncData} (F : Fun K "_law_refused" "_law_refused" s__law_refused f fd) (G : Glb K w mg dI) (XO : ExcOk K mg "BadHouse" BH) (GY : GlbY K mg BH HE) (c_playedX : CalX P w K mg base 7 "played" (sp_playedX C BH)) : FnOk P w K mg base CX0 8 f fd ["_law_badges", "_law_late", "_law_lost"] sp_refused11 := by
  refine F.ok sc__law_refused (fun vs H Q E h => ?_) (fun cdv A outer s H vs Q E hr h => ?_)
  · obtain ⟨n, late, lost, rfl, _⟩ := h
    rfl
  · obtain ⟨n, late, lost, rfl, hn, q⟩ := h
    refine ⟨_, (pss_cons (ps_try_as (i := 3) (ts := fun a cls d D σ H => (cls = Value.ref BH ∧ d = none) ∧ tRet (tAndV (tCB (rIsE K BH a) (tCons (tVar 3) (tCons (tC (.ref HE)) tNil))) (tCB (rIsE K BH a) (tCons (tVar 3) (tCons (tC (.ty "ValueError")) tNil)))) D σ H)
      rfl rfl sc__law_refused.nd rfl rfl ⟨rfl, by decide, .inl XO.g⟩ takes0
      (fun W pn xe tk _ => pss_one (ps_expr (pe_cT c_playedX hr (by decide) rfl tk (pa_cons (pv 0) (pa_cons (pv 1) (pa_cons (pv 2) (pa_cons (pe_lst (pa_cons pe_str pa_nil)) pa_nil)))))))
      (fun a oe cls d pn hz hf => pss_given fun e => by
        obtain ⟨rfl, rfl⟩ := e
        exact pss_one (ps_ret (pe_and (pe_callB (call_isE XO.e hz hf) (by rfl) G.isinstance (by decide +kernel) (pa_cons (pv 3) (pa_cons (C8.pe_gc rfl GY.HouseError) pa_nil))) (pe_one (pe_callB (call_isE XO.e hz hf) (by rfl) G.isinstance (by decide +kernel) (pa_cons (pv 3) (pa_cons (pe_bltn (v := .ty "ValueError") (by rfl) GY.ValueError (by decide +kernel) rfl) pa_nil))))))))
      (pss_one (ps_ret pe_bl))), ?_⟩
    refine ⟨_, rfl, _, rfl, _, rfl, sz (by simp), fun l nl => ⟨n, late, lost, _, rfl, hn, fun H1 s1 => ?_⟩⟩
    refine ⟨true, XO.exm GY.s1, fun _ a na => ⟨⟨rfl, rfl⟩, ?_⟩, fun z => by cases z⟩
    exact ⟨_, rfl, _, _, true, rfl, (fun u hu => hu), GY.k1, _, rfl, iteT ⟨_, rfl, _, _, true, rfl, (fun u hu => hu), GY.k2, q H1 ((Same.new nl).trans s1)⟩⟩
end
end IC
namespace IC
open PySem L2
/-! ### what the law keeps of a house, with whether it broke -/
def msOf (h : Hs) : Ms := ⟨h.late, h.lost, h.now, h.kns, some (decide (h.fault ≠ .non))⟩
theorem MAt.g_broken {H : Hp} {q L : Addr} {ds : List Addr} {m : Ms} {b : Bool} (a : MAt H q L ds m) (hb : m.brk = some b) : DGet H q (.str "broken") (some (.bl b)) := by
  have e : DGet H q (kV (Sum.inr "broken")) (valV (mPairs L m) (Sum.inr "broken")) := DGet.k a.ob
  rw [mp_broken L m b hb] at e
  exact e
theorem gone_brk (h : Hs) (t : Int) : decide ((goneOn h t).fault ≠ .non) = (decide (h.fault ≠ .non) || !borne (allWants h.kns h.late t) h.lost) := by
  unfold goneOn
  by_cases f : h.fault = .non
  · cases hb : borne (allWants h.kns h.late t) h.lost with
    | true => simp [f, hb]
    | false => simp [f, hb]
  · have : ¬ (h.fault = .non ∧ borne (allWants h.kns h.late t) h.lost = false) := fun z => f z.1
    simp only [if_neg this]
    simp [f]
theorem wd_in (z : Str) : (if true = true then !inV (.str z) [.str "in", .str "out"] else inV (.str z) [.str "in", .str "out"]) = false ↔ Wd z := by
  show (!inV (.str z) [.str "in", .str "out"]) = false ↔ _
  rw [Bool.not_eq_false']
  unfold inV
  rw [List.any_eq_true]
  constructor
  · rintro ⟨y, hy, e⟩
    simp only [List.mem_cons, List.not_mem_nil, or_false] at hy
    rcases hy with rfl | rfl
    · have e' : (Str.ofString "in") = z := by simpa [eqV] using e
      exact .inl e'.symm
    · have e' : (Str.ofString "out") = z := by simpa [eqV] using e
      exact .inr e'.symm
  · rintro (rfl | rfl)
    · exact ⟨.str "in", by simp, by decide +kernel⟩
    · exact ⟨.str "out", by simp, by decide +kernel⟩
theorem wd_out {z : Str} (h : ¬ Wd z) : (if true = true then !inV (.str z) [.str "in", .str "out"] else inV (.str z) [.str "in", .str "out"]) = true := by
  cases e : (if true = true then !inV (.str z) [.str "in", .str "out"] else inV (.str z) [.str "in", .str "out"]) with
  | true => rfl
  | false => exact absurd ((wd_in z).mp e) h
theorem MAt.putBrk {H : Hp} {q L : Addr} {ds : List Addr} {m : Ms} (a : MAt H q L ds m) (m' : Ms) (hk : m'.kns = m.kns) : MAt (upd H q (.dK (mPairs L m'))) q L ds m' ∧ Keeps (q :: ds) H (upd H q (.dK (mPairs L m'))) := by
  have k1 : Keeps [q] H (upd H q (.dK (mPairs L m'))) := (Keeps.refl _ _).upd (by simp)
  refine ⟨⟨upd_same, ?_⟩, k1.mono (by intro x hx; rw [List.mem_singleton.mp hx]; exact List.mem_cons_self)⟩
  rw [hk]
  refine a.kn.keeps k1 (by simp; exact (ne_of a.ob a.kn.lst (by intro z; cases z)).symm) fun d hd z => ?_
  exact a.qd a.kn (by rw [← List.mem_singleton.mp z]; exact hd)
section
variable {P : Program} {w : World} {K : PySem.W.Frag} {mg : Str → Option Value} {base : Heap} {dI C : Addr}
def sp_due : Sp := fun vs H Q _ => ∃ (q0 L : Addr) (ds : List Addr) (h : Hs) (n : Nat) (late lost : Int) (a : Str), vs = [.ref q0, .str a] ∧ MAt H q0 L ds (msOf h) ∧ Played n late lost h ∧ Asc a ∧ a.length ≤ 600 ∧
  ∀ H', MAt H' q0 L ds (msOf (ansH h a).2) → Keeps (q0 :: ds) H H' → Q (.str (ansH h a).1) H'
theorem sc__law_due : FnScope ["_law_m", "_law_text", "_law_words", "_law_numbers", "_law_word", "_law_bad", "_law_time", "_law_badge", "_law_moment"] ["_law_m", "_law_text"] (defScope s__law_due) := ⟨rfl, rfl, rfl, by decide +kernel, rfl, by decide +kernel, by decide +kernel⟩
theorem ok_due {f : Addr} {fd : FuncData} (F : Fun K "_law_due" "_law_due" s__law_due f fd) (G : Glb K w mg dI) (c__law_number : C8.Cal P w K mg base 1 "_law_number" sp_number []) (c__law_is_sound : C8.Cal P w K mg base 2 "_law_is_sound" sp_lsound []) : FnOk P w K mg base CX0 3 f fd ["_law_m", "_law_text"] sp_due := by
  refine F.ok sc__law_due (fun vs H Q E h => ?_) (fun cdv A outer s H vs Q E hr h => ?_)
  · obtain ⟨q0, L, ds, h, n, late, lost, a, rfl, _⟩ := h
    rfl
  · obtain ⟨q0, L, ds, h, n, late, lost, a, rfl, ma, pl, asc, al, q⟩ := h
    have hu := hu_of hr
    have wl := words_len a
    refine ⟨_, (pss_cons (ps_set (i := 2) sc__law_due.nd rfl (Or.inl rfl) (pe_split (pv 1) pe_str))
      (pss_cons (ps_setLc (i := 3) (own := [("_law_word", 4)]) (g := gName 4) (tt := tYes) rfl sc__law_due.nd rfl rfl (sw_true rfl rfl rfl (by decide +kernel)) (pi_list (pe_slice sl_list (pv 2) po_none (po_some pe_int))) (blkOk_by (own := [("_law_word", 4)]) (N := ["_law_m", "_law_text", "_law_words", "_law_numbers", "_law_word", "_law_bad", "_law_time", "_law_badge", "_law_moment"]) (sc := defScope s__law_due) (by decide +kernel)) (fun _ _ _ _ _ => (pg_name (i := 4) sc__law_due.nd rfl (Or.inl rfl))) (fun _ _ _ _ _ => pts_nil) (fun _ _ _ _ _ => (C8.pe_c c__law_number hr (by decide) rfl (pa_cons (pv 4) pa_nil))))
      (C8.pss_cut (ps_if (PW.pt (pw_or (PW.pt (pw_and (pt_cmpR op_ne (pe_callB call_len_seq (by rfl) G.len (by decide +kernel) (pa_cons (pv 2) pa_nil)) pe_int (nomark _)) (pw_and1 (pt_cmpR op_ne (pe_callB call_len_seq (by rfl) G.len (by decide +kernel) (pa_cons (pv 2) pa_nil)) pe_int (nomark _))))) (pw_or1 (pt_cmpR op_in_seq pe_non (pv 3) (by rfl)))))
        (pss_one (ps_ret pe_str))
        pss_nil)
      (pss_cons (ps_set (i := 5) sc__law_due.nd rfl (Or.inl rfl) (pe_ix ix_list (pe_lst (pa_cons pe_str (pa_cons pe_str pa_nil))) (pe_callTy call_int1 (by rfl) G.int (by decide +kernel) (pa_cons (pe_cmpR op_eq (pe_callB call_len_seq (by rfl) G.len (by decide +kernel) (pa_cons (pv 2) pa_nil)) pe_int (nomark _)) pa_nil)) (fun _ _ => rfl)))
      (pss_cons (ps_if (pt_not (pt_chain op_le op_le (pe_dget hu (pv 0) pe_str (fun _ _ => rfl)) (pe_ix ix_list (pv 3) pe_int (fun _ _ => rfl)) pe_int))
        (pss_one (ps_ret (pv 5)))
        pss_nil)
      (C8.pss_cut (ps_if (pt_cmpR op_eq (pe_callB call_len_seq (by rfl) G.len (by decide +kernel) (pa_cons (pv 2) pa_nil)) pe_int (nomark _))
        (pss_cons (ps_asg (pv 3) (pg_lst rfl (pgs_cons (pg_name (i := 6) sc__law_due.nd rfl (Or.inl rfl)) (pgs_cons (pg_name (i := 7) sc__law_due.nd rfl (Or.inl rfl)) (pgs_cons (pg_name (i := 8) sc__law_due.nd rfl (Or.inl rfl)) pgs_nil)))))
          (pss_cons (ps_if (PW.pt (pw_or (pt_cmpR op_ge (pv 7) (pe_callB call_len_seq (by rfl) G.len (by decide +kernel) (pa_cons (pe_dget hu (pv 0) pe_str (fun _ _ => rfl)) pa_nil)) (nomark _)) (pw_or (pt_cmpR op_notIn_seq (pe_ix ix_list (pv 2) pe_int (fun _ _ => rfl)) (pe_tup (pa_cons pe_str (pa_cons pe_str pa_nil))) (by rfl)) (pw_or1 (pt_not (pt_chain op_le op_le pe_int (pv 8) (pv 6)))))))
            (pss_one (ps_ret (pv 5)))
            pss_nil)
          (pss_cons (ps_if (PW.pt (pw_or (pt_cmpR op_lt (pe_op op_add (pv 8) (pe_dget hu (pv 0) pe_str (fun _ _ => rfl))) (pv 6) (nomark _)) (pw_or1 (pt_cmp (pc_din hu (pv 8) (pe_ix ix_list (pe_dget hu (pv 0) pe_str (fun _ _ => rfl)) (pv 7) (fun _ _ => rfl)))))))
            (pss_one (ps_ret (pv 5)))
            pss_nil)
          (pss_one (ps_dput hu (pe_ix ix_list (pe_dget hu (pv 0) pe_str (fun _ _ => rfl)) (pv 7) (fun _ _ => rfl)) (pv 8) (pe_ix ix_list (pv 2) pe_int (fun _ _ => rfl)) rfl)))))
        pss_nil)
      (pss_cons (ps_dput hu (pv 0) pe_str (pe_ix ix_list (pv 3) pe_int (fun _ _ => rfl)) rfl)
      (pss_cons (ps_dput hu (pv 0) pe_str (pe_or (pe_dget hu (pv 0) pe_str (fun _ _ => rfl)) (pe_one (pe_not (C8.pe_c c__law_is_sound hr (by decide) rfl (pa_cons (pv 0) pa_nil))))) rfl)
      (pss_one (ps_ret (pe_ifExp (pt_val (pe_dget hu (pv 0) pe_str (fun _ _ => rfl))) pe_str pe_str))))))))))), ?_⟩
    refine ⟨_, rfl, ⟨a, rfl⟩, a, _, rfl, rfl, by decide +kernel, sz (by omega), fun wA nwA => ?_⟩
    have ew : Txt.split a (Str.ofString " ") = wordsT a := rfl
    rw [ew]
    have s1 : Same H (upd H wA (.lst ((wordsT a).map V.str))) := Same.new nwA
    have hwA : upd H wA (.lst ((wordsT a).map V.str)) wA = some (.lst ((wordsT a).map V.str)) := upd_same
    generalize upd H wA (.lst ((wordsT a).map V.str)) = H1 at *
    refine ⟨_, rfl, _, rfl, wA, _, rfl, SqL.of hwA, fun cA ncA => ?_⟩
    have ecut : cutV ((wordsT a).map V.str) none (some 3) = ((wordsT a).take 3).map V.str := by
      unfold cutV
      show ((List.map V.str (wordsT a)).drop 0).take (min 3 _ - 0) = _
      rw [List.drop_zero, List.length_map, List.map_take, Nat.sub_zero]
      by_cases h3 : 3 ≤ (wordsT a).length
      · rw [Nat.min_eq_left h3]
      · rw [Nat.min_eq_right (by omega), List.take_of_length_le (by simp), List.take_of_length_le (by simp; omega)]
    rw [ecut]
    have s2 : Same H1 (upd H1 cA (.lst (((wordsT a).take 3).map V.str))) := Same.new ncA
    have hcA : upd H1 cA (.lst (((wordsT a).take 3).map V.str)) cA = some (.lst (((wordsT a).take 3).map V.str)) := upd_same
    generalize upd H1 cA (.lst (((wordsT a).take 3).map V.str)) = H2 at *
    refine ⟨cA, rfl, ⟨_, SqL.of hcA⟩, fun nA nnA => ?_⟩
    refine lc_over (K := K) (enc := V.str) (l := (wordsT a).take 3) (fun _ => true) numV (SqL.of hcA) nnA (by rw [List.length_take]; omega) (fun _ => rfl) (fun _ _ => GivesB.yes) (fun x hx _ => ?_) fun H3 s3 hnA => ?_
    · intro H3 s3 Q3 q3
      obtain ⟨w1, w2⟩ := words_ok asc (List.mem_of_mem_take hx)
      exact ⟨_, rfl, x, rfl, by omega, w1, fun H4 s4 => q3 H4 s4⟩
    rw [List.filter_eq_self.mpr (fun _ _ => rfl)] at hnA
    have hwA3 := s3 _ _ (s2 _ _ hwA)
    have s03 := (s1.trans s2).trans s3
    have ma3 := ma.same s03
    have bad : ¬ Good11 a → Q (.str "BadText") H3 := fun ng => by
      have := q H3
      rw [ans_bad h ng] at this
      exact this ma3 (.of_same s03)
    refine ⟨fun σ H' => ∃ (o4 : Option V), σ = [some (.ref q0), some (.str a), some (.ref wA), some (.ref nA), o4, none, none, none, none] ∧ H' = H3 ∧ Good11 a, ?_, ?_⟩
    · refine ⟨_, rfl, wA, _, rfl, .inl (SqL.of hwA3), rfl, _, rfl, ?_⟩
      rw [List.length_map]
      by_cases l14 : (wordsT a).length = 1 ∨ (wordsT a).length = 4
      case neg =>
        refine ifT (by simp; omega) ⟨_, rfl, wA, _, rfl, .inl (SqL.of hwA3), rfl, _, rfl, ifT (by simp; omega) (iteT (bad fun g => l14 ?_))⟩
        rcases g with ⟨x, t, e, _⟩ | ⟨x, y, u, z, t, b, m, e, _⟩ <;> rw [e]
        · exact .inl rfl
        · exact .inr rfl
      have third : ∀ (Kt Kf : Prop), (¬ Good11 a → Kt) → (Good11 a → Kf) → if (if false = true then !inV .non (((wordsT a).take 3).map numV) else inV .non (((wordsT a).take 3).map numV)) = true then Kt else Kf := fun Kt Kf kt kf => ite2 (fun e => kt fun g => by
        have e' := (non_in _).mp e
        rcases g with ⟨x, t, e1, n1⟩ | ⟨x, y, u, z, t, b, m, e1, n1, n2, n3⟩
        · rw [e1] at e'
          obtain ⟨w0, hw, hn⟩ := e'
          rw [List.mem_singleton.mp hw, n1] at hn
          cases hn
        · rw [e1] at e'
          obtain ⟨w0, hw, hn⟩ := e'
          simp only [List.take_succ_cons, List.take_zero, List.mem_cons, List.not_mem_nil, or_false] at hw
          rcases hw with rfl | rfl | rfl
          · rw [n1] at hn; cases hn
          · rw [n2] at hn; cases hn
          · rw [n3] at hn; cases hn) (fun e => kf (by
        have e' : ∀ x ∈ (wordsT a).take 3, ∃ n, numW x = some n := fun x hx => by
          cases en : numW x with
          | some n => exact ⟨n, rfl⟩
          | none => exact absurd ((non_in _).mpr ⟨x, hx, en⟩) e
        rcases l14 with l | l
        · match hw : wordsT a, l with
          | [x], _ =>
            rw [hw] at e'
            obtain ⟨t, ht⟩ := e' x (by simp)
            exact .inl ⟨x, t, hw, ht⟩
        · match hw : wordsT a, l with
          | [x, y, u, z], _ =>
            rw [hw] at e'
            obtain ⟨t, ht⟩ := e' x (by simp)
            obtain ⟨b, hb⟩ := e' y (by simp)
            obtain ⟨m, hm⟩ := e' u (by simp)
            exact .inr ⟨x, y, u, z, t, b, m, hw, ht, hb, hm⟩))
      have flat : (((wordsT a).take 3).map numV).all flatV = true := by
        rw [List.all_eq_true]
        intro v hv
        obtain ⟨x, _, rfl⟩ := List.mem_map.mp hv
        unfold numV
        split <;> rfl
      rcases l14 with l | l
      · exact ifF (by rw [l]; rfl) (iteF ⟨_, rfl, nA, _, rfl, .inl (SqL.of hnA), rfl, flat, _, rfl, third _ _ bad fun g => ⟨_, rfl, rfl, g⟩⟩)
      · exact ifT (by rw [l]; rfl) ⟨_, rfl, wA, _, rfl, .inl (SqL.of hwA3), rfl, _, rfl, ifF (by rw [List.length_map, l]; rfl) ⟨_, rfl, nA, _, rfl, .inl (SqL.of hnA), rfl, flat, _, rfl, third _ _ bad fun g => ⟨_, rfl, rfl, g⟩⟩⟩
    · rintro σ H' ⟨o4, rfl, rfl, good⟩
      obtain ⟨t, good⟩ : ∃ t : Nat, (∃ x, wordsT a = [x] ∧ numW x = some t) ∨ ∃ x y u z b m, wordsT a = [x, y, u, z] ∧ numW x = some t ∧ numW y = some b ∧ numW u = some m := by
        rcases good with ⟨x, t, h1, h2⟩ | ⟨x, y, u, z, t, b, m, h1, h2, h3, h4⟩
        · exact ⟨t, .inl ⟨x, h1, h2⟩⟩
        · exact ⟨t, .inr ⟨x, y, u, z, b, m, h1, h2, h3, h4⟩⟩
      obtain ⟨rest, hn0⟩ : ∃ rest, ((wordsT a).take 3).map numV = .int (t : Int) :: rest := by
        rcases good with ⟨x, e1, e2⟩ | ⟨x, y, u, z, b, m, e1, e2, _⟩
        · exact ⟨[], by rw [e1]; simp [numV, e2]⟩
        · exact ⟨[numV y, numV u], by rw [e1]; simp [numV, e2]⟩
      obtain ⟨badW, hbad⟩ : ∃ z : Str, z = if (wordsT a).length = 1 then "BadTime" else "BadRow" := ⟨_, rfl⟩
      refine ⟨sz (by simp), fun bl nbl => ⟨_, rfl, wA, _, rfl, .inl (SqL.of ((Same.new nbl) _ _ hwA3)), rfl, .inr ⟨_, rfl, bl, _, _, .str badW, rfl, rfl, SqL.of upd_same, ?_, ?_⟩⟩⟩
      · rw [List.length_map, hbad]
        rcases good with ⟨x, e1, e2⟩ | ⟨x, y, u, z, b, m, e1, e2, _⟩ <;> rw [e1] <;> rfl
      have s4 := s03.trans (Same.new (o := .lst [.str "BadRow", .str "BadTime"]) nbl)
      have hw4 := (Same.new (o := .lst [.str "BadRow", .str "BadTime"]) nbl) _ _ hwA3
      have hn4 := (Same.new (o := .lst [.str "BadRow", .str "BadTime"]) nbl) _ _ hnA
      rw [hn0] at hn4
      generalize upd _ bl _ = H4 at *
      have ma4 := ma.same s4
      have retB : ∀ H6, Same H H6 → ansH h a = (badW, h) → Q (.str badW) H6 := fun H6 s6 e => by
        have := q H6
        rw [e] at this
        exact this (ma.same s6) (.of_same s6)
      have eB : ¬ (h.now ≤ (t : Int) ∧ (t : Int) ≤ 60) → ansH h a = (badW, h) := fun nt => by
        rw [hbad]
        unfold ansH
        rcases good with ⟨x, e1, e2⟩ | ⟨x, y, u, z, b, m, e1, e2, e3, e4⟩
        · rw [e1]
          simp only [List.take_succ_cons, List.take_nil, List.map_cons, List.map_nil, e2]
          rw [if_neg nt]
          rfl
        · rw [e1]
          simp only [List.take_succ_cons, List.take_zero, List.map_cons, List.map_nil, e2, e3, e4]
          rw [if_neg fun c : CanRow h t b m z => nt ⟨c.t0, c.t1⟩]
          rfl
      refine ⟨_, rfl, q0, _, rfl, ma4.g_time, _, rfl, nA, _, _, .int (t : Int), rfl, rfl, SqL.of hn4, atI_nat (j := 0) rfl, _, _, rfl, rfl, _, rfl, ?_⟩
      by_cases c1 : h.now ≤ (t : Int)
      case neg => exact ifF (by simpa [msOf] using c1) ⟨_, rfl, ifT (by simp) ⟨_, rfl, retB _ s4 (eB fun z => c1 z.1)⟩⟩
      refine ifT (by simpa [msOf] using c1) ⟨_, _, rfl, rfl, _, rfl, ?_⟩
      by_cases c2 : (t : Int) ≤ 60
      case neg => exact ifT (by simpa using c2) ⟨_, rfl, retB _ s4 (eB fun z => c2 z.2)⟩
      refine ifF (by simpa using c2) ?_
      obtain ⟨done, T, pl⟩ := pl
      have mok : ∀ d, CanDo h d → ∃ T', MOk (msOf (doH h d)) T' := fun d c => by
        obtain ⟨T', _, _, p'⟩ := pl.step c
        exact ⟨T', p'.ok.tm.now, p'.ok.tm.le, p'.ok.kn⟩
      refine ⟨fun σ H6 => ∃ (o6 o7 o8 : Option V) (h1 : Hs), σ = [some (.ref q0), some (.str a), some (.ref wA), some (.ref nA), o4, some (.str badW), o6, o7, o8] ∧ MAt H6 q0 L ds (msOf h1) ∧ Keeps (q0 :: ds) H H6 ∧ H6 nA = some (.lst (.int (t : Int) :: rest)) ∧ ansH h a = (toldH (goneOn h1 t), goneOn h1 t) ∧ ∃ T', MOk (msOf (goneOn h1 t)) T', ?_, ?_⟩
      · refine ⟨_, rfl, wA, _, rfl, .inl (SqL.of hw4), rfl, _, rfl, ?_⟩
        rw [List.length_map]
        rcases good with ⟨x, e1, e2⟩ | ⟨x, y, u, z, b, m, e1, e2, e3, e4⟩
        · refine ifF (by rw [e1]; rfl) ⟨none, none, none, h, rfl, ma4, .of_same s4, hn4, ?_, mok (.tk t) ⟨c1, c2⟩⟩
          unfold ansH
          rw [e1]
          simp only [List.take_succ_cons, List.take_nil, List.map_cons, List.map_nil, e2]
          rw [if_pos ⟨c1, c2⟩]
        · have er : rest = [.int (b : Int), .int (m : Int)] := by
            rw [e1] at hn0
            simp only [List.take_succ_cons, List.take_zero, List.map_cons, List.map_nil, numV, e2, e3, e4] at hn0
            injection hn0 with _ e
            exact e.symm
          subst er
          have hw4' : H4 wA = some (.lst [.str x, .str y, .str u, .str z]) := by rw [hw4, e1]; rfl
          have ansR : ¬ CanRow h t b m z → ansH h a = (badW, h) := fun nc => by
            rw [hbad]
            unfold ansH
            rw [e1]
            simp only [List.take_succ_cons, List.take_zero, List.map_cons, List.map_nil, e2, e3, e4]
            rw [if_neg nc]
            rfl
          refine ifT (by rw [e1]; rfl) ⟨_, rfl, nA, _, rfl, SqL.of hn4, rfl, _, _, rfl, _, _, rfl, _, _, rfl, rfl, ?_⟩
          refine ⟨_, rfl, _, rfl, q0, _, rfl, ma4.g_known, L, _, rfl, .inl (SqL.of ma4.kn.lst), _, _, rfl, rfl, _, rfl, ?_⟩
          have dl : ds.length = h.kns.length := ma4.kn.len
          by_cases c3 : b < h.kns.length
          case neg => exact ifT (by rw [List.length_map, dl]; simp; omega) (iteT ⟨_, rfl, retB _ s4 (ansR fun c => c3 c.b1)⟩)
          refine ifF (by rw [List.length_map, dl]; simp; omega) ⟨_, rfl, wA, _, _, .str z, rfl, rfl, SqL.of hw4', rfl, sz (by simp), fun tp ntp => ⟨tp, _, rfl, .inr (SqT.of upd_same), rfl, by decide +kernel, _, rfl, ?_⟩⟩
          have s5 : Same H4 (upd H4 tp (.tup [.str "in", .str "out"])) := Same.new ntp
          generalize upd H4 tp _ = H5 at *
          have ma5 := ma4.same s5
          have s05 := s4.trans s5
          by_cases c4 : Wd z
          case neg => exact ifT (wd_out c4) (iteT ⟨_, rfl, retB _ s05 (ansR fun c => c4 c.wd)⟩)
          refine ifF ((wd_in z).mpr c4) ⟨_, rfl, _, _, rfl, rfl, _, rfl, ?_⟩
          by_cases c5 : 1 ≤ (m : Int)
          case neg => exact ifF (by simpa using c5) ⟨_, rfl, ifT (by simp) ⟨_, rfl, retB _ s05 (ansR fun c => c5 c.m0)⟩⟩
          refine ifT (by simpa using c5) ⟨_, rfl, _, _, rfl, rfl, _, rfl, ?_⟩
          by_cases c6 : (m : Int) ≤ t
          case neg => exact ifT (by simp; omega) ⟨_, rfl, retB _ s05 (ansR fun c => c6 c.m1)⟩
          refine ifF (by simp; omega) ⟨_, rfl, _, rfl, q0, _, rfl, ma5.g_late, _, _, rfl, rfl, _, rfl, _, _, rfl, rfl, _, rfl, ?_⟩
          by_cases c7 : (t : Int) - m ≤ h.late
          case neg => exact ifT (by simp [msOf]; omega) (iteT ⟨_, rfl, retB _ s05 (ansR fun c => c7 c.lt)⟩)
          obtain ⟨ek, hkm⟩ := getD_mem c3
          obtain ⟨d, hd, hdk⟩ : ∃ d, ds[b]? = some d ∧ H5 d = some (.dK (encK (h.kns.getD b []))) := Paired.get (R := fun d k => H5 d = some (.dK (encK k))) ma5.kn.at_ ek
          have hat : atI (ds.map V.ref) (b : Int) = some (.ref d) := atI_nat (by rw [List.getElem?_map, hd]; rfl)
          have hg : DGet H5 d (.int (m : Int)) ((lookK (h.kns.getD b []) (m : Int)).map V.str) := by
            have e : DGet H5 d (kV (Sum.inl (m : Int))) (valV (encK (h.kns.getD b [])) (Sum.inl (m : Int))) := DGet.k hdk
            rw [valV_enc] at e
            exact e
          refine ifF (by simp [msOf]; omega) ⟨_, rfl, _, rfl, q0, _, rfl, ma5.g_known, _, rfl, L, _, _, .ref d, rfl, rfl, SqL.of ma5.kn.lst, hat, d, _, rfl, hg, _, rfl, ?_⟩
          cases c8 : lookK (h.kns.getD b []) (m : Int) with
          | some w0 => exact ifT (by rfl) ⟨_, rfl, retB _ s05 (ansR fun c => by have := c.new; rw [c8] at this; cases this)⟩
          | none =>
            have can : CanRow h t b m z := ⟨c1, c2, c3, c4, c5, c6, c7, c8⟩
            have ok' := (ma5.kn.ok _ hkm).snoc c8 c4 c5 (by omega)
            have sm' := (ma5.kn.ok _ hkm).sm
            have dm : d ∈ ds := List.mem_of_getElem? hd
            refine ifF (by rfl) ⟨_, rfl, wA, _, _, .str z, rfl, rfl, SqL.of (s5 _ _ hw4'), rfl, _, rfl, q0, _, rfl, ma5.g_known, _, rfl, L, _, _, .ref d, rfl, rfl, SqL.of ma5.kn.lst, hat, _, rfl, d, _, rfl, DPut.k (k := Sum.inl (m : Int)) hdk (szl (by unfold encK; rw [List.length_map]; omega)), ?_⟩
            rw [encK_put c8]
            have k6 : Keeps [d] H5 (upd H5 d (.dK (encK (h.kns.getD b [] ++ [((m : Int), z)])))) := (Keeps.refl _ _).upd (by simp)
            refine ⟨_, _, _, putRow h b m z, rfl, ⟨?_, ma5.kn.put hd ok'⟩, ((Keeps.of_same s05).trans (k6.mono (by intro x hx; rw [List.mem_singleton.mp hx]; exact List.mem_cons_of_mem _ dm))), k6 _ _ (s5 _ _ hn4) ?_, ?_, mok (.cm t b m z) can⟩
            · rw [upd_ne (fun e => ma5.qd ma5.kn (by rw [e]; exact dm))]
              exact ma5.ob
            · intro e
              have := s5 _ _ hn4
              rw [List.mem_singleton.mp e, hdk] at this
              cases this
            · unfold ansH
              rw [e1]
              simp only [List.take_succ_cons, List.take_zero, List.map_cons, List.map_nil, e2, e3, e4]
              rw [if_pos can]
      · rintro σ H6 ⟨o6, o7, o8, h1, rfl, m6, k6, hn6, ea, T', mk⟩
        refine ⟨_, rfl, nA, _, _, .int (t : Int), rfl, rfl, SqL.of hn6, atI_nat (j := 0) rfl, _, rfl, q0, _, rfl, DPut.k (k := Sum.inr ("time" : Str)) m6.ob (by exact mp_few L _), ?_⟩
        rw [mp_put]
        obtain ⟨m7, k7⟩ := m6.putBrk { msOf h1 with time := (t : Int) } rfl
        generalize upd H6 q0 _ = H7 at *
        have mk7 : MOk { msOf h1 with time := (t : Int) } T' := ⟨mk.tm, mk.le, mk.kn⟩
        have gb := gone_brk h1 t
        have fin : ∀ (H9 : Hp) (bb : Bool), bb = decide ((goneOn h1 t).fault ≠ .non) → MAt H9 q0 L ds { msOf h1 with time := (t : Int), brk := some bb } → Keeps (q0 :: ds) H7 H9 → if bb = true then Q (.str "broken") H9 else Q (.str "sound") H9 := fun H9 bb hb m9 k9 => by
          subst hb
          have q' := q H9
          rw [ea] at q'
          have q2 := q' m9 ((k6.trans k7).trans k9)
          unfold toldH at q2
          by_cases f : (goneOn h1 t).fault = .non
          · rw [if_pos f] at q2
            exact ifF (by simp [f]) q2
          · rw [if_neg f] at q2
            exact ifT (by simp [f]) q2
        refine ⟨_, rfl, q0, _, rfl, m7.g_broken rfl, _, rfl, ite2 (fun e => ?_) (fun e => ⟨_, rfl, q0, L, ds, _, T', rfl, m7, mk7, fun H8 s8 => ⟨_, rfl, ?_⟩⟩)⟩
        · refine ⟨_, rfl, q0, _, rfl, DPut.k (k := Sum.inr ("broken" : Str)) m7.ob (by exact mp_few L _), ?_⟩
          rw [mp_brk]
          obtain ⟨m9, k9⟩ := m7.putBrk { msOf h1 with time := (t : Int), brk := some true } rfl
          exact ⟨_, rfl, q0, _, rfl, m9.g_broken rfl, _, rfl, fin _ true (by rw [gb, e]; rfl) m9 k9⟩
        · have m8 := m7.same s8
          refine ⟨_, rfl, q0, _, rfl, DPut.k (k := Sum.inr ("broken" : Str)) m8.ob (by exact mp_few L _), ?_⟩
          rw [mp_brk]
          obtain ⟨m9, k9⟩ := m8.putBrk { msOf h1 with time := (t : Int), brk := some (!borne (allWants h1.kns h1.late t) h1.lost) } rfl
          exact ⟨_, rfl, q0, _, rfl, m9.g_broken rfl, _, rfl, fin _ _ (by rw [gb, Bool.eq_false_iff.mpr e, Bool.false_or]) m9 ((Keeps.of_same s8).trans k9)⟩
end
end IC
namespace IC
open PySem L2
/-! ### texts of plain signs -/
theorem Asc.add {a b : Str} (ha : Asc a) (hb : Asc b) : Asc (a ++ b) := fun c hc => by
  have e : (a ++ b).cps.toList = a.cps.toList ++ b.cps.toList := by
    show (a.cps ++ b.cps).toList = _
    exact Array.toList_append
  rw [e] at hc
  rcases List.mem_append.mp hc with z | z
  · exact ha c z
  · exact hb c z
theorem len_add (a b : Str) : (a ++ b).length = a.length + b.length := by
  show (a.cps ++ b.cps).size = a.cps.size + b.cps.size
  exact Array.size_append
theorem asc_join {sep : Str} (hs : Asc sep) : ∀ {l : List Str}, (∀ y ∈ l, Asc y) → Asc (Str.join sep l)
  | [], _ => fun c hc => by
    have e : (Str.join sep []).cps.toList = [] := rfl
    rw [e] at hc
    cases hc
  | [x], h => h x (by simp)
  | x :: y :: r, h => by
    show Asc (x ++ sep ++ Str.join sep (y :: r))
    exact ((h x (by simp)).add hs).add (asc_join hs fun u hu => h u (List.mem_cons_of_mem _ hu))
theorem len_join {sep : Str} {B : Nat} : ∀ {l : List Str}, (∀ y ∈ l, y.length ≤ B) → (Str.join sep l).length ≤ l.length * (B + sep.length)
  | [], _ => Nat.zero_le _
  | [x], h => by
    show x.length ≤ _
    have := h x (by simp)
    rw [List.length_singleton]
    omega
  | x :: y :: r, h => by
    show (x ++ sep ++ Str.join sep (y :: r)).length ≤ _
    rw [len_add, len_add, List.length_cons, Nat.succ_mul]
    have h1 := h x (by simp)
    have h2 := len_join (l := y :: r) (sep := sep) fun u hu => h u (List.mem_cons_of_mem _ hu)
    omega
theorem asc_cut {z : Str} (h : Asc z) (lo hi : Option Int) : Asc (cutS z lo hi) ∧ (cutS z lo hi).length ≤ z.length := by
  refine ⟨fun c hc => ?_, ?_⟩
  · unfold cutS at hc
    exact h c (List.mem_of_mem_drop (List.mem_of_mem_take (by simpa using hc)))
  · unfold cutS
    show (Array.size (List.toArray _)) ≤ z.cps.size
    rw [List.size_toArray, List.length_take, List.length_drop, Array.length_toList]
    omega
theorem asc_dec {z : Str} (h : (z.cps.toList.all fun c => decide (c < 128)) = true) : Asc z := fun c hc => of_decide_eq_true (List.all_eq_true.mp h c hc)
theorem cut_strs (l : List Str) (lo hi : Option Int) : ∃ ys : List Str, cutV (l.map V.str) lo hi = ys.map V.str ∧ (∀ y ∈ ys, y ∈ l) ∧ ys.length ≤ l.length := by
  unfold cutV
  refine ⟨(l.drop (HT.sIx (l.map V.str).length 0 lo)).take (HT.sIx (l.map V.str).length (l.map V.str).length hi - HT.sIx (l.map V.str).length 0 lo), by rw [List.map_take, List.map_drop], fun y hy => List.mem_of_mem_drop (List.mem_of_mem_take hy), ?_⟩
  rw [List.length_take, List.length_drop]
  omega
theorem spl_ne {S : List Nat} : ∀ (l : List Nat) (k : Nat) (acc : List Nat), TL.spl S k acc l ≠ []
  | [], k, acc => by rw [TL.spl_nil]; simp
  | c :: r, 0, acc => by
    by_cases p : TL.pre S (c :: r) = true
    · rw [TL.spl_hit p]; simp
    · rw [TL.spl_miss (Bool.eq_false_iff.mpr p)]
      exact spl_ne r _ _
  | c :: r, k + 1, acc => by
    have h := spl_ne (S := S) r k acc
    exact h
theorem words_ne (a : Str) : 0 < (wordsT a).length := by
  have hs := TL.split_spl a " " (by decide +kernel) (TL.kind_ok (by decide +kernel))
  have : (wordsT a).map TL.tl ≠ [] := by
    show (Txt.split a " ").map TL.tl ≠ []
    rw [hs]
    exact spl_ne _ _ _
  cases h : wordsT a with
  | nil => rw [h] at this; exact absurd rfl this
  | cons x l => simp
theorem call_str_any {X : Cx} : CallR X (.type "str") (fun xs H Q => (∃ i, xs = [.int i] ∧ i.natAbs.log2 < 1920 ∧ Q (.str (toString i)) H) ∨ ∃ a, xs = [.str a] ∧ Q (.str a) H) := by
  intro pins s σ H xs us Q I r h
  rcases h with h | h
  · exact call_str_int pins s σ H xs us Q I r h
  · exact SkE.call_str_str pins s σ H xs us Q I r h
def oddsL : List Str := ["", "0", "1", "7", "61", "60", "00", "05", "100", "x", "in", "out", "In", "-1"]
theorem odds_ok : (oddsL.all fun z => (z.cps.toList.all fun c => decide (c < 128)) && decide (z.length ≤ 3)) = true := by decide +kernel
theorem odds_at {v : Int} (h0 : 0 ≤ v) (h1 : v < 14) : ∃ z : Str, atI (oddsL.map V.str) v = some (.str z) ∧ Asc z ∧ z.length ≤ 3 := by
  obtain ⟨j, rfl⟩ := Int.eq_ofNat_of_zero_le h0
  have hj : j < oddsL.length := by show j < 14; omega
  have hk := List.all_eq_true.mp odds_ok oddsL[j] (List.getElem_mem hj)
  rw [Bool.and_eq_true, decide_eq_true_eq] at hk
  exact ⟨oddsL[j], atI_nat (by rw [List.getElem?_map, List.getElem?_eq_getElem hj]; rfl), asc_dec hk.1, hk.2⟩
theorem sign_at {v : Int} (h0 : 0 ≤ v) (h1 : v < 6) : ∃ c : Nat, atI (Str.ofString "0 1x-i").cps.toList v = some c ∧ c < 128 := by
  have e : (Str.ofString "0 1x-i").cps.toList = [48, 32, 49, 120, 45, 105] := by decide +kernel
  rw [e]
  obtain rfl | rfl | rfl | rfl | rfl | rfl : v = 0 ∨ v = 1 ∨ v = 2 ∨ v = 3 ∨ v = 4 ∨ v = 5 := by omega
  all_goals exact ⟨_, rfl, by decide⟩
section
variable {P : Program} {w : World} {K : PySem.W.Frag} {mg : Str → Option Value} {base : Heap} {dI C : Addr}
def sp_spoilt (K : PySem.W.Frag) : Sp := fun vs H Q _ => ∃ (r a : Addr) (ns : List Int) (z : Str), vs = [.ref r, .str z] ∧ RowAt K H r a ns ∧ Asc z ∧ z.length ≤ 12 ∧
  ∀ (z' : Str) (H' : Hp), Asc z' → z'.length ≤ 600 → RowAt K H' r a ns → Keeps [r] H H' → Q (.str z') H'
theorem sc__law_spoilt : FnScope ["_law_row", "_law_text", "_law_words", "_law_k", "_law_odd", "_law_way", "_law_at", "_law_some"] ["_law_row", "_law_text"] (defScope s__law_spoilt) := ⟨rfl, rfl, rfl, by decide +kernel, rfl, by decide +kernel, by decide +kernel⟩
theorem ok_spoilt {f : Addr} {fd : FuncData} (F : Fun K "_law_spoilt" "_law_spoilt" s__law_spoilt f fd) (G : Glb K w mg dI) (c__law_taken : C8.Cal P w K mg base 1 "_law_taken" (sp_taken K) []) : FnOk P w K mg base CX0 2 f fd ["_law_row", "_law_text"] (sp_spoilt K) := by
  refine F.ok sc__law_spoilt (fun vs H Q E h => ?_) (fun cdv A outer s H vs Q E hr h => ?_)
  · obtain ⟨r, a, ns, z, rfl, _⟩ := h
    rfl
  · obtain ⟨r, a, ns, z, rfl, row, asc, zl, q⟩ := h
    have wl := words_len z
    have wne := words_ne z
    have wok : ∀ y ∈ wordsT z, Asc y ∧ y.length ≤ 12 := fun y hy => let ⟨h1, h2⟩ := words_ok asc hy; ⟨h1, by omega⟩
    refine ⟨_, (pss_cons (ps_set (i := 2) sc__law_spoilt.nd rfl (Or.inl rfl) (pe_split (pv 1) pe_str))
      (pss_cons (ps_set (i := 3) sc__law_spoilt.nd rfl (Or.inl rfl) (C8.pe_c c__law_taken hr (by decide) rfl (pa_cons (pv 0) (pa_cons (pe_callB call_len_seq (by rfl) G.len (by decide +kernel) (pa_cons (pv 2) pa_nil)) pa_nil))))
      (pss_cons (ps_set (i := 4) sc__law_spoilt.nd rfl (Or.inl rfl) (pe_ix ix_list (pe_lst (pa_cons pe_str (pa_cons pe_str (pa_cons pe_str (pa_cons pe_str (pa_cons pe_str (pa_cons pe_str (pa_cons pe_str (pa_cons pe_str (pa_cons pe_str (pa_cons pe_str (pa_cons pe_str (pa_cons pe_str (pa_cons pe_str (pa_cons pe_str pa_nil))))))))))))))) (C8.pe_c c__law_taken hr (by decide) rfl (pa_cons (pv 0) (pa_cons pe_int pa_nil))) (fun _ _ => rfl)))
      (pss_cons (ps_set (i := 5) sc__law_spoilt.nd rfl (Or.inl rfl) (C8.pe_c c__law_taken hr (by decide) rfl (pa_cons (pv 0) (pa_cons pe_int pa_nil))))
      (pss_cons (ps_if (pt_cmpR op_eq (pv 5) pe_int (nomark _))
        (pss_cons (ps_set (i := 6) sc__law_spoilt.nd rfl (Or.inl rfl) (C8.pe_c c__law_taken hr (by decide) rfl (pa_cons (pv 0) (pa_cons (pe_op op_add (pe_callB call_len_str (by rfl) G.len (by decide +kernel) (pa_cons (pv 1) pa_nil)) pe_int) pa_nil))))
          (pss_one (ps_ret (pe_op op_add_str (pe_op op_add_str (pe_slice sl_str (pv 1) po_none (po_some (pv 6))) (pe_ix ix_str pe_str (C8.pe_c c__law_taken hr (by decide) rfl (pa_cons (pv 0) (pa_cons pe_int pa_nil))) (fun _ _ => rfl))) (pe_slice sl_str (pv 1) (po_some (pv 6)) po_none)))))
        pss_nil)
      (pss_cons (ps_set (i := 7) sc__law_spoilt.nd rfl (Or.inl rfl) (pe_ix ix_list (pe_lst (pa_cons (pe_lst pa_nil) (pa_cons (pe_lst (pa_cons (pe_ix ix_list (pv 2) (pv 3) (fun _ _ => rfl)) (pa_cons (pe_ix ix_list (pv 2) (pv 3) (fun _ _ => rfl)) pa_nil))) (pa_cons (pe_lst (pa_cons (pv 4) pa_nil)) (pa_cons (pe_lst (pa_cons (pv 4) (pa_cons (pe_ix ix_list (pv 2) (pv 3) (fun _ _ => rfl)) pa_nil))) pa_nil))))) (pv 5) (fun _ _ => rfl)))
      (pss_one (ps_ret (pe_join pe_str (pe_op op_cat (pe_op op_cat (pe_slice sl_list (pv 2) po_none (po_some (pv 3))) (pv 7)) (pe_slice sl_list (pv 2) (po_some (pe_op op_add (pv 3) pe_int)) po_none))))))))))), ?_⟩
    refine ⟨_, rfl, ⟨z, rfl⟩, z, _, rfl, rfl, by decide +kernel, sz (by omega), fun wA nwA => ?_⟩
    have ew : Txt.split z (Str.ofString " ") = wordsT z := rfl
    rw [ew]
    have row1 := row.upd (o := .lst ((wordsT z).map V.str)) nwA
    have s1 : Same H (upd H wA (.lst ((wordsT z).map V.str))) := Same.new nwA
    have hwA : upd H wA (.lst ((wordsT z).map V.str)) wA = some (.lst ((wordsT z).map V.str)) := upd_same
    have nwr : wA ≠ r := fun e => by
      obtain ⟨l, x, e2⟩ := row.ne
      rw [e, e2] at nwA
      cases nwA
    generalize upd H wA (.lst ((wordsT z).map V.str)) = H1 at *
    refine ⟨_, rfl, _, rfl, wA, _, rfl, .inl (SqL.of hwA), r, a, ns, _, rfl, row1, by rw [List.length_map]; omega, by rw [List.length_map]; omega, fun k H2 k0 k1 row2 kk2 => ?_⟩
    rw [List.length_map] at k1
    have hwA2 := kk2 _ _ hwA (by simpa using nwr)
    have K2 : Keeps [r] H H2 := (Keeps.of_same s1).trans kk2
    refine ⟨sz (by simp), fun ol nol => ⟨_, rfl, r, a, ns, 14, rfl, row2.upd nol, by decide, by decide, fun v H3 v0 v1 row3 kk3 => ?_⟩⟩
    have nolr : ol ≠ r := fun e => by
      obtain ⟨l, x, e2⟩ := row2.ne
      rw [e, e2] at nol
      cases nol
    obtain ⟨odd, hodd, aodd, lodd⟩ := odds_at v0 v1
    refine ⟨ol, _, _, .str odd, rfl, rfl, SqL.of (kk3 _ _ upd_same (by simpa using nolr)), hodd, ?_⟩
    have hwA3 := kk3 _ _ ((Same.new nol) _ _ hwA2) (by simpa using nwr)
    have K3 : Keeps [r] H H3 := (K2.updNew (K2.free (by simpa using nolr) nol)).trans kk3
    refine ⟨_, rfl, r, a, ns, 5, rfl, row3, by decide, by decide, fun way H4 y0 y1 row4 kk4 => ?_⟩
    have hwA4 := kk4 _ _ hwA3 (by simpa using nwr)
    have K4 : Keeps [r] H H4 := K3.trans kk4
    clear kk2 kk3 kk4 row1 row2 row3 hwA2 hwA3 K2 K3
    refine ⟨_, rfl, rfl, _, rfl, ite2 (fun e4 => ?_) (fun e4 => ?_)⟩
    · refine ⟨_, rfl, _, rfl, z, rfl, sz (by omega), _, _, rfl, rfl, r, a, ns, _, rfl, row4, by omega, by omega, fun at_ H5 a0 a1 row5 kk5 => ?_⟩
      obtain ⟨ca, cl⟩ := asc_cut asc none (some at_)
      obtain ⟨da, dl⟩ := asc_cut asc (some at_) none
      refine ⟨_, rfl, _, rfl, _, rfl, z, rfl, sz (by omega), _, rfl, r, a, ns, 6, rfl, row5, by decide, by decide, fun v6 H6 v60 v61 row6 kk6 => ?_⟩
      obtain ⟨c, hc, c128⟩ := sign_at v60 v61
      have as : Asc ⟨#[c]⟩ := fun x hx => by
        have : x = c := by simpa using hx
        omega
      have l1 : (⟨#[c]⟩ : Str).length = 1 := rfl
      refine ⟨_, _, c, rfl, rfl, by decide, hc, _, _, rfl, rfl, sz (by omega), _, rfl, _, rfl, _, rfl, z, rfl, sz (by omega), _, _, rfl, rfl, sz (by rw [len_add]; omega), ?_⟩
      exact q _ _ ((ca.add as).add da) (by rw [len_add, len_add]; omega) row6 ((K4.trans kk5).trans kk6)
    · have way4 : way < 4 := by
        have : ¬ way = 4 := by simpa using e4
        omega
      obtain ⟨kn, rfl⟩ := Int.eq_ofNat_of_zero_le k0
      have hkn : kn < (wordsT z).length := by omega
      obtain ⟨wk, hwk, hwm⟩ : ∃ wk, (wordsT z)[kn]? = some wk ∧ wk ∈ wordsT z := ⟨_, List.getElem?_eq_getElem hkn, List.getElem_mem hkn⟩
      have hat : atI ((wordsT z).map V.str) (kn : Int) = some (.str wk) := atI_nat (by rw [List.getElem?_map, hwk]; rfl)
      obtain ⟨awk, lwk⟩ := wok wk hwm
      refine ⟨sz (by simp), fun l0 n0 => ?_⟩
      have t0 : Same H4 (upd H4 l0 (.lst [])) := Same.new n0
      have e0 : upd H4 l0 (.lst []) l0 = some (.lst (([] : List Str).map V.str)) := upd_same
      generalize upd H4 l0 (.lst []) = J0 at *
      refine ⟨_, rfl, _, rfl, wA, _, _, .str wk, rfl, rfl, SqL.of (t0 _ _ hwA4), hat, _, rfl, _, rfl, wA, _, _, .str wk, rfl, rfl, SqL.of (t0 _ _ hwA4), hat, sz (by simp), fun l1 n1 => ?_⟩
      have t1 : Same J0 (upd J0 l1 (.lst [.str wk, .str wk])) := Same.new n1
      have e1 : upd J0 l1 (.lst [.str wk, .str wk]) l1 = some (.lst ([wk, wk].map V.str)) := upd_same
      generalize upd J0 l1 (.lst [.str wk, .str wk]) = J1 at *
      refine ⟨_, rfl, sz (by simp), fun l2 n2 => ?_⟩
      have t2 : Same J1 (upd J1 l2 (.lst [.str odd])) := Same.new n2
      have e2 : upd J1 l2 (.lst [.str odd]) l2 = some (.lst ([odd].map V.str)) := upd_same
      generalize upd J1 l2 (.lst [.str odd]) = J2 at *
      refine ⟨_, rfl, _, rfl, _, rfl, wA, _, _, .str wk, rfl, rfl, SqL.of (t2 _ _ (t1 _ _ (t0 _ _ hwA4))), hat, sz (by simp), fun l3 n3 => ?_⟩
      have t3 : Same J2 (upd J2 l3 (.lst [.str odd, .str wk])) := Same.new n3
      have e3 : upd J2 l3 (.lst [.str odd, .str wk]) l3 = some (.lst ([odd, wk].map V.str)) := upd_same
      generalize upd J2 l3 (.lst [.str odd, .str wk]) = J3 at *
      refine ⟨sz (by simp), fun lo nlo => ?_⟩
      have t4 : Same J3 (upd J3 lo (.lst [.ref l0, .ref l1, .ref l2, .ref l3])) := Same.new nlo
      have elo : upd J3 lo (.lst [.ref l0, .ref l1, .ref l2, .ref l3]) lo = some (.lst [.ref l0, .ref l1, .ref l2, .ref l3]) := upd_same
      generalize upd J3 lo (.lst [.ref l0, .ref l1, .ref l2, .ref l3]) = J4 at *
      obtain ⟨lw, ls, hlw, hls, okl, ll⟩ : ∃ (lw : Addr) (ls : List Str), atI [V.ref l0, .ref l1, .ref l2, .ref l3] way = some (.ref lw) ∧ J4 lw = some (.lst (ls.map V.str)) ∧ (∀ y ∈ ls, Asc y ∧ y.length ≤ 12) ∧ ls.length ≤ 2 := by
        obtain rfl | rfl | rfl | rfl : way = 0 ∨ way = 1 ∨ way = 2 ∨ way = 3 := by omega
        · exact ⟨l0, [], rfl, t4 _ _ (t3 _ _ (t2 _ _ (t1 _ _ e0))), by simp, by simp⟩
        · exact ⟨l1, [wk, wk], rfl, t4 _ _ (t3 _ _ (t2 _ _ e1)), by
            intro y hy
            simp only [List.mem_cons, List.not_mem_nil, or_false, or_self] at hy
            rw [hy]
            exact ⟨awk, lwk⟩, by simp⟩
        · exact ⟨l2, [odd], rfl, t4 _ _ (t3 _ _ e2), by
            intro y hy
            rw [List.mem_singleton.mp hy]
            exact ⟨aodd, by omega⟩, by simp⟩
        · exact ⟨l3, [odd, wk], rfl, t4 _ _ e3, by
            intro y hy
            simp only [List.mem_cons, List.not_mem_nil, or_false] at hy
            rcases hy with rfl | rfl
            · exact ⟨aodd, by omega⟩
            · exact ⟨awk, lwk⟩, by simp⟩
      refine ⟨_, rfl, lo, _, _, .ref lw, rfl, rfl, SqL.of elo, hlw, ?_⟩
      have t04 := (((t0.trans t1).trans t2).trans t3).trans t4
      have hwA5 := t04 _ _ hwA4
      refine ⟨⟨_, rfl⟩, _, rfl, _, rfl, _, rfl, wA, _, rfl, SqL.of hwA5, fun p1 np1 => ?_⟩
      obtain ⟨ys1, ey1, my1, ly1⟩ := cut_strs (wordsT z) none (some (kn : Int))
      rw [ey1]
      have t5 : Same J4 (upd J4 p1 (.lst (ys1.map V.str))) := Same.new np1
      have e5 : upd J4 p1 (.lst (ys1.map V.str)) p1 = some (.lst (ys1.map V.str)) := upd_same
      generalize upd J4 p1 (.lst (ys1.map V.str)) = J5 at *
      refine ⟨_, rfl, p1, lw, _, _, rfl, rfl, e5, t5 _ _ hls, sz (by rw [List.length_map, List.length_map]; omega), fun p2 np2 => ?_⟩
      have t6 : Same J5 (upd J5 p2 (.lst (ys1.map V.str ++ ls.map V.str))) := Same.new np2
      have e6 : upd J5 p2 (.lst (ys1.map V.str ++ ls.map V.str)) p2 = some (.lst (ys1.map V.str ++ ls.map V.str)) := upd_same
      generalize upd J5 p2 (.lst (ys1.map V.str ++ ls.map V.str)) = J6 at *
      refine ⟨_, rfl, _, rfl, _, _, rfl, rfl, _, rfl, wA, _, rfl, SqL.of (t6 _ _ (t5 _ _ hwA5)), fun p3 np3 => ?_⟩
      obtain ⟨ys2, ey2, my2, ly2⟩ := cut_strs (wordsT z) (some ((kn : Int) + 1)) none
      rw [ey2]
      have t7 : Same J6 (upd J6 p3 (.lst (ys2.map V.str))) := Same.new np3
      have e7 : upd J6 p3 (.lst (ys2.map V.str)) p3 = some (.lst (ys2.map V.str)) := upd_same
      generalize upd J6 p3 (.lst (ys2.map V.str)) = J7 at *
      refine ⟨p2, p3, _, _, rfl, rfl, t7 _ _ e6, e7, sz (by rw [List.length_append, List.length_map, List.length_map, List.length_map]; omega), fun p4 np4 => ?_⟩
      have all : ∀ y ∈ ys1 ++ ls ++ ys2, Asc y ∧ y.length ≤ 12 := fun y hy => by
        rcases List.mem_append.mp hy with h | h
        · rcases List.mem_append.mp h with h | h
          · exact wok y (my1 y h)
          · exact okl y h
        · exact wok y (my2 y h)
      have len : (ys1 ++ ls ++ ys2).length ≤ 30 := by rw [List.length_append, List.length_append]; omega
      have t8 : Same J7 (upd J7 p4 (.lst (ys1.map V.str ++ ls.map V.str ++ ys2.map V.str))) := Same.new np4
      have e8 : upd J7 p4 (.lst (ys1.map V.str ++ ls.map V.str ++ ys2.map V.str)) p4 = some (.lst ((ys1 ++ ls ++ ys2).map V.str)) := by rw [upd_same, List.map_append, List.map_append]
      generalize upd J7 p4 (.lst (ys1.map V.str ++ ls.map V.str ++ ys2.map V.str)) = J8 at *
      have hsum : ∀ (l : List Str), (∀ y ∈ l, y.length ≤ 12) → (l.map (·.length)).sum ≤ 12 * l.length := by
        intro l
        induction l with
        | nil => intro _; simp
        | cons y l ih =>
          intro h
          rw [List.map_cons, List.sum_cons, List.length_cons]
          have h1 := h y (by simp)
          have h2 := ih fun u hu => h u (List.mem_cons_of_mem _ hu)
          omega
      have sepl : (Str.ofString " ").length = 1 := by decide +kernel
      refine ⟨_, p4, ys1 ++ ls ++ ys2, rfl, rfl, .inl (SqL.of e8), ?_, ?_⟩
      · have := hsum _ fun y hy => (all y hy).2
        show _ + _ * (Str.ofString " ").length ≤ _
        rw [sepl]
        omega
      · rw [TL.join_eq]
        refine q _ _ (asc_join (asc_dec (by decide +kernel)) fun y hy => (all y hy).1) ?_ (row4.same (((t04.trans t5).trans (t6.trans t7)).trans t8)) (K4.trans (.of_same (((t04.trans t5).trans (t6.trans t7)).trans t8)))
        have := len_join (sep := Str.ofString " ") (B := 12) (l := ys1 ++ ls ++ ys2) fun y hy => (all y hy).2
        rw [sepl] at this
        have h30 : (ys1 ++ ls ++ ys2).length * (12 + 1) ≤ 30 * 13 := Nat.mul_le_mul len (Nat.le_refl _)
        exact Nat.le_trans this (by omega)
end
end IC
namespace IC
open PySem L2
theorem rows_ok {kns : List Kn} (ok : ∀ k ∈ kns, KnOk k) : ∀ n, n ≤ kns.length → ∀ d ∈ rowsTo kns n, ∀ v ∈ d, okV v = true
  | 0, _, d, hd => nomatch hd
  | n + 1, h, d, hd => by
    rcases List.mem_append.mp (show d ∈ rowsTo kns n ++ rowsB n (kns.getD n []) from hd) with z | z
    · exact rows_ok ok n (by omega) d z
    · obtain ⟨m, hm, rfl⟩ := List.mem_map.mp z
      have ko := ok _ (getD_mem (show n < kns.length by omega)).2
      have hm' : m ∈ (kns.getD n []).map (·.1) := (List.mergeSort_perm ..).mem_iff.mp hm
      obtain ⟨y, hy, wy⟩ := ko.look hm'
      intro v hv
      rw [hy] at hv
      simp only [List.mem_cons, List.not_mem_nil, or_false] at hv
      rcases hv with rfl | rfl | rfl
      · rfl
      · rfl
      · rcases wy with wy | wy <;> rw [wy] <;> decide +kernel
theorem rows_len3 {kns : List Kn} : ∀ n, ∀ d ∈ rowsTo kns n, d.length ≤ 100000
  | 0, d, hd => nomatch hd
  | n + 1, d, hd => by
    rcases List.mem_append.mp (show d ∈ rowsTo kns n ++ rowsB n (kns.getD n []) from hd) with z | z
    · exact rows_len3 n d z
    · obtain ⟨m, hm, rfl⟩ := List.mem_map.mp z
      show 3 ≤ 100000
      omega
theorem ok_asc {z : Str} (h : Asc z) : okV (.str z) = true := by
  show PyData.strOk z = true
  unfold PyData.strOk
  rw [Array.all_eq_true']
  intro c hc
  have := h c (by simpa using hc)
  simp only [decide_eq_true_eq]
  omega
theorem ans_ok (h : Hs) (a : Str) : okV (.str (ansH h a).1) = true := by
  have told : ∀ h', okV (.str (toldH h')) = true := fun h' => by
    unfold toldH
    split <;> decide +kernel
  unfold ansH
  split
  · split
    · exact told _
    · show okV (.str "BadTime") = true
      decide +kernel
  · split
    · exact told _
    · show okV (.str "BadRow") = true
      decide +kernel
  · show okV (.str "BadText") = true
    decide +kernel
theorem ansL_ok : ∀ (l : List Str) (h : Hs), ∀ v ∈ (ansL h l).1.map V.str, okV v = true
  | [], h, v, hv => nomatch hv
  | a :: l, h, v, hv => by
    rw [ansL, List.map_cons] at hv
    rcases List.mem_cons.mp hv with e | e
    · rw [e]
      exact ans_ok h a
    · exact ansL_ok l _ v e
theorem eqv_flats {vs : List V} (h : ∀ v ∈ vs, okV v = true) : PyData.eqv (.list (vs.map fdat)) (.list (vs.map fdat)) = true := SeqAt.eqv_refl _ (by
  have e := shaped_flats h
  unfold SeqAt.shaped at e
  exact (Bool.and_eq_true _ _ ▸ e).1)
theorem RowAt.updD {K : PySem.W.Frag} {H : Hp} {r a p : Addr} {ns : List Int} {kv : List (Key × V)} {o : HO} (h : RowAt K H r a ns) (hp : H p = some (.dK kv)) : RowAt K (L2.upd H p o) r a ns := by
  obtain ⟨i, m, x, e, hi, hs⟩ := h
  exact ⟨i, m, x, by rw [upd_ne (ne_of e hp (by intro z; cases z))]; exact e, hi, sq_updD hs hp⟩
/-- a deed's words -/
def partS : V → Str
  | .int i => toString i
  | .str z => z
  | _ => ""
def textD (d : Deed) : Str := Str.join " " (d.vs.map partS)
theorem int_str {i : Int} (h0 : 0 ≤ i) (h1 : i < 100) : Asc (Str.ofString (toString i)) ∧ (Str.ofString (toString i)).length ≤ 2 := by
  obtain ⟨j, rfl⟩ := Int.eq_ofNat_of_zero_le h0
  have := List.all_eq_true.mp strN_dig j (List.mem_range.mpr (by omega))
  unfold digW at this
  rw [Bool.and_eq_true, Bool.and_eq_true, decide_eq_true_eq, decide_eq_true_eq] at this
  refine ⟨fun c hc => ?_, this.1.2⟩
  have := fig_iff.mp (List.all_eq_true.mp this.2 c hc)
  omega
theorem wd_str {z : Str} (h : Wd z) : Asc z ∧ z.length ≤ 3 := by
  rcases h with rfl | rfl
  · exact ⟨asc_dec (by decide +kernel), by decide +kernel⟩
  · exact ⟨asc_dec (by decide +kernel), by decide +kernel⟩
theorem text_ok {n : Nat} {late : Int} {d : Deed} (hn : n ≤ 6) (o : DOk n late d) (t : d.time ≤ 40) : Asc (textD d) ∧ (textD d).length ≤ 12 := by
  have sa : Asc (Str.ofString " ") := asc_dec (by decide +kernel)
  have sl : (Str.ofString " ").length = 1 := by decide +kernel
  cases d with
  | tk i =>
    have h1 : (1 : Int) ≤ i := o
    have h2 : i ≤ 40 := t
    obtain ⟨a1, l1⟩ := int_str (i := i) (by omega) (by omega)
    exact ⟨a1, Nat.le_trans l1 (by decide)⟩
  | cm i b m z =>
    obtain ⟨h1, h2, h3, h4, h5⟩ := o
    have h6 : i ≤ 40 := t
    obtain ⟨a1, l1⟩ := int_str (i := i) (by omega) (by omega)
    obtain ⟨a2, l2⟩ := int_str (i := (b : Int)) (by omega) (by omega)
    obtain ⟨a3, l3⟩ := int_str (i := m) (by omega) (by omega)
    obtain ⟨a4, l4⟩ := wd_str h5
    have e : textD (.cm i b m z) = Str.ofString (toString i) ++ Str.ofString " " ++ (Str.ofString (toString (b : Int)) ++ Str.ofString " " ++ (Str.ofString (toString m) ++ Str.ofString " " ++ z)) := rfl
    rw [e]
    refine ⟨(a1.add sa).add ((a2.add sa).add ((a3.add sa).add a4)), ?_⟩
    rw [len_add, len_add, len_add, len_add, len_add, len_add, sl]
    omega
theorem ms_new {m : Ms} {n : Nat} (mt : m.time = 0) (mk : m.kns = List.replicate n []) : ({ m with brk := some false } : Ms) = msOf (newHs n m.late m.lost) := by
  obtain ⟨la, lo, ti, kn, br⟩ := m
  subst mt
  subst mk
  rfl
/-- lists are kept where rows come -/
theorem keep_dict {H H' : Hp} {q0 L : Addr} {ds : List Addr} {m : Ms} (ma : MAt H q0 L ds m) (k : Keeps (q0 :: ds) H H') {p : Addr} {o : HO} (h : H p = some o) (no : ∀ kv, o ≠ .dK kv) : H' p = some o := by
  refine k _ _ h ?_
  simp only [List.mem_cons, not_or]
  refine ⟨fun z => ?_, fun z => ?_⟩
  · have := ma.ob
    rw [← z, h] at this
    injection this with e
    exact no _ e
  · obtain ⟨kv, e⟩ := ma.kn.mem z
    rw [h] at e
    injection e with e
    exact no _ e
section
variable {P : Program} {w : World} {K : PySem.W.Frag} {mg : Str → Option Value} {base : Heap} {dI C : Addr}
structure GlbH (K : PySem.W.Frag) (mg : Str → Option Value) (C : Addr) : Prop where
  House : ∃ u, mg "House" = some u ∧ RelV (.ref C) u
  a1 : PySem.W.findIn K (.ref C) "__class__" = some (some (.builtin "object.__class__"))
  a2 : PySem.W.specialIn K (.builtin "object.__class__") "__get__" = some (some (.builtin "getset_descriptor.__get__"))
  a3 : PySem.W.takesIn K (.builtin "object.__class__") = some true
  a4 : PySem.W.mroIn K C (.type "object") = some true
  a5 : PySem.W.kitOne K (.ref C) (.ref C) = some true
def sp_law (K : PySem.W.Frag) : Sp := fun vs H Q _ => ∃ (a : Addr) (ns : List Int), vs = [.ref a] ∧ SqL K H a (ns.map V.int) ∧ ns.length ≤ 63 ∧ ∀ H', Q (.bl true) H'
theorem sc_law : FnScope ["_law_script", "_law_row", "_law_m", "_law_many", "_law_book", "_law_deed", "_law_text", "_law_part", "_law_handed", "_law_answers", "_law_house", "_law_due_here", "_law_found", "_law_badge", "_law_moment", "_law_none"] ["_law_script"] (defScope s_law) := ⟨rfl, rfl, rfl, by decide +kernel, rfl, by decide +kernel, by decide +kernel⟩
theorem ok_law {f : Addr} {fd : FuncData} (F : Fun K "law" "law" s_law f fd) (G : Glb K w mg dI) (TX : HTxt K C) (GX : GlbH K mg C) (c__law_taken : C8.Cal P w K mg base 1 "_law_taken" (sp_taken K) []) (c__law_fresh : C8.Cal P w K mg base 2 "_law_fresh" (sp_fresh K) [])
    (c__law_deeds : C8.Cal P w K mg base 2 "_law_deeds" (sp_deeds K) []) (c__law_spoilt : C8.Cal P w K mg base 2 "_law_spoilt" (sp_spoilt K) []) (c_played : C8.Cal P w K mg base 7 "played" (sp_played K C) []) (c__law_due : C8.Cal P w K mg base 3 "_law_due" sp_due [])
    (c__law_refused : C8.Cal P w K mg base 8 "_law_refused" sp_refused11 []) (c_rows : C8.Met P w K mg base 1 C "rows" (sp_rows C) []) (c_time : C8.Met P w K mg base 1 C "time" (sp_time C) []) (c_broken : C8.Met P w K mg base 1 C "broken" (sp_broken C) []) (c__law_alike : C8.Cal P w K mg base 4 "_law_alike" (sp_alike 3) []) : FnOk P w K mg base CX0 9 f fd ["_law_script"] (sp_law K) := by
  refine F.ok sc_law (fun vs H Q E h => ?_) (fun cdv A outer s H vs Q E hr h => ?_)
  · obtain ⟨a, ns, rfl, _⟩ := h
    rfl
  · obtain ⟨a, ns, rfl, hS, hlen, q⟩ := h
    have hu := hu_of hr
    refine ⟨_, (pss_cons (ps_set (i := 1) sc_law.nd rfl (Or.inl rfl) (pe_lst (pa_cons (pv 0) (pa_cons pe_int (pa_cons pe_int (pa_cons pe_int pa_nil))))))
      (pss_cons (ps_set (i := 2) sc_law.nd rfl (Or.inr rfl) (C8.pe_c c__law_fresh hr (by decide) rfl (pa_cons (pv 1) (pa_cons pe_int pa_nil))))
      (pss_cons (ps_dput hu (pv 2) pe_str pe_bl rfl)
      (pss_cons (ps_set (i := 3) sc_law.nd rfl (Or.inl rfl) (pe_callB call_len_seq (by rfl) G.len (by decide +kernel) (pa_cons (pe_dget hu (pv 2) pe_str (fun _ _ => rfl)) pa_nil)))
      (pss_cons (ps_set (i := 4) sc_law.nd rfl (Or.inl rfl) (pe_lst pa_nil))
      (pss_cons (ps_for PassesOwn.never rfl (pi_list (C8.pe_c c__law_deeds hr (by decide) rfl (pa_cons (pv 1) (pa_cons (pv 2) (pa_cons pe_int pa_nil))))) (pg_name (i := 5) sc_law.nd rfl (Or.inl rfl))
        (pss_cons (ps_set (i := 6) sc_law.nd rfl (Or.inl rfl) (pe_join pe_str (pe_lc (own := [("_law_part", 7)]) (g := gName 7) (tt := tYes) rfl sc_law.nd (pi_tup (pv 5)) (blkOk_by (own := [("_law_part", 7)]) (N := ["_law_script", "_law_row", "_law_m", "_law_many", "_law_book", "_law_deed", "_law_text", "_law_part", "_law_handed", "_law_answers", "_law_house", "_law_due_here", "_law_found", "_law_badge", "_law_moment", "_law_none"]) (sc := defScope s_law) (by decide +kernel)) (fun _ _ _ _ _ => (pg_name (i := 7) sc_law.nd rfl (Or.inl rfl))) (fun _ _ _ _ _ => pts_nil) (fun _ _ _ _ _ => (pe_callTy call_str_any (by rfl) G.str (by decide +kernel) (pa_cons (pv 7) pa_nil))))))
          (pss_one (ps_expr (pe_bm PySem.F.plainAttrs_list PySem.F.slot_list_append PySem.F.type_list_append mt_append (pv 4) (pa_cons (pe_ix ix_list (pe_lst (pa_cons (pv 6) (pa_cons (pv 6) (pa_cons (pv 6) (pa_cons (C8.pe_c c__law_spoilt hr (by decide) rfl (pa_cons (pv 1) (pa_cons (pv 6) pa_nil))) pa_nil))))) (C8.pe_c c__law_taken hr (by decide) rfl (pa_cons (pv 1) (pa_cons pe_int pa_nil))) (fun _ _ => rfl)) pa_nil))))))
      (pss_cons (ps_set (i := 8) sc_law.nd rfl (Or.inl rfl) (pe_callTy call_list_of (by rfl) G.list (by decide +kernel) (pa_cons (pv 4) pa_nil)))
      (pss_cons (ps_asg (C8.pe_c c_played hr (by decide) rfl (pa_cons (pv 3) (pa_cons (pe_dget hu (pv 2) pe_str (fun _ _ => rfl)) (pa_cons (pe_dget hu (pv 2) pe_str (fun _ _ => rfl)) (pa_cons (pv 8) pa_nil))))) (pg_tup rfl (pgs_cons (pg_name (i := 9) sc_law.nd rfl (Or.inl rfl)) (pgs_cons (pg_name (i := 10) sc_law.nd rfl (Or.inl rfl)) pgs_nil))))
      (pss_cons (ps_setLc (i := 11) (own := [("_law_text", 6)]) (g := gName 6) (tt := tYes) rfl sc_law.nd rfl rfl (sw_true rfl rfl rfl (by decide +kernel)) (pi_list (pv 4)) (blkOk_by (own := [("_law_text", 6)]) (N := ["_law_script", "_law_row", "_law_m", "_law_many", "_law_book", "_law_deed", "_law_text", "_law_part", "_law_handed", "_law_answers", "_law_house", "_law_due_here", "_law_found", "_law_badge", "_law_moment", "_law_none"]) (sc := defScope s_law) (by decide +kernel)) (fun _ _ _ _ _ => (pg_name (i := 6) sc_law.nd rfl (Or.inl rfl))) (fun _ _ _ _ _ => pts_nil) (fun _ _ _ _ _ => (C8.pe_c c__law_due hr (by decide) rfl (pa_cons (pv 2) (pa_cons (pv 6) pa_nil)))))
      (pss_cons (ps_if (PW.pt (pw_or (pt_not (pt_val (C8.pe_c c__law_alike hr (by decide) rfl (pa_cons (pv 9) (pa_cons (pv 11) pa_nil))))) (pw_or (pt_cmpR (op_neD hr.units) (pv 8) (pv 4) (nomark _)) (pw_or1 (pt_not (pt_val (pe_callB call_isi (by rfl) G.isinstance (by decide +kernel) (pa_cons (pv 10) (pa_cons (C8.pe_gc rfl GX.House) pa_nil)))))))))
        (pss_one (ps_ret pe_bl))
        pss_nil)
      (pss_cons (ps_set (i := 12) sc_law.nd rfl (Or.inl rfl) (pe_lst pa_nil))
      (pss_cons (ps_for PassesOwn.never rfl (pi_range1 rfl G.range (pa_cons (pv 3) pa_nil)) (pg_name (i := 13) sc_law.nd rfl (Or.inr rfl))
        (pss_one (ps_expr (pe_bm PySem.F.plainAttrs_list PySem.F.slot_list_extend PySem.F.type_list_extend mt_extend (pv 12) (pa_cons (pe_lc (own := [("_law_moment", 14)]) (g := gName 14) (tt := tYes) rfl sc_law.nd (pi_list (pe_callB (call_sortedDI rfl) (by rfl) G.sorted (by decide +kernel) (pa_cons (pe_ix ix_list (pe_dget hu (pv 2) pe_str (fun _ _ => rfl)) (pv 13) (fun _ _ => rfl)) pa_nil))) (blkOk_by (own := [("_law_moment", 14)]) (N := ["_law_script", "_law_row", "_law_m", "_law_many", "_law_book", "_law_deed", "_law_text", "_law_part", "_law_handed", "_law_answers", "_law_house", "_law_due_here", "_law_found", "_law_badge", "_law_moment", "_law_none"]) (sc := defScope s_law) (by decide +kernel)) (fun _ _ _ _ _ => (pg_name (i := 14) sc_law.nd rfl (Or.inl rfl))) (fun _ _ _ _ _ => pts_nil) (fun _ _ _ _ _ => (pe_tup (pa_cons (pv 13) (pa_cons (pv 14) (pa_cons (pe_dget hu (pe_ix (ix_listK (K := K)) (pe_dget hu (pv 2) pe_str (fun _ _ => rfl)) (pv 13) (fun _ _ => rfl)) (pv 14) (fun _ _ => rfl)) pa_nil)))))) pa_nil)))))
      (pss_cons (ps_if (PW.pt (pw_or (pt_not (pt_val (C8.pe_c c__law_alike hr (by decide) rfl (pa_cons (pe_lst (pa_cons (C8.pe_mt0 c_time hr (by decide) (pv 10)) (pa_cons (C8.pe_mt0 c_rows hr (by decide) (pv 10)) pa_nil))) (pa_cons (pe_lst (pa_cons (pe_dget hu (pv 2) pe_str (fun _ _ => rfl)) (pa_cons (pv 12) pa_nil))) pa_nil))))) (pw_or1 (pt_cmpR op_ne (pe_cmpR op_notN (C8.pe_mt0 c_broken hr (by decide) (pv 10)) pe_non (nomark _)) (pe_dget hu (pv 2) pe_str (fun _ _ => rfl)) (nomark _)))))
        (pss_one (ps_ret pe_bl))
        pss_nil)
      (pss_cons (ps_set (i := 15) sc_law.nd rfl (Or.inl rfl) (pe_ix ix_list (pe_lst (pa_cons (pe_tup (pa_cons pe_int (pa_cons pe_int (pa_cons pe_int pa_nil)))) (pa_cons (pe_tup (pa_cons pe_int (pa_cons pe_int (pa_cons pe_int pa_nil)))) (pa_cons (pe_tup (pa_cons pe_int (pa_cons pe_int (pa_cons pe_int pa_nil)))) (pa_cons (pe_tup (pa_cons pe_int (pa_cons pe_int (pa_cons pe_int pa_nil)))) pa_nil))))) (C8.pe_c c__law_taken hr (by decide) rfl (pa_cons (pv 1) (pa_cons pe_int pa_nil))) (fun _ _ => rfl)))
      (pss_one (ps_ret (C8.pe_c c__law_refused hr (by decide) rfl (pa_cons (pe_ix ix_tup (pv 15) pe_int (fun _ _ => rfl)) (pa_cons (pe_ix ix_tup (pv 15) pe_int (fun _ _ => rfl)) (pa_cons (pe_ix ix_tup (pv 15) pe_int (fun _ _ => rfl)) pa_nil)))))))))))))))))))), ?_⟩
    refine ⟨_, rfl, sz (by simp), fun r nr => ?_⟩
    have row0 : RowAt K (upd H r (.lst [.ref a, .int 0, .int 0, .int 0])) r a ns := ⟨0, 0, 0, upd_same, by decide, (Same.new nr).seq hS⟩
    generalize upd H r (.lst [.ref a, .int 0, .int 0, .int 0]) = H0 at *
    -- m = fresh(row, 6)
    refine ⟨_, rfl, r, a, ns, 6, rfl, row0, by decide, by decide, fun q0 L' ds' m n H3 mt mk n1 n6 la0 la9 lo0 lo6 ma3 row3 k3 nq nL' nds' => ?_⟩
    have nL'r : L' ≠ r := fun z => by
      obtain ⟨l, y, e⟩ := row0.ne
      rw [z, e] at nL'
      cases nL'
    have mlen : m.kns.length = n := by rw [mk, List.length_replicate]
    have dlen : ds'.length = n := by rw [ma3.kn.len, mlen]
    have n6' : n ≤ 6 := by omega
    -- m["broken"] = False
    refine ⟨_, rfl, q0, _, rfl, DPut.k (k := Sum.inr ("broken" : Str)) ma3.ob (by exact mp_few L' _), ?_⟩
    rw [mp_brk]
    obtain ⟨ma4, k4⟩ := ma3.putBrk { m with brk := some false } rfl
    have row4 := row3.updD (o := .dK (mPairs L' { m with brk := some false })) ma3.ob
    rw [ms_new mt mk] at ma4 k4 row4 ⊢
    generalize upd H3 q0 _ = H4 at *
    obtain ⟨late, elate⟩ : ∃ x, x = m.late := ⟨_, rfl⟩
    obtain ⟨lost, elost⟩ : ∃ x, x = m.lost := ⟨_, rfl⟩
    rw [← elate] at la0 la9 ma4
    rw [← elost] at lo0 lo6 ma4
    clear k4 ma3 row3 k3
    obtain ⟨h0, eh0⟩ : ∃ x, x = newHs n late lost := ⟨_, rfl⟩
    rw [← eh0] at ma4
    have lk0 : (msOf h0).kns.length = n := by rw [eh0]; exact List.length_replicate
    have ll0 : (msOf h0).late = late := by rw [eh0]; rfl
    have lo0' : (msOf h0).lost = lost := by rw [eh0]; rfl
    refine ⟨_, rfl, q0, _, rfl, ma4.g_known, L', _, rfl, .inl (SqL.of ma4.kn.lst), ?_⟩
    rw [List.length_map, dlen]
    refine ⟨sz (by simp), fun bk nbk => ?_⟩
    have row5 := row4.upd (o := .lst []) nbk
    have ma5 := ma4.same (Same.new (o := .lst []) nbk)
    have hbk5 : upd H4 bk (.lst []) bk = some (.lst (([] : List Str).map V.str)) := upd_same
    have nbkr : bk ≠ r := fun z => by
      obtain ⟨l, y, e⟩ := row4.ne
      rw [z, e] at nbk
      cases nbk
    have hab : a ≠ bk ∨ ∀ H', SqL K H' a (ns.map V.int) := by
      obtain ⟨i, m, x, e, hi, hs⟩ := row4
      rcases hs with (h | ⟨u, h⟩) | h
      · exact .inl (ne_of_none h nbk)
      · exact .inl (ne_of_none h nbk)
      · exact .inr fun H' => .inr h
    have nL'bk : L' ≠ bk := ne_of_none ma4.kn.lst nbk
    generalize upd H4 bk (.lst []) = H5 at *
    -- the book
    refine ⟨_, rfl, _, rfl, r, a, ns, q0, L', ds', msOf h0, 40, rfl, row5, ma5, nL'r, by rw [ll0]; exact la0, by rw [ll0]; exact la9, by decide, by decide, fun pD xsD fl H6 dok npD hpD txD row6 k6 => ⟨pD, rfl, ⟨_, SqL.of hpD⟩, ?_⟩⟩
    rw [lk0, ll0] at dok
    have npDr : pD ≠ r := fun z => by
      obtain ⟨l, y, e⟩ := row5.ne
      rw [z, e] at npD
      cases npD
    have npDb : pD ≠ bk := fun z => by
      rw [z, hbk5] at npD
      cases npD
    have mrow : ∀ {H1 H2 : Hp} {x : Addr}, MAt H1 q0 L' ds' (msOf h0) → (∃ l, H1 x = some (.lst l)) → L' ≠ x → Keeps [x] H1 H2 → MAt H2 q0 L' ds' (msOf h0) := fun {H1 H2 x} ma ⟨l, e⟩ nL k => by
      refine ma.keeps k ?_ (by simpa using nL) fun d hd z => ?_
      · intro z
        have := ma.ob
        rw [List.mem_singleton.mp z, e] at this
        cases this
      · obtain ⟨kv, e2⟩ := ma.kn.mem hd
        rw [List.mem_singleton.mp z, e] at e2
        cases e2
    have ma6 := mrow ma5 (let ⟨l, x, e⟩ := row5.ne; ⟨_, e⟩) nL'r k6
    have hbk6 := k6 _ _ hbk5 (by simpa using nbkr)
    have hfl := dok.len
    have hxl : xsD.length = fl.length := by have := txD.length; rw [List.length_map] at this; exact this
    refine for_list (K := K) (a := pD) (xs := xsD) (fun i σ H' => ∃ (o5 o6 o7 : Option V) (ts : List Str), σ = [some (.ref a), some (.ref r), some (.ref q0), some (.int (n : Int)), some (.ref bk), o5, o6, o7, none, none, none, none, none, none, none, none] ∧
        MAt H' q0 L' ds' (msOf h0) ∧ RowAt K H' r a ns ∧ H' bk = some (.lst (ts.map V.str)) ∧ ts.length = i ∧ (∀ z ∈ ts, Asc z ∧ z.length ≤ 600) ∧ H' pD = some (.lst xsD) ∧ TupsAt H' xsD (fl.map Deed.vs))
      ⟨none, none, none, [], rfl, ma6, row6, hbk6, rfl, (fun _ h => nomatch h), hpD, txD⟩ (fun i σ H' _ ⟨_, _, _, _, _, _, _, _, _, _, e, _⟩ => SqL.of e) ?_ ?_
    · rintro i v σ H' hi ⟨o5, o6, o7, ts, rfl, ma', row', hbk', tl, hts, hpD', txD'⟩
      obtain ⟨d, hd, c, rfl, hc⟩ := Paired.getL txD' hi
      rw [List.getElem?_map] at hd
      obtain ⟨e, he, rfl⟩ := Option.map_eq_some_iff.mp hd
      have il : i < fl.length := (List.getElem?_eq_some_iff.mp he).1
      obtain ⟨od, ot⟩ := dok.ok e (List.mem_of_getElem? he)
      obtain ⟨ta, tl12⟩ := text_ok n6' od ot
      refine ⟨⟨_, rfl⟩, _, rfl, c, rfl, ⟨_, SqT.of hc⟩, fun D nD => ?_⟩
      refine lc_tup (K := K) (a := c) (xs := e.vs) (fun j H2 => Same H' H2 ∧ H2 D = some (.lst (((e.vs.take j).map partS).map V.str))) ⟨Same.new nD, upd_same⟩ (fun j H2 _ ⟨s2, _⟩ => SqT.of (s2 _ _ hc)) ?_ ?_
      · rintro j x H2 hj ⟨s2, hD⟩
        have etk : e.vs.take (j + 1) = e.vs.take j ++ [x] := by rw [List.take_succ, hj]; rfl
        have vl : e.vs.length ≤ 4 := by cases e <;> simp [Deed.vs]
        have jl : j < e.vs.length := (List.getElem?_eq_some_iff.mp hj).1
        have nxt : ∃ acc, H2 D = some (.lst acc) ∧ acc.length < sizeLine ∧ (Same H' (upd H2 D (.lst (acc ++ [.str (partS x)]))) ∧ upd H2 D (.lst (acc ++ [.str (partS x)])) D = some (.lst (((e.vs.take (j + 1)).map partS).map V.str))) := by
          refine ⟨_, hD, szl (by rw [List.length_map, List.length_map, List.length_take]; omega), Same.mut s2 nD, ?_⟩
          rw [upd_same, etk, List.map_append, List.map_append]
          rfl
        refine ⟨rfl, ?_⟩
        have hx : (∃ i : Int, x = .int i ∧ 0 ≤ i ∧ i < 100) ∨ ∃ z : Str, x = .str z := by
          have hm := List.mem_of_getElem? hj
          cases e with
          | tk t =>
            have h1 : (1 : Int) ≤ t := od
            have h2 : t ≤ 40 := ot
            exact .inl ⟨t, List.mem_singleton.mp hm, by omega, by omega⟩
          | cm t b m z =>
            obtain ⟨g1, g2, g3, g4, g5⟩ := od
            have g6 : t ≤ 40 := ot
            have hm' : x ∈ [V.int t, .int b, .int m, .str z] := hm
            simp only [List.mem_cons, List.not_mem_nil, or_false] at hm'
            rcases hm' with rfl | rfl | rfl | rfl
            · exact .inl ⟨_, rfl, by omega, by omega⟩
            · exact .inl ⟨_, rfl, by omega, by omega⟩
            · exact .inl ⟨_, rfl, by omega, by omega⟩
            · exact .inr ⟨_, rfl⟩
        rcases hx with ⟨y, rfl, y0, y1⟩ | ⟨z, rfl⟩
        · refine ⟨_, rfl, .inl ⟨y, rfl, ?_, nxt⟩⟩
          exact Nat.lt_of_le_of_lt (Nat.log2_le_self _) (by omega)
        · exact ⟨_, rfl, .inr ⟨z, rfl, nxt⟩⟩
      · rintro H2 ⟨s2, hD⟩
        rw [List.take_length] at hD
        have vl : e.vs.length ≤ 4 := by cases e <;> simp [Deed.vs]
        have lens : ∀ y ∈ e.vs.map partS, y.length ≤ 3 := by
          intro y hy
          obtain ⟨u, hu, rfl⟩ := List.mem_map.mp hy
          cases e with
          | tk t =>
            have h1 : (1 : Int) ≤ t := od
            have h2 : t ≤ 40 := ot
            rw [List.mem_singleton.mp hu]
            exact Nat.le_trans (int_str (i := t) (by omega) (by omega)).2 (by decide)
          | cm t b m z =>
            obtain ⟨g1, g2, g3, g4, g5⟩ := od
            have g6 : t ≤ 40 := ot
            have hm' : u ∈ [V.int t, .int b, .int m, .str z] := hu
            simp only [List.mem_cons, List.not_mem_nil, or_false] at hm'
            rcases hm' with rfl | rfl | rfl | rfl
            · exact Nat.le_trans (int_str (i := t) (by omega) (by omega)).2 (by decide)
            · exact Nat.le_trans (int_str (i := (b : Int)) (by omega) (by omega)).2 (by decide)
            · exact Nat.le_trans (int_str (i := m) (by omega) (by omega)).2 (by decide)
            · exact (wd_str g5).2
        have hsum : ∀ (l : List Str), (∀ y ∈ l, y.length ≤ 3) → (l.map (·.length)).sum ≤ 3 * l.length := by
          intro l
          induction l with
          | nil => intro _; simp
          | cons y l ih =>
            intro h
            rw [List.map_cons, List.sum_cons, List.length_cons]
            have h1 := h y (by simp)
            have h2 := ih fun u hu => h u (List.mem_cons_of_mem _ hu)
            omega
        refine ⟨_, D, e.vs.map partS, rfl, rfl, .inl (SqL.of hD), ?_, ?_⟩
        · have := hsum _ lens
          rw [List.length_map] at this
          have sl : (Str.ofString " ").length = 1 := by decide +kernel
          show _ + _ * (Str.ofString " ").length ≤ _
          rw [sl, List.length_map]
          omega
        rw [TL.join_eq]
        have etx : Str.join (Str.ofString " ") (e.vs.map partS) = textD e := rfl
        rw [etx]
        have ma2 := ma'.same s2
        have row2 := row'.same s2
        have hbk2 := s2 _ _ hbk'
        refine ⟨_, rfl, .inl ⟨rfl, _, SqL.of hbk2⟩, _, rfl, _, rfl, _, rfl, _, rfl, _, rfl, r, a, ns, textD e, rfl, row2, ta, tl12, fun z' H7 az lz row7 k7 => ⟨sz (by simp), fun l nl => ⟨_, rfl, r, a, ns, 4, rfl, row7.upd nl, by decide, by decide, fun v4 H8 v0 v1 row8 k8 => ?_⟩⟩⟩
        have nlr : l ≠ r := fun z => by
          obtain ⟨l', y, e⟩ := row7.ne
          rw [z, e] at nl
          cases nl
        obtain ⟨zz, hat, az', lz'⟩ : ∃ zz : Str, atI [V.str (textD e), .str (textD e), .str (textD e), .str z'] v4 = some (.str zz) ∧ Asc zz ∧ zz.length ≤ 600 := by
          obtain rfl | rfl | rfl | rfl : v4 = 0 ∨ v4 = 1 ∨ v4 = 2 ∨ v4 = 3 := by omega
          · exact ⟨_, rfl, ta, by omega⟩
          · exact ⟨_, rfl, ta, by omega⟩
          · exact ⟨_, rfl, ta, by omega⟩
          · exact ⟨_, rfl, az, lz⟩
        have tl7 := Same.new (o := .lst [.str (textD e), .str (textD e), .str (textD e), .str z']) nl
        have ma7 := mrow ma2 (let ⟨l, x, e⟩ := row2.ne; ⟨_, e⟩) nL'r k7
        have ma8 := mrow (ma7.same tl7) (let ⟨l, x, e⟩ := (row7.same tl7).ne; ⟨_, e⟩) nL'r k8
        have hbk8 := k8 _ _ (tl7 _ _ (k7 _ _ hbk2 (by simpa using nbkr))) (by simpa using nbkr)
        have hpD8 := k8 _ _ (tl7 _ _ (k7 _ _ (s2 _ _ hpD') (by simpa using npDr))) (by simpa using npDr)
        have tS8 : TupS H' H8 := ((TupS.of_same s2).trans (by
          obtain ⟨l, y, er⟩ := row2.ne
          exact TupS.of_keeps k7 er)).trans ((TupS.of_same tl7).trans (by
          obtain ⟨l, y, er⟩ := (row7.same tl7).ne
          exact TupS.of_keeps k8 er))
        refine ⟨l, _, _, .str zz, rfl, rfl, SqL.of (k8 _ _ upd_same (by simpa using nlr)), hat, bk, ts.map V.str, .str zz, rfl, rfl, hbk8, szl (by rw [List.length_map]; omega), ?_⟩
        have kb : Keeps [bk] H8 (upd H8 bk (.lst (ts.map V.str ++ [.str zz]))) := (Keeps.refl _ _).upd (by simp)
        have row9 : RowAt K (upd H8 bk (.lst (ts.map V.str ++ [.str zz]))) r a ns := by
          obtain ⟨i, m, x, e, hi, hs⟩ := row8
          refine ⟨i, m, x, kb _ _ e (by simpa using nbkr.symm), hi, ?_⟩
          rcases hab with h | h
          · exact sq_keeps hs kb (by simpa using h)
          · exact h _
        refine ⟨_, _, _, ts ++ [zz], rfl, mrow ma8 ⟨_, hbk8⟩ nL'bk kb, row9, by rw [upd_same, List.map_append]; rfl, by rw [List.length_append, tl]; rfl, fun z hz => ?_, kb _ _ hpD8 (by simpa using npDb), txD'.mono (tS8.trans (TupS.upd (TupS.refl _) (by rw [hbk8]; intro xs z; cases z)))⟩
        rcases List.mem_append.mp hz with z1 | z1
        · exact hts z z1
        · rw [List.mem_singleton.mp z1]
          exact ⟨az', lz'⟩
    · rintro σ H7 ⟨o5, o6, o7, ts, rfl, ma7, row7, hbk7, tl, hts, _, _⟩
      have tsl : ts.length ≤ 1000 := by omega
      refine ⟨_, rfl, bk, _, rfl, .inl (SqL.of hbk7), fun hd nhd => ?_⟩
      have s8 : Same H7 (upd H7 hd (.lst (ts.map V.str))) := Same.new nhd
      have hhd : upd H7 hd (.lst (ts.map V.str)) hd = some (.lst (ts.map V.str)) := upd_same
      generalize upd H7 hd (.lst (ts.map V.str)) = H8 at *
      have ma8 := ma7.same s8
      -- the book is played
      refine ⟨_, rfl, _, rfl, q0, _, rfl, ma8.g_late, _, rfl, q0, _, rfl, ma8.g_lost, _, rfl, n, late, lost, hd, ts, by rw [ll0, lo0']; rfl, hhd, by omega, hts, n1, n6', la0, la9, lo0, lo6, fun t lA p L ds H9 s9 ht hlA ha9 np nL nds => ⟨t, _, rfl, SqT.of ht, rfl, _, _, rfl, _, _, rfl, rfl, ?_⟩⟩
      rw [← eh0] at hlA ha9
      have ma9 := ma8.same s9
      have row9 := (row7.same s8).same s9
      have hbk9 := s9 _ _ (s8 _ _ hbk7)
      have hhd9 := s9 _ _ hhd
      -- the dues
      refine ⟨_, rfl, bk, rfl, ⟨_, SqL.of hbk9⟩, fun D nD => ?_⟩
      have pl0 : Played n late lost h0 := ⟨[], 0, by rw [eh0]; exact PlayI.start n late lost⟩
      have nin : ∀ {x : Addr} {o : HO}, H9 x = some o → (∀ kv, o ≠ .dK kv) → x ∉ D :: q0 :: ds' := fun {x o} hx no => by
        simp only [List.mem_cons, not_or]
        refine ⟨ne_of_none hx nD, fun z => ?_, fun z => ?_⟩
        · have := ma9.ob
          rw [← z, hx] at this
          injection this with e
          exact no _ e
        · obtain ⟨kv, e⟩ := ma9.kn.mem z
          rw [hx] at e
          injection e with e
          exact no _ e
      have nqD : q0 ≠ D := ne_of_none ma9.ob nD
      have nLD : L' ≠ D := ne_of_none ma9.kn.lst nD
      have ndD : ∀ d ∈ ds', d ≠ D := fun d hd => let ⟨kv, e⟩ := ma9.kn.mem hd; ne_of_none e nD
      have sD : Same H9 (upd H9 D (.lst [])) := Same.new nD
      refine lc_list (K := K) (a := bk) (xs := ts.map V.str) (fun i H2 => MAt H2 q0 L' ds' (msOf (ansL h0 (ts.take i)).2) ∧ Keeps (D :: q0 :: ds') H9 H2 ∧ H2 D = some (.lst ((ansL h0 (ts.take i)).1.map V.str)) ∧ Played n late lost (ansL h0 (ts.take i)).2) ⟨ma9.same sD, .of_same sD, upd_same, pl0⟩ (fun i H2 hi ⟨_, k2, _⟩ => SqL.of (k2 _ _ hbk9 (nin hbk9 (by intro kv e; cases e)))) ?_ ?_
      · rintro i v H2 hi ⟨ma2, k2, hD2, pl2⟩
        rw [List.getElem?_map] at hi
        obtain ⟨z, ez, rfl⟩ := Option.map_eq_some_iff.mp hi
        have il : i < ts.length := (List.getElem?_eq_some_iff.mp ez).1
        obtain ⟨za, zl⟩ := hts z (List.mem_of_getElem? ez)
        have etk : ts.take (i + 1) = ts.take i ++ [z] := by rw [List.take_succ, ez]; rfl
        refine ⟨rfl, _, rfl, _, rfl, q0, L', ds', _, n, late, lost, z, rfl, ma2, pl2, za, zl, fun H3 ma3 k3 => ?_⟩
        have hD3 := keep_dict ma2 k3 hD2 (by intro kv e; cases e)
        have al := ansL_len (ts.take i) h0
        rw [List.length_take] at al
        have kD : Keeps [D] H3 (upd H3 D (.lst ((ansL h0 (ts.take i)).1.map V.str ++ [.str (ansH (ansL h0 (ts.take i)).2 z).1]))) := (Keeps.refl _ _).upd (by simp)
        refine ⟨_, hD3, szl (by rw [List.length_map]; omega), ?_, (k2.trans (k3.mono fun x hx => List.mem_cons_of_mem _ hx)).upd (by simp), ?_, ?_⟩
        · rw [etk, ansL_snoc]
          exact ma3.keeps kD (by simpa using nqD) (by simpa using nLD) fun d hd z => ndD d hd (List.mem_singleton.mp z)
        · rw [upd_same, etk, ansL_snoc, List.map_append]
          rfl
        · rw [etk, ansL_snoc]
          exact ans_played z pl2
      · rintro H2 ⟨ma2, k2, hD2, pl2⟩
        rw [List.length_map, List.take_length] at ma2 hD2 pl2
        have ndk : ∀ d ∈ ds, d ∉ D :: q0 :: ds' := fun d hd => by
          obtain ⟨kv, e⟩ := ha9.kn.mem hd
          have n8 := nds d hd
          simp only [List.mem_cons, not_or]
          refine ⟨ne_of_none e nD, fun z => ?_, fun z => ?_⟩
          · rw [z, ma8.ob] at n8
            cases n8
          · obtain ⟨kv, e2⟩ := ma8.kn.mem z
            rw [e2] at n8
            cases n8
        have ha2 : HouseAt C H2 p L ds (ansL h0 ts).2 := ha9.keeps k2 (let ⟨dx, e⟩ := ha9.ob; nin e (by intro kv e; cases e)) (nin ha9.kn.lst (by intro kv e; cases e)) ndk
        have hlA2 := k2 _ _ hlA (nin hlA (by intro kv e; cases e))
        have hbk2 := k2 _ _ hbk9 (nin hbk9 (by intro kv e; cases e))
        have hhd2 := k2 _ _ hhd9 (nin hhd9 (by intro kv e; cases e))
        have row2 : RowAt K H2 r a ns := by
          obtain ⟨i, m, x, e, hi, hs⟩ := row9
          refine ⟨i, m, x, k2 _ _ e (nin e (by intro kv e; cases e)), hi, ?_⟩
          rcases hs with (h | ⟨u, h⟩) | h
          · exact .inl (.inl (k2 _ _ h (nin h (by intro kv e; cases e))))
          · exact .inl (.inr ⟨u, k2 _ _ h (nin h (by intro kv e; cases e))⟩)
          · exact .inr h
        generalize hh1 : (ansL h0 ts).2 = h1 at *
        have okA := ansL_ok ts h0
        have lA' := ansL_len ts h0
        obtain ⟨done, T, pl⟩ := pl2
        -- alike, the book as it was, a house
        refine ⟨_, rfl, _, rfl, _, _, rfl, .inr (.inl ⟨lA, D, _, _, rfl, rfl, hlA2, hD2, Al.flats okA, by rw [List.length_map]; omega⟩), fun H3 s3 => ⟨_, rfl, ifF (by rfl) ?_⟩⟩
        have okT : ∀ v ∈ ts.map V.str, okV v = true := fun v hv => by
          obtain ⟨z, hz, rfl⟩ := List.mem_map.mp hv
          exact ok_asc (hts z hz).1
        refine ⟨_, rfl, _, rfl, .list ((ts.map V.str).map fdat), .list ((ts.map V.str).map fdat), .lst (SqL.of (s3 _ _ hhd2)) (dp_flats okT), .lst (SqL.of (s3 _ _ hbk2)) (dp_flats okT), shaped_flats okT, shaped_flats okT, _, rfl, ifF (by rw [eqv_flats okT]; rfl) ?_⟩
        have ha3 := ha2.same s3
        obtain ⟨dx3, eo3⟩ := ha3.ob
        refine ⟨_, rfl, _, _, .ref C, .ref C, true, rfl, .own C, .base (.ins eo3 TX.cl GX.a1 GX.a2 GX.a3 GX.a4), GX.a5, _, rfl, ifF (by rfl) ?_⟩
        -- the rows
        refine ⟨sz (by simp), fun fo nfo => ?_⟩
        have s4 : Same H3 (upd H3 fo (.lst [])) := Same.new nfo
        have hfo4 : upd H3 fo (.lst []) fo = some (.lst []) := upd_same
        generalize upd H3 fo (.lst []) = H4 at *
        have kl : h1.kns.length = n := pl.len
        have ma3 := ma2.same s3
        refine ⟨_, rfl, _, rfl, by omega, by omega, ?_⟩
        rw [Int.toNat_natCast]
        refine for_range0 (n := n) (fun b σ H5 => ∃ (xs : List V) (o13 o14 : Option V), σ = [some (.ref a), some (.ref r), some (.ref q0), some (.int (n : Int)), some (.ref bk), o5, o6, o7, some (.ref hd), some (.ref lA), some (.ref p), some (.ref D), some (.ref fo), o13, o14, none] ∧ Same H3 H5 ∧ H5 fo = some (.lst xs) ∧ TupsAt H5 xs (rowsTo h1.kns b)) ⟨[], none, none, rfl, s4, hfo4, .nil⟩ ?_ ?_
        · rintro b σ H5 hb ⟨xs, o13, o14, rfl, s5, hfo5, hx⟩
          have hbl : b < h1.kns.length := by omega
          obtain ⟨hbm, hbk⟩ := getD_mem hbl
          have ko := ma3.kn.ok _ hbk
          obtain ⟨d, hd', hdk⟩ : ∃ d, ds'[b]? = some d ∧ H3 d = some (.dK (encK (h1.kns.getD b []))) := Paired.get (R := fun d k => H3 d = some (.dK (encK k))) ma3.kn.at_ hbm
          have hat : atI (ds'.map V.ref) (b : Int) = some (.ref d) := atI_nat (by rw [List.getElem?_map, hd']; rfl)
          have xl : xs.length ≤ 64 * b := by
            have g1 := hx.length
            have g2 : (rowsTo h1.kns b).length ≤ 64 * b := rowsTo_len ma3.kn.ok b (by show b ≤ h1.kns.length; omega)
            omega
          have ma5 := ma3.same s5
          refine ⟨_, rfl, .inl ⟨rfl, _, SqL.of hfo5⟩, ?_⟩
          refine ⟨_, rfl, q0, _, rfl, ma5.g_known, _, rfl, L', _, _, .ref d, rfl, rfl, SqL.of ma5.kn.lst, hat, ?_⟩
          refine ⟨d, encK (h1.kns.getD b []), (h1.kns.getD b []).map (·.1), rfl, .inl (s5 _ _ hdk), by unfold encK; rw [List.map_map, List.map_map]; rfl, by rw [List.length_map]; exact ko.sm, fun ms q1 pm ps nq1 => ?_⟩
          have ems : ms = keysOf (h1.kns.getD b []) := sort_uniq pm ps
          have hmem : ∀ m ∈ ms, m ∈ (h1.kns.getD b []).map (·.1) := fun m hm => pm.mem_iff.mp hm
          have hml : ms.length < 64 := by rw [pm.length_eq, List.length_map]; exact ko.sm
          have s6 : Same H5 (upd H5 q1 (.lst (ms.map V.int))) := Same.new nq1
          have hq6 : upd H5 q1 (.lst (ms.map V.int)) q1 = some (.lst (ms.map V.int)) := upd_same
          generalize upd H5 q1 (.lst (ms.map V.int)) = H6 at *
          refine ⟨q1, rfl, ⟨_, SqL.of hq6⟩, fun D2 nD2 => ?_⟩
          refine lc_mkL (K := K) (enc := fun m : Int => V.int m) (l := ms) (fun m => [V.int (b : Int), .int m, .str ((lookK (h1.kns.getD b []) m).getD "")]) (SqL.of hq6) nD2 (by omega) (fun _ => rfl) (fun m hm => ?_) fun ys H7 s7 hD7 hy => ?_
          · intro H7 s7 Q7 q7
            obtain ⟨z, hz, wz⟩ := ko.look (hmem m hm)
            have s57 := (s5.trans s6).trans s7
            have ma7 := ma3.same s57
            have hg : DGet H7 d (.int m) (some (.str ((lookK (h1.kns.getD b []) m).getD ""))) := by
              have e : DGet H7 d (kV (Sum.inl m)) (valV (encK (h1.kns.getD b [])) (Sum.inl m)) := DGet.k (s57 _ _ hdk)
              rw [valV_enc, hz] at e
              rw [hz]
              exact e
            refine ⟨_, rfl, _, rfl, _, rfl, q0, _, rfl, ma7.g_known, _, rfl, L', _, _, .ref d, rfl, rfl, SqL.of ma7.kn.lst, hat, _, rfl, ?_⟩
            exact ⟨d, _, rfl, hg, sz (by simp), fun t nt => q7 t _ (Same.new nt) nt upd_same⟩
          · have yl : ys.length = ms.length := by have := hy.length; rw [List.length_map] at this; exact this
            have hfo7 := s7 _ _ (s6 _ _ hfo5)
            refine ⟨fo, D2, xs, ys, rfl, rfl, hfo7, hD7, sz (by omega), ?_⟩
            have tS : TupS H7 (upd H7 fo (.lst (xs ++ ys))) := TupS.upd (TupS.refl _) (by rw [hfo7]; intro xs z; cases z)
            refine ⟨xs ++ ys, _, _, rfl, Same.mut ((s5.trans s6).trans s7) nfo, upd_same, ?_⟩
            refine Paired.append ((hx.mono (.of_same (s6.trans s7))).mono tS) ?_
            unfold rowsB
            rw [← ems]
            exact hy.mono tS
        · rintro σ H5 ⟨xs, o13, o14, rfl, s5, hfo5, hx⟩
          have ha5 := ha3.same s5
          obtain ⟨dx5, eo5⟩ := ha5.ob
          refine ⟨_, rfl, p, dx5, _, rfl, eo5, fl_no _ _ (by decide +kernel), p, L, ds, _, rfl, ha5, ?_⟩
          refine ⟨_, rfl, p, dx5, _, rfl, eo5, fl_no _ _ (by decide +kernel), p, L, ds, _, rfl, ha5, fun wA ws H6 s6 nwA hwA tw => ?_⟩
          refine ⟨sz (by simp), fun l1 nl1 => ?_⟩
          generalize g1 : upd H6 l1 _ = H7
          have t1 : Same H6 H7 := by rw [← g1]; exact Same.new nl1
          have e1 : H7 l1 = some (.lst [.int h1.now, .ref wA]) := by rw [← g1]; exact upd_same
          clear g1
          have s57 := s6.trans t1
          have ma7 := (ma3.same s5).same s57
          refine ⟨_, rfl, q0, _, rfl, ma7.g_time, _, rfl, sz (by simp), fun l3 nl3 => ?_⟩
          generalize g3 : upd H7 l3 _ = H8'
          have t3 : Same H7 H8' := by rw [← g3]; exact Same.new nl3
          have e3 : H8' l3 = some (.lst [.int h1.now, .ref fo]) := by rw [← g3]; exact upd_same
          clear g3
          have okW : ∀ d ∈ rowsTo h1.kns h1.kns.length, ∀ v ∈ d, okV v = true := rows_ok ha5.kn.ok _ (Nat.le_refl _)
          have wl : ws.length ≤ 100000 := by
            have e1 := tw.length
            have e2 := rowsTo_len ha5.kn.ok _ (Nat.le_refl _)
            have e3 := ha5.kn.few
            omega
          rw [← kl] at hx
          refine ⟨_, _, rfl, .inr (.inl ⟨l1, l3, _, _, rfl, rfl, t3 _ _ e1, e3, .cons (.inl ⟨rfl, rfl⟩) (.cons (.inr (.inl ⟨wA, fo, _, _, rfl, rfl, t3 _ _ (t1 _ _ hwA), t3 _ _ (s57 _ _ hfo5), Al.tups (tw.mono (.of_same (t1.trans t3))) (hx.mono (.of_same (s57.trans t3))) okW (rows_len3 _), wl⟩)) .nil), by simp⟩), fun H9' s9' => ⟨_, rfl, ifF (by rfl) ?_⟩⟩
          have s59 : Same H5 H9' := (s57.trans t3).trans s9'
          have ha10 := ha5.same s59
          obtain ⟨dxa, eoa⟩ := ha10.ob
          have ma10 := (ma3.same s5).same s59
          refine ⟨_, rfl, p, dxa, _, rfl, eoa, fl_no _ _ (by decide +kernel), p, L, ds, _, rfl, ha10, rfl, _, rfl, q0, _, rfl, ma10.g_broken rfl, rfl, _, rfl, ifF ?_ ?_⟩
          · by_cases f : h1.fault = .non <;> simp [f]
          -- numbers that no house has
          have sA : Same H9' H9' := Same.refl _
          refine ⟨sz (by simp), fun t1 nt1 => ?_⟩
          generalize gt1 : upd H9' t1 _ = J1
          have st1 : Same H9' J1 := by rw [← gt1]; exact Same.new nt1
          replace sA := sA.trans st1
          have et1 : J1 t1 = some (.tup [.int 0, .int 0, .int 0]) := by rw [← gt1]; exact upd_same
          clear gt1
          refine ⟨sz (by simp), fun t2 nt2 => ?_⟩
          generalize gt2 : upd J1 t2 _ = J2
          have st2 : Same J1 J2 := by rw [← gt2]; exact Same.new nt2
          replace sA := sA.trans st2
          replace et1 := st2 _ _ et1
          have et2 : J2 t2 = some (.tup [.int 7, .int 0, .int 0]) := by rw [← gt2]; exact upd_same
          clear gt2
          refine ⟨sz (by simp), fun t3 nt3 => ?_⟩
          generalize gt3 : upd J2 t3 _ = J3
          have st3 : Same J2 J3 := by rw [← gt3]; exact Same.new nt3
          replace sA := sA.trans st3
          replace et1 := st3 _ _ et1
          replace et2 := st3 _ _ et2
          have et3 : J3 t3 = some (.tup [.int 1, .int 10, .int 0]) := by rw [← gt3]; exact upd_same
          clear gt3
          refine ⟨sz (by simp), fun t4 nt4 => ?_⟩
          generalize gt4 : upd J3 t4 _ = J4
          have st4 : Same J3 J4 := by rw [← gt4]; exact Same.new nt4
          replace sA := sA.trans st4
          replace et1 := st4 _ _ et1
          replace et2 := st4 _ _ et2
          replace et3 := st4 _ _ et3
          have et4 : J4 t4 = some (.tup [.int 1, .int 0, .int 7]) := by rw [← gt4]; exact upd_same
          clear gt4
          refine ⟨sz (by simp), fun ol nol => ?_⟩
          generalize gol : upd J4 ol _ = J8
          have sol : Same J4 J8 := by rw [← gol]; exact Same.new nol
          have eol : J8 ol = some (.lst [.ref t1, .ref t2, .ref t3, .ref t4]) := by rw [← gol]; exact upd_same
          clear gol
          have rowA : RowAt K J8 r a ns := (((row2.same s3).same s5).same s59).same (sA.trans sol)
          have nolr : ol ≠ r := fun z => by
            obtain ⟨l, x, e⟩ := ((((row2.same s3).same s5).same s59).same sA).ne
            rw [z, e] at nol
            cases nol
          refine ⟨_, rfl, r, a, ns, 4, rfl, rowA, by decide, by decide, fun v2 K1 v20 v21 rowk kk => ?_⟩
          obtain ⟨tn, nn, la, lo, hat, htn, hno⟩ : ∃ tn nn la lo, atI [V.ref t1, .ref t2, .ref t3, .ref t4] v2 = some (.ref tn) ∧ J8 tn = some (.tup [.int nn, .int la, .int lo]) ∧ ¬ (1 ≤ nn ∧ nn ≤ 6 ∧ 0 ≤ la ∧ la ≤ 9 ∧ 0 ≤ lo ∧ lo ≤ 6) := by
            obtain rfl | rfl | rfl | rfl : v2 = 0 ∨ v2 = 1 ∨ v2 = 2 ∨ v2 = 3 := by omega
            · exact ⟨t1, _, _, _, rfl, sol _ _ et1, by omega⟩
            · exact ⟨t2, _, _, _, rfl, sol _ _ et2, by omega⟩
            · exact ⟨t3, _, _, _, rfl, sol _ _ et3, by omega⟩
            · exact ⟨t4, _, _, _, rfl, sol _ _ et4, by omega⟩
          have htn1 : K1 tn = some (.tup [.int nn, .int la, .int lo]) := by
            obtain ⟨l, y, er⟩ := rowA.ne
            exact TupS.of_keeps kk er _ _ htn
          refine ⟨ol, _, _, .ref tn, rfl, rfl, SqL.of (kk _ _ eol (by simpa using nolr)), hat, ?_⟩
          exact ⟨_, rfl, tn, _, _, .int nn, rfl, rfl, SqT.of htn1, rfl, _, rfl, tn, _, _, .int la, rfl, rfl, SqT.of htn1, rfl, _, rfl, tn, _, _, .int lo, rfl, rfl, SqT.of htn1, rfl, nn, la, lo, rfl, hno, fun H' _ => q H'⟩
end
end IC
namespace IC
open PySem L2
/-! ### what the top has written -/
structure GF (K : PySem.W.Frag) (x : Str) (st : Stmt) : Prop where
  ex : ∃ f fd, L2.Fun K x x st f fd ∧ PySem.W.nsIn K mainGlobals x = some (some (.ref f))
structure MF (K : PySem.W.Frag) (C : Addr) (m qual : Str) (st : Stmt) : Prop where
  ex : ∃ f fd, L2.Fun K m qual st f fd ∧ PySem.W.findIn K (.ref C) m = some (some (.ref f)) ∧ PySem.W.isFn K (.ref f) = true
section
variable {P : Program} {w : World} {K : PySem.W.Frag} {mg : Str → Option Value} {base h : Heap} {C : Addr} {x m qual : Str} {st : Stmt} {k : Nat} {sp : Sp} {ps : List Str}
theorem mkG {f : Addr} {oc : Value} {od an : Option Addr} {osl : Array (Option Value)} {kV doc pm cdv ct : Value} (a : PySem.W.nsIn K mainGlobals x = some (some (.ref f))) (l : K.lookup f = some ⟨oc, od, .func (PySem.W.fnOf x x (defArgs st) (defBody st) (defScope st) .none kV doc pm an cdv ct), osl⟩)
    (c : PySem.W.codeIn K cdv x = true) (k : PySem.W.keepIn K (.ref f) = true) : GF K x st := ⟨f, _, fun_mk (st := st) l c k, a⟩
theorem mkM {f : Addr} {oc : Value} {od an : Option Addr} {osl : Array (Option Value)} {kV doc pm cdv ct : Value} (a : PySem.W.findIn K (.ref C) m = some (some (.ref f))) (i : PySem.W.isFn K (.ref f) = true) (l : K.lookup f = some ⟨oc, od, .func (PySem.W.fnOf m qual (defArgs st) (defBody st) (defScope st) .none kV doc pm an cdv ct), osl⟩)
    (c : PySem.W.codeIn K cdv qual = true) (k : PySem.W.keepIn K (.ref f) = true) : MF K C m qual st := ⟨f, _, fun_mk (st := st) l c k, a, i⟩
theorem GF.cal (g : GF K x st) (X : K.In h) (G : h.Ns mainGlobals mg) (b : ∀ f fd, L2.Fun K x x st f fd → Binds K fd ps []) (ok : ∀ f fd, L2.Fun K x x st f fd → FnOk P w K mg base CX0 k f fd ps sp) : C8.Cal P w K mg base k x sp [] := by
  obtain ⟨f, fd, F, a⟩ := g.ex
  exact ⟨f, fd, ps, [], ok f fd F, PySem.W.mg_of X G a, F.kp, b f fd F, .nil⟩
theorem MF.met (g : MF K C m qual st) (c : Cls K C) (b : ∀ f fd, L2.Fun K m qual st f fd → Binds K fd ps []) (ok : ∀ f fd, L2.Fun K m qual st f fd → FnOk P w K mg base CX0 k f fd ps sp) : C8.Met P w K mg base k C m sp [] := by
  obtain ⟨f, fd, F, a, i⟩ := g.ex
  exact ⟨f, fd, ps, [], c, ⟨a, i, F.kp⟩, ok f fd F, b f fd F, .nil⟩
theorem MF.mak {n : Str} (g : MF K C "__init__" qual st) (X : K.In h) (G : h.Ns mainGlobals mg) (mk : PySem.W.makesIn K C = true) (kc : PySem.W.keepIn K (.ref C) = true) (a0 : PySem.W.nsIn K mainGlobals n = some (some (.ref C))) (b : ∀ f fd, L2.Fun K "__init__" qual st f fd → Binds K fd ps []) (ok : ∀ f fd, L2.Fun K "__init__" qual st f fd → FnOk P w K mg base CX0 k f fd ps sp) : C8.Mak P w K mg base k n C sp [] := by
  obtain ⟨f, fd, F, a, i⟩ := g.ex
  exact ⟨f, fd, ps, [], ⟨mk, a, i, kc⟩, ok f fd F, PySem.W.mg_of X G a0, b f fd F, .nil⟩
end
theorem all_mk {l : PySem.W.OpenLaw} {w : World} {K : PySem.W.Frag} {h : Heap} {mg : Str → Option Value} {fa C dI BadRow BadTime BadHouse HouseError : Addr} {esI : Array DictEntry} {nI : Nat} {u_MOST_TIME u_MOST_BADGES u_MOST_LATE u_MOST_LOST u_in u_out u_FIG : Value} (X : K.In h) (G : h.Ns mainGlobals mg) (hfa : mg "law" = some (.ref fa))
    (g0_len : PySem.W.nsIn K mainGlobals "len" = some none)
    (g0_range : PySem.W.nsIn K mainGlobals "range" = some none)
    (g0_sorted : PySem.W.nsIn K mainGlobals "sorted" = some none)
    (g0_int : PySem.W.nsIn K mainGlobals "int" = some none)
    (g0_min : PySem.W.nsIn K mainGlobals "min" = some none)
    (g0_max : PySem.W.nsIn K mainGlobals "max" = some none)
    (g0_reversed : PySem.W.nsIn K mainGlobals "reversed" = some none)
    (g0_list : PySem.W.nsIn K mainGlobals "list" = some none)
    (g0_tuple : PySem.W.nsIn K mainGlobals "tuple" = some none)
    (g0_isinstance : PySem.W.nsIn K mainGlobals "isinstance" = some none)
    (g0_bool : PySem.W.nsIn K mainGlobals "bool" = some none)
    (g0_str : PySem.W.nsIn K mainGlobals "str" = some none)
    (g0_sum : PySem.W.nsIn K mainGlobals "sum" = some none)
    (g0_set : PySem.W.nsIn K mainGlobals "set" = some none)
    (gc_MOST_TIME : PySem.W.nsIn K mainGlobals "MOST_TIME" = some (some u_MOST_TIME)) (gr_MOST_TIME : RelV (.int 60) u_MOST_TIME)
    (gc_MOST_BADGES : PySem.W.nsIn K mainGlobals "MOST_BADGES" = some (some u_MOST_BADGES)) (gr_MOST_BADGES : RelV (.int 6) u_MOST_BADGES)
    (gc_MOST_LATE : PySem.W.nsIn K mainGlobals "MOST_LATE" = some (some u_MOST_LATE)) (gr_MOST_LATE : RelV (.int 9) u_MOST_LATE)
    (gc_MOST_LOST : PySem.W.nsIn K mainGlobals "MOST_LOST" = some (some u_MOST_LOST)) (gr_MOST_LOST : RelV (.int 6) u_MOST_LOST)
    (aI : PySem.W.nsIn K mainGlobals "INSIDE" = some (some (.ref dI))) (lI : K.lookup dI = some ⟨.type "dict", none, .dict esI nI, #[]⟩) (kI : PySem.W.KeysLit w.params esI.toList) (sI : (dI == sysModules) = false) (inI : PySem.W.nsIn K dI "in" = some (some u_in)) (inR : RelV (.int 1) u_in) (outI : PySem.W.nsIn K dI "out" = some (some u_out)) (outR : RelV (.int 0) u_out)
    (aC : PySem.W.nsIn K mainGlobals "House" = some (some (.ref C))) (pg : PySem.W.plainGet K C Str.empty = true) (hd : PySem.W.hasDictIn K C = true) (po : PySem.W.plainOver K C = true) (sa : PySem.W.findIn K (.ref C) "__setattr__" = some (some (.builtin "object.__setattr__"))) (mk : PySem.W.makesIn K C = true) (kc : PySem.W.keepIn K (.ref C) = true)
    (na_late : PySem.W.findIn K (.ref C) "late" = some none)
    (na_lost : PySem.W.findIn K (.ref C) "lost" = some none)
    (na_now : PySem.W.findIn K (.ref C) "now" = some none)
    (na_known : PySem.W.findIn K (.ref C) "known" = some none)
    (na_many : PySem.W.findIn K (.ref C) "many" = some none)
    (na_fault : PySem.W.findIn K (.ref C) "fault" = some none)
    (a_HE : PySem.W.nsIn K mainGlobals "HouseError" = some (some (.ref HouseError))) (g0_VE : PySem.W.nsIn K mainGlobals "ValueError" = some none)
    (a_BadRow : PySem.W.nsIn K mainGlobals "BadRow" = some (some (.ref BadRow))) (q_BadRow : PySem.W.excIn K BadRow [.type "ValueError", .type "Exception", .type "BaseException", .type "object"] "ValueError.__new__" = true) (k_BadRow : PySem.W.keepIn K (.ref BadRow) = true) (b_BadRow : PySem.W.subIn K (.ref BadRow) (.type "BaseException") = some true) (t_BadRow : PySem.W.typeIn K (.ref BadRow) = some (.type "type")) (s_BadRow : PySem.W.subIn K (.ref BadRow) (.ref BadRow) = some true)
    (e_BadRow : ExcC K BadRow)
    (kh_BadRow : PySem.W.kitOne K (.ref BadRow) (.ref HouseError) = some true) (kv_BadRow : PySem.W.kitOne K (.ref BadRow) (.type "ValueError") = some true)
    (a_BadTime : PySem.W.nsIn K mainGlobals "BadTime" = some (some (.ref BadTime))) (q_BadTime : PySem.W.excIn K BadTime [.type "ValueError", .type "Exception", .type "BaseException", .type "object"] "ValueError.__new__" = true) (k_BadTime : PySem.W.keepIn K (.ref BadTime) = true) (b_BadTime : PySem.W.subIn K (.ref BadTime) (.type "BaseException") = some true) (t_BadTime : PySem.W.typeIn K (.ref BadTime) = some (.type "type")) (s_BadTime : PySem.W.subIn K (.ref BadTime) (.ref BadTime) = some true)
    (e_BadTime : ExcC K BadTime)
    (kh_BadTime : PySem.W.kitOne K (.ref BadTime) (.ref HouseError) = some true) (kv_BadTime : PySem.W.kitOne K (.ref BadTime) (.type "ValueError") = some true)
    (a_BadHouse : PySem.W.nsIn K mainGlobals "BadHouse" = some (some (.ref BadHouse))) (q_BadHouse : PySem.W.excIn K BadHouse [.type "ValueError", .type "Exception", .type "BaseException", .type "object"] "ValueError.__new__" = true) (k_BadHouse : PySem.W.keepIn K (.ref BadHouse) = true) (b_BadHouse : PySem.W.subIn K (.ref BadHouse) (.type "BaseException") = some true) (t_BadHouse : PySem.W.typeIn K (.ref BadHouse) = some (.type "type")) (s_BadHouse : PySem.W.subIn K (.ref BadHouse) (.ref BadHouse) = some true)
    (e_BadHouse : ExcC K BadHouse)
    (kh_BadHouse : PySem.W.kitOne K (.ref BadHouse) (.ref HouseError) = some true) (kv_BadHouse : PySem.W.kitOne K (.ref BadHouse) (.type "ValueError") = some true)
    (sTR : PySem.W.subIn K (.ref BadTime) (.ref BadRow) = some false) (gc_FIG : PySem.W.nsIn K mainGlobals "FIGURES" = some (some u_FIG)) (gr_FIG : RelV (.str "0123456789") u_FIG) (kwI : KeysWd esI.toList)
    (c1 : PySem.W.findIn K (.ref C) "__class__" = some (some (.builtin "object.__class__"))) (c2 : PySem.W.specialIn K (.builtin "object.__class__") "__get__" = some (some (.builtin "getset_descriptor.__get__"))) (c3 : PySem.W.takesIn K (.builtin "object.__class__") = some true) (c4 : PySem.W.mroIn K C (.type "object") = some true) (c5 : PySem.W.kitOne K (.ref C) (.ref C) = some true)
    (g__law_taken : GF K "_law_taken" s__law_taken)
    (g__law_fresh : GF K "_law_fresh" s__law_fresh)
    (g__law_deeds : GF K "_law_deeds" s__law_deeds)
    (g__law_spoilt : GF K "_law_spoilt" s__law_spoilt)
    (m___init__ : MF K C "__init__" "House.__init__" s_House___init__)
    (g_number_of : GF K "number_of" s_number_of)
    (m_broken : MF K C "broken" "House.broken" s_House_broken)
    (m_is_time : MF K C "is_time" "House.is_time" s_House_is_time)
    (g_is_lost : GF K "is_lost" s_is_lost)
    (g_wants_of : GF K "wants_of" s_wants_of)
    (g_all_wants : GF K "all_wants" s_all_wants)
    (g_are_borne : GF K "are_borne" s_are_borne)
    (m_gone_on : MF K C "gone_on" "House.gone_on" s_House_gone_on)
    (m_tick : MF K C "tick" "House.tick" s_House_tick)
    (m_come : MF K C "come" "House.come" s_House_come)
    (g_answer : GF K "answer" s_answer)
    (g_played : GF K "played" s_played)
    (g__law_number : GF K "_law_number" s__law_number)
    (g__law_wants : GF K "_law_wants" s__law_wants)
    (g__law_is_sound : GF K "_law_is_sound" s__law_is_sound)
    (g__law_due : GF K "_law_due" s__law_due)
    (g__law_refused : GF K "_law_refused" s__law_refused)
    (m_rows : MF K C "rows" "House.rows" s_House_rows)
    (m_time : MF K C "time" "House.time" s_House_time)
    (g__law_alike : GF K "_law_alike" s__law_alike)
    (g_law : GF K "law" s_law)
    : ∃ fd : FuncData, (∀ (s : Shared) (v : Value), BindsTo s fd ⟨[v], []⟩ [("_law_script", v)]) ∧ ∀ base : Heap, K.In base → base.Ns mainGlobals mg → FnOk l.prog w K mg base CX0 9 fa fd ["_law_script"] (sp_law K) := by
  obtain ⟨f, fd, F, af⟩ := g_law.ex
  have e := hfa.symm.trans (PySem.W.mg_of X G af)
  cases e
  have kD : ∃ es n, KDict K w dI es n := ⟨esI, nI, lI, kI, sI⟩
  have GL : Glb K w mg dI := ⟨PySem.W.mg_none_of X G g0_len, PySem.W.mg_none_of X G g0_range, PySem.W.mg_none_of X G g0_sorted, PySem.W.mg_none_of X G g0_int, PySem.W.mg_none_of X G g0_min, PySem.W.mg_none_of X G g0_max, PySem.W.mg_none_of X G g0_reversed, PySem.W.mg_none_of X G g0_list, PySem.W.mg_none_of X G g0_tuple, PySem.W.mg_none_of X G g0_isinstance, PySem.W.mg_none_of X G g0_bool, PySem.W.mg_none_of X G g0_str, PySem.W.mg_none_of X G g0_sum, PySem.W.mg_none_of X G g0_set, PySem.W.mg_of X G aI, ⟨_, PySem.W.mg_of X G gc_MOST_TIME, gr_MOST_TIME⟩, ⟨_, PySem.W.mg_of X G gc_MOST_BADGES, gr_MOST_BADGES⟩, ⟨_, PySem.W.mg_of X G gc_MOST_LATE, gr_MOST_LATE⟩, ⟨_, PySem.W.mg_of X G gc_MOST_LOST, gr_MOST_LOST⟩, kD, ⟨esI, nI, _, lI, kI, inI, inR⟩, ⟨esI, nI, _, lI, kI, outI, outR⟩⟩
  have TX : HTxt K C := ⟨⟨pg, hd, po, sa⟩, na_late, na_lost, na_now, na_known, na_many, na_fault⟩
  have X_BadRow : ExcOk K mg "BadRow" BadRow := ⟨PySem.W.mg_of X G a_BadRow, q_BadRow, k_BadRow, b_BadRow, t_BadRow, e_BadRow⟩
  have GX_BadRow : GlbY K mg BadRow HouseError := ⟨⟨_, PySem.W.mg_of X G a_HE, rfl⟩, PySem.W.mg_none_of X G g0_VE, kh_BadRow, kv_BadRow, s_BadRow⟩
  have X_BadTime : ExcOk K mg "BadTime" BadTime := ⟨PySem.W.mg_of X G a_BadTime, q_BadTime, k_BadTime, b_BadTime, t_BadTime, e_BadTime⟩
  have GX_BadTime : GlbY K mg BadTime HouseError := ⟨⟨_, PySem.W.mg_of X G a_HE, rfl⟩, PySem.W.mg_none_of X G g0_VE, kh_BadTime, kv_BadTime, s_BadTime⟩
  have X_BadHouse : ExcOk K mg "BadHouse" BadHouse := ⟨PySem.W.mg_of X G a_BadHouse, q_BadHouse, k_BadHouse, b_BadHouse, t_BadHouse, e_BadHouse⟩
  have GX_BadHouse : GlbY K mg BadHouse HouseError := ⟨⟨_, PySem.W.mg_of X G a_HE, rfl⟩, PySem.W.mg_none_of X G g0_VE, kh_BadHouse, kv_BadHouse, s_BadHouse⟩
  have GB : GlbF mg := ⟨⟨_, PySem.W.mg_of X G gc_FIG, gr_FIG⟩⟩
  have nsA : ∀ z : Str, ¬ Wd z → PySem.W.nsIn K dI z = some none := fun z nz => ns_any lI kwI nz
  have GH : GlbH K mg C := ⟨⟨_, PySem.W.mg_of X G aC, rfl⟩, c1, c2, c3, c4, c5⟩
  refine ⟨fd, fun s v => ?_, fun base _ _ => ?_⟩
  · obtain ⟨oc, od, kV, doc, pm, an, cdv, ct, osl, rfl, lk, hcd⟩ := F.ex
    exact .of_eq rfl
  have c__law_taken : C8.Cal l.prog w K mg base 1 "_law_taken" (sp_taken K) [] := g__law_taken.cal X G (fun _ _ F => F.binds (ps := ["_law_row", "_law_many"]) fun _ _ _ _ _ _ us hl => match us, hl with | [_, _], _ => rfl) (fun _ _ F => ok_taken F GL)
  have c__law_fresh : C8.Cal l.prog w K mg base 2 "_law_fresh" (sp_fresh K) [] := g__law_fresh.cal X G (fun _ _ F => F.binds (ps := ["_law_row", "_law_most"]) fun _ _ _ _ _ _ us hl => match us, hl with | [_, _], _ => rfl) (fun _ _ F => ok_fresh F GL c__law_taken)
  have c__law_deeds : C8.Cal l.prog w K mg base 2 "_law_deeds" (sp_deeds K) [] := g__law_deeds.cal X G (fun _ _ F => F.binds (ps := ["_law_row", "_law_m", "_law_most"]) fun _ _ _ _ _ _ us hl => match us, hl with | [_, _, _], _ => rfl) (fun _ _ F => ok_deeds F GL c__law_taken)
  have c__law_spoilt : C8.Cal l.prog w K mg base 2 "_law_spoilt" (sp_spoilt K) [] := g__law_spoilt.cal X G (fun _ _ F => F.binds (ps := ["_law_row", "_law_text"]) fun _ _ _ _ _ _ us hl => match us, hl with | [_, _], _ => rfl) (fun _ _ F => ok_spoilt F GL c__law_taken)
  have c_House : C8.Mak l.prog w K mg base 1 "House" C (sp_init C) [] := m___init__.mak X G mk kc aC (fun _ _ F => F.binds (ps := ["self", "badges", "late", "lost"]) fun _ _ _ _ _ _ us hl => match us, hl with | [_, _, _, _], _ => rfl) (fun _ _ F => ok_init F GL TX)
  have c_number_of : C8.Cal l.prog w K mg base 1 "number_of" sp_number [] := g_number_of.cal X G (fun _ _ F => F.binds (ps := ["word"]) fun _ _ _ _ _ _ us hl => match us, hl with | [_], _ => rfl) (fun _ _ F => ok_number_of F GL GB)
  have c_broken : C8.Met l.prog w K mg base 1 C "broken" (sp_broken C) [] := m_broken.met TX.cl (fun _ _ F => F.binds (ps := ["self"]) fun _ _ _ _ _ _ us hl => match us, hl with | [_], _ => rfl) (fun _ _ F => ok_broken F TX)
  have c_is_time : C8.Met l.prog w K mg base 1 C "is_time" (sp_is_time C) [] := m_is_time.met TX.cl (fun _ _ F => F.binds (ps := ["self", "time"]) fun _ _ _ _ _ _ us hl => match us, hl with | [_, _], _ => rfl) (fun _ _ F => ok_is_time F GL TX)
  have c_is_lost : C8.Cal l.prog w K mg base 1 "is_lost" sp_is_lost [] := g_is_lost.cal X G (fun _ _ F => F.binds (ps := ["moment", "late", "time"]) fun _ _ _ _ _ _ us hl => match us, hl with | [_, _, _], _ => rfl) (fun _ _ F => ok_is_lost F)
  have c_wants_of : C8.Cal l.prog w K mg base 2 "wants_of" sp_wants_of [] := g_wants_of.cal X G (fun _ _ F => F.binds (ps := ["badge", "known", "late", "time"]) fun _ _ _ _ _ _ us hl => match us, hl with | [_, _, _, _], _ => rfl) (fun _ _ F => ok_wants_of F GL c_is_lost)
  have c_all_wants : C8.Cal l.prog w K mg base 3 "all_wants" sp_all_wants [] := g_all_wants.cal X G (fun _ _ F => F.binds (ps := ["known", "late", "time"]) fun _ _ _ _ _ _ us hl => match us, hl with | [_, _, _], _ => rfl) (fun _ _ F => ok_all_wants F GL c_wants_of)
  have c_are_borne : C8.Cal l.prog w K mg base 1 "are_borne" sp_are_borne [] := g_are_borne.cal X G (fun _ _ F => F.binds (ps := ["wants", "lost"]) fun _ _ _ _ _ _ us hl => match us, hl with | [_, _], _ => rfl) (fun _ _ F => ok_are_borne F GL)
  have c_gone_on : C8.Met l.prog w K mg base 4 C "gone_on" (sp_gone_on C) [] := m_gone_on.met TX.cl (fun _ _ F => F.binds (ps := ["self", "time"]) fun _ _ _ _ _ _ us hl => match us, hl with | [_, _], _ => rfl) (fun _ _ F => ok_gone_on F GL TX c_all_wants c_are_borne)
  have c_tick : C8.Met l.prog w K mg base 5 C "tick" (sp_tick C) [] := m_tick.met TX.cl (fun _ _ F => F.binds (ps := ["self", "time"]) fun _ _ _ _ _ _ us hl => match us, hl with | [_, _], _ => rfl) (fun _ _ F => ok_tick F GL TX c_is_time c_gone_on)
  have c_come : C8.Met l.prog w K mg base 5 C "come" (sp_come C) [] := m_come.met TX.cl (fun _ _ F => F.binds (ps := ["self", "time", "badge", "moment", "word"]) fun _ _ _ _ _ _ us hl => match us, hl with | [_, _, _, _, _], _ => rfl) (fun _ _ F => ok_come F GL TX c_is_time c_gone_on)
  have c_tickX : MetX l.prog w K mg base 5 C "tick" (sp_tickX C BadTime) := by
    obtain ⟨f, fd, F, a, i⟩ := m_tick.ex
    exact ⟨f, fd, _, TX.cl, ⟨a, i, F.kp⟩, ok_tickX F X_BadTime c_is_time c_gone_on, (fun (f : Addr) (fd : FuncData) (F : L2.Fun K "tick" "House.tick" s_House_tick f fd) => F.binds (ps := ["self", "time"]) fun _ _ _ _ _ _ us hl => match us, hl with | [_, _], _ => rfl) f fd F⟩
  have c_comeX : MetX l.prog w K mg base 5 C "come" (sp_comeX K dI C BadRow) := by
    obtain ⟨f, fd, F, a, i⟩ := m_come.ex
    exact ⟨f, fd, _, TX.cl, ⟨a, i, F.kp⟩, ok_comeX F GL TX X_BadRow c_is_time c_gone_on, (fun (f : Addr) (fd : FuncData) (F : L2.Fun K "come" "House.come" s_House_come f fd) => F.binds (ps := ["self", "time", "badge", "moment", "word"]) fun _ _ _ _ _ _ us hl => match us, hl with | [_, _, _, _, _], _ => rfl) f fd F⟩
  have c_answer : C8.Cal l.prog w K mg base 6 "answer" (sp_answer C) [] := g_answer.cal X G (fun _ _ F => F.binds (ps := ["house", "text"]) fun _ _ _ _ _ _ us hl => match us, hl with | [_, _], _ => rfl) (fun _ _ F => ok_answer F GL X_BadRow X_BadTime c_number_of c_broken c_tick c_come c_tickX c_comeX nsA s_BadRow sTR s_BadTime)
  have c_played : C8.Cal l.prog w K mg base 7 "played" (sp_played K C) [] := g_played.cal X G (fun _ _ F => F.binds (ps := ["badges", "late", "lost", "book"]) fun _ _ _ _ _ _ us hl => match us, hl with | [_, _, _, _], _ => rfl) (fun _ _ F => ok_played F c_House c_answer)
  have c__law_number : C8.Cal l.prog w K mg base 1 "_law_number" sp_number [] := g__law_number.cal X G (fun _ _ F => F.binds (ps := ["_law_word"]) fun _ _ _ _ _ _ us hl => match us, hl with | [_], _ => rfl) (fun _ _ F => ok_lnumber F GL)
  have c__law_wants : C8.Cal l.prog w K mg base 1 "_law_wants" sp_lwants [] := g__law_wants.cal X G (fun _ _ F => F.binds (ps := ["_law_m"]) fun _ _ _ _ _ _ us hl => match us, hl with | [_], _ => rfl) (fun _ _ F => ok_lwants F GL)
  have c__law_is_sound : C8.Cal l.prog w K mg base 2 "_law_is_sound" sp_lsound [] := g__law_is_sound.cal X G (fun _ _ F => F.binds (ps := ["_law_m"]) fun _ _ _ _ _ _ us hl => match us, hl with | [_], _ => rfl) (fun _ _ F => ok_lsound F GL c__law_wants)
  have c__law_due : C8.Cal l.prog w K mg base 3 "_law_due" sp_due [] := g__law_due.cal X G (fun _ _ F => F.binds (ps := ["_law_m", "_law_text"]) fun _ _ _ _ _ _ us hl => match us, hl with | [_, _], _ => rfl) (fun _ _ F => ok_due F GL c__law_number c__law_is_sound)
  have c_HouseX : MakX l.prog w K mg base 1 "House" C (sp_initX C BadHouse) := by
    obtain ⟨f, fd, F, a, i⟩ := m___init__.ex
    exact ⟨f, fd, _, ⟨mk, a, i, kc⟩, ok_initX F GL TX X_BadHouse, PySem.W.mg_of X G aC, (fun (f : Addr) (fd : FuncData) (F : L2.Fun K "__init__" "House.__init__" s_House___init__ f fd) => F.binds (ps := ["self", "badges", "late", "lost"]) fun _ _ _ _ _ _ us hl => match us, hl with | [_, _, _, _], _ => rfl) f fd F⟩
  have c_playedX : CalX l.prog w K mg base 7 "played" (sp_playedX C BadHouse) := by
    obtain ⟨f, fd, F, a⟩ := g_played.ex
    exact ⟨f, fd, _, ok_playedX F c_HouseX, PySem.W.mg_of X G a, F.kp, (fun (f : Addr) (fd : FuncData) (F : L2.Fun K "played" "played" s_played f fd) => F.binds (ps := ["badges", "late", "lost", "book"]) fun _ _ _ _ _ _ us hl => match us, hl with | [_, _, _, _], _ => rfl) f fd F⟩
  have c__law_refused : C8.Cal l.prog w K mg base 8 "_law_refused" sp_refused11 [] := g__law_refused.cal X G (fun _ _ F => F.binds (ps := ["_law_badges", "_law_late", "_law_lost"]) fun _ _ _ _ _ _ us hl => match us, hl with | [_, _, _], _ => rfl) (fun _ _ F => ok_refused11 F GL X_BadHouse GX_BadHouse c_playedX)
  have c_rows : C8.Met l.prog w K mg base 1 C "rows" (sp_rows C) [] := m_rows.met TX.cl (fun _ _ F => F.binds (ps := ["self"]) fun _ _ _ _ _ _ us hl => match us, hl with | [_], _ => rfl) (fun _ _ F => ok_rows F GL TX)
  have c_time : C8.Met l.prog w K mg base 1 C "time" (sp_time C) [] := m_time.met TX.cl (fun _ _ F => F.binds (ps := ["self"]) fun _ _ _ _ _ _ us hl => match us, hl with | [_], _ => rfl) (fun _ _ F => ok_time F TX)
  have c__law_alike : C8.Cal l.prog w K mg base 4 "_law_alike" (sp_alike 3) [] := by
    obtain ⟨f, fd, F, a⟩ := g__law_alike.ex
    have b := (fun (f : Addr) (fd : FuncData) (F : L2.Fun K "_law_alike" "_law_alike" s__law_alike f fd) => F.binds (ps := ["_law_found", "_law_due_here"]) fun _ _ _ _ _ _ us hl => match us, hl with | [_, _], _ => rfl) f fd F
    exact ⟨f, fd, _, [], ok_alike F GL (PySem.W.mg_of X G a) b 3, PySem.W.mg_of X G a, F.kp, b, .nil⟩
  exact ok_law F GL TX GH c__law_taken c__law_fresh c__law_deeds c__law_spoilt c_played c__law_due c__law_refused c_rows c_time c_broken c__law_alike
theorem walk {l : PySem.W.OpenLaw} {q : Program} {loose : List Str} {XP : (Str → Option Value) → Heap → Prop} {YP : World → Heap → Prop} {d : DefRec} {K : Params → PySem.W.Frag} (hn : l.most = some 63) (hdf : d.params.defaults = [])
    (hY : ∀ (w : World) (h : Heap), YP w h → (K w.params).In h)
    (F : ∀ (w : World) (mg : Str → Option Value) (fa : Addr) (h : Heap), (K w.params).In h → h.Ns mainGlobals mg → mg d.name = some (.ref fa) →
      ∃ fd : FuncData, (∀ (s : Shared) (u : Value), BindsTo s fd ⟨[u], []⟩ [("_law_script", u)]) ∧ ∀ base : Heap, (K w.params).In base → base.Ns mainGlobals mg → FnOk l.prog w (K w.params) mg base CX0 9 fa fd ["_law_script"] (sp_law (K w.params))) :
    PySem.W.WalkO q loose XP YP l.row.toRowW d [] (fun f vs => PySem.call f vs) :=
  L2.walk_of (n := 63) (k := 9) (x := "_law_script") (CX := fun _ => CX0) (sp := fun w => sp_law (K w.params)) hn (by decide) hdf ⟨rfl, by decide, by decide⟩ hY F (fun _ _ a ns hl _ hS => ⟨a, ns, rfl, hS, hl, fun _ => rfl⟩) fun _ _ _ _ _ z => z
end IC
open PySem PySem.W PyProof.Rows
set_option maxRecDepth 100000 in
set_option maxHeartbeats 0 in
theorem PySem.Challenge.cw_insidecount_k11_books_holds : PySem.Challenge.rw_insidecount_k11_books.Holds := by
  w_on; o_law; k_head; (case hw => w_witness2)
  k_fill
  refine IC.walk (l := PySem.Challenge.rw_insidecount_k11_books) rfl rfl (fun w h Y => PySem.W.kIn_of Y) ?F
  case F =>
    intro w mg fa h KX G hmg
    refine' IC.all_mk KX G hmg
      ?z1
      ?z2
      ?z3
      ?z4
      ?z5
      ?z6
      ?z7
      ?z8
      ?z9
      ?z10
      ?z11
      ?z12
      ?z13
      ?z14
      ?z15
      ?z16
      ?z17
      ?z18
      ?z19
      ?z20
      ?z21
      ?z22
      ?z23
      ?z24
      ?z25
      ?z26
      ?z27
      ?z28
      ?z29
      ?z30
      ?z31
      ?z32
      ?z33
      ?z34
      ?z35
      ?z36
      ?z37
      ?z38
      ?z39
      ?z40
      ?z41
      ?z42
      ?z43
      ?z44
      ?z45
      ?z46
      ?z47
      ?z48
      ?z49
      ?z50
      ?z51
      ⟨?z52, ?z53, ?z54, ?z55, ?z56, ?z57, ?z58, ?z59⟩
      ?z60
      ?z61
      ?z62
      ?z63
      ?z64
      ?z65
      ?z66
      ?z67
      ⟨?z68, ?z69, ?z70, ?z71, ?z72, ?z73, ?z74, ?z75⟩
      ?z76
      ?z77
      ?z78
      ?z79
      ?z80
      ?z81
      ?z82
      ?z83
      ⟨?z84, ?z85, ?z86, ?z87, ?z88, ?z89, ?z90, ?z91⟩
      ?z92
      ?z93
      ?z94
      ?z95
      ?z96
      ?z97
      ?z98
      ?z99
      ?z100
      ?z101
      ?z102
      (IC.mkG ?z103 ?z104 ?z105 ?z106)
      (IC.mkG ?z107 ?z108 ?z109 ?z110)
      (IC.mkG ?z111 ?z112 ?z113 ?z114)
      (IC.mkG ?z115 ?z116 ?z117 ?z118)
      (IC.mkM ?z119 ?z120 ?z121 ?z122 ?z123)
      (IC.mkG ?z124 ?z125 ?z126 ?z127)
      (IC.mkM ?z128 ?z129 ?z130 ?z131 ?z132)
      (IC.mkM ?z133 ?z134 ?z135 ?z136 ?z137)
      (IC.mkG ?z138 ?z139 ?z140 ?z141)
      (IC.mkG ?z142 ?z143 ?z144 ?z145)
      (IC.mkG ?z146 ?z147 ?z148 ?z149)
      (IC.mkG ?z150 ?z151 ?z152 ?z153)
      (IC.mkM ?z154 ?z155 ?z156 ?z157 ?z158)
      (IC.mkM ?z159 ?z160 ?z161 ?z162 ?z163)
      (IC.mkM ?z164 ?z165 ?z166 ?z167 ?z168)
      (IC.mkG ?z169 ?z170 ?z171 ?z172)
      (IC.mkG ?z173 ?z174 ?z175 ?z176)
      (IC.mkG ?z177 ?z178 ?z179 ?z180)
      (IC.mkG ?z181 ?z182 ?z183 ?z184)
      (IC.mkG ?z185 ?z186 ?z187 ?z188)
      (IC.mkG ?z189 ?z190 ?z191 ?z192)
      (IC.mkG ?z193 ?z194 ?z195 ?z196)
      (IC.mkM ?z197 ?z198 ?z199 ?z200 ?z201)
      (IC.mkM ?z202 ?z203 ?z204 ?z205 ?z206)
      (IC.mkG ?z207 ?z208 ?z209 ?z210)
      (IC.mkG ?z211 ?z212 ?z213 ?z214)
    (case z1 => k_is)
    (case z2 => k_is)
    (case z3 => k_is)
    (case z4 => k_is)
    (case z5 => k_is)
    (case z6 => k_is)
    (case z7 => k_is)
    (case z8 => k_is)
    (case z9 => k_is)
    (case z10 => k_is)
    (case z11 => k_is)
    (case z12 => k_is)
    (case z13 => k_is)
    (case z14 => k_is)
    (case z15 => k_is)
    (case z16 => exact ⟨_, rfl⟩)
    (case z17 => k_is)
    (case z18 => exact ⟨_, rfl⟩)
    (case z19 => k_is)
    (case z20 => exact ⟨_, rfl⟩)
    (case z21 => k_is)
    (case z22 => exact ⟨_, rfl⟩)
    (case z23 => k_is)
    (case z24 => k_is)
    (case z25 => exact ⟨⟨_, _, rfl, rfl⟩, ⟨⟨_, _, rfl, rfl⟩, trivial⟩⟩)
    (case z26 => decide)
    (case z27 => k_is)
    (case z28 => exact ⟨_, rfl⟩)
    (case z29 => k_is)
    (case z30 => exact ⟨_, rfl⟩)
    (case z31 => k_is)
    (case z32 => k_is)
    (case z33 => k_is)
    (case z34 => k_is)
    (case z35 => k_is)
    (case z36 => k_is)
    (case z37 => k_is)
    (case z38 => k_is)
    (case z39 => k_is)
    (case z40 => k_is)
    (case z41 => k_is)
    (case z42 => k_is)
    (case z43 => k_is)
    (case z44 => k_is)
    (case z45 => k_is)
    (case z46 => k_is)
    (case z47 => k_exc)
    (case z48 => k_is)
    (case z49 => k_is)
    (case z50 => k_is)
    (case z51 => k_is)
    (case z52 => k_is)
    (case z53 => k_is)
    (case z54 => k_is)
    (case z55 => k_is)
    (case z56 => k_is)
    (case z57 => k_is)
    (case z58 => k_is)
    (case z59 => k_is)
    (case z60 => kit_is)
    (case z61 => kit_is)
    (case z62 => k_is)
    (case z63 => k_exc)
    (case z64 => k_is)
    (case z65 => k_is)
    (case z66 => k_is)
    (case z67 => k_is)
    (case z68 => k_is)
    (case z69 => k_is)
    (case z70 => k_is)
    (case z71 => k_is)
    (case z72 => k_is)
    (case z73 => k_is)
    (case z74 => k_is)
    (case z75 => k_is)
    (case z76 => kit_is)
    (case z77 => kit_is)
    (case z78 => k_is)
    (case z79 => k_exc)
    (case z80 => k_is)
    (case z81 => k_is)
    (case z82 => k_is)
    (case z83 => k_is)
    (case z84 => k_is)
    (case z85 => k_is)
    (case z86 => k_is)
    (case z87 => k_is)
    (case z88 => k_is)
    (case z89 => k_is)
    (case z90 => k_is)
    (case z91 => k_is)
    (case z92 => kit_is)
    (case z93 => kit_is)
    (case z94 => k_is)
    (case z95 => k_is)
    (case z96 => exact ⟨_, rfl⟩)
    (case z97 => exact ⟨⟨_, _, rfl, .inl rfl⟩, ⟨_, _, rfl, .inr rfl⟩, trivial⟩)
    (case z98 => k_is)
    (case z99 => k_is)
    (case z100 => k_is)
    (case z101 => k_is)
    (case z102 => kit_is)
    (case z103 => k_is)
    (case z104 => k_is)
    (case z105 => k_is)
    (case z106 => k_is)
    (case z107 => k_is)
    (case z108 => k_is)
    (case z109 => k_is)
    (case z110 => k_is)
    (case z111 => k_is)
    (case z112 => k_is)
    (case z113 => k_is)
    (case z114 => k_is)
    (case z115 => k_is)
    (case z116 => k_is)
    (case z117 => k_is)
    (case z118 => k_is)
    (case z119 => k_is)
    (case z120 => k_is)
    (case z121 => k_is)
    (case z122 => k_is)
    (case z123 => k_is)
    (case z124 => k_is)
    (case z125 => k_is)
    (case z126 => k_is)
    (case z127 => k_is)
    (case z128 => k_is)
    (case z129 => k_is)
    (case z130 => k_is)
    (case z131 => k_is)
    (case z132 => k_is)
    (case z133 => k_is)
    (case z134 => k_is)
    (case z135 => k_is)
    (case z136 => k_is)
    (case z137 => k_is)
    (case z138 => k_is)
    (case z139 => k_is)
    (case z140 => k_is)
    (case z141 => k_is)
    (case z142 => k_is)
    (case z143 => k_is)
    (case z144 => k_is)
    (case z145 => k_is)
    (case z146 => k_is)
    (case z147 => k_is)
    (case z148 => k_is)
    (case z149 => k_is)
    (case z150 => k_is)
    (case z151 => k_is)
    (case z152 => k_is)
    (case z153 => k_is)
    (case z154 => k_is)
    (case z155 => k_is)
    (case z156 => k_is)
    (case z157 => k_is)
    (case z158 => k_is)
    (case z159 => k_is)
    (case z160 => k_is)
    (case z161 => k_is)
    (case z162 => k_is)
    (case z163 => k_is)
    (case z164 => k_is)
    (case z165 => k_is)
    (case z166 => k_is)
    (case z167 => k_is)
    (case z168 => k_is)
    (case z169 => k_is)
    (case z170 => k_is)
    (case z171 => k_is)
    (case z172 => k_is)
    (case z173 => k_is)
    (case z174 => k_is)
    (case z175 => k_is)
    (case z176 => k_is)
    (case z177 => k_is)
    (case z178 => k_is)
    (case z179 => k_is)
    (case z180 => k_is)
    (case z181 => k_is)
    (case z182 => k_is)
    (case z183 => k_is)
    (case z184 => k_is)
    (case z185 => k_is)
    (case z186 => k_is)
    (case z187 => k_is)
    (case z188 => k_is)
    (case z189 => k_is)
    (case z190 => k_is)
    (case z191 => k_is)
    (case z192 => k_is)
    (case z193 => k_is)
    (case z194 => k_is)
    (case z195 => k_is)
    (case z196 => k_is)
    (case z197 => k_is)
    (case z198 => k_is)
    (case z199 => k_is)
    (case z200 => k_is)
    (case z201 => k_is)
    (case z202 => k_is)
    (case z203 => k_is)
    (case z204 => k_is)
    (case z205 => k_is)
    (case z206 => k_is)
    (case z207 => k_is)
    (case z208 => k_is)
    (case z209 => k_is)
    (case z210 => k_is)
    (case z211 => k_is)
    (case z212 => k_is)
    (case z213 => k_is)
    (case z214 => k_is)
